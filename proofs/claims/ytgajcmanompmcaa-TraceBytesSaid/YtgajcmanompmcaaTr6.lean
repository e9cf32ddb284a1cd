/- Tr6: walks through functions of the program, by the calculus; written by a program of this workplace. -/
import Derived.Test.YtgajcmanompmcaaTr5
import Derived.Test.YtgajcmanompmcaaVm5
namespace Go.Proofs.Ytgajcmanompmcaa.Vt
open Go Go.Proofs Go.Proofs.YtgajcmanompmcaaV
set_option maxRecDepth 100000
set_option linter.unusedVariables false
set_option linter.unusedSimpArgs false
def cutA (x : Act) : Act := ⟨x.what, x.host, x.a, x.b, x.c, x.d, x.e, x.f, x.s.extract 0 (min x.s.size 30)⟩
def fine (l : List Act) : List Act := l.filter fun x => decide (MayA x)
theorem cutLen {l : List Act} {i : Nat} (h : i ≤ l.length) : ((l.take i).map cutA).length = i := by rw [List.length_map, List.length_take]; omega
theorem cut_take {l : List Act} {i : Nat} (h : i < l.length) : (l.take (i + 1)).map cutA = (l.take i).map cutA ++ [cutA (l.getD i dAct)] := by rw [← take_snoc (d0 := dAct) h, List.map_append]; rfl
theorem cut_snoc {l : List Act} {i : Nat} (h : i < l.length) : ((l.take i).map cutA).map cAct ++ [cAct (cutA (l.getD i dAct))] = ((l.take (i + 1)).map cutA).map cAct := by rw [cut_take h, List.map_append]; rfl
theorem fine_T {l : List Act} {i : Nat} (h : i < l.length) (hm : MayA (cutA (l.getD i dAct))) : fine ((l.take (i + 1)).map cutA) = fine ((l.take i).map cutA) ++ [cutA (l.getD i dAct)] := by
  unfold fine; rw [cut_take h, List.filter_append, List.filter_cons_of_pos (p := fun x => decide (MayA x)) (decide_eq_true hm)]; rfl
theorem fine_F {l : List Act} {i : Nat} (h : i < l.length) (hm : ¬ MayA (cutA (l.getD i dAct))) : fine ((l.take (i + 1)).map cutA) = fine ((l.take i).map cutA) := by
  unfold fine; rw [cut_take h, List.filter_append, List.filter_cons_of_neg (p := fun x => decide (MayA x)) (by rw [decide_eq_false hm]; decide)]; simp
theorem fine_snoc {l : List Act} {i : Nat} (h : i < l.length) (hm : MayA (cutA (l.getD i dAct))) : (fine ((l.take i).map cutA)).map cAct ++ [cAct (cutA (l.getD i dAct))] = (fine ((l.take (i + 1)).map cutA)).map cAct := by rw [fine_T h hm, List.map_append]; rfl
theorem putsL_app (a b : List Act) : putsL (a ++ b) = putsL a ++ putsL b := by unfold putsL; rw [List.flatMap_append]
theorem wT {l : List Act} {i : Nat} (h : i < l.length) (hm : MayA (cutA (l.getD i dAct))) : bstr (putsL ((l.take i).map cutA)) ++ bstr (actL (cutA (l.getD i dAct))) = bstr (putsL ((l.take (i + 1)).map cutA)) := by
  apply L_ext; rw [L_append, L_bstr, L_bstr, L_bstr, cut_take h, putsL_app]
  simp only [putsL, List.flatMap_cons, List.flatMap_nil, List.append_nil]
  rw [actF_t hm, L_bstr]
theorem wF {l : List Act} {i : Nat} (h : i < l.length) (hm : ¬ MayA (cutA (l.getD i dAct))) : bstr (putsL ((l.take i).map cutA)) ++ ByteArray.mk #[] = bstr (putsL ((l.take (i + 1)).map cutA)) := by
  apply L_ext; rw [L_append, L_bstr, L_bstr, cut_take h, putsL_app]
  simp only [putsL, List.flatMap_cons, List.flatMap_nil, List.append_nil]
  rw [actF_f hm]
theorem cut_sz (x : Act) : (cutA x).s.size ≤ 30 := by unfold cutA; simp only; rw [ByteArray.size_extract]; omega
theorem actF_61 (x : Act) : (actF (cutA x)).size ≤ 61 := by
  by_cases h : MayA (cutA x)
  · rw [actF_t h, bstr_size, actL_len]; have := cut_sz x; omega
  · rw [actF_f h]; exact Nat.zero_le _
theorem puts_61 (l : List Act) : (putsL (l.map cutA)).length ≤ l.length * 61 := by
  induction l with
  | nil => exact Nat.zero_le _
  | cons x l ih =>
    have h := actF_61 x
    show (L (actF (cutA x)) ++ putsL (l.map cutA)).length ≤ _
    rw [List.length_append, L_len, List.length_cons]; omega
theorem puts_sz {l : List Act} {i : Nat} (h : i ≤ 30) : (bstr (putsL ((l.take i).map cutA))).size ≤ 1830 := by
  rw [bstr_size]
  have := puts_61 (l.take i)
  rw [List.length_take] at this
  have : min i l.length * 61 ≤ 30 * 61 := Nat.mul_le_mul_right _ (by omega)
  omega
theorem actL_ne {x : Act} : ¬ bstr (actL x) = ByteArray.mk #[] := by
  intro h
  have := congrArg ByteArray.size h
  rw [bstr_size, actL_len] at this
  have h2 : (ByteArray.mk #[]).size = 0 := rfl
  omega
theorem puts_fine (l : List Act) : putsL l = putsL (fine l) := by
  induction l with
  | nil => rfl
  | cons x l ih =>
    unfold fine at *
    by_cases h : MayA x
    · rw [List.filter_cons_of_pos (p := fun x => decide (MayA x)) (decide_eq_true h)]
      show L (actF x) ++ putsL l = L (actF x) ++ _
      rw [ih]; rfl
    · rw [List.filter_cons_of_neg (p := fun x => decide (MayA x)) (by rw [decide_eq_false h]; decide)]
      show L (actF x) ++ putsL l = _
      rw [actF_f h, ← ih]; rfl
theorem fine_may {l : List Act} : ∀ x ∈ fine l, MayA x := fun x hx => by
  unfold fine at hx; rw [List.mem_filter] at hx; exact of_decide_eq_true hx.2
theorem take_be {a b : List UInt8} {k : Nat} (h : a.length = k) : (a ++ b).take k = a := by rw [List.take_append_of_le_length (by omega), List.take_of_length_le (by omega)]
theorem w32_of {s : ByteArray} {q : Nat} {x : BitVec 32} {r : List UInt8} (h : (L s).drop q = be4 x ++ r) : w32 s q = x := by
  have e : at_ s q 4 = x.toNat := by rw [at_, h, take_be (be4_len x), beN_be4]
  rw [w32, e]; simp
theorem dr {s : ByteArray} {p k : Nat} {a r : List UInt8} (h : (L s).drop p = a ++ r) (hk : a.length = k) : (L s).drop (p + k) = r := by
  rw [← List.drop_drop, h, List.drop_append_of_le_length (by omega), List.drop_of_length_le (by omega), List.nil_append]
theorem sgn_of {x : Int} (h : sm x) : (BitVec.ofInt 32 x).toInt = x := h.symm
theorem rd_of {s : ByteArray} {p : Nat} {x : Act} {r : List UInt8} (hm : MayA x) (h : (L s).drop p = actL x ++ r) (hp : p ≤ s.size) : vld s p ∧ rdA s p = x ∧ (L s).drop (nx s p) = r ∧ nx s p ≤ s.size ∧ p < nx s p := by
  obtain ⟨m1, m2, m3, m4, m5, m6, m7, m8, m9, m10⟩ := id hm
  simp only [actL, List.append_assoc] at h
  have hlen : s.size - p = 31 + x.s.size + r.length := by
    have := congrArg List.length h
    simp only [List.length_drop, L_len, List.length_append, be4_len, be2_len, List.length_cons, List.length_nil] at this
    omega
  have d1 := dr h (k := 1) rfl
  have d5 := dr d1 (k := 4) rfl
  have d9 := dr d5 (k := 4) rfl
  have d13 := dr d9 (k := 4) rfl
  have d17 := dr d13 (k := 4) rfl
  have d21 := dr d17 (k := 4) rfl
  have d25 := dr d21 (k := 4) rfl
  have d29 := dr d25 (k := 4) rfl
  have d31 := dr d29 (k := 2) rfl
  have dl := dr d31 (k := x.s.size) (L_len _)
  simp only [Nat.add_assoc, Nat.reduceAdd] at d1 d5 d9 d13 d17 d21 d25 d29 d31 dl
  have e29 : at_ s (p + 29) 2 = x.s.size := by rw [at_, d29, take_be (be2_len _), beN_be2 _ (by omega)]
  have e0 : at_ s p 1 = x.what.toNat := by
    rw [at_, h, take_be (k := 1) rfl]
    show 0 * 256 + (UInt8.ofNat x.what.toNat).toNat = _
    rw [UInt8.toNat_ofNat']; omega
  have hnx : nx s p = p + (31 + x.s.size) := by unfold nx; rw [e29]; omega
  refine ⟨⟨by omega, by rw [e29]; omega⟩, ?_, by rw [hnx]; exact dl, by omega, by omega⟩
  have es : s.extract (p + 31) (nx s p) = x.s := by
    apply L_ext
    rw [L_extract, d31, hnx, take_be]
    rw [L_len]; omega
  unfold rdA
  rw [w32_of d1, w32_of d5, w32_of d9, w32_of d13, w32_of d17, w32_of d21, w32_of d25, sgn_of m1, sgn_of m2, sgn_of m3, sgn_of m4, sgn_of m5, sgn_of m6, sgn_of m7, es, e0, Int.toNat_of_nonneg m8]
theorem tr_of {s : ByteArray} : ∀ (F : List Act) (K p : Nat), (∀ x ∈ F, MayA x) → (L s).drop p = putsL F → p ≤ s.size → s.size ≤ K + p → trN s K p = some F
  | [], K, p, _, h, hp, hK => by
    have h1 : s.size - p = 0 := by have := congrArg List.length h; rw [List.length_drop, L_len] at this; exact this
    have e : p = s.size := by omega
    subst e
    cases K <;> simp [trN]
  | x :: F, K, p, hm, h, hp, hK => by
    have hx := hm x (List.mem_cons_self ..)
    have h' : (L s).drop p = actL x ++ putsL F := by rw [h]; show L (actF x) ++ putsL F = _; rw [actF_t hx, L_bstr]
    obtain ⟨hv, e1, e2, e3, e4⟩ := rd_of hx h' hp
    cases K with
    | zero => omega
    | succ K => rw [trN, if_neg (by omega), if_pos hv, tr_of F K _ (fun y hy => hm y (List.mem_cons_of_mem _ hy)) e2 e3 (by omega), e1]; rfl
theorem tr_puts (l : List Act) : trN (bstr (putsL l)) (bstr (putsL l)).size 0 = some (fine l) := tr_of _ _ _ fine_may (by rw [List.drop_zero, L_bstr]; exact puts_fine l) (Nat.zero_le _) (Nat.le_refl _)
theorem fine_nil {l : List Act} (h : (bstr (putsL l)).size = 0) : (fine l).length = 0 := by
  have h2 := tr_len _ _ _ (tr_puts l) (Nat.zero_le _)
  omega
abbrev xTr61 (l : List Act) (i : Nat) : List Value := [(.int .i64 (cutA (l.getD i dAct)).what), (.int .i64 (cutA (l.getD i dAct)).host), (.int .i64 (cutA (l.getD i dAct)).a), (.int .i64 (cutA (l.getD i dAct)).b), (.int .i64 (cutA (l.getD i dAct)).c), (.int .i64 (cutA (l.getD i dAct)).d), (.int .i64 (cutA (l.getD i dAct)).e), (.int .i64 (cutA (l.getD i dAct)).f), (.string (cutA (l.getD i dAct)).s)]
abbrev xTr62 (l : List Act) (i : Nat) : List Value := [(.int .i64 (l.getD i dAct).what), (.int .i64 (l.getD i dAct).host), (.int .i64 (l.getD i dAct).a), (.int .i64 (l.getD i dAct).b), (.int .i64 (l.getD i dAct).c), (.int .i64 (l.getD i dAct).d), (.int .i64 (l.getD i dAct).e), (.int .i64 (l.getD i dAct).f), (.string ((l.getD i dAct).s.extract 0 (min (l.getD i dAct).s.size 30)))]
abbrev xTr63 : List Value := [(.int .i64 0), (.int .i64 0), (.int .i64 0), (.int .i64 0), (.int .i64 0), (.int .i64 0), (.int .i64 0), (.int .i64 0), (.string ByteArray.empty)]
set_option maxHeartbeats 4000000 in
theorem tBytes {n : Nat} {σ : Store} (hd : Dom n σ) (hn0 : 0 < n) (v : Value) (l : List Act) (hv : RowP σ 24 9 v (l.map cAct))   : CQ Try.prog noDen 3 [v] n σ (fun v n' d => v = .bool true) := by
 have rlv := hv.lt hd hn0
 refine CQ.body (E := env) env_ok hd rfl rfl (by show _ ≤ _; exact of_decide_eq_true (by kernel_rfl)) ?_
 refine RA.seq hd ?_
 refine RA.region env_ok ?_
 refine OA.p (some 2) (.bool false) rfl rfl rfl rfl ?_
 refine OA.nil ?_
 intro _
 refine RA.seq hd ?_
 refine RA.region env_ok ?_
 refine OA.op1 (dst := (some 12)) (v := (.slice (some ⟨n, 0, none⟩) 0 0)) (n1 := (n + 1)) (w := (n, some (oAct ([] : List Act)))) rfl rfl rfl (by kernel_rfl) (by omega) ?_
 refine OA.op1 (dst := (some 13)) (v := (.slice (some ⟨(n + 1), 0, none⟩) 0 0)) (n1 := (n + 2)) (w := ((n + 1), some (oAct ([] : List Act)))) rfl rfl rfl (by kernel_rfl) (by omega) ?_
 refine OA.p (some 3) (.slice (some ⟨n, 0, none⟩) 0 0) rfl rfl rfl rfl ?_
 refine OA.p (some 4) (.string (ByteArray.mk #[])) rfl rfl rfl rfl ?_
 refine OA.p (some 5) (.slice (some ⟨(n + 1), 0, none⟩) 0 0) rfl rfl rfl rfl ?_
 refine OA.nil ?_
 intro _
 refine RA.seq hd ?_
 refine RA.seq hd ?_
 refine RA.region env_ok ?_
 refine OA.p (some 6) (.int .i64 0) rfl rfl rfl rfl ?_
 refine OA.nil ?_
 intro _
 refine RA.block ?_
 refine RA.weaken (D' := [(n, some (oAct ([] : List Act))), ((n + 1), some (oAct ([] : List Act)))]) hd (Less.of (fac (mm (fun _ => get_here) (fun _ => (get_there (by omega) get_here))) (fac (mm (fun _ => (get_there (by omega) get_here)) (fun _ => get_here)) fan)) (gone_of (by simp only [goneP, memP, List.cons_append, List.nil_append, true_or, or_true, true_and, and_true, or_false] <;> omega))) ?_
 refine RA.loop hd (fun kk_ τ n' D => (∃ i : Nat, ∃ j : Nat, ∃ jf : Nat, ∃ M : Nat, kk_ = (30 - i) ∧ (n + 2) ≤ n' ∧ Has τ [(0, v), (3, (.slice (some ⟨j, 0, none⟩) i 0)), (4, (.string (bstr (putsL ((l.take i).map cutA))))), (5, (.slice (some ⟨jf, 0, none⟩) M 0)), (6, (.int .i64 ((i : Nat) : Int)))] ∧ D = [(j, some (oAct ((l.take i).map cutA))), (jf, some (oAct (fine ((l.take i).map cutA))))] ∧ (∀ i ∈ keys D, i < n') ∧ i ≤ l.length ∧ i ≤ 30 ∧ n ≤ j ∧ n ≤ jf ∧ j ≠ jf ∧ M ≤ i ∧ (fine ((l.take i).map cutA)).length = M)) ((30 - 0)) (⟨0, n, (n + 1), 0, rfl, by omega, ⟨rfl, rfl, rfl, rfl, rfl, trivial⟩, rfl, (kb2 (by omega)), ⟨by omega, by omega, by omega, by omega, by omega, by omega, by rfl⟩⟩) ?_
 rintro kn1 τ1 n1 _ ⟨i, j, jf, M, rfl, hn1, hHn1, rfl, hKn1, hIn1⟩
 rw [Has.eq hHn1]
 have hKn1_0 : j < n1 := hKn1 _ (by simp only [keys, List.map_cons, List.map_nil, List.mem_cons, true_or, or_true])
 have hKn1_1 : jf < n1 := hKn1 _ (by simp only [keys, List.map_cons, List.map_nil, List.mem_cons, true_or, or_true])
 clear hKn1
 obtain ⟨hi1, hi2, hj1, hj2, hjj, hMi, hM⟩ := hIn1
 refine RA.seq hd ?_
 refine RA.seq hd ?_
 refine RA.region env_ok ?_
 refine OA.p (some 14) (.int .i64 ((i : Nat) : Int)) rfl rfl rfl rfl ?_
 refine OA.p (some 15) v rfl rfl rfl rfl ?_
 refine OA.p (some 16) (.int .i64 ((l.length : Nat) : Int)) rfl rfl rfl (r_lenP (c := cAct) rfl rfl rfl rfl rfl rfl hv rfl) ?_
 by_cases hc1 : ((i : Nat) : Int) < ((l.length : Nat) : Int)
 ·
  obtain ⟨rest, hat⟩ := hv.get (m := i) (by omega)
  have lathat := hd.lt hat
  refine OA.p (some 17) (.bool true) rfl rfl rfl (Eq.trans (r_bin rfl rfl rfl (b_lss rfl)) (dT hc1)) ?_
  refine OA.p (some 18) (.bool true) rfl rfl rfl rfl ?_
  refine OA.p (some 19) (.int .i64 ((i : Nat) : Int)) rfl rfl rfl rfl ?_
  by_cases hc2 : ((i : Nat) : Int) < 30
  ·
   refine OA.p (some 20) (.bool true) rfl rfl rfl (Eq.trans (r_bin rfl rfl rfl (b_lss rfl)) (dT hc2)) ?_
   refine OA.p (some 21) (.bool true) rfl rfl rfl rfl ?_
   refine OA.nil ?_
   intro _
   refine RA.condT rfl ?_
   refine RA.skip env_ok ?_
   intro _
   refine RA.seq hd ?_
   refine RA.block ?_
   refine RA.seq hd ?_
   refine RA.region env_ok ?_
   refine OA.p (some 24) v rfl rfl rfl rfl ?_
   refine OA.p (some 25) (.int .i64 ((i : Nat) : Int)) rfl rfl rfl rfl ?_
   refine OA.p (some 26) (.pointer (some ⟨(rk v), i, some 0⟩)) rfl rfl rfl (r_iaP (c := cAct) (m := i) rfl rfl rfl rfl rfl rfl hv rfl (by omega) (gt2 (by omega) hat) rfl) ?_
   refine OA.p (some 27) (.agg ⟨(cAct (l.getD i dAct))⟩) rfl rfl rfl (r_loadA (e := cAct (l.getD i dAct)) rfl rfl rfl rfl (gt2 (by omega) hat) (mp_getA (by omega)) rfl rfl) ?_
   refine OA.op1 (dst := (some 7)) (v := (Pt n1 0 0)) (n1 := (n1 + 1)) (w := (n1, some ⟨[xTr63], 9, 24, true⟩)) rfl rfl rfl rfl (by omega) ?_
   refine OA.op1 (dst := none) (v := (.tuple #[])) (n1 := (n1 + 1)) (w := (n1, some ⟨[(cAct (l.getD i dAct))], 9, 24, true⟩)) rfl rfl rfl (r_store rfl rfl rfl rfl rfl rfl rfl get_here rfl rfl (Nat.le_of_ble_eq_true rfl) rfl) (by omega) ?_
   refine OA.nil ?_
   intro _
   refine RA.seq hd ?_
   refine RA.par (md := [some [], some [], none, some [], none, some [], some [], none, some [], none, some [], some [], some [], some [], none]) env_ok (hd.of (by omega) (kb4 (by omega))) (by kernel_rfl) ?_
   refine PQ.pure (dst := (some 28)) (v := v) rfl rfl rfl noStore (none_ok _ _) rfl ?_
   refine PQ.pure (dst := (some 29)) (v := (.int .i64 ((i : Nat) : Int))) rfl rfl rfl noStore (none_ok _ _) rfl ?_
   refine PQ.pure (dst := (some 30)) (v := (.pointer (some ⟨(rk v), i, some 0⟩))) rfl rfl rfl _ (seen_any (V := []) (D := [(n1, some ⟨[(cAct (l.getD i dAct))], 9, 24, true⟩), (n1, some ⟨[xTr63], 9, 24, true⟩), (j, some (oAct ((l.take i).map cutA))), (jf, some (oAct (fine ((l.take i).map cutA))))]) (by kernel_rfl)) (r_iaP (c := cAct) (m := i) rfl rfl rfl rfl rfl rfl hv rfl (by omega) (gt4 (by omega) hat) rfl) ?_
   refine PQ.pure (dst := (some 31)) (v := (.pointer (some ⟨(rk v), i, some 8⟩))) rfl rfl rfl noStore (none_ok _ _) rfl ?_
   refine PQ.pure (dst := (some 32)) (v := (.string (l.getD i dAct).s)) rfl rfl rfl _ (seen_any (V := []) (D := [(n1, some ⟨[(cAct (l.getD i dAct))], 9, 24, true⟩), (n1, some ⟨[xTr63], 9, 24, true⟩), (j, some (oAct ((l.take i).map cutA))), (jf, some (oAct (fine ((l.take i).map cutA))))]) (by kernel_rfl)) (r_load1 (e := cAct (l.getD i dAct)) rfl rfl rfl rfl rfl (gt4 (by omega) hat) (mp_getA (by omega)) rfl) ?_
   refine PQ.pure (dst := (some 33)) (v := v) rfl rfl rfl noStore (none_ok _ _) rfl ?_
   refine PQ.pure (dst := (some 34)) (v := (.int .i64 ((i : Nat) : Int))) rfl rfl rfl noStore (none_ok _ _) rfl ?_
   refine PQ.pure (dst := (some 35)) (v := (.pointer (some ⟨(rk v), i, some 0⟩))) rfl rfl rfl _ (seen_any (V := []) (D := [(n1, some ⟨[(cAct (l.getD i dAct))], 9, 24, true⟩), (n1, some ⟨[xTr63], 9, 24, true⟩), (j, some (oAct ((l.take i).map cutA))), (jf, some (oAct (fine ((l.take i).map cutA))))]) (by kernel_rfl)) (r_iaP (c := cAct) (m := i) rfl rfl rfl rfl rfl rfl hv rfl (by omega) (gt4 (by omega) hat) rfl) ?_
   refine PQ.pure (dst := (some 36)) (v := (.pointer (some ⟨(rk v), i, some 8⟩))) rfl rfl rfl noStore (none_ok _ _) rfl ?_
   refine PQ.pure (dst := (some 37)) (v := (.string (l.getD i dAct).s)) rfl rfl rfl _ (seen_any (V := []) (D := [(n1, some ⟨[(cAct (l.getD i dAct))], 9, 24, true⟩), (n1, some ⟨[xTr63], 9, 24, true⟩), (j, some (oAct ((l.take i).map cutA))), (jf, some (oAct (fine ((l.take i).map cutA))))]) (by kernel_rfl)) (r_load1 (e := cAct (l.getD i dAct)) rfl rfl rfl rfl rfl (gt4 (by omega) hat) (mp_getA (by omega)) rfl) ?_
   refine PQ.pure (dst := (some 38)) (v := (.int .i64 (((l.getD i dAct).s.size : Nat) : Int))) rfl rfl rfl noStore (none_ok _ _) rfl ?_
   refine PQ.pure (dst := (some 39)) (v := (.int .i64 (((min (l.getD i dAct).s.size 30) : Nat) : Int))) rfl rfl rfl noStore (none_ok _ _) (r_min (a := (l.getD i dAct).s.size) (b := 30) rfl rfl rfl) ?_
   refine PQ.pure (dst := (some 40)) (v := (.string ((l.getD i dAct).s.extract 0 (min (l.getD i dAct).s.size 30)))) rfl rfl rfl noStore (none_ok _ _) (r_cut (a := 0) (b := (min (l.getD i dAct).s.size 30)) rfl rfl (fun _ => rfl) (fun _ => rfl) rfl rfl rfl bound_nat (by omega) (by omega) rfl) ?_
   refine PQ.pure (dst := (some 41)) (v := (Pt n1 0 8)) rfl rfl rfl noStore (none_ok _ _) rfl ?_
   refine PQ.op (dst := none) (v := (.tuple #[])) (n1 := (n1 + 1)) (d1 := [(n1, some ⟨[(xTr62 l i)], 9, 24, true⟩)]) rfl rfl rfl _ (seen_any (V := []) (D := [(n1, some ⟨[(cAct (l.getD i dAct))], 9, 24, true⟩), (n1, some ⟨[xTr63], 9, 24, true⟩), (j, some (oAct ((l.take i).map cutA))), (jf, some (oAct (fine ((l.take i).map cutA))))]) (by kernel_rfl)) (r_store rfl rfl rfl rfl rfl rfl rfl get_here rfl rfl (Nat.le_of_ble_eq_true rfl) rfl) (by omega) (kp1 (wr_tight (by kernel_rfl) (by omega))) ?_
   refine PQ.done (d := [(n1, some ⟨[(xTr62 l i)], 9, 24, true⟩)]) (by kernel_rfl) ?_
   intro _
   refine RA.weaken (D' := [(n1, some ⟨[(xTr62 l i)], 9, 24, true⟩), (j, some (oAct ((l.take i).map cutA))), (jf, some (oAct (fine ((l.take i).map cutA))))]) hd (Less.of (fac (mm (fun _ => get_here) (fun _ => get_here)) (fac (mm (fun _ => (get_there (by omega) get_here)) (fun _ => (gt3 (by omega) get_here))) (fac (mm (fun _ => (gt2 (by omega) get_here)) (fun _ => (gt4 (by omega) get_here))) fan))) (gone_of (by simp only [goneP, memP, List.cons_append, List.nil_append, true_or, or_true, true_and, and_true, or_false] <;> omega))) ?_
   refine RA.rebase [(0, v), (3, (.slice (some ⟨j, 0, none⟩) i 0)), (4, (.string (bstr (putsL ((l.take i).map cutA))))), (5, (.slice (some ⟨jf, 0, none⟩) M 0)), (6, (.int .i64 ((i : Nat) : Int))), (7, (Pt n1 0 0)), (21, (.bool true))] ⟨rfl, rfl, rfl, rfl, rfl, rfl, rfl, trivial⟩ (fun τr2 => ?_)
   refine RA.seq hd ?_
   refine RA.region env_ok ?_
   refine OA.p (some 42) (.slice (some ⟨j, 0, none⟩) i 0) rfl rfl rfl rfl ?_
   refine OA.p (some 43) (.agg ⟨(cAct (cutA (l.getD i dAct)))⟩) rfl rfl rfl (r_loadA rfl rfl rfl rfl get_here rfl rfl rfl) ?_
   refine OA.op1 (dst := (some 44)) (v := (.slice (some ⟨(n1 + 1), 0, none⟩) 1 0)) (n1 := (n1 + 2)) (w := ((n1 + 1), some ⟨[(xTr61 l i)], 9, 24, true⟩)) rfl rfl rfl (by kernel_rfl) (by omega) ?_
   refine OA.op (dst := (some 45)) (v := (.slice (some ⟨(n1 + 2), 0, none⟩) (i + 1) 0)) (n1 := (n1 + 3)) (d1 := [((n1 + 2), some (oAct ((l.take (i + 1)).map cutA))), (j, none)]) (D' := [((n1 + 2), some (oAct ((l.take (i + 1)).map cutA))), (j, none), ((n1 + 1), some ⟨[(xTr61 l i)], 9, 24, true⟩), (n1, some ⟨[(xTr62 l i)], 9, 24, true⟩), (j, some (oAct ((l.take i).map cutA))), (jf, some (oAct (fine ((l.take i).map cutA))))]) rfl rfl rfl (r_appendR (c := cAct) (l' := ((l.take (i + 1)).map cutA)) rfl rfl rfl rfl rfl rfl rfl rfl rfl rfl (by decide) (gt2 (by omega) get_here) get_here (by rw [cutLen (by omega)]) (cut_snoc (by omega)) (by omega) (of_decide_eq_true (by kernel_rfl)) (by omega)) (by omega) rfl ?_
   refine OA.p (some 3) (.slice (some ⟨(n1 + 2), 0, none⟩) (i + 1) 0) rfl rfl rfl rfl ?_
   refine OA.nil ?_
   intro _
   refine RA.weaken (D' := [((n1 + 2), some (oAct ((l.take (i + 1)).map cutA))), (j, none), ((n1 + 1), some ⟨[(xTr61 l i)], 9, 24, true⟩), (n1, some ⟨[(xTr62 l i)], 9, 24, true⟩), (jf, some (oAct (fine ((l.take i).map cutA))))]) hd (Less.of (fac (mm (fun _ => get_here) (fun _ => get_here)) (fac (mm (fun _ => (get_there (by omega) get_here)) (fun _ => (get_there (by omega) get_here))) (fac (mm (fun _ => (gt2 (by omega) get_here)) (fun _ => (gt2 (by omega) get_here))) (fac (mm (fun _ => (gt3 (by omega) get_here)) (fun _ => (gt3 (by omega) get_here))) (fac (mm (fun _ => (gt4 (by omega) get_here)) (fun _ => (gt5 (by omega) get_here))) fan))))) (gone_of (by simp only [goneP, memP, List.cons_append, List.nil_append, true_or, or_true, true_and, and_true, or_false] <;> omega))) ?_
   refine RA.seq hd ?_
   refine RA.region env_ok ?_
   refine OA.p (some 46) (.string (bstr (putsL ((l.take i).map cutA)))) rfl rfl rfl rfl ?_
   refine OA.p (some 47) (.agg ⟨(cAct (cutA (l.getD i dAct)))⟩) rfl rfl rfl (r_loadA rfl rfl rfl rfl (gt3 (by omega) get_here) rfl rfl rfl) ?_
   by_cases hc3 : MayA (cutA (l.getD i dAct))
   ·
    refine OA.callP (dst := (some 48)) (all := [(.agg ⟨(cAct (cutA (l.getD i dAct)))⟩)]) (v := (.string (bstr (actL (cutA (l.getD i dAct)))))) (hd.of (by omega) (kb5 (by omega))) rfl rfl rfl rfl rfl rfl rfl rfl (PS.to (bBytes (cutA (l.getD i dAct)) (by have := cut_sz (l.getD i dAct); omega)) (congrArg Value.string (actF_t hc3))) ?_
    intro n3 hn3
    refine OA.p (some 49) (.string (bstr (putsL ((l.take (i + 1)).map cutA)))) rfl rfl rfl (Eq.trans (r_cat rfl rfl rfl (by have h1 := puts_sz (l := l) (i := i) (by omega); have h2 := cut_sz (l.getD i dAct); rw [bstr_size (actL _), actL_len]; omega)) (congrArg (fun z => some (Value.string z, _, [])) (wT (by omega) hc3))) ?_
    refine OA.p (some 4) (.string (bstr (putsL ((l.take (i + 1)).map cutA)))) rfl rfl rfl rfl ?_
    refine OA.nil ?_
    intro _
    refine RA.seq hd ?_
    refine RA.seq hd ?_
    refine RA.region env_ok ?_
    refine OA.p (some 50) (.agg ⟨(cAct (cutA (l.getD i dAct)))⟩) rfl rfl rfl (r_loadA rfl rfl rfl rfl (gt3 (by omega) get_here) rfl rfl rfl) ?_
    refine OA.callP (dst := (some 51)) (all := [(.agg ⟨(cAct (cutA (l.getD i dAct)))⟩)]) (v := (.string (bstr (actL (cutA (l.getD i dAct)))))) (hd.of (by omega) (kb5 (by omega))) rfl rfl rfl rfl rfl rfl rfl rfl (PS.to (bBytes (cutA (l.getD i dAct)) (by have := cut_sz (l.getD i dAct); omega)) (congrArg Value.string (actF_t hc3))) ?_
    intro n4 hn4
    refine OA.p (some 52) (.bool true) rfl rfl rfl (Eq.trans (r_neqS rfl rfl rfl) (by rw [decide_eq_false actL_ne] <;> rfl)) ?_
    refine OA.nil ?_
    intro _
    refine RA.condT rfl ?_
    refine RA.region env_ok ?_
    refine OA.p (some 53) (.slice (some ⟨jf, 0, none⟩) M 0) rfl rfl rfl rfl ?_
    refine OA.p (some 54) (.agg ⟨(cAct (cutA (l.getD i dAct)))⟩) rfl rfl rfl (r_loadA rfl rfl rfl rfl (gt3 (by omega) get_here) rfl rfl rfl) ?_
    refine OA.op1 (dst := (some 55)) (v := (.slice (some ⟨n4, 0, none⟩) 1 0)) (n1 := (n4 + 1)) (w := (n4, some ⟨[(xTr61 l i)], 9, 24, true⟩)) rfl rfl rfl (by kernel_rfl) (by omega) ?_
    refine OA.op (dst := (some 56)) (v := (.slice (some ⟨(n4 + 1), 0, none⟩) (M + 1) 0)) (n1 := (n4 + 2)) (d1 := [((n4 + 1), some (oAct (fine ((l.take (i + 1)).map cutA)))), (jf, none)]) (D' := [((n4 + 1), some (oAct (fine ((l.take (i + 1)).map cutA)))), (jf, none), (n4, some ⟨[(xTr61 l i)], 9, 24, true⟩), ((n1 + 2), some (oAct ((l.take (i + 1)).map cutA))), (j, none), ((n1 + 1), some ⟨[(xTr61 l i)], 9, 24, true⟩), (n1, some ⟨[(xTr62 l i)], 9, 24, true⟩), (jf, some (oAct (fine ((l.take i).map cutA))))]) rfl rfl rfl (r_appendR (c := cAct) (l' := (fine ((l.take (i + 1)).map cutA))) rfl rfl rfl rfl rfl rfl rfl rfl rfl rfl (by decide) (gt5 (by omega) get_here) get_here (by rw [hM]) (fine_snoc (by omega) hc3) (by omega) (of_decide_eq_true (by kernel_rfl)) (by omega)) (by omega) rfl ?_
    refine OA.p (some 5) (.slice (some ⟨(n4 + 1), 0, none⟩) (M + 1) 0) rfl rfl rfl rfl ?_
    refine OA.nil ?_
    intro _
    refine RA.weaken (D' := [((n4 + 1), some (oAct (fine ((l.take (i + 1)).map cutA)))), (jf, none), (n4, some ⟨[(xTr61 l i)], 9, 24, true⟩), ((n1 + 2), some (oAct ((l.take (i + 1)).map cutA))), (j, none), ((n1 + 1), some ⟨[(xTr61 l i)], 9, 24, true⟩), (n1, some ⟨[(xTr62 l i)], 9, 24, true⟩)]) hd (Less.of (fac (mm (fun _ => get_here) (fun _ => get_here)) (fac (mm (fun _ => (get_there (by omega) get_here)) (fun _ => (get_there (by omega) get_here))) (fac (mm (fun _ => (gt2 (by omega) get_here)) (fun _ => (gt2 (by omega) get_here))) (fac (mm (fun _ => (gt3 (by omega) get_here)) (fun _ => (gt3 (by omega) get_here))) (fac (mm (fun _ => (gt4 (by omega) get_here)) (fun _ => (gt4 (by omega) get_here))) (fac (mm (fun _ => (gt5 (by omega) get_here)) (fun _ => (gt5 (by omega) get_here))) (fac (mm (fun _ => (gt6 (by omega) get_here)) (fun _ => (gt6 (by omega) get_here))) fan))))))) (gone_of (by simp only [goneP, memP, List.cons_append, List.nil_append, true_or, or_true, true_and, and_true, or_false] <;> omega))) ?_
    refine RA.seq hd ?_
    refine RA.par (md := [some [n1], some [], some [n1], some [], some [], some [], some [n1], some [], some [n1], some [], some [], some [], some []]) env_ok (hd.of (by omega) (kb7 (by omega))) (by kernel_rfl) ?_
    refine PQ.pure (dst := (some 57)) (v := (.agg ⟨(cAct (cutA (l.getD i dAct)))⟩)) rfl rfl rfl (app [(n1, some ⟨[(xTr62 l i)], 9, 24, true⟩)] noStore) (seen_one (V := []) (D := [((n4 + 1), some (oAct (fine ((l.take (i + 1)).map cutA)))), (jf, none), (n4, some ⟨[(xTr61 l i)], 9, 24, true⟩), ((n1 + 2), some (oAct ((l.take (i + 1)).map cutA))), (j, none), ((n1 + 1), some ⟨[(xTr61 l i)], 9, 24, true⟩), (n1, some ⟨[(xTr62 l i)], 9, 24, true⟩)]) (by kernel_rfl) (gt6 (by omega) get_here)) (r_loadA rfl rfl rfl rfl get_here rfl rfl rfl) ?_
    refine PQ.callP (dst := (some 58)) (all := [(.agg ⟨(cAct (cutA (l.getD i dAct)))⟩)]) (v := (.string (bstr (actL (cutA (l.getD i dAct)))))) noStore (dom_none _) rfl rfl rfl rfl rfl rfl rfl rfl (none_ok _ _) (PS.to (tAct (cutA (l.getD i dAct))) (congrArg Value.string (actF_t hc3))) ?_
    intro n5 hn5
    refine PQ.pure (dst := (some 59)) (v := (.agg ⟨(cAct (cutA (l.getD i dAct)))⟩)) rfl rfl rfl (app [(n1, some ⟨[(xTr62 l i)], 9, 24, true⟩)] noStore) (seen_one (V := []) (D := [((n4 + 1), some (oAct (fine ((l.take (i + 1)).map cutA)))), (jf, none), (n4, some ⟨[(xTr61 l i)], 9, 24, true⟩), ((n1 + 2), some (oAct ((l.take (i + 1)).map cutA))), (j, none), ((n1 + 1), some ⟨[(xTr61 l i)], 9, 24, true⟩), (n1, some ⟨[(xTr62 l i)], 9, 24, true⟩)]) (by kernel_rfl) (gt6 (by omega) get_here)) (r_loadA rfl rfl rfl rfl get_here rfl rfl rfl) ?_
    refine PQ.callP (dst := (some 60)) (all := [(.agg ⟨(cAct (cutA (l.getD i dAct)))⟩)]) (v := (.string (bstr (actL (cutA (l.getD i dAct)))))) noStore (dom_none _) rfl rfl rfl rfl rfl rfl rfl rfl (none_ok _ _) (PS.to (bBytes (cutA (l.getD i dAct)) (by have := cut_sz (l.getD i dAct); omega)) (congrArg Value.string (actF_t hc3))) ?_
    intro n6 hn6
    refine PQ.pure (dst := (some 61)) (v := (.bool false)) rfl rfl rfl noStore (none_ok _ _) (Eq.trans (r_neqS rfl rfl rfl) (by rw [decide_eq_true rfl] <;> rfl)) ?_
    refine PQ.pure (dst := (some 62)) (v := (.bool false)) rfl rfl rfl noStore (none_ok _ _) rfl ?_
    refine PQ.pure (dst := (some 63)) (v := (.agg ⟨(cAct (cutA (l.getD i dAct)))⟩)) rfl rfl rfl (app [(n1, some ⟨[(xTr62 l i)], 9, 24, true⟩)] noStore) (seen_one (V := []) (D := [((n4 + 1), some (oAct (fine ((l.take (i + 1)).map cutA)))), (jf, none), (n4, some ⟨[(xTr61 l i)], 9, 24, true⟩), ((n1 + 2), some (oAct ((l.take (i + 1)).map cutA))), (j, none), ((n1 + 1), some ⟨[(xTr61 l i)], 9, 24, true⟩), (n1, some ⟨[(xTr62 l i)], 9, 24, true⟩)]) (by kernel_rfl) (gt6 (by omega) get_here)) (r_loadA rfl rfl rfl rfl get_here rfl rfl rfl) ?_
    refine PQ.callP (dst := (some 64)) (all := [(.agg ⟨(cAct (cutA (l.getD i dAct)))⟩)]) (v := (.bool true)) noStore (dom_none _) rfl rfl rfl rfl rfl rfl rfl rfl (none_ok _ _) (PS.to (tMay (cutA (l.getD i dAct))) (congrArg Value.bool (decide_eq_true hc3))) ?_
    intro n7 hn7
    refine PQ.pure (dst := (some 65)) (v := (.agg ⟨(cAct (cutA (l.getD i dAct)))⟩)) rfl rfl rfl (app [(n1, some ⟨[(xTr62 l i)], 9, 24, true⟩)] noStore) (seen_one (V := []) (D := [((n4 + 1), some (oAct (fine ((l.take (i + 1)).map cutA)))), (jf, none), (n4, some ⟨[(xTr61 l i)], 9, 24, true⟩), ((n1 + 2), some (oAct ((l.take (i + 1)).map cutA))), (j, none), ((n1 + 1), some ⟨[(xTr61 l i)], 9, 24, true⟩), (n1, some ⟨[(xTr62 l i)], 9, 24, true⟩)]) (by kernel_rfl) (gt6 (by omega) get_here)) (r_loadA rfl rfl rfl rfl get_here rfl rfl rfl) ?_
    refine PQ.callP (dst := (some 66)) (all := [(.agg ⟨(cAct (cutA (l.getD i dAct)))⟩)]) (v := (.string (bstr (actL (cutA (l.getD i dAct)))))) noStore (dom_none _) rfl rfl rfl rfl rfl rfl rfl rfl (none_ok _ _) (PS.to (bBytes (cutA (l.getD i dAct)) (by have := cut_sz (l.getD i dAct); omega)) (congrArg Value.string (actF_t hc3))) ?_
    intro n8 hn8
    refine PQ.pure (dst := (some 67)) (v := (.bool true)) rfl rfl rfl noStore (none_ok _ _) (Eq.trans (r_neqS rfl rfl rfl) (by rw [decide_eq_false actL_ne] <;> rfl)) ?_
    refine PQ.pure (dst := (some 68)) (v := (.bool false)) rfl rfl rfl noStore (none_ok _ _) rfl ?_
    refine PQ.pure (dst := (some 69)) (v := (.bool false)) rfl rfl rfl noStore (none_ok _ _) rfl ?_
    refine PQ.done (d := []) (by kernel_rfl) ?_
    intro _
    refine RA.rebase [(0, v), (3, (.slice (some ⟨(n1 + 2), 0, none⟩) (i + 1) 0)), (4, (.string (bstr (putsL ((l.take (i + 1)).map cutA))))), (5, (.slice (some ⟨(n4 + 1), 0, none⟩) (M + 1) 0)), (6, (.int .i64 ((i : Nat) : Int))), (7, (Pt n1 0 0)), (21, (.bool true)), (52, (.bool true)), (69, (.bool false))] ⟨rfl, rfl, rfl, rfl, rfl, rfl, rfl, rfl, rfl, trivial⟩ (fun τr9 => ?_)
    refine RA.condF rfl ?_
    refine RA.skip env_ok ?_
    intro _
    refine RA.region env_ok ?_
    refine OA.p (some 22) (.int .i64 ((i : Nat) : Int)) rfl rfl rfl rfl ?_
    refine OA.p (some 23) (.int .i64 (((i + 1) : Nat) : Int)) rfl rfl rfl (r_bin rfl rfl rfl (b_add (i64_eq (by omega)))) ?_
    refine OA.p (some 6) (.int .i64 (((i + 1) : Nat) : Int)) rfl rfl rfl rfl ?_
    refine OA.nil ?_
    refine ⟨(30 - (i + 1)), by omega, [((n1 + 2), some (oAct ((l.take (i + 1)).map cutA))), ((n4 + 1), some (oAct (fine ((l.take (i + 1)).map cutA))))], (Less.of (fac (mm (fun _ => get_here) (fun _ => (gt3 (by omega) get_here))) (fac (mm (fun _ => (get_there (by omega) get_here)) (fun _ => get_here)) fan)) (gone_of (by simp only [goneP, memP, List.cons_append, List.nil_append, true_or, or_true, true_and, and_true, or_false] <;> omega))), ⟨(i + 1), (n1 + 2), (n4 + 1), (M + 1), rfl, by omega, ⟨rfl, rfl, rfl, rfl, rfl, trivial⟩, rfl, (kb2 (by omega)), ⟨by omega, by omega, by omega, by omega, by omega, by omega, (by rw [fine_T (by omega) hc3, List.length_append, hM]; rfl)⟩⟩⟩
   ·
    refine OA.callP (dst := (some 48)) (all := [(.agg ⟨(cAct (cutA (l.getD i dAct)))⟩)]) (v := (.string (ByteArray.mk #[]))) (hd.of (by omega) (kb5 (by omega))) rfl rfl rfl rfl rfl rfl rfl rfl (PS.to (bBytes (cutA (l.getD i dAct)) (by have := cut_sz (l.getD i dAct); omega)) (congrArg Value.string (actF_f hc3))) ?_
    intro n10 hn10
    refine OA.p (some 49) (.string (bstr (putsL ((l.take (i + 1)).map cutA)))) rfl rfl rfl (Eq.trans (r_cat rfl rfl rfl (by have h1 := puts_sz (l := l) (i := i) (by omega); rw [show (ByteArray.mk #[]).size = 0 from rfl]; omega)) (congrArg (fun z => some (Value.string z, _, [])) (wF (by omega) hc3))) ?_
    refine OA.p (some 4) (.string (bstr (putsL ((l.take (i + 1)).map cutA)))) rfl rfl rfl rfl ?_
    refine OA.nil ?_
    intro _
    refine RA.seq hd ?_
    refine RA.seq hd ?_
    refine RA.region env_ok ?_
    refine OA.p (some 50) (.agg ⟨(cAct (cutA (l.getD i dAct)))⟩) rfl rfl rfl (r_loadA rfl rfl rfl rfl (gt3 (by omega) get_here) rfl rfl rfl) ?_
    refine OA.callP (dst := (some 51)) (all := [(.agg ⟨(cAct (cutA (l.getD i dAct)))⟩)]) (v := (.string (ByteArray.mk #[]))) (hd.of (by omega) (kb5 (by omega))) rfl rfl rfl rfl rfl rfl rfl rfl (PS.to (bBytes (cutA (l.getD i dAct)) (by have := cut_sz (l.getD i dAct); omega)) (congrArg Value.string (actF_f hc3))) ?_
    intro n11 hn11
    refine OA.p (some 52) (.bool false) rfl rfl rfl (Eq.trans (r_neqS rfl rfl rfl) (by rw [decide_eq_true rfl] <;> rfl)) ?_
    refine OA.nil ?_
    intro _
    refine RA.condF rfl ?_
    refine RA.skip env_ok ?_
    intro _
    refine RA.seq hd ?_
    refine RA.par (md := [some [n1], some [], some [n1], some [], some [], some [], some [n1], some [], some [n1], some [], some [], some [], some []]) env_ok (hd.of (by omega) (kb5 (by omega))) (by kernel_rfl) ?_
    refine PQ.pure (dst := (some 57)) (v := (.agg ⟨(cAct (cutA (l.getD i dAct)))⟩)) rfl rfl rfl (app [(n1, some ⟨[(xTr62 l i)], 9, 24, true⟩)] noStore) (seen_one (V := []) (D := [((n1 + 2), some (oAct ((l.take (i + 1)).map cutA))), (j, none), ((n1 + 1), some ⟨[(xTr61 l i)], 9, 24, true⟩), (n1, some ⟨[(xTr62 l i)], 9, 24, true⟩), (jf, some (oAct (fine ((l.take i).map cutA))))]) (by kernel_rfl) (gt3 (by omega) get_here)) (r_loadA rfl rfl rfl rfl get_here rfl rfl rfl) ?_
    refine PQ.callP (dst := (some 58)) (all := [(.agg ⟨(cAct (cutA (l.getD i dAct)))⟩)]) (v := (.string (ByteArray.mk #[]))) noStore (dom_none _) rfl rfl rfl rfl rfl rfl rfl rfl (none_ok _ _) (PS.to (tAct (cutA (l.getD i dAct))) (congrArg Value.string (actF_f hc3))) ?_
    intro n12 hn12
    refine PQ.pure (dst := (some 59)) (v := (.agg ⟨(cAct (cutA (l.getD i dAct)))⟩)) rfl rfl rfl (app [(n1, some ⟨[(xTr62 l i)], 9, 24, true⟩)] noStore) (seen_one (V := []) (D := [((n1 + 2), some (oAct ((l.take (i + 1)).map cutA))), (j, none), ((n1 + 1), some ⟨[(xTr61 l i)], 9, 24, true⟩), (n1, some ⟨[(xTr62 l i)], 9, 24, true⟩), (jf, some (oAct (fine ((l.take i).map cutA))))]) (by kernel_rfl) (gt3 (by omega) get_here)) (r_loadA rfl rfl rfl rfl get_here rfl rfl rfl) ?_
    refine PQ.callP (dst := (some 60)) (all := [(.agg ⟨(cAct (cutA (l.getD i dAct)))⟩)]) (v := (.string (ByteArray.mk #[]))) noStore (dom_none _) rfl rfl rfl rfl rfl rfl rfl rfl (none_ok _ _) (PS.to (bBytes (cutA (l.getD i dAct)) (by have := cut_sz (l.getD i dAct); omega)) (congrArg Value.string (actF_f hc3))) ?_
    intro n13 hn13
    refine PQ.pure (dst := (some 61)) (v := (.bool false)) rfl rfl rfl noStore (none_ok _ _) (Eq.trans (r_neqS rfl rfl rfl) (by rw [decide_eq_true rfl] <;> rfl)) ?_
    refine PQ.pure (dst := (some 62)) (v := (.bool false)) rfl rfl rfl noStore (none_ok _ _) rfl ?_
    refine PQ.pure (dst := (some 63)) (v := (.agg ⟨(cAct (cutA (l.getD i dAct)))⟩)) rfl rfl rfl (app [(n1, some ⟨[(xTr62 l i)], 9, 24, true⟩)] noStore) (seen_one (V := []) (D := [((n1 + 2), some (oAct ((l.take (i + 1)).map cutA))), (j, none), ((n1 + 1), some ⟨[(xTr61 l i)], 9, 24, true⟩), (n1, some ⟨[(xTr62 l i)], 9, 24, true⟩), (jf, some (oAct (fine ((l.take i).map cutA))))]) (by kernel_rfl) (gt3 (by omega) get_here)) (r_loadA rfl rfl rfl rfl get_here rfl rfl rfl) ?_
    refine PQ.callP (dst := (some 64)) (all := [(.agg ⟨(cAct (cutA (l.getD i dAct)))⟩)]) (v := (.bool false)) noStore (dom_none _) rfl rfl rfl rfl rfl rfl rfl rfl (none_ok _ _) (PS.to (tMay (cutA (l.getD i dAct))) (congrArg Value.bool (decide_eq_false hc3))) ?_
    intro n14 hn14
    refine PQ.pure (dst := (some 65)) (v := (.agg ⟨(cAct (cutA (l.getD i dAct)))⟩)) rfl rfl rfl (app [(n1, some ⟨[(xTr62 l i)], 9, 24, true⟩)] noStore) (seen_one (V := []) (D := [((n1 + 2), some (oAct ((l.take (i + 1)).map cutA))), (j, none), ((n1 + 1), some ⟨[(xTr61 l i)], 9, 24, true⟩), (n1, some ⟨[(xTr62 l i)], 9, 24, true⟩), (jf, some (oAct (fine ((l.take i).map cutA))))]) (by kernel_rfl) (gt3 (by omega) get_here)) (r_loadA rfl rfl rfl rfl get_here rfl rfl rfl) ?_
    refine PQ.callP (dst := (some 66)) (all := [(.agg ⟨(cAct (cutA (l.getD i dAct)))⟩)]) (v := (.string (ByteArray.mk #[]))) noStore (dom_none _) rfl rfl rfl rfl rfl rfl rfl rfl (none_ok _ _) (PS.to (bBytes (cutA (l.getD i dAct)) (by have := cut_sz (l.getD i dAct); omega)) (congrArg Value.string (actF_f hc3))) ?_
    intro n15 hn15
    refine PQ.pure (dst := (some 67)) (v := (.bool false)) rfl rfl rfl noStore (none_ok _ _) (Eq.trans (r_neqS rfl rfl rfl) (by rw [decide_eq_true rfl] <;> rfl)) ?_
    refine PQ.pure (dst := (some 68)) (v := (.bool false)) rfl rfl rfl noStore (none_ok _ _) rfl ?_
    refine PQ.pure (dst := (some 69)) (v := (.bool false)) rfl rfl rfl noStore (none_ok _ _) rfl ?_
    refine PQ.done (d := []) (by kernel_rfl) ?_
    intro _
    refine RA.rebase [(0, v), (3, (.slice (some ⟨(n1 + 2), 0, none⟩) (i + 1) 0)), (4, (.string (bstr (putsL ((l.take (i + 1)).map cutA))))), (5, (.slice (some ⟨jf, 0, none⟩) M 0)), (6, (.int .i64 ((i : Nat) : Int))), (7, (Pt n1 0 0)), (21, (.bool true)), (52, (.bool false)), (69, (.bool false))] ⟨rfl, rfl, rfl, rfl, rfl, rfl, rfl, rfl, rfl, trivial⟩ (fun τr16 => ?_)
    refine RA.condF rfl ?_
    refine RA.skip env_ok ?_
    intro _
    refine RA.region env_ok ?_
    refine OA.p (some 22) (.int .i64 ((i : Nat) : Int)) rfl rfl rfl rfl ?_
    refine OA.p (some 23) (.int .i64 (((i + 1) : Nat) : Int)) rfl rfl rfl (r_bin rfl rfl rfl (b_add (i64_eq (by omega)))) ?_
    refine OA.p (some 6) (.int .i64 (((i + 1) : Nat) : Int)) rfl rfl rfl rfl ?_
    refine OA.nil ?_
    refine ⟨(30 - (i + 1)), by omega, [((n1 + 2), some (oAct ((l.take (i + 1)).map cutA))), (jf, some (oAct (fine ((l.take i).map cutA))))], (Less.of (fac (mm (fun _ => get_here) (fun _ => get_here)) (fac (mm (fun _ => (get_there (by omega) get_here)) (fun _ => (gt4 (by omega) get_here))) fan)) (gone_of (by simp only [goneP, memP, List.cons_append, List.nil_append, true_or, or_true, true_and, and_true, or_false] <;> omega))), ⟨(i + 1), (n1 + 2), jf, M, rfl, by omega, ⟨rfl, rfl, rfl, rfl, rfl, trivial⟩, (by rw [fine_F (by omega) hc3]), (kb2 (by omega)), ⟨by omega, by omega, by omega, by omega, by omega, by omega, (by rw [fine_F (by omega) hc3]; exact hM)⟩⟩⟩
  ·
   refine OA.p (some 20) (.bool false) rfl rfl rfl (Eq.trans (r_bin rfl rfl rfl (b_lss rfl)) (dF hc2)) ?_
   refine OA.p (some 21) (.bool false) rfl rfl rfl rfl ?_
   refine OA.nil ?_
   intro _
   refine RA.condF rfl ?_
   refine RA.exit env_ok ?_
   intro _
   refine RA.seq hd ?_
   refine RA.region env_ok ?_
   refine OA.p (some 70) (.slice (some ⟨j, 0, none⟩) i 0) rfl rfl rfl rfl ?_
   refine OA.callP (dst := (some 71)) (all := [(.slice (some ⟨j, 0, none⟩) i 0)]) (v := (.string (bstr (putsL ((l.take i).map cutA))))) (hd.of (by omega) (kb2 (by omega))) rfl rfl rfl rfl rfl rfl rfl rfl (tPut j i ((l.take i).map cutA) (cutLen (by omega)) (by omega) get_here) ?_
   intro n17 hn17
   refine OA.p (some 8) (.string (bstr (putsL ((l.take i).map cutA)))) rfl rfl rfl rfl ?_
   refine OA.nil ?_
   intro _
   refine RA.seq hd ?_
   refine RA.region env_ok ?_
   refine OA.p (some 73) (.string (bstr (putsL ((l.take i).map cutA)))) rfl rfl rfl rfl ?_
   by_cases hc4 : (bstr (putsL ((l.take i).map cutA))).size = 0
   ·
    have hF0 := fine_nil hc4
    refine OA.call (dst := (some 74)) (all := [(.string (bstr (putsL ((l.take i).map cutA))))]) rfl rfl rfl rfl rfl rfl rfl rfl (CQ.imp (tGet0 (hd.of (by omega) (kb2 (by omega))) (bstr (putsL ((l.take i).map cutA))) hc4) ?_)
    rintro _ n18 _ ⟨rfl, rfl⟩ hn18
    refine OA.app0 ?_
    refine OA.p (some 72) (.tuple ⟨[(.slice none 0 0), (.int .i64 0)]⟩) rfl rfl rfl rfl ?_
    refine OA.p (some 75) (.slice none 0 0) rfl rfl rfl rfl ?_
    refine OA.p (some 76) (.int .i64 0) rfl rfl rfl rfl ?_
    refine OA.p (some 9) (.slice none 0 0) rfl rfl rfl rfl ?_
    refine OA.p (some 10) (.int .i64 0) rfl rfl rfl rfl ?_
    refine OA.nil ?_
    intro _
    refine RA.seq hd ?_
    refine RA.seq hd ?_
    refine RA.region env_ok ?_
    refine OA.callP (dst := (some 77)) (all := []) (v := (.bool true)) (hd.of (by omega) (kb2 (by omega))) rfl rfl rfl rfl rfl rfl rfl rfl awake ?_
    intro n19 hn19
    refine OA.p (some 78) (.bool false) rfl rfl rfl rfl ?_
    refine OA.p (some 79) (.bool false) rfl rfl rfl rfl ?_
    refine OA.p (some 80) (.string (bstr (putsL ((l.take i).map cutA)))) rfl rfl rfl rfl ?_
    refine OA.p (some 81) (.string (bstr (putsL ((l.take i).map cutA)))) rfl rfl rfl rfl ?_
    refine OA.p (some 82) (.bool false) rfl rfl rfl (Eq.trans (r_neqS rfl rfl rfl) (by rw [decide_eq_true rfl] <;> rfl)) ?_
    refine OA.p (some 83) (.bool false) rfl rfl rfl rfl ?_
    refine OA.p (some 84) (.bool false) rfl rfl rfl rfl ?_
    refine OA.p (some 85) (.int .i64 0) rfl rfl rfl rfl ?_
    refine OA.p (some 86) (.bool false) rfl rfl rfl (r_bin rfl rfl rfl (b_neq rfl)) ?_
    refine OA.p (some 87) (.bool false) rfl rfl rfl rfl ?_
    refine OA.p (some 88) (.bool false) rfl rfl rfl rfl ?_
    refine OA.p (some 89) (.slice none 0 0) rfl rfl rfl rfl ?_
    refine OA.p (some 90) (.int .i64 0) rfl rfl rfl rfl ?_
    refine OA.p (some 91) (.slice (some ⟨jf, 0, none⟩) M 0) rfl rfl rfl rfl ?_
    refine OA.p (some 92) (.int .i64 ((M : Nat) : Int)) rfl rfl rfl rfl ?_
    have hc5 : ¬ (0 ≠ ((M : Nat) : Int)) := fun hdd => by exfalso; omega
    refine OA.p (some 93) (.bool false) rfl rfl rfl (Eq.trans (r_bin rfl rfl rfl (b_neq rfl)) (dF hc5)) ?_
    refine OA.p (some 94) (.bool false) rfl rfl rfl rfl ?_
    refine OA.nil ?_
    intro _
    refine RA.rebase [(0, v), (3, (.slice (some ⟨j, 0, none⟩) i 0)), (4, (.string (bstr (putsL ((l.take i).map cutA))))), (5, (.slice (some ⟨jf, 0, none⟩) M 0)), (6, (.int .i64 ((i : Nat) : Int))), (8, (.string (bstr (putsL ((l.take i).map cutA))))), (9, (.slice none 0 0)), (10, (.int .i64 0)), (21, (.bool false)), (94, (.bool false))] ⟨rfl, rfl, rfl, rfl, rfl, rfl, rfl, rfl, rfl, rfl, trivial⟩ (fun τr20 => ?_)
    refine RA.condF rfl ?_
    refine RA.skip env_ok ?_
    intro _
    refine RA.seq hd ?_
    refine RA.seq hd ?_
    refine RA.region env_ok ?_
    refine OA.p (some 11) (.int .i64 0) rfl rfl rfl rfl ?_
    refine OA.nil ?_
    intro _
    refine RA.block ?_
    refine RA.unroll hd ?_
    refine RA.seq hd ?_
    refine RA.seq hd ?_
    refine RA.region env_ok ?_
    refine OA.p (some 95) (.int .i64 0) rfl rfl rfl rfl ?_
    refine OA.p (some 96) (.slice none 0 0) rfl rfl rfl rfl ?_
    refine OA.p (some 97) (.int .i64 0) rfl rfl rfl rfl ?_
    refine OA.p (some 98) (.bool false) rfl rfl rfl (r_bin rfl rfl rfl (b_lss rfl)) ?_
    refine OA.nil ?_
    intro _
    refine RA.condF rfl ?_
    refine RA.exit env_ok ?_
    intro _
    refine RA.seq hd ?_
    refine RA.region env_ok ?_
    refine OA.p (some 2) (.bool true) rfl rfl rfl rfl ?_
    refine OA.nil ?_
    intro _
    refine RA.ret env_ok ?_
    refine ⟨.inr rfl, [(.bool true)], (resL_cons rfl resL_nil), [], (Less.of (fun p hp => by simp at hp) (gone_of (by simp only [goneP, memP, List.cons_append, List.nil_append, true_or, or_true, true_and, and_true, or_false] <;> omega))), rfl⟩
   ·
    refine OA.call (dst := (some 74)) (all := [(.string (bstr (putsL ((l.take i).map cutA))))]) rfl rfl rfl rfl rfl rfl rfl rfl (CQ.imp (tGet (hd.of (by omega) (kb2 (by omega))) (bstr (putsL ((l.take i).map cutA))) (fine ((l.take i).map cutA)) (tr_puts _) hc4 (by have h1 := puts_sz (l := l) (i := i) (by omega); omega)) ?_)
    rintro _ n21 _ ⟨ig, hig, hih, rfl, rfl⟩ hn21
    refine OA.app1 ?_
    refine OA.p (some 72) (.tuple ⟨[(.slice (some ⟨ig, 0, none⟩) (fine ((l.take i).map cutA)).length 0), (.int .i64 0)]⟩) rfl rfl rfl rfl ?_
    refine OA.p (some 75) (.slice (some ⟨ig, 0, none⟩) (fine ((l.take i).map cutA)).length 0) rfl rfl rfl rfl ?_
    refine OA.p (some 76) (.int .i64 0) rfl rfl rfl rfl ?_
    refine OA.p (some 9) (.slice (some ⟨ig, 0, none⟩) (fine ((l.take i).map cutA)).length 0) rfl rfl rfl rfl ?_
    refine OA.p (some 10) (.int .i64 0) rfl rfl rfl rfl ?_
    refine OA.nil ?_
    intro _
    refine RA.seq hd ?_
    refine RA.seq hd ?_
    refine RA.region env_ok ?_
    refine OA.callP (dst := (some 77)) (all := []) (v := (.bool true)) (hd.of (by omega) (kb3 (by omega))) rfl rfl rfl rfl rfl rfl rfl rfl awake ?_
    intro n22 hn22
    refine OA.p (some 78) (.bool false) rfl rfl rfl rfl ?_
    refine OA.p (some 79) (.bool false) rfl rfl rfl rfl ?_
    refine OA.p (some 80) (.string (bstr (putsL ((l.take i).map cutA)))) rfl rfl rfl rfl ?_
    refine OA.p (some 81) (.string (bstr (putsL ((l.take i).map cutA)))) rfl rfl rfl rfl ?_
    refine OA.p (some 82) (.bool false) rfl rfl rfl (Eq.trans (r_neqS rfl rfl rfl) (by rw [decide_eq_true rfl] <;> rfl)) ?_
    refine OA.p (some 83) (.bool false) rfl rfl rfl rfl ?_
    refine OA.p (some 84) (.bool false) rfl rfl rfl rfl ?_
    refine OA.p (some 85) (.int .i64 0) rfl rfl rfl rfl ?_
    refine OA.p (some 86) (.bool false) rfl rfl rfl (r_bin rfl rfl rfl (b_neq rfl)) ?_
    refine OA.p (some 87) (.bool false) rfl rfl rfl rfl ?_
    refine OA.p (some 88) (.bool false) rfl rfl rfl rfl ?_
    refine OA.p (some 89) (.slice (some ⟨ig, 0, none⟩) (fine ((l.take i).map cutA)).length 0) rfl rfl rfl rfl ?_
    refine OA.p (some 90) (.int .i64 (((fine ((l.take i).map cutA)).length : Nat) : Int)) rfl rfl rfl rfl ?_
    refine OA.p (some 91) (.slice (some ⟨jf, 0, none⟩) M 0) rfl rfl rfl rfl ?_
    refine OA.p (some 92) (.int .i64 ((M : Nat) : Int)) rfl rfl rfl rfl ?_
    have hc6 : ¬ ((((fine ((l.take i).map cutA)).length : Nat) : Int) ≠ ((M : Nat) : Int)) := fun hdd => by exfalso; omega
    refine OA.p (some 93) (.bool false) rfl rfl rfl (Eq.trans (r_bin rfl rfl rfl (b_neq rfl)) (dF hc6)) ?_
    refine OA.p (some 94) (.bool false) rfl rfl rfl rfl ?_
    refine OA.nil ?_
    intro _
    refine RA.rebase [(0, v), (3, (.slice (some ⟨j, 0, none⟩) i 0)), (4, (.string (bstr (putsL ((l.take i).map cutA))))), (5, (.slice (some ⟨jf, 0, none⟩) M 0)), (6, (.int .i64 ((i : Nat) : Int))), (8, (.string (bstr (putsL ((l.take i).map cutA))))), (9, (.slice (some ⟨ig, 0, none⟩) (fine ((l.take i).map cutA)).length 0)), (10, (.int .i64 0)), (21, (.bool false)), (94, (.bool false))] ⟨rfl, rfl, rfl, rfl, rfl, rfl, rfl, rfl, rfl, rfl, trivial⟩ (fun τr23 => ?_)
    refine RA.condF rfl ?_
    refine RA.skip env_ok ?_
    intro _
    refine RA.seq hd ?_
    refine RA.seq hd ?_
    refine RA.region env_ok ?_
    refine OA.p (some 11) (.int .i64 0) rfl rfl rfl rfl ?_
    refine OA.nil ?_
    intro _
    refine RA.block ?_
    refine RA.weaken (D' := [(ig, some (oAct (fine ((l.take i).map cutA)))), (jf, some (oAct (fine ((l.take i).map cutA))))]) hd (Less.of (fac (mm (fun _ => get_here) (fun _ => get_here)) (fac (mm (fun _ => (get_there (by omega) get_here)) (fun _ => (gt2 (by omega) get_here))) fan)) (gone_of (by simp only [goneP, memP, List.cons_append, List.nil_append, true_or, or_true, true_and, and_true, or_false] <;> omega))) ?_
    refine RA.loop hd (fun kk_ τ n' D => (∃ kk : Nat, kk_ = (M - kk) ∧ n22 ≤ n' ∧ Has τ [(5, (.slice (some ⟨jf, 0, none⟩) M 0)), (9, (.slice (some ⟨ig, 0, none⟩) (fine ((l.take i).map cutA)).length 0)), (11, (.int .i64 ((kk : Nat) : Int)))] ∧ D = [(ig, some (oAct (fine ((l.take i).map cutA)))), (jf, some (oAct (fine ((l.take i).map cutA))))] ∧ (∀ i ∈ keys D, i < n') ∧ kk ≤ M)) ((M - 0)) (⟨0, rfl, by omega, ⟨rfl, rfl, rfl, trivial⟩, rfl, (kb2 (by omega)), by omega⟩) ?_
    rintro kn24 τ24 n24 _ ⟨kk, rfl, hn24, hHn24, rfl, hKn24, hIn24⟩
    rw [Has.eq hHn24]
    have hKn24_0 : ig < n24 := hKn24 _ (by simp only [keys, List.map_cons, List.map_nil, List.mem_cons, true_or, or_true])
    have hKn24_1 : jf < n24 := hKn24 _ (by simp only [keys, List.map_cons, List.map_nil, List.mem_cons, true_or, or_true])
    clear hKn24
    refine RA.seq hd ?_
    refine RA.seq hd ?_
    refine RA.region env_ok ?_
    refine OA.p (some 95) (.int .i64 ((kk : Nat) : Int)) rfl rfl rfl rfl ?_
    refine OA.p (some 96) (.slice (some ⟨ig, 0, none⟩) (fine ((l.take i).map cutA)).length 0) rfl rfl rfl rfl ?_
    refine OA.p (some 97) (.int .i64 (((fine ((l.take i).map cutA)).length : Nat) : Int)) rfl rfl rfl rfl ?_
    by_cases hc7 : ((kk : Nat) : Int) < (((fine ((l.take i).map cutA)).length : Nat) : Int)
    ·
     refine OA.p (some 98) (.bool true) rfl rfl rfl (Eq.trans (r_bin rfl rfl rfl (b_lss rfl)) (dT hc7)) ?_
     refine OA.nil ?_
     intro _
     refine RA.condT rfl ?_
     refine RA.skip env_ok ?_
     intro _
     refine RA.seq hd ?_
     refine RA.block ?_
     refine RA.seq hd ?_
     refine RA.par (md := [some [], some [], some [ig], some [ig], some [], some [], some [jf], some [jf], some []]) env_ok (hd.of (by omega) (kb2 (by omega))) (by kernel_rfl) ?_
     refine PQ.pure (dst := (some 101)) (v := (.slice (some ⟨ig, 0, none⟩) (fine ((l.take i).map cutA)).length 0)) rfl rfl rfl noStore (none_ok _ _) rfl ?_
     refine PQ.pure (dst := (some 102)) (v := (.int .i64 ((kk : Nat) : Int))) rfl rfl rfl noStore (none_ok _ _) rfl ?_
     refine PQ.pure (dst := (some 103)) (v := (Pt ig kk 0)) rfl rfl rfl (app [(ig, some (oAct (fine ((l.take i).map cutA))))] noStore) (seen_one (V := []) (D := [(ig, some (oAct (fine ((l.take i).map cutA)))), (jf, some (oAct (fine ((l.take i).map cutA))))]) (by kernel_rfl) get_here) (r_iaS (l := kk) rfl rfl rfl rfl rfl rfl (by omega) (by omega) get_here rfl (by omega)) ?_
     refine PQ.pure (dst := (some 104)) (v := (.agg ⟨(cAct ((fine ((l.take i).map cutA)).getD kk dAct))⟩)) rfl rfl rfl (app [(ig, some (oAct (fine ((l.take i).map cutA))))] noStore) (seen_one (V := []) (D := [(ig, some (oAct (fine ((l.take i).map cutA)))), (jf, some (oAct (fine ((l.take i).map cutA))))]) (by kernel_rfl) get_here) (r_loadR (c := cAct) dAct rfl rfl rfl rfl get_here (by have := (show (fine ((l.take i).map cutA)).length = (fine ((l.take i).map cutA)).length from rfl); omega) rfl) ?_
     refine PQ.pure (dst := (some 105)) (v := (.slice (some ⟨jf, 0, none⟩) M 0)) rfl rfl rfl noStore (none_ok _ _) rfl ?_
     refine PQ.pure (dst := (some 106)) (v := (.int .i64 ((kk : Nat) : Int))) rfl rfl rfl noStore (none_ok _ _) rfl ?_
     refine PQ.pure (dst := (some 107)) (v := (Pt jf kk 0)) rfl rfl rfl (app [(jf, some (oAct (fine ((l.take i).map cutA))))] noStore) (seen_one (V := []) (D := [(ig, some (oAct (fine ((l.take i).map cutA)))), (jf, some (oAct (fine ((l.take i).map cutA))))]) (by kernel_rfl) (get_there (by omega) get_here)) (r_iaS (l := kk) rfl rfl rfl rfl rfl rfl (by omega) (by omega) get_here rfl (by omega)) ?_
     refine PQ.pure (dst := (some 108)) (v := (.agg ⟨(cAct ((fine ((l.take i).map cutA)).getD kk dAct))⟩)) rfl rfl rfl (app [(jf, some (oAct (fine ((l.take i).map cutA))))] noStore) (seen_one (V := []) (D := [(ig, some (oAct (fine ((l.take i).map cutA)))), (jf, some (oAct (fine ((l.take i).map cutA))))]) (by kernel_rfl) (get_there (by omega) get_here)) (r_loadR (c := cAct) dAct rfl rfl rfl rfl get_here (by rw [hM]; omega) rfl) ?_
     refine PQ.pure (dst := (some 109)) (v := (.bool false)) rfl rfl rfl noStore (none_ok _ _) (r_neqA (r := true) rfl rfl rfl (by kernel_rfl) (aeq_self _ _ _ (by kernel_rfl))) ?_
     refine PQ.done (d := []) (by kernel_rfl) ?_
     intro _
     refine RA.condF rfl ?_
     refine RA.skip env_ok ?_
     intro _
     refine RA.region env_ok ?_
     refine OA.p (some 99) (.int .i64 ((kk : Nat) : Int)) rfl rfl rfl rfl ?_
     refine OA.p (some 100) (.int .i64 (((kk + 1) : Nat) : Int)) rfl rfl rfl (r_bin rfl rfl rfl (b_add (i64_eq (by omega)))) ?_
     refine OA.p (some 11) (.int .i64 (((kk + 1) : Nat) : Int)) rfl rfl rfl rfl ?_
     refine OA.nil ?_
     refine ⟨(M - (kk + 1)), by omega, [(ig, some (oAct (fine ((l.take i).map cutA)))), (jf, some (oAct (fine ((l.take i).map cutA))))], (Less.refl _ _ _), ⟨(kk + 1), rfl, by omega, ⟨rfl, rfl, rfl, trivial⟩, rfl, (kb2 (by omega)), by omega⟩⟩
    ·
     refine OA.p (some 98) (.bool false) rfl rfl rfl (Eq.trans (r_bin rfl rfl rfl (b_lss rfl)) (dF hc7)) ?_
     refine OA.nil ?_
     intro _
     refine RA.condF rfl ?_
     refine RA.exit env_ok ?_
     intro _
     refine RA.seq hd ?_
     refine RA.region env_ok ?_
     refine OA.p (some 2) (.bool true) rfl rfl rfl rfl ?_
     refine OA.nil ?_
     intro _
     refine RA.ret env_ok ?_
     refine ⟨.inr rfl, [(.bool true)], (resL_cons rfl resL_nil), [], (Less.of (fun p hp => by simp at hp) (gone_of (by simp only [goneP, memP, List.cons_append, List.nil_append, true_or, or_true, true_and, and_true, or_false] <;> omega))), rfl⟩
 ·
  refine OA.p (some 17) (.bool false) rfl rfl rfl (Eq.trans (r_bin rfl rfl rfl (b_lss rfl)) (dF hc1)) ?_
  refine OA.p (some 18) (.bool false) rfl rfl rfl rfl ?_
  refine OA.off (dst := (some 19)) rfl rfl rfl ?_
  refine OA.off (dst := (some 20)) rfl rfl rfl ?_
  refine OA.p (some 21) (.bool false) rfl rfl rfl rfl ?_
  refine OA.nil ?_
  intro _
  refine RA.condF rfl ?_
  refine RA.exit env_ok ?_
  intro _
  refine RA.seq hd ?_
  refine RA.region env_ok ?_
  refine OA.p (some 70) (.slice (some ⟨j, 0, none⟩) i 0) rfl rfl rfl rfl ?_
  refine OA.callP (dst := (some 71)) (all := [(.slice (some ⟨j, 0, none⟩) i 0)]) (v := (.string (bstr (putsL ((l.take i).map cutA))))) (hd.of (by omega) (kb2 (by omega))) rfl rfl rfl rfl rfl rfl rfl rfl (tPut j i ((l.take i).map cutA) (cutLen (by omega)) (by omega) get_here) ?_
  intro n25 hn25
  refine OA.p (some 8) (.string (bstr (putsL ((l.take i).map cutA)))) rfl rfl rfl rfl ?_
  refine OA.nil ?_
  intro _
  refine RA.seq hd ?_
  refine RA.region env_ok ?_
  refine OA.p (some 73) (.string (bstr (putsL ((l.take i).map cutA)))) rfl rfl rfl rfl ?_
  by_cases hc8 : (bstr (putsL ((l.take i).map cutA))).size = 0
  ·
   have hF0 := fine_nil hc8
   refine OA.call (dst := (some 74)) (all := [(.string (bstr (putsL ((l.take i).map cutA))))]) rfl rfl rfl rfl rfl rfl rfl rfl (CQ.imp (tGet0 (hd.of (by omega) (kb2 (by omega))) (bstr (putsL ((l.take i).map cutA))) hc8) ?_)
   rintro _ n26 _ ⟨rfl, rfl⟩ hn26
   refine OA.app0 ?_
   refine OA.p (some 72) (.tuple ⟨[(.slice none 0 0), (.int .i64 0)]⟩) rfl rfl rfl rfl ?_
   refine OA.p (some 75) (.slice none 0 0) rfl rfl rfl rfl ?_
   refine OA.p (some 76) (.int .i64 0) rfl rfl rfl rfl ?_
   refine OA.p (some 9) (.slice none 0 0) rfl rfl rfl rfl ?_
   refine OA.p (some 10) (.int .i64 0) rfl rfl rfl rfl ?_
   refine OA.nil ?_
   intro _
   refine RA.seq hd ?_
   refine RA.seq hd ?_
   refine RA.region env_ok ?_
   refine OA.callP (dst := (some 77)) (all := []) (v := (.bool true)) (hd.of (by omega) (kb2 (by omega))) rfl rfl rfl rfl rfl rfl rfl rfl awake ?_
   intro n27 hn27
   refine OA.p (some 78) (.bool false) rfl rfl rfl rfl ?_
   refine OA.p (some 79) (.bool false) rfl rfl rfl rfl ?_
   refine OA.p (some 80) (.string (bstr (putsL ((l.take i).map cutA)))) rfl rfl rfl rfl ?_
   refine OA.p (some 81) (.string (bstr (putsL ((l.take i).map cutA)))) rfl rfl rfl rfl ?_
   refine OA.p (some 82) (.bool false) rfl rfl rfl (Eq.trans (r_neqS rfl rfl rfl) (by rw [decide_eq_true rfl] <;> rfl)) ?_
   refine OA.p (some 83) (.bool false) rfl rfl rfl rfl ?_
   refine OA.p (some 84) (.bool false) rfl rfl rfl rfl ?_
   refine OA.p (some 85) (.int .i64 0) rfl rfl rfl rfl ?_
   refine OA.p (some 86) (.bool false) rfl rfl rfl (r_bin rfl rfl rfl (b_neq rfl)) ?_
   refine OA.p (some 87) (.bool false) rfl rfl rfl rfl ?_
   refine OA.p (some 88) (.bool false) rfl rfl rfl rfl ?_
   refine OA.p (some 89) (.slice none 0 0) rfl rfl rfl rfl ?_
   refine OA.p (some 90) (.int .i64 0) rfl rfl rfl rfl ?_
   refine OA.p (some 91) (.slice (some ⟨jf, 0, none⟩) M 0) rfl rfl rfl rfl ?_
   refine OA.p (some 92) (.int .i64 ((M : Nat) : Int)) rfl rfl rfl rfl ?_
   have hc9 : ¬ (0 ≠ ((M : Nat) : Int)) := fun hdd => by exfalso; omega
   refine OA.p (some 93) (.bool false) rfl rfl rfl (Eq.trans (r_bin rfl rfl rfl (b_neq rfl)) (dF hc9)) ?_
   refine OA.p (some 94) (.bool false) rfl rfl rfl rfl ?_
   refine OA.nil ?_
   intro _
   refine RA.rebase [(0, v), (3, (.slice (some ⟨j, 0, none⟩) i 0)), (4, (.string (bstr (putsL ((l.take i).map cutA))))), (5, (.slice (some ⟨jf, 0, none⟩) M 0)), (6, (.int .i64 ((i : Nat) : Int))), (8, (.string (bstr (putsL ((l.take i).map cutA))))), (9, (.slice none 0 0)), (10, (.int .i64 0)), (21, (.bool false)), (94, (.bool false))] ⟨rfl, rfl, rfl, rfl, rfl, rfl, rfl, rfl, rfl, rfl, trivial⟩ (fun τr28 => ?_)
   refine RA.condF rfl ?_
   refine RA.skip env_ok ?_
   intro _
   refine RA.seq hd ?_
   refine RA.seq hd ?_
   refine RA.region env_ok ?_
   refine OA.p (some 11) (.int .i64 0) rfl rfl rfl rfl ?_
   refine OA.nil ?_
   intro _
   refine RA.block ?_
   refine RA.unroll hd ?_
   refine RA.seq hd ?_
   refine RA.seq hd ?_
   refine RA.region env_ok ?_
   refine OA.p (some 95) (.int .i64 0) rfl rfl rfl rfl ?_
   refine OA.p (some 96) (.slice none 0 0) rfl rfl rfl rfl ?_
   refine OA.p (some 97) (.int .i64 0) rfl rfl rfl rfl ?_
   refine OA.p (some 98) (.bool false) rfl rfl rfl (r_bin rfl rfl rfl (b_lss rfl)) ?_
   refine OA.nil ?_
   intro _
   refine RA.condF rfl ?_
   refine RA.exit env_ok ?_
   intro _
   refine RA.seq hd ?_
   refine RA.region env_ok ?_
   refine OA.p (some 2) (.bool true) rfl rfl rfl rfl ?_
   refine OA.nil ?_
   intro _
   refine RA.ret env_ok ?_
   refine ⟨.inr rfl, [(.bool true)], (resL_cons rfl resL_nil), [], (Less.of (fun p hp => by simp at hp) (gone_of (by simp only [goneP, memP, List.cons_append, List.nil_append, true_or, or_true, true_and, and_true, or_false] <;> omega))), rfl⟩
  ·
   refine OA.call (dst := (some 74)) (all := [(.string (bstr (putsL ((l.take i).map cutA))))]) rfl rfl rfl rfl rfl rfl rfl rfl (CQ.imp (tGet (hd.of (by omega) (kb2 (by omega))) (bstr (putsL ((l.take i).map cutA))) (fine ((l.take i).map cutA)) (tr_puts _) hc8 (by have h1 := puts_sz (l := l) (i := i) (by omega); omega)) ?_)
   rintro _ n29 _ ⟨ig, hig, hih, rfl, rfl⟩ hn29
   refine OA.app1 ?_
   refine OA.p (some 72) (.tuple ⟨[(.slice (some ⟨ig, 0, none⟩) (fine ((l.take i).map cutA)).length 0), (.int .i64 0)]⟩) rfl rfl rfl rfl ?_
   refine OA.p (some 75) (.slice (some ⟨ig, 0, none⟩) (fine ((l.take i).map cutA)).length 0) rfl rfl rfl rfl ?_
   refine OA.p (some 76) (.int .i64 0) rfl rfl rfl rfl ?_
   refine OA.p (some 9) (.slice (some ⟨ig, 0, none⟩) (fine ((l.take i).map cutA)).length 0) rfl rfl rfl rfl ?_
   refine OA.p (some 10) (.int .i64 0) rfl rfl rfl rfl ?_
   refine OA.nil ?_
   intro _
   refine RA.seq hd ?_
   refine RA.seq hd ?_
   refine RA.region env_ok ?_
   refine OA.callP (dst := (some 77)) (all := []) (v := (.bool true)) (hd.of (by omega) (kb3 (by omega))) rfl rfl rfl rfl rfl rfl rfl rfl awake ?_
   intro n30 hn30
   refine OA.p (some 78) (.bool false) rfl rfl rfl rfl ?_
   refine OA.p (some 79) (.bool false) rfl rfl rfl rfl ?_
   refine OA.p (some 80) (.string (bstr (putsL ((l.take i).map cutA)))) rfl rfl rfl rfl ?_
   refine OA.p (some 81) (.string (bstr (putsL ((l.take i).map cutA)))) rfl rfl rfl rfl ?_
   refine OA.p (some 82) (.bool false) rfl rfl rfl (Eq.trans (r_neqS rfl rfl rfl) (by rw [decide_eq_true rfl] <;> rfl)) ?_
   refine OA.p (some 83) (.bool false) rfl rfl rfl rfl ?_
   refine OA.p (some 84) (.bool false) rfl rfl rfl rfl ?_
   refine OA.p (some 85) (.int .i64 0) rfl rfl rfl rfl ?_
   refine OA.p (some 86) (.bool false) rfl rfl rfl (r_bin rfl rfl rfl (b_neq rfl)) ?_
   refine OA.p (some 87) (.bool false) rfl rfl rfl rfl ?_
   refine OA.p (some 88) (.bool false) rfl rfl rfl rfl ?_
   refine OA.p (some 89) (.slice (some ⟨ig, 0, none⟩) (fine ((l.take i).map cutA)).length 0) rfl rfl rfl rfl ?_
   refine OA.p (some 90) (.int .i64 (((fine ((l.take i).map cutA)).length : Nat) : Int)) rfl rfl rfl rfl ?_
   refine OA.p (some 91) (.slice (some ⟨jf, 0, none⟩) M 0) rfl rfl rfl rfl ?_
   refine OA.p (some 92) (.int .i64 ((M : Nat) : Int)) rfl rfl rfl rfl ?_
   have hc10 : ¬ ((((fine ((l.take i).map cutA)).length : Nat) : Int) ≠ ((M : Nat) : Int)) := fun hdd => by exfalso; omega
   refine OA.p (some 93) (.bool false) rfl rfl rfl (Eq.trans (r_bin rfl rfl rfl (b_neq rfl)) (dF hc10)) ?_
   refine OA.p (some 94) (.bool false) rfl rfl rfl rfl ?_
   refine OA.nil ?_
   intro _
   refine RA.rebase [(0, v), (3, (.slice (some ⟨j, 0, none⟩) i 0)), (4, (.string (bstr (putsL ((l.take i).map cutA))))), (5, (.slice (some ⟨jf, 0, none⟩) M 0)), (6, (.int .i64 ((i : Nat) : Int))), (8, (.string (bstr (putsL ((l.take i).map cutA))))), (9, (.slice (some ⟨ig, 0, none⟩) (fine ((l.take i).map cutA)).length 0)), (10, (.int .i64 0)), (21, (.bool false)), (94, (.bool false))] ⟨rfl, rfl, rfl, rfl, rfl, rfl, rfl, rfl, rfl, rfl, trivial⟩ (fun τr31 => ?_)
   refine RA.condF rfl ?_
   refine RA.skip env_ok ?_
   intro _
   refine RA.seq hd ?_
   refine RA.seq hd ?_
   refine RA.region env_ok ?_
   refine OA.p (some 11) (.int .i64 0) rfl rfl rfl rfl ?_
   refine OA.nil ?_
   intro _
   refine RA.block ?_
   refine RA.weaken (D' := [(ig, some (oAct (fine ((l.take i).map cutA)))), (jf, some (oAct (fine ((l.take i).map cutA))))]) hd (Less.of (fac (mm (fun _ => get_here) (fun _ => get_here)) (fac (mm (fun _ => (get_there (by omega) get_here)) (fun _ => (gt2 (by omega) get_here))) fan)) (gone_of (by simp only [goneP, memP, List.cons_append, List.nil_append, true_or, or_true, true_and, and_true, or_false] <;> omega))) ?_
   refine RA.loop hd (fun kk_ τ n' D => (∃ kk : Nat, kk_ = (M - kk) ∧ n30 ≤ n' ∧ Has τ [(5, (.slice (some ⟨jf, 0, none⟩) M 0)), (9, (.slice (some ⟨ig, 0, none⟩) (fine ((l.take i).map cutA)).length 0)), (11, (.int .i64 ((kk : Nat) : Int)))] ∧ D = [(ig, some (oAct (fine ((l.take i).map cutA)))), (jf, some (oAct (fine ((l.take i).map cutA))))] ∧ (∀ i ∈ keys D, i < n') ∧ kk ≤ M)) ((M - 0)) (⟨0, rfl, by omega, ⟨rfl, rfl, rfl, trivial⟩, rfl, (kb2 (by omega)), by omega⟩) ?_
   rintro kn32 τ32 n32 _ ⟨kk, rfl, hn32, hHn32, rfl, hKn32, hIn32⟩
   rw [Has.eq hHn32]
   have hKn32_0 : ig < n32 := hKn32 _ (by simp only [keys, List.map_cons, List.map_nil, List.mem_cons, true_or, or_true])
   have hKn32_1 : jf < n32 := hKn32 _ (by simp only [keys, List.map_cons, List.map_nil, List.mem_cons, true_or, or_true])
   clear hKn32
   refine RA.seq hd ?_
   refine RA.seq hd ?_
   refine RA.region env_ok ?_
   refine OA.p (some 95) (.int .i64 ((kk : Nat) : Int)) rfl rfl rfl rfl ?_
   refine OA.p (some 96) (.slice (some ⟨ig, 0, none⟩) (fine ((l.take i).map cutA)).length 0) rfl rfl rfl rfl ?_
   refine OA.p (some 97) (.int .i64 (((fine ((l.take i).map cutA)).length : Nat) : Int)) rfl rfl rfl rfl ?_
   by_cases hc11 : ((kk : Nat) : Int) < (((fine ((l.take i).map cutA)).length : Nat) : Int)
   ·
    refine OA.p (some 98) (.bool true) rfl rfl rfl (Eq.trans (r_bin rfl rfl rfl (b_lss rfl)) (dT hc11)) ?_
    refine OA.nil ?_
    intro _
    refine RA.condT rfl ?_
    refine RA.skip env_ok ?_
    intro _
    refine RA.seq hd ?_
    refine RA.block ?_
    refine RA.seq hd ?_
    refine RA.par (md := [some [], some [], some [ig], some [ig], some [], some [], some [jf], some [jf], some []]) env_ok (hd.of (by omega) (kb2 (by omega))) (by kernel_rfl) ?_
    refine PQ.pure (dst := (some 101)) (v := (.slice (some ⟨ig, 0, none⟩) (fine ((l.take i).map cutA)).length 0)) rfl rfl rfl noStore (none_ok _ _) rfl ?_
    refine PQ.pure (dst := (some 102)) (v := (.int .i64 ((kk : Nat) : Int))) rfl rfl rfl noStore (none_ok _ _) rfl ?_
    refine PQ.pure (dst := (some 103)) (v := (Pt ig kk 0)) rfl rfl rfl (app [(ig, some (oAct (fine ((l.take i).map cutA))))] noStore) (seen_one (V := []) (D := [(ig, some (oAct (fine ((l.take i).map cutA)))), (jf, some (oAct (fine ((l.take i).map cutA))))]) (by kernel_rfl) get_here) (r_iaS (l := kk) rfl rfl rfl rfl rfl rfl (by omega) (by omega) get_here rfl (by omega)) ?_
    refine PQ.pure (dst := (some 104)) (v := (.agg ⟨(cAct ((fine ((l.take i).map cutA)).getD kk dAct))⟩)) rfl rfl rfl (app [(ig, some (oAct (fine ((l.take i).map cutA))))] noStore) (seen_one (V := []) (D := [(ig, some (oAct (fine ((l.take i).map cutA)))), (jf, some (oAct (fine ((l.take i).map cutA))))]) (by kernel_rfl) get_here) (r_loadR (c := cAct) dAct rfl rfl rfl rfl get_here (by have := (show (fine ((l.take i).map cutA)).length = (fine ((l.take i).map cutA)).length from rfl); omega) rfl) ?_
    refine PQ.pure (dst := (some 105)) (v := (.slice (some ⟨jf, 0, none⟩) M 0)) rfl rfl rfl noStore (none_ok _ _) rfl ?_
    refine PQ.pure (dst := (some 106)) (v := (.int .i64 ((kk : Nat) : Int))) rfl rfl rfl noStore (none_ok _ _) rfl ?_
    refine PQ.pure (dst := (some 107)) (v := (Pt jf kk 0)) rfl rfl rfl (app [(jf, some (oAct (fine ((l.take i).map cutA))))] noStore) (seen_one (V := []) (D := [(ig, some (oAct (fine ((l.take i).map cutA)))), (jf, some (oAct (fine ((l.take i).map cutA))))]) (by kernel_rfl) (get_there (by omega) get_here)) (r_iaS (l := kk) rfl rfl rfl rfl rfl rfl (by omega) (by omega) get_here rfl (by omega)) ?_
    refine PQ.pure (dst := (some 108)) (v := (.agg ⟨(cAct ((fine ((l.take i).map cutA)).getD kk dAct))⟩)) rfl rfl rfl (app [(jf, some (oAct (fine ((l.take i).map cutA))))] noStore) (seen_one (V := []) (D := [(ig, some (oAct (fine ((l.take i).map cutA)))), (jf, some (oAct (fine ((l.take i).map cutA))))]) (by kernel_rfl) (get_there (by omega) get_here)) (r_loadR (c := cAct) dAct rfl rfl rfl rfl get_here (by rw [hM]; omega) rfl) ?_
    refine PQ.pure (dst := (some 109)) (v := (.bool false)) rfl rfl rfl noStore (none_ok _ _) (r_neqA (r := true) rfl rfl rfl (by kernel_rfl) (aeq_self _ _ _ (by kernel_rfl))) ?_
    refine PQ.done (d := []) (by kernel_rfl) ?_
    intro _
    refine RA.condF rfl ?_
    refine RA.skip env_ok ?_
    intro _
    refine RA.region env_ok ?_
    refine OA.p (some 99) (.int .i64 ((kk : Nat) : Int)) rfl rfl rfl rfl ?_
    refine OA.p (some 100) (.int .i64 (((kk + 1) : Nat) : Int)) rfl rfl rfl (r_bin rfl rfl rfl (b_add (i64_eq (by omega)))) ?_
    refine OA.p (some 11) (.int .i64 (((kk + 1) : Nat) : Int)) rfl rfl rfl rfl ?_
    refine OA.nil ?_
    refine ⟨(M - (kk + 1)), by omega, [(ig, some (oAct (fine ((l.take i).map cutA)))), (jf, some (oAct (fine ((l.take i).map cutA))))], (Less.refl _ _ _), ⟨(kk + 1), rfl, by omega, ⟨rfl, rfl, rfl, trivial⟩, rfl, (kb2 (by omega)), by omega⟩⟩
   ·
    refine OA.p (some 98) (.bool false) rfl rfl rfl (Eq.trans (r_bin rfl rfl rfl (b_lss rfl)) (dF hc11)) ?_
    refine OA.nil ?_
    intro _
    refine RA.condF rfl ?_
    refine RA.exit env_ok ?_
    intro _
    refine RA.seq hd ?_
    refine RA.region env_ok ?_
    refine OA.p (some 2) (.bool true) rfl rfl rfl rfl ?_
    refine OA.nil ?_
    intro _
    refine RA.ret env_ok ?_
    refine ⟨.inr rfl, [(.bool true)], (resL_cons rfl resL_nil), [], (Less.of (fun p hp => by simp at hp) (gone_of (by simp only [goneP, memP, List.cons_append, List.nil_append, true_or, or_true, true_and, and_true, or_false] <;> omega))), rfl⟩
end Go.Proofs.Ytgajcmanompmcaa.Vt
