/- Tr3: walks through functions of the program, by the calculus; written by a program of this workplace. -/
import Derived.Test.YtgajcmanompmcaaTr2
import Derived.Test.YtgajcmanompmcaaVm5
namespace Go.Proofs.Ytgajcmanompmcaa.Vt
open Go Go.Proofs Go.Proofs.YtgajcmanompmcaaV
set_option maxRecDepth 100000
set_option linter.unusedVariables false
set_option linter.unusedSimpArgs false
abbrev xTr31 (s : ByteArray) (p : Nat) : List Value := [(.int .i64 (rdA s p).what), (.int .i64 (rdA s p).host), (.int .i64 (rdA s p).a), (.int .i64 (rdA s p).b), (.int .i64 (rdA s p).c), (.int .i64 (rdA s p).d), (.int .i64 (rdA s p).e), (.int .i64 (rdA s p).f), (.string (rdA s p).s)]
theorem tGet0 {n : Nat} {σ : Store} (hd : Dom n σ) (s : ByteArray) (h0 : s.size = 0)   : CQ Try.prog noDen 15 [(.string s)] n σ (fun v n' d => v = .tuple #[.slice none 0 0, .int .i64 0] ∧ d = []) := by
 have hs' : s.size < 4294967296 := by omega
 refine CQ.body (E := env) env_ok hd rfl rfl (by show _ ≤ _; exact of_decide_eq_true (by kernel_rfl)) ?_
 refine RA.seq hd ?_
 refine RA.region env_ok ?_
 refine OA.p (some 2) (.slice none 0 0) rfl rfl rfl rfl ?_
 refine OA.p (some 3) (.int .i64 0) rfl rfl rfl rfl ?_
 refine OA.nil ?_
 intro _
 refine RA.seq hd ?_
 refine RA.seq hd ?_
 refine RA.region env_ok ?_
 refine OA.p (some 7) (.string s) rfl rfl rfl rfl ?_
 refine OA.p (some 8) (.int .i64 ((s.size : Nat) : Int)) rfl rfl rfl rfl ?_
 have hc1 : ¬ (65536 < ((s.size : Nat) : Int)) := fun hdd => by exfalso; omega
 refine OA.p (some 9) (.bool false) rfl rfl rfl (Eq.trans (r_bin rfl rfl rfl (b_gtr rfl)) (dF hc1)) ?_
 refine OA.nil ?_
 intro _
 refine RA.condF rfl ?_
 refine RA.skip env_ok ?_
 intro _
 refine RA.seq hd ?_
 refine RA.region env_ok ?_
 refine OA.p (some 10) (.string s) rfl rfl rfl rfl ?_
 refine OA.call (dst := (some 11)) (all := [(.string s)]) rfl rfl rfl rfl rfl rfl rfl rfl (CQ.imp (rNew (hd.up (by omega)) s) ?_)
 rintro _ n1 _ ⟨q, hqa, hqb, rfl, rfl⟩ hn1
 refine OA.app1 ?_
 refine OA.p (some 4) (Pt q 0 0) rfl rfl rfl rfl ?_
 refine OA.nil ?_
 intro _
 refine RA.seq hd ?_
 refine RA.region env_ok ?_
 refine OA.p (some 5) (.slice none 0 0) rfl rfl rfl rfl ?_
 refine OA.nil ?_
 intro _
 refine RA.seq hd ?_
 refine RA.block ?_
 refine RA.unroll hd ?_
 refine RA.seq hd ?_
 refine RA.seq hd ?_
 refine RA.region env_ok ?_
 refine OA.p (some 12) (Pt q 0 0) rfl rfl rfl rfl ?_
 refine OA.callP (dst := (some 13)) (all := [(Pt q 0 0)]) (v := (.int .i64 (((s.size - 0) : Nat) : Int))) (hd.of (by omega) (kb1 (by omega))) rfl rfl rfl rfl rfl rfl rfl rfl (tLeft q s 0 get_here) ?_
 intro n2 hn2
 have hc2 : ¬ (0 < (((s.size - 0) : Nat) : Int)) := fun hdd => by exfalso; omega
 refine OA.p (some 14) (.bool false) rfl rfl rfl (Eq.trans (r_bin rfl rfl rfl (b_gtr rfl)) (dF hc2)) ?_
 refine OA.nil ?_
 intro _
 refine RA.condF rfl ?_
 refine RA.exit env_ok ?_
 intro _
 refine RA.seq hd ?_
 refine RA.seq hd ?_
 refine RA.region env_ok ?_
 refine OA.p (some 23) (Pt q 0 0) rfl rfl rfl rfl ?_
 refine OA.callP (dst := (some 24)) (all := [(Pt q 0 0)]) (v := (.int .i64 0)) (hd.of (by omega) (kb1 (by omega))) rfl rfl rfl rfl rfl rfl rfl rfl (rErr q _ 0 get_here) ?_
 intro n3 hn3
 refine OA.p (some 6) (.int .i64 0) rfl rfl rfl rfl ?_
 refine OA.nil ?_
 intro _
 refine RA.seq hd ?_
 refine RA.region env_ok ?_
 refine OA.p (some 25) (.int .i64 0) rfl rfl rfl rfl ?_
 refine OA.p (some 26) (.bool false) rfl rfl rfl (r_bin rfl rfl rfl (b_neq rfl)) ?_
 refine OA.nil ?_
 intro _
 refine RA.condF rfl ?_
 refine RA.skip env_ok ?_
 intro _
 refine RA.seq hd ?_
 refine RA.region env_ok ?_
 refine OA.p (some 28) (.slice none 0 0) rfl rfl rfl rfl ?_
 refine OA.p (some 2) (.slice none 0 0) rfl rfl rfl rfl ?_
 refine OA.p (some 3) (.int .i64 0) rfl rfl rfl rfl ?_
 refine OA.nil ?_
 intro _
 refine RA.ret env_ok ?_
 refine ⟨.inr rfl, [(.slice none 0 0), (.int .i64 0)], (resL_cons rfl (resL_cons rfl resL_nil)), [], (Less.of (fun p hp => by simp at hp) (gone_of (by simp only [goneP, memP, List.cons_append, List.nil_append, true_or, or_true, true_and, and_true, or_false] <;> omega))), ⟨rfl, rfl⟩⟩

theorem tGet {n : Nat} {σ : Store} (hd : Dom n σ) (s : ByteArray) (T : List Act) (hT : trN s s.size 0 = some T) (h0 : s.size ≠ 0) (hs : s.size ≤ 40000)   : CQ Try.prog noDen 15 [(.string s)] n σ (fun v n' d => ∃ i, n ≤ i ∧ i < n' ∧ v = .tuple #[.slice (some ⟨i, 0, none⟩) T.length 0, .int .i64 0] ∧ d = [(i, some (oAct T))]) := by
 have hs' : s.size < 4294967296 := by omega
 refine CQ.body (E := env) env_ok hd rfl rfl (by show _ ≤ _; exact of_decide_eq_true (by kernel_rfl)) ?_
 refine RA.seq hd ?_
 refine RA.region env_ok ?_
 refine OA.p (some 2) (.slice none 0 0) rfl rfl rfl rfl ?_
 refine OA.p (some 3) (.int .i64 0) rfl rfl rfl rfl ?_
 refine OA.nil ?_
 intro _
 refine RA.seq hd ?_
 refine RA.seq hd ?_
 refine RA.region env_ok ?_
 refine OA.p (some 7) (.string s) rfl rfl rfl rfl ?_
 refine OA.p (some 8) (.int .i64 ((s.size : Nat) : Int)) rfl rfl rfl rfl ?_
 have hc1 : ¬ (65536 < ((s.size : Nat) : Int)) := fun hdd => by exfalso; omega
 refine OA.p (some 9) (.bool false) rfl rfl rfl (Eq.trans (r_bin rfl rfl rfl (b_gtr rfl)) (dF hc1)) ?_
 refine OA.nil ?_
 intro _
 refine RA.condF rfl ?_
 refine RA.skip env_ok ?_
 intro _
 refine RA.seq hd ?_
 refine RA.region env_ok ?_
 refine OA.p (some 10) (.string s) rfl rfl rfl rfl ?_
 refine OA.call (dst := (some 11)) (all := [(.string s)]) rfl rfl rfl rfl rfl rfl rfl rfl (CQ.imp (rNew (hd.up (by omega)) s) ?_)
 rintro _ n1 _ ⟨q, hqa, hqb, rfl, rfl⟩ hn1
 refine OA.app1 ?_
 refine OA.p (some 4) (Pt q 0 0) rfl rfl rfl rfl ?_
 refine OA.nil ?_
 intro _
 refine RA.seq hd ?_
 refine RA.region env_ok ?_
 refine OA.p (some 5) (.slice none 0 0) rfl rfl rfl rfl ?_
 refine OA.nil ?_
 intro _
 refine RA.seq hd ?_
 refine RA.block ?_
 refine RA.loop hd (fun kk_ τ n' D => (kk_ = (s.size + 1) ∧ n1 ≤ n' ∧ Has τ [(4, (Pt q 0 0)), (5, (.slice none 0 0))] ∧ D = [(q, some ⟨[[(.string (s.extract 0 s.size)), (.int .i64 0)]], 2, 121, true⟩)] ∧ (∀ i ∈ keys D, i < n') ∧ 0 ≤ n) ∨ (∃ p : Nat, ∃ N : Nat, ∃ l : List Act, ∃ j : Nat, ∃ K : Nat, ∃ rest : List Act, kk_ = (s.size - p) ∧ n1 ≤ n' ∧ Has τ [(4, (Pt q 0 0)), (5, (.slice (some ⟨j, 0, none⟩) N 0))] ∧ D = [(q, some ⟨[[(.string (s.extract p s.size)), (.int .i64 0)]], 2, 121, true⟩), (j, some (oAct l))] ∧ (∀ i ∈ keys D, i < n') ∧ l.length = N ∧ trN s K p = some rest ∧ l ++ rest = T ∧ p ≤ s.size ∧ 31 * N ≤ p ∧ n ≤ j ∧ q ≠ j)) ((s.size + 1)) (.inl (⟨rfl, by omega, ⟨rfl, rfl, trivial⟩, rfl, (kb1 (by omega)), by omega⟩)) ?_
 rintro kn2 τ2 n2 Dn2 hSn2
 rcases hSn2 with ⟨rfl, hn2, hHn2, rfl, hKn2, hIn2⟩ | ⟨p, N, l, j, K, rest, rfl, hn2, hHn2, rfl, hKn2, hIn2⟩
 ·
  rw [Has.eq hHn2]
  have hKn2_0 : q < n2 := hKn2 _ (by simp only [keys, List.map_cons, List.map_nil, List.mem_cons, true_or, or_true])
  clear hKn2
  refine RA.seq hd ?_
  refine RA.seq hd ?_
  refine RA.region env_ok ?_
  refine OA.p (some 12) (Pt q 0 0) rfl rfl rfl rfl ?_
  refine OA.callP (dst := (some 13)) (all := [(Pt q 0 0)]) (v := (.int .i64 (((s.size - 0) : Nat) : Int))) (hd.of (by omega) (kb1 (by omega))) rfl rfl rfl rfl rfl rfl rfl rfl (tLeft q s 0 get_here) ?_
  intro n3 hn3
  have hc2 : 0 < (((s.size - 0) : Nat) : Int) := Classical.byContradiction (fun hdd => by exfalso; omega)
  obtain ⟨hv, K1, r1, e1, e2⟩ := tr_step hT (by omega)
  obtain ⟨hv1, hv2⟩ := id hv
  have hnx : nx s 0 = 0 + 31 + at_ s (0 + 29) 2 := rfl
  refine OA.p (some 14) (.bool true) rfl rfl rfl (Eq.trans (r_bin rfl rfl rfl (b_gtr rfl)) (dT hc2)) ?_
  refine OA.nil ?_
  intro _
  refine RA.condT rfl ?_
  refine RA.skip env_ok ?_
  intro _
  refine RA.block ?_
  refine RA.seq hd ?_
  refine RA.seq hd ?_
  refine RA.region env_ok ?_
  refine OA.p (some 15) (.slice none 0 0) rfl rfl rfl rfl ?_
  refine OA.p (some 16) (.int .i64 0) rfl rfl rfl rfl ?_
  refine OA.p (some 17) (.bool false) rfl rfl rfl (r_bin rfl rfl rfl (b_eql rfl)) ?_
  refine OA.nil ?_
  intro _
  refine RA.condF rfl ?_
  refine RA.skip env_ok ?_
  intro _
  refine RA.region env_ok ?_
  refine OA.p (some 18) (.slice none 0 0) rfl rfl rfl rfl ?_
  refine OA.p (some 19) (Pt q 0 0) rfl rfl rfl rfl ?_
  refine OA.call (dst := (some 20)) (all := [(Pt q 0 0)]) rfl rfl rfl rfl rfl rfl rfl rfl (CQ.imp (tTake (hd.of (by omega) (kb1 (by omega))) q s 0 hv hs' get_here) ?_)
  rintro _ n4 _ ⟨rfl, rfl⟩ hn4
  refine OA.app1 ?_
  refine OA.op1 (dst := (some 21)) (v := (.slice (some ⟨n4, 0, none⟩) 1 0)) (n1 := (n4 + 1)) (w := (n4, some ⟨[[(.int .i64 (rdA s 0).what), (.int .i64 (rdA s 0).host), (.int .i64 (rdA s 0).a), (.int .i64 (rdA s 0).b), (.int .i64 (rdA s 0).c), (.int .i64 (rdA s 0).d), (.int .i64 (rdA s 0).e), (.int .i64 (rdA s 0).f), (.string (rdA s 0).s)]], 9, 24, true⟩)) rfl rfl rfl (by kernel_rfl) (by omega) ?_
  refine OA.op1 (dst := (some 22)) (v := (.slice (some ⟨(n4 + 1), 0, none⟩) 1 0)) (n1 := (n4 + 2)) (w := ((n4 + 1), some (oAct [(rdA s 0)]))) rfl rfl rfl (r_append0R (c := cAct) (x := (rdA s 0)) rfl rfl rfl rfl rfl rfl rfl rfl rfl rfl (by decide) get_here (of_decide_eq_true (by kernel_rfl))) (by omega) ?_
  refine OA.p (some 5) (.slice (some ⟨(n4 + 1), 0, none⟩) 1 0) rfl rfl rfl rfl ?_
  refine OA.nil ?_
  refine ⟨(s.size - (nx s 0)), by omega, [(q, some ⟨[[(.string (s.extract (nx s 0) s.size)), (.int .i64 0)]], 2, 121, true⟩), ((n4 + 1), some (oAct [(rdA s 0)]))], (Less.of (fac (mm (fun _ => get_here) (fun _ => (gt2 (by omega) get_here))) (fac (mm (fun _ => (get_there (by omega) get_here)) (fun _ => get_here)) fan)) (gone_of (by simp only [goneP, memP, List.cons_append, List.nil_append, true_or, or_true, true_and, and_true, or_false] <;> omega))), .inr (⟨(nx s 0), 1, [(rdA s 0)], (n4 + 1), K1, r1, rfl, by omega, ⟨rfl, rfl, trivial⟩, rfl, (kb2 (by omega)), ⟨rfl, e2, e1.symm, by omega, by omega, by omega, by omega⟩⟩)⟩
 ·
  rw [Has.eq hHn2]
  have hKn2_0 : q < n2 := hKn2 _ (by simp only [keys, List.map_cons, List.map_nil, List.mem_cons, true_or, or_true])
  have hKn2_1 : j < n2 := hKn2 _ (by simp only [keys, List.map_cons, List.map_nil, List.mem_cons, true_or, or_true])
  clear hKn2
  obtain ⟨hl, hTB, hlr, hp, hN31, hj1, hqj⟩ := hIn2
  refine RA.seq hd ?_
  refine RA.seq hd ?_
  refine RA.region env_ok ?_
  refine OA.p (some 12) (Pt q 0 0) rfl rfl rfl rfl ?_
  refine OA.callP (dst := (some 13)) (all := [(Pt q 0 0)]) (v := (.int .i64 (((s.size - p) : Nat) : Int))) (hd.of (by omega) (kb2 (by omega))) rfl rfl rfl rfl rfl rfl rfl rfl (tLeft q s p get_here) ?_
  intro n5 hn5
  by_cases hc3 : 0 < (((s.size - p) : Nat) : Int)
  ·
   obtain ⟨hv, K1, r1, e1, e2⟩ := tr_step hTB (by omega)
   obtain ⟨hv1, hv2⟩ := id hv
   have hnx : nx s p = p + 31 + at_ s (p + 29) 2 := rfl
   refine OA.p (some 14) (.bool true) rfl rfl rfl (Eq.trans (r_bin rfl rfl rfl (b_gtr rfl)) (dT hc3)) ?_
   refine OA.nil ?_
   intro _
   refine RA.condT rfl ?_
   refine RA.skip env_ok ?_
   intro _
   refine RA.block ?_
   refine RA.seq hd ?_
   refine RA.seq hd ?_
   refine RA.region env_ok ?_
   refine OA.p (some 15) (.slice (some ⟨j, 0, none⟩) N 0) rfl rfl rfl rfl ?_
   refine OA.p (some 16) (.int .i64 ((N : Nat) : Int)) rfl rfl rfl rfl ?_
   have hc4 : ¬ (((N : Nat) : Int) = 2000) := fun hdd => by exfalso; omega
   refine OA.p (some 17) (.bool false) rfl rfl rfl (Eq.trans (r_bin rfl rfl rfl (b_eql rfl)) (dF hc4)) ?_
   refine OA.nil ?_
   intro _
   refine RA.condF rfl ?_
   refine RA.skip env_ok ?_
   intro _
   refine RA.region env_ok ?_
   refine OA.p (some 18) (.slice (some ⟨j, 0, none⟩) N 0) rfl rfl rfl rfl ?_
   refine OA.p (some 19) (Pt q 0 0) rfl rfl rfl rfl ?_
   refine OA.call (dst := (some 20)) (all := [(Pt q 0 0)]) rfl rfl rfl rfl rfl rfl rfl rfl (CQ.imp (tTake (hd.of (by omega) (kb2 (by omega))) q s p hv hs' get_here) ?_)
   rintro _ n6 _ ⟨rfl, rfl⟩ hn6
   refine OA.app1 ?_
   refine OA.op1 (dst := (some 21)) (v := (.slice (some ⟨n6, 0, none⟩) 1 0)) (n1 := (n6 + 1)) (w := (n6, some ⟨[(xTr31 s p)], 9, 24, true⟩)) rfl rfl rfl (by kernel_rfl) (by omega) ?_
   refine OA.op (dst := (some 22)) (v := (.slice (some ⟨(n6 + 1), 0, none⟩) (N + 1) 0)) (n1 := (n6 + 2)) (d1 := [((n6 + 1), some (oAct (l ++ [(rdA s p)]))), (j, none)]) (D' := [((n6 + 1), some (oAct (l ++ [(rdA s p)]))), (j, none), (n6, some ⟨[(xTr31 s p)], 9, 24, true⟩), (q, some ⟨[[(.string (s.extract (nx s p) s.size)), (.int .i64 0)]], 2, 121, true⟩), (q, some ⟨[[(.string (s.extract p s.size)), (.int .i64 0)]], 2, 121, true⟩), (j, some (oAct l))]) rfl rfl rfl (r_appendR (c := cAct) (l' := (l ++ [(rdA s p)])) rfl rfl rfl rfl rfl rfl rfl rfl rfl rfl (by decide) (gt3 (by omega) get_here) get_here (by rw [hl]) (mp_snoc (c := cAct) (x := (rdA s p))) (by omega) (of_decide_eq_true (by kernel_rfl)) (by omega)) (by omega) rfl ?_
   refine OA.p (some 5) (.slice (some ⟨(n6 + 1), 0, none⟩) (N + 1) 0) rfl rfl rfl rfl ?_
   refine OA.nil ?_
   refine ⟨(s.size - (nx s p)), by omega, [(q, some ⟨[[(.string (s.extract (nx s p) s.size)), (.int .i64 0)]], 2, 121, true⟩), ((n6 + 1), some (oAct (l ++ [(rdA s p)])))], (Less.of (fac (mm (fun _ => get_here) (fun _ => (gt3 (by omega) get_here))) (fac (mm (fun _ => (get_there (by omega) get_here)) (fun _ => get_here)) fan)) (gone_of (by simp only [goneP, memP, List.cons_append, List.nil_append, true_or, or_true, true_and, and_true, or_false] <;> omega))), .inr (⟨(nx s p), (N + 1), (l ++ [(rdA s p)]), (n6 + 1), K1, r1, rfl, by omega, ⟨rfl, rfl, trivial⟩, rfl, (kb2 (by omega)), ⟨by rw [List.length_append, hl]; rfl, e2, by rw [List.append_assoc, ← hlr, e1]; rfl, by omega, by omega, by omega, by omega⟩⟩)⟩
  ·
   have hpz : p = s.size := by omega
   rw [hpz] at hTB
   have hre : rest = [] := Option.some.inj (tr_end hTB)
   have hlT : l = T := by rw [hre, List.append_nil] at hlr; exact hlr
   refine OA.p (some 14) (.bool false) rfl rfl rfl (Eq.trans (r_bin rfl rfl rfl (b_gtr rfl)) (dF hc3)) ?_
   refine OA.nil ?_
   intro _
   refine RA.condF rfl ?_
   refine RA.exit env_ok ?_
   intro _
   refine RA.seq hd ?_
   refine RA.seq hd ?_
   refine RA.region env_ok ?_
   refine OA.p (some 23) (Pt q 0 0) rfl rfl rfl rfl ?_
   refine OA.callP (dst := (some 24)) (all := [(Pt q 0 0)]) (v := (.int .i64 0)) (hd.of (by omega) (kb2 (by omega))) rfl rfl rfl rfl rfl rfl rfl rfl (rErr q _ 0 get_here) ?_
   intro n7 hn7
   refine OA.p (some 6) (.int .i64 0) rfl rfl rfl rfl ?_
   refine OA.nil ?_
   intro _
   refine RA.seq hd ?_
   refine RA.region env_ok ?_
   refine OA.p (some 25) (.int .i64 0) rfl rfl rfl rfl ?_
   refine OA.p (some 26) (.bool false) rfl rfl rfl (r_bin rfl rfl rfl (b_neq rfl)) ?_
   refine OA.nil ?_
   intro _
   refine RA.condF rfl ?_
   refine RA.skip env_ok ?_
   intro _
   refine RA.seq hd ?_
   refine RA.region env_ok ?_
   refine OA.p (some 28) (.slice (some ⟨j, 0, none⟩) N 0) rfl rfl rfl rfl ?_
   refine OA.p (some 2) (.slice (some ⟨j, 0, none⟩) N 0) rfl rfl rfl rfl ?_
   refine OA.p (some 3) (.int .i64 0) rfl rfl rfl rfl ?_
   refine OA.nil ?_
   intro _
   refine RA.ret env_ok ?_
   refine ⟨.inr rfl, [(.slice (some ⟨j, 0, none⟩) N 0), (.int .i64 0)], (resL_cons rfl (resL_cons rfl resL_nil)), [(j, some (oAct l))], (Less.of (fac (mm (fun _ => get_here) (fun _ => (get_there (by omega) get_here))) fan) (gone_of (by simp only [goneP, memP, List.cons_append, List.nil_append, true_or, or_true, true_and, and_true, or_false] <;> omega))), ⟨j, by omega, by omega, by rw [← hlT, hl]; rfl, by rw [hlT]⟩⟩

theorem tGetN {n : Nat} {σ : Store} (hd : Dom n σ) (s : ByteArray) (hT : trN s s.size 0 = none) (h0 : s.size ≠ 0) (hs : s.size ≤ 40000)   : CQ Try.prog noDen 15 [(.string s)] n σ (fun v n' d => v = .tuple #[.slice none 0 0, .int .i64 2] ∧ d = []) := by
 have hs' : s.size < 4294967296 := by omega
 refine CQ.body (E := env) env_ok hd rfl rfl (by show _ ≤ _; exact of_decide_eq_true (by kernel_rfl)) ?_
 refine RA.seq hd ?_
 refine RA.region env_ok ?_
 refine OA.p (some 2) (.slice none 0 0) rfl rfl rfl rfl ?_
 refine OA.p (some 3) (.int .i64 0) rfl rfl rfl rfl ?_
 refine OA.nil ?_
 intro _
 refine RA.seq hd ?_
 refine RA.seq hd ?_
 refine RA.region env_ok ?_
 refine OA.p (some 7) (.string s) rfl rfl rfl rfl ?_
 refine OA.p (some 8) (.int .i64 ((s.size : Nat) : Int)) rfl rfl rfl rfl ?_
 have hc1 : ¬ (65536 < ((s.size : Nat) : Int)) := fun hdd => by exfalso; first | omega | (have hpz : p = s.size := (by omega); rw [hpz] at hTB; exact nomatch (tr_end hTB))
 refine OA.p (some 9) (.bool false) rfl rfl rfl (Eq.trans (r_bin rfl rfl rfl (b_gtr rfl)) (dF hc1)) ?_
 refine OA.nil ?_
 intro _
 refine RA.condF rfl ?_
 refine RA.skip env_ok ?_
 intro _
 refine RA.seq hd ?_
 refine RA.region env_ok ?_
 refine OA.p (some 10) (.string s) rfl rfl rfl rfl ?_
 refine OA.call (dst := (some 11)) (all := [(.string s)]) rfl rfl rfl rfl rfl rfl rfl rfl (CQ.imp (rNew (hd.up (by omega)) s) ?_)
 rintro _ n1 _ ⟨q, hqa, hqb, rfl, rfl⟩ hn1
 refine OA.app1 ?_
 refine OA.p (some 4) (Pt q 0 0) rfl rfl rfl rfl ?_
 refine OA.nil ?_
 intro _
 refine RA.seq hd ?_
 refine RA.region env_ok ?_
 refine OA.p (some 5) (.slice none 0 0) rfl rfl rfl rfl ?_
 refine OA.nil ?_
 intro _
 refine RA.seq hd ?_
 refine RA.block ?_
 refine RA.loop hd (fun kk_ τ n' D => (kk_ = (s.size + 2) ∧ n1 ≤ n' ∧ Has τ [(4, (Pt q 0 0)), (5, (.slice none 0 0))] ∧ D = [(q, some ⟨[[(.string (s.extract 0 s.size)), (.int .i64 0)]], 2, 121, true⟩)] ∧ (∀ i ∈ keys D, i < n') ∧ 0 ≤ n) ∨ (∃ p : Nat, ∃ N : Nat, ∃ l : List Act, ∃ j : Nat, ∃ K : Nat, kk_ = (s.size - p + 1) ∧ n1 ≤ n' ∧ Has τ [(4, (Pt q 0 0)), (5, (.slice (some ⟨j, 0, none⟩) N 0))] ∧ D = [(q, some ⟨[[(.string (s.extract p s.size)), (.int .i64 0)]], 2, 121, true⟩), (j, some (oAct l))] ∧ (∀ i ∈ keys D, i < n') ∧ l.length = N ∧ trN s K p = none ∧ s.size ≤ K + p ∧ p ≤ s.size ∧ 31 * N ≤ p ∧ n ≤ j ∧ q ≠ j) ∨ (∃ t : ByteArray, ∃ N : Nat, ∃ l : List Act, ∃ j : Nat, kk_ = 0 ∧ n1 ≤ n' ∧ Has τ [(4, (Pt q 0 0)), (5, (.slice (some ⟨j, 0, none⟩) N 0))] ∧ D = [(q, some ⟨[[(.string t), (.int .i64 2)]], 2, 121, true⟩), (j, some (oAct l))] ∧ (∀ i ∈ keys D, i < n') ∧ l.length = N ∧ n ≤ j)) ((s.size + 2)) (.inl (⟨rfl, by omega, ⟨rfl, rfl, trivial⟩, rfl, (kb1 (by omega)), by omega⟩)) ?_
 rintro kn2 τ2 n2 Dn2 hSn2
 rcases hSn2 with ⟨rfl, hn2, hHn2, rfl, hKn2, hIn2⟩ | ⟨p, N, l, j, K, rfl, hn2, hHn2, rfl, hKn2, hIn2⟩ | ⟨t, N, l, j, rfl, hn2, hHn2, rfl, hKn2, hIn2⟩
 ·
  rw [Has.eq hHn2]
  have hKn2_0 : q < n2 := hKn2 _ (by simp only [keys, List.map_cons, List.map_nil, List.mem_cons, true_or, or_true])
  clear hKn2
  refine RA.seq hd ?_
  refine RA.seq hd ?_
  refine RA.region env_ok ?_
  refine OA.p (some 12) (Pt q 0 0) rfl rfl rfl rfl ?_
  refine OA.callP (dst := (some 13)) (all := [(Pt q 0 0)]) (v := (.int .i64 (((s.size - 0) : Nat) : Int))) (hd.of (by omega) (kb1 (by omega))) rfl rfl rfl rfl rfl rfl rfl rfl (tLeft q s 0 get_here) ?_
  intro n3 hn3
  have hc2 : 0 < (((s.size - 0) : Nat) : Int) := Classical.byContradiction (fun hdd => by exfalso; first | omega | (have hpz : p = s.size := (by omega); rw [hpz] at hTB; exact nomatch (tr_end hTB)))
  refine OA.p (some 14) (.bool true) rfl rfl rfl (Eq.trans (r_bin rfl rfl rfl (b_gtr rfl)) (dT hc2)) ?_
  refine OA.nil ?_
  intro _
  refine RA.condT rfl ?_
  refine RA.skip env_ok ?_
  intro _
  refine RA.block ?_
  refine RA.seq hd ?_
  refine RA.seq hd ?_
  refine RA.region env_ok ?_
  refine OA.p (some 15) (.slice none 0 0) rfl rfl rfl rfl ?_
  refine OA.p (some 16) (.int .i64 0) rfl rfl rfl rfl ?_
  refine OA.p (some 17) (.bool false) rfl rfl rfl (r_bin rfl rfl rfl (b_eql rfl)) ?_
  refine OA.nil ?_
  intro _
  refine RA.condF rfl ?_
  refine RA.skip env_ok ?_
  intro _
  refine RA.region env_ok ?_
  refine OA.p (some 18) (.slice none 0 0) rfl rfl rfl rfl ?_
  refine OA.p (some 19) (Pt q 0 0) rfl rfl rfl rfl ?_
  by_cases hc3 : vld s 0
  ·
   obtain ⟨K1, e2, e3⟩ := tr_none hT (by omega) (by omega) hc3
   obtain ⟨hv1, hv2⟩ := id hc3
   have hnx : nx s 0 = 0 + 31 + at_ s (0 + 29) 2 := rfl
   refine OA.call (dst := (some 20)) (all := [(Pt q 0 0)]) rfl rfl rfl rfl rfl rfl rfl rfl (CQ.imp (tTake (hd.of (by omega) (kb1 (by omega))) q s 0 hc3 hs' get_here) ?_)
   rintro _ n4 _ ⟨rfl, rfl⟩ hn4
   refine OA.app1 ?_
   refine OA.op1 (dst := (some 21)) (v := (.slice (some ⟨n4, 0, none⟩) 1 0)) (n1 := (n4 + 1)) (w := (n4, some ⟨[[(.int .i64 (rdA s 0).what), (.int .i64 (rdA s 0).host), (.int .i64 (rdA s 0).a), (.int .i64 (rdA s 0).b), (.int .i64 (rdA s 0).c), (.int .i64 (rdA s 0).d), (.int .i64 (rdA s 0).e), (.int .i64 (rdA s 0).f), (.string (rdA s 0).s)]], 9, 24, true⟩)) rfl rfl rfl (by kernel_rfl) (by omega) ?_
   refine OA.op1 (dst := (some 22)) (v := (.slice (some ⟨(n4 + 1), 0, none⟩) 1 0)) (n1 := (n4 + 2)) (w := ((n4 + 1), some (oAct [(rdA s 0)]))) rfl rfl rfl (r_append0R (c := cAct) (x := (rdA s 0)) rfl rfl rfl rfl rfl rfl rfl rfl rfl rfl (by decide) get_here (of_decide_eq_true (by kernel_rfl))) (by omega) ?_
   refine OA.p (some 5) (.slice (some ⟨(n4 + 1), 0, none⟩) 1 0) rfl rfl rfl rfl ?_
   refine OA.nil ?_
   refine ⟨(s.size - (nx s 0) + 1), by omega, [(q, some ⟨[[(.string (s.extract (nx s 0) s.size)), (.int .i64 0)]], 2, 121, true⟩), ((n4 + 1), some (oAct [(rdA s 0)]))], (Less.of (fac (mm (fun _ => get_here) (fun _ => (gt2 (by omega) get_here))) (fac (mm (fun _ => (get_there (by omega) get_here)) (fun _ => get_here)) fan)) (gone_of (by simp only [goneP, memP, List.cons_append, List.nil_append, true_or, or_true, true_and, and_true, or_false] <;> omega))), .inr (.inl (⟨(nx s 0), 1, [(rdA s 0)], (n4 + 1), K1, rfl, by omega, ⟨rfl, rfl, trivial⟩, rfl, (kb2 (by omega)), ⟨rfl, e2, e3, by omega, by omega, by omega, by omega⟩⟩))⟩
  ·
   refine OA.call (dst := (some 20)) (all := [(Pt q 0 0)]) rfl rfl rfl rfl rfl rfl rfl rfl (CQ.imp (tTakeS (hd.of (by omega) (kb1 (by omega))) q s 0 (by omega) hc3 hs' get_here) ?_)
   rintro _ n5 _ ⟨xn5, tn5, rfl, rfl⟩ hn5
   refine OA.app1 ?_
   refine OA.op1 (dst := (some 21)) (v := (.slice (some ⟨n5, 0, none⟩) 1 0)) (n1 := (n5 + 1)) (w := (n5, some ⟨[[(.int .i64 xn5.what), (.int .i64 xn5.host), (.int .i64 xn5.a), (.int .i64 xn5.b), (.int .i64 xn5.c), (.int .i64 xn5.d), (.int .i64 xn5.e), (.int .i64 xn5.f), (.string xn5.s)]], 9, 24, true⟩)) rfl rfl rfl (by kernel_rfl) (by omega) ?_
   refine OA.op1 (dst := (some 22)) (v := (.slice (some ⟨(n5 + 1), 0, none⟩) 1 0)) (n1 := (n5 + 2)) (w := ((n5 + 1), some (oAct [xn5]))) rfl rfl rfl (r_append0R (c := cAct) (x := xn5) rfl rfl rfl rfl rfl rfl rfl rfl rfl rfl (by decide) get_here (of_decide_eq_true (by kernel_rfl))) (by omega) ?_
   refine OA.p (some 5) (.slice (some ⟨(n5 + 1), 0, none⟩) 1 0) rfl rfl rfl rfl ?_
   refine OA.nil ?_
   refine ⟨0, by omega, [(q, some ⟨[[(.string tn5), (.int .i64 2)]], 2, 121, true⟩), ((n5 + 1), some (oAct [xn5]))], (Less.of (fac (mm (fun _ => get_here) (fun _ => (gt2 (by omega) get_here))) (fac (mm (fun _ => (get_there (by omega) get_here)) (fun _ => get_here)) fan)) (gone_of (by simp only [goneP, memP, List.cons_append, List.nil_append, true_or, or_true, true_and, and_true, or_false] <;> omega))), .inr (.inr (⟨tn5, 1, [xn5], (n5 + 1), rfl, by omega, ⟨rfl, rfl, trivial⟩, rfl, (kb2 (by omega)), ⟨rfl, by omega⟩⟩))⟩
 ·
  rw [Has.eq hHn2]
  have hKn2_0 : q < n2 := hKn2 _ (by simp only [keys, List.map_cons, List.map_nil, List.mem_cons, true_or, or_true])
  have hKn2_1 : j < n2 := hKn2 _ (by simp only [keys, List.map_cons, List.map_nil, List.mem_cons, true_or, or_true])
  clear hKn2
  obtain ⟨hl, hTB, hKp, hp, hN31, hj1, hqj⟩ := hIn2
  refine RA.seq hd ?_
  refine RA.seq hd ?_
  refine RA.region env_ok ?_
  refine OA.p (some 12) (Pt q 0 0) rfl rfl rfl rfl ?_
  refine OA.callP (dst := (some 13)) (all := [(Pt q 0 0)]) (v := (.int .i64 (((s.size - p) : Nat) : Int))) (hd.of (by omega) (kb2 (by omega))) rfl rfl rfl rfl rfl rfl rfl rfl (tLeft q s p get_here) ?_
  intro n6 hn6
  have hc4 : 0 < (((s.size - p) : Nat) : Int) := Classical.byContradiction (fun hdd => by exfalso; first | omega | (have hpz : p = s.size := (by omega); rw [hpz] at hTB; exact nomatch (tr_end hTB)))
  refine OA.p (some 14) (.bool true) rfl rfl rfl (Eq.trans (r_bin rfl rfl rfl (b_gtr rfl)) (dT hc4)) ?_
  refine OA.nil ?_
  intro _
  refine RA.condT rfl ?_
  refine RA.skip env_ok ?_
  intro _
  refine RA.block ?_
  refine RA.seq hd ?_
  refine RA.seq hd ?_
  refine RA.region env_ok ?_
  refine OA.p (some 15) (.slice (some ⟨j, 0, none⟩) N 0) rfl rfl rfl rfl ?_
  refine OA.p (some 16) (.int .i64 ((N : Nat) : Int)) rfl rfl rfl rfl ?_
  have hc5 : ¬ (((N : Nat) : Int) = 2000) := fun hdd => by exfalso; first | omega | (have hpz : p = s.size := (by omega); rw [hpz] at hTB; exact nomatch (tr_end hTB))
  refine OA.p (some 17) (.bool false) rfl rfl rfl (Eq.trans (r_bin rfl rfl rfl (b_eql rfl)) (dF hc5)) ?_
  refine OA.nil ?_
  intro _
  refine RA.condF rfl ?_
  refine RA.skip env_ok ?_
  intro _
  refine RA.region env_ok ?_
  refine OA.p (some 18) (.slice (some ⟨j, 0, none⟩) N 0) rfl rfl rfl rfl ?_
  refine OA.p (some 19) (Pt q 0 0) rfl rfl rfl rfl ?_
  by_cases hc6 : vld s p
  ·
   obtain ⟨K1, e2, e3⟩ := tr_none hTB (by omega) (by omega) hc6
   obtain ⟨hv1, hv2⟩ := id hc6
   have hnx : nx s p = p + 31 + at_ s (p + 29) 2 := rfl
   refine OA.call (dst := (some 20)) (all := [(Pt q 0 0)]) rfl rfl rfl rfl rfl rfl rfl rfl (CQ.imp (tTake (hd.of (by omega) (kb2 (by omega))) q s p hc6 hs' get_here) ?_)
   rintro _ n7 _ ⟨rfl, rfl⟩ hn7
   refine OA.app1 ?_
   refine OA.op1 (dst := (some 21)) (v := (.slice (some ⟨n7, 0, none⟩) 1 0)) (n1 := (n7 + 1)) (w := (n7, some ⟨[(xTr31 s p)], 9, 24, true⟩)) rfl rfl rfl (by kernel_rfl) (by omega) ?_
   refine OA.op (dst := (some 22)) (v := (.slice (some ⟨(n7 + 1), 0, none⟩) (N + 1) 0)) (n1 := (n7 + 2)) (d1 := [((n7 + 1), some (oAct (l ++ [(rdA s p)]))), (j, none)]) (D' := [((n7 + 1), some (oAct (l ++ [(rdA s p)]))), (j, none), (n7, some ⟨[(xTr31 s p)], 9, 24, true⟩), (q, some ⟨[[(.string (s.extract (nx s p) s.size)), (.int .i64 0)]], 2, 121, true⟩), (q, some ⟨[[(.string (s.extract p s.size)), (.int .i64 0)]], 2, 121, true⟩), (j, some (oAct l))]) rfl rfl rfl (r_appendR (c := cAct) (l' := (l ++ [(rdA s p)])) rfl rfl rfl rfl rfl rfl rfl rfl rfl rfl (by decide) (gt3 (by omega) get_here) get_here (by rw [hl]) (mp_snoc (c := cAct) (x := (rdA s p))) (by omega) (of_decide_eq_true (by kernel_rfl)) (by omega)) (by omega) rfl ?_
   refine OA.p (some 5) (.slice (some ⟨(n7 + 1), 0, none⟩) (N + 1) 0) rfl rfl rfl rfl ?_
   refine OA.nil ?_
   refine ⟨(s.size - (nx s p) + 1), by omega, [(q, some ⟨[[(.string (s.extract (nx s p) s.size)), (.int .i64 0)]], 2, 121, true⟩), ((n7 + 1), some (oAct (l ++ [(rdA s p)])))], (Less.of (fac (mm (fun _ => get_here) (fun _ => (gt3 (by omega) get_here))) (fac (mm (fun _ => (get_there (by omega) get_here)) (fun _ => get_here)) fan)) (gone_of (by simp only [goneP, memP, List.cons_append, List.nil_append, true_or, or_true, true_and, and_true, or_false] <;> omega))), .inr (.inl (⟨(nx s p), (N + 1), (l ++ [(rdA s p)]), (n7 + 1), K1, rfl, by omega, ⟨rfl, rfl, trivial⟩, rfl, (kb2 (by omega)), ⟨by rw [List.length_append, hl]; rfl, e2, e3, by omega, by omega, by omega, by omega⟩⟩))⟩
  ·
   refine OA.call (dst := (some 20)) (all := [(Pt q 0 0)]) rfl rfl rfl rfl rfl rfl rfl rfl (CQ.imp (tTakeS (hd.of (by omega) (kb2 (by omega))) q s p (by omega) hc6 hs' get_here) ?_)
   rintro _ n8 _ ⟨xn8, tn8, rfl, rfl⟩ hn8
   refine OA.app1 ?_
   refine OA.op1 (dst := (some 21)) (v := (.slice (some ⟨n8, 0, none⟩) 1 0)) (n1 := (n8 + 1)) (w := (n8, some ⟨[[(.int .i64 xn8.what), (.int .i64 xn8.host), (.int .i64 xn8.a), (.int .i64 xn8.b), (.int .i64 xn8.c), (.int .i64 xn8.d), (.int .i64 xn8.e), (.int .i64 xn8.f), (.string xn8.s)]], 9, 24, true⟩)) rfl rfl rfl (by kernel_rfl) (by omega) ?_
   refine OA.op (dst := (some 22)) (v := (.slice (some ⟨(n8 + 1), 0, none⟩) (N + 1) 0)) (n1 := (n8 + 2)) (d1 := [((n8 + 1), some (oAct (l ++ [xn8]))), (j, none)]) (D' := [((n8 + 1), some (oAct (l ++ [xn8]))), (j, none), (n8, some ⟨[[(.int .i64 xn8.what), (.int .i64 xn8.host), (.int .i64 xn8.a), (.int .i64 xn8.b), (.int .i64 xn8.c), (.int .i64 xn8.d), (.int .i64 xn8.e), (.int .i64 xn8.f), (.string xn8.s)]], 9, 24, true⟩), (q, some ⟨[[(.string tn8), (.int .i64 2)]], 2, 121, true⟩), (q, some ⟨[[(.string (s.extract p s.size)), (.int .i64 0)]], 2, 121, true⟩), (j, some (oAct l))]) rfl rfl rfl (r_appendR (c := cAct) (l' := (l ++ [xn8])) rfl rfl rfl rfl rfl rfl rfl rfl rfl rfl (by decide) (gt3 (by omega) get_here) get_here (by rw [hl]) (mp_snoc (c := cAct) (x := xn8)) (by omega) (of_decide_eq_true (by kernel_rfl)) (by omega)) (by omega) rfl ?_
   refine OA.p (some 5) (.slice (some ⟨(n8 + 1), 0, none⟩) (N + 1) 0) rfl rfl rfl rfl ?_
   refine OA.nil ?_
   refine ⟨0, by omega, [(q, some ⟨[[(.string tn8), (.int .i64 2)]], 2, 121, true⟩), ((n8 + 1), some (oAct (l ++ [xn8])))], (Less.of (fac (mm (fun _ => get_here) (fun _ => (gt3 (by omega) get_here))) (fac (mm (fun _ => (get_there (by omega) get_here)) (fun _ => get_here)) fan)) (gone_of (by simp only [goneP, memP, List.cons_append, List.nil_append, true_or, or_true, true_and, and_true, or_false] <;> omega))), .inr (.inr (⟨tn8, (N + 1), (l ++ [xn8]), (n8 + 1), rfl, by omega, ⟨rfl, rfl, trivial⟩, rfl, (kb2 (by omega)), ⟨by rw [List.length_append, hl]; rfl, by omega⟩⟩))⟩
 ·
  rw [Has.eq hHn2]
  have hKn2_0 : q < n2 := hKn2 _ (by simp only [keys, List.map_cons, List.map_nil, List.mem_cons, true_or, or_true])
  have hKn2_1 : j < n2 := hKn2 _ (by simp only [keys, List.map_cons, List.map_nil, List.mem_cons, true_or, or_true])
  clear hKn2
  obtain ⟨hl, hj1⟩ := hIn2
  refine RA.seq hd ?_
  refine RA.seq hd ?_
  refine RA.region env_ok ?_
  refine OA.p (some 12) (Pt q 0 0) rfl rfl rfl rfl ?_
  refine OA.callP (dst := (some 13)) (all := [(Pt q 0 0)]) (v := (.int .i64 0)) (hd.of (by omega) (kb2 (by omega))) rfl rfl rfl rfl rfl rfl rfl rfl (tLeftD q t get_here) ?_
  intro n9 hn9
  refine OA.p (some 14) (.bool false) rfl rfl rfl (r_bin rfl rfl rfl (b_gtr rfl)) ?_
  refine OA.nil ?_
  intro _
  refine RA.condF rfl ?_
  refine RA.exit env_ok ?_
  intro _
  refine RA.seq hd ?_
  refine RA.seq hd ?_
  refine RA.region env_ok ?_
  refine OA.p (some 23) (Pt q 0 0) rfl rfl rfl rfl ?_
  refine OA.callP (dst := (some 24)) (all := [(Pt q 0 0)]) (v := (.int .i64 2)) (hd.of (by omega) (kb2 (by omega))) rfl rfl rfl rfl rfl rfl rfl rfl (rErr q _ 2 get_here) ?_
  intro n10 hn10
  refine OA.p (some 6) (.int .i64 2) rfl rfl rfl rfl ?_
  refine OA.nil ?_
  intro _
  refine RA.seq hd ?_
  refine RA.region env_ok ?_
  refine OA.p (some 25) (.int .i64 2) rfl rfl rfl rfl ?_
  refine OA.p (some 26) (.bool true) rfl rfl rfl (r_bin rfl rfl rfl (b_neq rfl)) ?_
  refine OA.nil ?_
  intro _
  refine RA.condT rfl ?_
  refine RA.seq hd ?_
  refine RA.region env_ok ?_
  refine OA.p (some 27) (.int .i64 2) rfl rfl rfl rfl ?_
  refine OA.p (some 2) (.slice none 0 0) rfl rfl rfl rfl ?_
  refine OA.p (some 3) (.int .i64 2) rfl rfl rfl rfl ?_
  refine OA.nil ?_
  intro _
  refine RA.ret env_ok ?_
  refine ⟨.inr rfl, [(.slice none 0 0), (.int .i64 2)], (resL_cons rfl (resL_cons rfl resL_nil)), [], (Less.of (fun p hp => by simp at hp) (gone_of (by simp only [goneP, memP, List.cons_append, List.nil_append, true_or, or_true, true_and, and_true, or_false] <;> omega))), ⟨rfl, rfl⟩⟩
end Go.Proofs.Ytgajcmanompmcaa.Vt
