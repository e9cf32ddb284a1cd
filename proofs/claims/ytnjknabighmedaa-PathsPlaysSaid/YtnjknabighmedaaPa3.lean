/- Pa3: walks through functions of the program, by the calculus; written by a program of this workplace. -/
import Derived.Test.YtnjknabighmedaaPa2
import Derived.Test.YtnjknabighmedaaVm6
namespace Go.Proofs.Ytnjknabighmedaa.Vt
open Go Go.Proofs Go.Proofs.YtnjknabighmedaaV
set_option maxRecDepth 100000
set_option linter.unusedVariables false
set_option linter.unusedSimpArgs false
def stB (l : List Pth) (a b : BitVec 32) (keep : Int) (i : Nat) : Bool := decide (((i : Nat) : Int) = keep ∨ ((a.toNat : Int) ≠ 0 ∧ ((l.getD i dPth).own.toNat : Int) ≠ (a.toNat : Int)) ∨ ((b.toNat : Int) ≠ 0 ∧ ((l.getD i dPth).peer.toNat : Int) ≠ (b.toNat : Int)))
def stL (l : List Pth) (a b : BitVec 32) (keep : Int) (i : Nat) : List Inn := ((List.range i).filter (stB l a b keep)).map (fun k => Inn.mk ((k : Nat) : Int))
theorem stL_yes {l : List Pth} {a b : BitVec 32} {keep : Int} {i : Nat} (h : stB l a b keep i = true) : stL l a b keep (i + 1) = stL l a b keep i ++ [Inn.mk ((i : Nat) : Int)] := by
  unfold stL; rw [List.range_succ, List.filter_append, List.filter_cons, if_pos h, List.map_append]; rfl
theorem stL_no {l : List Pth} {a b : BitVec 32} {keep : Int} {i : Nat} (h : stB l a b keep i = false) : stL l a b keep (i + 1) = stL l a b keep i := by
  unfold stL; rw [List.range_succ, List.filter_append, List.filter_cons, if_neg (by rw [h]; decide)]; exact congrArg (List.map _) (List.append_nil _)
def drL (l : List Pth) (a b : BitVec 32) (keep f : Int) : List Inn := if (stL l a b keep l.length).length = 0 then [Inn.mk f] else stL l a b keep l.length
theorem pDropR {n : Nat} {σ : Store} (hd : Dom n σ) (j N : Nat) (l : List Pth) (hl : l.length = N) (hN : N ≤ 1000) (a b : BitVec 32) (kp f : Int) (hj : σ j = some (oPth l))  : CQ Try.prog noDen 55 [(.slice (some ⟨j, 0, none⟩) N 2), (W a), (W b), (.int .i64 kp), (.int .i64 f)] n σ (fun v n' d => ∃ i, n ≤ i ∧ i < n' ∧ ∃ M, (drL l a b kp f).length = M ∧ M ≤ N + 1 ∧ VLe v (.slice (some ⟨i, 0, none⟩) M 2) ∧ d = [(i, some (oInn (drL l a b kp f)))]) := by
 have lhj := hd.lt hj
 refine CQ.body (E := env) env_ok hd rfl rfl (by show _ ≤ _; exact of_decide_eq_true (by kernel_rfl)) ?_
 refine RA.seq hd ?_
 refine RA.region env_ok ?_
 refine OA.p (some 10) (.slice none 0 0) rfl rfl rfl rfl ?_
 refine OA.nil ?_
 intro _
 refine RA.seq hd ?_
 refine RA.region env_ok ?_
 refine OA.op1 (dst := (some 13)) (v := (.slice (some ⟨n, 0, none⟩) 0 0)) (n1 := (n + 1)) (w := (n, some (oInn ([] : List Inn)))) rfl rfl rfl (by kernel_rfl) (by omega) ?_
 refine OA.p (some 11) (.slice (some ⟨n, 0, none⟩) 0 0) rfl rfl rfl rfl ?_
 refine OA.nil ?_
 intro _
 refine RA.seq hd ?_
 refine RA.seq hd ?_
 refine RA.region env_ok ?_
 refine OA.p (some 12) (.int .i64 0) rfl rfl rfl rfl ?_
 refine OA.nil ?_
 intro _
 refine RA.block ?_
 refine RA.leT (t := 11) (v := (.slice (some ⟨n, 0, none⟩) 0 0)) (v' := (.slice (some ⟨n, 0, none⟩) 0 2)) rfl (vle_row _ _ _) ?_
 refine RA.loop hd (fun kk_ τ n' D => (∃ i : Nat, ∃ ko : Nat, ∃ M : Nat, kk_ = N - i ∧ (n + 1) ≤ n' ∧ Has τ [(0, (.slice (some ⟨j, 0, none⟩) N 2)), (1, (W a)), (2, (W b)), (3, (.int .i64 kp)), (4, (.int .i64 f)), (11, (.slice (some ⟨ko, 0, none⟩) M 2)), (12, (.int .i64 ((i : Nat) : Int)))] ∧ D = [(ko, some (oInn (stL l a b kp i)))] ∧ (∀ i ∈ keys D, i < n') ∧ i ≤ N ∧ (stL l a b kp i).length = M ∧ M ≤ i ∧ n ≤ ko)) (N - 0) (⟨0, n, 0, rfl, by omega, ⟨rfl, rfl, rfl, rfl, rfl, rfl, rfl, trivial⟩, (by rfl), (kb1 (by omega)), ⟨by omega, rfl, by omega, by omega⟩⟩) ?_
 rintro kn1 τ1 n1 _ ⟨i, ko, M, rfl, hn1, hHn1, rfl, hKn1, hIn1⟩
 rw [Has.eq hHn1]
 have hKn1_0 : ko < n1 := hKn1 _ (by simp only [keys, List.map_cons, List.map_nil, List.mem_cons, true_or, or_true])
 clear hKn1
 obtain ⟨hi1, hi2, hi3, hi4⟩ := hIn1
 refine RA.seq hd ?_
 refine RA.seq hd ?_
 refine RA.region env_ok ?_
 refine OA.p (some 14) (.int .i64 ((i : Nat) : Int)) rfl rfl rfl rfl ?_
 refine OA.p (some 15) (.slice (some ⟨j, 0, none⟩) N 2) rfl rfl rfl rfl ?_
 refine OA.p (some 16) (.int .i64 ((N : Nat) : Int)) rfl rfl rfl rfl ?_
 by_cases hc1 : ((i : Nat) : Int) < ((N : Nat) : Int)
 ·
  refine OA.p (some 17) (.bool true) rfl rfl rfl (Eq.trans (r_bin rfl rfl rfl (b_lss rfl)) (dT hc1)) ?_
  refine OA.nil ?_
  intro _
  refine RA.condT rfl ?_
  refine RA.skip env_ok ?_
  intro _
  refine RA.seq hd ?_
  refine RA.block ?_
  refine RA.seq hd ?_
  refine RA.region env_ok ?_
  refine OA.p (some 20) (.int .i64 ((i : Nat) : Int)) rfl rfl rfl rfl ?_
  refine OA.p (some 21) (.int .i64 kp) rfl rfl rfl rfl ?_
  by_cases hc2 : ((i : Nat) : Int) = kp
  ·
   refine OA.p (some 22) (.bool true) rfl rfl rfl (Eq.trans (r_bin rfl rfl rfl (b_eql rfl)) (dT hc2)) ?_
   refine OA.p (some 23) (.bool true) rfl rfl rfl rfl ?_
   refine OA.off (dst := (some 24)) rfl rfl rfl ?_
   refine OA.off (dst := (some 25)) rfl rfl rfl ?_
   refine OA.off (dst := (some 26)) rfl rfl rfl ?_
   refine OA.off (dst := (some 27)) rfl rfl rfl ?_
   refine OA.off (dst := (some 28)) rfl rfl rfl ?_
   refine OA.off (dst := (some 29)) rfl rfl rfl ?_
   refine OA.off (dst := (some 30)) rfl rfl rfl ?_
   refine OA.off (dst := (some 31)) rfl rfl rfl ?_
   refine OA.off (dst := (some 32)) rfl rfl rfl ?_
   refine OA.off (dst := (some 33)) rfl rfl rfl ?_
   refine OA.off (dst := (some 34)) rfl rfl rfl ?_
   refine OA.p (some 35) (.bool true) rfl rfl rfl rfl ?_
   refine OA.p (some 36) (.bool true) rfl rfl rfl rfl ?_
   refine OA.off (dst := (some 37)) rfl rfl rfl ?_
   refine OA.off (dst := (some 38)) rfl rfl rfl ?_
   refine OA.off (dst := (some 39)) rfl rfl rfl ?_
   refine OA.off (dst := (some 40)) rfl rfl rfl ?_
   refine OA.off (dst := (some 41)) rfl rfl rfl ?_
   refine OA.off (dst := (some 42)) rfl rfl rfl ?_
   refine OA.off (dst := (some 43)) rfl rfl rfl ?_
   refine OA.off (dst := (some 44)) rfl rfl rfl ?_
   refine OA.off (dst := (some 45)) rfl rfl rfl ?_
   refine OA.off (dst := (some 46)) rfl rfl rfl ?_
   refine OA.off (dst := (some 47)) rfl rfl rfl ?_
   refine OA.p (some 48) (.bool true) rfl rfl rfl rfl ?_
   refine OA.nil ?_
   intro _
   refine RA.rebase [(0, (.slice (some ⟨j, 0, none⟩) N 2)), (1, (W a)), (2, (W b)), (3, (.int .i64 kp)), (4, (.int .i64 f)), (11, (.slice (some ⟨ko, 0, none⟩) M 2)), (12, (.int .i64 ((i : Nat) : Int))), (17, (.bool true)), (48, (.bool true))] ⟨rfl, rfl, rfl, rfl, rfl, rfl, rfl, rfl, rfl, trivial⟩ (fun τr2 => ?_)
   refine RA.condT rfl ?_
   refine RA.region env_ok ?_
   refine OA.p (some 49) (.slice (some ⟨ko, 0, none⟩) M 2) rfl rfl rfl rfl ?_
   refine OA.p (some 50) (.int .i64 ((i : Nat) : Int)) rfl rfl rfl rfl ?_
   refine OA.op1 (dst := (some 51)) (v := (.slice (some ⟨n1, 0, none⟩) 1 0)) (n1 := (n1 + 1)) (w := (n1, some ⟨[[(.int .i64 ((i : Nat) : Int))]], 1, 3, true⟩)) rfl rfl rfl (by kernel_rfl) (by omega) ?_
   refine OA.op (dst := (some 52)) (v := (.slice (some ⟨(n1 + 1), 0, none⟩) (M + 1) 2)) (n1 := (n1 + 2)) (d1 := [((n1 + 1), some (oInn ((stL l a b kp i) ++ [(Inn.mk ((i : Nat) : Int))]))), (ko, none)]) (D' := [((n1 + 1), some (oInn ((stL l a b kp i) ++ [(Inn.mk ((i : Nat) : Int))]))), (ko, none), (n1, some ⟨[[(.int .i64 ((i : Nat) : Int))]], 1, 3, true⟩), (ko, some (oInn (stL l a b kp i)))]) rfl rfl rfl (r_append2x (c := cInn) (x := (Inn.mk ((i : Nat) : Int))) (l' := ((stL l a b kp i) ++ [(Inn.mk ((i : Nat) : Int))])) rfl rfl rfl rfl rfl rfl rfl rfl rfl rfl (by decide) (get_there (by omega) get_here) get_here (by rw [hi2]; omega) (by rw [take_all' (by rw [hi2])]) (by omega) (of_decide_eq_true (by kernel_rfl)) (by omega)) (by omega) rfl ?_
   refine OA.p (some 11) (.slice (some ⟨(n1 + 1), 0, none⟩) (M + 1) 2) rfl rfl rfl rfl ?_
   refine OA.nil ?_
   intro _
   refine RA.region env_ok ?_
   refine OA.p (some 18) (.int .i64 ((i : Nat) : Int)) rfl rfl rfl rfl ?_
   refine OA.p (some 19) (.int .i64 (((i + 1) : Nat) : Int)) rfl rfl rfl (r_bin rfl rfl rfl (b_add (i64_eq (by omega)))) ?_
   refine OA.p (some 12) (.int .i64 (((i + 1) : Nat) : Int)) rfl rfl rfl rfl ?_
   refine OA.nil ?_
   refine ⟨N - (i + 1), by omega, [((n1 + 1), some (oInn ((stL l a b kp i) ++ [(Inn.mk ((i : Nat) : Int))])))], (Less.of (fac (mm (fun _ => get_here) (fun _ => get_here)) fan) (gone_of (by simp only [goneP, memP, List.cons_append, List.nil_append, true_or, or_true, true_and, and_true, or_false] <;> omega))), ⟨(i + 1), (n1 + 1), (M + 1), rfl, by omega, ⟨rfl, rfl, rfl, rfl, rfl, rfl, rfl, trivial⟩, (by rw [stL_yes (show stB l a b kp i = true from by unfold stB; rw [decide_eq_true_eq]; omega)]), (kb1 (by omega)), ⟨by omega, by rw [stL_yes (show stB l a b kp i = true from by unfold stB; rw [decide_eq_true_eq]; omega)]; rw [List.length_append, List.length_singleton, hi2], by omega, by omega⟩⟩⟩
  ·
   refine OA.p (some 22) (.bool false) rfl rfl rfl (Eq.trans (r_bin rfl rfl rfl (b_eql rfl)) (dF hc2)) ?_
   refine OA.p (some 23) (.bool false) rfl rfl rfl rfl ?_
   refine OA.p (some 24) (W a) rfl rfl rfl rfl ?_
   by_cases hc3 : (a.toNat : Int) ≠ 0
   ·
    refine OA.p (some 25) (.bool true) rfl rfl rfl (Eq.trans (r_bin rfl rfl rfl (b_neq rfl)) (dT hc3)) ?_
    refine OA.p (some 26) (.bool true) rfl rfl rfl rfl ?_
    refine OA.p (some 27) (.slice (some ⟨j, 0, none⟩) N 2) rfl rfl rfl rfl ?_
    refine OA.p (some 28) (.int .i64 ((i : Nat) : Int)) rfl rfl rfl rfl ?_
    refine OA.p (some 29) (Pt j i 0) rfl rfl rfl (r_iaS (l := i) rfl rfl rfl rfl rfl rfl (by omega) (by omega) (get_there (by omega) hj) rfl (by omega)) ?_
    refine OA.p (some 30) (Pt j i 0) rfl rfl rfl rfl ?_
    refine OA.p (some 31) (W (l.getD i dPth).own) rfl rfl rfl (r_loadF (c := cPth) dPth rfl rfl rfl rfl rfl (get_there (by omega) hj) (by rw [hl]; omega) rfl) ?_
    refine OA.p (some 32) (W a) rfl rfl rfl rfl ?_
    by_cases hc4 : ((l.getD i dPth).own.toNat : Int) ≠ (a.toNat : Int)
    ·
     refine OA.p (some 33) (.bool true) rfl rfl rfl (Eq.trans (r_bin rfl rfl rfl (b_neq rfl)) (dT hc4)) ?_
     refine OA.p (some 34) (.bool true) rfl rfl rfl rfl ?_
     refine OA.p (some 35) (.bool true) rfl rfl rfl rfl ?_
     refine OA.p (some 36) (.bool true) rfl rfl rfl rfl ?_
     refine OA.off (dst := (some 37)) rfl rfl rfl ?_
     refine OA.off (dst := (some 38)) rfl rfl rfl ?_
     refine OA.off (dst := (some 39)) rfl rfl rfl ?_
     refine OA.off (dst := (some 40)) rfl rfl rfl ?_
     refine OA.off (dst := (some 41)) rfl rfl rfl ?_
     refine OA.off (dst := (some 42)) rfl rfl rfl ?_
     refine OA.off (dst := (some 43)) rfl rfl rfl ?_
     refine OA.off (dst := (some 44)) rfl rfl rfl ?_
     refine OA.off (dst := (some 45)) rfl rfl rfl ?_
     refine OA.off (dst := (some 46)) rfl rfl rfl ?_
     refine OA.off (dst := (some 47)) rfl rfl rfl ?_
     refine OA.p (some 48) (.bool true) rfl rfl rfl rfl ?_
     refine OA.nil ?_
     intro _
     refine RA.rebase [(0, (.slice (some ⟨j, 0, none⟩) N 2)), (1, (W a)), (2, (W b)), (3, (.int .i64 kp)), (4, (.int .i64 f)), (11, (.slice (some ⟨ko, 0, none⟩) M 2)), (12, (.int .i64 ((i : Nat) : Int))), (17, (.bool true)), (48, (.bool true))] ⟨rfl, rfl, rfl, rfl, rfl, rfl, rfl, rfl, rfl, trivial⟩ (fun τr3 => ?_)
     refine RA.condT rfl ?_
     refine RA.region env_ok ?_
     refine OA.p (some 49) (.slice (some ⟨ko, 0, none⟩) M 2) rfl rfl rfl rfl ?_
     refine OA.p (some 50) (.int .i64 ((i : Nat) : Int)) rfl rfl rfl rfl ?_
     refine OA.op1 (dst := (some 51)) (v := (.slice (some ⟨n1, 0, none⟩) 1 0)) (n1 := (n1 + 1)) (w := (n1, some ⟨[[(.int .i64 ((i : Nat) : Int))]], 1, 3, true⟩)) rfl rfl rfl (by kernel_rfl) (by omega) ?_
     refine OA.op (dst := (some 52)) (v := (.slice (some ⟨(n1 + 1), 0, none⟩) (M + 1) 2)) (n1 := (n1 + 2)) (d1 := [((n1 + 1), some (oInn ((stL l a b kp i) ++ [(Inn.mk ((i : Nat) : Int))]))), (ko, none)]) (D' := [((n1 + 1), some (oInn ((stL l a b kp i) ++ [(Inn.mk ((i : Nat) : Int))]))), (ko, none), (n1, some ⟨[[(.int .i64 ((i : Nat) : Int))]], 1, 3, true⟩), (ko, some (oInn (stL l a b kp i)))]) rfl rfl rfl (r_append2x (c := cInn) (x := (Inn.mk ((i : Nat) : Int))) (l' := ((stL l a b kp i) ++ [(Inn.mk ((i : Nat) : Int))])) rfl rfl rfl rfl rfl rfl rfl rfl rfl rfl (by decide) (get_there (by omega) get_here) get_here (by rw [hi2]; omega) (by rw [take_all' (by rw [hi2])]) (by omega) (of_decide_eq_true (by kernel_rfl)) (by omega)) (by omega) rfl ?_
     refine OA.p (some 11) (.slice (some ⟨(n1 + 1), 0, none⟩) (M + 1) 2) rfl rfl rfl rfl ?_
     refine OA.nil ?_
     intro _
     refine RA.region env_ok ?_
     refine OA.p (some 18) (.int .i64 ((i : Nat) : Int)) rfl rfl rfl rfl ?_
     refine OA.p (some 19) (.int .i64 (((i + 1) : Nat) : Int)) rfl rfl rfl (r_bin rfl rfl rfl (b_add (i64_eq (by omega)))) ?_
     refine OA.p (some 12) (.int .i64 (((i + 1) : Nat) : Int)) rfl rfl rfl rfl ?_
     refine OA.nil ?_
     refine ⟨N - (i + 1), by omega, [((n1 + 1), some (oInn ((stL l a b kp i) ++ [(Inn.mk ((i : Nat) : Int))])))], (Less.of (fac (mm (fun _ => get_here) (fun _ => get_here)) fan) (gone_of (by simp only [goneP, memP, List.cons_append, List.nil_append, true_or, or_true, true_and, and_true, or_false] <;> omega))), ⟨(i + 1), (n1 + 1), (M + 1), rfl, by omega, ⟨rfl, rfl, rfl, rfl, rfl, rfl, rfl, trivial⟩, (by rw [stL_yes (show stB l a b kp i = true from by unfold stB; rw [decide_eq_true_eq]; omega)]), (kb1 (by omega)), ⟨by omega, by rw [stL_yes (show stB l a b kp i = true from by unfold stB; rw [decide_eq_true_eq]; omega)]; rw [List.length_append, List.length_singleton, hi2], by omega, by omega⟩⟩⟩
    ·
     refine OA.p (some 33) (.bool false) rfl rfl rfl (Eq.trans (r_bin rfl rfl rfl (b_neq rfl)) (dF hc4)) ?_
     refine OA.p (some 34) (.bool false) rfl rfl rfl rfl ?_
     refine OA.p (some 35) (.bool false) rfl rfl rfl rfl ?_
     refine OA.p (some 36) (.bool false) rfl rfl rfl rfl ?_
     refine OA.p (some 37) (W b) rfl rfl rfl rfl ?_
     by_cases hc5 : (b.toNat : Int) ≠ 0
     ·
      refine OA.p (some 38) (.bool true) rfl rfl rfl (Eq.trans (r_bin rfl rfl rfl (b_neq rfl)) (dT hc5)) ?_
      refine OA.p (some 39) (.bool true) rfl rfl rfl rfl ?_
      refine OA.p (some 40) (.slice (some ⟨j, 0, none⟩) N 2) rfl rfl rfl rfl ?_
      refine OA.p (some 41) (.int .i64 ((i : Nat) : Int)) rfl rfl rfl rfl ?_
      refine OA.p (some 42) (Pt j i 0) rfl rfl rfl (r_iaS (l := i) rfl rfl rfl rfl rfl rfl (by omega) (by omega) (get_there (by omega) hj) rfl (by omega)) ?_
      refine OA.p (some 43) (Pt j i 1) rfl rfl rfl rfl ?_
      refine OA.p (some 44) (W (l.getD i dPth).peer) rfl rfl rfl (r_loadF (c := cPth) dPth rfl rfl rfl rfl rfl (get_there (by omega) hj) (by rw [hl]; omega) rfl) ?_
      refine OA.p (some 45) (W b) rfl rfl rfl rfl ?_
      by_cases hc6 : ((l.getD i dPth).peer.toNat : Int) ≠ (b.toNat : Int)
      ·
       refine OA.p (some 46) (.bool true) rfl rfl rfl (Eq.trans (r_bin rfl rfl rfl (b_neq rfl)) (dT hc6)) ?_
       refine OA.p (some 47) (.bool true) rfl rfl rfl rfl ?_
       refine OA.p (some 48) (.bool true) rfl rfl rfl rfl ?_
       refine OA.nil ?_
       intro _
       refine RA.rebase [(0, (.slice (some ⟨j, 0, none⟩) N 2)), (1, (W a)), (2, (W b)), (3, (.int .i64 kp)), (4, (.int .i64 f)), (11, (.slice (some ⟨ko, 0, none⟩) M 2)), (12, (.int .i64 ((i : Nat) : Int))), (17, (.bool true)), (48, (.bool true))] ⟨rfl, rfl, rfl, rfl, rfl, rfl, rfl, rfl, rfl, trivial⟩ (fun τr4 => ?_)
       refine RA.condT rfl ?_
       refine RA.region env_ok ?_
       refine OA.p (some 49) (.slice (some ⟨ko, 0, none⟩) M 2) rfl rfl rfl rfl ?_
       refine OA.p (some 50) (.int .i64 ((i : Nat) : Int)) rfl rfl rfl rfl ?_
       refine OA.op1 (dst := (some 51)) (v := (.slice (some ⟨n1, 0, none⟩) 1 0)) (n1 := (n1 + 1)) (w := (n1, some ⟨[[(.int .i64 ((i : Nat) : Int))]], 1, 3, true⟩)) rfl rfl rfl (by kernel_rfl) (by omega) ?_
       refine OA.op (dst := (some 52)) (v := (.slice (some ⟨(n1 + 1), 0, none⟩) (M + 1) 2)) (n1 := (n1 + 2)) (d1 := [((n1 + 1), some (oInn ((stL l a b kp i) ++ [(Inn.mk ((i : Nat) : Int))]))), (ko, none)]) (D' := [((n1 + 1), some (oInn ((stL l a b kp i) ++ [(Inn.mk ((i : Nat) : Int))]))), (ko, none), (n1, some ⟨[[(.int .i64 ((i : Nat) : Int))]], 1, 3, true⟩), (ko, some (oInn (stL l a b kp i)))]) rfl rfl rfl (r_append2x (c := cInn) (x := (Inn.mk ((i : Nat) : Int))) (l' := ((stL l a b kp i) ++ [(Inn.mk ((i : Nat) : Int))])) rfl rfl rfl rfl rfl rfl rfl rfl rfl rfl (by decide) (get_there (by omega) get_here) get_here (by rw [hi2]; omega) (by rw [take_all' (by rw [hi2])]) (by omega) (of_decide_eq_true (by kernel_rfl)) (by omega)) (by omega) rfl ?_
       refine OA.p (some 11) (.slice (some ⟨(n1 + 1), 0, none⟩) (M + 1) 2) rfl rfl rfl rfl ?_
       refine OA.nil ?_
       intro _
       refine RA.region env_ok ?_
       refine OA.p (some 18) (.int .i64 ((i : Nat) : Int)) rfl rfl rfl rfl ?_
       refine OA.p (some 19) (.int .i64 (((i + 1) : Nat) : Int)) rfl rfl rfl (r_bin rfl rfl rfl (b_add (i64_eq (by omega)))) ?_
       refine OA.p (some 12) (.int .i64 (((i + 1) : Nat) : Int)) rfl rfl rfl rfl ?_
       refine OA.nil ?_
       refine ⟨N - (i + 1), by omega, [((n1 + 1), some (oInn ((stL l a b kp i) ++ [(Inn.mk ((i : Nat) : Int))])))], (Less.of (fac (mm (fun _ => get_here) (fun _ => get_here)) fan) (gone_of (by simp only [goneP, memP, List.cons_append, List.nil_append, true_or, or_true, true_and, and_true, or_false] <;> omega))), ⟨(i + 1), (n1 + 1), (M + 1), rfl, by omega, ⟨rfl, rfl, rfl, rfl, rfl, rfl, rfl, trivial⟩, (by rw [stL_yes (show stB l a b kp i = true from by unfold stB; rw [decide_eq_true_eq]; omega)]), (kb1 (by omega)), ⟨by omega, by rw [stL_yes (show stB l a b kp i = true from by unfold stB; rw [decide_eq_true_eq]; omega)]; rw [List.length_append, List.length_singleton, hi2], by omega, by omega⟩⟩⟩
      ·
       refine OA.p (some 46) (.bool false) rfl rfl rfl (Eq.trans (r_bin rfl rfl rfl (b_neq rfl)) (dF hc6)) ?_
       refine OA.p (some 47) (.bool false) rfl rfl rfl rfl ?_
       refine OA.p (some 48) (.bool false) rfl rfl rfl rfl ?_
       refine OA.nil ?_
       intro _
       refine RA.rebase [(0, (.slice (some ⟨j, 0, none⟩) N 2)), (1, (W a)), (2, (W b)), (3, (.int .i64 kp)), (4, (.int .i64 f)), (11, (.slice (some ⟨ko, 0, none⟩) M 2)), (12, (.int .i64 ((i : Nat) : Int))), (17, (.bool true)), (48, (.bool false))] ⟨rfl, rfl, rfl, rfl, rfl, rfl, rfl, rfl, rfl, trivial⟩ (fun τr5 => ?_)
       refine RA.condF rfl ?_
       refine RA.skip env_ok ?_
       intro _
       refine RA.region env_ok ?_
       refine OA.p (some 18) (.int .i64 ((i : Nat) : Int)) rfl rfl rfl rfl ?_
       refine OA.p (some 19) (.int .i64 (((i + 1) : Nat) : Int)) rfl rfl rfl (r_bin rfl rfl rfl (b_add (i64_eq (by omega)))) ?_
       refine OA.p (some 12) (.int .i64 (((i + 1) : Nat) : Int)) rfl rfl rfl rfl ?_
       refine OA.nil ?_
       refine ⟨N - (i + 1), by omega, [(ko, some (oInn (stL l a b kp i)))], (Less.refl _ _ _), ⟨(i + 1), ko, M, rfl, by omega, ⟨rfl, rfl, rfl, rfl, rfl, rfl, rfl, trivial⟩, (by rw [stL_no (show stB l a b kp i = false from by unfold stB; rw [decide_eq_false_iff_not]; omega)]), (kb1 (by omega)), ⟨by omega, by rw [stL_no (show stB l a b kp i = false from by unfold stB; rw [decide_eq_false_iff_not]; omega)]; exact hi2, by omega, by omega⟩⟩⟩
     ·
      refine OA.p (some 38) (.bool false) rfl rfl rfl (Eq.trans (r_bin rfl rfl rfl (b_neq rfl)) (dF hc5)) ?_
      refine OA.p (some 39) (.bool false) rfl rfl rfl rfl ?_
      refine OA.off (dst := (some 40)) rfl rfl rfl ?_
      refine OA.off (dst := (some 41)) rfl rfl rfl ?_
      refine OA.off (dst := (some 42)) rfl rfl rfl ?_
      refine OA.off (dst := (some 43)) rfl rfl rfl ?_
      refine OA.off (dst := (some 44)) rfl rfl rfl ?_
      refine OA.off (dst := (some 45)) rfl rfl rfl ?_
      refine OA.off (dst := (some 46)) rfl rfl rfl ?_
      refine OA.p (some 47) (.bool false) rfl rfl rfl rfl ?_
      refine OA.p (some 48) (.bool false) rfl rfl rfl rfl ?_
      refine OA.nil ?_
      intro _
      refine RA.rebase [(0, (.slice (some ⟨j, 0, none⟩) N 2)), (1, (W a)), (2, (W b)), (3, (.int .i64 kp)), (4, (.int .i64 f)), (11, (.slice (some ⟨ko, 0, none⟩) M 2)), (12, (.int .i64 ((i : Nat) : Int))), (17, (.bool true)), (48, (.bool false))] ⟨rfl, rfl, rfl, rfl, rfl, rfl, rfl, rfl, rfl, trivial⟩ (fun τr6 => ?_)
      refine RA.condF rfl ?_
      refine RA.skip env_ok ?_
      intro _
      refine RA.region env_ok ?_
      refine OA.p (some 18) (.int .i64 ((i : Nat) : Int)) rfl rfl rfl rfl ?_
      refine OA.p (some 19) (.int .i64 (((i + 1) : Nat) : Int)) rfl rfl rfl (r_bin rfl rfl rfl (b_add (i64_eq (by omega)))) ?_
      refine OA.p (some 12) (.int .i64 (((i + 1) : Nat) : Int)) rfl rfl rfl rfl ?_
      refine OA.nil ?_
      refine ⟨N - (i + 1), by omega, [(ko, some (oInn (stL l a b kp i)))], (Less.refl _ _ _), ⟨(i + 1), ko, M, rfl, by omega, ⟨rfl, rfl, rfl, rfl, rfl, rfl, rfl, trivial⟩, (by rw [stL_no (show stB l a b kp i = false from by unfold stB; rw [decide_eq_false_iff_not]; omega)]), (kb1 (by omega)), ⟨by omega, by rw [stL_no (show stB l a b kp i = false from by unfold stB; rw [decide_eq_false_iff_not]; omega)]; exact hi2, by omega, by omega⟩⟩⟩
   ·
    refine OA.p (some 25) (.bool false) rfl rfl rfl (Eq.trans (r_bin rfl rfl rfl (b_neq rfl)) (dF hc3)) ?_
    refine OA.p (some 26) (.bool false) rfl rfl rfl rfl ?_
    refine OA.off (dst := (some 27)) rfl rfl rfl ?_
    refine OA.off (dst := (some 28)) rfl rfl rfl ?_
    refine OA.off (dst := (some 29)) rfl rfl rfl ?_
    refine OA.off (dst := (some 30)) rfl rfl rfl ?_
    refine OA.off (dst := (some 31)) rfl rfl rfl ?_
    refine OA.off (dst := (some 32)) rfl rfl rfl ?_
    refine OA.off (dst := (some 33)) rfl rfl rfl ?_
    refine OA.p (some 34) (.bool false) rfl rfl rfl rfl ?_
    refine OA.p (some 35) (.bool false) rfl rfl rfl rfl ?_
    refine OA.p (some 36) (.bool false) rfl rfl rfl rfl ?_
    refine OA.p (some 37) (W b) rfl rfl rfl rfl ?_
    by_cases hc7 : (b.toNat : Int) ≠ 0
    ·
     refine OA.p (some 38) (.bool true) rfl rfl rfl (Eq.trans (r_bin rfl rfl rfl (b_neq rfl)) (dT hc7)) ?_
     refine OA.p (some 39) (.bool true) rfl rfl rfl rfl ?_
     refine OA.p (some 40) (.slice (some ⟨j, 0, none⟩) N 2) rfl rfl rfl rfl ?_
     refine OA.p (some 41) (.int .i64 ((i : Nat) : Int)) rfl rfl rfl rfl ?_
     refine OA.p (some 42) (Pt j i 0) rfl rfl rfl (r_iaS (l := i) rfl rfl rfl rfl rfl rfl (by omega) (by omega) (get_there (by omega) hj) rfl (by omega)) ?_
     refine OA.p (some 43) (Pt j i 1) rfl rfl rfl rfl ?_
     refine OA.p (some 44) (W (l.getD i dPth).peer) rfl rfl rfl (r_loadF (c := cPth) dPth rfl rfl rfl rfl rfl (get_there (by omega) hj) (by rw [hl]; omega) rfl) ?_
     refine OA.p (some 45) (W b) rfl rfl rfl rfl ?_
     by_cases hc8 : ((l.getD i dPth).peer.toNat : Int) ≠ (b.toNat : Int)
     ·
      refine OA.p (some 46) (.bool true) rfl rfl rfl (Eq.trans (r_bin rfl rfl rfl (b_neq rfl)) (dT hc8)) ?_
      refine OA.p (some 47) (.bool true) rfl rfl rfl rfl ?_
      refine OA.p (some 48) (.bool true) rfl rfl rfl rfl ?_
      refine OA.nil ?_
      intro _
      refine RA.rebase [(0, (.slice (some ⟨j, 0, none⟩) N 2)), (1, (W a)), (2, (W b)), (3, (.int .i64 kp)), (4, (.int .i64 f)), (11, (.slice (some ⟨ko, 0, none⟩) M 2)), (12, (.int .i64 ((i : Nat) : Int))), (17, (.bool true)), (48, (.bool true))] ⟨rfl, rfl, rfl, rfl, rfl, rfl, rfl, rfl, rfl, trivial⟩ (fun τr7 => ?_)
      refine RA.condT rfl ?_
      refine RA.region env_ok ?_
      refine OA.p (some 49) (.slice (some ⟨ko, 0, none⟩) M 2) rfl rfl rfl rfl ?_
      refine OA.p (some 50) (.int .i64 ((i : Nat) : Int)) rfl rfl rfl rfl ?_
      refine OA.op1 (dst := (some 51)) (v := (.slice (some ⟨n1, 0, none⟩) 1 0)) (n1 := (n1 + 1)) (w := (n1, some ⟨[[(.int .i64 ((i : Nat) : Int))]], 1, 3, true⟩)) rfl rfl rfl (by kernel_rfl) (by omega) ?_
      refine OA.op (dst := (some 52)) (v := (.slice (some ⟨(n1 + 1), 0, none⟩) (M + 1) 2)) (n1 := (n1 + 2)) (d1 := [((n1 + 1), some (oInn ((stL l a b kp i) ++ [(Inn.mk ((i : Nat) : Int))]))), (ko, none)]) (D' := [((n1 + 1), some (oInn ((stL l a b kp i) ++ [(Inn.mk ((i : Nat) : Int))]))), (ko, none), (n1, some ⟨[[(.int .i64 ((i : Nat) : Int))]], 1, 3, true⟩), (ko, some (oInn (stL l a b kp i)))]) rfl rfl rfl (r_append2x (c := cInn) (x := (Inn.mk ((i : Nat) : Int))) (l' := ((stL l a b kp i) ++ [(Inn.mk ((i : Nat) : Int))])) rfl rfl rfl rfl rfl rfl rfl rfl rfl rfl (by decide) (get_there (by omega) get_here) get_here (by rw [hi2]; omega) (by rw [take_all' (by rw [hi2])]) (by omega) (of_decide_eq_true (by kernel_rfl)) (by omega)) (by omega) rfl ?_
      refine OA.p (some 11) (.slice (some ⟨(n1 + 1), 0, none⟩) (M + 1) 2) rfl rfl rfl rfl ?_
      refine OA.nil ?_
      intro _
      refine RA.region env_ok ?_
      refine OA.p (some 18) (.int .i64 ((i : Nat) : Int)) rfl rfl rfl rfl ?_
      refine OA.p (some 19) (.int .i64 (((i + 1) : Nat) : Int)) rfl rfl rfl (r_bin rfl rfl rfl (b_add (i64_eq (by omega)))) ?_
      refine OA.p (some 12) (.int .i64 (((i + 1) : Nat) : Int)) rfl rfl rfl rfl ?_
      refine OA.nil ?_
      refine ⟨N - (i + 1), by omega, [((n1 + 1), some (oInn ((stL l a b kp i) ++ [(Inn.mk ((i : Nat) : Int))])))], (Less.of (fac (mm (fun _ => get_here) (fun _ => get_here)) fan) (gone_of (by simp only [goneP, memP, List.cons_append, List.nil_append, true_or, or_true, true_and, and_true, or_false] <;> omega))), ⟨(i + 1), (n1 + 1), (M + 1), rfl, by omega, ⟨rfl, rfl, rfl, rfl, rfl, rfl, rfl, trivial⟩, (by rw [stL_yes (show stB l a b kp i = true from by unfold stB; rw [decide_eq_true_eq]; omega)]), (kb1 (by omega)), ⟨by omega, by rw [stL_yes (show stB l a b kp i = true from by unfold stB; rw [decide_eq_true_eq]; omega)]; rw [List.length_append, List.length_singleton, hi2], by omega, by omega⟩⟩⟩
     ·
      refine OA.p (some 46) (.bool false) rfl rfl rfl (Eq.trans (r_bin rfl rfl rfl (b_neq rfl)) (dF hc8)) ?_
      refine OA.p (some 47) (.bool false) rfl rfl rfl rfl ?_
      refine OA.p (some 48) (.bool false) rfl rfl rfl rfl ?_
      refine OA.nil ?_
      intro _
      refine RA.rebase [(0, (.slice (some ⟨j, 0, none⟩) N 2)), (1, (W a)), (2, (W b)), (3, (.int .i64 kp)), (4, (.int .i64 f)), (11, (.slice (some ⟨ko, 0, none⟩) M 2)), (12, (.int .i64 ((i : Nat) : Int))), (17, (.bool true)), (48, (.bool false))] ⟨rfl, rfl, rfl, rfl, rfl, rfl, rfl, rfl, rfl, trivial⟩ (fun τr8 => ?_)
      refine RA.condF rfl ?_
      refine RA.skip env_ok ?_
      intro _
      refine RA.region env_ok ?_
      refine OA.p (some 18) (.int .i64 ((i : Nat) : Int)) rfl rfl rfl rfl ?_
      refine OA.p (some 19) (.int .i64 (((i + 1) : Nat) : Int)) rfl rfl rfl (r_bin rfl rfl rfl (b_add (i64_eq (by omega)))) ?_
      refine OA.p (some 12) (.int .i64 (((i + 1) : Nat) : Int)) rfl rfl rfl rfl ?_
      refine OA.nil ?_
      refine ⟨N - (i + 1), by omega, [(ko, some (oInn (stL l a b kp i)))], (Less.refl _ _ _), ⟨(i + 1), ko, M, rfl, by omega, ⟨rfl, rfl, rfl, rfl, rfl, rfl, rfl, trivial⟩, (by rw [stL_no (show stB l a b kp i = false from by unfold stB; rw [decide_eq_false_iff_not]; omega)]), (kb1 (by omega)), ⟨by omega, by rw [stL_no (show stB l a b kp i = false from by unfold stB; rw [decide_eq_false_iff_not]; omega)]; exact hi2, by omega, by omega⟩⟩⟩
    ·
     refine OA.p (some 38) (.bool false) rfl rfl rfl (Eq.trans (r_bin rfl rfl rfl (b_neq rfl)) (dF hc7)) ?_
     refine OA.p (some 39) (.bool false) rfl rfl rfl rfl ?_
     refine OA.off (dst := (some 40)) rfl rfl rfl ?_
     refine OA.off (dst := (some 41)) rfl rfl rfl ?_
     refine OA.off (dst := (some 42)) rfl rfl rfl ?_
     refine OA.off (dst := (some 43)) rfl rfl rfl ?_
     refine OA.off (dst := (some 44)) rfl rfl rfl ?_
     refine OA.off (dst := (some 45)) rfl rfl rfl ?_
     refine OA.off (dst := (some 46)) rfl rfl rfl ?_
     refine OA.p (some 47) (.bool false) rfl rfl rfl rfl ?_
     refine OA.p (some 48) (.bool false) rfl rfl rfl rfl ?_
     refine OA.nil ?_
     intro _
     refine RA.rebase [(0, (.slice (some ⟨j, 0, none⟩) N 2)), (1, (W a)), (2, (W b)), (3, (.int .i64 kp)), (4, (.int .i64 f)), (11, (.slice (some ⟨ko, 0, none⟩) M 2)), (12, (.int .i64 ((i : Nat) : Int))), (17, (.bool true)), (48, (.bool false))] ⟨rfl, rfl, rfl, rfl, rfl, rfl, rfl, rfl, rfl, trivial⟩ (fun τr9 => ?_)
     refine RA.condF rfl ?_
     refine RA.skip env_ok ?_
     intro _
     refine RA.region env_ok ?_
     refine OA.p (some 18) (.int .i64 ((i : Nat) : Int)) rfl rfl rfl rfl ?_
     refine OA.p (some 19) (.int .i64 (((i + 1) : Nat) : Int)) rfl rfl rfl (r_bin rfl rfl rfl (b_add (i64_eq (by omega)))) ?_
     refine OA.p (some 12) (.int .i64 (((i + 1) : Nat) : Int)) rfl rfl rfl rfl ?_
     refine OA.nil ?_
     refine ⟨N - (i + 1), by omega, [(ko, some (oInn (stL l a b kp i)))], (Less.refl _ _ _), ⟨(i + 1), ko, M, rfl, by omega, ⟨rfl, rfl, rfl, rfl, rfl, rfl, rfl, trivial⟩, (by rw [stL_no (show stB l a b kp i = false from by unfold stB; rw [decide_eq_false_iff_not]; omega)]), (kb1 (by omega)), ⟨by omega, by rw [stL_no (show stB l a b kp i = false from by unfold stB; rw [decide_eq_false_iff_not]; omega)]; exact hi2, by omega, by omega⟩⟩⟩
 ·
  refine OA.p (some 17) (.bool false) rfl rfl rfl (Eq.trans (r_bin rfl rfl rfl (b_lss rfl)) (dF hc1)) ?_
  refine OA.nil ?_
  intro _
  refine RA.condF rfl ?_
  refine RA.exit env_ok ?_
  intro _
  refine RA.seq hd ?_
  refine RA.seq hd ?_
  refine RA.region env_ok ?_
  refine OA.p (some 53) (.slice (some ⟨ko, 0, none⟩) M 2) rfl rfl rfl rfl ?_
  refine OA.p (some 54) (.int .i64 ((M : Nat) : Int)) rfl rfl rfl rfl ?_
  by_cases hc9 : ((M : Nat) : Int) = 0
  ·
   refine OA.p (some 55) (.bool true) rfl rfl rfl (Eq.trans (r_bin rfl rfl rfl (b_eql rfl)) (dT hc9)) ?_
   refine OA.nil ?_
   intro _
   refine RA.condT rfl ?_
   refine RA.seq hd ?_
   refine RA.region env_ok ?_
   refine OA.p (some 56) (.int .i64 f) rfl rfl rfl rfl ?_
   refine OA.op1 (dst := (some 57)) (v := (.slice (some ⟨n1, 0, none⟩) 1 0)) (n1 := (n1 + 1)) (w := (n1, some ⟨[[(.int .i64 f)]], 1, 3, true⟩)) rfl rfl rfl (by kernel_rfl) (by omega) ?_
   refine OA.p (some 10) (.slice (some ⟨n1, 0, none⟩) 1 0) rfl rfl rfl rfl ?_
   refine OA.nil ?_
   intro _
   refine RA.ret env_ok ?_
   refine ⟨.inr rfl, [(.slice (some ⟨n1, 0, none⟩) 1 0)], (resL_cons rfl resL_nil), [(n1, some ⟨[[(.int .i64 f)]], 1, 3, true⟩)], (Less.of (fac (mm (fun _ => get_here) (fun _ => get_here)) fan) (gone_of (by simp only [goneP, memP, List.cons_append, List.nil_append, true_or, or_true, true_and, and_true, or_false] <;> omega))), ⟨n1, by omega, by omega, 1, by rw [(show drL l a b kp f = [Inn.mk f] from by unfold drL; rw [show l.length = i from by omega]; exact if_pos (by omega))] <;> rfl, by omega, by first | exact vle_row _ _ _ | exact VLe.refl _, by rw [(show drL l a b kp f = [Inn.mk f] from by unfold drL; rw [show l.length = i from by omega]; exact if_pos (by omega))] <;> rfl⟩⟩
  ·
   refine OA.p (some 55) (.bool false) rfl rfl rfl (Eq.trans (r_bin rfl rfl rfl (b_eql rfl)) (dF hc9)) ?_
   refine OA.nil ?_
   intro _
   refine RA.condF rfl ?_
   refine RA.skip env_ok ?_
   intro _
   refine RA.seq hd ?_
   refine RA.region env_ok ?_
   refine OA.p (some 58) (.slice (some ⟨ko, 0, none⟩) M 2) rfl rfl rfl rfl ?_
   refine OA.p (some 10) (.slice (some ⟨ko, 0, none⟩) M 2) rfl rfl rfl rfl ?_
   refine OA.nil ?_
   intro _
   refine RA.ret env_ok ?_
   refine ⟨.inr rfl, [(.slice (some ⟨ko, 0, none⟩) M 2)], (resL_cons rfl resL_nil), [(ko, some (oInn (stL l a b kp i)))], (Less.refl _ _ _), ⟨ko, by omega, by omega, M, by rw [(show drL l a b kp f = stL l a b kp i from by unfold drL; rw [show l.length = i from by omega]; exact if_neg (by omega))]; exact hi2, by omega, by first | exact vle_row _ _ _ | exact VLe.refl _, by rw [(show drL l a b kp f = stL l a b kp i from by unfold drL; rw [show l.length = i from by omega]; exact if_neg (by omega))] <;> rfl⟩⟩
end Go.Proofs.Ytnjknabighmedaa.Vt
