/- Pa5: walks through functions of the program, by the calculus; written by a program of this workplace. -/
import Derived.Test.YtnjknabighmedaaPa4
import Derived.Test.YtnjknabighmedaaVm6
namespace Go.Proofs.Ytnjknabighmedaa.Vt
open Go Go.Proofs Go.Proofs.YtnjknabighmedaaV
set_option maxRecDepth 100000
set_option linter.unusedVariables false
set_option linter.unusedSimpArgs false
def restL (l : List Pth) (fs : List Inn) (k : Nat) : List Pth := (fs.take k).map (fun e => l.getD e.z.toNat dPth)
def restA (l : List Pth) (fs : List Inn) : List Pth := fs.map (fun e => l.getD e.z.toNat dPth)
theorem restL_step {l : List Pth} {fs : List Inn} {k : Nat} (h : k < fs.length) : restL l fs (k + 1) = restL l fs k ++ [l.getD (fs.getD k dInn).z.toNat dPth] := by
  unfold restL
  rw [List.take_succ_eq_append_getElem h, List.map_append, List.getD_eq_getElem?_getD (l := fs), List.getElem?_eq_getElem h]; rfl
theorem restL_len {l : List Pth} {fs : List Inn} {k : Nat} (h : k ≤ fs.length) : (restL l fs k).length = k := by
  unfold restL; rw [List.length_map, List.length_take]; omega
theorem restL_end {l : List Pth} {fs : List Inn} {k : Nat} (h : fs.length ≤ k) : restL l fs k = restA l fs := by
  unfold restL restA; rw [List.take_of_length_le h]
def okI (K : Nat) (fs : List Inn) : Prop := ∀ e ∈ fs, 0 ≤ e.z ∧ e.z < (K : Int)
theorem stL_ok {l : List Pth} {a b : BitVec 32} {kp : Int} {i : Nat} : okI i (stL l a b kp i) := by
  intro e he
  unfold stL at he
  obtain ⟨k, h1, rfl⟩ := List.mem_map.1 he
  have h2 := List.mem_range.1 (List.mem_filter.1 h1).1
  exact ⟨by show (0 : Int) ≤ (k : Int); omega, by show ((k : Nat) : Int) < (i : Int); omega⟩
theorem drL_ok {l : List Pth} {a b : BitVec 32} {kp : Int} {f K : Nat} (hl : l.length = K) (hf : f < K) : okI K (drL l a b kp ((f : Nat) : Int)) := by
  subst hl
  unfold drL
  split
  · intro e he
    rw [List.mem_singleton] at he
    subst he
    exact ⟨by show (0 : Int) ≤ (f : Int); omega, by show ((f : Nat) : Int) < (l.length : Int); omega⟩
  · exact stL_ok
def atF (f : Nat) (fs : List Inn) : Nat := (idxZ (eqI ((f : Nat) : Int)) fs).toNat
theorem idx_lb {α : Type} {p : α → Bool} {l : List α} : -1 ≤ idxZ p l ∧ idxZ p l ≤ (l.length : Int) := by
  unfold idxZ; split <;> omega
theorem r_maxZ {E : Env} [hP : Plain E] {τ : Tm} {o : Oper} {n : Nat} {σ : Store} {k k' : IntKind} {cl : Call} {x : Int} (ho : o.op = .call cl) (hc : cl.callee = .builtin .max) (ha : evL τ cl.args.toList = some [.int k x, .int k' 0]) : (aop E τ o).run n σ = some (.int k ((x.toNat : Nat) : Int), n, []) := by
  rw [aop_plain]
  unfold aop0
  have h : amin .gtr [.int k x, .int k' 0] = some (.int k ((x.toNat : Nat) : Int)) := by
    unfold amin
    simp only [amin.go, reduceCtorEq, if_false, decide_eq_true_eq]
    split
    · rw [show ((x.toNat : Nat) : Int) = 0 by omega]
    · rw [show ((x.toNat : Nat) : Int) = x by omega]
  simp only [ho, hc, ha, abuiltin, h, orFail, T.run]
abbrev xPa51 (l : List Pth) (f : Nat) (k : Nat) : List Value := [(W (l.getD ([Inn.mk ((f : Nat) : Int)].getD k dInn).z.toNat dPth).own), (W (l.getD ([Inn.mk ((f : Nat) : Int)].getD k dInn).z.toNat dPth).peer), (.int .i64 (l.getD ([Inn.mk ((f : Nat) : Int)].getD k dInn).z.toNat dPth).state), (.int .i64 (l.getD ([Inn.mk ((f : Nat) : Int)].getD k dInn).z.toNat dPth).f3), (.int .i64 (l.getD ([Inn.mk ((f : Nat) : Int)].getD k dInn).z.toNat dPth).f4), (.int .i64 (l.getD ([Inn.mk ((f : Nat) : Int)].getD k dInn).z.toNat dPth).f5), (.int .i64 (l.getD ([Inn.mk ((f : Nat) : Int)].getD k dInn).z.toNat dPth).f6), (.bool (l.getD ([Inn.mk ((f : Nat) : Int)].getD k dInn).z.toNat dPth).f7), (.int .i64 (l.getD ([Inn.mk ((f : Nat) : Int)].getD k dInn).z.toNat dPth).f8), (.int .i64 (l.getD ([Inn.mk ((f : Nat) : Int)].getD k dInn).z.toNat dPth).f9), (.int .i64 (l.getD ([Inn.mk ((f : Nat) : Int)].getD k dInn).z.toNat dPth).f10), (.int .i64 (l.getD ([Inn.mk ((f : Nat) : Int)].getD k dInn).z.toNat dPth).f11), (.int .i64 (l.getD ([Inn.mk ((f : Nat) : Int)].getD k dInn).z.toNat dPth).f12), (W (l.getD ([Inn.mk ((f : Nat) : Int)].getD k dInn).z.toNat dPth).f13), (.int .i64 (l.getD ([Inn.mk ((f : Nat) : Int)].getD k dInn).z.toNat dPth).f14)]
abbrev xPa52 (l : List Pth) (a : BitVec 32) (b : BitVec 32) (kp : Int) (i : Nat) (k : Nat) : List Value := [(W (l.getD ((stL l a b kp i).getD k dInn).z.toNat dPth).own), (W (l.getD ((stL l a b kp i).getD k dInn).z.toNat dPth).peer), (.int .i64 (l.getD ((stL l a b kp i).getD k dInn).z.toNat dPth).state), (.int .i64 (l.getD ((stL l a b kp i).getD k dInn).z.toNat dPth).f3), (.int .i64 (l.getD ((stL l a b kp i).getD k dInn).z.toNat dPth).f4), (.int .i64 (l.getD ((stL l a b kp i).getD k dInn).z.toNat dPth).f5), (.int .i64 (l.getD ((stL l a b kp i).getD k dInn).z.toNat dPth).f6), (.bool (l.getD ((stL l a b kp i).getD k dInn).z.toNat dPth).f7), (.int .i64 (l.getD ((stL l a b kp i).getD k dInn).z.toNat dPth).f8), (.int .i64 (l.getD ((stL l a b kp i).getD k dInn).z.toNat dPth).f9), (.int .i64 (l.getD ((stL l a b kp i).getD k dInn).z.toNat dPth).f10), (.int .i64 (l.getD ((stL l a b kp i).getD k dInn).z.toNat dPth).f11), (.int .i64 (l.getD ((stL l a b kp i).getD k dInn).z.toNat dPth).f12), (W (l.getD ((stL l a b kp i).getD k dInn).z.toNat dPth).f13), (.int .i64 (l.getD ((stL l a b kp i).getD k dInn).z.toNat dPth).f14)]
abbrev xPa53 : List Value := [(.int .u32 0), (.int .u32 0), (.int .i64 0), (.int .i64 0), (.int .i64 0), (.int .i64 0), (.int .i64 0), (.bool false), (.int .i64 0), (.int .i64 0), (.int .i64 0), (.int .i64 0), (.int .i64 0), (.int .u32 0), (.int .i64 0)]
theorem pDrop {n : Nat} {σ : Store} (hd : Dom n σ) (p jp K f : Nat) (l : List Pth) (hl : l.length = K) (hK : K ≤ 1000) (hpj : p ≠ jp) (hf : f < K) (a b : BitVec 32) (kp : Int) (hp : σ p = some ⟨[[(.slice (some ⟨jp, 0, none⟩) K 2), (.int .i64 ((f : Nat) : Int))]], 2, 131, true⟩) (hjp : σ jp = some (oPth l))  : CQ Try.prog noDen 56 [(Pt p 0 0), (W a), (W b), (.int .i64 kp)] n σ (fun v n' d => ∃ i j, n ≤ i ∧ i < n' ∧ n ≤ j ∧ j < n' ∧ i ≠ j ∧ ∃ M, (drL l a b kp ((f : Nat) : Int)).length = M ∧ M ≤ K + 1 ∧ VLe v (.slice (some ⟨i, 0, none⟩) M 2) ∧ d = [(p, some ⟨[[(.slice (some ⟨j, 0, none⟩) M 2), (.int .i64 (((atF f (drL l a b kp ((f : Nat) : Int))) : Nat) : Int))]], 2, 131, true⟩), (i, some (oInn (drL l a b kp ((f : Nat) : Int)))), (j, some (oPth (restA l (drL l a b kp ((f : Nat) : Int)))))]) := by
 have lhp := hd.lt hp
 have lhjp := hd.lt hjp
 refine CQ.body (E := env) env_ok hd rfl rfl (by show _ ≤ _; exact of_decide_eq_true (by kernel_rfl)) ?_
 refine RA.seq hd ?_
 refine RA.region env_ok ?_
 refine OA.p (some 8) (.slice none 0 0) rfl rfl rfl rfl ?_
 refine OA.nil ?_
 intro _
 refine RA.seq hd ?_
 refine RA.seq hd ?_
 refine RA.region env_ok ?_
 refine OA.p (some 16) (Pt p 0 0) rfl rfl rfl rfl ?_
 refine OA.p (some 17) (.bool false) rfl rfl rfl rfl ?_
 refine OA.nil ?_
 intro _
 refine RA.condF rfl ?_
 refine RA.skip env_ok ?_
 intro _
 refine RA.seq hd ?_
 refine RA.region env_ok ?_
 refine OA.p (some 9) (.slice none 0 0) rfl rfl rfl rfl ?_
 refine OA.nil ?_
 intro _
 refine RA.seq hd ?_
 refine RA.seq hd ?_
 refine RA.region env_ok ?_
 refine OA.p (some 18) (Pt p 0 0) rfl rfl rfl rfl ?_
 refine OA.p (some 19) (Pt p 0 0) rfl rfl rfl rfl ?_
 refine OA.p (some 20) (Pt p 0 0) rfl rfl rfl rfl ?_
 refine OA.p (some 21) (.slice (some ⟨jp, 0, none⟩) K 2) rfl rfl rfl (r_load1 rfl rfl rfl rfl rfl hp rfl rfl) ?_
 refine OA.p (some 22) (.int .i64 ((K : Nat) : Int)) rfl rfl rfl rfl ?_
 refine OA.p (some 23) (.int .i64 0) rfl rfl rfl rfl ?_
 refine OA.nil ?_
 intro _
 refine RA.block ?_
 refine RA.ph (sz := 1) (t := 3) (by decide) ?_
 show RA _ _ _ _ _ _ _ _ [(n, some (oInn ([] : List Inn)))] _
 refine RA.leT (t := 9) (v := (.slice none 0 0)) (v' := (.slice (some ⟨n, 0, none⟩) 0 2)) rfl (vle_nil _ _) ?_
 refine RA.loop hd (fun kk_ τ n' D => (∃ i : Nat, ∃ ko : Nat, ∃ M : Nat, kk_ = K - i ∧ (n + 1) ≤ n' ∧ Has τ [(0, (Pt p 0 0)), (1, (W a)), (2, (W b)), (3, (.int .i64 kp)), (9, (.slice (some ⟨ko, 0, none⟩) M 2)), (21, (.slice (some ⟨jp, 0, none⟩) K 2)), (22, (.int .i64 ((K : Nat) : Int))), (23, (.int .i64 ((i : Nat) : Int)))] ∧ D = [(ko, some (oInn (stL l a b kp i)))] ∧ (∀ i ∈ keys D, i < n') ∧ i ≤ K ∧ (stL l a b kp i).length = M ∧ M ≤ i ∧ n ≤ ko)) (K - 0) (⟨0, n, 0, rfl, by omega, ⟨rfl, rfl, rfl, rfl, rfl, rfl, rfl, rfl, trivial⟩, (by rfl), (kb1 (by omega)), ⟨by omega, rfl, by omega, by omega⟩⟩) ?_
 rintro kn1 τ1 n1 _ ⟨i, ko, M, rfl, hn1, hHn1, rfl, hKn1, hIn1⟩
 rw [Has.eq hHn1]
 have hKn1_0 : ko < n1 := hKn1 _ (by simp only [keys, List.map_cons, List.map_nil, List.mem_cons, true_or, or_true])
 clear hKn1
 obtain ⟨hi1, hi2, hi3, hi4⟩ := hIn1
 refine RA.seq hd ?_
 refine RA.region env_ok ?_
 by_cases hc1 : ((i : Nat) : Int) < ((K : Nat) : Int)
 ·
  refine OA.p (some 24) (.bool true) rfl rfl rfl (Eq.trans (r_bin rfl rfl rfl (b_lss rfl)) (dT hc1)) ?_
  refine OA.nil ?_
  intro _
  refine RA.seq hd ?_
  refine RA.condT rfl ?_
  refine RA.skip env_ok ?_
  intro _
  refine RA.seq hd ?_
  refine RA.block ?_
  refine RA.seq hd ?_
  refine RA.region env_ok ?_
  refine OA.p (some 25) (.int .i64 ((i : Nat) : Int)) rfl rfl rfl rfl ?_
  refine OA.p (some 26) (Pt jp i 0) rfl rfl rfl (r_iaS (l := i) rfl rfl rfl rfl rfl rfl (by omega) (by omega) (get_there (by omega) hjp) rfl (by omega)) ?_
  refine OA.p (some 27) (.agg ⟨(cPth (l.getD i dPth))⟩) rfl rfl rfl (r_loadR (c := cPth) dPth rfl rfl rfl rfl (get_there (by omega) hjp) (by rw [hl]; omega) rfl) ?_
  refine OA.op1 (dst := (some 11)) (v := (Pt n1 0 0)) (n1 := (n1 + 1)) (w := (n1, some ⟨[xPa53], 15, 87, true⟩)) rfl rfl rfl rfl (by omega) ?_
  refine OA.p (some 10) (.int .i64 ((i : Nat) : Int)) rfl rfl rfl rfl ?_
  refine OA.op1 (dst := none) (v := (.tuple #[])) (n1 := (n1 + 1)) (w := (n1, some ⟨[(cPth (l.getD i dPth))], 15, 87, true⟩)) rfl rfl rfl (r_store rfl rfl rfl rfl rfl rfl rfl get_here rfl rfl (Nat.le_of_ble_eq_true rfl) rfl) (by omega) ?_
  refine OA.nil ?_
  intro _
  refine RA.seq hd ?_
  refine RA.region env_ok ?_
  refine OA.p (some 28) (W a) rfl rfl rfl rfl ?_
  by_cases hc2 : (a.toNat : Int) = 0
  ·
   refine OA.p (some 29) (.bool true) rfl rfl rfl (Eq.trans (r_bin rfl rfl rfl (b_eql rfl)) (dT hc2)) ?_
   refine OA.p (some 30) (.bool true) rfl rfl rfl rfl ?_
   refine OA.off (dst := (some 31)) rfl rfl rfl ?_
   refine OA.off (dst := (some 32)) rfl rfl rfl ?_
   refine OA.off (dst := (some 33)) rfl rfl rfl ?_
   refine OA.off (dst := (some 34)) rfl rfl rfl ?_
   refine OA.p (some 35) (.bool true) rfl rfl rfl rfl ?_
   refine OA.p (some 36) (.bool true) rfl rfl rfl rfl ?_
   refine OA.p (some 37) (W b) rfl rfl rfl rfl ?_
   by_cases hc3 : (b.toNat : Int) = 0
   ·
    refine OA.p (some 38) (.bool true) rfl rfl rfl (Eq.trans (r_bin rfl rfl rfl (b_eql rfl)) (dT hc3)) ?_
    refine OA.p (some 39) (.bool true) rfl rfl rfl rfl ?_
    refine OA.off (dst := (some 40)) rfl rfl rfl ?_
    refine OA.off (dst := (some 41)) rfl rfl rfl ?_
    refine OA.off (dst := (some 42)) rfl rfl rfl ?_
    refine OA.off (dst := (some 43)) rfl rfl rfl ?_
    refine OA.p (some 44) (.bool true) rfl rfl rfl rfl ?_
    refine OA.p (some 45) (.bool true) rfl rfl rfl rfl ?_
    refine OA.p (some 12) (.bool true) rfl rfl rfl rfl ?_
    refine OA.nil ?_
    intro _
    refine RA.rebase [(0, (Pt p 0 0)), (1, (W a)), (2, (W b)), (3, (.int .i64 kp)), (9, (.slice (some ⟨ko, 0, none⟩) M 2)), (10, (.int .i64 ((i : Nat) : Int))), (11, (Pt n1 0 0)), (12, (.bool true)), (21, (.slice (some ⟨jp, 0, none⟩) K 2)), (22, (.int .i64 ((K : Nat) : Int))), (23, (.int .i64 ((i : Nat) : Int))), (24, (.bool true))] ⟨rfl, rfl, rfl, rfl, rfl, rfl, rfl, rfl, rfl, rfl, rfl, rfl, trivial⟩ (fun τr2 => ?_)
    refine RA.seq hd ?_
    refine RA.region env_ok ?_
    refine OA.p (some 46) (.bool true) rfl rfl rfl rfl ?_
    refine OA.p (some 47) (.bool false) rfl rfl rfl rfl ?_
    refine OA.p (some 48) (.bool false) rfl rfl rfl rfl ?_
    refine OA.p (some 49) (.int .i64 ((i : Nat) : Int)) rfl rfl rfl rfl ?_
    refine OA.p (some 50) (.int .i64 kp) rfl rfl rfl rfl ?_
    by_cases hc4 : ((i : Nat) : Int) = kp
    ·
     refine OA.p (some 51) (.bool true) rfl rfl rfl (Eq.trans (r_bin rfl rfl rfl (b_eql rfl)) (dT hc4)) ?_
     refine OA.p (some 52) (.bool true) rfl rfl rfl rfl ?_
     refine OA.nil ?_
     intro _
     refine RA.condT rfl ?_
     refine RA.region env_ok ?_
     refine OA.p (some 53) (.slice (some ⟨ko, 0, none⟩) M 2) rfl rfl rfl rfl ?_
     refine OA.p (some 54) (.int .i64 ((i : Nat) : Int)) rfl rfl rfl rfl ?_
     refine OA.op1 (dst := (some 55)) (v := (.slice (some ⟨(n1 + 1), 0, none⟩) 1 0)) (n1 := (n1 + 2)) (w := ((n1 + 1), some ⟨[[(.int .i64 ((i : Nat) : Int))]], 1, 3, true⟩)) rfl rfl rfl (by kernel_rfl) (by omega) ?_
     refine OA.op (dst := (some 56)) (v := (.slice (some ⟨(n1 + 2), 0, none⟩) (M + 1) 2)) (n1 := (n1 + 3)) (d1 := [((n1 + 2), some (oInn ((stL l a b kp i) ++ [(Inn.mk ((i : Nat) : Int))]))), (ko, none)]) (D' := [((n1 + 2), some (oInn ((stL l a b kp i) ++ [(Inn.mk ((i : Nat) : Int))]))), (ko, none), ((n1 + 1), some ⟨[[(.int .i64 ((i : Nat) : Int))]], 1, 3, true⟩), (n1, some ⟨[(cPth (l.getD i dPth))], 15, 87, true⟩), (n1, some ⟨[xPa53], 15, 87, true⟩), (ko, some (oInn (stL l a b kp i)))]) rfl rfl rfl (r_append2x (c := cInn) (x := (Inn.mk ((i : Nat) : Int))) (l' := ((stL l a b kp i) ++ [(Inn.mk ((i : Nat) : Int))])) rfl rfl rfl rfl rfl rfl rfl rfl rfl rfl (by decide) (gt3 (by omega) get_here) get_here (by rw [hi2]; omega) (by rw [take_all' (by rw [hi2])]) (by omega) (of_decide_eq_true (by kernel_rfl)) (by omega)) (by omega) rfl ?_
     refine OA.p (some 9) (.slice (some ⟨(n1 + 2), 0, none⟩) (M + 1) 2) rfl rfl rfl rfl ?_
     refine OA.nil ?_
     intro _
     refine RA.region env_ok ?_
     refine OA.p (some 57) (.int .i64 (((i + 1) : Nat) : Int)) rfl rfl rfl (r_bin rfl rfl rfl (b_add (i64_eq (by omega)))) ?_
     refine OA.p (some 23) (.int .i64 (((i + 1) : Nat) : Int)) rfl rfl rfl rfl ?_
     refine OA.nil ?_
     refine ⟨K - (i + 1), by omega, [((n1 + 2), some (oInn ((stL l a b kp i) ++ [(Inn.mk ((i : Nat) : Int))])))], (Less.of (fac (mm (fun _ => get_here) (fun _ => get_here)) fan) (gone_of (by simp only [goneP, memP, List.cons_append, List.nil_append, true_or, or_true, true_and, and_true, or_false] <;> omega))), ⟨(i + 1), (n1 + 2), (M + 1), rfl, by omega, ⟨rfl, rfl, rfl, rfl, rfl, rfl, rfl, rfl, trivial⟩, (by rw [stL_yes (show stB l a b kp i = true from by unfold stB; rw [decide_eq_true_eq]; omega)]), (kb1 (by omega)), ⟨by omega, by rw [stL_yes (show stB l a b kp i = true from by unfold stB; rw [decide_eq_true_eq]; omega)]; rw [List.length_append, List.length_singleton, hi2], by omega, by omega⟩⟩⟩
    ·
     refine OA.p (some 51) (.bool false) rfl rfl rfl (Eq.trans (r_bin rfl rfl rfl (b_eql rfl)) (dF hc4)) ?_
     refine OA.p (some 52) (.bool false) rfl rfl rfl rfl ?_
     refine OA.nil ?_
     intro _
     refine RA.condF rfl ?_
     refine RA.skip env_ok ?_
     intro _
     refine RA.region env_ok ?_
     refine OA.p (some 57) (.int .i64 (((i + 1) : Nat) : Int)) rfl rfl rfl (r_bin rfl rfl rfl (b_add (i64_eq (by omega)))) ?_
     refine OA.p (some 23) (.int .i64 (((i + 1) : Nat) : Int)) rfl rfl rfl rfl ?_
     refine OA.nil ?_
     refine ⟨K - (i + 1), by omega, [(ko, some (oInn (stL l a b kp i)))], (Less.of (fac (mm (fun _ => get_here) (fun _ => (gt2 (by omega) get_here))) fan) (gone_of (by simp only [goneP, memP, List.cons_append, List.nil_append, true_or, or_true, true_and, and_true, or_false] <;> omega))), ⟨(i + 1), ko, M, rfl, by omega, ⟨rfl, rfl, rfl, rfl, rfl, rfl, rfl, rfl, trivial⟩, (by rw [stL_no (show stB l a b kp i = false from by unfold stB; rw [decide_eq_false_iff_not]; omega)]), (kb1 (by omega)), ⟨by omega, by rw [stL_no (show stB l a b kp i = false from by unfold stB; rw [decide_eq_false_iff_not]; omega)]; exact hi2, by omega, by omega⟩⟩⟩
   ·
    refine OA.p (some 38) (.bool false) rfl rfl rfl (Eq.trans (r_bin rfl rfl rfl (b_eql rfl)) (dF hc3)) ?_
    refine OA.p (some 39) (.bool false) rfl rfl rfl rfl ?_
    refine OA.p (some 40) (Pt n1 0 1) rfl rfl rfl rfl ?_
    refine OA.p (some 41) (W (l.getD i dPth).peer) rfl rfl rfl (r_load1 rfl rfl rfl rfl rfl get_here rfl rfl) ?_
    refine OA.p (some 42) (W b) rfl rfl rfl rfl ?_
    by_cases hc5 : ((l.getD i dPth).peer.toNat : Int) = (b.toNat : Int)
    ·
     refine OA.p (some 43) (.bool true) rfl rfl rfl (Eq.trans (r_bin rfl rfl rfl (b_eql rfl)) (dT hc5)) ?_
     refine OA.p (some 44) (.bool true) rfl rfl rfl rfl ?_
     refine OA.p (some 45) (.bool true) rfl rfl rfl rfl ?_
     refine OA.p (some 12) (.bool true) rfl rfl rfl rfl ?_
     refine OA.nil ?_
     intro _
     refine RA.rebase [(0, (Pt p 0 0)), (1, (W a)), (2, (W b)), (3, (.int .i64 kp)), (9, (.slice (some ⟨ko, 0, none⟩) M 2)), (10, (.int .i64 ((i : Nat) : Int))), (11, (Pt n1 0 0)), (12, (.bool true)), (21, (.slice (some ⟨jp, 0, none⟩) K 2)), (22, (.int .i64 ((K : Nat) : Int))), (23, (.int .i64 ((i : Nat) : Int))), (24, (.bool true))] ⟨rfl, rfl, rfl, rfl, rfl, rfl, rfl, rfl, rfl, rfl, rfl, rfl, trivial⟩ (fun τr3 => ?_)
     refine RA.seq hd ?_
     refine RA.region env_ok ?_
     refine OA.p (some 46) (.bool true) rfl rfl rfl rfl ?_
     refine OA.p (some 47) (.bool false) rfl rfl rfl rfl ?_
     refine OA.p (some 48) (.bool false) rfl rfl rfl rfl ?_
     refine OA.p (some 49) (.int .i64 ((i : Nat) : Int)) rfl rfl rfl rfl ?_
     refine OA.p (some 50) (.int .i64 kp) rfl rfl rfl rfl ?_
     by_cases hc6 : ((i : Nat) : Int) = kp
     ·
      refine OA.p (some 51) (.bool true) rfl rfl rfl (Eq.trans (r_bin rfl rfl rfl (b_eql rfl)) (dT hc6)) ?_
      refine OA.p (some 52) (.bool true) rfl rfl rfl rfl ?_
      refine OA.nil ?_
      intro _
      refine RA.condT rfl ?_
      refine RA.region env_ok ?_
      refine OA.p (some 53) (.slice (some ⟨ko, 0, none⟩) M 2) rfl rfl rfl rfl ?_
      refine OA.p (some 54) (.int .i64 ((i : Nat) : Int)) rfl rfl rfl rfl ?_
      refine OA.op1 (dst := (some 55)) (v := (.slice (some ⟨(n1 + 1), 0, none⟩) 1 0)) (n1 := (n1 + 2)) (w := ((n1 + 1), some ⟨[[(.int .i64 ((i : Nat) : Int))]], 1, 3, true⟩)) rfl rfl rfl (by kernel_rfl) (by omega) ?_
      refine OA.op (dst := (some 56)) (v := (.slice (some ⟨(n1 + 2), 0, none⟩) (M + 1) 2)) (n1 := (n1 + 3)) (d1 := [((n1 + 2), some (oInn ((stL l a b kp i) ++ [(Inn.mk ((i : Nat) : Int))]))), (ko, none)]) (D' := [((n1 + 2), some (oInn ((stL l a b kp i) ++ [(Inn.mk ((i : Nat) : Int))]))), (ko, none), ((n1 + 1), some ⟨[[(.int .i64 ((i : Nat) : Int))]], 1, 3, true⟩), (n1, some ⟨[(cPth (l.getD i dPth))], 15, 87, true⟩), (n1, some ⟨[xPa53], 15, 87, true⟩), (ko, some (oInn (stL l a b kp i)))]) rfl rfl rfl (r_append2x (c := cInn) (x := (Inn.mk ((i : Nat) : Int))) (l' := ((stL l a b kp i) ++ [(Inn.mk ((i : Nat) : Int))])) rfl rfl rfl rfl rfl rfl rfl rfl rfl rfl (by decide) (gt3 (by omega) get_here) get_here (by rw [hi2]; omega) (by rw [take_all' (by rw [hi2])]) (by omega) (of_decide_eq_true (by kernel_rfl)) (by omega)) (by omega) rfl ?_
      refine OA.p (some 9) (.slice (some ⟨(n1 + 2), 0, none⟩) (M + 1) 2) rfl rfl rfl rfl ?_
      refine OA.nil ?_
      intro _
      refine RA.region env_ok ?_
      refine OA.p (some 57) (.int .i64 (((i + 1) : Nat) : Int)) rfl rfl rfl (r_bin rfl rfl rfl (b_add (i64_eq (by omega)))) ?_
      refine OA.p (some 23) (.int .i64 (((i + 1) : Nat) : Int)) rfl rfl rfl rfl ?_
      refine OA.nil ?_
      refine ⟨K - (i + 1), by omega, [((n1 + 2), some (oInn ((stL l a b kp i) ++ [(Inn.mk ((i : Nat) : Int))])))], (Less.of (fac (mm (fun _ => get_here) (fun _ => get_here)) fan) (gone_of (by simp only [goneP, memP, List.cons_append, List.nil_append, true_or, or_true, true_and, and_true, or_false] <;> omega))), ⟨(i + 1), (n1 + 2), (M + 1), rfl, by omega, ⟨rfl, rfl, rfl, rfl, rfl, rfl, rfl, rfl, trivial⟩, (by rw [stL_yes (show stB l a b kp i = true from by unfold stB; rw [decide_eq_true_eq]; omega)]), (kb1 (by omega)), ⟨by omega, by rw [stL_yes (show stB l a b kp i = true from by unfold stB; rw [decide_eq_true_eq]; omega)]; rw [List.length_append, List.length_singleton, hi2], by omega, by omega⟩⟩⟩
     ·
      refine OA.p (some 51) (.bool false) rfl rfl rfl (Eq.trans (r_bin rfl rfl rfl (b_eql rfl)) (dF hc6)) ?_
      refine OA.p (some 52) (.bool false) rfl rfl rfl rfl ?_
      refine OA.nil ?_
      intro _
      refine RA.condF rfl ?_
      refine RA.skip env_ok ?_
      intro _
      refine RA.region env_ok ?_
      refine OA.p (some 57) (.int .i64 (((i + 1) : Nat) : Int)) rfl rfl rfl (r_bin rfl rfl rfl (b_add (i64_eq (by omega)))) ?_
      refine OA.p (some 23) (.int .i64 (((i + 1) : Nat) : Int)) rfl rfl rfl rfl ?_
      refine OA.nil ?_
      refine ⟨K - (i + 1), by omega, [(ko, some (oInn (stL l a b kp i)))], (Less.of (fac (mm (fun _ => get_here) (fun _ => (gt2 (by omega) get_here))) fan) (gone_of (by simp only [goneP, memP, List.cons_append, List.nil_append, true_or, or_true, true_and, and_true, or_false] <;> omega))), ⟨(i + 1), ko, M, rfl, by omega, ⟨rfl, rfl, rfl, rfl, rfl, rfl, rfl, rfl, trivial⟩, (by rw [stL_no (show stB l a b kp i = false from by unfold stB; rw [decide_eq_false_iff_not]; omega)]), (kb1 (by omega)), ⟨by omega, by rw [stL_no (show stB l a b kp i = false from by unfold stB; rw [decide_eq_false_iff_not]; omega)]; exact hi2, by omega, by omega⟩⟩⟩
    ·
     refine OA.p (some 43) (.bool false) rfl rfl rfl (Eq.trans (r_bin rfl rfl rfl (b_eql rfl)) (dF hc5)) ?_
     refine OA.p (some 44) (.bool false) rfl rfl rfl rfl ?_
     refine OA.p (some 45) (.bool false) rfl rfl rfl rfl ?_
     refine OA.p (some 12) (.bool false) rfl rfl rfl rfl ?_
     refine OA.nil ?_
     intro _
     refine RA.rebase [(0, (Pt p 0 0)), (1, (W a)), (2, (W b)), (3, (.int .i64 kp)), (9, (.slice (some ⟨ko, 0, none⟩) M 2)), (10, (.int .i64 ((i : Nat) : Int))), (11, (Pt n1 0 0)), (12, (.bool false)), (21, (.slice (some ⟨jp, 0, none⟩) K 2)), (22, (.int .i64 ((K : Nat) : Int))), (23, (.int .i64 ((i : Nat) : Int))), (24, (.bool true))] ⟨rfl, rfl, rfl, rfl, rfl, rfl, rfl, rfl, rfl, rfl, rfl, rfl, trivial⟩ (fun τr4 => ?_)
     refine RA.seq hd ?_
     refine RA.region env_ok ?_
     refine OA.p (some 46) (.bool false) rfl rfl rfl rfl ?_
     refine OA.p (some 47) (.bool true) rfl rfl rfl rfl ?_
     refine OA.p (some 48) (.bool true) rfl rfl rfl rfl ?_
     refine OA.off (dst := (some 49)) rfl rfl rfl ?_
     refine OA.off (dst := (some 50)) rfl rfl rfl ?_
     refine OA.off (dst := (some 51)) rfl rfl rfl ?_
     refine OA.p (some 52) (.bool true) rfl rfl rfl rfl ?_
     refine OA.nil ?_
     intro _
     refine RA.condT rfl ?_
     refine RA.region env_ok ?_
     refine OA.p (some 53) (.slice (some ⟨ko, 0, none⟩) M 2) rfl rfl rfl rfl ?_
     refine OA.p (some 54) (.int .i64 ((i : Nat) : Int)) rfl rfl rfl rfl ?_
     refine OA.op1 (dst := (some 55)) (v := (.slice (some ⟨(n1 + 1), 0, none⟩) 1 0)) (n1 := (n1 + 2)) (w := ((n1 + 1), some ⟨[[(.int .i64 ((i : Nat) : Int))]], 1, 3, true⟩)) rfl rfl rfl (by kernel_rfl) (by omega) ?_
     refine OA.op (dst := (some 56)) (v := (.slice (some ⟨(n1 + 2), 0, none⟩) (M + 1) 2)) (n1 := (n1 + 3)) (d1 := [((n1 + 2), some (oInn ((stL l a b kp i) ++ [(Inn.mk ((i : Nat) : Int))]))), (ko, none)]) (D' := [((n1 + 2), some (oInn ((stL l a b kp i) ++ [(Inn.mk ((i : Nat) : Int))]))), (ko, none), ((n1 + 1), some ⟨[[(.int .i64 ((i : Nat) : Int))]], 1, 3, true⟩), (n1, some ⟨[(cPth (l.getD i dPth))], 15, 87, true⟩), (n1, some ⟨[xPa53], 15, 87, true⟩), (ko, some (oInn (stL l a b kp i)))]) rfl rfl rfl (r_append2x (c := cInn) (x := (Inn.mk ((i : Nat) : Int))) (l' := ((stL l a b kp i) ++ [(Inn.mk ((i : Nat) : Int))])) rfl rfl rfl rfl rfl rfl rfl rfl rfl rfl (by decide) (gt3 (by omega) get_here) get_here (by rw [hi2]; omega) (by rw [take_all' (by rw [hi2])]) (by omega) (of_decide_eq_true (by kernel_rfl)) (by omega)) (by omega) rfl ?_
     refine OA.p (some 9) (.slice (some ⟨(n1 + 2), 0, none⟩) (M + 1) 2) rfl rfl rfl rfl ?_
     refine OA.nil ?_
     intro _
     refine RA.region env_ok ?_
     refine OA.p (some 57) (.int .i64 (((i + 1) : Nat) : Int)) rfl rfl rfl (r_bin rfl rfl rfl (b_add (i64_eq (by omega)))) ?_
     refine OA.p (some 23) (.int .i64 (((i + 1) : Nat) : Int)) rfl rfl rfl rfl ?_
     refine OA.nil ?_
     refine ⟨K - (i + 1), by omega, [((n1 + 2), some (oInn ((stL l a b kp i) ++ [(Inn.mk ((i : Nat) : Int))])))], (Less.of (fac (mm (fun _ => get_here) (fun _ => get_here)) fan) (gone_of (by simp only [goneP, memP, List.cons_append, List.nil_append, true_or, or_true, true_and, and_true, or_false] <;> omega))), ⟨(i + 1), (n1 + 2), (M + 1), rfl, by omega, ⟨rfl, rfl, rfl, rfl, rfl, rfl, rfl, rfl, trivial⟩, (by rw [stL_yes (show stB l a b kp i = true from by unfold stB; rw [decide_eq_true_eq]; omega)]), (kb1 (by omega)), ⟨by omega, by rw [stL_yes (show stB l a b kp i = true from by unfold stB; rw [decide_eq_true_eq]; omega)]; rw [List.length_append, List.length_singleton, hi2], by omega, by omega⟩⟩⟩
  ·
   refine OA.p (some 29) (.bool false) rfl rfl rfl (Eq.trans (r_bin rfl rfl rfl (b_eql rfl)) (dF hc2)) ?_
   refine OA.p (some 30) (.bool false) rfl rfl rfl rfl ?_
   refine OA.p (some 31) (Pt n1 0 0) rfl rfl rfl rfl ?_
   refine OA.p (some 32) (W (l.getD i dPth).own) rfl rfl rfl (r_load1 rfl rfl rfl rfl rfl get_here rfl rfl) ?_
   refine OA.p (some 33) (W a) rfl rfl rfl rfl ?_
   by_cases hc7 : ((l.getD i dPth).own.toNat : Int) = (a.toNat : Int)
   ·
    refine OA.p (some 34) (.bool true) rfl rfl rfl (Eq.trans (r_bin rfl rfl rfl (b_eql rfl)) (dT hc7)) ?_
    refine OA.p (some 35) (.bool true) rfl rfl rfl rfl ?_
    refine OA.p (some 36) (.bool true) rfl rfl rfl rfl ?_
    refine OA.p (some 37) (W b) rfl rfl rfl rfl ?_
    by_cases hc8 : (b.toNat : Int) = 0
    ·
     refine OA.p (some 38) (.bool true) rfl rfl rfl (Eq.trans (r_bin rfl rfl rfl (b_eql rfl)) (dT hc8)) ?_
     refine OA.p (some 39) (.bool true) rfl rfl rfl rfl ?_
     refine OA.off (dst := (some 40)) rfl rfl rfl ?_
     refine OA.off (dst := (some 41)) rfl rfl rfl ?_
     refine OA.off (dst := (some 42)) rfl rfl rfl ?_
     refine OA.off (dst := (some 43)) rfl rfl rfl ?_
     refine OA.p (some 44) (.bool true) rfl rfl rfl rfl ?_
     refine OA.p (some 45) (.bool true) rfl rfl rfl rfl ?_
     refine OA.p (some 12) (.bool true) rfl rfl rfl rfl ?_
     refine OA.nil ?_
     intro _
     refine RA.rebase [(0, (Pt p 0 0)), (1, (W a)), (2, (W b)), (3, (.int .i64 kp)), (9, (.slice (some ⟨ko, 0, none⟩) M 2)), (10, (.int .i64 ((i : Nat) : Int))), (11, (Pt n1 0 0)), (12, (.bool true)), (21, (.slice (some ⟨jp, 0, none⟩) K 2)), (22, (.int .i64 ((K : Nat) : Int))), (23, (.int .i64 ((i : Nat) : Int))), (24, (.bool true))] ⟨rfl, rfl, rfl, rfl, rfl, rfl, rfl, rfl, rfl, rfl, rfl, rfl, trivial⟩ (fun τr5 => ?_)
     refine RA.seq hd ?_
     refine RA.region env_ok ?_
     refine OA.p (some 46) (.bool true) rfl rfl rfl rfl ?_
     refine OA.p (some 47) (.bool false) rfl rfl rfl rfl ?_
     refine OA.p (some 48) (.bool false) rfl rfl rfl rfl ?_
     refine OA.p (some 49) (.int .i64 ((i : Nat) : Int)) rfl rfl rfl rfl ?_
     refine OA.p (some 50) (.int .i64 kp) rfl rfl rfl rfl ?_
     by_cases hc9 : ((i : Nat) : Int) = kp
     ·
      refine OA.p (some 51) (.bool true) rfl rfl rfl (Eq.trans (r_bin rfl rfl rfl (b_eql rfl)) (dT hc9)) ?_
      refine OA.p (some 52) (.bool true) rfl rfl rfl rfl ?_
      refine OA.nil ?_
      intro _
      refine RA.condT rfl ?_
      refine RA.region env_ok ?_
      refine OA.p (some 53) (.slice (some ⟨ko, 0, none⟩) M 2) rfl rfl rfl rfl ?_
      refine OA.p (some 54) (.int .i64 ((i : Nat) : Int)) rfl rfl rfl rfl ?_
      refine OA.op1 (dst := (some 55)) (v := (.slice (some ⟨(n1 + 1), 0, none⟩) 1 0)) (n1 := (n1 + 2)) (w := ((n1 + 1), some ⟨[[(.int .i64 ((i : Nat) : Int))]], 1, 3, true⟩)) rfl rfl rfl (by kernel_rfl) (by omega) ?_
      refine OA.op (dst := (some 56)) (v := (.slice (some ⟨(n1 + 2), 0, none⟩) (M + 1) 2)) (n1 := (n1 + 3)) (d1 := [((n1 + 2), some (oInn ((stL l a b kp i) ++ [(Inn.mk ((i : Nat) : Int))]))), (ko, none)]) (D' := [((n1 + 2), some (oInn ((stL l a b kp i) ++ [(Inn.mk ((i : Nat) : Int))]))), (ko, none), ((n1 + 1), some ⟨[[(.int .i64 ((i : Nat) : Int))]], 1, 3, true⟩), (n1, some ⟨[(cPth (l.getD i dPth))], 15, 87, true⟩), (n1, some ⟨[xPa53], 15, 87, true⟩), (ko, some (oInn (stL l a b kp i)))]) rfl rfl rfl (r_append2x (c := cInn) (x := (Inn.mk ((i : Nat) : Int))) (l' := ((stL l a b kp i) ++ [(Inn.mk ((i : Nat) : Int))])) rfl rfl rfl rfl rfl rfl rfl rfl rfl rfl (by decide) (gt3 (by omega) get_here) get_here (by rw [hi2]; omega) (by rw [take_all' (by rw [hi2])]) (by omega) (of_decide_eq_true (by kernel_rfl)) (by omega)) (by omega) rfl ?_
      refine OA.p (some 9) (.slice (some ⟨(n1 + 2), 0, none⟩) (M + 1) 2) rfl rfl rfl rfl ?_
      refine OA.nil ?_
      intro _
      refine RA.region env_ok ?_
      refine OA.p (some 57) (.int .i64 (((i + 1) : Nat) : Int)) rfl rfl rfl (r_bin rfl rfl rfl (b_add (i64_eq (by omega)))) ?_
      refine OA.p (some 23) (.int .i64 (((i + 1) : Nat) : Int)) rfl rfl rfl rfl ?_
      refine OA.nil ?_
      refine ⟨K - (i + 1), by omega, [((n1 + 2), some (oInn ((stL l a b kp i) ++ [(Inn.mk ((i : Nat) : Int))])))], (Less.of (fac (mm (fun _ => get_here) (fun _ => get_here)) fan) (gone_of (by simp only [goneP, memP, List.cons_append, List.nil_append, true_or, or_true, true_and, and_true, or_false] <;> omega))), ⟨(i + 1), (n1 + 2), (M + 1), rfl, by omega, ⟨rfl, rfl, rfl, rfl, rfl, rfl, rfl, rfl, trivial⟩, (by rw [stL_yes (show stB l a b kp i = true from by unfold stB; rw [decide_eq_true_eq]; omega)]), (kb1 (by omega)), ⟨by omega, by rw [stL_yes (show stB l a b kp i = true from by unfold stB; rw [decide_eq_true_eq]; omega)]; rw [List.length_append, List.length_singleton, hi2], by omega, by omega⟩⟩⟩
     ·
      refine OA.p (some 51) (.bool false) rfl rfl rfl (Eq.trans (r_bin rfl rfl rfl (b_eql rfl)) (dF hc9)) ?_
      refine OA.p (some 52) (.bool false) rfl rfl rfl rfl ?_
      refine OA.nil ?_
      intro _
      refine RA.condF rfl ?_
      refine RA.skip env_ok ?_
      intro _
      refine RA.region env_ok ?_
      refine OA.p (some 57) (.int .i64 (((i + 1) : Nat) : Int)) rfl rfl rfl (r_bin rfl rfl rfl (b_add (i64_eq (by omega)))) ?_
      refine OA.p (some 23) (.int .i64 (((i + 1) : Nat) : Int)) rfl rfl rfl rfl ?_
      refine OA.nil ?_
      refine ⟨K - (i + 1), by omega, [(ko, some (oInn (stL l a b kp i)))], (Less.of (fac (mm (fun _ => get_here) (fun _ => (gt2 (by omega) get_here))) fan) (gone_of (by simp only [goneP, memP, List.cons_append, List.nil_append, true_or, or_true, true_and, and_true, or_false] <;> omega))), ⟨(i + 1), ko, M, rfl, by omega, ⟨rfl, rfl, rfl, rfl, rfl, rfl, rfl, rfl, trivial⟩, (by rw [stL_no (show stB l a b kp i = false from by unfold stB; rw [decide_eq_false_iff_not]; omega)]), (kb1 (by omega)), ⟨by omega, by rw [stL_no (show stB l a b kp i = false from by unfold stB; rw [decide_eq_false_iff_not]; omega)]; exact hi2, by omega, by omega⟩⟩⟩
    ·
     refine OA.p (some 38) (.bool false) rfl rfl rfl (Eq.trans (r_bin rfl rfl rfl (b_eql rfl)) (dF hc8)) ?_
     refine OA.p (some 39) (.bool false) rfl rfl rfl rfl ?_
     refine OA.p (some 40) (Pt n1 0 1) rfl rfl rfl rfl ?_
     refine OA.p (some 41) (W (l.getD i dPth).peer) rfl rfl rfl (r_load1 rfl rfl rfl rfl rfl get_here rfl rfl) ?_
     refine OA.p (some 42) (W b) rfl rfl rfl rfl ?_
     by_cases hc10 : ((l.getD i dPth).peer.toNat : Int) = (b.toNat : Int)
     ·
      refine OA.p (some 43) (.bool true) rfl rfl rfl (Eq.trans (r_bin rfl rfl rfl (b_eql rfl)) (dT hc10)) ?_
      refine OA.p (some 44) (.bool true) rfl rfl rfl rfl ?_
      refine OA.p (some 45) (.bool true) rfl rfl rfl rfl ?_
      refine OA.p (some 12) (.bool true) rfl rfl rfl rfl ?_
      refine OA.nil ?_
      intro _
      refine RA.rebase [(0, (Pt p 0 0)), (1, (W a)), (2, (W b)), (3, (.int .i64 kp)), (9, (.slice (some ⟨ko, 0, none⟩) M 2)), (10, (.int .i64 ((i : Nat) : Int))), (11, (Pt n1 0 0)), (12, (.bool true)), (21, (.slice (some ⟨jp, 0, none⟩) K 2)), (22, (.int .i64 ((K : Nat) : Int))), (23, (.int .i64 ((i : Nat) : Int))), (24, (.bool true))] ⟨rfl, rfl, rfl, rfl, rfl, rfl, rfl, rfl, rfl, rfl, rfl, rfl, trivial⟩ (fun τr6 => ?_)
      refine RA.seq hd ?_
      refine RA.region env_ok ?_
      refine OA.p (some 46) (.bool true) rfl rfl rfl rfl ?_
      refine OA.p (some 47) (.bool false) rfl rfl rfl rfl ?_
      refine OA.p (some 48) (.bool false) rfl rfl rfl rfl ?_
      refine OA.p (some 49) (.int .i64 ((i : Nat) : Int)) rfl rfl rfl rfl ?_
      refine OA.p (some 50) (.int .i64 kp) rfl rfl rfl rfl ?_
      by_cases hc11 : ((i : Nat) : Int) = kp
      ·
       refine OA.p (some 51) (.bool true) rfl rfl rfl (Eq.trans (r_bin rfl rfl rfl (b_eql rfl)) (dT hc11)) ?_
       refine OA.p (some 52) (.bool true) rfl rfl rfl rfl ?_
       refine OA.nil ?_
       intro _
       refine RA.condT rfl ?_
       refine RA.region env_ok ?_
       refine OA.p (some 53) (.slice (some ⟨ko, 0, none⟩) M 2) rfl rfl rfl rfl ?_
       refine OA.p (some 54) (.int .i64 ((i : Nat) : Int)) rfl rfl rfl rfl ?_
       refine OA.op1 (dst := (some 55)) (v := (.slice (some ⟨(n1 + 1), 0, none⟩) 1 0)) (n1 := (n1 + 2)) (w := ((n1 + 1), some ⟨[[(.int .i64 ((i : Nat) : Int))]], 1, 3, true⟩)) rfl rfl rfl (by kernel_rfl) (by omega) ?_
       refine OA.op (dst := (some 56)) (v := (.slice (some ⟨(n1 + 2), 0, none⟩) (M + 1) 2)) (n1 := (n1 + 3)) (d1 := [((n1 + 2), some (oInn ((stL l a b kp i) ++ [(Inn.mk ((i : Nat) : Int))]))), (ko, none)]) (D' := [((n1 + 2), some (oInn ((stL l a b kp i) ++ [(Inn.mk ((i : Nat) : Int))]))), (ko, none), ((n1 + 1), some ⟨[[(.int .i64 ((i : Nat) : Int))]], 1, 3, true⟩), (n1, some ⟨[(cPth (l.getD i dPth))], 15, 87, true⟩), (n1, some ⟨[xPa53], 15, 87, true⟩), (ko, some (oInn (stL l a b kp i)))]) rfl rfl rfl (r_append2x (c := cInn) (x := (Inn.mk ((i : Nat) : Int))) (l' := ((stL l a b kp i) ++ [(Inn.mk ((i : Nat) : Int))])) rfl rfl rfl rfl rfl rfl rfl rfl rfl rfl (by decide) (gt3 (by omega) get_here) get_here (by rw [hi2]; omega) (by rw [take_all' (by rw [hi2])]) (by omega) (of_decide_eq_true (by kernel_rfl)) (by omega)) (by omega) rfl ?_
       refine OA.p (some 9) (.slice (some ⟨(n1 + 2), 0, none⟩) (M + 1) 2) rfl rfl rfl rfl ?_
       refine OA.nil ?_
       intro _
       refine RA.region env_ok ?_
       refine OA.p (some 57) (.int .i64 (((i + 1) : Nat) : Int)) rfl rfl rfl (r_bin rfl rfl rfl (b_add (i64_eq (by omega)))) ?_
       refine OA.p (some 23) (.int .i64 (((i + 1) : Nat) : Int)) rfl rfl rfl rfl ?_
       refine OA.nil ?_
       refine ⟨K - (i + 1), by omega, [((n1 + 2), some (oInn ((stL l a b kp i) ++ [(Inn.mk ((i : Nat) : Int))])))], (Less.of (fac (mm (fun _ => get_here) (fun _ => get_here)) fan) (gone_of (by simp only [goneP, memP, List.cons_append, List.nil_append, true_or, or_true, true_and, and_true, or_false] <;> omega))), ⟨(i + 1), (n1 + 2), (M + 1), rfl, by omega, ⟨rfl, rfl, rfl, rfl, rfl, rfl, rfl, rfl, trivial⟩, (by rw [stL_yes (show stB l a b kp i = true from by unfold stB; rw [decide_eq_true_eq]; omega)]), (kb1 (by omega)), ⟨by omega, by rw [stL_yes (show stB l a b kp i = true from by unfold stB; rw [decide_eq_true_eq]; omega)]; rw [List.length_append, List.length_singleton, hi2], by omega, by omega⟩⟩⟩
      ·
       refine OA.p (some 51) (.bool false) rfl rfl rfl (Eq.trans (r_bin rfl rfl rfl (b_eql rfl)) (dF hc11)) ?_
       refine OA.p (some 52) (.bool false) rfl rfl rfl rfl ?_
       refine OA.nil ?_
       intro _
       refine RA.condF rfl ?_
       refine RA.skip env_ok ?_
       intro _
       refine RA.region env_ok ?_
       refine OA.p (some 57) (.int .i64 (((i + 1) : Nat) : Int)) rfl rfl rfl (r_bin rfl rfl rfl (b_add (i64_eq (by omega)))) ?_
       refine OA.p (some 23) (.int .i64 (((i + 1) : Nat) : Int)) rfl rfl rfl rfl ?_
       refine OA.nil ?_
       refine ⟨K - (i + 1), by omega, [(ko, some (oInn (stL l a b kp i)))], (Less.of (fac (mm (fun _ => get_here) (fun _ => (gt2 (by omega) get_here))) fan) (gone_of (by simp only [goneP, memP, List.cons_append, List.nil_append, true_or, or_true, true_and, and_true, or_false] <;> omega))), ⟨(i + 1), ko, M, rfl, by omega, ⟨rfl, rfl, rfl, rfl, rfl, rfl, rfl, rfl, trivial⟩, (by rw [stL_no (show stB l a b kp i = false from by unfold stB; rw [decide_eq_false_iff_not]; omega)]), (kb1 (by omega)), ⟨by omega, by rw [stL_no (show stB l a b kp i = false from by unfold stB; rw [decide_eq_false_iff_not]; omega)]; exact hi2, by omega, by omega⟩⟩⟩
     ·
      refine OA.p (some 43) (.bool false) rfl rfl rfl (Eq.trans (r_bin rfl rfl rfl (b_eql rfl)) (dF hc10)) ?_
      refine OA.p (some 44) (.bool false) rfl rfl rfl rfl ?_
      refine OA.p (some 45) (.bool false) rfl rfl rfl rfl ?_
      refine OA.p (some 12) (.bool false) rfl rfl rfl rfl ?_
      refine OA.nil ?_
      intro _
      refine RA.rebase [(0, (Pt p 0 0)), (1, (W a)), (2, (W b)), (3, (.int .i64 kp)), (9, (.slice (some ⟨ko, 0, none⟩) M 2)), (10, (.int .i64 ((i : Nat) : Int))), (11, (Pt n1 0 0)), (12, (.bool false)), (21, (.slice (some ⟨jp, 0, none⟩) K 2)), (22, (.int .i64 ((K : Nat) : Int))), (23, (.int .i64 ((i : Nat) : Int))), (24, (.bool true))] ⟨rfl, rfl, rfl, rfl, rfl, rfl, rfl, rfl, rfl, rfl, rfl, rfl, trivial⟩ (fun τr7 => ?_)
      refine RA.seq hd ?_
      refine RA.region env_ok ?_
      refine OA.p (some 46) (.bool false) rfl rfl rfl rfl ?_
      refine OA.p (some 47) (.bool true) rfl rfl rfl rfl ?_
      refine OA.p (some 48) (.bool true) rfl rfl rfl rfl ?_
      refine OA.off (dst := (some 49)) rfl rfl rfl ?_
      refine OA.off (dst := (some 50)) rfl rfl rfl ?_
      refine OA.off (dst := (some 51)) rfl rfl rfl ?_
      refine OA.p (some 52) (.bool true) rfl rfl rfl rfl ?_
      refine OA.nil ?_
      intro _
      refine RA.condT rfl ?_
      refine RA.region env_ok ?_
      refine OA.p (some 53) (.slice (some ⟨ko, 0, none⟩) M 2) rfl rfl rfl rfl ?_
      refine OA.p (some 54) (.int .i64 ((i : Nat) : Int)) rfl rfl rfl rfl ?_
      refine OA.op1 (dst := (some 55)) (v := (.slice (some ⟨(n1 + 1), 0, none⟩) 1 0)) (n1 := (n1 + 2)) (w := ((n1 + 1), some ⟨[[(.int .i64 ((i : Nat) : Int))]], 1, 3, true⟩)) rfl rfl rfl (by kernel_rfl) (by omega) ?_
      refine OA.op (dst := (some 56)) (v := (.slice (some ⟨(n1 + 2), 0, none⟩) (M + 1) 2)) (n1 := (n1 + 3)) (d1 := [((n1 + 2), some (oInn ((stL l a b kp i) ++ [(Inn.mk ((i : Nat) : Int))]))), (ko, none)]) (D' := [((n1 + 2), some (oInn ((stL l a b kp i) ++ [(Inn.mk ((i : Nat) : Int))]))), (ko, none), ((n1 + 1), some ⟨[[(.int .i64 ((i : Nat) : Int))]], 1, 3, true⟩), (n1, some ⟨[(cPth (l.getD i dPth))], 15, 87, true⟩), (n1, some ⟨[xPa53], 15, 87, true⟩), (ko, some (oInn (stL l a b kp i)))]) rfl rfl rfl (r_append2x (c := cInn) (x := (Inn.mk ((i : Nat) : Int))) (l' := ((stL l a b kp i) ++ [(Inn.mk ((i : Nat) : Int))])) rfl rfl rfl rfl rfl rfl rfl rfl rfl rfl (by decide) (gt3 (by omega) get_here) get_here (by rw [hi2]; omega) (by rw [take_all' (by rw [hi2])]) (by omega) (of_decide_eq_true (by kernel_rfl)) (by omega)) (by omega) rfl ?_
      refine OA.p (some 9) (.slice (some ⟨(n1 + 2), 0, none⟩) (M + 1) 2) rfl rfl rfl rfl ?_
      refine OA.nil ?_
      intro _
      refine RA.region env_ok ?_
      refine OA.p (some 57) (.int .i64 (((i + 1) : Nat) : Int)) rfl rfl rfl (r_bin rfl rfl rfl (b_add (i64_eq (by omega)))) ?_
      refine OA.p (some 23) (.int .i64 (((i + 1) : Nat) : Int)) rfl rfl rfl rfl ?_
      refine OA.nil ?_
      refine ⟨K - (i + 1), by omega, [((n1 + 2), some (oInn ((stL l a b kp i) ++ [(Inn.mk ((i : Nat) : Int))])))], (Less.of (fac (mm (fun _ => get_here) (fun _ => get_here)) fan) (gone_of (by simp only [goneP, memP, List.cons_append, List.nil_append, true_or, or_true, true_and, and_true, or_false] <;> omega))), ⟨(i + 1), (n1 + 2), (M + 1), rfl, by omega, ⟨rfl, rfl, rfl, rfl, rfl, rfl, rfl, rfl, trivial⟩, (by rw [stL_yes (show stB l a b kp i = true from by unfold stB; rw [decide_eq_true_eq]; omega)]), (kb1 (by omega)), ⟨by omega, by rw [stL_yes (show stB l a b kp i = true from by unfold stB; rw [decide_eq_true_eq]; omega)]; rw [List.length_append, List.length_singleton, hi2], by omega, by omega⟩⟩⟩
   ·
    refine OA.p (some 34) (.bool false) rfl rfl rfl (Eq.trans (r_bin rfl rfl rfl (b_eql rfl)) (dF hc7)) ?_
    refine OA.p (some 35) (.bool false) rfl rfl rfl rfl ?_
    refine OA.p (some 36) (.bool false) rfl rfl rfl rfl ?_
    refine OA.off (dst := (some 37)) rfl rfl rfl ?_
    refine OA.off (dst := (some 38)) rfl rfl rfl ?_
    refine OA.off (dst := (some 39)) rfl rfl rfl ?_
    refine OA.off (dst := (some 40)) rfl rfl rfl ?_
    refine OA.off (dst := (some 41)) rfl rfl rfl ?_
    refine OA.off (dst := (some 42)) rfl rfl rfl ?_
    refine OA.off (dst := (some 43)) rfl rfl rfl ?_
    refine OA.off (dst := (some 44)) rfl rfl rfl ?_
    refine OA.p (some 45) (.bool false) rfl rfl rfl rfl ?_
    refine OA.p (some 12) (.bool false) rfl rfl rfl rfl ?_
    refine OA.nil ?_
    intro _
    refine RA.rebase [(0, (Pt p 0 0)), (1, (W a)), (2, (W b)), (3, (.int .i64 kp)), (9, (.slice (some ⟨ko, 0, none⟩) M 2)), (10, (.int .i64 ((i : Nat) : Int))), (11, (Pt n1 0 0)), (12, (.bool false)), (21, (.slice (some ⟨jp, 0, none⟩) K 2)), (22, (.int .i64 ((K : Nat) : Int))), (23, (.int .i64 ((i : Nat) : Int))), (24, (.bool true))] ⟨rfl, rfl, rfl, rfl, rfl, rfl, rfl, rfl, rfl, rfl, rfl, rfl, trivial⟩ (fun τr8 => ?_)
    refine RA.seq hd ?_
    refine RA.region env_ok ?_
    refine OA.p (some 46) (.bool false) rfl rfl rfl rfl ?_
    refine OA.p (some 47) (.bool true) rfl rfl rfl rfl ?_
    refine OA.p (some 48) (.bool true) rfl rfl rfl rfl ?_
    refine OA.off (dst := (some 49)) rfl rfl rfl ?_
    refine OA.off (dst := (some 50)) rfl rfl rfl ?_
    refine OA.off (dst := (some 51)) rfl rfl rfl ?_
    refine OA.p (some 52) (.bool true) rfl rfl rfl rfl ?_
    refine OA.nil ?_
    intro _
    refine RA.condT rfl ?_
    refine RA.region env_ok ?_
    refine OA.p (some 53) (.slice (some ⟨ko, 0, none⟩) M 2) rfl rfl rfl rfl ?_
    refine OA.p (some 54) (.int .i64 ((i : Nat) : Int)) rfl rfl rfl rfl ?_
    refine OA.op1 (dst := (some 55)) (v := (.slice (some ⟨(n1 + 1), 0, none⟩) 1 0)) (n1 := (n1 + 2)) (w := ((n1 + 1), some ⟨[[(.int .i64 ((i : Nat) : Int))]], 1, 3, true⟩)) rfl rfl rfl (by kernel_rfl) (by omega) ?_
    refine OA.op (dst := (some 56)) (v := (.slice (some ⟨(n1 + 2), 0, none⟩) (M + 1) 2)) (n1 := (n1 + 3)) (d1 := [((n1 + 2), some (oInn ((stL l a b kp i) ++ [(Inn.mk ((i : Nat) : Int))]))), (ko, none)]) (D' := [((n1 + 2), some (oInn ((stL l a b kp i) ++ [(Inn.mk ((i : Nat) : Int))]))), (ko, none), ((n1 + 1), some ⟨[[(.int .i64 ((i : Nat) : Int))]], 1, 3, true⟩), (n1, some ⟨[(cPth (l.getD i dPth))], 15, 87, true⟩), (n1, some ⟨[xPa53], 15, 87, true⟩), (ko, some (oInn (stL l a b kp i)))]) rfl rfl rfl (r_append2x (c := cInn) (x := (Inn.mk ((i : Nat) : Int))) (l' := ((stL l a b kp i) ++ [(Inn.mk ((i : Nat) : Int))])) rfl rfl rfl rfl rfl rfl rfl rfl rfl rfl (by decide) (gt3 (by omega) get_here) get_here (by rw [hi2]; omega) (by rw [take_all' (by rw [hi2])]) (by omega) (of_decide_eq_true (by kernel_rfl)) (by omega)) (by omega) rfl ?_
    refine OA.p (some 9) (.slice (some ⟨(n1 + 2), 0, none⟩) (M + 1) 2) rfl rfl rfl rfl ?_
    refine OA.nil ?_
    intro _
    refine RA.region env_ok ?_
    refine OA.p (some 57) (.int .i64 (((i + 1) : Nat) : Int)) rfl rfl rfl (r_bin rfl rfl rfl (b_add (i64_eq (by omega)))) ?_
    refine OA.p (some 23) (.int .i64 (((i + 1) : Nat) : Int)) rfl rfl rfl rfl ?_
    refine OA.nil ?_
    refine ⟨K - (i + 1), by omega, [((n1 + 2), some (oInn ((stL l a b kp i) ++ [(Inn.mk ((i : Nat) : Int))])))], (Less.of (fac (mm (fun _ => get_here) (fun _ => get_here)) fan) (gone_of (by simp only [goneP, memP, List.cons_append, List.nil_append, true_or, or_true, true_and, and_true, or_false] <;> omega))), ⟨(i + 1), (n1 + 2), (M + 1), rfl, by omega, ⟨rfl, rfl, rfl, rfl, rfl, rfl, rfl, rfl, trivial⟩, (by rw [stL_yes (show stB l a b kp i = true from by unfold stB; rw [decide_eq_true_eq]; omega)]), (kb1 (by omega)), ⟨by omega, by rw [stL_yes (show stB l a b kp i = true from by unfold stB; rw [decide_eq_true_eq]; omega)]; rw [List.length_append, List.length_singleton, hi2], by omega, by omega⟩⟩⟩
 ·
  refine OA.p (some 24) (.bool false) rfl rfl rfl (Eq.trans (r_bin rfl rfl rfl (b_lss rfl)) (dF hc1)) ?_
  refine OA.nil ?_
  intro _
  refine RA.seq hd ?_
  refine RA.condF rfl ?_
  refine RA.exit env_ok ?_
  intro _
  refine RA.seq hd ?_
  refine RA.seq hd ?_
  refine RA.region env_ok ?_
  refine OA.p (some 58) (.slice (some ⟨ko, 0, none⟩) M 2) rfl rfl rfl rfl ?_
  refine OA.p (some 59) (.int .i64 ((M : Nat) : Int)) rfl rfl rfl rfl ?_
  by_cases hc12 : ((M : Nat) : Int) = 0
  ·
   refine OA.p (some 60) (.bool true) rfl rfl rfl (Eq.trans (r_bin rfl rfl rfl (b_eql rfl)) (dT hc12)) ?_
   refine OA.nil ?_
   intro _
   refine RA.condT rfl ?_
   refine RA.region env_ok ?_
   refine OA.p (some 61) (Pt p 0 0) rfl rfl rfl rfl ?_
   refine OA.p (some 62) (Pt p 0 0) rfl rfl rfl rfl ?_
   refine OA.p (some 63) (Pt p 0 1) rfl rfl rfl rfl ?_
   refine OA.p (some 64) (.int .i64 ((f : Nat) : Int)) rfl rfl rfl (r_load1 rfl rfl rfl rfl rfl (get_there (by omega) hp) rfl rfl) ?_
   refine OA.op1 (dst := (some 65)) (v := (.slice (some ⟨n1, 0, none⟩) 1 0)) (n1 := (n1 + 1)) (w := (n1, some ⟨[[(.int .i64 ((f : Nat) : Int))]], 1, 3, true⟩)) rfl rfl rfl (by kernel_rfl) (by omega) ?_
   refine OA.p (some 9) (.slice (some ⟨n1, 0, none⟩) 1 0) rfl rfl rfl rfl ?_
   refine OA.nil ?_
   intro _
   refine RA.seq hd ?_
   refine RA.region env_ok ?_
   refine OA.p (some 13) (.slice none 0 0) rfl rfl rfl rfl ?_
   refine OA.nil ?_
   intro _
   refine RA.seq hd ?_
   refine RA.seq hd ?_
   refine RA.region env_ok ?_
   refine OA.p (some 66) (.slice (some ⟨n1, 0, none⟩) 1 0) rfl rfl rfl rfl ?_
   refine OA.p (some 67) (.int .i64 1) rfl rfl rfl rfl ?_
   refine OA.p (some 68) (.int .i64 0) rfl rfl rfl rfl ?_
   refine OA.nil ?_
   intro _
   refine RA.block ?_
   show RA _ _ _ _ _ _ _ _ [(n1, some (oInn [Inn.mk ((f : Nat) : Int)])), (ko, some (oInn (stL l a b kp i)))] _
   refine RA.leT (t := 9) (v := (.slice (some ⟨n1, 0, none⟩) 1 0)) (v' := (.slice (some ⟨n1, 0, none⟩) 1 2)) rfl (vle_row _ _ _) ?_
   refine RA.leT (t := 66) (v := (.slice (some ⟨n1, 0, none⟩) 1 0)) (v' := (.slice (some ⟨n1, 0, none⟩) 1 2)) rfl (vle_row _ _ _) ?_
   have hdr : drL l a b kp ((f : Nat) : Int) = [Inn.mk ((f : Nat) : Int)] := by unfold drL; rw [show l.length = i from by omega]; exact if_pos (by omega)
   refine RA.ph (sz := 15) (t := 87) (by decide) ?_
   show RA _ _ _ _ _ _ _ _ [((n1 + 1), some (oPth ([] : List Pth))), (n1, some (oInn [Inn.mk ((f : Nat) : Int)])), (ko, some (oInn (stL l a b kp i)))] _
   refine RA.leT (t := 13) (v := (.slice none 0 0)) (v' := (.slice (some ⟨(n1 + 1), 0, none⟩) 0 2)) rfl (vle_nil _ _) ?_
   have hok : okI K [Inn.mk ((f : Nat) : Int)] := by rw [← hdr]; exact drL_ok hl hf
   have hfl : [Inn.mk ((f : Nat) : Int)].length = 1 := rfl
   refine RA.weaken (D' := [(n1, some (oInn [Inn.mk ((f : Nat) : Int)])), ((n1 + 1), some (oPth ([] : List Pth)))]) hd (Less.of (fac (mm (fun _ => get_here) (fun _ => (get_there (by omega) get_here))) (fac (mm (fun _ => (get_there (by omega) get_here)) (fun _ => get_here)) fan)) (gone_of (by simp only [goneP, memP, List.cons_append, List.nil_append, true_or, or_true, true_and, and_true, or_false] <;> omega))) ?_
   refine RA.loop hd (fun kk_ τ n' D => (∃ k : Nat, ∃ kl : Nat, kk_ = 1 - k ∧ (n1 + 2) ≤ n' ∧ Has τ [(0, (Pt p 0 0)), (9, (.slice (some ⟨n1, 0, none⟩) 1 2)), (13, (.slice (some ⟨kl, 0, none⟩) k 2)), (66, (.slice (some ⟨n1, 0, none⟩) 1 2)), (67, (.int .i64 1)), (68, (.int .i64 ((k : Nat) : Int)))] ∧ D = [(n1, some (oInn [Inn.mk ((f : Nat) : Int)])), (kl, some (oPth (restL l [Inn.mk ((f : Nat) : Int)] k)))] ∧ (∀ i ∈ keys D, i < n') ∧ k ≤ 1 ∧ n ≤ kl ∧ kl ≠ n1)) (1 - 0) (⟨0, (n1 + 1), rfl, by omega, ⟨rfl, rfl, rfl, rfl, rfl, rfl, trivial⟩, (by rfl), (kb2 (by omega)), ⟨by omega, by omega, by omega⟩⟩) ?_
   rintro kn9 τ9 n9 _ ⟨k, kl, rfl, hn9, hHn9, rfl, hKn9, hIn9⟩
   rw [Has.eq hHn9]
   have hKn9_0 : n1 < n9 := hKn9 _ (by simp only [keys, List.map_cons, List.map_nil, List.mem_cons, true_or, or_true])
   have hKn9_1 : kl < n9 := hKn9 _ (by simp only [keys, List.map_cons, List.map_nil, List.mem_cons, true_or, or_true])
   clear hKn9
   obtain ⟨hk1, hk2, hk3⟩ := hIn9
   refine RA.seq hd ?_
   refine RA.region env_ok ?_
   by_cases hc13 : ((k : Nat) : Int) < 1
   ·
    have hz := hok _ (getD_mem (d := dInn) (l := [Inn.mk ((f : Nat) : Int)]) (i := k) (by omega))
    refine OA.p (some 69) (.bool true) rfl rfl rfl (Eq.trans (r_bin rfl rfl rfl (b_lss rfl)) (dT hc13)) ?_
    refine OA.nil ?_
    intro _
    refine RA.seq hd ?_
    refine RA.condT rfl ?_
    refine RA.skip env_ok ?_
    intro _
    refine RA.seq hd ?_
    refine RA.block ?_
    refine RA.seq hd ?_
    refine RA.region env_ok ?_
    refine OA.p (some 70) (Pt n1 k 0) rfl rfl rfl (r_iaS (l := k) rfl rfl rfl rfl rfl rfl (by omega) (by omega) get_here rfl (by omega)) ?_
    refine OA.p (some 71) (.int .i64 ([Inn.mk ((f : Nat) : Int)].getD k dInn).z) rfl rfl rfl (r_loadF (c := cInn) dInn rfl rfl rfl rfl rfl get_here (by rw [hfl]; omega) rfl) ?_
    refine OA.p (some 15) (.int .i64 ([Inn.mk ((f : Nat) : Int)].getD k dInn).z) rfl rfl rfl rfl ?_
    refine OA.nil ?_
    intro _
    refine RA.region env_ok ?_
    refine OA.p (some 72) (.slice (some ⟨kl, 0, none⟩) k 2) rfl rfl rfl rfl ?_
    refine OA.p (some 73) (Pt p 0 0) rfl rfl rfl rfl ?_
    refine OA.p (some 74) (Pt p 0 0) rfl rfl rfl rfl ?_
    refine OA.p (some 75) (Pt p 0 0) rfl rfl rfl rfl ?_
    refine OA.p (some 76) (.slice (some ⟨jp, 0, none⟩) K 2) rfl rfl rfl (r_load1 rfl rfl rfl rfl rfl (gt2 (by omega) hp) rfl rfl) ?_
    refine OA.p (some 77) (.int .i64 ([Inn.mk ((f : Nat) : Int)].getD k dInn).z) rfl rfl rfl rfl ?_
    refine OA.p (some 78) (.pointer (some ⟨jp, ([Inn.mk ((f : Nat) : Int)].getD k dInn).z.toNat, some 0⟩)) rfl rfl rfl (r_iaS (l := ([Inn.mk ((f : Nat) : Int)].getD k dInn).z.toNat) rfl rfl rfl rfl rfl rfl (by omega) (by omega) (gt2 (by omega) hjp) rfl (by omega)) ?_
    refine OA.p (some 79) (.agg ⟨(cPth (l.getD ([Inn.mk ((f : Nat) : Int)].getD k dInn).z.toNat dPth))⟩) rfl rfl rfl (r_loadR (c := cPth) dPth rfl rfl rfl rfl (gt2 (by omega) hjp) (by rw [hl]; omega) rfl) ?_
    refine OA.op1 (dst := (some 80)) (v := (.slice (some ⟨n9, 0, none⟩) 1 0)) (n1 := (n9 + 1)) (w := (n9, some ⟨[(xPa51 l f k)], 15, 87, true⟩)) rfl rfl rfl (by kernel_rfl) (by omega) ?_
    refine OA.op (dst := (some 81)) (v := (.slice (some ⟨(n9 + 1), 0, none⟩) (k + 1) 2)) (n1 := (n9 + 2)) (d1 := [((n9 + 1), some (oPth ((restL l [Inn.mk ((f : Nat) : Int)] k) ++ [(l.getD ([Inn.mk ((f : Nat) : Int)].getD k dInn).z.toNat dPth)]))), (kl, none)]) (D' := [((n9 + 1), some (oPth ((restL l [Inn.mk ((f : Nat) : Int)] k) ++ [(l.getD ([Inn.mk ((f : Nat) : Int)].getD k dInn).z.toNat dPth)]))), (kl, none), (n9, some ⟨[(xPa51 l f k)], 15, 87, true⟩), (n1, some (oInn [Inn.mk ((f : Nat) : Int)])), (kl, some (oPth (restL l [Inn.mk ((f : Nat) : Int)] k)))]) rfl rfl rfl (r_append2x (c := cPth) (x := (l.getD ([Inn.mk ((f : Nat) : Int)].getD k dInn).z.toNat dPth)) (l' := ((restL l [Inn.mk ((f : Nat) : Int)] k) ++ [(l.getD ([Inn.mk ((f : Nat) : Int)].getD k dInn).z.toNat dPth)])) rfl rfl rfl rfl rfl rfl rfl rfl rfl rfl (by decide) (gt2 (by omega) get_here) get_here (by rw [show (restL l [Inn.mk ((f : Nat) : Int)] k).length = k from restL_len (by omega)]; omega) (by rw [take_all' (show (restL l [Inn.mk ((f : Nat) : Int)] k).length = k from restL_len (by omega))]) (by omega) (of_decide_eq_true (by kernel_rfl)) (by omega)) (by omega) rfl ?_
    refine OA.p (some 13) (.slice (some ⟨(n9 + 1), 0, none⟩) (k + 1) 2) rfl rfl rfl rfl ?_
    refine OA.nil ?_
    intro _
    refine RA.weaken (D' := [((n9 + 1), some (oPth ((restL l [Inn.mk ((f : Nat) : Int)] k) ++ [(l.getD ([Inn.mk ((f : Nat) : Int)].getD k dInn).z.toNat dPth)]))), (kl, none), (n9, some ⟨[(xPa51 l f k)], 15, 87, true⟩), (n1, some (oInn [Inn.mk ((f : Nat) : Int)]))]) hd (Less.of (fac (mm (fun _ => get_here) (fun _ => get_here)) (fac (mm (fun _ => (get_there (by omega) get_here)) (fun _ => (get_there (by omega) get_here))) (fac (mm (fun _ => (gt2 (by omega) get_here)) (fun _ => (gt2 (by omega) get_here))) (fac (mm (fun _ => (gt3 (by omega) get_here)) (fun _ => (gt3 (by omega) get_here))) fan)))) (gone_of (by simp only [goneP, memP, List.cons_append, List.nil_append, true_or, or_true, true_and, and_true, or_false] <;> omega))) ?_
    refine RA.region env_ok ?_
    refine OA.p (some 82) (.int .i64 (((k + 1) : Nat) : Int)) rfl rfl rfl (r_bin rfl rfl rfl (b_add (i64_eq (by omega)))) ?_
    refine OA.p (some 68) (.int .i64 (((k + 1) : Nat) : Int)) rfl rfl rfl rfl ?_
    refine OA.nil ?_
    refine ⟨1 - (k + 1), by omega, [(n1, some (oInn [Inn.mk ((f : Nat) : Int)])), ((n9 + 1), some (oPth ((restL l [Inn.mk ((f : Nat) : Int)] k) ++ [(l.getD ([Inn.mk ((f : Nat) : Int)].getD k dInn).z.toNat dPth)])))], (Less.of (fac (mm (fun _ => get_here) (fun _ => (gt3 (by omega) get_here))) (fac (mm (fun _ => (get_there (by omega) get_here)) (fun _ => get_here)) fan)) (gone_of (by simp only [goneP, memP, List.cons_append, List.nil_append, true_or, or_true, true_and, and_true, or_false] <;> omega))), ⟨(k + 1), (n9 + 1), rfl, by omega, ⟨rfl, rfl, rfl, rfl, rfl, rfl, trivial⟩, (by rw [restL_step (by omega)]), (kb2 (by omega)), ⟨by omega, by omega, by omega⟩⟩⟩
   ·
    refine OA.p (some 69) (.bool false) rfl rfl rfl (Eq.trans (r_bin rfl rfl rfl (b_lss rfl)) (dF hc13)) ?_
    refine OA.nil ?_
    intro _
    refine RA.seq hd ?_
    refine RA.condF rfl ?_
    refine RA.exit env_ok ?_
    intro _
    refine RA.seq hd ?_
    refine RA.region env_ok ?_
    refine OA.p (some 83) (Pt p 0 0) rfl rfl rfl rfl ?_
    refine OA.p (some 84) (.slice (some ⟨n1, 0, none⟩) 1 2) rfl rfl rfl rfl ?_
    refine OA.p (some 85) (Pt p 0 0) rfl rfl rfl rfl ?_
    refine OA.p (some 86) (Pt p 0 0) rfl rfl rfl rfl ?_
    refine OA.p (some 87) (Pt p 0 1) rfl rfl rfl rfl ?_
    refine OA.p (some 88) (.int .i64 ((f : Nat) : Int)) rfl rfl rfl (r_load1 rfl rfl rfl rfl rfl (gt2 (by omega) hp) rfl rfl) ?_
    refine OA.callP (dst := (some 89)) (all := [(.slice (some ⟨n1, 0, none⟩) 1 2), (.int .i64 ((f : Nat) : Int))]) (v := (.int .i64 (idxZ (eqI ((f : Nat) : Int)) [Inn.mk ((f : Nat) : Int)]))) (hd.of (by omega) (kb2 (by omega))) rfl rfl rfl rfl rfl rfl rfl rfl (pIx n1 1 [Inn.mk ((f : Nat) : Int)] hfl (by omega) ((f : Nat) : Int) get_here) ?_
    intro n10 hn10
    refine OA.p (some 90) (.int .i64 ((atF f [Inn.mk ((f : Nat) : Int)] : Nat) : Int)) rfl rfl rfl (r_maxZ (x := (idxZ (eqI ((f : Nat) : Int)) [Inn.mk ((f : Nat) : Int)])) rfl rfl rfl) ?_
    refine OA.p (some 91) (Pt p 0 0) rfl rfl rfl rfl ?_
    refine OA.p (some 92) (Pt p 0 1) rfl rfl rfl rfl ?_
    refine OA.op1 (dst := none) (v := (.tuple #[])) (n1 := n10) (w := (p, some ⟨[[(.slice (some ⟨jp, 0, none⟩) K 2), (.int .i64 ((atF f [Inn.mk ((f : Nat) : Int)] : Nat) : Int))]], 2, 131, true⟩)) rfl rfl rfl (r_store rfl rfl rfl rfl rfl rfl rfl (gt2 (by omega) hp) rfl rfl (Nat.le_of_ble_eq_true rfl) rfl) (by omega) ?_
    refine OA.nil ?_
    intro _
    refine RA.seq hd ?_
    refine RA.region env_ok ?_
    refine OA.p (some 93) (Pt p 0 0) rfl rfl rfl rfl ?_
    refine OA.p (some 94) (.slice (some ⟨kl, 0, none⟩) k 2) rfl rfl rfl rfl ?_
    refine OA.p (some 95) (Pt p 0 0) rfl rfl rfl rfl ?_
    refine OA.p (some 96) (Pt p 0 0) rfl rfl rfl rfl ?_
    refine OA.op1 (dst := none) (v := (.tuple #[])) (n1 := n10) (w := (p, some ⟨[[(.slice (some ⟨kl, 0, none⟩) k 2), (.int .i64 ((atF f [Inn.mk ((f : Nat) : Int)] : Nat) : Int))]], 2, 131, true⟩)) rfl rfl rfl (r_store rfl rfl rfl rfl rfl rfl rfl get_here rfl rfl (Nat.le_of_ble_eq_true rfl) rfl) (by omega) ?_
    refine OA.nil ?_
    intro _
    refine RA.seq hd ?_
    refine RA.region env_ok ?_
    refine OA.p (some 97) (.slice (some ⟨n1, 0, none⟩) 1 2) rfl rfl rfl rfl ?_
    refine OA.p (some 8) (.slice (some ⟨n1, 0, none⟩) 1 2) rfl rfl rfl rfl ?_
    refine OA.nil ?_
    intro _
    refine RA.ret env_ok ?_
    refine ⟨.inr rfl, [(.slice (some ⟨n1, 0, none⟩) 1 2)], (resL_cons rfl resL_nil), [(p, some ⟨[[(.slice (some ⟨kl, 0, none⟩) k 2), (.int .i64 ((atF f [Inn.mk ((f : Nat) : Int)] : Nat) : Int))]], 2, 131, true⟩), (n1, some (oInn [Inn.mk ((f : Nat) : Int)])), (kl, some (oPth (restL l [Inn.mk ((f : Nat) : Int)] k)))], (Less.of (fac (mm (fun _ => get_here) (fun _ => get_here)) (fac (mm (fun _ => (get_there (by omega) get_here)) (fun _ => (gt2 (by omega) get_here))) (fac (mm (fun _ => (gt2 (by omega) get_here)) (fun _ => (gt3 (by omega) get_here))) fan))) (gone_of (by simp only [goneP, memP, List.cons_append, List.nil_append, true_or, or_true, true_and, and_true, or_false] <;> omega))), ⟨n1, kl, by omega, by omega, by omega, by omega, by omega, 1, by rw [hdr]; exact hfl, by omega, VLe.refl _, by rw [hdr, ← restL_end (l := l) (k := k) (by omega), show 1 = k from by omega]⟩⟩
  ·
   refine OA.p (some 60) (.bool false) rfl rfl rfl (Eq.trans (r_bin rfl rfl rfl (b_eql rfl)) (dF hc12)) ?_
   refine OA.nil ?_
   intro _
   refine RA.condF rfl ?_
   refine RA.skip env_ok ?_
   intro _
   refine RA.seq hd ?_
   refine RA.region env_ok ?_
   refine OA.p (some 13) (.slice none 0 0) rfl rfl rfl rfl ?_
   refine OA.nil ?_
   intro _
   refine RA.seq hd ?_
   refine RA.seq hd ?_
   refine RA.region env_ok ?_
   refine OA.p (some 66) (.slice (some ⟨ko, 0, none⟩) M 2) rfl rfl rfl rfl ?_
   refine OA.p (some 67) (.int .i64 ((M : Nat) : Int)) rfl rfl rfl rfl ?_
   refine OA.p (some 68) (.int .i64 0) rfl rfl rfl rfl ?_
   refine OA.nil ?_
   intro _
   refine RA.block ?_
   have hdr : drL l a b kp ((f : Nat) : Int) = stL l a b kp i := by unfold drL; rw [show l.length = i from by omega]; exact if_neg (by omega)
   refine RA.ph (sz := 15) (t := 87) (by decide) ?_
   show RA _ _ _ _ _ _ _ _ [(n1, some (oPth ([] : List Pth))), (ko, some (oInn (stL l a b kp i)))] _
   refine RA.leT (t := 13) (v := (.slice none 0 0)) (v' := (.slice (some ⟨n1, 0, none⟩) 0 2)) rfl (vle_nil _ _) ?_
   have hok : okI K (stL l a b kp i) := by rw [← hdr]; exact drL_ok hl hf
   have hfl : (stL l a b kp i).length = M := hi2
   refine RA.weaken (D' := [(ko, some (oInn (stL l a b kp i))), (n1, some (oPth ([] : List Pth)))]) hd (Less.of (fac (mm (fun _ => get_here) (fun _ => (get_there (by omega) get_here))) (fac (mm (fun _ => (get_there (by omega) get_here)) (fun _ => get_here)) fan)) (gone_of (by simp only [goneP, memP, List.cons_append, List.nil_append, true_or, or_true, true_and, and_true, or_false] <;> omega))) ?_
   refine RA.loop hd (fun kk_ τ n' D => (∃ k : Nat, ∃ kl : Nat, kk_ = M - k ∧ (n1 + 1) ≤ n' ∧ Has τ [(0, (Pt p 0 0)), (9, (.slice (some ⟨ko, 0, none⟩) M 2)), (13, (.slice (some ⟨kl, 0, none⟩) k 2)), (66, (.slice (some ⟨ko, 0, none⟩) M 2)), (67, (.int .i64 ((M : Nat) : Int))), (68, (.int .i64 ((k : Nat) : Int)))] ∧ D = [(ko, some (oInn (stL l a b kp i))), (kl, some (oPth (restL l (stL l a b kp i) k)))] ∧ (∀ i ∈ keys D, i < n') ∧ k ≤ M ∧ n ≤ kl ∧ kl ≠ ko)) (M - 0) (⟨0, n1, rfl, by omega, ⟨rfl, rfl, rfl, rfl, rfl, rfl, trivial⟩, (by rfl), (kb2 (by omega)), ⟨by omega, by omega, by omega⟩⟩) ?_
   rintro kn11 τ11 n11 _ ⟨k, kl, rfl, hn11, hHn11, rfl, hKn11, hIn11⟩
   rw [Has.eq hHn11]
   have hKn11_0 : ko < n11 := hKn11 _ (by simp only [keys, List.map_cons, List.map_nil, List.mem_cons, true_or, or_true])
   have hKn11_1 : kl < n11 := hKn11 _ (by simp only [keys, List.map_cons, List.map_nil, List.mem_cons, true_or, or_true])
   clear hKn11
   obtain ⟨hk1, hk2, hk3⟩ := hIn11
   refine RA.seq hd ?_
   refine RA.region env_ok ?_
   by_cases hc14 : ((k : Nat) : Int) < ((M : Nat) : Int)
   ·
    have hz := hok _ (getD_mem (d := dInn) (l := (stL l a b kp i)) (i := k) (by omega))
    refine OA.p (some 69) (.bool true) rfl rfl rfl (Eq.trans (r_bin rfl rfl rfl (b_lss rfl)) (dT hc14)) ?_
    refine OA.nil ?_
    intro _
    refine RA.seq hd ?_
    refine RA.condT rfl ?_
    refine RA.skip env_ok ?_
    intro _
    refine RA.seq hd ?_
    refine RA.block ?_
    refine RA.seq hd ?_
    refine RA.region env_ok ?_
    refine OA.p (some 70) (Pt ko k 0) rfl rfl rfl (r_iaS (l := k) rfl rfl rfl rfl rfl rfl (by omega) (by omega) get_here rfl (by omega)) ?_
    refine OA.p (some 71) (.int .i64 ((stL l a b kp i).getD k dInn).z) rfl rfl rfl (r_loadF (c := cInn) dInn rfl rfl rfl rfl rfl get_here (by rw [hfl]; omega) rfl) ?_
    refine OA.p (some 15) (.int .i64 ((stL l a b kp i).getD k dInn).z) rfl rfl rfl rfl ?_
    refine OA.nil ?_
    intro _
    refine RA.region env_ok ?_
    refine OA.p (some 72) (.slice (some ⟨kl, 0, none⟩) k 2) rfl rfl rfl rfl ?_
    refine OA.p (some 73) (Pt p 0 0) rfl rfl rfl rfl ?_
    refine OA.p (some 74) (Pt p 0 0) rfl rfl rfl rfl ?_
    refine OA.p (some 75) (Pt p 0 0) rfl rfl rfl rfl ?_
    refine OA.p (some 76) (.slice (some ⟨jp, 0, none⟩) K 2) rfl rfl rfl (r_load1 rfl rfl rfl rfl rfl (gt2 (by omega) hp) rfl rfl) ?_
    refine OA.p (some 77) (.int .i64 ((stL l a b kp i).getD k dInn).z) rfl rfl rfl rfl ?_
    refine OA.p (some 78) (.pointer (some ⟨jp, ((stL l a b kp i).getD k dInn).z.toNat, some 0⟩)) rfl rfl rfl (r_iaS (l := ((stL l a b kp i).getD k dInn).z.toNat) rfl rfl rfl rfl rfl rfl (by omega) (by omega) (gt2 (by omega) hjp) rfl (by omega)) ?_
    refine OA.p (some 79) (.agg ⟨(cPth (l.getD ((stL l a b kp i).getD k dInn).z.toNat dPth))⟩) rfl rfl rfl (r_loadR (c := cPth) dPth rfl rfl rfl rfl (gt2 (by omega) hjp) (by rw [hl]; omega) rfl) ?_
    refine OA.op1 (dst := (some 80)) (v := (.slice (some ⟨n11, 0, none⟩) 1 0)) (n1 := (n11 + 1)) (w := (n11, some ⟨[(xPa52 l a b kp i k)], 15, 87, true⟩)) rfl rfl rfl (by kernel_rfl) (by omega) ?_
    refine OA.op (dst := (some 81)) (v := (.slice (some ⟨(n11 + 1), 0, none⟩) (k + 1) 2)) (n1 := (n11 + 2)) (d1 := [((n11 + 1), some (oPth ((restL l (stL l a b kp i) k) ++ [(l.getD ((stL l a b kp i).getD k dInn).z.toNat dPth)]))), (kl, none)]) (D' := [((n11 + 1), some (oPth ((restL l (stL l a b kp i) k) ++ [(l.getD ((stL l a b kp i).getD k dInn).z.toNat dPth)]))), (kl, none), (n11, some ⟨[(xPa52 l a b kp i k)], 15, 87, true⟩), (ko, some (oInn (stL l a b kp i))), (kl, some (oPth (restL l (stL l a b kp i) k)))]) rfl rfl rfl (r_append2x (c := cPth) (x := (l.getD ((stL l a b kp i).getD k dInn).z.toNat dPth)) (l' := ((restL l (stL l a b kp i) k) ++ [(l.getD ((stL l a b kp i).getD k dInn).z.toNat dPth)])) rfl rfl rfl rfl rfl rfl rfl rfl rfl rfl (by decide) (gt2 (by omega) get_here) get_here (by rw [show (restL l (stL l a b kp i) k).length = k from restL_len (by omega)]; omega) (by rw [take_all' (show (restL l (stL l a b kp i) k).length = k from restL_len (by omega))]) (by omega) (of_decide_eq_true (by kernel_rfl)) (by omega)) (by omega) rfl ?_
    refine OA.p (some 13) (.slice (some ⟨(n11 + 1), 0, none⟩) (k + 1) 2) rfl rfl rfl rfl ?_
    refine OA.nil ?_
    intro _
    refine RA.weaken (D' := [((n11 + 1), some (oPth ((restL l (stL l a b kp i) k) ++ [(l.getD ((stL l a b kp i).getD k dInn).z.toNat dPth)]))), (kl, none), (n11, some ⟨[(xPa52 l a b kp i k)], 15, 87, true⟩), (ko, some (oInn (stL l a b kp i)))]) hd (Less.of (fac (mm (fun _ => get_here) (fun _ => get_here)) (fac (mm (fun _ => (get_there (by omega) get_here)) (fun _ => (get_there (by omega) get_here))) (fac (mm (fun _ => (gt2 (by omega) get_here)) (fun _ => (gt2 (by omega) get_here))) (fac (mm (fun _ => (gt3 (by omega) get_here)) (fun _ => (gt3 (by omega) get_here))) fan)))) (gone_of (by simp only [goneP, memP, List.cons_append, List.nil_append, true_or, or_true, true_and, and_true, or_false] <;> omega))) ?_
    refine RA.region env_ok ?_
    refine OA.p (some 82) (.int .i64 (((k + 1) : Nat) : Int)) rfl rfl rfl (r_bin rfl rfl rfl (b_add (i64_eq (by omega)))) ?_
    refine OA.p (some 68) (.int .i64 (((k + 1) : Nat) : Int)) rfl rfl rfl rfl ?_
    refine OA.nil ?_
    refine ⟨M - (k + 1), by omega, [(ko, some (oInn (stL l a b kp i))), ((n11 + 1), some (oPth ((restL l (stL l a b kp i) k) ++ [(l.getD ((stL l a b kp i).getD k dInn).z.toNat dPth)])))], (Less.of (fac (mm (fun _ => get_here) (fun _ => (gt3 (by omega) get_here))) (fac (mm (fun _ => (get_there (by omega) get_here)) (fun _ => get_here)) fan)) (gone_of (by simp only [goneP, memP, List.cons_append, List.nil_append, true_or, or_true, true_and, and_true, or_false] <;> omega))), ⟨(k + 1), (n11 + 1), rfl, by omega, ⟨rfl, rfl, rfl, rfl, rfl, rfl, trivial⟩, (by rw [restL_step (by omega)]), (kb2 (by omega)), ⟨by omega, by omega, by omega⟩⟩⟩
   ·
    refine OA.p (some 69) (.bool false) rfl rfl rfl (Eq.trans (r_bin rfl rfl rfl (b_lss rfl)) (dF hc14)) ?_
    refine OA.nil ?_
    intro _
    refine RA.seq hd ?_
    refine RA.condF rfl ?_
    refine RA.exit env_ok ?_
    intro _
    refine RA.seq hd ?_
    refine RA.region env_ok ?_
    refine OA.p (some 83) (Pt p 0 0) rfl rfl rfl rfl ?_
    refine OA.p (some 84) (.slice (some ⟨ko, 0, none⟩) M 2) rfl rfl rfl rfl ?_
    refine OA.p (some 85) (Pt p 0 0) rfl rfl rfl rfl ?_
    refine OA.p (some 86) (Pt p 0 0) rfl rfl rfl rfl ?_
    refine OA.p (some 87) (Pt p 0 1) rfl rfl rfl rfl ?_
    refine OA.p (some 88) (.int .i64 ((f : Nat) : Int)) rfl rfl rfl (r_load1 rfl rfl rfl rfl rfl (gt2 (by omega) hp) rfl rfl) ?_
    refine OA.callP (dst := (some 89)) (all := [(.slice (some ⟨ko, 0, none⟩) M 2), (.int .i64 ((f : Nat) : Int))]) (v := (.int .i64 (idxZ (eqI ((f : Nat) : Int)) (stL l a b kp i)))) (hd.of (by omega) (kb2 (by omega))) rfl rfl rfl rfl rfl rfl rfl rfl (pIx ko M (stL l a b kp i) hfl (by omega) ((f : Nat) : Int) get_here) ?_
    intro n12 hn12
    refine OA.p (some 90) (.int .i64 ((atF f (stL l a b kp i) : Nat) : Int)) rfl rfl rfl (r_maxZ (x := (idxZ (eqI ((f : Nat) : Int)) (stL l a b kp i))) rfl rfl rfl) ?_
    refine OA.p (some 91) (Pt p 0 0) rfl rfl rfl rfl ?_
    refine OA.p (some 92) (Pt p 0 1) rfl rfl rfl rfl ?_
    refine OA.op1 (dst := none) (v := (.tuple #[])) (n1 := n12) (w := (p, some ⟨[[(.slice (some ⟨jp, 0, none⟩) K 2), (.int .i64 ((atF f (stL l a b kp i) : Nat) : Int))]], 2, 131, true⟩)) rfl rfl rfl (r_store rfl rfl rfl rfl rfl rfl rfl (gt2 (by omega) hp) rfl rfl (Nat.le_of_ble_eq_true rfl) rfl) (by omega) ?_
    refine OA.nil ?_
    intro _
    refine RA.seq hd ?_
    refine RA.region env_ok ?_
    refine OA.p (some 93) (Pt p 0 0) rfl rfl rfl rfl ?_
    refine OA.p (some 94) (.slice (some ⟨kl, 0, none⟩) k 2) rfl rfl rfl rfl ?_
    refine OA.p (some 95) (Pt p 0 0) rfl rfl rfl rfl ?_
    refine OA.p (some 96) (Pt p 0 0) rfl rfl rfl rfl ?_
    refine OA.op1 (dst := none) (v := (.tuple #[])) (n1 := n12) (w := (p, some ⟨[[(.slice (some ⟨kl, 0, none⟩) k 2), (.int .i64 ((atF f (stL l a b kp i) : Nat) : Int))]], 2, 131, true⟩)) rfl rfl rfl (r_store rfl rfl rfl rfl rfl rfl rfl get_here rfl rfl (Nat.le_of_ble_eq_true rfl) rfl) (by omega) ?_
    refine OA.nil ?_
    intro _
    refine RA.seq hd ?_
    refine RA.region env_ok ?_
    refine OA.p (some 97) (.slice (some ⟨ko, 0, none⟩) M 2) rfl rfl rfl rfl ?_
    refine OA.p (some 8) (.slice (some ⟨ko, 0, none⟩) M 2) rfl rfl rfl rfl ?_
    refine OA.nil ?_
    intro _
    refine RA.ret env_ok ?_
    refine ⟨.inr rfl, [(.slice (some ⟨ko, 0, none⟩) M 2)], (resL_cons rfl resL_nil), [(p, some ⟨[[(.slice (some ⟨kl, 0, none⟩) k 2), (.int .i64 ((atF f (stL l a b kp i) : Nat) : Int))]], 2, 131, true⟩), (ko, some (oInn (stL l a b kp i))), (kl, some (oPth (restL l (stL l a b kp i) k)))], (Less.of (fac (mm (fun _ => get_here) (fun _ => get_here)) (fac (mm (fun _ => (get_there (by omega) get_here)) (fun _ => (gt2 (by omega) get_here))) (fac (mm (fun _ => (gt2 (by omega) get_here)) (fun _ => (gt3 (by omega) get_here))) fan))) (gone_of (by simp only [goneP, memP, List.cons_append, List.nil_append, true_or, or_true, true_and, and_true, or_false] <;> omega))), ⟨ko, kl, by omega, by omega, by omega, by omega, by omega, M, by rw [hdr]; exact hfl, by omega, VLe.refl _, by rw [hdr, ← restL_end (l := l) (k := k) (by omega), show M = k from by omega]⟩⟩
end Go.Proofs.Ytnjknabighmedaa.Vt
