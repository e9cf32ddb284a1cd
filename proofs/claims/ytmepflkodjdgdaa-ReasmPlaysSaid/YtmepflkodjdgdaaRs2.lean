/- Rs2: walks through functions of the program, by the calculus; written by a program of this workplace. -/
import Derived.Test.YtmepflkodjdgdaaRs1
import Derived.Test.YtmepflkodjdgdaaVm6
namespace Go.Proofs.Ytmepflkodjdgdaa.Vt
open Go Go.Proofs Go.Proofs.YtmepflkodjdgdaaV
set_option maxRecDepth 100000
set_option linter.unusedVariables false
set_option linter.unusedSimpArgs false
theorem del_lastR {α : Type} {l : List α} {z : α} {i u N : Nat} (hl : l.length = N) (hi : i < u) (hu : u = N) : (l.take i ++ List.replicate (u - i) z ++ l.drop (i + (u - i))).take (N - (u - i)) = l.take i ++ l.drop u := by
  subst hu
  rw [List.drop_of_length_le (show l.length ≤ i + (u - i) by omega), List.drop_of_length_le (show l.length ≤ u by omega), List.append_nil, List.append_nil, List.take_append_of_le_length (by rw [List.length_take]; omega), List.take_take, show min (u - (u - i)) i = i by omega]
theorem del_midR {α : Type} {l : List α} {z : α} {i u N K M : Nat} (hl : l.length = N) (hi : i < u) (hu : u < N) (hK : K = N - u) (hM : M = N - (u - i)) : ((l.take i ++ (l.drop u).take K ++ l.drop (i + K)).take M ++ List.replicate (u - i) z ++ (l.take i ++ (l.drop u).take K ++ l.drop (i + K)).drop (M + (u - i))).take M = l.take i ++ l.drop u := by
  subst hK; subst hM
  have h1 : (l.drop u).take (N - u) = l.drop u := List.take_of_length_le (by rw [List.length_drop]; omega)
  have h2 : (l.take i ++ l.drop u).length = N - (u - i) := by rw [List.length_append, List.length_take, List.length_drop]; omega
  have h3 : ∀ x : List α, (l.take i ++ l.drop u ++ x).take (N - (u - i)) = l.take i ++ l.drop u := fun x => by
    rw [List.take_append_of_le_length (by omega), List.take_of_length_le (by omega)]
  rw [h1, h3, List.append_assoc, h3]
theorem sDel0 {n : Nat} {σ : Store} (hd : Dom n σ) (j N i u : Nat) (l : List Prt) (hl : l.length = N) (hi : i < u) (hu : u ≤ N) (hN : N ≤ 1000000) (hj : σ j = some (oPrt l))  : CQ Try.prog noDen 75 [(.slice (some ⟨j, 0, none⟩) N 0), (.int .i64 ((i : Nat) : Int)), (.int .i64 ((u : Nat) : Int))] n σ (fun v n' d => ∃ LL : List Prt, v = .slice (some ⟨j, 0, none⟩) (N - (u - i)) 0 ∧ LL.take (N - (u - i)) = l.take i ++ l.drop u ∧ d = [(j, some (oPrt LL))]) := by
 have lhj := hd.lt hj
 refine CQ.body (E := env) env_ok hd rfl rfl (by show _ ≤ _; exact of_decide_eq_true (by kernel_rfl)) ?_
 refine RA.seq hd ?_
 refine RA.region env_ok ?_
 refine OA.p (some 6) (.slice none 0 0) rfl rfl rfl rfl ?_
 refine OA.nil ?_
 intro _
 refine RA.seq hd ?_
 refine RA.region env_ok ?_
 refine OA.p (some 8) (.slice (some ⟨j, 0, none⟩) N 0) rfl rfl rfl rfl ?_
 refine OA.p (some 9) (.int .i64 ((i : Nat) : Int)) rfl rfl rfl rfl ?_
 refine OA.p (some 10) (.int .i64 ((u : Nat) : Int)) rfl rfl rfl rfl ?_
 refine OA.p (some 11) (.slice (some ⟨j, 0, none⟩) N 0) rfl rfl rfl rfl ?_
 refine OA.p (some 12) (.int .i64 ((N : Nat) : Int)) rfl rfl rfl rfl ?_
 by_cases hc1 : u = N
 ·
  refine OA.p (some 13) (.slice (some ⟨j, i, none⟩) (u - i) 1) rfl rfl rfl (r_cut3e (a := i) (b := u) (m := N) rfl rfl rfl rfl rfl rfl rfl rfl hj rfl (by omega) (by rw [List.length_map, hl]; omega) (by omega) (by omega)) ?_
  refine OA.nil ?_
  intro _
  refine RA.seq hd ?_
  refine RA.seq hd ?_
  refine RA.region env_ok ?_
  refine OA.p (some 14) (.int .i64 ((i : Nat) : Int)) rfl rfl rfl rfl ?_
  refine OA.p (some 15) (.int .i64 ((u : Nat) : Int)) rfl rfl rfl rfl ?_
  have hc2 : ¬ (((i : Nat) : Int) = ((u : Nat) : Int)) := fun hdd => by exfalso; omega
  refine OA.p (some 16) (.bool false) rfl rfl rfl (Eq.trans (r_bin rfl rfl rfl (b_eql rfl)) (dF hc2)) ?_
  refine OA.nil ?_
  intro _
  refine RA.condF rfl ?_
  refine RA.skip env_ok ?_
  intro _
  refine RA.seq hd ?_
  refine RA.region env_ok ?_
  refine OA.p (some 18) (.slice (some ⟨j, 0, none⟩) N 0) rfl rfl rfl rfl ?_
  refine OA.p (some 19) (.int .i64 ((N : Nat) : Int)) rfl rfl rfl rfl ?_
  refine OA.p (some 7) (.int .i64 ((N : Nat) : Int)) rfl rfl rfl rfl ?_
  refine OA.nil ?_
  intro _
  refine RA.seq hd ?_
  refine RA.par (md := [some [], some [], some [j], some [], some [], some [j], none, some []]) env_ok (hd.up (by omega)) (by kernel_rfl) ?_
  refine PQ.pure (dst := (some 20)) (v := (.slice (some ⟨j, 0, none⟩) N 0)) rfl rfl rfl noStore (none_ok _ _) rfl ?_
  refine PQ.pure (dst := (some 21)) (v := (.int .i64 ((i : Nat) : Int))) rfl rfl rfl noStore (none_ok _ _) rfl ?_
  refine PQ.pure (dst := (some 22)) (v := (.slice (some ⟨j, 0, none⟩) i 0)) rfl rfl rfl (app [(j, some (oPrt l))] noStore) (seen_one (V := []) (D := []) (by kernel_rfl) hj) (r_cutG (a := 0) (b := i) rfl rfl (fun _ => rfl) (fun _ => rfl) rfl rfl rfl rfl (bound_int (by omega)) get_here rfl (by omega) (by rw [List.length_map, hl]; omega) (by omega) (by omega)) ?_
  refine PQ.pure (dst := (some 23)) (v := (.slice (some ⟨j, 0, none⟩) N 0)) rfl rfl rfl noStore (none_ok _ _) rfl ?_
  refine PQ.pure (dst := (some 24)) (v := (.int .i64 ((u : Nat) : Int))) rfl rfl rfl noStore (none_ok _ _) rfl ?_
  refine PQ.pure (dst := (some 25)) (v := (.slice (some ⟨j, u, none⟩) (N - u) 0)) rfl rfl rfl (app [(j, some (oPrt l))] noStore) (seen_one (V := []) (D := []) (by kernel_rfl) hj) (r_cutG (a := u) (b := N) rfl rfl (fun _ => rfl) (fun _ => rfl) rfl rfl rfl (bound_int (by omega)) rfl get_here rfl (by omega) (by rw [List.length_map, hl]; omega) (by omega) (by omega)) ?_
  refine PQ.pure (dst := (some 26)) (v := (.slice (some ⟨j, 0, none⟩) i 0)) rfl rfl rfl _ (seen_any (V := []) (D := []) (by kernel_rfl)) (r_appendZ rfl rfl rfl rfl (.inl ⟨_, _, _, rfl, by decide⟩) rfl rfl rfl rfl rfl (by decide) (by omega)) ?_
  refine PQ.pure (dst := (some 0)) (v := (.slice (some ⟨j, 0, none⟩) i 0)) rfl rfl rfl noStore (none_ok _ _) rfl ?_
  refine PQ.done (d := []) (by kernel_rfl) ?_
  intro _
  refine RA.seq hd ?_
  refine RA.region env_ok ?_
  refine OA.p (some 27) (.slice (some ⟨j, 0, none⟩) i 0) rfl rfl rfl rfl ?_
  refine OA.p (some 28) (.slice (some ⟨j, 0, none⟩) i 0) rfl rfl rfl rfl ?_
  refine OA.p (some 29) (.int .i64 ((i : Nat) : Int)) rfl rfl rfl rfl ?_
  refine OA.p (some 30) (.int .i64 ((N : Nat) : Int)) rfl rfl rfl rfl ?_
  refine OA.p (some 31) (.slice (some ⟨j, i, none⟩) (u - i) 0) rfl rfl rfl (r_cutG (a := i) (b := N) rfl rfl (fun _ => rfl) (fun _ => rfl) rfl rfl rfl (bound_int (by omega)) (bound_int (by omega)) hj rfl (by omega) (by rw [List.length_map, hl]; omega) (by omega) (by omega)) ?_
  refine OA.op1 (dst := none) (v := (.tuple #[])) (n1 := n) (w := (j, some (oPrt (l.take i ++ List.replicate (u - i) dPrt ++ l.drop (i + (u - i)))))) rfl rfl rfl (r_clearR (c := cPrt) (z := dPrt) (l' := (l.take i ++ List.replicate (u - i) dPrt ++ l.drop (i + (u - i)))) rfl rfl rfl rfl rfl rfl rfl rfl rfl hj (by omega) (by rw [hl]; omega) rfl) (by omega) ?_
  refine OA.nil ?_
  intro _
  refine RA.rebase [(0, (.slice (some ⟨j, 0, none⟩) i 0)), (1, (.int .i64 ((i : Nat) : Int))), (2, (.int .i64 ((u : Nat) : Int))), (6, (.slice none 0 0)), (7, (.int .i64 ((N : Nat) : Int))), (16, (.bool false))] ⟨rfl, rfl, rfl, rfl, rfl, rfl, trivial⟩ (fun τr1 => ?_)
  refine RA.seq hd ?_
  refine RA.region env_ok ?_
  refine OA.p (some 32) (.slice (some ⟨j, 0, none⟩) i 0) rfl rfl rfl rfl ?_
  refine OA.p (some 6) (.slice (some ⟨j, 0, none⟩) i 0) rfl rfl rfl rfl ?_
  refine OA.nil ?_
  intro _
  refine RA.ret env_ok ?_
  refine ⟨.inr rfl, [(.slice (some ⟨j, 0, none⟩) i 0)], (resL_cons rfl resL_nil), [(j, some (oPrt (l.take i ++ List.replicate (u - i) dPrt ++ l.drop (i + (u - i)))))], (Less.refl _ _ _), ⟨(l.take i ++ List.replicate (u - i) dPrt ++ l.drop (i + (u - i))), congrArg (fun z => Value.slice (some ⟨j, 0, none⟩) z 0) (by omega), del_lastR hl hi (by omega), rfl⟩⟩
 ·
  refine OA.op (dst := (some 13)) (v := (.slice (some ⟨n, 0, none⟩) (u - i) 0)) (n1 := (n + 1)) (d1 := []) (D' := []) rfl rfl rfl (r_cut3 (a := i) (b := u) (m := N) rfl rfl rfl rfl rfl rfl rfl rfl (by omega) (by omega)) (by omega) rfl ?_
  refine OA.nil ?_
  intro _
  refine RA.seq hd ?_
  refine RA.seq hd ?_
  refine RA.region env_ok ?_
  refine OA.p (some 14) (.int .i64 ((i : Nat) : Int)) rfl rfl rfl rfl ?_
  refine OA.p (some 15) (.int .i64 ((u : Nat) : Int)) rfl rfl rfl rfl ?_
  have hc3 : ¬ (((i : Nat) : Int) = ((u : Nat) : Int)) := fun hdd => by exfalso; omega
  refine OA.p (some 16) (.bool false) rfl rfl rfl (Eq.trans (r_bin rfl rfl rfl (b_eql rfl)) (dF hc3)) ?_
  refine OA.nil ?_
  intro _
  refine RA.condF rfl ?_
  refine RA.skip env_ok ?_
  intro _
  refine RA.seq hd ?_
  refine RA.region env_ok ?_
  refine OA.p (some 18) (.slice (some ⟨j, 0, none⟩) N 0) rfl rfl rfl rfl ?_
  refine OA.p (some 19) (.int .i64 ((N : Nat) : Int)) rfl rfl rfl rfl ?_
  refine OA.p (some 7) (.int .i64 ((N : Nat) : Int)) rfl rfl rfl rfl ?_
  refine OA.nil ?_
  intro _
  refine RA.seq hd ?_
  refine RA.par (md := [some [], some [], some [j], some [], some [], some [j], none, some []]) env_ok (hd.up (by omega)) (by kernel_rfl) ?_
  refine PQ.pure (dst := (some 20)) (v := (.slice (some ⟨j, 0, none⟩) N 0)) rfl rfl rfl noStore (none_ok _ _) rfl ?_
  refine PQ.pure (dst := (some 21)) (v := (.int .i64 ((i : Nat) : Int))) rfl rfl rfl noStore (none_ok _ _) rfl ?_
  refine PQ.pure (dst := (some 22)) (v := (.slice (some ⟨j, 0, none⟩) i 0)) rfl rfl rfl (app [(j, some (oPrt l))] noStore) (seen_one (V := []) (D := []) (by kernel_rfl) hj) (r_cutG (a := 0) (b := i) rfl rfl (fun _ => rfl) (fun _ => rfl) rfl rfl rfl rfl (bound_int (by omega)) get_here rfl (by omega) (by rw [List.length_map, hl]; omega) (by omega) (by omega)) ?_
  refine PQ.pure (dst := (some 23)) (v := (.slice (some ⟨j, 0, none⟩) N 0)) rfl rfl rfl noStore (none_ok _ _) rfl ?_
  refine PQ.pure (dst := (some 24)) (v := (.int .i64 ((u : Nat) : Int))) rfl rfl rfl noStore (none_ok _ _) rfl ?_
  refine PQ.pure (dst := (some 25)) (v := (.slice (some ⟨j, u, none⟩) (N - u) 0)) rfl rfl rfl (app [(j, some (oPrt l))] noStore) (seen_one (V := []) (D := []) (by kernel_rfl) hj) (r_cutG (a := u) (b := N) rfl rfl (fun _ => rfl) (fun _ => rfl) rfl rfl rfl (bound_int (by omega)) rfl get_here rfl (by omega) (by rw [List.length_map, hl]; omega) (by omega) (by omega)) ?_
  refine PQ.op (dst := (some 26)) (v := (.slice (some ⟨j, 0, none⟩) (N - (u - i)) 0)) (n1 := (n + 1)) (d1 := [(j, some (oPrt (l.take i ++ (l.drop u).take (N - u) ++ l.drop (i + (N - u)))))]) rfl rfl rfl _ (seen_any (V := []) (D := []) (by kernel_rfl)) (r_appendIn (c := cPrt) (l' := (l.take i ++ (l.drop u).take (N - u) ++ l.drop (i + (N - u)))) rfl rfl rfl rfl rfl rfl rfl rfl rfl rfl (by decide) hj (by omega) (by rw [hl]; omega) (by rw [hl]; omega) rfl (by omega) (of_decide_eq_true (by kernel_rfl)) (by omega)) (by omega) (kp1 (wr_tight (by kernel_rfl) (by omega))) ?_
  refine PQ.pure (dst := (some 0)) (v := (.slice (some ⟨j, 0, none⟩) (N - (u - i)) 0)) rfl rfl rfl noStore (none_ok _ _) rfl ?_
  refine PQ.done (d := [(j, some (oPrt (l.take i ++ (l.drop u).take (N - u) ++ l.drop (i + (N - u)))))]) (by kernel_rfl) ?_
  intro _
  refine RA.seq hd ?_
  refine RA.region env_ok ?_
  refine OA.p (some 27) (.slice (some ⟨j, 0, none⟩) (N - (u - i)) 0) rfl rfl rfl rfl ?_
  refine OA.p (some 28) (.slice (some ⟨j, 0, none⟩) (N - (u - i)) 0) rfl rfl rfl rfl ?_
  refine OA.p (some 29) (.int .i64 (((N - (u - i)) : Nat) : Int)) rfl rfl rfl rfl ?_
  refine OA.p (some 30) (.int .i64 ((N : Nat) : Int)) rfl rfl rfl rfl ?_
  refine OA.p (some 31) (.slice (some ⟨j, (N - (u - i)), none⟩) (u - i) 0) rfl rfl rfl (r_cutG (a := (N - (u - i))) (b := N) rfl rfl (fun _ => rfl) (fun _ => rfl) rfl rfl rfl (bound_int (by omega)) (bound_int (by omega)) get_here rfl (by omega) (by rw [List.length_map, show (l.take i ++ (l.drop u).take (N - u) ++ l.drop (i + (N - u))).length = N from by simp only [List.length_append, List.length_take, List.length_drop, hl]; omega]; omega) (by omega) (by omega)) ?_
  refine OA.op1 (dst := none) (v := (.tuple #[])) (n1 := (n + 1)) (w := (j, some (oPrt ((l.take i ++ (l.drop u).take (N - u) ++ l.drop (i + (N - u))).take (N - (u - i)) ++ List.replicate (u - i) dPrt ++ (l.take i ++ (l.drop u).take (N - u) ++ l.drop (i + (N - u))).drop ((N - (u - i)) + (u - i)))))) rfl rfl rfl (r_clearR (c := cPrt) (z := dPrt) (l' := ((l.take i ++ (l.drop u).take (N - u) ++ l.drop (i + (N - u))).take (N - (u - i)) ++ List.replicate (u - i) dPrt ++ (l.take i ++ (l.drop u).take (N - u) ++ l.drop (i + (N - u))).drop ((N - (u - i)) + (u - i)))) rfl rfl rfl rfl rfl rfl rfl rfl rfl get_here (by omega) (by have hlo := (show (l.take i ++ (l.drop u).take (N - u) ++ l.drop (i + (N - u))).length = N from by simp only [List.length_append, List.length_take, List.length_drop, hl]; omega); omega) rfl) (by omega) ?_
  refine OA.nil ?_
  intro _
  refine RA.rebase [(0, (.slice (some ⟨j, 0, none⟩) (N - (u - i)) 0)), (1, (.int .i64 ((i : Nat) : Int))), (2, (.int .i64 ((u : Nat) : Int))), (6, (.slice none 0 0)), (7, (.int .i64 ((N : Nat) : Int))), (16, (.bool false))] ⟨rfl, rfl, rfl, rfl, rfl, rfl, trivial⟩ (fun τr2 => ?_)
  refine RA.seq hd ?_
  refine RA.region env_ok ?_
  refine OA.p (some 32) (.slice (some ⟨j, 0, none⟩) (N - (u - i)) 0) rfl rfl rfl rfl ?_
  refine OA.p (some 6) (.slice (some ⟨j, 0, none⟩) (N - (u - i)) 0) rfl rfl rfl rfl ?_
  refine OA.nil ?_
  intro _
  refine RA.ret env_ok ?_
  refine ⟨.inr rfl, [(.slice (some ⟨j, 0, none⟩) (N - (u - i)) 0)], (resL_cons rfl resL_nil), [(j, some (oPrt ((l.take i ++ (l.drop u).take (N - u) ++ l.drop (i + (N - u))).take (N - (u - i)) ++ List.replicate (u - i) dPrt ++ (l.take i ++ (l.drop u).take (N - u) ++ l.drop (i + (N - u))).drop ((N - (u - i)) + (u - i)))))], (Less.of (fac (mm (fun _ => get_here) (fun _ => get_here)) fan) (gone_of (by simp only [goneP, memP, List.cons_append, List.nil_append, true_or, or_true, true_and, and_true, or_false] <;> omega))), ⟨((l.take i ++ (l.drop u).take (N - u) ++ l.drop (i + (N - u))).take (N - (u - i)) ++ List.replicate (u - i) dPrt ++ (l.take i ++ (l.drop u).take (N - u) ++ l.drop (i + (N - u))).drop ((N - (u - i)) + (u - i))), congrArg (fun z => Value.slice (some ⟨j, 0, none⟩) z 0) (by omega), del_midR hl hi (by omega) rfl rfl, rfl⟩⟩

theorem sDel {n : Nat} {σ : Store} (hd : Dom n σ) (j N i u : Nat) (l : List Prt) (hl : l.length = N) (hi : i < u) (hu : u ≤ N) (hN : N ≤ 1000000) (hj : σ j = some (oPrt l)) : CQ Try.prog noDen 75 [(.slice (some ⟨j, 0, none⟩) N 2), (.int .i64 ((i : Nat) : Int)), (.int .i64 ((u : Nat) : Int))] n σ (fun v n' d => v = .slice (some ⟨j, 0, none⟩) (N - (u - i)) 2 ∧ d = [(j, some (oPrt (l.take i ++ l.drop u)))]) := by
  refine CQ.val (CQ.less_args (VLes.cons (vle_has (by omega)) (VLes.refl _)) (CQ.less (CQ.shr (sDel0 hd j N i u l hl hi hu hN hj) (R := fun v n' d => v = .slice (some ⟨j, 0, none⟩) (N - (u - i)) 0 ∧ ∃ o, d = [(j, some (oPrt (l.take i ++ l.drop u))), (j, some o)]) ?_) (R := fun v n' d => v = .slice (some ⟨j, 0, none⟩) (N - (u - i)) 0 ∧ d = [(j, some (oPrt (l.take i ++ l.drop u)))]) ?_)) ?_
  · rintro v n' d ⟨LL, rfl, h2, rfl⟩
    refine ⟨j, _, N - (u - i), get_here, rfl, oPrt LL, ?_⟩
    simp only [shr, ← List.map_take, h2]
  · rintro v n' d ⟨rfl, o, rfl⟩
    exact ⟨_, Less.of (fac (mm (fun _ => get_here) (fun _ => get_here)) fan) (gone_of (by simp only [goneP, memP, true_or, or_true, true_and, and_true])), rfl, rfl⟩
  · rintro v n' d ⟨rfl, rfl⟩
    exact ⟨_, vle_row _ _ _, rfl, rfl⟩

theorem sIns_e {n : Nat} {σ : Store} (hd : Dom n σ) (j m N c' t' : Nat) (l : List Prt) (x : Prt) (hl : l.length = N) (hN : N ≤ 1000000) (hj : σ j = some (oPrt l)) (hm : σ m = some ⟨[(cPrt x)], 15, t', true⟩)  : CQ Try.prog noDen 73 [(.slice (some ⟨j, 0, none⟩) N 2), (.int .i64 ((N : Nat) : Int)), (.slice (some ⟨m, 0, none⟩) 1 c')] n σ (fun v n' d => n < n' ∧ v = .slice (some ⟨n, 0, none⟩) (N + 1) 2 ∧ d = [(n, some (oPrt (l ++ [x]))), (j, none)]) := by
 have lhj := hd.lt hj
 have lhm := hd.lt hm
 refine CQ.body (E := env) env_ok hd rfl rfl (by show _ ≤ _; exact of_decide_eq_true (by kernel_rfl)) ?_
 refine RA.seq hd ?_
 refine RA.region env_ok ?_
 refine OA.p (some 6) (.slice none 0 0) rfl rfl rfl rfl ?_
 refine OA.nil ?_
 intro _
 refine RA.seq hd ?_
 refine RA.region env_ok ?_
 refine OA.p (some 10) (.slice (some ⟨j, 0, none⟩) N 2) rfl rfl rfl rfl ?_
 refine OA.p (some 11) (.int .i64 ((N : Nat) : Int)) rfl rfl rfl rfl ?_
 refine OA.p (some 12) (.slice (some ⟨j, N, none⟩) (N - N) 2) rfl rfl rfl (r_cut2 (a := N) (b := N) rfl rfl (fun _ => rfl) (fun _ => rfl) rfl rfl rfl (bound_int (by omega)) rfl hj rfl (by omega) (by omega) (by rw [List.length_map, hl]; omega) (by omega) (by omega)) ?_
 refine OA.nil ?_
 intro _
 refine RA.seq hd ?_
 refine RA.region env_ok ?_
 refine OA.p (some 13) (.slice (some ⟨m, 0, none⟩) 1 c') rfl rfl rfl rfl ?_
 refine OA.p (some 14) (.int .i64 1) rfl rfl rfl rfl ?_
 refine OA.p (some 7) (.int .i64 1) rfl rfl rfl rfl ?_
 refine OA.nil ?_
 intro _
 refine RA.seq hd ?_
 refine RA.seq hd ?_
 refine RA.region env_ok ?_
 refine OA.p (some 15) (.int .i64 1) rfl rfl rfl rfl ?_
 refine OA.p (some 16) (.bool false) rfl rfl rfl (r_bin rfl rfl rfl (b_eql rfl)) ?_
 refine OA.nil ?_
 intro _
 refine RA.condF rfl ?_
 refine RA.skip env_ok ?_
 intro _
 refine RA.seq hd ?_
 refine RA.region env_ok ?_
 refine OA.p (some 18) (.slice (some ⟨j, 0, none⟩) N 2) rfl rfl rfl rfl ?_
 refine OA.p (some 19) (.int .i64 ((N : Nat) : Int)) rfl rfl rfl rfl ?_
 refine OA.p (some 8) (.int .i64 ((N : Nat) : Int)) rfl rfl rfl rfl ?_
 refine OA.nil ?_
 intro _
 refine RA.seq hd ?_
 refine RA.seq hd ?_
 refine RA.region env_ok ?_
 refine OA.p (some 20) (.int .i64 ((N : Nat) : Int)) rfl rfl rfl rfl ?_
 refine OA.p (some 21) (.int .i64 ((N : Nat) : Int)) rfl rfl rfl rfl ?_
 refine OA.p (some 22) (.bool true) rfl rfl rfl (r_bin rfl rfl rfl (b_eql (decide_eq_true rfl))) ?_
 refine OA.nil ?_
 intro _
 refine RA.condT rfl ?_
 refine RA.seq hd ?_
 refine RA.region env_ok ?_
 refine OA.p (some 23) (.slice (some ⟨j, 0, none⟩) N 2) rfl rfl rfl rfl ?_
 refine OA.p (some 24) (.slice (some ⟨m, 0, none⟩) 1 c') rfl rfl rfl rfl ?_
 refine OA.op (dst := (some 25)) (v := (.slice (some ⟨n, 0, none⟩) (N + 1) 2)) (n1 := (n + 1)) (d1 := [(n, some (oPrt (l ++ [x]))), (j, none)]) (D' := [(n, some (oPrt (l ++ [x]))), (j, none)]) rfl rfl rfl (r_append2x (c := cPrt) (x := x) (l' := (l ++ [x])) rfl rfl rfl rfl rfl rfl rfl rfl rfl rfl (by decide) hj hm (by rw [hl]; omega) (by rw [take_all' (by rw [hl])]) (by omega) (of_decide_eq_true (by kernel_rfl)) (by omega)) (by omega) rfl ?_
 refine OA.p (some 6) (.slice (some ⟨n, 0, none⟩) (N + 1) 2) rfl rfl rfl rfl ?_
 refine OA.nil ?_
 intro _
 refine RA.ret env_ok ?_
 refine ⟨.inr rfl, [(.slice (some ⟨n, 0, none⟩) (N + 1) 2)], (resL_cons rfl resL_nil), [(n, some (oPrt (l ++ [x]))), (j, none)], (Less.refl _ _ _), ⟨by omega, rfl, rfl⟩⟩
theorem sIns {n : Nat} {σ : Store} (hd : Dom n σ) (j m N i c' t' : Nat) (l : List Prt) (x : Prt) (hl : l.length = N) (hi : i ≤ N) (hN : N ≤ 1000000) (hj : σ j = some (oPrt l)) (hm : σ m = some ⟨[cPrt x], 15, t', true⟩) (hjm : m ≠ j) : CQ Try.prog noDen 73 [.slice (some ⟨j, 0, none⟩) N 2, .int .i64 ((i : Nat) : Int), .slice (some ⟨m, 0, none⟩) 1 c'] n σ (fun v n' d => n < n' ∧ v = .slice (some ⟨n, 0, none⟩) (N + 1) 2 ∧ d = [(n, some (oPrt (insL l i x))), (j, none)]) := by
  by_cases h : i = N
  · subst h
    have h1 := sIns_e hd j m i c' t' l x hl hN hj hm
    have e : insL l i x = l ++ [x] := by unfold insL; rw [List.take_of_length_le (by omega), List.drop_of_length_le (by omega), List.append_nil]
    rw [e]; exact h1
  · have h1 := insSCChunk (n := n) (c := cPrt) (fun a => rfl) (off := 0) (i := i) (c' := c') hj hm hjm (by omega) (by omega) hN
    rw [show (l.drop 0).take N = l from take_all' hl] at h1
    exact ⟨_, _, _, h1, by omega, rfl, rfl⟩
end Go.Proofs.Ytmepflkodjdgdaa.Vt
