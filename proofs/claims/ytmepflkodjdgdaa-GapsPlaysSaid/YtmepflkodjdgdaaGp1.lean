/- Gp1: walks through functions of the program, by the calculus; written by a program of this workplace. -/
import Derived.Test.YtmepflkodjdgdaaIns
import Derived.Test.YtmepflkodjdgdaaVm6
namespace Go.Proofs.Ytmepflkodjdgdaa.Vt
open Go Go.Proofs Go.Proofs.YtmepflkodjdgdaaV
set_option maxRecDepth 100000
set_option linter.unusedVariables false
set_option linter.unusedSimpArgs false
structure Gap where
  fr : Int
  to : Int
deriving DecidableEq
def dGap : Gap := ⟨0, 0⟩
abbrev cGap (e : Gap) : List Value := [(.int .i64 e.fr), (.int .i64 e.to)]
abbrev oGap (l : List Gap) : AObj := ⟨l.map cGap, 2, 60, true⟩
structure Wx where
  z : BitVec 32
deriving DecidableEq
def dWx : Wx := ⟨0#32⟩
abbrev cWx (e : Wx) : List Value := [(W e.z)]
abbrev oWx (l : List Wx) : AObj := ⟨l.map cWx, 1, 27, true⟩
def idxZ {α : Type} (p : α → Bool) (l : List α) : Int := if l.findIdx p < l.length then ((l.findIdx p : Nat) : Int) else -1
theorem fi_le {α : Type} {p : α → Bool} {l : List α} : l.findIdx p ≤ l.length := List.findIdx_le_length
theorem fi_found {α : Type} {d : α} {p : α → Bool} {l : List α} {i : Nat} (h : i < l.length) (hp : p (l.getD i d) = true) (hi : i ≤ l.findIdx p) : l.findIdx p = i := by
  rcases Nat.lt_or_ge i (l.findIdx p) with h1 | h1
  · have := List.not_of_lt_findIdx h1
    rw [List.getD_eq_getElem?_getD, List.getElem?_eq_getElem h] at hp
    simp only [Option.getD_some] at hp
    rw [hp] at this; simp at this
  · omega
theorem fi_step {α : Type} {d : α} {p : α → Bool} {l : List α} {i : Nat} (h : i < l.length) (hp : ¬ p (l.getD i d) = true) (hi : i ≤ l.findIdx p) : i + 1 ≤ l.findIdx p := by
  rcases Nat.lt_or_ge i (l.findIdx p) with h1 | h1
  · omega
  · exfalso; apply hp
    have e : l.findIdx p = i := by omega
    have h2 : l.findIdx p < l.length := by omega
    have h3 := List.findIdx_getElem (p := p) (xs := l) (w := h2)
    rw [List.getD_eq_getElem?_getD, List.getElem?_eq_getElem h]
    simp only [Option.getD_some]
    simpa only [e] using h3
theorem fi_any {α : Type} {p : α → Bool} {l : List α} : decide (l.findIdx p < l.length) = l.any p := by
  rw [Bool.eq_iff_iff, decide_eq_true_eq, List.findIdx_lt_length, List.any_eq_true]
theorem idxZ_any {α : Type} {p : α → Bool} {l : List α} : decide (idxZ p l ≥ 0) = l.any p := by
  rw [← fi_any]; unfold idxZ
  split <;> rename_i h
  · rw [decide_eq_true h, decide_eq_true (by omega)]
  · rw [decide_eq_false h, decide_eq_false (by omega)]
theorem take_all' {α : Type} {l : List α} {k : Nat} (h : l.length = k) : (l.drop 0).take k = l := by subst h; simp
def lessW (a b : BitVec 32) : Prop := (a.toNat : Int) ≠ (b.toNat : Int) ∧ ((b - a).toNat : Int) < 2147483648
instance (a b : BitVec 32) : Decidable (lessW a b) := by unfold lessW; infer_instance
def diffW (a b : BitVec 32) : Int := if lessW a b then -(((b - a).toNat : Nat) : Int) else (((a - b).toNat : Nat) : Int)
def inG (far : Int) (p : Gap) : Prop := p.fr ≤ far ∧ far ≤ p.to
instance (far : Int) (p : Gap) : Decidable (inG far p) := by unfold inG; infer_instance
def inGb (far : Int) (p : Gap) : Bool := decide (inG far p)
def gtb (far : Int) (p : Gap) : Bool := decide (far < p.fr)
def lookZ (cum : BitVec 32) (ps : List Gap) (tsn : BitVec 32) : Int := if diffW tsn cum ≤ 0 then 2 else if ps.any (inGb (diffW tsn cum)) = true then 2 else if 1000 < diffW tsn cum then 3 else 1
theorem diffW_lt (a b : BitVec 32) : -4294967296 < diffW a b ∧ diffW a b < 4294967296 := by
  have h1 := (b - a).isLt
  have h2 := (a - b).isLt
  unfold diffW
  split <;> omega
def mrg1 (l : List Gap) (i : Nat) (far : Int) : List Gap := if i + 1 < l.length ∧ (l.getD (i + 1) dGap).fr = far + 1 then (l.set i (Gap.mk (l.getD i dGap).fr (l.getD (i + 1) dGap).to)).eraseIdx (i + 1) else l
def mrg2 (l : List Gap) (i : Nat) (far : Int) : List Gap := if 0 < i ∧ (l.getD (i - 1) dGap).to = far - 1 then (l.set (i - 1) (Gap.mk (l.getD (i - 1) dGap).fr (l.getD i dGap).to)).eraseIdx i else l
def insG (ps : List Gap) (far : Int) : List Gap := insL ps (ps.findIdx (gtb far)) (Gap.mk far far)
def putL (ps : List Gap) (far : Int) : List Gap := mrg2 (mrg1 (insG ps far) (ps.findIdx (gtb far)) far) (ps.findIdx (gtb far)) far
theorem insG_len {ps : List Gap} {far : Int} : (insG ps far).length = ps.length + 1 := insL_len
theorem gIns_e {n : Nat} {σ : Store} (hd : Dom n σ) (j m N c' t' : Nat) (l : List Gap) (x : Gap) (hl : l.length = N) (hN : N ≤ 1000000) (hj : σ j = some (oGap l)) (hm : σ m = some ⟨[(cGap x)], 2, t', true⟩)  : CQ Try.prog noDen 99 [(.slice (some ⟨j, 0, none⟩) N 2), (.int .i64 ((N : Nat) : Int)), (.slice (some ⟨m, 0, none⟩) 1 c')] n σ (fun v n' d => n < n' ∧ v = .slice (some ⟨n, 0, none⟩) (N + 1) 2 ∧ d = [(n, some (oGap (l ++ [x]))), (j, none)]) := by
 have lhj := hd.lt hj
 have lhm := hd.lt hm
 refine CQ.body (E := env) env_ok hd rfl rfl (by show _ ≤ _; exact of_decide_eq_true (by kernel_rfl)) ?_
 refine RA.seq hd ?_
 refine RA.region env_ok ?_
 refine OA.p (some 6) (.slice none 0 0) rfl rfl rfl rfl ?_
 refine OA.nil ?_
 intro _
 refine RA.seq hd ?_
 refine RA.region env_ok ?_
 refine OA.p (some 10) (.slice (some ⟨j, 0, none⟩) N 2) rfl rfl rfl rfl ?_
 refine OA.p (some 11) (.int .i64 ((N : Nat) : Int)) rfl rfl rfl rfl ?_
 refine OA.p (some 12) (.slice (some ⟨j, N, none⟩) (N - N) 2) rfl rfl rfl (r_cut2 (a := N) (b := N) rfl rfl (fun _ => rfl) (fun _ => rfl) rfl rfl rfl (bound_int (by omega)) rfl hj rfl (by omega) (by omega) (by rw [List.length_map, hl]; omega) (by omega) (by omega)) ?_
 refine OA.nil ?_
 intro _
 refine RA.seq hd ?_
 refine RA.region env_ok ?_
 refine OA.p (some 13) (.slice (some ⟨m, 0, none⟩) 1 c') rfl rfl rfl rfl ?_
 refine OA.p (some 14) (.int .i64 1) rfl rfl rfl rfl ?_
 refine OA.p (some 7) (.int .i64 1) rfl rfl rfl rfl ?_
 refine OA.nil ?_
 intro _
 refine RA.seq hd ?_
 refine RA.seq hd ?_
 refine RA.region env_ok ?_
 refine OA.p (some 15) (.int .i64 1) rfl rfl rfl rfl ?_
 refine OA.p (some 16) (.bool false) rfl rfl rfl (r_bin rfl rfl rfl (b_eql rfl)) ?_
 refine OA.nil ?_
 intro _
 refine RA.condF rfl ?_
 refine RA.skip env_ok ?_
 intro _
 refine RA.seq hd ?_
 refine RA.region env_ok ?_
 refine OA.p (some 18) (.slice (some ⟨j, 0, none⟩) N 2) rfl rfl rfl rfl ?_
 refine OA.p (some 19) (.int .i64 ((N : Nat) : Int)) rfl rfl rfl rfl ?_
 refine OA.p (some 8) (.int .i64 ((N : Nat) : Int)) rfl rfl rfl rfl ?_
 refine OA.nil ?_
 intro _
 refine RA.seq hd ?_
 refine RA.seq hd ?_
 refine RA.region env_ok ?_
 refine OA.p (some 20) (.int .i64 ((N : Nat) : Int)) rfl rfl rfl rfl ?_
 refine OA.p (some 21) (.int .i64 ((N : Nat) : Int)) rfl rfl rfl rfl ?_
 refine OA.p (some 22) (.bool true) rfl rfl rfl (r_bin rfl rfl rfl (b_eql (decide_eq_true rfl))) ?_
 refine OA.nil ?_
 intro _
 refine RA.condT rfl ?_
 refine RA.seq hd ?_
 refine RA.region env_ok ?_
 refine OA.p (some 23) (.slice (some ⟨j, 0, none⟩) N 2) rfl rfl rfl rfl ?_
 refine OA.p (some 24) (.slice (some ⟨m, 0, none⟩) 1 c') rfl rfl rfl rfl ?_
 refine OA.op (dst := (some 25)) (v := (.slice (some ⟨n, 0, none⟩) (N + 1) 2)) (n1 := (n + 1)) (d1 := [(n, some (oGap (l ++ [x]))), (j, none)]) (D' := [(n, some (oGap (l ++ [x]))), (j, none)]) rfl rfl rfl (r_append2x (c := cGap) (x := x) (l' := (l ++ [x])) rfl rfl rfl rfl rfl rfl rfl rfl rfl rfl (by decide) hj hm (by rw [hl]; omega) (by rw [take_all' (by rw [hl])]) (by omega) (of_decide_eq_true (by kernel_rfl)) (by omega)) (by omega) rfl ?_
 refine OA.p (some 6) (.slice (some ⟨n, 0, none⟩) (N + 1) 2) rfl rfl rfl rfl ?_
 refine OA.nil ?_
 intro _
 refine RA.ret env_ok ?_
 refine ⟨.inr rfl, [(.slice (some ⟨n, 0, none⟩) (N + 1) 2)], (resL_cons rfl resL_nil), [(n, some (oGap (l ++ [x]))), (j, none)], (Less.refl _ _ _), ⟨by omega, rfl, rfl⟩⟩
theorem gIns {n : Nat} {σ : Store} (hd : Dom n σ) (j m N i c' t' : Nat) (l : List Gap) (x : Gap) (hl : l.length = N) (hi : i ≤ N) (hN : N ≤ 1000000) (hj : σ j = some (oGap l)) (hm : σ m = some ⟨[cGap x], 2, t', true⟩) (hjm : m ≠ j) : CQ Try.prog noDen 99 [.slice (some ⟨j, 0, none⟩) N 2, .int .i64 ((i : Nat) : Int), .slice (some ⟨m, 0, none⟩) 1 c'] n σ (fun v n' d => n < n' ∧ v = .slice (some ⟨n, 0, none⟩) (N + 1) 2 ∧ d = [(n, some (oGap (insL l i x))), (j, none)]) := by
  by_cases h : i = N
  · subst h
    have h1 := gIns_e hd j m i c' t' l x hl hN hj hm
    have e : insL l i x = l ++ [x] := by unfold insL; rw [List.take_of_length_le (by omega), List.drop_of_length_le (by omega), List.append_nil]
    rw [e]; exact h1
  · have h1 := insSCGap (n := n) (c := cGap) (fun a => rfl) (off := 0) (i := i) (c' := c') hj hm hjm (by omega) (by omega) hN
    rw [show (l.drop 0).take N = l from take_all' hl] at h1
    exact ⟨_, _, _, h1, by omega, rfl, rfl⟩

theorem gDel_0 {n : Nat} {σ : Store} (hd : Dom n σ) (j N i : Nat) (l : List Gap) (hl : l.length = N) (hi : i < N) (hN : N ≤ 1000000) (hj : σ j = some (oGap l))  : CQ Try.prog noDen 100 [(.slice (some ⟨j, 0, none⟩) N 0), (.int .i64 ((i : Nat) : Int)), (.int .i64 (((i + 1) : Nat) : Int))] n σ (fun v n' d => ∃ LL : List Gap, v = .slice (some ⟨j, 0, none⟩) (N - 1) 0 ∧ LL.take (N - 1) = l.eraseIdx i ∧ d = [(j, some (oGap LL))]) := by
 have lhj := hd.lt hj
 refine CQ.body (E := env) env_ok hd rfl rfl (by show _ ≤ _; exact of_decide_eq_true (by kernel_rfl)) ?_
 refine RA.seq hd ?_
 refine RA.region env_ok ?_
 refine OA.p (some 6) (.slice none 0 0) rfl rfl rfl rfl ?_
 refine OA.nil ?_
 intro _
 refine RA.seq hd ?_
 refine RA.region env_ok ?_
 refine OA.p (some 8) (.slice (some ⟨j, 0, none⟩) N 0) rfl rfl rfl rfl ?_
 refine OA.p (some 9) (.int .i64 ((i : Nat) : Int)) rfl rfl rfl rfl ?_
 refine OA.p (some 10) (.int .i64 (((i + 1) : Nat) : Int)) rfl rfl rfl rfl ?_
 refine OA.p (some 11) (.slice (some ⟨j, 0, none⟩) N 0) rfl rfl rfl rfl ?_
 refine OA.p (some 12) (.int .i64 ((N : Nat) : Int)) rfl rfl rfl rfl ?_
 by_cases hc1 : i + 1 = N
 ·
  refine OA.p (some 13) (.slice (some ⟨j, i, none⟩) 1 1) rfl rfl rfl (r_cut3e (a := i) (b := (i + 1)) (m := N) rfl rfl rfl rfl rfl rfl rfl rfl hj rfl (by omega) (by rw [List.length_map, hl]; omega) (by omega) (by omega)) ?_
  refine OA.nil ?_
  intro _
  refine RA.seq hd ?_
  refine RA.seq hd ?_
  refine RA.region env_ok ?_
  refine OA.p (some 14) (.int .i64 ((i : Nat) : Int)) rfl rfl rfl rfl ?_
  refine OA.p (some 15) (.int .i64 (((i + 1) : Nat) : Int)) rfl rfl rfl rfl ?_
  have hc2 : ¬ (((i : Nat) : Int) = (((i + 1) : Nat) : Int)) := fun hdd => by exfalso; omega
  refine OA.p (some 16) (.bool false) rfl rfl rfl (Eq.trans (r_bin rfl rfl rfl (b_eql rfl)) (dF hc2)) ?_
  refine OA.nil ?_
  intro _
  refine RA.condF rfl ?_
  refine RA.skip env_ok ?_
  intro _
  refine RA.seq hd ?_
  refine RA.region env_ok ?_
  refine OA.p (some 18) (.slice (some ⟨j, 0, none⟩) N 0) rfl rfl rfl rfl ?_
  refine OA.p (some 19) (.int .i64 ((N : Nat) : Int)) rfl rfl rfl rfl ?_
  refine OA.p (some 7) (.int .i64 ((N : Nat) : Int)) rfl rfl rfl rfl ?_
  refine OA.nil ?_
  intro _
  refine RA.seq hd ?_
  refine RA.par (md := [some [], some [], some [j], some [], some [], some [j], none, some []]) env_ok (hd.up (by omega)) (by kernel_rfl) ?_
  refine PQ.pure (dst := (some 20)) (v := (.slice (some ⟨j, 0, none⟩) N 0)) rfl rfl rfl noStore (none_ok _ _) rfl ?_
  refine PQ.pure (dst := (some 21)) (v := (.int .i64 ((i : Nat) : Int))) rfl rfl rfl noStore (none_ok _ _) rfl ?_
  refine PQ.pure (dst := (some 22)) (v := (.slice (some ⟨j, 0, none⟩) i 0)) rfl rfl rfl (app [(j, some (oGap l))] noStore) (seen_one (V := []) (D := []) (by kernel_rfl) hj) (r_cutG (a := 0) (b := i) rfl rfl (fun _ => rfl) (fun _ => rfl) rfl rfl rfl rfl (bound_int (by omega)) get_here rfl (by omega) (by rw [List.length_map, hl]; omega) (by omega) (by omega)) ?_
  refine PQ.pure (dst := (some 23)) (v := (.slice (some ⟨j, 0, none⟩) N 0)) rfl rfl rfl noStore (none_ok _ _) rfl ?_
  refine PQ.pure (dst := (some 24)) (v := (.int .i64 (((i + 1) : Nat) : Int))) rfl rfl rfl noStore (none_ok _ _) rfl ?_
  refine PQ.pure (dst := (some 25)) (v := (.slice (some ⟨j, (i + 1), none⟩) (N - (i + 1)) 0)) rfl rfl rfl (app [(j, some (oGap l))] noStore) (seen_one (V := []) (D := []) (by kernel_rfl) hj) (r_cutG (a := (i + 1)) (b := N) rfl rfl (fun _ => rfl) (fun _ => rfl) rfl rfl rfl (bound_int (by omega)) rfl get_here rfl (by omega) (by rw [List.length_map, hl]; omega) (by omega) (by omega)) ?_
  refine PQ.pure (dst := (some 26)) (v := (.slice (some ⟨j, 0, none⟩) i 0)) rfl rfl rfl _ (seen_any (V := []) (D := []) (by kernel_rfl)) (r_appendZ rfl rfl rfl rfl (.inl ⟨_, _, _, rfl, by decide⟩) rfl rfl rfl rfl rfl (by decide) (by omega)) ?_
  refine PQ.pure (dst := (some 0)) (v := (.slice (some ⟨j, 0, none⟩) i 0)) rfl rfl rfl noStore (none_ok _ _) rfl ?_
  refine PQ.done (d := []) (by kernel_rfl) ?_
  intro _
  refine RA.seq hd ?_
  refine RA.region env_ok ?_
  refine OA.p (some 27) (.slice (some ⟨j, 0, none⟩) i 0) rfl rfl rfl rfl ?_
  refine OA.p (some 28) (.slice (some ⟨j, 0, none⟩) i 0) rfl rfl rfl rfl ?_
  refine OA.p (some 29) (.int .i64 ((i : Nat) : Int)) rfl rfl rfl rfl ?_
  refine OA.p (some 30) (.int .i64 ((N : Nat) : Int)) rfl rfl rfl rfl ?_
  refine OA.p (some 31) (.slice (some ⟨j, i, none⟩) 1 0) rfl rfl rfl (r_cutG (a := i) (b := N) rfl rfl (fun _ => rfl) (fun _ => rfl) rfl rfl rfl (bound_int (by omega)) (bound_int (by omega)) hj rfl (by omega) (by rw [List.length_map, hl]; omega) (by omega) (by omega)) ?_
  refine OA.op1 (dst := none) (v := (.tuple #[])) (n1 := n) (w := (j, some (oGap (l.take i ++ List.replicate 1 dGap ++ l.drop (i + 1))))) rfl rfl rfl (r_clearR (c := cGap) (z := dGap) (l' := (l.take i ++ List.replicate 1 dGap ++ l.drop (i + 1))) rfl rfl rfl rfl rfl rfl rfl rfl rfl hj (by omega) (by rw [hl]; omega) rfl) (by omega) ?_
  refine OA.nil ?_
  intro _
  refine RA.rebase [(0, (.slice (some ⟨j, 0, none⟩) i 0)), (1, (.int .i64 ((i : Nat) : Int))), (2, (.int .i64 (((i + 1) : Nat) : Int))), (6, (.slice none 0 0)), (7, (.int .i64 ((N : Nat) : Int))), (16, (.bool false))] ⟨rfl, rfl, rfl, rfl, rfl, rfl, trivial⟩ (fun τr1 => ?_)
  refine RA.seq hd ?_
  refine RA.region env_ok ?_
  refine OA.p (some 32) (.slice (some ⟨j, 0, none⟩) i 0) rfl rfl rfl rfl ?_
  refine OA.p (some 6) (.slice (some ⟨j, 0, none⟩) i 0) rfl rfl rfl rfl ?_
  refine OA.nil ?_
  intro _
  refine RA.ret env_ok ?_
  refine ⟨.inr rfl, [(.slice (some ⟨j, 0, none⟩) i 0)], (resL_cons rfl resL_nil), [(j, some (oGap (l.take i ++ List.replicate 1 dGap ++ l.drop (i + 1))))], (Less.refl _ _ _), ⟨(l.take i ++ List.replicate 1 dGap ++ l.drop (i + 1)), congrArg (fun z => Value.slice (some ⟨j, 0, none⟩) z 0) (by omega), del_last hl (by omega), rfl⟩⟩
 ·
  refine OA.op (dst := (some 13)) (v := (.slice (some ⟨n, 0, none⟩) 1 0)) (n1 := (n + 1)) (d1 := []) (D' := []) rfl rfl rfl (r_cut3 (a := i) (b := (i + 1)) (m := N) rfl rfl rfl rfl rfl rfl rfl rfl (by omega) (by omega)) (by omega) rfl ?_
  refine OA.nil ?_
  intro _
  refine RA.seq hd ?_
  refine RA.seq hd ?_
  refine RA.region env_ok ?_
  refine OA.p (some 14) (.int .i64 ((i : Nat) : Int)) rfl rfl rfl rfl ?_
  refine OA.p (some 15) (.int .i64 (((i + 1) : Nat) : Int)) rfl rfl rfl rfl ?_
  have hc3 : ¬ (((i : Nat) : Int) = (((i + 1) : Nat) : Int)) := fun hdd => by exfalso; omega
  refine OA.p (some 16) (.bool false) rfl rfl rfl (Eq.trans (r_bin rfl rfl rfl (b_eql rfl)) (dF hc3)) ?_
  refine OA.nil ?_
  intro _
  refine RA.condF rfl ?_
  refine RA.skip env_ok ?_
  intro _
  refine RA.seq hd ?_
  refine RA.region env_ok ?_
  refine OA.p (some 18) (.slice (some ⟨j, 0, none⟩) N 0) rfl rfl rfl rfl ?_
  refine OA.p (some 19) (.int .i64 ((N : Nat) : Int)) rfl rfl rfl rfl ?_
  refine OA.p (some 7) (.int .i64 ((N : Nat) : Int)) rfl rfl rfl rfl ?_
  refine OA.nil ?_
  intro _
  refine RA.seq hd ?_
  refine RA.par (md := [some [], some [], some [j], some [], some [], some [j], none, some []]) env_ok (hd.up (by omega)) (by kernel_rfl) ?_
  refine PQ.pure (dst := (some 20)) (v := (.slice (some ⟨j, 0, none⟩) N 0)) rfl rfl rfl noStore (none_ok _ _) rfl ?_
  refine PQ.pure (dst := (some 21)) (v := (.int .i64 ((i : Nat) : Int))) rfl rfl rfl noStore (none_ok _ _) rfl ?_
  refine PQ.pure (dst := (some 22)) (v := (.slice (some ⟨j, 0, none⟩) i 0)) rfl rfl rfl (app [(j, some (oGap l))] noStore) (seen_one (V := []) (D := []) (by kernel_rfl) hj) (r_cutG (a := 0) (b := i) rfl rfl (fun _ => rfl) (fun _ => rfl) rfl rfl rfl rfl (bound_int (by omega)) get_here rfl (by omega) (by rw [List.length_map, hl]; omega) (by omega) (by omega)) ?_
  refine PQ.pure (dst := (some 23)) (v := (.slice (some ⟨j, 0, none⟩) N 0)) rfl rfl rfl noStore (none_ok _ _) rfl ?_
  refine PQ.pure (dst := (some 24)) (v := (.int .i64 (((i + 1) : Nat) : Int))) rfl rfl rfl noStore (none_ok _ _) rfl ?_
  refine PQ.pure (dst := (some 25)) (v := (.slice (some ⟨j, (i + 1), none⟩) (N - (i + 1)) 0)) rfl rfl rfl (app [(j, some (oGap l))] noStore) (seen_one (V := []) (D := []) (by kernel_rfl) hj) (r_cutG (a := (i + 1)) (b := N) rfl rfl (fun _ => rfl) (fun _ => rfl) rfl rfl rfl (bound_int (by omega)) rfl get_here rfl (by omega) (by rw [List.length_map, hl]; omega) (by omega) (by omega)) ?_
  refine PQ.op (dst := (some 26)) (v := (.slice (some ⟨j, 0, none⟩) (N - 1) 0)) (n1 := (n + 1)) (d1 := [(j, some (oGap (l.take i ++ (l.drop (i + 1)).take (N - (i + 1)) ++ l.drop (i + (N - (i + 1))))))]) rfl rfl rfl _ (seen_any (V := []) (D := []) (by kernel_rfl)) (r_appendIn (c := cGap) (l' := (l.take i ++ (l.drop (i + 1)).take (N - (i + 1)) ++ l.drop (i + (N - (i + 1))))) rfl rfl rfl rfl rfl rfl rfl rfl rfl rfl (by decide) hj (by omega) (by rw [hl]; omega) (by rw [hl]; omega) rfl (by omega) (of_decide_eq_true (by kernel_rfl)) (by omega)) (by omega) (kp1 (wr_tight (by kernel_rfl) (by omega))) ?_
  refine PQ.pure (dst := (some 0)) (v := (.slice (some ⟨j, 0, none⟩) (N - 1) 0)) rfl rfl rfl noStore (none_ok _ _) rfl ?_
  refine PQ.done (d := [(j, some (oGap (l.take i ++ (l.drop (i + 1)).take (N - (i + 1)) ++ l.drop (i + (N - (i + 1))))))]) (by kernel_rfl) ?_
  intro _
  refine RA.seq hd ?_
  refine RA.region env_ok ?_
  refine OA.p (some 27) (.slice (some ⟨j, 0, none⟩) (N - 1) 0) rfl rfl rfl rfl ?_
  refine OA.p (some 28) (.slice (some ⟨j, 0, none⟩) (N - 1) 0) rfl rfl rfl rfl ?_
  refine OA.p (some 29) (.int .i64 (((N - 1) : Nat) : Int)) rfl rfl rfl rfl ?_
  refine OA.p (some 30) (.int .i64 ((N : Nat) : Int)) rfl rfl rfl rfl ?_
  refine OA.p (some 31) (.slice (some ⟨j, (N - 1), none⟩) 1 0) rfl rfl rfl (r_cutG (a := (N - 1)) (b := N) rfl rfl (fun _ => rfl) (fun _ => rfl) rfl rfl rfl (bound_int (by omega)) (bound_int (by omega)) get_here rfl (by omega) (by rw [List.length_map, show (l.take i ++ (l.drop (i + 1)).take (N - (i + 1)) ++ l.drop (i + (N - (i + 1)))).length = N from by simp only [List.length_append, List.length_take, List.length_drop, hl]; omega]; omega) (by omega) (by omega)) ?_
  refine OA.op1 (dst := none) (v := (.tuple #[])) (n1 := (n + 1)) (w := (j, some (oGap ((l.take i ++ (l.drop (i + 1)).take (N - (i + 1)) ++ l.drop (i + (N - (i + 1)))).take (N - 1) ++ List.replicate 1 dGap ++ (l.take i ++ (l.drop (i + 1)).take (N - (i + 1)) ++ l.drop (i + (N - (i + 1)))).drop ((N - 1) + 1))))) rfl rfl rfl (r_clearR (c := cGap) (z := dGap) (l' := ((l.take i ++ (l.drop (i + 1)).take (N - (i + 1)) ++ l.drop (i + (N - (i + 1)))).take (N - 1) ++ List.replicate 1 dGap ++ (l.take i ++ (l.drop (i + 1)).take (N - (i + 1)) ++ l.drop (i + (N - (i + 1)))).drop ((N - 1) + 1))) rfl rfl rfl rfl rfl rfl rfl rfl rfl get_here (by omega) (by have hlo := (show (l.take i ++ (l.drop (i + 1)).take (N - (i + 1)) ++ l.drop (i + (N - (i + 1)))).length = N from by simp only [List.length_append, List.length_take, List.length_drop, hl]; omega); omega) rfl) (by omega) ?_
  refine OA.nil ?_
  intro _
  refine RA.rebase [(0, (.slice (some ⟨j, 0, none⟩) (N - 1) 0)), (1, (.int .i64 ((i : Nat) : Int))), (2, (.int .i64 (((i + 1) : Nat) : Int))), (6, (.slice none 0 0)), (7, (.int .i64 ((N : Nat) : Int))), (16, (.bool false))] ⟨rfl, rfl, rfl, rfl, rfl, rfl, trivial⟩ (fun τr2 => ?_)
  refine RA.seq hd ?_
  refine RA.region env_ok ?_
  refine OA.p (some 32) (.slice (some ⟨j, 0, none⟩) (N - 1) 0) rfl rfl rfl rfl ?_
  refine OA.p (some 6) (.slice (some ⟨j, 0, none⟩) (N - 1) 0) rfl rfl rfl rfl ?_
  refine OA.nil ?_
  intro _
  refine RA.ret env_ok ?_
  refine ⟨.inr rfl, [(.slice (some ⟨j, 0, none⟩) (N - 1) 0)], (resL_cons rfl resL_nil), [(j, some (oGap ((l.take i ++ (l.drop (i + 1)).take (N - (i + 1)) ++ l.drop (i + (N - (i + 1)))).take (N - 1) ++ List.replicate 1 dGap ++ (l.take i ++ (l.drop (i + 1)).take (N - (i + 1)) ++ l.drop (i + (N - (i + 1)))).drop ((N - 1) + 1))))], (Less.of (fac (mm (fun _ => get_here) (fun _ => get_here)) fan) (gone_of (by simp only [goneP, memP, List.cons_append, List.nil_append, true_or, or_true, true_and, and_true, or_false] <;> omega))), ⟨((l.take i ++ (l.drop (i + 1)).take (N - (i + 1)) ++ l.drop (i + (N - (i + 1)))).take (N - 1) ++ List.replicate 1 dGap ++ (l.take i ++ (l.drop (i + 1)).take (N - (i + 1)) ++ l.drop (i + (N - (i + 1)))).drop ((N - 1) + 1)), congrArg (fun z => Value.slice (some ⟨j, 0, none⟩) z 0) (by omega), del_mid hl (by omega) rfl rfl, rfl⟩⟩
theorem gDel_ {n : Nat} {σ : Store} (hd : Dom n σ) (j N i : Nat) (l : List Gap) (hl : l.length = N) (hi : i < N) (hN : N ≤ 1000000) (hj : σ j = some (oGap l)) : CQ Try.prog noDen 100 [(.slice (some ⟨j, 0, none⟩) N 0), (.int .i64 ((i : Nat) : Int)), (.int .i64 (((i + 1) : Nat) : Int))] n σ (fun v n' d => v = .slice (some ⟨j, 0, none⟩) (N - 1) 0 ∧ d = [(j, some (oGap (l.eraseIdx i)))]) := by
  refine CQ.less (CQ.shr (gDel_0 hd j N i l hl hi hN hj) (R := fun v n' d => v = .slice (some ⟨j, 0, none⟩) (N - 1) 0 ∧ ∃ o, d = [(j, some (oGap (l.eraseIdx i))), (j, some o)]) ?_) ?_
  · rintro v n' d ⟨LL, rfl, h2, rfl⟩
    refine ⟨j, _, N - 1, get_here, rfl, (oGap LL), ?_⟩
    simp only [shr, ← List.map_take, h2]
  · rintro v n' d ⟨rfl, o, rfl⟩
    exact ⟨_, Less.of (fac (mm (fun _ => get_here) (fun _ => get_here)) fan) (gone_of (by simp only [goneP, memP, true_or, or_true, true_and, and_true])), rfl, rfl⟩
theorem gDel {n : Nat} {σ : Store} (hd : Dom n σ) (j N i : Nat) (l : List Gap) (hl : l.length = N) (hi : i < N) (hN : N ≤ 1000000) (hj : σ j = some (oGap l)) : CQ Try.prog noDen 100 [(.slice (some ⟨j, 0, none⟩) N 2), (.int .i64 ((i : Nat) : Int)), (.int .i64 (((i + 1) : Nat) : Int))] n σ (fun v n' d => v = .slice (some ⟨j, 0, none⟩) (N - 1) 2 ∧ d = [(j, some (oGap (l.eraseIdx i)))]) := by
  refine CQ.val (CQ.less_args (VLes.cons (vle_has (by omega)) (VLes.refl _)) (gDel_ hd j N i l hl hi hN hj)) ?_
  rintro v n' d ⟨rfl, rfl⟩
  exact ⟨_, vle_row _ _ _, rfl, rfl⟩

theorem gClo_r {n : Nat} {σ : Store} (hd : Dom n σ) (j N M : Nat) (l : List Gap) (hl : l.length = N) (hM : M ≤ N) (hN : N ≤ 1000000) (hj : σ j = some (oGap l))  : CQ Try.prog noDen 80 [(.slice (some ⟨j, 0, none⟩) M 0)] n σ (fun v n' d => ∃ i, n ≤ i ∧ i < n' ∧ v = .slice (some ⟨i, 0, none⟩) M 0 ∧ d = [(i, some (oGap (l.take M)))]) := by
 have lhj := hd.lt hj
 refine CQ.body (E := env) env_ok hd rfl rfl (by show _ ≤ _; exact of_decide_eq_true (by kernel_rfl)) ?_
 refine RA.seq hd ?_
 refine RA.region env_ok ?_
 refine OA.p (some 2) (.slice none 0 0) rfl rfl rfl rfl ?_
 refine OA.nil ?_
 intro _
 refine RA.seq hd ?_
 refine RA.seq hd ?_
 refine RA.region env_ok ?_
 refine OA.p (some 3) (.slice (some ⟨j, 0, none⟩) M 0) rfl rfl rfl rfl ?_
 refine OA.p (some 4) (.bool false) rfl rfl rfl rfl ?_
 refine OA.nil ?_
 intro _
 refine RA.condF rfl ?_
 refine RA.skip env_ok ?_
 intro _
 refine RA.seq hd ?_
 refine RA.region env_ok ?_
 refine OA.op1 (dst := (some 5)) (v := (.slice (some ⟨n, 0, none⟩) 0 0)) (n1 := (n + 1)) (w := (n, some (oGap ([] : List Gap)))) rfl rfl rfl (by kernel_rfl) (by omega) ?_
 refine OA.p (some 6) (.slice (some ⟨j, 0, none⟩) M 0) rfl rfl rfl rfl ?_
 by_cases hc1 : M = 0
 ·
  refine OA.p (some 7) (.slice (some ⟨n, 0, none⟩) 0 0) rfl rfl rfl (r_appendZ rfl rfl rfl rfl (.inl ⟨_, _, _, rfl, by decide⟩) rfl rfl rfl rfl rfl (by decide) (by omega)) ?_
  refine OA.p (some 2) (.slice (some ⟨n, 0, none⟩) 0 0) rfl rfl rfl rfl ?_
  refine OA.nil ?_
  intro _
  refine RA.ret env_ok ?_
  refine ⟨.inr rfl, [(.slice (some ⟨n, 0, none⟩) 0 0)], (resL_cons rfl resL_nil), [(n, some (oGap ([] : List Gap)))], (Less.refl _ _ _), ⟨n, by omega, by omega, by rw [show M = 0 from by omega]; rfl, by rw [show M = 0 from by omega, List.take_zero]⟩⟩
 ·
  refine OA.op (dst := (some 7)) (v := (.slice (some ⟨(n + 1), 0, none⟩) M 0)) (n1 := (n + 2)) (d1 := [((n + 1), some (oGap (l.take M))), (n, none)]) (D' := [((n + 1), some (oGap (l.take M))), (n, none), (n, some (oGap ([] : List Gap)))]) rfl rfl rfl (r_appendL (c := cGap) (l' := (l.take M)) rfl rfl rfl rfl rfl rfl rfl rfl rfl rfl (by decide) get_here (get_there (by omega) hj) (by rw [show ([] : List Gap).length = 0 from rfl]) (by omega) (by rw [hl]; omega) (by rw [List.nil_append, List.drop_zero]) (by omega) (of_decide_eq_true (by kernel_rfl)) (by omega)) (by omega) rfl ?_
  refine OA.p (some 2) (.slice (some ⟨(n + 1), 0, none⟩) M 0) rfl rfl rfl rfl ?_
  refine OA.nil ?_
  intro _
  refine RA.ret env_ok ?_
  refine ⟨.inr rfl, [(.slice (some ⟨(n + 1), 0, none⟩) M 0)], (resL_cons rfl resL_nil), [((n + 1), some (oGap (l.take M)))], (Less.of (fac (mm (fun _ => get_here) (fun _ => get_here)) fan) (gone_of (by simp only [goneP, memP, List.cons_append, List.nil_append, true_or, or_true, true_and, and_true, or_false] <;> omega))), ⟨(n + 1), by omega, by omega, rfl, rfl⟩⟩
theorem gClo_n {n : Nat} {σ : Store} (hd : Dom n σ)    : CQ Try.prog noDen 80 [(.slice none 0 0)] n σ (fun v n' d => v = .slice none 0 0 ∧ n' = n ∧ d = []) := by
 refine CQ.body (E := env) env_ok hd rfl rfl (by show _ ≤ _; exact of_decide_eq_true (by kernel_rfl)) ?_
 refine RA.seq hd ?_
 refine RA.region env_ok ?_
 refine OA.p (some 2) (.slice none 0 0) rfl rfl rfl rfl ?_
 refine OA.nil ?_
 intro _
 refine RA.seq hd ?_
 refine RA.seq hd ?_
 refine RA.region env_ok ?_
 refine OA.p (some 3) (.slice none 0 0) rfl rfl rfl rfl ?_
 refine OA.p (some 4) (.bool true) rfl rfl rfl rfl ?_
 refine OA.nil ?_
 intro _
 refine RA.condT rfl ?_
 refine RA.seq hd ?_
 refine RA.region env_ok ?_
 refine OA.p (some 2) (.slice none 0 0) rfl rfl rfl rfl ?_
 refine OA.nil ?_
 intro _
 refine RA.ret env_ok ?_
 refine ⟨.inr rfl, [(.slice none 0 0)], (resL_cons rfl resL_nil), [], (Less.refl _ _ _), ⟨rfl, rfl, rfl⟩⟩
theorem gClo {n : Nat} {σ : Store} (hd : Dom n σ) (j N M : Nat) (l : List Gap) (hl : l.length = N) (hM : M ≤ N) (hN : N ≤ 1000000) (hj : σ j = some (oGap l)) : CQ Try.prog noDen 80 [(.slice (some ⟨j, 0, none⟩) M 2)] n σ (fun v n' d => ∃ i, n ≤ i ∧ i < n' ∧ v = .slice (some ⟨i, 0, none⟩) M 2 ∧ d = [(i, some (oGap (l.take M)))]) :=
  CQ.orNil (gClo_r hd j N M l hl hM hN hj) (fun h => by rw [h, List.take_zero]) (by decide) (gClo_n hd)

theorem gLess {σ : Store} (a b : BitVec 32)   : PS Try.prog noDen 62 [(W a), (W b)] σ (.bool (decide (lessW a b))) := by
 refine PS.body (E := env) env_ok rfl rfl (by show _ ≤ _; exact of_decide_eq_true (by kernel_rfl)) (fun n hd => ?_)
 refine RA.seq hd ?_
 refine RA.region env_ok ?_
 refine OA.p (some 4) (.bool false) rfl rfl rfl rfl ?_
 refine OA.nil ?_
 intro _
 refine RA.seq hd ?_
 refine RA.region env_ok ?_
 refine OA.p (some 5) (W a) rfl rfl rfl rfl ?_
 refine OA.p (some 6) (W b) rfl rfl rfl rfl ?_
 by_cases hc1 : (a.toNat : Int) ≠ (b.toNat : Int)
 ·
  refine OA.p (some 7) (.bool true) rfl rfl rfl (Eq.trans (r_bin rfl rfl rfl (b_neq rfl)) (dT hc1)) ?_
  refine OA.p (some 8) (.bool true) rfl rfl rfl rfl ?_
  refine OA.p (some 9) (W b) rfl rfl rfl rfl ?_
  refine OA.p (some 10) (W a) rfl rfl rfl rfl ?_
  refine OA.p (some 11) (W (b - a)) rfl rfl rfl (r_bin rfl rfl rfl (b_subW b a)) ?_
  refine OA.p (some 12) (.bool (decide (((b - a).toNat : Int) < 2147483648))) rfl rfl rfl (r_bin rfl rfl rfl (b_lss rfl)) ?_
  refine OA.p (some 13) (.bool (decide (((b - a).toNat : Int) < 2147483648))) rfl rfl rfl rfl ?_
  refine OA.p (some 4) (.bool (decide (((b - a).toNat : Int) < 2147483648))) rfl rfl rfl rfl ?_
  refine OA.nil ?_
  intro _
  refine RA.ret env_ok ?_
  refine ⟨.inr rfl, [(.bool (decide (((b - a).toNat : Int) < 2147483648)))], (resL_cons rfl resL_nil), (congrArg Value.bool (decide_eq_decide.2 ⟨fun hh => (⟨hc1, hh⟩ : lessW a b), fun hh : lessW a b => hh.2⟩)), (fun i hi => by cases hi)⟩
 ·
  refine OA.p (some 7) (.bool false) rfl rfl rfl (Eq.trans (r_bin rfl rfl rfl (b_neq rfl)) (dF hc1)) ?_
  refine OA.p (some 8) (.bool false) rfl rfl rfl rfl ?_
  refine OA.off (dst := (some 9)) rfl rfl rfl ?_
  refine OA.off (dst := (some 10)) rfl rfl rfl ?_
  refine OA.off (dst := (some 11)) rfl rfl rfl ?_
  refine OA.off (dst := (some 12)) rfl rfl rfl ?_
  refine OA.p (some 13) (.bool false) rfl rfl rfl rfl ?_
  refine OA.p (some 4) (.bool false) rfl rfl rfl rfl ?_
  refine OA.nil ?_
  intro _
  refine RA.ret env_ok ?_
  refine ⟨.inr rfl, [(.bool false)], (resL_cons rfl resL_nil), (congrArg Value.bool (decide_eq_false (fun hh : lessW a b => hc1 (hh.1))).symm), (fun i hi => by cases hi)⟩

theorem gDiff {σ : Store} (a b : BitVec 32)   : PS Try.prog noDen 63 [(W a), (W b)] σ (.int .i64 (diffW a b)) := by
 refine PS.body (E := env) env_ok rfl rfl (by show _ ≤ _; exact of_decide_eq_true (by kernel_rfl)) (fun n hd => ?_)
 refine RA.seq hd ?_
 refine RA.region env_ok ?_
 refine OA.p (some 4) (.int .i64 0) rfl rfl rfl rfl ?_
 refine OA.nil ?_
 intro _
 refine RA.seq hd ?_
 refine RA.seq hd ?_
 refine RA.region env_ok ?_
 refine OA.p (some 5) (W a) rfl rfl rfl rfl ?_
 refine OA.p (some 6) (W b) rfl rfl rfl rfl ?_
 by_cases hc1 : lessW a b
 ·
  have hb1 := (b - a).isLt; have hb2 := (a - b).isLt
  refine OA.callP (dst := (some 7)) (all := [(W a), (W b)]) (v := (.bool true)) (hd.up (by omega)) rfl rfl rfl rfl rfl rfl rfl rfl (PS.to (gLess a b) (show (.bool (decide (lessW a b))) = ((.bool true) : Value) from (by first | (rw [decide_eq_true hc1]; done) | (rw [decide_eq_true hc1]; rfl)))) ?_
  intro n1 hn1
  refine OA.nil ?_
  intro _
  refine RA.condT rfl ?_
  refine RA.seq hd ?_
  refine RA.region env_ok ?_
  refine OA.p (some 8) (W b) rfl rfl rfl rfl ?_
  refine OA.p (some 9) (W a) rfl rfl rfl rfl ?_
  refine OA.p (some 10) (W (b - a)) rfl rfl rfl (r_bin rfl rfl rfl (b_subW b a)) ?_
  refine OA.p (some 11) (.int .i64 (((b - a).toNat : Nat) : Int)) rfl rfl rfl (r_cvt rfl rfl rfl rfl rfl ⟨_, rfl⟩ (i64_eq (by have := ((b - a)).isLt; omega))) ?_
  refine OA.p (some 12) (.int .i64 (-(((b - a).toNat : Nat) : Int))) rfl rfl rfl (r_neg rfl rfl (i64_eq (by omega))) ?_
  refine OA.p (some 4) (.int .i64 (-(((b - a).toNat : Nat) : Int))) rfl rfl rfl rfl ?_
  refine OA.nil ?_
  intro _
  refine RA.ret env_ok ?_
  refine ⟨.inr rfl, [(.int .i64 (-(((b - a).toNat : Nat) : Int)))], (resL_cons rfl resL_nil), (congrArg (Value.int .i64) (if_pos hc1).symm), (fun i hi => by cases hi)⟩
 ·
  have hb1 := (b - a).isLt; have hb2 := (a - b).isLt
  refine OA.callP (dst := (some 7)) (all := [(W a), (W b)]) (v := (.bool false)) (hd.up (by omega)) rfl rfl rfl rfl rfl rfl rfl rfl (PS.to (gLess a b) (show (.bool (decide (lessW a b))) = ((.bool false) : Value) from (by first | (rw [decide_eq_false hc1]; done) | (rw [decide_eq_false hc1]; rfl)))) ?_
  intro n2 hn2
  refine OA.nil ?_
  intro _
  refine RA.condF rfl ?_
  refine RA.skip env_ok ?_
  intro _
  refine RA.seq hd ?_
  refine RA.region env_ok ?_
  refine OA.p (some 13) (W a) rfl rfl rfl rfl ?_
  refine OA.p (some 14) (W b) rfl rfl rfl rfl ?_
  refine OA.p (some 15) (W (a - b)) rfl rfl rfl (r_bin rfl rfl rfl (b_subW a b)) ?_
  refine OA.p (some 16) (.int .i64 (((a - b).toNat : Nat) : Int)) rfl rfl rfl (r_cvt rfl rfl rfl rfl rfl ⟨_, rfl⟩ (i64_eq (by have := ((a - b)).isLt; omega))) ?_
  refine OA.p (some 4) (.int .i64 (((a - b).toNat : Nat) : Int)) rfl rfl rfl rfl ?_
  refine OA.nil ?_
  intro _
  refine RA.ret env_ok ?_
  refine ⟨.inr rfl, [(.int .i64 (((a - b).toNat : Nat) : Int))], (resL_cons rfl resL_nil), (congrArg (Value.int .i64) (if_neg hc1).symm), (fun i hi => by cases hi)⟩

theorem gHasC {σ : Store} (x : Gap) (b : Nat) (far : Int) (hb : σ b = some ⟨[[(.int .i64 far)]], 1, 3, true⟩)  : PS Try.prog noDen 101 [(.agg ⟨(cGap x)⟩), (Pt b 0 0)] σ (.bool (inGb far x)) := by
 refine PS.body (E := env) env_ok rfl rfl (by show _ ≤ _; exact of_decide_eq_true (by kernel_rfl)) (fun n hd => ?_)
 have lhb := hd.lt hb
 refine RA.seq hd ?_
 refine RA.region env_ok ?_
 refine OA.op1 (dst := (some 2)) (v := (Pt n 0 0)) (n1 := (n + 1)) (w := (n, some ⟨[(cGap x)], 2, 60, true⟩)) rfl rfl rfl rfl (by omega) ?_
 refine OA.p (some 3) (.bool false) rfl rfl rfl rfl ?_
 refine OA.nil ?_
 intro _
 refine RA.seq hd ?_
 refine RA.region env_ok ?_
 refine OA.p (some 4) (Pt n 0 0) rfl rfl rfl rfl ?_
 refine OA.p (some 5) (.int .i64 x.fr) rfl rfl rfl (r_load1 rfl rfl rfl rfl rfl get_here rfl rfl) ?_
 refine OA.p (some 6) (.int .i64 far) rfl rfl rfl (r_load1 rfl rfl rfl rfl rfl (get_there (by omega) hb) rfl rfl) ?_
 by_cases hc1 : x.fr ≤ far
 ·
  refine OA.p (some 7) (.bool true) rfl rfl rfl (Eq.trans (r_bin rfl rfl rfl (b_leq rfl)) (dT hc1)) ?_
  refine OA.p (some 8) (.bool true) rfl rfl rfl rfl ?_
  refine OA.p (some 9) (.int .i64 far) rfl rfl rfl (r_load1 rfl rfl rfl rfl rfl (get_there (by omega) hb) rfl rfl) ?_
  refine OA.p (some 10) (Pt n 0 1) rfl rfl rfl rfl ?_
  refine OA.p (some 11) (.int .i64 x.to) rfl rfl rfl (r_load1 rfl rfl rfl rfl rfl get_here rfl rfl) ?_
  refine OA.p (some 12) (.bool (decide (far ≤ x.to))) rfl rfl rfl (r_bin rfl rfl rfl (b_leq rfl)) ?_
  refine OA.p (some 13) (.bool (decide (far ≤ x.to))) rfl rfl rfl rfl ?_
  refine OA.p (some 3) (.bool (decide (far ≤ x.to))) rfl rfl rfl rfl ?_
  refine OA.nil ?_
  intro _
  refine RA.ret env_ok ?_
  refine ⟨.inr rfl, [(.bool (decide (far ≤ x.to)))], (resL_cons rfl resL_nil), (congrArg Value.bool (decide_eq_decide.2 ⟨fun hh => (⟨hc1, hh⟩ : inG far x), fun hh : inG far x => hh.2⟩)), (kc1 (by omega))⟩
 ·
  refine OA.p (some 7) (.bool false) rfl rfl rfl (Eq.trans (r_bin rfl rfl rfl (b_leq rfl)) (dF hc1)) ?_
  refine OA.p (some 8) (.bool false) rfl rfl rfl rfl ?_
  refine OA.off (dst := (some 9)) rfl rfl rfl ?_
  refine OA.off (dst := (some 10)) rfl rfl rfl ?_
  refine OA.off (dst := (some 11)) rfl rfl rfl ?_
  refine OA.off (dst := (some 12)) rfl rfl rfl ?_
  refine OA.p (some 13) (.bool false) rfl rfl rfl rfl ?_
  refine OA.p (some 3) (.bool false) rfl rfl rfl rfl ?_
  refine OA.nil ?_
  intro _
  refine RA.ret env_ok ?_
  refine ⟨.inr rfl, [(.bool false)], (resL_cons rfl resL_nil), (congrArg Value.bool (decide_eq_false (fun hh : inG far x => hc1 (hh.1))).symm), (kc1 (by omega))⟩

theorem gPutC {σ : Store} (x : Gap) (b : Nat) (far : Int) (hb : σ b = some ⟨[[(.int .i64 far)]], 1, 3, true⟩)  : PS Try.prog noDen 98 [(.agg ⟨(cGap x)⟩), (Pt b 0 0)] σ (.bool (gtb far x)) := by
 refine PS.body (E := env) env_ok rfl rfl (by show _ ≤ _; exact of_decide_eq_true (by kernel_rfl)) (fun n hd => ?_)
 have lhb := hd.lt hb
 refine RA.seq hd ?_
 refine RA.region env_ok ?_
 refine OA.op1 (dst := (some 2)) (v := (Pt n 0 0)) (n1 := (n + 1)) (w := (n, some ⟨[(cGap x)], 2, 60, true⟩)) rfl rfl rfl rfl (by omega) ?_
 refine OA.p (some 3) (.bool false) rfl rfl rfl rfl ?_
 refine OA.nil ?_
 intro _
 refine RA.seq hd ?_
 refine RA.region env_ok ?_
 refine OA.p (some 4) (Pt n 0 0) rfl rfl rfl rfl ?_
 refine OA.p (some 5) (.int .i64 x.fr) rfl rfl rfl (r_load1 rfl rfl rfl rfl rfl get_here rfl rfl) ?_
 refine OA.p (some 6) (.int .i64 far) rfl rfl rfl (r_load1 rfl rfl rfl rfl rfl (get_there (by omega) hb) rfl rfl) ?_
 refine OA.p (some 7) (.bool (decide (far < x.fr))) rfl rfl rfl (r_bin rfl rfl rfl (b_gtr rfl)) ?_
 refine OA.p (some 3) (.bool (decide (far < x.fr))) rfl rfl rfl rfl ?_
 refine OA.nil ?_
 intro _
 refine RA.ret env_ok ?_
 refine ⟨.inr rfl, [(.bool (decide (far < x.fr)))], (resL_cons rfl resL_nil), rfl, (kc1 (by omega))⟩

theorem gIdxH {σ : Store} (j N : Nat) (l : List Gap) (hl : l.length = N) (hN : N ≤ 1000000) (p : Gap → Bool) (b : Nat) (hj : σ j = some (oGap l)) (hf : ∀ x ∈ l, PS Try.prog noDen 101 [.agg ⟨cGap x⟩, (Pt b 0 0)] σ (.bool (p x))) : PS Try.prog noDen 97 [(.slice (some ⟨j, 0, none⟩) N 2), (.func (.func 101) ⟨[]⟩ ⟨[(Pt b 0 0)]⟩)] σ (.int .i64 (idxZ p l)) := by
 refine PS.body (E := env) env_ok rfl rfl (by show _ ≤ _; exact of_decide_eq_true (by kernel_rfl)) (fun n hd => ?_)
 have lhj := hd.lt hj
 refine RA.seq hd ?_
 refine RA.region env_ok ?_
 refine OA.p (some 4) (.int .i64 0) rfl rfl rfl rfl ?_
 refine OA.nil ?_
 intro _
 refine RA.seq hd ?_
 refine RA.seq hd ?_
 refine RA.region env_ok ?_
 refine OA.p (some 6) (.slice (some ⟨j, 0, none⟩) N 2) rfl rfl rfl rfl ?_
 refine OA.p (some 7) (.int .i64 ((N : Nat) : Int)) rfl rfl rfl rfl ?_
 refine OA.p (some 8) (.int .i64 0) rfl rfl rfl rfl ?_
 refine OA.nil ?_
 intro _
 refine RA.block ?_
 refine RA.loop hd (fun kk_ τ n' D => ∃ i : Nat,  kk_ = (N - i) ∧ n ≤ n' ∧ Has τ [(0, (.slice (some ⟨j, 0, none⟩) N 2)), (1, (.func (.func 101) ⟨[]⟩ ⟨[(Pt b 0 0)]⟩)), (7, (.int .i64 ((N : Nat) : Int))), (8, (.int .i64 ((i : Nat) : Int)))] ∧ D = [] ∧ (∀ i ∈ keys D, i < n') ∧ i ≤ N ∧ i ≤ l.findIdx p) ((N - 0)) ⟨0, rfl, by omega, ⟨rfl, rfl, rfl, rfl, trivial⟩, rfl, (fun i hi => by cases hi), ⟨by omega, by omega⟩⟩ ?_
 rintro kn1 τ1 n1 _ ⟨i, rfl, hn1, hHn1, rfl, hKn1, hIn1⟩
 rw [Has.eq hHn1]
 simp only [keys, List.map, List.forall_mem_cons, List.mem_cons, List.not_mem_nil, false_imp_iff, implies_true, and_true] at hKn1
 obtain ⟨hi1, hi2⟩ := hIn1
 refine RA.seq hd ?_
 refine RA.region env_ok ?_
 by_cases hc1 : ((i : Nat) : Int) < ((N : Nat) : Int)
 ·
  refine OA.p (some 9) (.bool true) rfl rfl rfl (Eq.trans (r_bin rfl rfl rfl (b_lss rfl)) (dT hc1)) ?_
  refine OA.nil ?_
  intro _
  refine RA.seq hd ?_
  refine RA.condT rfl ?_
  refine RA.skip env_ok ?_
  intro _
  refine RA.seq hd ?_
  refine RA.block ?_
  refine RA.seq hd ?_
  refine RA.region env_ok ?_
  refine OA.p (some 10) (.int .i64 ((i : Nat) : Int)) rfl rfl rfl rfl ?_
  refine OA.p (some 5) (.int .i64 ((i : Nat) : Int)) rfl rfl rfl rfl ?_
  refine OA.nil ?_
  intro _
  refine RA.seq hd ?_
  refine RA.region env_ok ?_
  refine OA.p (some 11) (.func (.func 101) ⟨[]⟩ ⟨[(Pt b 0 0)]⟩) rfl rfl rfl rfl ?_
  refine OA.p (some 12) (.slice (some ⟨j, 0, none⟩) N 2) rfl rfl rfl rfl ?_
  refine OA.p (some 13) (.int .i64 ((i : Nat) : Int)) rfl rfl rfl rfl ?_
  refine OA.p (some 14) (Pt j i 0) rfl rfl rfl (r_iaS (l := i) rfl rfl rfl rfl rfl rfl (by omega) (by omega) hj rfl (by omega)) ?_
  refine OA.p (some 15) (.agg ⟨(cGap (l.getD i dGap))⟩) rfl rfl rfl (r_loadR (c := cGap) dGap rfl rfl rfl rfl hj (by rw [hl]; omega) rfl) ?_
  by_cases hc2 : (p (l.getD i dGap)) = true
  ·
   have hfi := fi_found (d := dGap) (by omega) hc2 (by omega)
   refine OA.callP (dst := (some 16)) (all := [(.agg ⟨(cGap (l.getD i dGap))⟩), (Pt b 0 0)]) (v := (.bool true)) (hd.up (by omega)) rfl rfl rfl rfl rfl rfl rfl rfl (PS.to (hf (l.getD i dGap) (getD_mem (by omega))) (show (.bool (p (l.getD i dGap))) = ((.bool true) : Value) from (by first | (rw [hc2]; done) | (rw [hc2]; rfl)))) ?_
   intro n2 hn2
   refine OA.nil ?_
   intro _
   refine RA.condT rfl ?_
   refine RA.seq hd ?_
   refine RA.region env_ok ?_
   refine OA.p (some 17) (.int .i64 ((i : Nat) : Int)) rfl rfl rfl rfl ?_
   refine OA.p (some 4) (.int .i64 ((i : Nat) : Int)) rfl rfl rfl rfl ?_
   refine OA.nil ?_
   intro _
   refine RA.ret env_ok ?_
   refine ⟨.inr rfl, [(.int .i64 ((i : Nat) : Int))], (resL_cons rfl resL_nil), (by show Value.int _ _ = Value.int _ _; unfold idxZ; rw [if_pos (by omega), hfi]), (fun i hi => by cases hi)⟩
  ·
   have hfi := fi_step (d := dGap) (by omega) hc2 (by omega)
   refine OA.callP (dst := (some 16)) (all := [(.agg ⟨(cGap (l.getD i dGap))⟩), (Pt b 0 0)]) (v := (.bool false)) (hd.up (by omega)) rfl rfl rfl rfl rfl rfl rfl rfl (PS.to (hf (l.getD i dGap) (getD_mem (by omega))) (show (.bool (p (l.getD i dGap))) = ((.bool false) : Value) from (by first | (rw [eq_false_of_ne_true hc2]; done) | (rw [eq_false_of_ne_true hc2]; rfl)))) ?_
   intro n3 hn3
   refine OA.nil ?_
   intro _
   refine RA.condF rfl ?_
   refine RA.skip env_ok ?_
   intro _
   refine RA.region env_ok ?_
   refine OA.p (some 18) (.int .i64 (((i + 1) : Nat) : Int)) rfl rfl rfl (r_bin rfl rfl rfl (b_add (i64_eq (by omega)))) ?_
   refine OA.p (some 8) (.int .i64 (((i + 1) : Nat) : Int)) rfl rfl rfl rfl ?_
   refine OA.nil ?_
   refine ⟨(N - (i + 1)), by omega, [], (Less.refl _ _ _), (i + 1), rfl, by omega, ⟨rfl, rfl, rfl, rfl, trivial⟩, rfl, (fun i hi => by cases hi), ⟨by omega, by omega⟩⟩
 ·
  refine OA.p (some 9) (.bool false) rfl rfl rfl (Eq.trans (r_bin rfl rfl rfl (b_lss rfl)) (dF hc1)) ?_
  refine OA.nil ?_
  intro _
  refine RA.seq hd ?_
  refine RA.condF rfl ?_
  refine RA.exit env_ok ?_
  intro _
  refine RA.seq hd ?_
  refine RA.region env_ok ?_
  refine OA.p (some 4) (.int .i64 (-1)) rfl rfl rfl rfl ?_
  refine OA.nil ?_
  intro _
  refine RA.ret env_ok ?_
  refine ⟨.inr rfl, [(.int .i64 (-1))], (resL_cons rfl resL_nil), (by show Value.int _ _ = Value.int _ _; unfold idxZ; rw [if_neg (by omega)]), (fun i hi => by cases hi)⟩

theorem gIdxP {σ : Store} (j N : Nat) (l : List Gap) (hl : l.length = N) (hN : N ≤ 1000000) (p : Gap → Bool) (b : Nat) (hj : σ j = some (oGap l)) (hf : ∀ x ∈ l, PS Try.prog noDen 98 [.agg ⟨cGap x⟩, (Pt b 0 0)] σ (.bool (p x))) : PS Try.prog noDen 97 [(.slice (some ⟨j, 0, none⟩) N 2), (.func (.func 98) ⟨[]⟩ ⟨[(Pt b 0 0)]⟩)] σ (.int .i64 (idxZ p l)) := by
 refine PS.body (E := env) env_ok rfl rfl (by show _ ≤ _; exact of_decide_eq_true (by kernel_rfl)) (fun n hd => ?_)
 have lhj := hd.lt hj
 refine RA.seq hd ?_
 refine RA.region env_ok ?_
 refine OA.p (some 4) (.int .i64 0) rfl rfl rfl rfl ?_
 refine OA.nil ?_
 intro _
 refine RA.seq hd ?_
 refine RA.seq hd ?_
 refine RA.region env_ok ?_
 refine OA.p (some 6) (.slice (some ⟨j, 0, none⟩) N 2) rfl rfl rfl rfl ?_
 refine OA.p (some 7) (.int .i64 ((N : Nat) : Int)) rfl rfl rfl rfl ?_
 refine OA.p (some 8) (.int .i64 0) rfl rfl rfl rfl ?_
 refine OA.nil ?_
 intro _
 refine RA.block ?_
 refine RA.loop hd (fun kk_ τ n' D => ∃ i : Nat,  kk_ = (N - i) ∧ n ≤ n' ∧ Has τ [(0, (.slice (some ⟨j, 0, none⟩) N 2)), (1, (.func (.func 98) ⟨[]⟩ ⟨[(Pt b 0 0)]⟩)), (7, (.int .i64 ((N : Nat) : Int))), (8, (.int .i64 ((i : Nat) : Int)))] ∧ D = [] ∧ (∀ i ∈ keys D, i < n') ∧ i ≤ N ∧ i ≤ l.findIdx p) ((N - 0)) ⟨0, rfl, by omega, ⟨rfl, rfl, rfl, rfl, trivial⟩, rfl, (fun i hi => by cases hi), ⟨by omega, by omega⟩⟩ ?_
 rintro kn1 τ1 n1 _ ⟨i, rfl, hn1, hHn1, rfl, hKn1, hIn1⟩
 rw [Has.eq hHn1]
 simp only [keys, List.map, List.forall_mem_cons, List.mem_cons, List.not_mem_nil, false_imp_iff, implies_true, and_true] at hKn1
 obtain ⟨hi1, hi2⟩ := hIn1
 refine RA.seq hd ?_
 refine RA.region env_ok ?_
 by_cases hc1 : ((i : Nat) : Int) < ((N : Nat) : Int)
 ·
  refine OA.p (some 9) (.bool true) rfl rfl rfl (Eq.trans (r_bin rfl rfl rfl (b_lss rfl)) (dT hc1)) ?_
  refine OA.nil ?_
  intro _
  refine RA.seq hd ?_
  refine RA.condT rfl ?_
  refine RA.skip env_ok ?_
  intro _
  refine RA.seq hd ?_
  refine RA.block ?_
  refine RA.seq hd ?_
  refine RA.region env_ok ?_
  refine OA.p (some 10) (.int .i64 ((i : Nat) : Int)) rfl rfl rfl rfl ?_
  refine OA.p (some 5) (.int .i64 ((i : Nat) : Int)) rfl rfl rfl rfl ?_
  refine OA.nil ?_
  intro _
  refine RA.seq hd ?_
  refine RA.region env_ok ?_
  refine OA.p (some 11) (.func (.func 98) ⟨[]⟩ ⟨[(Pt b 0 0)]⟩) rfl rfl rfl rfl ?_
  refine OA.p (some 12) (.slice (some ⟨j, 0, none⟩) N 2) rfl rfl rfl rfl ?_
  refine OA.p (some 13) (.int .i64 ((i : Nat) : Int)) rfl rfl rfl rfl ?_
  refine OA.p (some 14) (Pt j i 0) rfl rfl rfl (r_iaS (l := i) rfl rfl rfl rfl rfl rfl (by omega) (by omega) hj rfl (by omega)) ?_
  refine OA.p (some 15) (.agg ⟨(cGap (l.getD i dGap))⟩) rfl rfl rfl (r_loadR (c := cGap) dGap rfl rfl rfl rfl hj (by rw [hl]; omega) rfl) ?_
  by_cases hc2 : (p (l.getD i dGap)) = true
  ·
   have hfi := fi_found (d := dGap) (by omega) hc2 (by omega)
   refine OA.callP (dst := (some 16)) (all := [(.agg ⟨(cGap (l.getD i dGap))⟩), (Pt b 0 0)]) (v := (.bool true)) (hd.up (by omega)) rfl rfl rfl rfl rfl rfl rfl rfl (PS.to (hf (l.getD i dGap) (getD_mem (by omega))) (show (.bool (p (l.getD i dGap))) = ((.bool true) : Value) from (by first | (rw [hc2]; done) | (rw [hc2]; rfl)))) ?_
   intro n2 hn2
   refine OA.nil ?_
   intro _
   refine RA.condT rfl ?_
   refine RA.seq hd ?_
   refine RA.region env_ok ?_
   refine OA.p (some 17) (.int .i64 ((i : Nat) : Int)) rfl rfl rfl rfl ?_
   refine OA.p (some 4) (.int .i64 ((i : Nat) : Int)) rfl rfl rfl rfl ?_
   refine OA.nil ?_
   intro _
   refine RA.ret env_ok ?_
   refine ⟨.inr rfl, [(.int .i64 ((i : Nat) : Int))], (resL_cons rfl resL_nil), (by show Value.int _ _ = Value.int _ _; unfold idxZ; rw [if_pos (by omega), hfi]), (fun i hi => by cases hi)⟩
  ·
   have hfi := fi_step (d := dGap) (by omega) hc2 (by omega)
   refine OA.callP (dst := (some 16)) (all := [(.agg ⟨(cGap (l.getD i dGap))⟩), (Pt b 0 0)]) (v := (.bool false)) (hd.up (by omega)) rfl rfl rfl rfl rfl rfl rfl rfl (PS.to (hf (l.getD i dGap) (getD_mem (by omega))) (show (.bool (p (l.getD i dGap))) = ((.bool false) : Value) from (by first | (rw [eq_false_of_ne_true hc2]; done) | (rw [eq_false_of_ne_true hc2]; rfl)))) ?_
   intro n3 hn3
   refine OA.nil ?_
   intro _
   refine RA.condF rfl ?_
   refine RA.skip env_ok ?_
   intro _
   refine RA.region env_ok ?_
   refine OA.p (some 18) (.int .i64 (((i + 1) : Nat) : Int)) rfl rfl rfl (r_bin rfl rfl rfl (b_add (i64_eq (by omega)))) ?_
   refine OA.p (some 8) (.int .i64 (((i + 1) : Nat) : Int)) rfl rfl rfl rfl ?_
   refine OA.nil ?_
   refine ⟨(N - (i + 1)), by omega, [], (Less.refl _ _ _), (i + 1), rfl, by omega, ⟨rfl, rfl, rfl, rfl, trivial⟩, rfl, (fun i hi => by cases hi), ⟨by omega, by omega⟩⟩
 ·
  refine OA.p (some 9) (.bool false) rfl rfl rfl (Eq.trans (r_bin rfl rfl rfl (b_lss rfl)) (dF hc1)) ?_
  refine OA.nil ?_
  intro _
  refine RA.seq hd ?_
  refine RA.condF rfl ?_
  refine RA.exit env_ok ?_
  intro _
  refine RA.seq hd ?_
  refine RA.region env_ok ?_
  refine OA.p (some 4) (.int .i64 (-1)) rfl rfl rfl rfl ?_
  refine OA.nil ?_
  intro _
  refine RA.ret env_ok ?_
  refine ⟨.inr rfl, [(.int .i64 (-1))], (resL_cons rfl resL_nil), (by show Value.int _ _ = Value.int _ _; unfold idxZ; rw [if_neg (by omega)]), (fun i hi => by cases hi)⟩

theorem gCont {σ : Store} (j N : Nat) (l : List Gap) (hl : l.length = N) (hN : N ≤ 1000000) (p : Gap → Bool) (b : Nat) (hj : σ j = some (oGap l)) (hf : ∀ x ∈ l, PS Try.prog noDen 101 [.agg ⟨cGap x⟩, (Pt b 0 0)] σ (.bool (p x))) : PS Try.prog noDen 92 [(.slice (some ⟨j, 0, none⟩) N 2), (.func (.func 101) ⟨[]⟩ ⟨[(Pt b 0 0)]⟩)] σ (.bool (l.any p)) := by
 refine PS.body (E := env) env_ok rfl rfl (by show _ ≤ _; exact of_decide_eq_true (by kernel_rfl)) (fun n hd => ?_)
 have lhj := hd.lt hj
 refine RA.seq hd ?_
 refine RA.region env_ok ?_
 refine OA.p (some 4) (.bool false) rfl rfl rfl rfl ?_
 refine OA.nil ?_
 intro _
 refine RA.seq hd ?_
 refine RA.region env_ok ?_
 refine OA.p (some 5) (.slice (some ⟨j, 0, none⟩) N 2) rfl rfl rfl rfl ?_
 refine OA.p (some 6) (.func (.func 101) ⟨[]⟩ ⟨[(Pt b 0 0)]⟩) rfl rfl rfl rfl ?_
 refine OA.callP (dst := (some 7)) (all := [(.slice (some ⟨j, 0, none⟩) N 2), (.func (.func 101) ⟨[]⟩ ⟨[(Pt b 0 0)]⟩)]) (v := (.int .i64 (idxZ p l))) (hd.up (by omega)) rfl rfl rfl rfl rfl rfl rfl rfl (gIdxH j N l hl hN p b hj hf) ?_
 intro n1 hn1
 refine OA.p (some 8) (.bool (decide (0 ≤ (idxZ p l)))) rfl rfl rfl (r_bin rfl rfl rfl (b_geq rfl)) ?_
 refine OA.p (some 4) (.bool (decide (0 ≤ (idxZ p l)))) rfl rfl rfl rfl ?_
 refine OA.nil ?_
 intro _
 refine RA.ret env_ok ?_
 refine ⟨.inr rfl, [(.bool (decide (0 ≤ (idxZ p l))))], (resL_cons rfl resL_nil), (by show Value.bool _ = Value.bool _; rw [← idxZ_any]), (fun i hi => by cases hi)⟩

theorem gHas {σ : Store} (g jp jd K M : Nat) (cum : BitVec 32) (ps : List Gap) (hps : ps.length = K) (hK : K ≤ 900) (h1 : g ≠ jp) (far : Int) (hg : σ g = some ⟨[[(W cum), (.slice (some ⟨jp, 0, none⟩) K 2), (.slice (some ⟨jd, 0, none⟩) M 2)]], 3, 131, true⟩) (hjp : σ jp = some (oGap ps))  : PS Try.prog noDen 81 [(Pt g 0 0), (.int .i64 far)] σ (.bool (ps.any (inGb far))) := by
 refine PS.body (E := env) env_ok rfl rfl (by show _ ≤ _; exact of_decide_eq_true (by kernel_rfl)) (fun n hd => ?_)
 have lhg := hd.lt hg
 have lhjp := hd.lt hjp
 refine RA.seq hd ?_
 refine RA.region env_ok ?_
 refine OA.op1 (dst := (some 3)) (v := (Pt n 0 0)) (n1 := (n + 1)) (w := (n, some ⟨[[(.int .i64 far)]], 1, 3, true⟩)) rfl rfl rfl rfl (by omega) ?_
 refine OA.p (some 4) (.bool false) rfl rfl rfl rfl ?_
 refine OA.nil ?_
 intro _
 refine RA.seq hd ?_
 refine RA.region env_ok ?_
 refine OA.p (some 5) (Pt g 0 0) rfl rfl rfl rfl ?_
 refine OA.p (some 6) (Pt g 0 0) rfl rfl rfl rfl ?_
 refine OA.p (some 7) (Pt g 0 1) rfl rfl rfl rfl ?_
 refine OA.p (some 8) (.slice (some ⟨jp, 0, none⟩) K 2) rfl rfl rfl (r_load1 rfl rfl rfl rfl rfl (get_there (by omega) hg) rfl rfl) ?_
 refine OA.p (some 9) (.func (.func 101) ⟨[]⟩ ⟨[(Pt n 0 0)]⟩) rfl rfl rfl rfl ?_
 refine OA.callP (dst := (some 10)) (all := [(.slice (some ⟨jp, 0, none⟩) K 2), (.func (.func 101) ⟨[]⟩ ⟨[(Pt n 0 0)]⟩)]) (v := (.bool (ps.any (inGb far)))) (hd.of (by omega) (kb1 (by omega))) rfl rfl rfl rfl rfl rfl rfl rfl (gCont jp K ps hps (by omega) (inGb far) n (get_there (by omega) hjp) (fun x _ => gHasC x n far get_here)) ?_
 intro n1 hn1
 refine OA.p (some 4) (.bool (ps.any (inGb far))) rfl rfl rfl rfl ?_
 refine OA.nil ?_
 intro _
 refine RA.ret env_ok ?_
 refine ⟨.inr rfl, [(.bool (ps.any (inGb far)))], (resL_cons rfl resL_nil), rfl, (kc1 (by omega))⟩

theorem gLook {σ : Store} (g jp jd K M : Nat) (cum : BitVec 32) (ps : List Gap) (hps : ps.length = K) (hK : K ≤ 900) (h1 : g ≠ jp) (tsn : BitVec 32) (hg : σ g = some ⟨[[(W cum), (.slice (some ⟨jp, 0, none⟩) K 2), (.slice (some ⟨jd, 0, none⟩) M 2)]], 3, 131, true⟩) (hjp : σ jp = some (oGap ps))  : PS Try.prog noDen 41 [(Pt g 0 0), (W tsn)] σ (.int .i64 (lookZ cum ps tsn)) := by
 refine PS.body (E := env) env_ok rfl rfl (by show _ ≤ _; exact of_decide_eq_true (by kernel_rfl)) (fun n hd => ?_)
 have lhg := hd.lt hg
 have lhjp := hd.lt hjp
 refine RA.seq hd ?_
 refine RA.region env_ok ?_
 refine OA.p (some 4) (.int .i64 0) rfl rfl rfl rfl ?_
 refine OA.nil ?_
 intro _
 refine RA.seq hd ?_
 refine RA.seq hd ?_
 refine RA.region env_ok ?_
 refine OA.p (some 6) (Pt g 0 0) rfl rfl rfl rfl ?_
 refine OA.p (some 7) (.bool false) rfl rfl rfl rfl ?_
 refine OA.nil ?_
 intro _
 refine RA.condF rfl ?_
 refine RA.skip env_ok ?_
 intro _
 refine RA.seq hd ?_
 refine RA.region env_ok ?_
 refine OA.p (some 8) (W tsn) rfl rfl rfl rfl ?_
 refine OA.p (some 9) (Pt g 0 0) rfl rfl rfl rfl ?_
 refine OA.p (some 10) (Pt g 0 0) rfl rfl rfl rfl ?_
 refine OA.p (some 11) (Pt g 0 0) rfl rfl rfl rfl ?_
 refine OA.p (some 12) (W cum) rfl rfl rfl (r_load1 rfl rfl rfl rfl rfl hg rfl rfl) ?_
 refine OA.callP (dst := (some 13)) (all := [(W tsn), (W cum)]) (v := (.int .i64 (diffW tsn cum))) (hd.up (by omega)) rfl rfl rfl rfl rfl rfl rfl rfl (gDiff tsn cum) ?_
 intro n1 hn1
 refine OA.p (some 5) (.int .i64 (diffW tsn cum)) rfl rfl rfl rfl ?_
 refine OA.nil ?_
 intro _
 refine RA.seq hd ?_
 refine RA.block ?_
 refine RA.seq hd ?_
 refine RA.region env_ok ?_
 refine OA.p (some 15) (.int .i64 (diffW tsn cum)) rfl rfl rfl rfl ?_
 by_cases hc1 : (diffW tsn cum) ≤ 0
 ·
  refine OA.p (some 16) (.bool true) rfl rfl rfl (Eq.trans (r_bin rfl rfl rfl (b_leq rfl)) (dT hc1)) ?_
  refine OA.p (some 17) (.bool true) rfl rfl rfl rfl ?_
  refine OA.off (dst := (some 18)) rfl rfl rfl ?_
  refine OA.off (dst := (some 19)) rfl rfl rfl ?_
  refine OA.off (dst := (some 20)) rfl rfl rfl ?_
  refine OA.p (some 21) (.bool true) rfl rfl rfl rfl ?_
  refine OA.p (some 14) (.bool true) rfl rfl rfl rfl ?_
  refine OA.nil ?_
  intro _
  refine RA.condT rfl ?_
  refine RA.seq hd ?_
  refine RA.region env_ok ?_
  refine OA.p (some 4) (.int .i64 2) rfl rfl rfl rfl ?_
  refine OA.nil ?_
  intro _
  refine RA.ret env_ok ?_
  refine ⟨.inr rfl, [(.int .i64 2)], (resL_cons rfl resL_nil), (congrArg (Value.int .i64) (by unfold lookZ; rw [if_pos hc1])), (fun i hi => by cases hi)⟩
 ·
  refine OA.p (some 16) (.bool false) rfl rfl rfl (Eq.trans (r_bin rfl rfl rfl (b_leq rfl)) (dF hc1)) ?_
  refine OA.p (some 17) (.bool false) rfl rfl rfl rfl ?_
  refine OA.p (some 18) (Pt g 0 0) rfl rfl rfl rfl ?_
  refine OA.p (some 19) (.int .i64 (diffW tsn cum)) rfl rfl rfl rfl ?_
  by_cases hc2 : (ps.any (inGb (diffW tsn cum))) = true
  ·
   refine OA.callP (dst := (some 20)) (all := [(Pt g 0 0), (.int .i64 (diffW tsn cum))]) (v := (.bool true)) (hd.up (by omega)) rfl rfl rfl rfl rfl rfl rfl rfl (PS.to (gHas g jp jd K M cum ps hps hK h1 (diffW tsn cum) hg hjp) (show (.bool (ps.any (inGb (diffW tsn cum)))) = ((.bool true) : Value) from (by first | (rw [hc2]; done) | (rw [hc2]; rfl)))) ?_
   intro n2 hn2
   refine OA.p (some 21) (.bool true) rfl rfl rfl rfl ?_
   refine OA.p (some 14) (.bool true) rfl rfl rfl rfl ?_
   refine OA.nil ?_
   intro _
   refine RA.condT rfl ?_
   refine RA.seq hd ?_
   refine RA.region env_ok ?_
   refine OA.p (some 4) (.int .i64 2) rfl rfl rfl rfl ?_
   refine OA.nil ?_
   intro _
   refine RA.ret env_ok ?_
   refine ⟨.inr rfl, [(.int .i64 2)], (resL_cons rfl resL_nil), (congrArg (Value.int .i64) (by unfold lookZ; rw [if_neg hc1, if_pos hc2])), (fun i hi => by cases hi)⟩
  ·
   refine OA.callP (dst := (some 20)) (all := [(Pt g 0 0), (.int .i64 (diffW tsn cum))]) (v := (.bool false)) (hd.up (by omega)) rfl rfl rfl rfl rfl rfl rfl rfl (PS.to (gHas g jp jd K M cum ps hps hK h1 (diffW tsn cum) hg hjp) (show (.bool (ps.any (inGb (diffW tsn cum)))) = ((.bool false) : Value) from (by first | (rw [eq_false_of_ne_true hc2]; done) | (rw [eq_false_of_ne_true hc2]; rfl)))) ?_
   intro n3 hn3
   refine OA.p (some 21) (.bool false) rfl rfl rfl rfl ?_
   refine OA.p (some 14) (.bool false) rfl rfl rfl rfl ?_
   refine OA.nil ?_
   intro _
   refine RA.condF rfl ?_
   refine RA.seq hd ?_
   refine RA.region env_ok ?_
   refine OA.p (some 23) (.int .i64 (diffW tsn cum)) rfl rfl rfl rfl ?_
   by_cases hc3 : 1000 < (diffW tsn cum)
   ·
    refine OA.p (some 24) (.bool true) rfl rfl rfl (Eq.trans (r_bin rfl rfl rfl (b_gtr rfl)) (dT hc3)) ?_
    refine OA.p (some 22) (.bool true) rfl rfl rfl rfl ?_
    refine OA.nil ?_
    intro _
    refine RA.condT rfl ?_
    refine RA.seq hd ?_
    refine RA.region env_ok ?_
    refine OA.p (some 4) (.int .i64 3) rfl rfl rfl rfl ?_
    refine OA.nil ?_
    intro _
    refine RA.ret env_ok ?_
    refine ⟨.inr rfl, [(.int .i64 3)], (resL_cons rfl resL_nil), (congrArg (Value.int .i64) (by unfold lookZ; rw [if_neg hc1, if_neg hc2, if_pos hc3])), (fun i hi => by cases hi)⟩
   ·
    refine OA.p (some 24) (.bool false) rfl rfl rfl (Eq.trans (r_bin rfl rfl rfl (b_gtr rfl)) (dF hc3)) ?_
    refine OA.p (some 22) (.bool false) rfl rfl rfl rfl ?_
    refine OA.nil ?_
    intro _
    refine RA.condF rfl ?_
    refine RA.skip env_ok ?_
    intro _
    refine RA.seq hd ?_
    refine RA.region env_ok ?_
    refine OA.p (some 4) (.int .i64 1) rfl rfl rfl rfl ?_
    refine OA.nil ?_
    intro _
    refine RA.ret env_ok ?_
    refine ⟨.inr rfl, [(.int .i64 1)], (resL_cons rfl resL_nil), (congrArg (Value.int .i64) (by unfold lookZ; rw [if_neg hc1, if_neg hc2, if_neg hc3])), (fun i hi => by cases hi)⟩
end Go.Proofs.Ytmepflkodjdgdaa.Vt
