/- Np1: walks through functions of the program, by the calculus; written by a program of this workplace. -/
import Derived.Test.YtnjknabighmedaaEnv
import Derived.Test.YtnjknabighmedaaVm5
namespace Go.Proofs.Ytnjknabighmedaa.Vt
open Go Go.Proofs Go.Proofs.YtnjknabighmedaaV
set_option maxRecDepth 100000
set_option linter.unusedVariables false
set_option linter.unusedSimpArgs false
structure Item where
  leg : Int
  nat : Int
  fr : BitVec 32
  to : BitVec 32
  s : ByteArray
  bent : Bool
deriving DecidableEq
def dItem : Item := ⟨0, 0, 0#32, 0#32, ByteArray.empty, false⟩
abbrev cItem (e : Item) : List Value := [(.int .i64 e.leg), (.int .i64 e.nat), (W e.fr), (W e.to), (.string e.s), (.bool e.bent)]
abbrev oItem (l : List Item) : AObj := ⟨l.map cItem, 6, 59, true⟩
structure Act where
  what : Int
  leg : Int
  nat : Int
  fr : BitVec 32
  to : BitVec 32
  s : ByteArray
  bent : Bool
  pos : Int
  bit : Int
deriving DecidableEq
def dAct : Act := ⟨0, 0, 0, 0#32, 0#32, ByteArray.empty, false, 0, 0⟩
abbrev cAct (e : Act) : List Value := [(.int .i64 e.what), (.int .i64 e.leg), (.int .i64 e.nat), (W e.fr), (W e.to), (.string e.s), (.bool e.bent), (.int .i64 e.pos), (.int .i64 e.bit)]
abbrev oAct (l : List Act) : AObj := ⟨l.map cAct, 9, 67, true⟩
theorem awake {σ : Store} : PS Try.prog noDen 30 [] σ (.bool true) := PS.closed env_ok rfl (F := 100) (k := 20) (by kernel_rfl) rfl rfl
def bk (bit : Int) (m : Nat) : Nat := (bit % ((8 * m : Nat) : Int)).toNat
theorem bk_lt {bit : Int} {m : Nat} (h : 0 < m) : bk bit m < 8 * m := by
  unfold bk
  have h1 := Int.emod_nonneg bit (b := ((8 * m : Nat) : Int)) (by omega)
  have h2 := Int.emod_lt_of_pos bit (b := ((8 * m : Nat) : Int)) (by omega)
  omega
theorem bk_pos {bit : Int} {m : Nat} (hm : 0 < m) (h : ¬ bit.tmod ((8 * m : Nat) : Int) < 0) : bit.tmod ((8 * m : Nat) : Int) = ((bk bit m : Nat) : Int) := by
  unfold bk
  have h1 := Int.emod_nonneg bit (b := ((8 * m : Nat) : Int)) (by omega)
  have h2 := Int.emod_lt_of_pos bit (b := ((8 * m : Nat) : Int)) (by omega)
  rw [Int.toNat_of_nonneg h1, Int.tmod_eq_emod] at *
  split at h <;> split <;> simp_all <;> omega
theorem bk_neg {bit : Int} {m : Nat} (hm : 0 < m) (h : bit.tmod ((8 * m : Nat) : Int) < 0) : bit.tmod ((8 * m : Nat) : Int) + ((8 * m : Nat) : Int) = ((bk bit m : Nat) : Int) := by
  unfold bk
  have h1 := Int.emod_nonneg bit (b := ((8 * m : Nat) : Int)) (by omega)
  have h2 := Int.emod_lt_of_pos bit (b := ((8 * m : Nat) : Int)) (by omega)
  rw [Int.toNat_of_nonneg h1, Int.tmod_eq_emod] at *
  split at h <;> split <;> simp_all <;> omega
theorem bk_two {bit : Int} {m : Nat} (hm : 0 < m) : (bit.tmod ((8 * m : Nat) : Int) + ((8 * m : Nat) : Int)).tmod ((8 * m : Nat) : Int) = ((bk bit m : Nat) : Int) := by
  have h3 := bk_lt (bit := bit) hm
  by_cases h : bit.tmod ((8 * m : Nat) : Int) < 0
  · rw [bk_neg hm h, Int.tmod_eq_of_lt (by omega) (by omega)]
  · rw [bk_pos hm h, Int.tmod_eq_emod_of_nonneg (by omega), Int.add_emod_right, Int.emod_eq_of_lt (by omega) (by omega)]
def bentS (s : ByteArray) (bit : Int) : ByteArray := bstr ((L s).set (bk bit s.size / 8) ((L s).getD (bk bit s.size / 8) 0 ^^^ UInt8.ofNat (2 ^ (bk bit s.size % 8))))
theorem bent_t {s : ByteArray} {bit : Int} : bstr ((((L s).set (bk bit s.size / 8) ((L s).getD (bk bit s.size / 8) 0 ^^^ UInt8.ofNat (2 ^ (bk bit s.size % 8)))).drop 0).take s.size) = bentS s bit := by
  unfold bentS
  rw [List.drop_zero, List.take_of_length_le (by rw [List.length_set, L_len]; exact Nat.le_refl _)]
theorem size_pos {s : ByteArray} (h : ¬ s = ByteArray.mk #[]) : 0 < s.size := by
  rcases Nat.eq_zero_or_pos s.size with h0 | h0
  · exfalso; apply h; apply L_ext
    have : (L s).length = 0 := by rw [L_len]; exact h0
    rw [List.length_eq_zero_iff.1 this]
  · exact h0
theorem nDel0 {n : Nat} {σ : Store} (hd : Dom n σ) (j N i : Nat) (l : List Item) (hl : l.length = N) (hi : i < N) (hN : N ≤ 1000000) (hj : σ j = some (oItem l))  : CQ Try.prog noDen 81 [(.slice (some ⟨j, 0, none⟩) N 0), (.int .i64 ((i : Nat) : Int)), (.int .i64 (((i + 1) : Nat) : Int))] n σ (fun v n' d => ∃ LL : List Item, v = .slice (some ⟨j, 0, none⟩) (N - 1) 0 ∧ LL.take (N - 1) = l.eraseIdx i ∧ d = [(j, some (oItem LL))]) := by
 have lhj := hd.lt hj
 refine CQ.body (E := env) env_ok hd rfl rfl (by show _ ≤ _; exact of_decide_eq_true (by kernel_rfl)) ?_
 refine RA.seq hd ?_
 refine RA.region env_ok ?_
 refine OA.p (some 6) (.slice none 0 0) rfl rfl rfl rfl ?_
 refine OA.nil ?_
 intro _
 refine RA.seq hd ?_
 refine RA.region env_ok ?_
 refine OA.p (some 8) (.slice (some ⟨j, 0, none⟩) N 0) rfl rfl rfl rfl ?_
 refine OA.p (some 9) (.int .i64 ((i : Nat) : Int)) rfl rfl rfl rfl ?_
 refine OA.p (some 10) (.int .i64 (((i + 1) : Nat) : Int)) rfl rfl rfl rfl ?_
 refine OA.p (some 11) (.slice (some ⟨j, 0, none⟩) N 0) rfl rfl rfl rfl ?_
 refine OA.p (some 12) (.int .i64 ((N : Nat) : Int)) rfl rfl rfl rfl ?_
 by_cases hc1 : i + 1 = N
 ·
  refine OA.p (some 13) (.slice (some ⟨j, i, none⟩) 1 1) rfl rfl rfl (r_cut3e (a := i) (b := (i + 1)) (m := N) rfl rfl rfl rfl rfl rfl rfl rfl hj rfl (by omega) (by rw [List.length_map, hl]; omega) (by omega) (by omega)) ?_
  refine OA.nil ?_
  intro _
  refine RA.seq hd ?_
  refine RA.seq hd ?_
  refine RA.region env_ok ?_
  refine OA.p (some 14) (.int .i64 ((i : Nat) : Int)) rfl rfl rfl rfl ?_
  refine OA.p (some 15) (.int .i64 (((i + 1) : Nat) : Int)) rfl rfl rfl rfl ?_
  have hc2 : ¬ (((i : Nat) : Int) = (((i + 1) : Nat) : Int)) := fun hdd => by exfalso; omega
  refine OA.p (some 16) (.bool false) rfl rfl rfl (Eq.trans (r_bin rfl rfl rfl (b_eql rfl)) (dF hc2)) ?_
  refine OA.nil ?_
  intro _
  refine RA.condF rfl ?_
  refine RA.skip env_ok ?_
  intro _
  refine RA.seq hd ?_
  refine RA.region env_ok ?_
  refine OA.p (some 18) (.slice (some ⟨j, 0, none⟩) N 0) rfl rfl rfl rfl ?_
  refine OA.p (some 19) (.int .i64 ((N : Nat) : Int)) rfl rfl rfl rfl ?_
  refine OA.p (some 7) (.int .i64 ((N : Nat) : Int)) rfl rfl rfl rfl ?_
  refine OA.nil ?_
  intro _
  refine RA.seq hd ?_
  refine RA.par (md := [some [], some [], some [j], some [], some [], some [j], none, some []]) env_ok (hd.up (by omega)) (by kernel_rfl) ?_
  refine PQ.pure (dst := (some 20)) (v := (.slice (some ⟨j, 0, none⟩) N 0)) rfl rfl rfl noStore (none_ok _ _) rfl ?_
  refine PQ.pure (dst := (some 21)) (v := (.int .i64 ((i : Nat) : Int))) rfl rfl rfl noStore (none_ok _ _) rfl ?_
  refine PQ.pure (dst := (some 22)) (v := (.slice (some ⟨j, 0, none⟩) i 0)) rfl rfl rfl (app [(j, some (oItem l))] noStore) (seen_one (V := []) (D := []) (by kernel_rfl) hj) (r_cutG (a := 0) (b := i) rfl rfl (fun _ => rfl) (fun _ => rfl) rfl rfl rfl rfl (bound_int (by omega)) get_here rfl (by omega) (by rw [List.length_map, hl]; omega) (by omega) (by omega)) ?_
  refine PQ.pure (dst := (some 23)) (v := (.slice (some ⟨j, 0, none⟩) N 0)) rfl rfl rfl noStore (none_ok _ _) rfl ?_
  refine PQ.pure (dst := (some 24)) (v := (.int .i64 (((i + 1) : Nat) : Int))) rfl rfl rfl noStore (none_ok _ _) rfl ?_
  refine PQ.pure (dst := (some 25)) (v := (.slice (some ⟨j, (i + 1), none⟩) (N - (i + 1)) 0)) rfl rfl rfl (app [(j, some (oItem l))] noStore) (seen_one (V := []) (D := []) (by kernel_rfl) hj) (r_cutG (a := (i + 1)) (b := N) rfl rfl (fun _ => rfl) (fun _ => rfl) rfl rfl rfl (bound_int (by omega)) rfl get_here rfl (by omega) (by rw [List.length_map, hl]; omega) (by omega) (by omega)) ?_
  refine PQ.pure (dst := (some 26)) (v := (.slice (some ⟨j, 0, none⟩) i 0)) rfl rfl rfl _ (seen_any (V := []) (D := []) (by kernel_rfl)) (r_appendZ rfl rfl rfl rfl (.inl ⟨_, _, _, rfl⟩) rfl rfl rfl rfl rfl (by decide) (by omega)) ?_
  refine PQ.pure (dst := (some 0)) (v := (.slice (some ⟨j, 0, none⟩) i 0)) rfl rfl rfl noStore (none_ok _ _) rfl ?_
  refine PQ.done (d := []) (by kernel_rfl) ?_
  intro _
  refine RA.seq hd ?_
  refine RA.region env_ok ?_
  refine OA.p (some 27) (.slice (some ⟨j, 0, none⟩) i 0) rfl rfl rfl rfl ?_
  refine OA.p (some 28) (.slice (some ⟨j, 0, none⟩) i 0) rfl rfl rfl rfl ?_
  refine OA.p (some 29) (.int .i64 ((i : Nat) : Int)) rfl rfl rfl rfl ?_
  refine OA.p (some 30) (.int .i64 ((N : Nat) : Int)) rfl rfl rfl rfl ?_
  refine OA.p (some 31) (.slice (some ⟨j, i, none⟩) 1 0) rfl rfl rfl (r_cutG (a := i) (b := N) rfl rfl (fun _ => rfl) (fun _ => rfl) rfl rfl rfl (bound_int (by omega)) (bound_int (by omega)) hj rfl (by omega) (by rw [List.length_map, hl]; omega) (by omega) (by omega)) ?_
  refine OA.op1 (dst := none) (v := (.tuple #[])) (n1 := n) (w := (j, some (oItem (l.take i ++ List.replicate 1 dItem ++ l.drop (i + 1))))) rfl rfl rfl (r_clearR (c := cItem) (z := dItem) (l' := (l.take i ++ List.replicate 1 dItem ++ l.drop (i + 1))) rfl rfl rfl rfl rfl rfl rfl rfl rfl hj (by omega) (by rw [hl]; omega) rfl) (by omega) ?_
  refine OA.nil ?_
  intro _
  refine RA.rebase [(0, (.slice (some ⟨j, 0, none⟩) i 0)), (1, (.int .i64 ((i : Nat) : Int))), (2, (.int .i64 (((i + 1) : Nat) : Int))), (6, (.slice none 0 0)), (7, (.int .i64 ((N : Nat) : Int))), (16, (.bool false))] ⟨rfl, rfl, rfl, rfl, rfl, rfl, trivial⟩ (fun τr1 => ?_)
  refine RA.seq hd ?_
  refine RA.region env_ok ?_
  refine OA.p (some 32) (.slice (some ⟨j, 0, none⟩) i 0) rfl rfl rfl rfl ?_
  refine OA.p (some 6) (.slice (some ⟨j, 0, none⟩) i 0) rfl rfl rfl rfl ?_
  refine OA.nil ?_
  intro _
  refine RA.ret env_ok ?_
  refine ⟨.inr rfl, [(.slice (some ⟨j, 0, none⟩) i 0)], (resL_cons rfl resL_nil), [(j, some (oItem (l.take i ++ List.replicate 1 dItem ++ l.drop (i + 1))))], (Less.refl _ _ _), ⟨(l.take i ++ List.replicate 1 dItem ++ l.drop (i + 1)), congrArg (fun z => Value.slice (some ⟨j, 0, none⟩) z 0) (by omega), del_last hl (by omega), rfl⟩⟩
 ·
  refine OA.op (dst := (some 13)) (v := (.slice (some ⟨n, 0, none⟩) 1 0)) (n1 := (n + 1)) (d1 := []) (D' := []) rfl rfl rfl (r_cut3 (a := i) (b := (i + 1)) (m := N) rfl rfl rfl rfl rfl rfl rfl rfl (by omega) (by omega)) (by omega) rfl ?_
  refine OA.nil ?_
  intro _
  refine RA.seq hd ?_
  refine RA.seq hd ?_
  refine RA.region env_ok ?_
  refine OA.p (some 14) (.int .i64 ((i : Nat) : Int)) rfl rfl rfl rfl ?_
  refine OA.p (some 15) (.int .i64 (((i + 1) : Nat) : Int)) rfl rfl rfl rfl ?_
  have hc3 : ¬ (((i : Nat) : Int) = (((i + 1) : Nat) : Int)) := fun hdd => by exfalso; omega
  refine OA.p (some 16) (.bool false) rfl rfl rfl (Eq.trans (r_bin rfl rfl rfl (b_eql rfl)) (dF hc3)) ?_
  refine OA.nil ?_
  intro _
  refine RA.condF rfl ?_
  refine RA.skip env_ok ?_
  intro _
  refine RA.seq hd ?_
  refine RA.region env_ok ?_
  refine OA.p (some 18) (.slice (some ⟨j, 0, none⟩) N 0) rfl rfl rfl rfl ?_
  refine OA.p (some 19) (.int .i64 ((N : Nat) : Int)) rfl rfl rfl rfl ?_
  refine OA.p (some 7) (.int .i64 ((N : Nat) : Int)) rfl rfl rfl rfl ?_
  refine OA.nil ?_
  intro _
  refine RA.seq hd ?_
  refine RA.par (md := [some [], some [], some [j], some [], some [], some [j], none, some []]) env_ok (hd.up (by omega)) (by kernel_rfl) ?_
  refine PQ.pure (dst := (some 20)) (v := (.slice (some ⟨j, 0, none⟩) N 0)) rfl rfl rfl noStore (none_ok _ _) rfl ?_
  refine PQ.pure (dst := (some 21)) (v := (.int .i64 ((i : Nat) : Int))) rfl rfl rfl noStore (none_ok _ _) rfl ?_
  refine PQ.pure (dst := (some 22)) (v := (.slice (some ⟨j, 0, none⟩) i 0)) rfl rfl rfl (app [(j, some (oItem l))] noStore) (seen_one (V := []) (D := []) (by kernel_rfl) hj) (r_cutG (a := 0) (b := i) rfl rfl (fun _ => rfl) (fun _ => rfl) rfl rfl rfl rfl (bound_int (by omega)) get_here rfl (by omega) (by rw [List.length_map, hl]; omega) (by omega) (by omega)) ?_
  refine PQ.pure (dst := (some 23)) (v := (.slice (some ⟨j, 0, none⟩) N 0)) rfl rfl rfl noStore (none_ok _ _) rfl ?_
  refine PQ.pure (dst := (some 24)) (v := (.int .i64 (((i + 1) : Nat) : Int))) rfl rfl rfl noStore (none_ok _ _) rfl ?_
  refine PQ.pure (dst := (some 25)) (v := (.slice (some ⟨j, (i + 1), none⟩) (N - (i + 1)) 0)) rfl rfl rfl (app [(j, some (oItem l))] noStore) (seen_one (V := []) (D := []) (by kernel_rfl) hj) (r_cutG (a := (i + 1)) (b := N) rfl rfl (fun _ => rfl) (fun _ => rfl) rfl rfl rfl (bound_int (by omega)) rfl get_here rfl (by omega) (by rw [List.length_map, hl]; omega) (by omega) (by omega)) ?_
  refine PQ.op (dst := (some 26)) (v := (.slice (some ⟨j, 0, none⟩) (N - 1) 0)) (n1 := (n + 1)) (d1 := [(j, some (oItem (l.take i ++ (l.drop (i + 1)).take (N - (i + 1)) ++ l.drop (i + (N - (i + 1))))))]) rfl rfl rfl _ (seen_any (V := []) (D := []) (by kernel_rfl)) (r_appendIn (c := cItem) (l' := (l.take i ++ (l.drop (i + 1)).take (N - (i + 1)) ++ l.drop (i + (N - (i + 1))))) rfl rfl rfl rfl rfl rfl rfl rfl rfl rfl (by decide) hj (by omega) (by rw [hl]; omega) (by rw [hl]; omega) rfl (by omega) (of_decide_eq_true (by kernel_rfl)) (by omega)) (by omega) (kp1 (wr_tight (by kernel_rfl) (by omega))) ?_
  refine PQ.pure (dst := (some 0)) (v := (.slice (some ⟨j, 0, none⟩) (N - 1) 0)) rfl rfl rfl noStore (none_ok _ _) rfl ?_
  refine PQ.done (d := [(j, some (oItem (l.take i ++ (l.drop (i + 1)).take (N - (i + 1)) ++ l.drop (i + (N - (i + 1))))))]) (by kernel_rfl) ?_
  intro _
  refine RA.seq hd ?_
  refine RA.region env_ok ?_
  refine OA.p (some 27) (.slice (some ⟨j, 0, none⟩) (N - 1) 0) rfl rfl rfl rfl ?_
  refine OA.p (some 28) (.slice (some ⟨j, 0, none⟩) (N - 1) 0) rfl rfl rfl rfl ?_
  refine OA.p (some 29) (.int .i64 (((N - 1) : Nat) : Int)) rfl rfl rfl rfl ?_
  refine OA.p (some 30) (.int .i64 ((N : Nat) : Int)) rfl rfl rfl rfl ?_
  refine OA.p (some 31) (.slice (some ⟨j, (N - 1), none⟩) 1 0) rfl rfl rfl (r_cutG (a := (N - 1)) (b := N) rfl rfl (fun _ => rfl) (fun _ => rfl) rfl rfl rfl (bound_int (by omega)) (bound_int (by omega)) get_here rfl (by omega) (by rw [List.length_map, show (l.take i ++ (l.drop (i + 1)).take (N - (i + 1)) ++ l.drop (i + (N - (i + 1)))).length = N from by simp only [List.length_append, List.length_take, List.length_drop, hl]; omega]; omega) (by omega) (by omega)) ?_
  refine OA.op1 (dst := none) (v := (.tuple #[])) (n1 := (n + 1)) (w := (j, some (oItem ((l.take i ++ (l.drop (i + 1)).take (N - (i + 1)) ++ l.drop (i + (N - (i + 1)))).take (N - 1) ++ List.replicate 1 dItem ++ (l.take i ++ (l.drop (i + 1)).take (N - (i + 1)) ++ l.drop (i + (N - (i + 1)))).drop ((N - 1) + 1))))) rfl rfl rfl (r_clearR (c := cItem) (z := dItem) (l' := ((l.take i ++ (l.drop (i + 1)).take (N - (i + 1)) ++ l.drop (i + (N - (i + 1)))).take (N - 1) ++ List.replicate 1 dItem ++ (l.take i ++ (l.drop (i + 1)).take (N - (i + 1)) ++ l.drop (i + (N - (i + 1)))).drop ((N - 1) + 1))) rfl rfl rfl rfl rfl rfl rfl rfl rfl get_here (by omega) (by have hlo := (show (l.take i ++ (l.drop (i + 1)).take (N - (i + 1)) ++ l.drop (i + (N - (i + 1)))).length = N from by simp only [List.length_append, List.length_take, List.length_drop, hl]; omega); omega) rfl) (by omega) ?_
  refine OA.nil ?_
  intro _
  refine RA.rebase [(0, (.slice (some ⟨j, 0, none⟩) (N - 1) 0)), (1, (.int .i64 ((i : Nat) : Int))), (2, (.int .i64 (((i + 1) : Nat) : Int))), (6, (.slice none 0 0)), (7, (.int .i64 ((N : Nat) : Int))), (16, (.bool false))] ⟨rfl, rfl, rfl, rfl, rfl, rfl, trivial⟩ (fun τr2 => ?_)
  refine RA.seq hd ?_
  refine RA.region env_ok ?_
  refine OA.p (some 32) (.slice (some ⟨j, 0, none⟩) (N - 1) 0) rfl rfl rfl rfl ?_
  refine OA.p (some 6) (.slice (some ⟨j, 0, none⟩) (N - 1) 0) rfl rfl rfl rfl ?_
  refine OA.nil ?_
  intro _
  refine RA.ret env_ok ?_
  refine ⟨.inr rfl, [(.slice (some ⟨j, 0, none⟩) (N - 1) 0)], (resL_cons rfl resL_nil), [(j, some (oItem ((l.take i ++ (l.drop (i + 1)).take (N - (i + 1)) ++ l.drop (i + (N - (i + 1)))).take (N - 1) ++ List.replicate 1 dItem ++ (l.take i ++ (l.drop (i + 1)).take (N - (i + 1)) ++ l.drop (i + (N - (i + 1)))).drop ((N - 1) + 1))))], (Less.of (fac (mm (fun _ => get_here) (fun _ => get_here)) fan) (gone_of (by simp only [goneP, memP, List.cons_append, List.nil_append, true_or, or_true, true_and, and_true, or_false] <;> omega))), ⟨((l.take i ++ (l.drop (i + 1)).take (N - (i + 1)) ++ l.drop (i + (N - (i + 1)))).take (N - 1) ++ List.replicate 1 dItem ++ (l.take i ++ (l.drop (i + 1)).take (N - (i + 1)) ++ l.drop (i + (N - (i + 1)))).drop ((N - 1) + 1)), congrArg (fun z => Value.slice (some ⟨j, 0, none⟩) z 0) (by omega), del_mid hl (by omega) rfl rfl, rfl⟩⟩
theorem nDel {n : Nat} {σ : Store} (hd : Dom n σ) (j N i : Nat) (l : List Item) (hl : l.length = N) (hi : i < N) (hN : N ≤ 1000000) (hj : σ j = some (oItem l)) : CQ Try.prog noDen 81 [(.slice (some ⟨j, 0, none⟩) N 0), (.int .i64 ((i : Nat) : Int)), (.int .i64 (((i + 1) : Nat) : Int))] n σ (fun v n' d => v = .slice (some ⟨j, 0, none⟩) (N - 1) 0 ∧ d = [(j, some (oItem (l.eraseIdx i)))]) := by
  refine CQ.less (CQ.shr (nDel0 hd j N i l hl hi hN hj) (R := fun v n' d => v = .slice (some ⟨j, 0, none⟩) (N - 1) 0 ∧ ∃ o, d = [(j, some (oItem (l.eraseIdx i))), (j, some o)]) ?_) ?_
  · rintro v n' d ⟨LL, rfl, h2, rfl⟩
    refine ⟨j, _, N - 1, get_here, rfl, (oItem LL), ?_⟩
    simp only [shr, ← List.map_take, h2]
  · rintro v n' d ⟨rfl, o, rfl⟩
    exact ⟨_, Less.of (fac (mm (fun _ => get_here) (fun _ => get_here)) fan) (gone_of (by simp only [goneP, memP, true_or, or_true, true_and, and_true])), rfl, rfl⟩

theorem nClone {n : Nat} {σ : Store} (hd : Dom n σ) (j N : Nat) (l : List Item) (hl : l.length = N) (hN : N ≤ 1000000) (hj : σ j = some (oItem l))  : CQ Try.prog noDen 82 [(.slice (some ⟨j, 0, none⟩) N 0)] n σ (fun v n' d => ∃ i, n ≤ i ∧ i < n' ∧ v = .slice (some ⟨i, 0, none⟩) N 0 ∧ d = [(i, some (oItem l))]) := by
 have lhj := hd.lt hj
 refine CQ.body (E := env) env_ok hd rfl rfl (by show _ ≤ _; exact of_decide_eq_true (by kernel_rfl)) ?_
 refine RA.seq hd ?_
 refine RA.region env_ok ?_
 refine OA.p (some 2) (.slice none 0 0) rfl rfl rfl rfl ?_
 refine OA.nil ?_
 intro _
 refine RA.seq hd ?_
 refine RA.seq hd ?_
 refine RA.region env_ok ?_
 refine OA.p (some 3) (.slice (some ⟨j, 0, none⟩) N 0) rfl rfl rfl rfl ?_
 refine OA.p (some 4) (.bool false) rfl rfl rfl rfl ?_
 refine OA.nil ?_
 intro _
 refine RA.condF rfl ?_
 refine RA.skip env_ok ?_
 intro _
 refine RA.seq hd ?_
 refine RA.region env_ok ?_
 refine OA.op1 (dst := (some 5)) (v := (.slice (some ⟨n, 0, none⟩) 0 0)) (n1 := (n + 1)) (w := (n, some (oItem ([] : List Item)))) rfl rfl rfl (by kernel_rfl) (by omega) ?_
 refine OA.p (some 6) (.slice (some ⟨j, 0, none⟩) N 0) rfl rfl rfl rfl ?_
 by_cases hc1 : N = 0
 ·
  refine OA.p (some 7) (.slice (some ⟨n, 0, none⟩) 0 0) rfl rfl rfl (r_appendZ rfl rfl rfl rfl (.inl ⟨_, _, _, rfl⟩) rfl rfl rfl rfl rfl (by decide) (by omega)) ?_
  refine OA.p (some 2) (.slice (some ⟨n, 0, none⟩) 0 0) rfl rfl rfl rfl ?_
  refine OA.nil ?_
  intro _
  refine RA.ret env_ok ?_
  refine ⟨.inr rfl, [(.slice (some ⟨n, 0, none⟩) 0 0)], (resL_cons rfl resL_nil), [(n, some (oItem ([] : List Item)))], (Less.refl _ _ _), ⟨n, by omega, by omega, by rw [show N = 0 from by omega]; rfl, by rw [List.length_eq_zero_iff.1 (show l.length = 0 from by omega)]⟩⟩
 ·
  refine OA.op (dst := (some 7)) (v := (.slice (some ⟨(n + 1), 0, none⟩) N 0)) (n1 := (n + 2)) (d1 := [((n + 1), some (oItem (([] : List Item) ++ (l.drop 0).take N))), (n, none)]) (D' := [((n + 1), some (oItem (([] : List Item) ++ (l.drop 0).take N))), (n, none), (n, some (oItem ([] : List Item)))]) rfl rfl rfl (r_appendL (c := cItem) (l' := (([] : List Item) ++ (l.drop 0).take N)) rfl rfl rfl rfl rfl rfl rfl rfl rfl rfl (by decide) get_here (get_there (by omega) hj) (by rw [show ([] : List Item).length = 0 from rfl]) (by omega) (by rw [hl]; omega) rfl (by omega) (of_decide_eq_true (by kernel_rfl)) (by omega)) (by omega) rfl ?_
  refine OA.p (some 2) (.slice (some ⟨(n + 1), 0, none⟩) N 0) rfl rfl rfl rfl ?_
  refine OA.nil ?_
  intro _
  refine RA.ret env_ok ?_
  refine ⟨.inr rfl, [(.slice (some ⟨(n + 1), 0, none⟩) N 0)], (resL_cons rfl resL_nil), [((n + 1), some (oItem (([] : List Item) ++ (l.drop 0).take N)))], (Less.of (fac (mm (fun _ => get_here) (fun _ => get_here)) fan) (gone_of (by simp only [goneP, memP, List.cons_append, List.nil_append, true_or, or_true, true_and, and_true, or_false] <;> omega))), ⟨(n + 1), by omega, by omega, by rfl, by rw [List.nil_append, List.drop_zero, List.take_of_length_le (by omega)]⟩⟩
theorem nClone0 {σ : Store}    : PS Try.prog noDen 82 [(.slice none 0 0)] σ (.slice none 0 0) := by
 refine PS.body (E := env) env_ok rfl rfl (by show _ ≤ _; exact of_decide_eq_true (by kernel_rfl)) (fun n hd => ?_)
 refine RA.seq hd ?_
 refine RA.region env_ok ?_
 refine OA.p (some 2) (.slice none 0 0) rfl rfl rfl rfl ?_
 refine OA.nil ?_
 intro _
 refine RA.seq hd ?_
 refine RA.seq hd ?_
 refine RA.region env_ok ?_
 refine OA.p (some 3) (.slice none 0 0) rfl rfl rfl rfl ?_
 refine OA.p (some 4) (.bool true) rfl rfl rfl rfl ?_
 refine OA.nil ?_
 intro _
 refine RA.condT rfl ?_
 refine RA.seq hd ?_
 refine RA.region env_ok ?_
 refine OA.p (some 2) (.slice none 0 0) rfl rfl rfl rfl ?_
 refine OA.nil ?_
 intro _
 refine RA.ret env_ok ?_
 refine ⟨.inr rfl, [(.slice none 0 0)], (resL_cons rfl resL_nil), rfl, (fun i hi => by cases hi)⟩
end Go.Proofs.Ytnjknabighmedaa.Vt
