/- Ck4: walks through functions of the program, by the calculus; written by a program of this workplace. -/
import Derived.Test.YtdnkhdkflemkeaaCk3
import Derived.Test.YtdnkhdkflemkeaaVm5
namespace Go.Proofs.Ytdnkhdkflemkeaa.Vt
open Go Go.Proofs Go.Proofs.YtdnkhdkflemkeaaV
set_option maxRecDepth 100000
set_option linter.unusedVariables false
set_option linter.unusedSimpArgs false
theorem ckS_size (key : ByteArray) (c : Ck) (h : MayN c) : (ckS key c).size = 104 := by
  unfold ckS
  rw [ByteArray.size_append, bstr_size, ckB_len c h, macF_size]
theorem app_body (a b : ByteArray) (n : Nat) (h : a.size = n) : (a ++ b).extract 0 n = a := by
  apply L_ext
  subst h
  rw [L_extract, L_append, List.drop_zero, Nat.sub_zero, ← L_len a, List.take_left]
theorem app_tail (a b : ByteArray) (n m : Nat) (h : a.size = n) (h2 : n + b.size = m) : (a ++ b).extract n m = b := by
  apply L_ext
  subst h; subst h2
  rw [L_extract, L_append, Nat.add_sub_cancel_left, ← L_len a, ← L_len b, List.drop_left, List.take_length]
theorem own_body (key : ByteArray) (c : Ck) (h : MayN c) : (ckS key c).extract 0 ((ckS key c).size - 20) = bstr (ckB c) := by
  rw [ckS_size key c h]
  exact app_body _ _ _ (by rw [bstr_size, ckB_len c h])
theorem own_tail (key : ByteArray) (c : Ck) (h : MayN c) : (ckS key c).extract ((ckS key c).size - 20) (ckS key c).size = macF key (bstr (ckB c)) := by
  rw [ckS_size key c h]
  exact app_tail _ _ _ _ (by rw [bstr_size, ckB_len c h]) (by rw [macF_size])
theorem ckOf_toI (s : ByteArray) (h0 : (ckN s).made < 9223372036854775808) : ckOf s = toI (ckN s) := by
  have h : at_ s 0 8 < 9223372036854775808 := h0
  unfold ckOf toI ckN
  simp only
  rw [i64_eq (r := ((at_ s 0 8 : Nat) : Int)) (by omega)]
theorem may_own (c : Ck) (h : MayN c) (hm : c.made < 9223372036854775808) : MayI (ckOf (bstr (ckB c))) := by
  have h1 : (ckN (bstr (ckB c))).made = c.made := by rw [ckN_own c h hm]
  rw [ckOf_toI _ (by omega), ckN_own c h hm]
  exact mayI_N c h
theorem cut_both (s : ByteArray) (n : Nat) (h : n ≤ s.size) : s.extract 0 n ++ s.extract n s.size = s := by
  apply L_ext
  rw [L_append, L_extract, L_extract, List.drop_zero, Nat.sub_zero, ← List.take_add, List.take_of_length_le (by rw [L_len]; omega)]
theorem gets_eq {key s : ByteArray} (hz : s.size = 104) (hmac : macF key (s.extract 0 (s.size - 20)) = s.extract (s.size - 20) s.size) : ckS key (ckN (s.extract 0 (s.size - 20))) = s := by
  unfold ckS
  rw [ckB_N _ (by rw [size_cut _ _ _ (by omega)]; omega), hmac]
  exact cut_both s _ (by omega)
def awC : Ck := ⟨0, 1#32, 2#32, 0#32, 0#32, 0#32, 0#32, 0, 0, 0#32, 0, 0, 0#32, 0#32, rnd (ByteArray.mk #[]), rnd (ByteArray.mk #[120])⟩
theorem awMay : MayN awC := by
  unfold MayN awC
  simp only [rnd_size]
  decide
theorem ownE {σ : Store} (key : ByteArray) (hk : key.size < 4294967296) (c : Ck) (h : MayN c) (hm : c.made < 9223372036854775808) (now : Int) (hnow : -9223372036854775808 ≤ now ∧ now ≤ 9223372036854775807) (hy : ¬ ((c.made : Int) < now ∧ 600 < now - (c.made : Int))) : PS Try.prog noDen 28 [(.string key), (.string (ckS key c)), (.int .i64 now)] σ (.tuple #[(.agg ⟨[(.int .i64 ((c.made : Nat) : Int)), (W c.mine), (W c.yours), (W c.mt), (W c.yt), (W c.peer), (W c.loc), (.int .i64 ((c.pp : Nat) : Int)), (.int .i64 ((c.mp : Nat) : Int)), (W c.rwnd), (.int .i64 ((c.ou : Nat) : Int)), (.int .i64 ((c.inn : Nat) : Int)), (W c.tm), (W c.ty), (.string c.mr), (.string c.rn)]⟩), .int .i64 0, .int .i64 0]) := by
  have h1 := gE (σ := σ) key (ckS key c) hk (by rw [ckS_size key c h]; decide) now hnow (ckS_size key c h) (by rw [own_body key c h, own_tail key c h]) (by rw [own_body key c h]; exact may_own c h hm) (by rw [own_body key c h, ckN_own c h hm]; exact hy)
  rw [own_body key c h, ckN_own c h hm] at h1
  exact h1
theorem ownF {σ : Store} (key : ByteArray) (hk : key.size < 4294967296) (c : Ck) (h : MayN c) (hm : c.made < 9223372036854775808) (now : Int) (hnow : -9223372036854775808 ≤ now ∧ now ≤ 9223372036854775807) (hy : ((c.made : Int) < now ∧ 600 < now - (c.made : Int))) : PS Try.prog noDen 28 [(.string key), (.string (ckS key c)), (.int .i64 now)] σ (.tuple #[(.agg ⟨[(.int .i64 ((c.made : Nat) : Int)), (W c.mine), (W c.yours), (W c.mt), (W c.yt), (W c.peer), (W c.loc), (.int .i64 ((c.pp : Nat) : Int)), (.int .i64 ((c.mp : Nat) : Int)), (W c.rwnd), (.int .i64 ((c.ou : Nat) : Int)), (.int .i64 ((c.inn : Nat) : Int)), (W c.tm), (W c.ty), (.string c.mr), (.string c.rn)]⟩), .int .i64 ((now - (c.made : Int)) - 600), .int .i64 101]) := by
  have h1 := gF (σ := σ) key (ckS key c) hk (by rw [ckS_size key c h]; decide) now hnow (ckS_size key c h) (by rw [own_body key c h, own_tail key c h]) (by rw [own_body key c h]; exact may_own c h hm) (by rw [own_body key c h, ckN_own c h hm]; exact hy)
  rw [own_body key c h, ckN_own c h hm] at h1
  exact h1
abbrev xCk41 : List Value := [(.int .i64 ((awC.made : Nat) : Int)), (W awC.mine), (W awC.yours), (W awC.mt), (W awC.yt), (W awC.peer), (W awC.loc), (.int .i64 ((awC.pp : Nat) : Int)), (.int .i64 ((awC.mp : Nat) : Int)), (W awC.rwnd), (.int .i64 ((awC.ou : Nat) : Int)), (.int .i64 ((awC.inn : Nat) : Int)), (W awC.tm), (W awC.ty), (.string awC.mr), (.string awC.rn)]
theorem s23 {σ : Store}    : PS Try.prog noDen 23 [] σ (.bool true) := by
 refine PS.body (E := env) env_ok rfl rfl (by show _ ≤ _; exact of_decide_eq_true (by kernel_rfl)) (fun n hd => ?_)
 refine RA.seq hd ?_
 refine RA.region env_ok ?_
 refine OA.pure (dst := (some 0)) (v := (.bool false)) rfl rfl rfl rfl ?_
 refine OA.nil ?_
 intro _
 refine RA.seq hd ?_
 refine RA.region env_ok ?_
 refine OA.callP (dst := (some 5)) (all := [(.string (ByteArray.mk #[]))]) (v := (.string (rnd (ByteArray.mk #[])))) (hd.up (by omega)) rfl rfl rfl rfl rfl rfl rfl rfl (s21 (ByteArray.mk #[]) (by decide)) ?_
 intro n1 hn1
 refine OA.callP (dst := (some 6)) (all := [(.string (ByteArray.mk #[120]))]) (v := (.string (rnd (ByteArray.mk #[120])))) (hd.up (by omega)) rfl rfl rfl rfl rfl rfl rfl rfl (s21 (ByteArray.mk #[120]) (by decide)) ?_
 intro n2 hn2
 refine OA.pure (dst := (some 7)) (v := (.agg ⟨[(.int .i64 0), (.int .u32 1), (.int .u32 2), (.int .u32 0), (.int .u32 0), (.int .u32 0), (.int .u32 0), (.int .i64 0), (.int .i64 0), (.int .u32 0), (.int .i64 0), (.int .i64 0), (.int .u32 0), (.int .u32 0), (.string (rnd (ByteArray.mk #[]))), (.string (rnd (ByteArray.mk #[120])))]⟩)) rfl rfl rfl (by kernel_rfl) ?_
 refine OA.callP (dst := (some 8)) (all := [(.string (ByteArray.mk #[107])), (.agg ⟨[(.int .i64 0), (.int .u32 1), (.int .u32 2), (.int .u32 0), (.int .u32 0), (.int .u32 0), (.int .u32 0), (.int .i64 0), (.int .i64 0), (.int .u32 0), (.int .i64 0), (.int .i64 0), (.int .u32 0), (.int .u32 0), (.string (rnd (ByteArray.mk #[]))), (.string (rnd (ByteArray.mk #[120])))]⟩)]) (v := (.string (ckS (ByteArray.mk #[107]) awC))) (hd.up (by omega)) rfl rfl rfl rfl rfl rfl rfl rfl (s22 (ByteArray.mk #[107]) (by decide) awC awMay (by decide)) ?_
 intro n3 hn3
 refine OA.callP (dst := (some 9)) (all := [(.string (ByteArray.mk #[107])), (.string (ckS (ByteArray.mk #[107]) awC)), (.int .i64 5)]) (v := (.tuple ⟨[(.agg ⟨xCk41⟩), (.int .i64 0), (.int .i64 0)]⟩)) (hd.up (by omega)) rfl rfl rfl rfl rfl rfl rfl rfl (ownE (ByteArray.mk #[107]) (by decide) awC awMay (by decide) 5 (by omega) (by decide)) ?_
 intro n4 hn4
 refine OA.pure (dst := (some 4)) (v := (.tuple ⟨[(.agg ⟨xCk41⟩), (.int .i64 0), (.int .i64 0)]⟩)) rfl rfl rfl rfl ?_
 refine OA.pure (dst := (some 10)) (v := (.agg ⟨xCk41⟩)) rfl rfl rfl rfl ?_
 refine OA.pure (dst := (some 11)) (v := (.int .i64 0)) rfl rfl rfl rfl ?_
 refine OA.pure (dst := (some 12)) (v := (.int .i64 0)) rfl rfl rfl rfl ?_
 refine OA.op1 (dst := (some 1)) (v := (Pt n4 0 0)) (n1 := (n4 + 1)) (w := (n4, some ⟨[[(.int .i64 0), (.int .u32 0), (.int .u32 0), (.int .u32 0), (.int .u32 0), (.int .u32 0), (.int .u32 0), (.int .i64 0), (.int .i64 0), (.int .u32 0), (.int .i64 0), (.int .i64 0), (.int .u32 0), (.int .u32 0), (.string ByteArray.empty), (.string ByteArray.empty)]], 16, 35, true⟩)) rfl rfl rfl rfl (by omega) ?_
 refine OA.op1 (dst := none) (v := (.tuple #[])) (n1 := (n4 + 1)) (w := (n4, some ⟨[xCk41], 16, 35, true⟩)) rfl rfl rfl (r_store rfl rfl rfl rfl rfl rfl rfl get_here rfl rfl (Nat.le_of_ble_eq_true rfl) rfl) (by omega) ?_
 refine OA.pure (dst := (some 2)) (v := (.int .i64 0)) rfl rfl rfl rfl ?_
 refine OA.pure (dst := (some 3)) (v := (.int .i64 0)) rfl rfl rfl rfl ?_
 refine OA.nil ?_
 intro _
 refine RA.weaken (D' := [(n4, some ⟨[xCk41], 16, 35, true⟩)]) hd (Less.of (fac (mm (fun _ => get_here) (fun _ => get_here)) fan) (gone_of (by simp only [goneP, memP, List.cons_append, List.nil_append, true_or, or_true, true_and, and_true, or_false] <;> omega))) ?_
 refine RA.seq hd ?_
 refine RA.region env_ok ?_
 refine OA.pure (dst := (some 13)) (v := (.int .i64 0)) rfl rfl rfl rfl ?_
 refine OA.pure (dst := (some 14)) (v := (.bool true)) rfl rfl rfl (r_bin rfl rfl rfl (b_eql rfl)) ?_
 refine OA.pure (dst := (some 15)) (v := (.bool true)) rfl rfl rfl rfl ?_
 refine OA.pure (dst := (some 16)) (v := (.int .i64 0)) rfl rfl rfl rfl ?_
 refine OA.pure (dst := (some 17)) (v := (.bool true)) rfl rfl rfl (r_bin rfl rfl rfl (b_eql rfl)) ?_
 refine OA.pure (dst := (some 18)) (v := (.bool true)) rfl rfl rfl rfl ?_
 refine OA.pure (dst := (some 19)) (v := (.bool true)) rfl rfl rfl rfl ?_
 refine OA.pure (dst := (some 20)) (v := (Pt n4 0 1)) rfl rfl rfl rfl ?_
 refine OA.pure (dst := (some 21)) (v := (W awC.mine)) rfl rfl rfl (r_load1 rfl rfl rfl rfl rfl get_here rfl rfl) ?_
 by_cases hc1 : (awC.mine.toNat : Int) = 1
 ·
  refine OA.pure (dst := (some 22)) (v := (.bool true)) rfl rfl rfl (Eq.trans (r_bin rfl rfl rfl (b_eql rfl)) (by first | (rw [decide_eq_true hc1]; done) | (rw [decide_eq_true hc1]; rfl))) ?_
  refine OA.pure (dst := (some 23)) (v := (.bool true)) rfl rfl rfl rfl ?_
  refine OA.pure (dst := (some 24)) (v := (.bool true)) rfl rfl rfl rfl ?_
  refine OA.pure (dst := (some 25)) (v := (Pt n4 0 2)) rfl rfl rfl rfl ?_
  refine OA.pure (dst := (some 26)) (v := (W awC.yours)) rfl rfl rfl (r_load1 rfl rfl rfl rfl rfl get_here rfl rfl) ?_
  refine OA.pure (dst := (some 27)) (v := (.bool (decide ((awC.yours.toNat : Int) = 2)))) rfl rfl rfl (r_bin rfl rfl rfl (b_eql rfl)) ?_
  refine OA.pure (dst := (some 28)) (v := (.bool (decide ((awC.yours.toNat : Int) = 2)))) rfl rfl rfl rfl ?_
  refine OA.pure (dst := (some 0)) (v := (.bool (decide ((awC.yours.toNat : Int) = 2)))) rfl rfl rfl rfl ?_
  refine OA.nil ?_
  intro _
  refine RA.rebase [(0, (.bool (decide ((awC.yours.toNat : Int) = 2)))), (1, (Pt n4 0 0)), (2, (.int .i64 0)), (3, (.int .i64 0))] ⟨rfl, rfl, rfl, rfl, trivial⟩ (fun τr5 => ?_)
  refine RA.ret env_ok ?_
  refine ⟨.inr rfl, [(.bool (decide ((awC.yours.toNat : Int) = 2)))], (resL_cons rfl resL_nil), rfl, (kc1 (by omega))⟩
 · exfalso; exact hc1 rfl
end Go.Proofs.Ytdnkhdkflemkeaa.Vt
