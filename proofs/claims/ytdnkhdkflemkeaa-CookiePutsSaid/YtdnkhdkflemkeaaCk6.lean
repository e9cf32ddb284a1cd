/- Ck6: walks through functions of the program, by the calculus; written by a program of this workplace. -/
import Derived.Test.YtdnkhdkflemkeaaCk4
import Derived.Test.YtdnkhdkflemkeaaVm5
namespace Go.Proofs.Ytdnkhdkflemkeaa.Vt
open Go Go.Proofs Go.Proofs.YtdnkhdkflemkeaaV
set_option maxRecDepth 100000
set_option linter.unusedVariables false
set_option linter.unusedSimpArgs false
theorem bent_L {s : ByteArray} (hs : s.size = 104) (i : Nat) (c : UInt8) : L (bstr ((((L s).set i ((L s).getD i 0 ^^^ c)).drop 0).take 104)) = (L s).set i ((L s).getD i 0 ^^^ c) := by
  rw [L_bstr, List.drop_zero, List.take_of_length_le (by rw [List.length_set, L_len, hs]; exact Nat.le_refl _)]
theorem bent_size {s : ByteArray} (hs : s.size = 104) (i : Nat) (c : UInt8) : (bstr ((((L s).set i ((L s).getD i 0 ^^^ c)).drop 0).take 104)).size = 104 := by
  rw [← L_len, bent_L hs, List.length_set, L_len, hs]
theorem bent_same {s : ByteArray} (hs : s.size = 104) (i : Nat) : bstr ((((L s).set i ((L s).getD i 0 ^^^ 0)).drop 0).take 104) = s := by
  apply L_ext
  rw [bent_L hs, UInt8.xor_zero]
  apply List.ext_getElem?
  intro j
  by_cases hj : i = j
  · subst hj
    by_cases hi : i < (L s).length
    · rw [List.getElem?_set_self hi, List.getD_eq_getElem?_getD, List.getElem?_eq_getElem hi]
      rfl
    · rw [List.getElem?_eq_none (by rw [List.length_set]; omega), List.getElem?_eq_none (by omega)]
  · rw [List.getElem?_set_ne hj]
theorem bent_body {s : ByteArray} (hs : s.size = 104) {i : Nat} (hi : 84 ≤ i) (c : UInt8) : (bstr ((((L s).set i ((L s).getD i 0 ^^^ c)).drop 0).take 104)).extract 0 ((bstr ((((L s).set i ((L s).getD i 0 ^^^ c)).drop 0).take 104)).size - 20) = s.extract 0 (s.size - 20) := by
  apply L_ext
  rw [L_extract, L_extract, bent_L hs, bent_size hs, hs, List.drop_zero, List.drop_zero]
  apply List.ext_getElem?
  intro j
  rw [List.getElem?_take, List.getElem?_take]
  split
  · rw [List.getElem?_set_ne (by omega)]
  · rfl
theorem bent_ne {s : ByteArray} (hs : s.size = 104) {i : Nat} (hi : 84 ≤ i) (hi2 : i < 104) {c : UInt8} (h : (bstr ((((L s).set i ((L s).getD i 0 ^^^ c)).drop 0).take 104)).extract ((bstr ((((L s).set i ((L s).getD i 0 ^^^ c)).drop 0).take 104)).size - 20) (bstr ((((L s).set i ((L s).getD i 0 ^^^ c)).drop 0).take 104)).size = s.extract (s.size - 20) s.size) : c = 0 := by
  have h1 := congrArg L h
  rw [L_extract, L_extract, bent_L hs, bent_size hs, hs] at h1
  have key : ∀ l : List UInt8, ((l.drop (104 - 20)).take (104 - (104 - 20))).getD (i - 84) 0 = l.getD i 0 := fun l => by
    rw [List.getD_eq_getElem?_getD, List.getD_eq_getElem?_getD, List.getElem?_take, if_pos (by omega), List.getElem?_drop, show 104 - 20 + (i - 84) = i by omega]
  have h3 := congrArg (fun l => l.getD (i - 84) 0) h1
  simp only [key] at h3
  rw [lset_self (by rw [L_len]; omega)] at h3
  have h4 : ((L s).getD i 0 ^^^ c) ^^^ (L s).getD i 0 = (L s).getD i 0 ^^^ (L s).getD i 0 := by rw [h3]
  rw [UInt8.xor_self, UInt8.xor_comm, ← UInt8.xor_assoc, UInt8.xor_self, UInt8.zero_xor] at h4
  exact h4
theorem bentE {σ : Store} (key : ByteArray) (hk : key.size < 4294967296) (c : Ck) (h : MayN c) (hm : c.made < 9223372036854775808) {i : Nat} {c1 : UInt8} (h1 : c1 = 0) : PS Try.prog noDen 28 [(.string key), (.string (bstr ((((L (ckS key c)).set i ((L (ckS key c)).getD i 0 ^^^ c1)).drop 0).take 104))), (.int .i64 0)] σ (.tuple #[(.agg ⟨[(.int .i64 ((c.made : Nat) : Int)), (W c.mine), (W c.yours), (W c.mt), (W c.yt), (W c.peer), (W c.loc), (.int .i64 ((c.pp : Nat) : Int)), (.int .i64 ((c.mp : Nat) : Int)), (W c.rwnd), (.int .i64 ((c.ou : Nat) : Int)), (.int .i64 ((c.inn : Nat) : Int)), (W c.tm), (W c.ty), (.string c.mr), (.string c.rn)]⟩), .int .i64 0, .int .i64 0]) := by
  subst h1
  rw [bent_same (ckS_size key c h) i]
  exact ownE key hk c h hm 0 (by omega) (by omega)
theorem bentN {σ : Store} (key : ByteArray) (hk : key.size < 4294967296) (c : Ck) (h : MayN c) (hm : c.made < 9223372036854775808) {i : Nat} (hi : 84 ≤ i) (hi2 : i < 104) {c1 : UInt8} (h1 : ¬ c1 = 0) : PS Try.prog noDen 28 [(.string key), (.string (bstr ((((L (ckS key c)).set i ((L (ckS key c)).getD i 0 ^^^ c1)).drop 0).take 104))), (.int .i64 0)] σ (.tuple #[(.agg ⟨[(.int .i64 0), (.int .u32 0), (.int .u32 0), (.int .u32 0), (.int .u32 0), (.int .u32 0), (.int .u32 0), (.int .i64 0), (.int .i64 0), (.int .u32 0), (.int .i64 0), (.int .i64 0), (.int .u32 0), (.int .u32 0), (.string ByteArray.empty), (.string ByteArray.empty)]⟩), .int .i64 0, .int .i64 100]) :=
  gB key _ hk (by rw [bent_size (ckS_size key c h)]; decide) 0 (by omega) (by rw [bent_size (ckS_size key c h)]; decide) (fun hq => h1 (bent_ne (ckS_size key c h) hi hi2 (by rw [bent_body (ckS_size key c h) hi, own_body key c h] at hq; rw [hq, own_tail key c h])))
theorem c1_iff {c1 : UInt8} : (((c1.toNat : Nat) : Int) = 0) ↔ c1 = 0 := by
  rw [← UInt8.toNat_inj]
  show _ ↔ c1.toNat = 0
  omega
def rk (c : CkI) : CkI := ⟨c.made, c.mine, c.yours, c.mt, c.yt, c.peer, c.loc, c.pp, c.mp, c.rwnd, c.ou, c.inn, c.tm, c.ty, rnd c.mr, rnd c.rn⟩
abbrev xCk61 (c : Ck) : List Value := [(.int .i64 ((c.made : Nat) : Int)), (W c.mine), (W c.yours), (W c.mt), (W c.yt), (W c.peer), (W c.loc), (.int .i64 ((c.pp : Nat) : Int)), (.int .i64 ((c.mp : Nat) : Int)), (W c.rwnd), (.int .i64 ((c.ou : Nat) : Int)), (.int .i64 ((c.inn : Nat) : Int)), (W c.tm), (W c.ty), (.string c.mr), (.string c.rn)]
abbrev xCk62 : List Value := [(.int .i64 0), (.int .u32 0), (.int .u32 0), (.int .u32 0), (.int .u32 0), (.int .u32 0), (.int .u32 0), (.int .i64 0), (.int .i64 0), (.int .u32 0), (.int .i64 0), (.int .i64 0), (.int .u32 0), (.int .u32 0), (.string ByteArray.empty), (.string ByteArray.empty)]
abbrev xCk63 (c : CkI) : List Value := [(.int .i64 c.made), (W c.mine), (W c.yours), (W c.mt), (W c.yt), (W c.peer), (W c.loc), (.int .i64 c.pp), (.int .i64 c.mp), (W c.rwnd), (.int .i64 c.ou), (.int .i64 c.inn), (W c.tm), (W c.ty), (.string (rnd c.mr)), (.string (rnd c.rn))]
abbrev xCk64 (c : CkI) : List Value := [(.int .i64 c.made), (W c.mine), (W c.yours), (W c.mt), (W c.yt), (W c.peer), (W c.loc), (.int .i64 c.pp), (.int .i64 c.mp), (W c.rwnd), (.int .i64 c.ou), (.int .i64 c.inn), (W c.tm), (W c.ty), (.string (rnd c.mr)), (.string c.rn)]
abbrev xCk65 (c : CkI) : List Value := [(.int .i64 c.made), (W c.mine), (W c.yours), (W c.mt), (W c.yt), (W c.peer), (W c.loc), (.int .i64 c.pp), (.int .i64 c.mp), (W c.rwnd), (.int .i64 c.ou), (.int .i64 c.inn), (W c.tm), (W c.ty), (.string c.mr), (.string c.rn)]
theorem suf8Z {n : Nat} {σ : Store} (hd : Dom n σ) (key : ByteArray) (hk : key.size ≤ 100) (now : Int) (hnow : -9223372036854775808 ≤ now ∧ now ≤ 9223372036854775807) (p8 : Nat) (g1 : n ≤ p8) (c : CkI) (h : ¬ MayI c) (m0 : Nat) (hm0 : p8 + 1 ≤ m0) (τ0 : Tm) : RA Try.prog env n σ Try.f8.ntmps (right 4 (Try.f8.body.getD .skip)) (upds τ0 [(2, (.int .i64 now)), (7, (.string key)), (8, (Pt p8 0 0))]) m0 [(p8, some ⟨[[(.int .i64 c.made), (W c.mine), (W c.yours), (W c.mt), (W c.yt), (W c.peer), (W c.loc), (.int .i64 c.pp), (.int .i64 c.mp), (W c.rwnd), (.int .i64 c.ou), (.int .i64 c.inn), (W c.tm), (W c.ty), (.string c.mr), (.string c.rn)]], 16, 35, true⟩)] (fun x τ' n' D => (x = .normal ∨ x = .ret) ∧ ∃ vs, resL env τ' (app D σ) Try.f8.results.toList = some vs ∧ one vs = (.bool true) ∧ ∀ i ∈ keys D, n ≤ i ∧ i < n') := by
 refine RA.seq hd ?_
 refine RA.region env_ok ?_
 refine OA.pure (dst := (some 31)) (v := (.string key)) rfl rfl rfl rfl ?_
 refine OA.pure (dst := (some 32)) (v := (.agg ⟨(xCk65 c)⟩)) rfl rfl rfl (r_loadA rfl rfl rfl rfl get_here rfl rfl rfl) ?_
 refine OA.callP (dst := (some 33)) (all := [(.string key), (.agg ⟨(xCk65 c)⟩)]) (v := (.string (ByteArray.mk #[]))) (hd.of (by omega) (kb1 (by omega))) rfl rfl rfl rfl rfl rfl rfl rfl (s22Z key c h) ?_
 intro n1 hn1
 refine OA.pure (dst := (some 9)) (v := (.string (ByteArray.mk #[]))) rfl rfl rfl rfl ?_
 refine OA.nil ?_
 intro _
 refine RA.seq hd ?_
 refine RA.seq hd ?_
 refine RA.par (md := [some [], some [], some [], some [], some [], some [p8], some [], some [], some [], some [], some [p8], some [], some [p8], some [], some [], some [], some [], some [p8], some [], some [], some [], some [], some []]) env_ok (hd.of (by omega) (kb1 (by omega))) (by kernel_rfl) ?_
 refine PQ.callP (dst := (some 34)) (all := []) (v := (.bool true)) noStore (dom_none _) rfl rfl rfl rfl rfl rfl rfl rfl (none_ok _ _) s23 ?_
 intro n2 hn2
 refine PQ.pure (dst := (some 35)) (v := (.bool false)) rfl rfl rfl noStore (none_ok _ _) rfl ?_
 refine PQ.pure (dst := (some 36)) (v := (.bool false)) rfl rfl rfl noStore (none_ok _ _) rfl ?_
 refine PQ.pure (dst := (some 37)) (v := (.string (ByteArray.mk #[]))) rfl rfl rfl noStore (none_ok _ _) rfl ?_
 refine PQ.pure (dst := (some 38)) (v := (.string key)) rfl rfl rfl noStore (none_ok _ _) rfl ?_
 refine PQ.pure (dst := (some 39)) (v := (.agg ⟨(xCk65 c)⟩)) rfl rfl rfl (app [(p8, some ⟨[(xCk65 c)], 16, 35, true⟩)] noStore) (seen_one (V := []) (D := [(p8, some ⟨[(xCk65 c)], 16, 35, true⟩)]) (by kernel_rfl) get_here) (r_loadA rfl rfl rfl rfl get_here rfl rfl rfl) ?_
 refine PQ.callP (dst := (some 40)) (all := [(.string key), (.agg ⟨(xCk65 c)⟩)]) (v := (.string (ByteArray.mk #[]))) noStore (dom_none _) rfl rfl rfl rfl rfl rfl rfl rfl (none_ok _ _) (s24Z key c h) ?_
 intro n3 hn3
 refine PQ.pure (dst := (some 41)) (v := (.bool false)) rfl rfl rfl noStore (none_ok _ _) (Eq.trans (r_neqS rfl rfl rfl) (by rw [decide_eq_true rfl] <;> rfl)) ?_
 refine PQ.pure (dst := (some 42)) (v := (.bool false)) rfl rfl rfl noStore (none_ok _ _) rfl ?_
 refine PQ.pure (dst := (some 43)) (v := (.bool false)) rfl rfl rfl noStore (none_ok _ _) rfl ?_
 refine PQ.pure (dst := (some 44)) (v := (.agg ⟨(xCk65 c)⟩)) rfl rfl rfl (app [(p8, some ⟨[(xCk65 c)], 16, 35, true⟩)] noStore) (seen_one (V := []) (D := [(p8, some ⟨[(xCk65 c)], 16, 35, true⟩)]) (by kernel_rfl) get_here) (r_loadA rfl rfl rfl rfl get_here rfl rfl rfl) ?_
 refine PQ.callP (dst := (some 45)) (all := [(.agg ⟨(xCk65 c)⟩)]) (v := (.string (ByteArray.mk #[]))) noStore (dom_none _) rfl rfl rfl rfl rfl rfl rfl rfl (none_ok _ _) (s25Z c h) ?_
 intro n4 hn4
 refine PQ.pure (dst := (some 46)) (v := (.agg ⟨(xCk65 c)⟩)) rfl rfl rfl (app [(p8, some ⟨[(xCk65 c)], 16, 35, true⟩)] noStore) (seen_one (V := []) (D := [(p8, some ⟨[(xCk65 c)], 16, 35, true⟩)]) (by kernel_rfl) get_here) (r_loadA rfl rfl rfl rfl get_here rfl rfl rfl) ?_
 refine PQ.callP (dst := (some 47)) (all := [(.agg ⟨(xCk65 c)⟩)]) (v := (.string (ByteArray.mk #[]))) noStore (dom_none _) rfl rfl rfl rfl rfl rfl rfl rfl (none_ok _ _) (s26Z c h) ?_
 intro n5 hn5
 refine PQ.pure (dst := (some 48)) (v := (.bool false)) rfl rfl rfl noStore (none_ok _ _) (Eq.trans (r_neqS rfl rfl rfl) (by rw [decide_eq_true rfl] <;> rfl)) ?_
 refine PQ.pure (dst := (some 49)) (v := (.bool false)) rfl rfl rfl noStore (none_ok _ _) rfl ?_
 refine PQ.pure (dst := (some 50)) (v := (.bool false)) rfl rfl rfl noStore (none_ok _ _) rfl ?_
 refine PQ.pure (dst := (some 51)) (v := (.agg ⟨(xCk65 c)⟩)) rfl rfl rfl (app [(p8, some ⟨[(xCk65 c)], 16, 35, true⟩)] noStore) (seen_one (V := []) (D := [(p8, some ⟨[(xCk65 c)], 16, 35, true⟩)]) (by kernel_rfl) get_here) (r_loadA rfl rfl rfl rfl get_here rfl rfl rfl) ?_
 refine PQ.callP (dst := (some 52)) (all := [(.agg ⟨(xCk65 c)⟩)]) (v := (.bool false)) noStore (dom_none _) rfl rfl rfl rfl rfl rfl rfl rfl (none_ok _ _) (s27Z c h) ?_
 intro n6 hn6
 refine PQ.pure (dst := (some 53)) (v := (.string (ByteArray.mk #[]))) rfl rfl rfl noStore (none_ok _ _) rfl ?_
 refine PQ.pure (dst := (some 54)) (v := (.bool false)) rfl rfl rfl noStore (none_ok _ _) (Eq.trans (r_neqS rfl rfl rfl) (by rw [decide_eq_true rfl] <;> rfl)) ?_
 refine PQ.pure (dst := (some 55)) (v := (.bool false)) rfl rfl rfl noStore (none_ok _ _) rfl ?_
 refine PQ.pure (dst := (some 56)) (v := (.bool false)) rfl rfl rfl noStore (none_ok _ _) rfl ?_
 refine PQ.done (d := []) (by kernel_rfl) ?_
 intro _
 refine RA.rebase [(2, (.int .i64 now)), (7, (.string key)), (8, (Pt p8 0 0)), (9, (.string (ByteArray.mk #[]))), (56, (.bool false))] ⟨rfl, rfl, rfl, rfl, rfl, trivial⟩ (fun τr7 => ?_)
 refine RA.cond (t := false) rfl (fun hc => ?_) (fun hc => ?_)
 · cases hc
 ·
  refine RA.skip env_ok ?_
  intro _
  refine RA.seq hd ?_
  refine RA.region env_ok ?_
  refine OA.pure (dst := (some 58)) (v := (.string key)) rfl rfl rfl rfl ?_
  refine OA.pure (dst := (some 59)) (v := (.string (ByteArray.mk #[]))) rfl rfl rfl rfl ?_
  refine OA.pure (dst := (some 60)) (v := (.int .i64 now)) rfl rfl rfl rfl ?_
  refine OA.callP (dst := (some 61)) (all := [(.string key), (.string (ByteArray.mk #[])), (.int .i64 now)]) (v := (.tuple ⟨[(.agg ⟨xCk62⟩), (.int .i64 0), (.int .i64 2)]⟩)) (hd.of (by omega) (kb1 (by omega))) rfl rfl rfl rfl rfl rfl rfl rfl (gA key (ByteArray.mk #[]) (by omega) (by decide) now hnow (by decide)) ?_
  intro n8 hn8
  refine OA.pure (dst := (some 57)) (v := (.tuple ⟨[(.agg ⟨xCk62⟩), (.int .i64 0), (.int .i64 2)]⟩)) rfl rfl rfl rfl ?_
  refine OA.pure (dst := (some 62)) (v := (.agg ⟨xCk62⟩)) rfl rfl rfl rfl ?_
  refine OA.pure (dst := (some 63)) (v := (.int .i64 0)) rfl rfl rfl rfl ?_
  refine OA.pure (dst := (some 64)) (v := (.int .i64 2)) rfl rfl rfl rfl ?_
  refine OA.op1 (dst := (some 10)) (v := (Pt n8 0 0)) (n1 := (n8 + 1)) (w := (n8, some ⟨[xCk62], 16, 35, true⟩)) rfl rfl rfl rfl (by omega) ?_
  refine OA.op1 (dst := none) (v := (.tuple #[])) (n1 := (n8 + 1)) (w := (n8, some ⟨[xCk62], 16, 35, true⟩)) rfl rfl rfl (r_store rfl rfl rfl rfl rfl rfl rfl get_here rfl rfl (Nat.le_of_ble_eq_true rfl) rfl) (by omega) ?_
  refine OA.pure (dst := (some 11)) (v := (.int .i64 0)) rfl rfl rfl rfl ?_
  refine OA.pure (dst := (some 12)) (v := (.int .i64 2)) rfl rfl rfl rfl ?_
  refine OA.nil ?_
  intro _
  refine RA.weaken (D' := [(n8, some ⟨[xCk62], 16, 35, true⟩), (p8, some ⟨[(xCk65 c)], 16, 35, true⟩)]) hd (Less.of (fac (mm (fun _ => get_here) (fun _ => get_here)) (fac (mm (fun _ => (get_there (by omega) get_here)) (fun _ => (get_there (by omega) (get_there (by omega) get_here)))) fan)) (gone_of (by simp only [goneP, memP, List.cons_append, List.nil_append, true_or, or_true, true_and, and_true, or_false] <;> omega))) ?_
  refine RA.seq hd ?_
  refine RA.seq hd ?_
  refine RA.region env_ok ?_
  refine OA.pure (dst := (some 65)) (v := (.string (ByteArray.mk #[]))) rfl rfl rfl rfl ?_
  refine OA.pure (dst := (some 66)) (v := (.bool true)) rfl rfl rfl (Eq.trans (r_eqlS rfl rfl rfl) (by rw [decide_eq_true rfl] <;> rfl)) ?_
  refine OA.nil ?_
  intro _
  refine RA.cond (t := true) rfl (fun hc => ?_) (fun hc => ?_)
  ·
   refine RA.seq hd ?_
   refine RA.region env_ok ?_
   refine OA.pure (dst := (some 67)) (v := (.int .i64 2)) rfl rfl rfl rfl ?_
   refine OA.pure (dst := (some 68)) (v := (.bool true)) rfl rfl rfl (r_bin rfl rfl rfl (b_eql rfl)) ?_
   refine OA.pure (dst := (some 6)) (v := (.bool true)) rfl rfl rfl rfl ?_
   refine OA.nil ?_
   intro _
   refine RA.ret env_ok ?_
   refine ⟨.inr rfl, [(.bool true)], (resL_cons rfl resL_nil), rfl, (kc2 (by omega))⟩
  · cases hc

theorem suf8N {n : Nat} {σ : Store} (hd : Dom n σ) (key : ByteArray) (hk : key.size ≤ 100) (now : Int) (hnow : -9223372036854775808 ≤ now ∧ now ≤ 9223372036854775807) (p8 : Nat) (g1 : n ≤ p8) (c : Ck) (h : MayN c) (hm : c.made < 9223372036854775808) (m0 : Nat) (hm0 : p8 + 1 ≤ m0) (τ0 : Tm) : RA Try.prog env n σ Try.f8.ntmps (right 4 (Try.f8.body.getD .skip)) (upds τ0 [(2, (.int .i64 now)), (7, (.string key)), (8, (Pt p8 0 0))]) m0 [(p8, some ⟨[[(.int .i64 ((c.made : Nat) : Int)), (W c.mine), (W c.yours), (W c.mt), (W c.yt), (W c.peer), (W c.loc), (.int .i64 ((c.pp : Nat) : Int)), (.int .i64 ((c.mp : Nat) : Int)), (W c.rwnd), (.int .i64 ((c.ou : Nat) : Int)), (.int .i64 ((c.inn : Nat) : Int)), (W c.tm), (W c.ty), (.string c.mr), (.string c.rn)]], 16, 35, true⟩)] (fun x τ' n' D => (x = .normal ∨ x = .ret) ∧ ∃ vs, resL env τ' (app D σ) Try.f8.results.toList = some vs ∧ one vs = (.bool true) ∧ ∀ i ∈ keys D, n ≤ i ∧ i < n') := by
 refine RA.seq hd ?_
 refine RA.region env_ok ?_
 refine OA.pure (dst := (some 31)) (v := (.string key)) rfl rfl rfl rfl ?_
 refine OA.pure (dst := (some 32)) (v := (.agg ⟨(xCk61 c)⟩)) rfl rfl rfl (r_loadA rfl rfl rfl rfl get_here rfl rfl rfl) ?_
 refine OA.callP (dst := (some 33)) (all := [(.string key), (.agg ⟨(xCk61 c)⟩)]) (v := (.string (ckS key c))) (hd.of (by omega) (kb1 (by omega))) rfl rfl rfl rfl rfl rfl rfl rfl (s22 key (by omega) c h hm) ?_
 intro n1 hn1
 refine OA.pure (dst := (some 9)) (v := (.string (ckS key c))) rfl rfl rfl rfl ?_
 refine OA.nil ?_
 intro _
 refine RA.seq hd ?_
 refine RA.seq hd ?_
 refine RA.par (md := [some [], some [], some [], some [], some [], some [p8], some [], some [], some [], some [], some [p8], some [], some [p8], some [], some [], some [], some [], some [p8], some [], some [], some [], some [], some []]) env_ok (hd.of (by omega) (kb1 (by omega))) (by kernel_rfl) ?_
 refine PQ.callP (dst := (some 34)) (all := []) (v := (.bool true)) noStore (dom_none _) rfl rfl rfl rfl rfl rfl rfl rfl (none_ok _ _) s23 ?_
 intro n2 hn2
 refine PQ.pure (dst := (some 35)) (v := (.bool false)) rfl rfl rfl noStore (none_ok _ _) rfl ?_
 refine PQ.pure (dst := (some 36)) (v := (.bool false)) rfl rfl rfl noStore (none_ok _ _) rfl ?_
 refine PQ.pure (dst := (some 37)) (v := (.string (ckS key c))) rfl rfl rfl noStore (none_ok _ _) rfl ?_
 refine PQ.pure (dst := (some 38)) (v := (.string key)) rfl rfl rfl noStore (none_ok _ _) rfl ?_
 refine PQ.pure (dst := (some 39)) (v := (.agg ⟨(xCk61 c)⟩)) rfl rfl rfl (app [(p8, some ⟨[(xCk61 c)], 16, 35, true⟩)] noStore) (seen_one (V := []) (D := [(p8, some ⟨[(xCk61 c)], 16, 35, true⟩)]) (by kernel_rfl) get_here) (r_loadA rfl rfl rfl rfl get_here rfl rfl rfl) ?_
 refine PQ.callP (dst := (some 40)) (all := [(.string key), (.agg ⟨(xCk61 c)⟩)]) (v := (.string (ckS key c))) noStore (dom_none _) rfl rfl rfl rfl rfl rfl rfl rfl (none_ok _ _) (s24 key (by omega) c h hm) ?_
 intro n3 hn3
 refine PQ.pure (dst := (some 41)) (v := (.bool false)) rfl rfl rfl noStore (none_ok _ _) (Eq.trans (r_neqS rfl rfl rfl) (by rw [decide_eq_true rfl] <;> rfl)) ?_
 refine PQ.pure (dst := (some 42)) (v := (.bool false)) rfl rfl rfl noStore (none_ok _ _) rfl ?_
 refine PQ.pure (dst := (some 43)) (v := (.bool false)) rfl rfl rfl noStore (none_ok _ _) rfl ?_
 refine PQ.pure (dst := (some 44)) (v := (.agg ⟨(xCk61 c)⟩)) rfl rfl rfl (app [(p8, some ⟨[(xCk61 c)], 16, 35, true⟩)] noStore) (seen_one (V := []) (D := [(p8, some ⟨[(xCk61 c)], 16, 35, true⟩)]) (by kernel_rfl) get_here) (r_loadA rfl rfl rfl rfl get_here rfl rfl rfl) ?_
 refine PQ.callP (dst := (some 45)) (all := [(.agg ⟨(xCk61 c)⟩)]) (v := (.string (bstr (ckB c)))) noStore (dom_none _) rfl rfl rfl rfl rfl rfl rfl rfl (none_ok _ _) (s25 c h hm) ?_
 intro n4 hn4
 refine PQ.pure (dst := (some 46)) (v := (.agg ⟨(xCk61 c)⟩)) rfl rfl rfl (app [(p8, some ⟨[(xCk61 c)], 16, 35, true⟩)] noStore) (seen_one (V := []) (D := [(p8, some ⟨[(xCk61 c)], 16, 35, true⟩)]) (by kernel_rfl) get_here) (r_loadA rfl rfl rfl rfl get_here rfl rfl rfl) ?_
 refine PQ.callP (dst := (some 47)) (all := [(.agg ⟨(xCk61 c)⟩)]) (v := (.string (bstr (ckB c)))) noStore (dom_none _) rfl rfl rfl rfl rfl rfl rfl rfl (none_ok _ _) (s26 c h hm) ?_
 intro n5 hn5
 refine PQ.pure (dst := (some 48)) (v := (.bool false)) rfl rfl rfl noStore (none_ok _ _) (Eq.trans (r_neqS rfl rfl rfl) (by rw [decide_eq_true rfl] <;> rfl)) ?_
 refine PQ.pure (dst := (some 49)) (v := (.bool false)) rfl rfl rfl noStore (none_ok _ _) rfl ?_
 refine PQ.pure (dst := (some 50)) (v := (.bool false)) rfl rfl rfl noStore (none_ok _ _) rfl ?_
 refine PQ.pure (dst := (some 51)) (v := (.agg ⟨(xCk61 c)⟩)) rfl rfl rfl (app [(p8, some ⟨[(xCk61 c)], 16, 35, true⟩)] noStore) (seen_one (V := []) (D := [(p8, some ⟨[(xCk61 c)], 16, 35, true⟩)]) (by kernel_rfl) get_here) (r_loadA rfl rfl rfl rfl get_here rfl rfl rfl) ?_
 refine PQ.callP (dst := (some 52)) (all := [(.agg ⟨(xCk61 c)⟩)]) (v := (.bool true)) noStore (dom_none _) rfl rfl rfl rfl rfl rfl rfl rfl (none_ok _ _) (s27N c h) ?_
 intro n6 hn6
 refine PQ.pure (dst := (some 53)) (v := (.string (ckS key c))) rfl rfl rfl noStore (none_ok _ _) rfl ?_
 by_cases hc1 : (ckS key c) = (ByteArray.mk #[])
 · exfalso; have hz := congrArg ByteArray.size hc1; rw [ckS_size key c h] at hz; exact absurd hz (by decide)
 ·
  refine PQ.pure (dst := (some 54)) (v := (.bool true)) rfl rfl rfl noStore (none_ok _ _) (Eq.trans (r_neqS rfl rfl rfl) (by first | (rw [decide_eq_false hc1]; done) | (rw [decide_eq_false hc1]; rfl))) ?_
  refine PQ.pure (dst := (some 55)) (v := (.bool false)) rfl rfl rfl noStore (none_ok _ _) rfl ?_
  refine PQ.pure (dst := (some 56)) (v := (.bool false)) rfl rfl rfl noStore (none_ok _ _) rfl ?_
  refine PQ.done (d := []) (by kernel_rfl) ?_
  intro _
  refine RA.rebase [(2, (.int .i64 now)), (7, (.string key)), (8, (Pt p8 0 0)), (9, (.string (ckS key c))), (56, (.bool false))] ⟨rfl, rfl, rfl, rfl, rfl, trivial⟩ (fun τr7 => ?_)
  refine RA.cond (t := false) rfl (fun hc => ?_) (fun hc => ?_)
  · cases hc
  ·
   refine RA.skip env_ok ?_
   intro _
   refine RA.seq hd ?_
   refine RA.region env_ok ?_
   refine OA.pure (dst := (some 58)) (v := (.string key)) rfl rfl rfl rfl ?_
   refine OA.pure (dst := (some 59)) (v := (.string (ckS key c))) rfl rfl rfl rfl ?_
   refine OA.pure (dst := (some 60)) (v := (.int .i64 now)) rfl rfl rfl rfl ?_
   by_cases hc2 : (c.made : Int) < now ∧ 600 < now - (c.made : Int)
   ·
    refine OA.callP (dst := (some 61)) (all := [(.string key), (.string (ckS key c)), (.int .i64 now)]) (v := (.tuple ⟨[(.agg ⟨(xCk61 c)⟩), (.int .i64 ((now - (c.made : Int)) - 600)), (.int .i64 101)]⟩)) (hd.of (by omega) (kb1 (by omega))) rfl rfl rfl rfl rfl rfl rfl rfl (ownF key (by omega) c h hm now hnow hc2) ?_
    intro n8 hn8
    refine OA.pure (dst := (some 57)) (v := (.tuple ⟨[(.agg ⟨(xCk61 c)⟩), (.int .i64 ((now - (c.made : Int)) - 600)), (.int .i64 101)]⟩)) rfl rfl rfl rfl ?_
    refine OA.pure (dst := (some 62)) (v := (.agg ⟨(xCk61 c)⟩)) rfl rfl rfl rfl ?_
    refine OA.pure (dst := (some 63)) (v := (.int .i64 ((now - (c.made : Int)) - 600))) rfl rfl rfl rfl ?_
    refine OA.pure (dst := (some 64)) (v := (.int .i64 101)) rfl rfl rfl rfl ?_
    refine OA.op1 (dst := (some 10)) (v := (Pt n8 0 0)) (n1 := (n8 + 1)) (w := (n8, some ⟨[xCk62], 16, 35, true⟩)) rfl rfl rfl rfl (by omega) ?_
    refine OA.op1 (dst := none) (v := (.tuple #[])) (n1 := (n8 + 1)) (w := (n8, some ⟨[(xCk61 c)], 16, 35, true⟩)) rfl rfl rfl (r_store rfl rfl rfl rfl rfl rfl rfl get_here rfl rfl (Nat.le_of_ble_eq_true rfl) rfl) (by omega) ?_
    refine OA.pure (dst := (some 11)) (v := (.int .i64 ((now - (c.made : Int)) - 600))) rfl rfl rfl rfl ?_
    refine OA.pure (dst := (some 12)) (v := (.int .i64 101)) rfl rfl rfl rfl ?_
    refine OA.nil ?_
    intro _
    refine RA.weaken (D' := [(n8, some ⟨[(xCk61 c)], 16, 35, true⟩), (p8, some ⟨[(xCk61 c)], 16, 35, true⟩)]) hd (Less.of (fac (mm (fun _ => get_here) (fun _ => get_here)) (fac (mm (fun _ => (get_there (by omega) get_here)) (fun _ => (get_there (by omega) (get_there (by omega) get_here)))) fan)) (gone_of (by simp only [goneP, memP, List.cons_append, List.nil_append, true_or, or_true, true_and, and_true, or_false] <;> omega))) ?_
    refine RA.seq hd ?_
    refine RA.seq hd ?_
    refine RA.region env_ok ?_
    refine OA.pure (dst := (some 65)) (v := (.string (ckS key c))) rfl rfl rfl rfl ?_
    refine OA.pure (dst := (some 66)) (v := (.bool false)) rfl rfl rfl (Eq.trans (r_eqlS rfl rfl rfl) (by first | (rw [decide_eq_false hc1]; done) | (rw [decide_eq_false hc1]; rfl))) ?_
    refine OA.nil ?_
    intro _
    refine RA.cond (t := false) rfl (fun hc => ?_) (fun hc => ?_)
    · cases hc
    ·
     refine RA.skip env_ok ?_
     intro _
     refine RA.seq hd ?_
     refine RA.seq hd ?_
     refine RA.region env_ok ?_
     refine OA.pure (dst := (some 69)) (v := (.int .i64 now)) rfl rfl rfl rfl ?_
     refine OA.pure (dst := (some 70)) (v := (Pt p8 0 0)) rfl rfl rfl rfl ?_
     refine OA.pure (dst := (some 71)) (v := (.int .i64 ((c.made : Nat) : Int))) rfl rfl rfl (r_load1 rfl rfl rfl rfl rfl (get_there (by omega) get_here) rfl rfl) ?_
     by_cases hc3 : ((c.made : Nat) : Int) < now
     ·
      refine OA.pure (dst := (some 72)) (v := (.bool true)) rfl rfl rfl (Eq.trans (r_bin rfl rfl rfl (b_gtr rfl)) (by first | (rw [decide_eq_true hc3]; done) | (rw [decide_eq_true hc3]; rfl))) ?_
      refine OA.pure (dst := (some 73)) (v := (.bool true)) rfl rfl rfl rfl ?_
      refine OA.pure (dst := (some 74)) (v := (.int .i64 now)) rfl rfl rfl rfl ?_
      refine OA.pure (dst := (some 75)) (v := (Pt p8 0 0)) rfl rfl rfl rfl ?_
      refine OA.pure (dst := (some 76)) (v := (.int .i64 ((c.made : Nat) : Int))) rfl rfl rfl (r_load1 rfl rfl rfl rfl rfl (get_there (by omega) get_here) rfl rfl) ?_
      refine OA.pure (dst := (some 77)) (v := (.int .i64 (now - (c.made : Int)))) rfl rfl rfl (r_bin rfl rfl rfl (b_sub (i64_eq (by omega)))) ?_
      by_cases hc4 : 600 < (now - (c.made : Int))
      ·
       refine OA.pure (dst := (some 78)) (v := (.bool true)) rfl rfl rfl (Eq.trans (r_bin rfl rfl rfl (b_gtr rfl)) (by first | (rw [decide_eq_true hc4]; done) | (rw [decide_eq_true hc4]; rfl))) ?_
       refine OA.pure (dst := (some 79)) (v := (.bool true)) rfl rfl rfl rfl ?_
       refine OA.nil ?_
       intro _
       refine RA.rebase [(2, (.int .i64 now)), (7, (.string key)), (8, (Pt p8 0 0)), (9, (.string (ckS key c))), (10, (Pt n8 0 0)), (11, (.int .i64 ((now - (c.made : Int)) - 600))), (12, (.int .i64 101)), (56, (.bool false)), (66, (.bool false)), (79, (.bool true))] ⟨rfl, rfl, rfl, rfl, rfl, rfl, rfl, rfl, rfl, rfl, trivial⟩ (fun τr9 => ?_)
       refine RA.cond (t := true) rfl (fun hc => ?_) (fun hc => ?_)
       ·
        refine RA.seq hd ?_
        refine RA.region env_ok ?_
        refine OA.pure (dst := (some 80)) (v := (.int .i64 101)) rfl rfl rfl rfl ?_
        refine OA.pure (dst := (some 81)) (v := (.bool true)) rfl rfl rfl (r_bin rfl rfl rfl (b_eql rfl)) ?_
        refine OA.pure (dst := (some 82)) (v := (.bool true)) rfl rfl rfl rfl ?_
        refine OA.pure (dst := (some 83)) (v := (.agg ⟨(xCk61 c)⟩)) rfl rfl rfl (r_loadA rfl rfl rfl rfl get_here rfl rfl rfl) ?_
        refine OA.pure (dst := (some 84)) (v := (.agg ⟨(xCk61 c)⟩)) rfl rfl rfl (r_loadA rfl rfl rfl rfl (get_there (by omega) get_here) rfl rfl rfl) ?_
        refine OA.pure (dst := (some 85)) (v := (.bool true)) rfl rfl rfl (r_eqlA (r := true) rfl rfl rfl (by kernel_rfl) (aeq_self _ _ _ (by kernel_rfl))) ?_
        refine OA.pure (dst := (some 86)) (v := (.bool true)) rfl rfl rfl rfl ?_
        refine OA.pure (dst := (some 87)) (v := (.bool true)) rfl rfl rfl rfl ?_
        refine OA.pure (dst := (some 88)) (v := (.int .i64 ((now - (c.made : Int)) - 600))) rfl rfl rfl rfl ?_
        refine OA.pure (dst := (some 89)) (v := (.int .i64 now)) rfl rfl rfl rfl ?_
        refine OA.pure (dst := (some 90)) (v := (Pt p8 0 0)) rfl rfl rfl rfl ?_
        refine OA.pure (dst := (some 91)) (v := (.int .i64 ((c.made : Nat) : Int))) rfl rfl rfl (r_load1 rfl rfl rfl rfl rfl (get_there (by omega) get_here) rfl rfl) ?_
        refine OA.pure (dst := (some 92)) (v := (.int .i64 (now - (c.made : Int)))) rfl rfl rfl (r_bin rfl rfl rfl (b_sub (i64_eq (by omega)))) ?_
        refine OA.pure (dst := (some 93)) (v := (.int .i64 ((now - (c.made : Int)) - 600))) rfl rfl rfl (r_bin rfl rfl rfl (b_sub (i64_eq (by omega)))) ?_
        refine OA.pure (dst := (some 94)) (v := (.bool true)) rfl rfl rfl (r_bin rfl rfl rfl (b_eql (decide_eq_true rfl))) ?_
        refine OA.pure (dst := (some 95)) (v := (.bool true)) rfl rfl rfl rfl ?_
        refine OA.pure (dst := (some 6)) (v := (.bool true)) rfl rfl rfl rfl ?_
        refine OA.nil ?_
        intro _
        refine RA.ret env_ok ?_
        refine ⟨.inr rfl, [(.bool true)], (resL_cons rfl resL_nil), rfl, (kc2 (by omega))⟩
       · cases hc
      ·
       refine OA.pure (dst := (some 78)) (v := (.bool false)) rfl rfl rfl (Eq.trans (r_bin rfl rfl rfl (b_gtr rfl)) (by first | (rw [decide_eq_false hc4]; done) | (rw [decide_eq_false hc4]; rfl))) ?_
       refine OA.pure (dst := (some 79)) (v := (.bool false)) rfl rfl rfl rfl ?_
       refine OA.nil ?_
       intro _
       refine RA.rebase [(2, (.int .i64 now)), (7, (.string key)), (8, (Pt p8 0 0)), (9, (.string (ckS key c))), (10, (Pt n8 0 0)), (11, (.int .i64 ((now - (c.made : Int)) - 600))), (12, (.int .i64 101)), (56, (.bool false)), (66, (.bool false)), (79, (.bool false))] ⟨rfl, rfl, rfl, rfl, rfl, rfl, rfl, rfl, rfl, rfl, trivial⟩ (fun τr10 => ?_)
       refine RA.cond (t := false) rfl (fun hc => ?_) (fun hc => ?_)
       · cases hc
       ·
        refine RA.skip env_ok ?_
        intro _
        refine RA.seq hd ?_
        refine RA.region env_ok ?_
        refine OA.pure (dst := (some 96)) (v := (.int .i64 101)) rfl rfl rfl rfl ?_
        refine OA.pure (dst := (some 97)) (v := (.bool false)) rfl rfl rfl (r_bin rfl rfl rfl (b_eql rfl)) ?_
        refine OA.pure (dst := (some 98)) (v := (.bool false)) rfl rfl rfl rfl ?_
        refine OA.off (dst := (some 99)) rfl rfl rfl ?_
        refine OA.off (dst := (some 100)) rfl rfl rfl ?_
        refine OA.off (dst := (some 101)) rfl rfl rfl ?_
        refine OA.pure (dst := (some 102)) (v := (.bool false)) rfl rfl rfl rfl ?_
        refine OA.pure (dst := (some 103)) (v := (.bool false)) rfl rfl rfl rfl ?_
        refine OA.off (dst := (some 104)) rfl rfl rfl ?_
        refine OA.off (dst := (some 105)) rfl rfl rfl ?_
        refine OA.pure (dst := (some 106)) (v := (.bool false)) rfl rfl rfl rfl ?_
        refine OA.pure (dst := (some 6)) (v := (.bool false)) rfl rfl rfl rfl ?_
        refine OA.nil ?_
        intro _
        refine RA.ret env_ok ?_
        refine ⟨.inr rfl, [(.bool false)], (resL_cons rfl resL_nil), (by exfalso; omega), (kc2 (by omega))⟩
     ·
      refine OA.pure (dst := (some 72)) (v := (.bool false)) rfl rfl rfl (Eq.trans (r_bin rfl rfl rfl (b_gtr rfl)) (by first | (rw [decide_eq_false hc3]; done) | (rw [decide_eq_false hc3]; rfl))) ?_
      refine OA.pure (dst := (some 73)) (v := (.bool false)) rfl rfl rfl rfl ?_
      refine OA.off (dst := (some 74)) rfl rfl rfl ?_
      refine OA.off (dst := (some 75)) rfl rfl rfl ?_
      refine OA.off (dst := (some 76)) rfl rfl rfl ?_
      refine OA.off (dst := (some 77)) rfl rfl rfl ?_
      refine OA.off (dst := (some 78)) rfl rfl rfl ?_
      refine OA.pure (dst := (some 79)) (v := (.bool false)) rfl rfl rfl rfl ?_
      refine OA.nil ?_
      intro _
      refine RA.rebase [(2, (.int .i64 now)), (7, (.string key)), (8, (Pt p8 0 0)), (9, (.string (ckS key c))), (10, (Pt n8 0 0)), (11, (.int .i64 ((now - (c.made : Int)) - 600))), (12, (.int .i64 101)), (56, (.bool false)), (66, (.bool false)), (79, (.bool false))] ⟨rfl, rfl, rfl, rfl, rfl, rfl, rfl, rfl, rfl, rfl, trivial⟩ (fun τr11 => ?_)
      refine RA.cond (t := false) rfl (fun hc => ?_) (fun hc => ?_)
      · cases hc
      ·
       refine RA.skip env_ok ?_
       intro _
       refine RA.seq hd ?_
       refine RA.region env_ok ?_
       refine OA.pure (dst := (some 96)) (v := (.int .i64 101)) rfl rfl rfl rfl ?_
       refine OA.pure (dst := (some 97)) (v := (.bool false)) rfl rfl rfl (r_bin rfl rfl rfl (b_eql rfl)) ?_
       refine OA.pure (dst := (some 98)) (v := (.bool false)) rfl rfl rfl rfl ?_
       refine OA.off (dst := (some 99)) rfl rfl rfl ?_
       refine OA.off (dst := (some 100)) rfl rfl rfl ?_
       refine OA.off (dst := (some 101)) rfl rfl rfl ?_
       refine OA.pure (dst := (some 102)) (v := (.bool false)) rfl rfl rfl rfl ?_
       refine OA.pure (dst := (some 103)) (v := (.bool false)) rfl rfl rfl rfl ?_
       refine OA.off (dst := (some 104)) rfl rfl rfl ?_
       refine OA.off (dst := (some 105)) rfl rfl rfl ?_
       refine OA.pure (dst := (some 106)) (v := (.bool false)) rfl rfl rfl rfl ?_
       refine OA.pure (dst := (some 6)) (v := (.bool false)) rfl rfl rfl rfl ?_
       refine OA.nil ?_
       intro _
       refine RA.ret env_ok ?_
       refine ⟨.inr rfl, [(.bool false)], (resL_cons rfl resL_nil), (by exfalso; omega), (kc2 (by omega))⟩
   ·
    refine OA.callP (dst := (some 61)) (all := [(.string key), (.string (ckS key c)), (.int .i64 now)]) (v := (.tuple ⟨[(.agg ⟨(xCk61 c)⟩), (.int .i64 0), (.int .i64 0)]⟩)) (hd.of (by omega) (kb1 (by omega))) rfl rfl rfl rfl rfl rfl rfl rfl (ownE key (by omega) c h hm now hnow hc2) ?_
    intro n12 hn12
    refine OA.pure (dst := (some 57)) (v := (.tuple ⟨[(.agg ⟨(xCk61 c)⟩), (.int .i64 0), (.int .i64 0)]⟩)) rfl rfl rfl rfl ?_
    refine OA.pure (dst := (some 62)) (v := (.agg ⟨(xCk61 c)⟩)) rfl rfl rfl rfl ?_
    refine OA.pure (dst := (some 63)) (v := (.int .i64 0)) rfl rfl rfl rfl ?_
    refine OA.pure (dst := (some 64)) (v := (.int .i64 0)) rfl rfl rfl rfl ?_
    refine OA.op1 (dst := (some 10)) (v := (Pt n12 0 0)) (n1 := (n12 + 1)) (w := (n12, some ⟨[xCk62], 16, 35, true⟩)) rfl rfl rfl rfl (by omega) ?_
    refine OA.op1 (dst := none) (v := (.tuple #[])) (n1 := (n12 + 1)) (w := (n12, some ⟨[(xCk61 c)], 16, 35, true⟩)) rfl rfl rfl (r_store rfl rfl rfl rfl rfl rfl rfl get_here rfl rfl (Nat.le_of_ble_eq_true rfl) rfl) (by omega) ?_
    refine OA.pure (dst := (some 11)) (v := (.int .i64 0)) rfl rfl rfl rfl ?_
    refine OA.pure (dst := (some 12)) (v := (.int .i64 0)) rfl rfl rfl rfl ?_
    refine OA.nil ?_
    intro _
    refine RA.weaken (D' := [(n12, some ⟨[(xCk61 c)], 16, 35, true⟩), (p8, some ⟨[(xCk61 c)], 16, 35, true⟩)]) hd (Less.of (fac (mm (fun _ => get_here) (fun _ => get_here)) (fac (mm (fun _ => (get_there (by omega) get_here)) (fun _ => (get_there (by omega) (get_there (by omega) get_here)))) fan)) (gone_of (by simp only [goneP, memP, List.cons_append, List.nil_append, true_or, or_true, true_and, and_true, or_false] <;> omega))) ?_
    refine RA.seq hd ?_
    refine RA.seq hd ?_
    refine RA.region env_ok ?_
    refine OA.pure (dst := (some 65)) (v := (.string (ckS key c))) rfl rfl rfl rfl ?_
    refine OA.pure (dst := (some 66)) (v := (.bool false)) rfl rfl rfl (Eq.trans (r_eqlS rfl rfl rfl) (by first | (rw [decide_eq_false hc1]; done) | (rw [decide_eq_false hc1]; rfl))) ?_
    refine OA.nil ?_
    intro _
    refine RA.cond (t := false) rfl (fun hc => ?_) (fun hc => ?_)
    · cases hc
    ·
     refine RA.skip env_ok ?_
     intro _
     refine RA.seq hd ?_
     refine RA.seq hd ?_
     refine RA.region env_ok ?_
     refine OA.pure (dst := (some 69)) (v := (.int .i64 now)) rfl rfl rfl rfl ?_
     refine OA.pure (dst := (some 70)) (v := (Pt p8 0 0)) rfl rfl rfl rfl ?_
     refine OA.pure (dst := (some 71)) (v := (.int .i64 ((c.made : Nat) : Int))) rfl rfl rfl (r_load1 rfl rfl rfl rfl rfl (get_there (by omega) get_here) rfl rfl) ?_
     by_cases hc5 : ((c.made : Nat) : Int) < now
     ·
      refine OA.pure (dst := (some 72)) (v := (.bool true)) rfl rfl rfl (Eq.trans (r_bin rfl rfl rfl (b_gtr rfl)) (by first | (rw [decide_eq_true hc5]; done) | (rw [decide_eq_true hc5]; rfl))) ?_
      refine OA.pure (dst := (some 73)) (v := (.bool true)) rfl rfl rfl rfl ?_
      refine OA.pure (dst := (some 74)) (v := (.int .i64 now)) rfl rfl rfl rfl ?_
      refine OA.pure (dst := (some 75)) (v := (Pt p8 0 0)) rfl rfl rfl rfl ?_
      refine OA.pure (dst := (some 76)) (v := (.int .i64 ((c.made : Nat) : Int))) rfl rfl rfl (r_load1 rfl rfl rfl rfl rfl (get_there (by omega) get_here) rfl rfl) ?_
      refine OA.pure (dst := (some 77)) (v := (.int .i64 (now - (c.made : Int)))) rfl rfl rfl (r_bin rfl rfl rfl (b_sub (i64_eq (by omega)))) ?_
      by_cases hc6 : 600 < (now - (c.made : Int))
      ·
       refine OA.pure (dst := (some 78)) (v := (.bool true)) rfl rfl rfl (Eq.trans (r_bin rfl rfl rfl (b_gtr rfl)) (by first | (rw [decide_eq_true hc6]; done) | (rw [decide_eq_true hc6]; rfl))) ?_
       refine OA.pure (dst := (some 79)) (v := (.bool true)) rfl rfl rfl rfl ?_
       refine OA.nil ?_
       intro _
       refine RA.rebase [(2, (.int .i64 now)), (7, (.string key)), (8, (Pt p8 0 0)), (9, (.string (ckS key c))), (10, (Pt n12 0 0)), (11, (.int .i64 0)), (12, (.int .i64 0)), (56, (.bool false)), (66, (.bool false)), (79, (.bool true))] ⟨rfl, rfl, rfl, rfl, rfl, rfl, rfl, rfl, rfl, rfl, trivial⟩ (fun τr13 => ?_)
       refine RA.cond (t := true) rfl (fun hc => ?_) (fun hc => ?_)
       ·
        refine RA.seq hd ?_
        refine RA.region env_ok ?_
        refine OA.pure (dst := (some 80)) (v := (.int .i64 0)) rfl rfl rfl rfl ?_
        refine OA.pure (dst := (some 81)) (v := (.bool false)) rfl rfl rfl (r_bin rfl rfl rfl (b_eql rfl)) ?_
        refine OA.pure (dst := (some 82)) (v := (.bool false)) rfl rfl rfl rfl ?_
        refine OA.off (dst := (some 83)) rfl rfl rfl ?_
        refine OA.off (dst := (some 84)) rfl rfl rfl ?_
        refine OA.off (dst := (some 85)) rfl rfl rfl ?_
        refine OA.pure (dst := (some 86)) (v := (.bool false)) rfl rfl rfl rfl ?_
        refine OA.pure (dst := (some 87)) (v := (.bool false)) rfl rfl rfl rfl ?_
        refine OA.off (dst := (some 88)) rfl rfl rfl ?_
        refine OA.off (dst := (some 89)) rfl rfl rfl ?_
        refine OA.off (dst := (some 90)) rfl rfl rfl ?_
        refine OA.off (dst := (some 91)) rfl rfl rfl ?_
        refine OA.off (dst := (some 92)) rfl rfl rfl ?_
        refine OA.off (dst := (some 93)) rfl rfl rfl ?_
        refine OA.off (dst := (some 94)) rfl rfl rfl ?_
        refine OA.pure (dst := (some 95)) (v := (.bool false)) rfl rfl rfl rfl ?_
        refine OA.pure (dst := (some 6)) (v := (.bool false)) rfl rfl rfl rfl ?_
        refine OA.nil ?_
        intro _
        refine RA.ret env_ok ?_
        refine ⟨.inr rfl, [(.bool false)], (resL_cons rfl resL_nil), (by exfalso; omega), (kc2 (by omega))⟩
       · cases hc
      ·
       refine OA.pure (dst := (some 78)) (v := (.bool false)) rfl rfl rfl (Eq.trans (r_bin rfl rfl rfl (b_gtr rfl)) (by first | (rw [decide_eq_false hc6]; done) | (rw [decide_eq_false hc6]; rfl))) ?_
       refine OA.pure (dst := (some 79)) (v := (.bool false)) rfl rfl rfl rfl ?_
       refine OA.nil ?_
       intro _
       refine RA.rebase [(2, (.int .i64 now)), (7, (.string key)), (8, (Pt p8 0 0)), (9, (.string (ckS key c))), (10, (Pt n12 0 0)), (11, (.int .i64 0)), (12, (.int .i64 0)), (56, (.bool false)), (66, (.bool false)), (79, (.bool false))] ⟨rfl, rfl, rfl, rfl, rfl, rfl, rfl, rfl, rfl, rfl, trivial⟩ (fun τr14 => ?_)
       refine RA.cond (t := false) rfl (fun hc => ?_) (fun hc => ?_)
       · cases hc
       ·
        refine RA.skip env_ok ?_
        intro _
        refine RA.seq hd ?_
        refine RA.region env_ok ?_
        refine OA.pure (dst := (some 96)) (v := (.int .i64 0)) rfl rfl rfl rfl ?_
        refine OA.pure (dst := (some 97)) (v := (.bool true)) rfl rfl rfl (r_bin rfl rfl rfl (b_eql rfl)) ?_
        refine OA.pure (dst := (some 98)) (v := (.bool true)) rfl rfl rfl rfl ?_
        refine OA.pure (dst := (some 99)) (v := (.agg ⟨(xCk61 c)⟩)) rfl rfl rfl (r_loadA rfl rfl rfl rfl get_here rfl rfl rfl) ?_
        refine OA.pure (dst := (some 100)) (v := (.agg ⟨(xCk61 c)⟩)) rfl rfl rfl (r_loadA rfl rfl rfl rfl (get_there (by omega) get_here) rfl rfl rfl) ?_
        refine OA.pure (dst := (some 101)) (v := (.bool true)) rfl rfl rfl (r_eqlA (r := true) rfl rfl rfl (by kernel_rfl) (aeq_self _ _ _ (by kernel_rfl))) ?_
        refine OA.pure (dst := (some 102)) (v := (.bool true)) rfl rfl rfl rfl ?_
        refine OA.pure (dst := (some 103)) (v := (.bool true)) rfl rfl rfl rfl ?_
        refine OA.pure (dst := (some 104)) (v := (.int .i64 0)) rfl rfl rfl rfl ?_
        refine OA.pure (dst := (some 105)) (v := (.bool true)) rfl rfl rfl (r_bin rfl rfl rfl (b_eql rfl)) ?_
        refine OA.pure (dst := (some 106)) (v := (.bool true)) rfl rfl rfl rfl ?_
        refine OA.pure (dst := (some 6)) (v := (.bool true)) rfl rfl rfl rfl ?_
        refine OA.nil ?_
        intro _
        refine RA.ret env_ok ?_
        refine ⟨.inr rfl, [(.bool true)], (resL_cons rfl resL_nil), rfl, (kc2 (by omega))⟩
     ·
      refine OA.pure (dst := (some 72)) (v := (.bool false)) rfl rfl rfl (Eq.trans (r_bin rfl rfl rfl (b_gtr rfl)) (by first | (rw [decide_eq_false hc5]; done) | (rw [decide_eq_false hc5]; rfl))) ?_
      refine OA.pure (dst := (some 73)) (v := (.bool false)) rfl rfl rfl rfl ?_
      refine OA.off (dst := (some 74)) rfl rfl rfl ?_
      refine OA.off (dst := (some 75)) rfl rfl rfl ?_
      refine OA.off (dst := (some 76)) rfl rfl rfl ?_
      refine OA.off (dst := (some 77)) rfl rfl rfl ?_
      refine OA.off (dst := (some 78)) rfl rfl rfl ?_
      refine OA.pure (dst := (some 79)) (v := (.bool false)) rfl rfl rfl rfl ?_
      refine OA.nil ?_
      intro _
      refine RA.rebase [(2, (.int .i64 now)), (7, (.string key)), (8, (Pt p8 0 0)), (9, (.string (ckS key c))), (10, (Pt n12 0 0)), (11, (.int .i64 0)), (12, (.int .i64 0)), (56, (.bool false)), (66, (.bool false)), (79, (.bool false))] ⟨rfl, rfl, rfl, rfl, rfl, rfl, rfl, rfl, rfl, rfl, trivial⟩ (fun τr15 => ?_)
      refine RA.cond (t := false) rfl (fun hc => ?_) (fun hc => ?_)
      · cases hc
      ·
       refine RA.skip env_ok ?_
       intro _
       refine RA.seq hd ?_
       refine RA.region env_ok ?_
       refine OA.pure (dst := (some 96)) (v := (.int .i64 0)) rfl rfl rfl rfl ?_
       refine OA.pure (dst := (some 97)) (v := (.bool true)) rfl rfl rfl (r_bin rfl rfl rfl (b_eql rfl)) ?_
       refine OA.pure (dst := (some 98)) (v := (.bool true)) rfl rfl rfl rfl ?_
       refine OA.pure (dst := (some 99)) (v := (.agg ⟨(xCk61 c)⟩)) rfl rfl rfl (r_loadA rfl rfl rfl rfl get_here rfl rfl rfl) ?_
       refine OA.pure (dst := (some 100)) (v := (.agg ⟨(xCk61 c)⟩)) rfl rfl rfl (r_loadA rfl rfl rfl rfl (get_there (by omega) get_here) rfl rfl rfl) ?_
       refine OA.pure (dst := (some 101)) (v := (.bool true)) rfl rfl rfl (r_eqlA (r := true) rfl rfl rfl (by kernel_rfl) (aeq_self _ _ _ (by kernel_rfl))) ?_
       refine OA.pure (dst := (some 102)) (v := (.bool true)) rfl rfl rfl rfl ?_
       refine OA.pure (dst := (some 103)) (v := (.bool true)) rfl rfl rfl rfl ?_
       refine OA.pure (dst := (some 104)) (v := (.int .i64 0)) rfl rfl rfl rfl ?_
       refine OA.pure (dst := (some 105)) (v := (.bool true)) rfl rfl rfl (r_bin rfl rfl rfl (b_eql rfl)) ?_
       refine OA.pure (dst := (some 106)) (v := (.bool true)) rfl rfl rfl rfl ?_
       refine OA.pure (dst := (some 6)) (v := (.bool true)) rfl rfl rfl rfl ?_
       refine OA.nil ?_
       intro _
       refine RA.ret env_ok ?_
       refine ⟨.inr rfl, [(.bool true)], (resL_cons rfl resL_nil), rfl, (kc2 (by omega))⟩

theorem suf8 {n : Nat} {σ : Store} (hd : Dom n σ) (key : ByteArray) (hk : key.size ≤ 100) (now : Int) (hnow : -9223372036854775808 ≤ now ∧ now ≤ 9223372036854775807) (p8 : Nat) (g1 : n ≤ p8) (c : CkI) (hm : c.made < 9223372036854775808) (m0 : Nat) (hm0 : p8 + 1 ≤ m0) (τ0 : Tm) : RA Try.prog env n σ Try.f8.ntmps (right 4 (Try.f8.body.getD .skip)) (upds τ0 [(2, (.int .i64 now)), (7, (.string key)), (8, (Pt p8 0 0))]) m0 [(p8, some ⟨[[(.int .i64 c.made), (W c.mine), (W c.yours), (W c.mt), (W c.yt), (W c.peer), (W c.loc), (.int .i64 c.pp), (.int .i64 c.mp), (W c.rwnd), (.int .i64 c.ou), (.int .i64 c.inn), (W c.tm), (W c.ty), (.string c.mr), (.string c.rn)]], 16, 35, true⟩)] (fun x τ' n' D => (x = .normal ∨ x = .ret) ∧ ∃ vs, resL env τ' (app D σ) Try.f8.results.toList = some vs ∧ one vs = (.bool true) ∧ ∀ i ∈ keys D, n ≤ i ∧ i < n') := by
  by_cases h : MayI c
  · obtain ⟨d, rfl, h1, h2⟩ := mayI_toI c h hm
    exact suf8N hd key hk now hnow p8 g1 d h1 h2 m0 hm0 τ0
  · exact suf8Z hd key hk now hnow p8 g1 c h m0 hm0 τ0

theorem s8 {σ : Store} (key : ByteArray) (c : CkI) (hm : c.made < 9223372036854775808) (hmr : c.mr.size < 9223372036854775000) (hrn : c.rn.size < 9223372036854775000) (now : Int) (hnow : -9223372036854775808 ≤ now ∧ now ≤ 9223372036854775807)   : PS Try.prog noDen 8 [(.string key), (.agg ⟨[(.int .i64 c.made), (W c.mine), (W c.yours), (W c.mt), (W c.yt), (W c.peer), (W c.loc), (.int .i64 c.pp), (.int .i64 c.mp), (W c.rwnd), (.int .i64 c.ou), (.int .i64 c.inn), (W c.tm), (W c.ty), (.string c.mr), (.string c.rn)]⟩), (.int .i64 now)] σ (.bool true) := by
 refine PS.body (E := env) env_ok rfl rfl (by show _ ≤ _; exact of_decide_eq_true (by kernel_rfl)) (fun n hd => ?_)
 refine RA.seq hd ?_
 refine RA.region env_ok ?_
 refine OA.op1 (dst := (some 4)) (v := (Pt n 0 0)) (n1 := (n + 1)) (w := (n, some ⟨[(xCk65 c)], 16, 35, true⟩)) rfl rfl rfl rfl (by omega) ?_
 refine OA.pure (dst := (some 6)) (v := (.bool false)) rfl rfl rfl rfl ?_
 refine OA.nil ?_
 intro _
 refine RA.seq hd ?_
 refine RA.region env_ok ?_
 refine OA.pure (dst := (some 13)) (v := (.string key)) rfl rfl rfl rfl ?_
 refine OA.pure (dst := (some 14)) (v := (.string key)) rfl rfl rfl rfl ?_
 refine OA.pure (dst := (some 15)) (v := (.int .i64 ((key.size : Nat) : Int))) rfl rfl rfl rfl ?_
 refine OA.pure (dst := (some 16)) (v := (.int .i64 (((min key.size 100) : Nat) : Int))) rfl rfl rfl (r_min (a := key.size) (b := 100) rfl rfl rfl) ?_
 refine OA.pure (dst := (some 17)) (v := (.string (key.extract 0 (min key.size 100)))) rfl rfl rfl (r_cut (a := 0) (b := (min key.size 100)) rfl rfl (fun _ => rfl) (fun _ => rfl) rfl rfl rfl bound_nat (by omega) (by omega) rfl) ?_
 refine OA.pure (dst := (some 7)) (v := (.string (key.extract 0 (min key.size 100)))) rfl rfl rfl rfl ?_
 refine OA.nil ?_
 intro _
 refine RA.seq hd ?_
 refine RA.region env_ok ?_
 refine OA.pure (dst := (some 18)) (v := (.agg ⟨(xCk65 c)⟩)) rfl rfl rfl (r_loadA rfl rfl rfl rfl get_here rfl rfl rfl) ?_
 refine OA.op1 (dst := (some 8)) (v := (.pointer (some ⟨(n + 1), 0, some 0⟩))) (n1 := (n + 2)) (w := ((n + 1), some ⟨[xCk62], 16, 35, true⟩)) rfl rfl rfl rfl (by omega) ?_
 refine OA.op1 (dst := none) (v := (.tuple #[])) (n1 := (n + 2)) (w := ((n + 1), some ⟨[(xCk65 c)], 16, 35, true⟩)) rfl rfl rfl (r_store rfl rfl rfl rfl rfl rfl rfl get_here rfl rfl (Nat.le_of_ble_eq_true rfl) rfl) (by omega) ?_
 refine OA.nil ?_
 intro _
 refine RA.weaken (D' := [((n + 1), some ⟨[(xCk65 c)], 16, 35, true⟩), (n, some ⟨[(xCk65 c)], 16, 35, true⟩)]) hd (Less.of (fac (mm (fun _ => get_here) (fun _ => get_here)) (fac (mm (fun _ => (get_there (by omega) get_here)) (fun _ => (get_there (by omega) (get_there (by omega) get_here)))) fan)) (gone_of (by simp only [goneP, memP, List.cons_append, List.nil_append, true_or, or_true, true_and, and_true, or_false] <;> omega))) ?_
 refine RA.seq hd ?_
 refine RA.seq hd ?_
 refine RA.region env_ok ?_
 refine OA.pure (dst := (some 19)) (v := (Pt n 0 14)) rfl rfl rfl rfl ?_
 refine OA.pure (dst := (some 20)) (v := (.string c.mr)) rfl rfl rfl (r_load1 rfl rfl rfl rfl rfl (get_there (by omega) get_here) rfl rfl) ?_
 refine OA.pure (dst := (some 21)) (v := (.int .i64 ((c.mr.size : Nat) : Int))) rfl rfl rfl rfl ?_
 by_cases hc1 : 3 < ((c.mr.size : Nat) : Int)
 ·
  refine OA.pure (dst := (some 22)) (v := (.bool true)) rfl rfl rfl (Eq.trans (r_bin rfl rfl rfl (b_gtr rfl)) (by first | (rw [decide_eq_true hc1]; done) | (rw [decide_eq_true hc1]; rfl))) ?_
  refine OA.nil ?_
  intro _
  refine RA.cond (t := true) rfl (fun hc => ?_) (fun hc => ?_)
  ·
   refine RA.par (md := [some [], some [n], some [], some [], some [n], some [], some [], none, some [], none]) env_ok (hd.of (by omega) (kb2 (by omega))) (by kernel_rfl) ?_
   refine PQ.pure (dst := (some 23)) (v := (Pt n 0 14)) rfl rfl rfl noStore (none_ok _ _) rfl ?_
   refine PQ.pure (dst := (some 24)) (v := (.string c.mr)) rfl rfl rfl (app [(n, some ⟨[(xCk65 c)], 16, 35, true⟩)] noStore) (seen_one (V := []) (D := [((n + 1), some ⟨[(xCk65 c)], 16, 35, true⟩), (n, some ⟨[(xCk65 c)], 16, 35, true⟩)]) (by kernel_rfl) (get_there (by omega) get_here)) (r_load1 rfl rfl rfl rfl rfl get_here rfl rfl) ?_
   refine PQ.callP (dst := (some 25)) (all := [(.string c.mr)]) (v := (.string (rnd c.mr))) noStore (dom_none _) rfl rfl rfl rfl rfl rfl rfl rfl (none_ok _ _) (s21 c.mr (by omega)) ?_
   intro n1 hn1
   refine PQ.pure (dst := (some 26)) (v := (Pt n 0 15)) rfl rfl rfl noStore (none_ok _ _) rfl ?_
   refine PQ.pure (dst := (some 27)) (v := (.string c.rn)) rfl rfl rfl (app [(n, some ⟨[(xCk65 c)], 16, 35, true⟩)] noStore) (seen_one (V := []) (D := [((n + 1), some ⟨[(xCk65 c)], 16, 35, true⟩), (n, some ⟨[(xCk65 c)], 16, 35, true⟩)]) (by kernel_rfl) (get_there (by omega) get_here)) (r_load1 rfl rfl rfl rfl rfl get_here rfl rfl) ?_
   refine PQ.callP (dst := (some 28)) (all := [(.string c.rn)]) (v := (.string (rnd c.rn))) noStore (dom_none _) rfl rfl rfl rfl rfl rfl rfl rfl (none_ok _ _) (s21 c.rn (by omega)) ?_
   intro n2 hn2
   refine PQ.pure (dst := (some 29)) (v := (.pointer (some ⟨(n + 1), 0, some 14⟩))) rfl rfl rfl noStore (none_ok _ _) rfl ?_
   refine PQ.op (dst := none) (v := (.tuple #[])) (n1 := n2) (d1 := [((n + 1), some ⟨[(xCk64 c)], 16, 35, true⟩)]) rfl rfl rfl (app [((n + 1), some ⟨[(xCk65 c)], 16, 35, true⟩), (n, some ⟨[(xCk65 c)], 16, 35, true⟩)] σ) (seen_any (V := []) (D := [((n + 1), some ⟨[(xCk65 c)], 16, 35, true⟩), (n, some ⟨[(xCk65 c)], 16, 35, true⟩)]) (by kernel_rfl)) (r_store rfl rfl rfl rfl rfl rfl rfl get_here rfl rfl (Nat.le_of_ble_eq_true rfl) rfl) (by omega) (fun x hx => by first | (simp only [keys, List.cons_append, List.nil_append, List.map_cons, List.map_nil, List.mem_cons, List.not_mem_nil, or_false, false_or] at hx; exact wr_new (by omega) (by omega)) | (exact wr_tight (by kernel_rfl) (by simp only [keys, List.cons_append, List.nil_append, List.map_cons, List.map_nil, List.mem_cons, List.not_mem_nil, or_false, false_or] at hx; omega))) ?_
   refine PQ.pure (dst := (some 30)) (v := (.pointer (some ⟨(n + 1), 0, some 15⟩))) rfl rfl rfl noStore (none_ok _ _) rfl ?_
   refine PQ.op (dst := none) (v := (.tuple #[])) (n1 := n2) (d1 := [((n + 1), some ⟨[(xCk63 c)], 16, 35, true⟩)]) rfl rfl rfl (app [((n + 1), some ⟨[(xCk64 c)], 16, 35, true⟩), ((n + 1), some ⟨[(xCk65 c)], 16, 35, true⟩), (n, some ⟨[(xCk65 c)], 16, 35, true⟩)] σ) (seen_any (V := [((n + 1), some ⟨[(xCk64 c)], 16, 35, true⟩)]) (D := [((n + 1), some ⟨[(xCk65 c)], 16, 35, true⟩), (n, some ⟨[(xCk65 c)], 16, 35, true⟩)]) (by kernel_rfl)) (r_store rfl rfl rfl rfl rfl rfl rfl get_here rfl rfl (Nat.le_of_ble_eq_true rfl) rfl) (by omega) (fun x hx => by first | (simp only [keys, List.cons_append, List.nil_append, List.map_cons, List.map_nil, List.mem_cons, List.not_mem_nil, or_false, false_or] at hx; exact wr_new (by omega) (by omega)) | (exact wr_tight (by kernel_rfl) (by simp only [keys, List.cons_append, List.nil_append, List.map_cons, List.map_nil, List.mem_cons, List.not_mem_nil, or_false, false_or] at hx; omega))) ?_
   refine PQ.done (d := [((n + 1), some ⟨[(xCk63 c)], 16, 35, true⟩), ((n + 1), some ⟨[(xCk64 c)], 16, 35, true⟩)]) (by kernel_rfl) ?_
   intro _
   refine RA.weaken (D' := [((n + 1), some ⟨[(xCk63 c)], 16, 35, true⟩)]) hd (Less.of (fac (mm (fun _ => get_here) (fun _ => get_here)) fan) (gone_of (by simp only [goneP, memP, List.cons_append, List.nil_append, true_or, or_true, true_and, and_true, or_false] <;> omega))) ?_
   refine RA.rebase [(2, (.int .i64 now)), (7, (.string (key.extract 0 (min key.size 100)))), (8, (.pointer (some ⟨(n + 1), 0, some 0⟩)))] ⟨rfl, rfl, rfl, trivial⟩ (fun τr => ?_)
   exact suf8 hd (key.extract 0 (min key.size 100)) (by rw [size_cut _ _ _ (by omega)]; omega) now hnow (n + 1) (by omega) (rk c) hm n2 (by omega) τr
  · cases hc
 ·
  refine OA.pure (dst := (some 22)) (v := (.bool false)) rfl rfl rfl (Eq.trans (r_bin rfl rfl rfl (b_gtr rfl)) (by first | (rw [decide_eq_false hc1]; done) | (rw [decide_eq_false hc1]; rfl))) ?_
  refine OA.nil ?_
  intro _
  refine RA.cond (t := false) rfl (fun hc => ?_) (fun hc => ?_)
  · cases hc
  ·
   refine RA.skip env_ok ?_
   intro _
   refine RA.weaken (D' := [((n + 1), some ⟨[(xCk65 c)], 16, 35, true⟩)]) hd (Less.of (fac (mm (fun _ => get_here) (fun _ => get_here)) fan) (gone_of (by simp only [goneP, memP, List.cons_append, List.nil_append, true_or, or_true, true_and, and_true, or_false] <;> omega))) ?_
   refine RA.rebase [(2, (.int .i64 now)), (7, (.string (key.extract 0 (min key.size 100)))), (8, (.pointer (some ⟨(n + 1), 0, some 0⟩)))] ⟨rfl, rfl, rfl, trivial⟩ (fun τr => ?_)
   exact suf8 hd (key.extract 0 (min key.size 100)) (by rw [size_cut _ _ _ (by omega)]; omega) now hnow (n + 1) (by omega) c hm (n + 2) (by omega) τr
end Go.Proofs.Ytdnkhdkflemkeaa.Vt
