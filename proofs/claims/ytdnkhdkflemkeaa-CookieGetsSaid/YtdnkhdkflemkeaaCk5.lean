/- Ck5: walks through functions of the program, by the calculus; written by a program of this workplace. -/
import Derived.Test.YtdnkhdkflemkeaaCk4
import Derived.Test.YtdnkhdkflemkeaaVm5
namespace Go.Proofs.Ytdnkhdkflemkeaa.Vt
open Go Go.Proofs Go.Proofs.YtdnkhdkflemkeaaV
set_option maxRecDepth 100000
set_option linter.unusedVariables false
set_option linter.unusedSimpArgs false
abbrev xCk51 (t : ByteArray) : List Value := [(.int .i64 (((ckN (t.extract 0 (t.size - 20))).made : Nat) : Int)), (W (ckN (t.extract 0 (t.size - 20))).mine), (W (ckN (t.extract 0 (t.size - 20))).yours), (W (ckN (t.extract 0 (t.size - 20))).mt), (W (ckN (t.extract 0 (t.size - 20))).yt), (W (ckN (t.extract 0 (t.size - 20))).peer), (W (ckN (t.extract 0 (t.size - 20))).loc), (.int .i64 (((ckN (t.extract 0 (t.size - 20))).pp : Nat) : Int)), (.int .i64 (((ckN (t.extract 0 (t.size - 20))).mp : Nat) : Int)), (W (ckN (t.extract 0 (t.size - 20))).rwnd), (.int .i64 (((ckN (t.extract 0 (t.size - 20))).ou : Nat) : Int)), (.int .i64 (((ckN (t.extract 0 (t.size - 20))).inn : Nat) : Int)), (W (ckN (t.extract 0 (t.size - 20))).tm), (W (ckN (t.extract 0 (t.size - 20))).ty), (.string (ckN (t.extract 0 (t.size - 20))).mr), (.string (ckN (t.extract 0 (t.size - 20))).rn)]
abbrev xCk52 : List Value := [(.int .i64 0), (.int .u32 0), (.int .u32 0), (.int .u32 0), (.int .u32 0), (.int .u32 0), (.int .u32 0), (.int .i64 0), (.int .i64 0), (.int .u32 0), (.int .i64 0), (.int .i64 0), (.int .u32 0), (.int .u32 0), (.string ByteArray.empty), (.string ByteArray.empty)]
theorem suf9 {n : Nat} {σ : Store} (hd : Dom n σ) (k t : ByteArray) (hk : k.size ≤ 70) (ht : t.size ≤ 150) (m0 : Nat) (hm0 : n ≤ m0) (τ0 : Tm) : RA Try.prog env n σ Try.f9.ntmps (right 3 (Try.f9.body.getD .skip)) (upds τ0 [(7, (.string k)), (8, (.string t))]) m0 [] (fun x τ' n' D => (x = .normal ∨ x = .ret) ∧ ∃ vs, resL env τ' (app D σ) Try.f9.results.toList = some vs ∧ one vs = (.bool true) ∧ ∀ i ∈ keys D, n ≤ i ∧ i < n') := by
 refine RA.seq hd ?_
 refine RA.region env_ok ?_
 refine OA.pure (dst := (some 29)) (v := (.string k)) rfl rfl rfl rfl ?_
 refine OA.pure (dst := (some 30)) (v := (.string t)) rfl rfl rfl rfl ?_
 by_cases hc1 : ((t.size : Nat) : Int) < 20
 ·
  refine OA.callP (dst := (some 31)) (all := [(.string k), (.string t), (.int .i64 0)]) (v := (.tuple ⟨[(.agg ⟨xCk52⟩), (.int .i64 0), (.int .i64 2)]⟩)) (hd.up (by omega)) rfl rfl rfl rfl rfl rfl rfl rfl (gA k t (by omega) (by omega) 0 (by omega) (by omega)) ?_
  intro n1 hn1
  refine OA.pure (dst := (some 28)) (v := (.tuple ⟨[(.agg ⟨xCk52⟩), (.int .i64 0), (.int .i64 2)]⟩)) rfl rfl rfl rfl ?_
  refine OA.pure (dst := (some 32)) (v := (.agg ⟨xCk52⟩)) rfl rfl rfl rfl ?_
  refine OA.pure (dst := (some 33)) (v := (.int .i64 0)) rfl rfl rfl rfl ?_
  refine OA.pure (dst := (some 34)) (v := (.int .i64 2)) rfl rfl rfl rfl ?_
  refine OA.op1 (dst := (some 9)) (v := (Pt n1 0 0)) (n1 := (n1 + 1)) (w := (n1, some ⟨[xCk52], 16, 35, true⟩)) rfl rfl rfl rfl (by omega) ?_
  refine OA.op1 (dst := none) (v := (.tuple #[])) (n1 := (n1 + 1)) (w := (n1, some ⟨[xCk52], 16, 35, true⟩)) rfl rfl rfl (r_store rfl rfl rfl rfl rfl rfl rfl get_here rfl rfl (Nat.le_of_ble_eq_true rfl) rfl) (by omega) ?_
  refine OA.pure (dst := (some 10)) (v := (.int .i64 0)) rfl rfl rfl rfl ?_
  refine OA.pure (dst := (some 11)) (v := (.int .i64 2)) rfl rfl rfl rfl ?_
  refine OA.nil ?_
  intro _
  refine RA.seq hd ?_
  refine RA.block ?_
  refine RA.seq hd ?_
  refine RA.region env_ok ?_
  refine OA.pure (dst := (some 36)) (v := (.string t)) rfl rfl rfl rfl ?_
  refine OA.pure (dst := (some 37)) (v := (.int .i64 ((t.size : Nat) : Int))) rfl rfl rfl rfl ?_
  refine OA.pure (dst := (some 38)) (v := (.bool true)) rfl rfl rfl (Eq.trans (r_bin rfl rfl rfl (b_lss rfl)) (by first | (rw [decide_eq_true hc1]; done) | (rw [decide_eq_true hc1]; rfl))) ?_
  refine OA.pure (dst := (some 35)) (v := (.bool true)) rfl rfl rfl rfl ?_
  refine OA.nil ?_
  intro _
  refine RA.cond (t := true) rfl (fun hc => ?_) (fun hc => ?_)
  ·
   refine RA.seq hd ?_
   refine RA.region env_ok ?_
   refine OA.callP (dst := (some 39)) (all := []) (v := (.bool true)) (hd.of (by omega) (kb2 (by omega))) rfl rfl rfl rfl rfl rfl rfl rfl s23 ?_
   intro n2 hn2
   refine OA.pure (dst := (some 40)) (v := (.bool true)) rfl rfl rfl rfl ?_
   refine OA.pure (dst := (some 41)) (v := (.int .i64 2)) rfl rfl rfl rfl ?_
   refine OA.pure (dst := (some 42)) (v := (.bool true)) rfl rfl rfl (r_bin rfl rfl rfl (b_eql rfl)) ?_
   refine OA.pure (dst := (some 43)) (v := (.bool true)) rfl rfl rfl rfl ?_
   refine OA.pure (dst := (some 6)) (v := (.bool true)) rfl rfl rfl rfl ?_
   refine OA.nil ?_
   intro _
   refine RA.ret env_ok ?_
   refine ⟨.inr rfl, [(.bool true)], (resL_cons rfl resL_nil), rfl, (kc2 (by omega))⟩
  · cases hc
 ·
  by_cases hc2 : (macF k (t.extract 0 (t.size - 20))) = (t.extract (t.size - 20) t.size)
  ·
   by_cases hc3 : ((t.size : Nat) : Int) < 104
   ·
    refine OA.callP (dst := (some 31)) (all := [(.string k), (.string t), (.int .i64 0)]) (v := (.tuple ⟨[(.agg ⟨xCk52⟩), (.int .i64 0), (.int .i64 2)]⟩)) (hd.up (by omega)) rfl rfl rfl rfl rfl rfl rfl rfl (gC2 k t (by omega) (by omega) 0 (by omega) (by omega) hc2.symm (by omega)) ?_
    intro n3 hn3
    refine OA.pure (dst := (some 28)) (v := (.tuple ⟨[(.agg ⟨xCk52⟩), (.int .i64 0), (.int .i64 2)]⟩)) rfl rfl rfl rfl ?_
    refine OA.pure (dst := (some 32)) (v := (.agg ⟨xCk52⟩)) rfl rfl rfl rfl ?_
    refine OA.pure (dst := (some 33)) (v := (.int .i64 0)) rfl rfl rfl rfl ?_
    refine OA.pure (dst := (some 34)) (v := (.int .i64 2)) rfl rfl rfl rfl ?_
    refine OA.op1 (dst := (some 9)) (v := (Pt n3 0 0)) (n1 := (n3 + 1)) (w := (n3, some ⟨[xCk52], 16, 35, true⟩)) rfl rfl rfl rfl (by omega) ?_
    refine OA.op1 (dst := none) (v := (.tuple #[])) (n1 := (n3 + 1)) (w := (n3, some ⟨[xCk52], 16, 35, true⟩)) rfl rfl rfl (r_store rfl rfl rfl rfl rfl rfl rfl get_here rfl rfl (Nat.le_of_ble_eq_true rfl) rfl) (by omega) ?_
    refine OA.pure (dst := (some 10)) (v := (.int .i64 0)) rfl rfl rfl rfl ?_
    refine OA.pure (dst := (some 11)) (v := (.int .i64 2)) rfl rfl rfl rfl ?_
    refine OA.nil ?_
    intro _
    refine RA.seq hd ?_
    refine RA.block ?_
    refine RA.seq hd ?_
    refine RA.region env_ok ?_
    refine OA.pure (dst := (some 36)) (v := (.string t)) rfl rfl rfl rfl ?_
    refine OA.pure (dst := (some 37)) (v := (.int .i64 ((t.size : Nat) : Int))) rfl rfl rfl rfl ?_
    refine OA.pure (dst := (some 38)) (v := (.bool false)) rfl rfl rfl (Eq.trans (r_bin rfl rfl rfl (b_lss rfl)) (by first | (rw [decide_eq_false hc1]; done) | (rw [decide_eq_false hc1]; rfl))) ?_
    refine OA.pure (dst := (some 35)) (v := (.bool false)) rfl rfl rfl rfl ?_
    refine OA.nil ?_
    intro _
    refine RA.cond (t := false) rfl (fun hc => ?_) (fun hc => ?_)
    · cases hc
    ·
     refine RA.seq hd ?_
     refine RA.par (md := [some [], some [], some [], some [], some [], some [], some [], some [], some [], some [], some [], some [], some [], some []]) env_ok (hd.of (by omega) (kb2 (by omega))) (by kernel_rfl) ?_
     refine PQ.pure (dst := (some 45)) (v := (.string k)) rfl rfl rfl noStore (none_ok _ _) rfl ?_
     refine PQ.pure (dst := (some 46)) (v := (.string t)) rfl rfl rfl noStore (none_ok _ _) rfl ?_
     refine PQ.pure (dst := (some 47)) (v := (.string t)) rfl rfl rfl noStore (none_ok _ _) rfl ?_
     refine PQ.pure (dst := (some 48)) (v := (.int .i64 ((t.size : Nat) : Int))) rfl rfl rfl noStore (none_ok _ _) rfl ?_
     refine PQ.pure (dst := (some 49)) (v := (.int .i64 (((t.size - 20) : Nat) : Int))) rfl rfl rfl noStore (none_ok _ _) (r_bin rfl rfl rfl (b_sub (i64_eq (by omega)))) ?_
     refine PQ.pure (dst := (some 50)) (v := (.string (t.extract 0 (t.size - 20)))) rfl rfl rfl noStore (none_ok _ _) (r_cut (a := 0) (b := (t.size - 20)) rfl rfl (fun _ => rfl) (fun _ => rfl) rfl rfl rfl bound_nat (by omega) (by omega) rfl) ?_
     refine PQ.callP (dst := (some 51)) (all := [(.string k), (.string (t.extract 0 (t.size - 20)))]) (v := (.string (macF k (t.extract 0 (t.size - 20))))) noStore (dom_none _) rfl rfl rfl rfl rfl rfl rfl rfl (none_ok _ _) (s19 k (t.extract 0 (t.size - 20)) (by omega) (by first | omega | (rw [size_cut _ _ _ (by omega)]; omega))) ?_
     intro n4 hn4
     refine PQ.pure (dst := (some 52)) (v := (.string t)) rfl rfl rfl noStore (none_ok _ _) rfl ?_
     refine PQ.pure (dst := (some 53)) (v := (.string t)) rfl rfl rfl noStore (none_ok _ _) rfl ?_
     refine PQ.pure (dst := (some 54)) (v := (.int .i64 ((t.size : Nat) : Int))) rfl rfl rfl noStore (none_ok _ _) rfl ?_
     refine PQ.pure (dst := (some 55)) (v := (.int .i64 (((t.size - 20) : Nat) : Int))) rfl rfl rfl noStore (none_ok _ _) (r_bin rfl rfl rfl (b_sub (i64_eq (by omega)))) ?_
     refine PQ.pure (dst := (some 56)) (v := (.string (t.extract (t.size - 20) t.size))) rfl rfl rfl noStore (none_ok _ _) (r_cut (a := (t.size - 20)) (b := t.size) rfl rfl (fun _ => rfl) (fun _ => rfl) rfl rfl bound_nat rfl (by omega) (by omega) rfl) ?_
     refine PQ.pure (dst := (some 57)) (v := (.bool false)) rfl rfl rfl noStore (none_ok _ _) (Eq.trans (r_neqS rfl rfl rfl) (by first | (rw [decide_eq_true hc2]; done) | (rw [decide_eq_true hc2]; rfl))) ?_
     refine PQ.pure (dst := (some 44)) (v := (.bool false)) rfl rfl rfl noStore (none_ok _ _) rfl ?_
     refine PQ.done (d := []) (by kernel_rfl) ?_
     intro _
     refine RA.rebase [(7, (.string k)), (8, (.string t)), (9, (Pt n3 0 0)), (10, (.int .i64 0)), (11, (.int .i64 2)), (35, (.bool false)), (44, (.bool false))] ⟨rfl, rfl, rfl, rfl, rfl, rfl, rfl, trivial⟩ (fun τr5 => ?_)
     refine RA.cond (t := false) rfl (fun hc => ?_) (fun hc => ?_)
     · cases hc
     ·
      refine RA.seq hd ?_
      refine RA.region env_ok ?_
      refine OA.pure (dst := (some 64)) (v := (.string t)) rfl rfl rfl rfl ?_
      refine OA.pure (dst := (some 65)) (v := (.int .i64 ((t.size : Nat) : Int))) rfl rfl rfl rfl ?_
      refine OA.pure (dst := (some 66)) (v := (.bool true)) rfl rfl rfl (Eq.trans (r_bin rfl rfl rfl (b_lss rfl)) (by first | (rw [decide_eq_true hc3]; done) | (rw [decide_eq_true hc3]; rfl))) ?_
      refine OA.pure (dst := (some 63)) (v := (.bool true)) rfl rfl rfl rfl ?_
      refine OA.nil ?_
      intro _
      refine RA.cond (t := true) rfl (fun hc => ?_) (fun hc => ?_)
      ·
       refine RA.seq hd ?_
       refine RA.region env_ok ?_
       refine OA.callP (dst := (some 67)) (all := []) (v := (.bool true)) (hd.of (by omega) (kb2 (by omega))) rfl rfl rfl rfl rfl rfl rfl rfl s23 ?_
       intro n6 hn6
       refine OA.pure (dst := (some 68)) (v := (.bool true)) rfl rfl rfl rfl ?_
       refine OA.pure (dst := (some 69)) (v := (.int .i64 2)) rfl rfl rfl rfl ?_
       refine OA.pure (dst := (some 70)) (v := (.bool true)) rfl rfl rfl (r_bin rfl rfl rfl (b_eql rfl)) ?_
       refine OA.pure (dst := (some 71)) (v := (.bool true)) rfl rfl rfl rfl ?_
       refine OA.pure (dst := (some 6)) (v := (.bool true)) rfl rfl rfl rfl ?_
       refine OA.nil ?_
       intro _
       refine RA.ret env_ok ?_
       refine ⟨.inr rfl, [(.bool true)], (resL_cons rfl resL_nil), rfl, (kc2 (by omega))⟩
      · cases hc
   ·
    by_cases hc4 : t.size = 104
    ·
     by_cases hc5 : MayI (ckOf (t.extract 0 (t.size - 20)))
     ·
      refine OA.callP (dst := (some 31)) (all := [(.string k), (.string t), (.int .i64 0)]) (v := (.tuple ⟨[(.agg ⟨(xCk51 t)⟩), (.int .i64 0), (.int .i64 0)]⟩)) (hd.up (by omega)) rfl rfl rfl rfl rfl rfl rfl rfl (gE k t (by omega) (by omega) 0 (by omega) hc4 hc2.symm hc5 (by omega)) ?_
      intro n7 hn7
      refine OA.pure (dst := (some 28)) (v := (.tuple ⟨[(.agg ⟨(xCk51 t)⟩), (.int .i64 0), (.int .i64 0)]⟩)) rfl rfl rfl rfl ?_
      refine OA.pure (dst := (some 32)) (v := (.agg ⟨(xCk51 t)⟩)) rfl rfl rfl rfl ?_
      refine OA.pure (dst := (some 33)) (v := (.int .i64 0)) rfl rfl rfl rfl ?_
      refine OA.pure (dst := (some 34)) (v := (.int .i64 0)) rfl rfl rfl rfl ?_
      refine OA.op1 (dst := (some 9)) (v := (Pt n7 0 0)) (n1 := (n7 + 1)) (w := (n7, some ⟨[xCk52], 16, 35, true⟩)) rfl rfl rfl rfl (by omega) ?_
      refine OA.op1 (dst := none) (v := (.tuple #[])) (n1 := (n7 + 1)) (w := (n7, some ⟨[(xCk51 t)], 16, 35, true⟩)) rfl rfl rfl (r_store rfl rfl rfl rfl rfl rfl rfl get_here rfl rfl (Nat.le_of_ble_eq_true rfl) rfl) (by omega) ?_
      refine OA.pure (dst := (some 10)) (v := (.int .i64 0)) rfl rfl rfl rfl ?_
      refine OA.pure (dst := (some 11)) (v := (.int .i64 0)) rfl rfl rfl rfl ?_
      refine OA.nil ?_
      intro _
      refine RA.weaken (D' := [(n7, some ⟨[(xCk51 t)], 16, 35, true⟩)]) hd (Less.of (fac (mm (fun _ => get_here) (fun _ => get_here)) fan) (gone_of (by simp only [goneP, memP, List.cons_append, List.nil_append, true_or, or_true, true_and, and_true, or_false] <;> omega))) ?_
      refine RA.seq hd ?_
      refine RA.block ?_
      refine RA.seq hd ?_
      refine RA.region env_ok ?_
      refine OA.pure (dst := (some 36)) (v := (.string t)) rfl rfl rfl rfl ?_
      refine OA.pure (dst := (some 37)) (v := (.int .i64 ((t.size : Nat) : Int))) rfl rfl rfl rfl ?_
      refine OA.pure (dst := (some 38)) (v := (.bool false)) rfl rfl rfl (Eq.trans (r_bin rfl rfl rfl (b_lss rfl)) (by first | (rw [decide_eq_false hc1]; done) | (rw [decide_eq_false hc1]; rfl))) ?_
      refine OA.pure (dst := (some 35)) (v := (.bool false)) rfl rfl rfl rfl ?_
      refine OA.nil ?_
      intro _
      refine RA.cond (t := false) rfl (fun hc => ?_) (fun hc => ?_)
      · cases hc
      ·
       refine RA.seq hd ?_
       refine RA.par (md := [some [], some [], some [], some [], some [], some [], some [], some [], some [], some [], some [], some [], some [], some []]) env_ok (hd.of (by omega) (kb1 (by omega))) (by kernel_rfl) ?_
       refine PQ.pure (dst := (some 45)) (v := (.string k)) rfl rfl rfl noStore (none_ok _ _) rfl ?_
       refine PQ.pure (dst := (some 46)) (v := (.string t)) rfl rfl rfl noStore (none_ok _ _) rfl ?_
       refine PQ.pure (dst := (some 47)) (v := (.string t)) rfl rfl rfl noStore (none_ok _ _) rfl ?_
       refine PQ.pure (dst := (some 48)) (v := (.int .i64 ((t.size : Nat) : Int))) rfl rfl rfl noStore (none_ok _ _) rfl ?_
       refine PQ.pure (dst := (some 49)) (v := (.int .i64 (((t.size - 20) : Nat) : Int))) rfl rfl rfl noStore (none_ok _ _) (r_bin rfl rfl rfl (b_sub (i64_eq (by omega)))) ?_
       refine PQ.pure (dst := (some 50)) (v := (.string (t.extract 0 (t.size - 20)))) rfl rfl rfl noStore (none_ok _ _) (r_cut (a := 0) (b := (t.size - 20)) rfl rfl (fun _ => rfl) (fun _ => rfl) rfl rfl rfl bound_nat (by omega) (by omega) rfl) ?_
       refine PQ.callP (dst := (some 51)) (all := [(.string k), (.string (t.extract 0 (t.size - 20)))]) (v := (.string (macF k (t.extract 0 (t.size - 20))))) noStore (dom_none _) rfl rfl rfl rfl rfl rfl rfl rfl (none_ok _ _) (s19 k (t.extract 0 (t.size - 20)) (by omega) (by first | omega | (rw [size_cut _ _ _ (by omega)]; omega))) ?_
       intro n8 hn8
       refine PQ.pure (dst := (some 52)) (v := (.string t)) rfl rfl rfl noStore (none_ok _ _) rfl ?_
       refine PQ.pure (dst := (some 53)) (v := (.string t)) rfl rfl rfl noStore (none_ok _ _) rfl ?_
       refine PQ.pure (dst := (some 54)) (v := (.int .i64 ((t.size : Nat) : Int))) rfl rfl rfl noStore (none_ok _ _) rfl ?_
       refine PQ.pure (dst := (some 55)) (v := (.int .i64 (((t.size - 20) : Nat) : Int))) rfl rfl rfl noStore (none_ok _ _) (r_bin rfl rfl rfl (b_sub (i64_eq (by omega)))) ?_
       refine PQ.pure (dst := (some 56)) (v := (.string (t.extract (t.size - 20) t.size))) rfl rfl rfl noStore (none_ok _ _) (r_cut (a := (t.size - 20)) (b := t.size) rfl rfl (fun _ => rfl) (fun _ => rfl) rfl rfl bound_nat rfl (by omega) (by omega) rfl) ?_
       refine PQ.pure (dst := (some 57)) (v := (.bool false)) rfl rfl rfl noStore (none_ok _ _) (Eq.trans (r_neqS rfl rfl rfl) (by first | (rw [decide_eq_true hc2]; done) | (rw [decide_eq_true hc2]; rfl))) ?_
       refine PQ.pure (dst := (some 44)) (v := (.bool false)) rfl rfl rfl noStore (none_ok _ _) rfl ?_
       refine PQ.done (d := []) (by kernel_rfl) ?_
       intro _
       refine RA.rebase [(7, (.string k)), (8, (.string t)), (9, (Pt n7 0 0)), (10, (.int .i64 0)), (11, (.int .i64 0)), (35, (.bool false)), (44, (.bool false))] ⟨rfl, rfl, rfl, rfl, rfl, rfl, rfl, trivial⟩ (fun τr9 => ?_)
       refine RA.cond (t := false) rfl (fun hc => ?_) (fun hc => ?_)
       · cases hc
       ·
        refine RA.seq hd ?_
        refine RA.region env_ok ?_
        refine OA.pure (dst := (some 64)) (v := (.string t)) rfl rfl rfl rfl ?_
        refine OA.pure (dst := (some 65)) (v := (.int .i64 ((t.size : Nat) : Int))) rfl rfl rfl rfl ?_
        refine OA.pure (dst := (some 66)) (v := (.bool false)) rfl rfl rfl (Eq.trans (r_bin rfl rfl rfl (b_lss rfl)) (by first | (rw [decide_eq_false hc3]; done) | (rw [decide_eq_false hc3]; rfl))) ?_
        refine OA.pure (dst := (some 63)) (v := (.bool false)) rfl rfl rfl rfl ?_
        refine OA.nil ?_
        intro _
        refine RA.cond (t := false) rfl (fun hc => ?_) (fun hc => ?_)
        · cases hc
        ·
         refine RA.skip env_ok ?_
         intro _
         refine RA.seq hd ?_
         refine RA.region env_ok ?_
         refine OA.callP (dst := (some 72)) (all := []) (v := (.bool true)) (hd.of (by omega) (kb1 (by omega))) rfl rfl rfl rfl rfl rfl rfl rfl s23 ?_
         intro n10 hn10
         refine OA.pure (dst := (some 73)) (v := (.bool true)) rfl rfl rfl rfl ?_
         refine OA.pure (dst := (some 74)) (v := (.int .i64 0)) rfl rfl rfl rfl ?_
         refine OA.pure (dst := (some 75)) (v := (.bool true)) rfl rfl rfl (r_bin rfl rfl rfl (b_eql rfl)) ?_
         refine OA.pure (dst := (some 76)) (v := (.bool true)) rfl rfl rfl rfl ?_
         refine OA.pure (dst := (some 77)) (v := (.bool true)) rfl rfl rfl rfl ?_
         refine OA.pure (dst := (some 78)) (v := (.int .i64 0)) rfl rfl rfl rfl ?_
         refine OA.pure (dst := (some 79)) (v := (.bool false)) rfl rfl rfl (r_bin rfl rfl rfl (b_eql rfl)) ?_
         refine OA.pure (dst := (some 80)) (v := (.bool false)) rfl rfl rfl rfl ?_
         refine OA.pure (dst := (some 81)) (v := (.int .i64 0)) rfl rfl rfl rfl ?_
         refine OA.pure (dst := (some 82)) (v := (.bool true)) rfl rfl rfl (r_bin rfl rfl rfl (b_eql rfl)) ?_
         refine OA.pure (dst := (some 83)) (v := (.bool true)) rfl rfl rfl rfl ?_
         refine OA.pure (dst := (some 84)) (v := (.string k)) rfl rfl rfl rfl ?_
         refine OA.pure (dst := (some 85)) (v := (.agg ⟨(xCk51 t)⟩)) rfl rfl rfl (r_loadA rfl rfl rfl rfl get_here rfl rfl rfl) ?_
         refine OA.callP (dst := (some 86)) (all := [(.string k), (.agg ⟨(xCk51 t)⟩)]) (v := (.string (ckS k (ckN (t.extract 0 (t.size - 20)))))) (hd.of (by omega) (kb1 (by omega))) rfl rfl rfl rfl rfl rfl rfl rfl (s24 k (by omega) (ckN (t.extract 0 (t.size - 20))) (ckOf_N (t.extract 0 (t.size - 20)) hc5).2.1 (ckOf_N (t.extract 0 (t.size - 20)) hc5).2.2) ?_
         intro n11 hn11
         refine OA.pure (dst := (some 87)) (v := (.string t)) rfl rfl rfl rfl ?_
         refine OA.pure (dst := (some 88)) (v := (.bool (decide ((ckS k (ckN (t.extract 0 (t.size - 20)))) = t)))) rfl rfl rfl (r_eqlS rfl rfl rfl) ?_
         refine OA.pure (dst := (some 89)) (v := (.bool (decide ((ckS k (ckN (t.extract 0 (t.size - 20)))) = t)))) rfl rfl rfl rfl ?_
         refine OA.pure (dst := (some 90)) (v := (.bool (decide ((ckS k (ckN (t.extract 0 (t.size - 20)))) = t)))) rfl rfl rfl rfl ?_
         refine OA.pure (dst := (some 91)) (v := (.bool (decide ((ckS k (ckN (t.extract 0 (t.size - 20)))) = t)))) rfl rfl rfl rfl ?_
         refine OA.pure (dst := (some 6)) (v := (.bool (decide ((ckS k (ckN (t.extract 0 (t.size - 20)))) = t)))) rfl rfl rfl rfl ?_
         refine OA.nil ?_
         intro _
         refine RA.rebase [(6, (.bool (decide ((ckS k (ckN (t.extract 0 (t.size - 20)))) = t)))), (7, (.string k)), (8, (.string t)), (9, (Pt n7 0 0)), (10, (.int .i64 0)), (11, (.int .i64 0)), (35, (.bool false)), (44, (.bool false)), (63, (.bool false))] ⟨rfl, rfl, rfl, rfl, rfl, rfl, rfl, rfl, rfl, trivial⟩ (fun τr12 => ?_)
         refine RA.ret env_ok ?_
         refine ⟨.inr rfl, [(.bool (decide ((ckS k (ckN (t.extract 0 (t.size - 20)))) = t)))], (resL_cons rfl resL_nil), (by rw [one, decide_eq_true (gets_eq hc4 hc2)]), (kc1 (by omega))⟩
     ·
      refine OA.callP (dst := (some 31)) (all := [(.string k), (.string t), (.int .i64 0)]) (v := (.tuple ⟨[(.agg ⟨xCk52⟩), (.int .i64 0), (.int .i64 3)]⟩)) (hd.up (by omega)) rfl rfl rfl rfl rfl rfl rfl rfl (gD k t (by omega) (by omega) 0 (by omega) hc4 hc2.symm hc5) ?_
      intro n13 hn13
      refine OA.pure (dst := (some 28)) (v := (.tuple ⟨[(.agg ⟨xCk52⟩), (.int .i64 0), (.int .i64 3)]⟩)) rfl rfl rfl rfl ?_
      refine OA.pure (dst := (some 32)) (v := (.agg ⟨xCk52⟩)) rfl rfl rfl rfl ?_
      refine OA.pure (dst := (some 33)) (v := (.int .i64 0)) rfl rfl rfl rfl ?_
      refine OA.pure (dst := (some 34)) (v := (.int .i64 3)) rfl rfl rfl rfl ?_
      refine OA.op1 (dst := (some 9)) (v := (Pt n13 0 0)) (n1 := (n13 + 1)) (w := (n13, some ⟨[xCk52], 16, 35, true⟩)) rfl rfl rfl rfl (by omega) ?_
      refine OA.op1 (dst := none) (v := (.tuple #[])) (n1 := (n13 + 1)) (w := (n13, some ⟨[xCk52], 16, 35, true⟩)) rfl rfl rfl (r_store rfl rfl rfl rfl rfl rfl rfl get_here rfl rfl (Nat.le_of_ble_eq_true rfl) rfl) (by omega) ?_
      refine OA.pure (dst := (some 10)) (v := (.int .i64 0)) rfl rfl rfl rfl ?_
      refine OA.pure (dst := (some 11)) (v := (.int .i64 3)) rfl rfl rfl rfl ?_
      refine OA.nil ?_
      intro _
      refine RA.seq hd ?_
      refine RA.block ?_
      refine RA.seq hd ?_
      refine RA.region env_ok ?_
      refine OA.pure (dst := (some 36)) (v := (.string t)) rfl rfl rfl rfl ?_
      refine OA.pure (dst := (some 37)) (v := (.int .i64 ((t.size : Nat) : Int))) rfl rfl rfl rfl ?_
      refine OA.pure (dst := (some 38)) (v := (.bool false)) rfl rfl rfl (Eq.trans (r_bin rfl rfl rfl (b_lss rfl)) (by first | (rw [decide_eq_false hc1]; done) | (rw [decide_eq_false hc1]; rfl))) ?_
      refine OA.pure (dst := (some 35)) (v := (.bool false)) rfl rfl rfl rfl ?_
      refine OA.nil ?_
      intro _
      refine RA.cond (t := false) rfl (fun hc => ?_) (fun hc => ?_)
      · cases hc
      ·
       refine RA.seq hd ?_
       refine RA.par (md := [some [], some [], some [], some [], some [], some [], some [], some [], some [], some [], some [], some [], some [], some []]) env_ok (hd.of (by omega) (kb2 (by omega))) (by kernel_rfl) ?_
       refine PQ.pure (dst := (some 45)) (v := (.string k)) rfl rfl rfl noStore (none_ok _ _) rfl ?_
       refine PQ.pure (dst := (some 46)) (v := (.string t)) rfl rfl rfl noStore (none_ok _ _) rfl ?_
       refine PQ.pure (dst := (some 47)) (v := (.string t)) rfl rfl rfl noStore (none_ok _ _) rfl ?_
       refine PQ.pure (dst := (some 48)) (v := (.int .i64 ((t.size : Nat) : Int))) rfl rfl rfl noStore (none_ok _ _) rfl ?_
       refine PQ.pure (dst := (some 49)) (v := (.int .i64 (((t.size - 20) : Nat) : Int))) rfl rfl rfl noStore (none_ok _ _) (r_bin rfl rfl rfl (b_sub (i64_eq (by omega)))) ?_
       refine PQ.pure (dst := (some 50)) (v := (.string (t.extract 0 (t.size - 20)))) rfl rfl rfl noStore (none_ok _ _) (r_cut (a := 0) (b := (t.size - 20)) rfl rfl (fun _ => rfl) (fun _ => rfl) rfl rfl rfl bound_nat (by omega) (by omega) rfl) ?_
       refine PQ.callP (dst := (some 51)) (all := [(.string k), (.string (t.extract 0 (t.size - 20)))]) (v := (.string (macF k (t.extract 0 (t.size - 20))))) noStore (dom_none _) rfl rfl rfl rfl rfl rfl rfl rfl (none_ok _ _) (s19 k (t.extract 0 (t.size - 20)) (by omega) (by first | omega | (rw [size_cut _ _ _ (by omega)]; omega))) ?_
       intro n14 hn14
       refine PQ.pure (dst := (some 52)) (v := (.string t)) rfl rfl rfl noStore (none_ok _ _) rfl ?_
       refine PQ.pure (dst := (some 53)) (v := (.string t)) rfl rfl rfl noStore (none_ok _ _) rfl ?_
       refine PQ.pure (dst := (some 54)) (v := (.int .i64 ((t.size : Nat) : Int))) rfl rfl rfl noStore (none_ok _ _) rfl ?_
       refine PQ.pure (dst := (some 55)) (v := (.int .i64 (((t.size - 20) : Nat) : Int))) rfl rfl rfl noStore (none_ok _ _) (r_bin rfl rfl rfl (b_sub (i64_eq (by omega)))) ?_
       refine PQ.pure (dst := (some 56)) (v := (.string (t.extract (t.size - 20) t.size))) rfl rfl rfl noStore (none_ok _ _) (r_cut (a := (t.size - 20)) (b := t.size) rfl rfl (fun _ => rfl) (fun _ => rfl) rfl rfl bound_nat rfl (by omega) (by omega) rfl) ?_
       refine PQ.pure (dst := (some 57)) (v := (.bool false)) rfl rfl rfl noStore (none_ok _ _) (Eq.trans (r_neqS rfl rfl rfl) (by first | (rw [decide_eq_true hc2]; done) | (rw [decide_eq_true hc2]; rfl))) ?_
       refine PQ.pure (dst := (some 44)) (v := (.bool false)) rfl rfl rfl noStore (none_ok _ _) rfl ?_
       refine PQ.done (d := []) (by kernel_rfl) ?_
       intro _
       refine RA.rebase [(7, (.string k)), (8, (.string t)), (9, (Pt n13 0 0)), (10, (.int .i64 0)), (11, (.int .i64 3)), (35, (.bool false)), (44, (.bool false))] ⟨rfl, rfl, rfl, rfl, rfl, rfl, rfl, trivial⟩ (fun τr15 => ?_)
       refine RA.cond (t := false) rfl (fun hc => ?_) (fun hc => ?_)
       · cases hc
       ·
        refine RA.seq hd ?_
        refine RA.region env_ok ?_
        refine OA.pure (dst := (some 64)) (v := (.string t)) rfl rfl rfl rfl ?_
        refine OA.pure (dst := (some 65)) (v := (.int .i64 ((t.size : Nat) : Int))) rfl rfl rfl rfl ?_
        refine OA.pure (dst := (some 66)) (v := (.bool false)) rfl rfl rfl (Eq.trans (r_bin rfl rfl rfl (b_lss rfl)) (by first | (rw [decide_eq_false hc3]; done) | (rw [decide_eq_false hc3]; rfl))) ?_
        refine OA.pure (dst := (some 63)) (v := (.bool false)) rfl rfl rfl rfl ?_
        refine OA.nil ?_
        intro _
        refine RA.cond (t := false) rfl (fun hc => ?_) (fun hc => ?_)
        · cases hc
        ·
         refine RA.skip env_ok ?_
         intro _
         refine RA.seq hd ?_
         refine RA.region env_ok ?_
         refine OA.callP (dst := (some 72)) (all := []) (v := (.bool true)) (hd.of (by omega) (kb2 (by omega))) rfl rfl rfl rfl rfl rfl rfl rfl s23 ?_
         intro n16 hn16
         refine OA.pure (dst := (some 73)) (v := (.bool true)) rfl rfl rfl rfl ?_
         refine OA.pure (dst := (some 74)) (v := (.int .i64 0)) rfl rfl rfl rfl ?_
         refine OA.pure (dst := (some 75)) (v := (.bool true)) rfl rfl rfl (r_bin rfl rfl rfl (b_eql rfl)) ?_
         refine OA.pure (dst := (some 76)) (v := (.bool true)) rfl rfl rfl rfl ?_
         refine OA.pure (dst := (some 77)) (v := (.bool true)) rfl rfl rfl rfl ?_
         refine OA.pure (dst := (some 78)) (v := (.int .i64 3)) rfl rfl rfl rfl ?_
         refine OA.pure (dst := (some 79)) (v := (.bool true)) rfl rfl rfl (r_bin rfl rfl rfl (b_eql rfl)) ?_
         refine OA.pure (dst := (some 80)) (v := (.bool true)) rfl rfl rfl rfl ?_
         refine OA.off (dst := (some 81)) rfl rfl rfl ?_
         refine OA.off (dst := (some 82)) rfl rfl rfl ?_
         refine OA.off (dst := (some 83)) rfl rfl rfl ?_
         refine OA.off (dst := (some 84)) rfl rfl rfl ?_
         refine OA.off (dst := (some 85)) rfl rfl rfl ?_
         refine OA.off (dst := (some 86)) rfl rfl rfl ?_
         refine OA.off (dst := (some 87)) rfl rfl rfl ?_
         refine OA.off (dst := (some 88)) rfl rfl rfl ?_
         refine OA.off (dst := (some 89)) rfl rfl rfl ?_
         refine OA.pure (dst := (some 90)) (v := (.bool true)) rfl rfl rfl rfl ?_
         refine OA.pure (dst := (some 91)) (v := (.bool true)) rfl rfl rfl rfl ?_
         refine OA.pure (dst := (some 6)) (v := (.bool true)) rfl rfl rfl rfl ?_
         refine OA.nil ?_
         intro _
         refine RA.rebase [(6, (.bool true)), (7, (.string k)), (8, (.string t)), (9, (Pt n13 0 0)), (10, (.int .i64 0)), (11, (.int .i64 3)), (35, (.bool false)), (44, (.bool false)), (63, (.bool false))] ⟨rfl, rfl, rfl, rfl, rfl, rfl, rfl, rfl, rfl, trivial⟩ (fun τr17 => ?_)
         refine RA.ret env_ok ?_
         refine ⟨.inr rfl, [(.bool true)], (resL_cons rfl resL_nil), rfl, (kc2 (by omega))⟩
    ·
     refine OA.callP (dst := (some 31)) (all := [(.string k), (.string t), (.int .i64 0)]) (v := (.tuple ⟨[(.agg ⟨xCk52⟩), (.int .i64 0), (.int .i64 3)]⟩)) (hd.up (by omega)) rfl rfl rfl rfl rfl rfl rfl rfl (gC3 k t (by omega) (by omega) 0 (by omega) (by omega) hc2.symm (by omega)) ?_
     intro n18 hn18
     refine OA.pure (dst := (some 28)) (v := (.tuple ⟨[(.agg ⟨xCk52⟩), (.int .i64 0), (.int .i64 3)]⟩)) rfl rfl rfl rfl ?_
     refine OA.pure (dst := (some 32)) (v := (.agg ⟨xCk52⟩)) rfl rfl rfl rfl ?_
     refine OA.pure (dst := (some 33)) (v := (.int .i64 0)) rfl rfl rfl rfl ?_
     refine OA.pure (dst := (some 34)) (v := (.int .i64 3)) rfl rfl rfl rfl ?_
     refine OA.op1 (dst := (some 9)) (v := (Pt n18 0 0)) (n1 := (n18 + 1)) (w := (n18, some ⟨[xCk52], 16, 35, true⟩)) rfl rfl rfl rfl (by omega) ?_
     refine OA.op1 (dst := none) (v := (.tuple #[])) (n1 := (n18 + 1)) (w := (n18, some ⟨[xCk52], 16, 35, true⟩)) rfl rfl rfl (r_store rfl rfl rfl rfl rfl rfl rfl get_here rfl rfl (Nat.le_of_ble_eq_true rfl) rfl) (by omega) ?_
     refine OA.pure (dst := (some 10)) (v := (.int .i64 0)) rfl rfl rfl rfl ?_
     refine OA.pure (dst := (some 11)) (v := (.int .i64 3)) rfl rfl rfl rfl ?_
     refine OA.nil ?_
     intro _
     refine RA.seq hd ?_
     refine RA.block ?_
     refine RA.seq hd ?_
     refine RA.region env_ok ?_
     refine OA.pure (dst := (some 36)) (v := (.string t)) rfl rfl rfl rfl ?_
     refine OA.pure (dst := (some 37)) (v := (.int .i64 ((t.size : Nat) : Int))) rfl rfl rfl rfl ?_
     refine OA.pure (dst := (some 38)) (v := (.bool false)) rfl rfl rfl (Eq.trans (r_bin rfl rfl rfl (b_lss rfl)) (by first | (rw [decide_eq_false hc1]; done) | (rw [decide_eq_false hc1]; rfl))) ?_
     refine OA.pure (dst := (some 35)) (v := (.bool false)) rfl rfl rfl rfl ?_
     refine OA.nil ?_
     intro _
     refine RA.cond (t := false) rfl (fun hc => ?_) (fun hc => ?_)
     · cases hc
     ·
      refine RA.seq hd ?_
      refine RA.par (md := [some [], some [], some [], some [], some [], some [], some [], some [], some [], some [], some [], some [], some [], some []]) env_ok (hd.of (by omega) (kb2 (by omega))) (by kernel_rfl) ?_
      refine PQ.pure (dst := (some 45)) (v := (.string k)) rfl rfl rfl noStore (none_ok _ _) rfl ?_
      refine PQ.pure (dst := (some 46)) (v := (.string t)) rfl rfl rfl noStore (none_ok _ _) rfl ?_
      refine PQ.pure (dst := (some 47)) (v := (.string t)) rfl rfl rfl noStore (none_ok _ _) rfl ?_
      refine PQ.pure (dst := (some 48)) (v := (.int .i64 ((t.size : Nat) : Int))) rfl rfl rfl noStore (none_ok _ _) rfl ?_
      refine PQ.pure (dst := (some 49)) (v := (.int .i64 (((t.size - 20) : Nat) : Int))) rfl rfl rfl noStore (none_ok _ _) (r_bin rfl rfl rfl (b_sub (i64_eq (by omega)))) ?_
      refine PQ.pure (dst := (some 50)) (v := (.string (t.extract 0 (t.size - 20)))) rfl rfl rfl noStore (none_ok _ _) (r_cut (a := 0) (b := (t.size - 20)) rfl rfl (fun _ => rfl) (fun _ => rfl) rfl rfl rfl bound_nat (by omega) (by omega) rfl) ?_
      refine PQ.callP (dst := (some 51)) (all := [(.string k), (.string (t.extract 0 (t.size - 20)))]) (v := (.string (macF k (t.extract 0 (t.size - 20))))) noStore (dom_none _) rfl rfl rfl rfl rfl rfl rfl rfl (none_ok _ _) (s19 k (t.extract 0 (t.size - 20)) (by omega) (by first | omega | (rw [size_cut _ _ _ (by omega)]; omega))) ?_
      intro n19 hn19
      refine PQ.pure (dst := (some 52)) (v := (.string t)) rfl rfl rfl noStore (none_ok _ _) rfl ?_
      refine PQ.pure (dst := (some 53)) (v := (.string t)) rfl rfl rfl noStore (none_ok _ _) rfl ?_
      refine PQ.pure (dst := (some 54)) (v := (.int .i64 ((t.size : Nat) : Int))) rfl rfl rfl noStore (none_ok _ _) rfl ?_
      refine PQ.pure (dst := (some 55)) (v := (.int .i64 (((t.size - 20) : Nat) : Int))) rfl rfl rfl noStore (none_ok _ _) (r_bin rfl rfl rfl (b_sub (i64_eq (by omega)))) ?_
      refine PQ.pure (dst := (some 56)) (v := (.string (t.extract (t.size - 20) t.size))) rfl rfl rfl noStore (none_ok _ _) (r_cut (a := (t.size - 20)) (b := t.size) rfl rfl (fun _ => rfl) (fun _ => rfl) rfl rfl bound_nat rfl (by omega) (by omega) rfl) ?_
      refine PQ.pure (dst := (some 57)) (v := (.bool false)) rfl rfl rfl noStore (none_ok _ _) (Eq.trans (r_neqS rfl rfl rfl) (by first | (rw [decide_eq_true hc2]; done) | (rw [decide_eq_true hc2]; rfl))) ?_
      refine PQ.pure (dst := (some 44)) (v := (.bool false)) rfl rfl rfl noStore (none_ok _ _) rfl ?_
      refine PQ.done (d := []) (by kernel_rfl) ?_
      intro _
      refine RA.rebase [(7, (.string k)), (8, (.string t)), (9, (Pt n18 0 0)), (10, (.int .i64 0)), (11, (.int .i64 3)), (35, (.bool false)), (44, (.bool false))] ⟨rfl, rfl, rfl, rfl, rfl, rfl, rfl, trivial⟩ (fun τr20 => ?_)
      refine RA.cond (t := false) rfl (fun hc => ?_) (fun hc => ?_)
      · cases hc
      ·
       refine RA.seq hd ?_
       refine RA.region env_ok ?_
       refine OA.pure (dst := (some 64)) (v := (.string t)) rfl rfl rfl rfl ?_
       refine OA.pure (dst := (some 65)) (v := (.int .i64 ((t.size : Nat) : Int))) rfl rfl rfl rfl ?_
       refine OA.pure (dst := (some 66)) (v := (.bool false)) rfl rfl rfl (Eq.trans (r_bin rfl rfl rfl (b_lss rfl)) (by first | (rw [decide_eq_false hc3]; done) | (rw [decide_eq_false hc3]; rfl))) ?_
       refine OA.pure (dst := (some 63)) (v := (.bool false)) rfl rfl rfl rfl ?_
       refine OA.nil ?_
       intro _
       refine RA.cond (t := false) rfl (fun hc => ?_) (fun hc => ?_)
       · cases hc
       ·
        refine RA.skip env_ok ?_
        intro _
        refine RA.seq hd ?_
        refine RA.region env_ok ?_
        refine OA.callP (dst := (some 72)) (all := []) (v := (.bool true)) (hd.of (by omega) (kb2 (by omega))) rfl rfl rfl rfl rfl rfl rfl rfl s23 ?_
        intro n21 hn21
        refine OA.pure (dst := (some 73)) (v := (.bool true)) rfl rfl rfl rfl ?_
        refine OA.pure (dst := (some 74)) (v := (.int .i64 0)) rfl rfl rfl rfl ?_
        refine OA.pure (dst := (some 75)) (v := (.bool true)) rfl rfl rfl (r_bin rfl rfl rfl (b_eql rfl)) ?_
        refine OA.pure (dst := (some 76)) (v := (.bool true)) rfl rfl rfl rfl ?_
        refine OA.pure (dst := (some 77)) (v := (.bool true)) rfl rfl rfl rfl ?_
        refine OA.pure (dst := (some 78)) (v := (.int .i64 3)) rfl rfl rfl rfl ?_
        refine OA.pure (dst := (some 79)) (v := (.bool true)) rfl rfl rfl (r_bin rfl rfl rfl (b_eql rfl)) ?_
        refine OA.pure (dst := (some 80)) (v := (.bool true)) rfl rfl rfl rfl ?_
        refine OA.off (dst := (some 81)) rfl rfl rfl ?_
        refine OA.off (dst := (some 82)) rfl rfl rfl ?_
        refine OA.off (dst := (some 83)) rfl rfl rfl ?_
        refine OA.off (dst := (some 84)) rfl rfl rfl ?_
        refine OA.off (dst := (some 85)) rfl rfl rfl ?_
        refine OA.off (dst := (some 86)) rfl rfl rfl ?_
        refine OA.off (dst := (some 87)) rfl rfl rfl ?_
        refine OA.off (dst := (some 88)) rfl rfl rfl ?_
        refine OA.off (dst := (some 89)) rfl rfl rfl ?_
        refine OA.pure (dst := (some 90)) (v := (.bool true)) rfl rfl rfl rfl ?_
        refine OA.pure (dst := (some 91)) (v := (.bool true)) rfl rfl rfl rfl ?_
        refine OA.pure (dst := (some 6)) (v := (.bool true)) rfl rfl rfl rfl ?_
        refine OA.nil ?_
        intro _
        refine RA.rebase [(6, (.bool true)), (7, (.string k)), (8, (.string t)), (9, (Pt n18 0 0)), (10, (.int .i64 0)), (11, (.int .i64 3)), (35, (.bool false)), (44, (.bool false)), (63, (.bool false))] ⟨rfl, rfl, rfl, rfl, rfl, rfl, rfl, rfl, rfl, trivial⟩ (fun τr22 => ?_)
        refine RA.ret env_ok ?_
        refine ⟨.inr rfl, [(.bool true)], (resL_cons rfl resL_nil), rfl, (kc2 (by omega))⟩
  ·
   refine OA.callP (dst := (some 31)) (all := [(.string k), (.string t), (.int .i64 0)]) (v := (.tuple ⟨[(.agg ⟨xCk52⟩), (.int .i64 0), (.int .i64 100)]⟩)) (hd.up (by omega)) rfl rfl rfl rfl rfl rfl rfl rfl (gB k t (by omega) (by omega) 0 (by omega) (by omega) (fun q => hc2 q.symm)) ?_
   intro n23 hn23
   refine OA.pure (dst := (some 28)) (v := (.tuple ⟨[(.agg ⟨xCk52⟩), (.int .i64 0), (.int .i64 100)]⟩)) rfl rfl rfl rfl ?_
   refine OA.pure (dst := (some 32)) (v := (.agg ⟨xCk52⟩)) rfl rfl rfl rfl ?_
   refine OA.pure (dst := (some 33)) (v := (.int .i64 0)) rfl rfl rfl rfl ?_
   refine OA.pure (dst := (some 34)) (v := (.int .i64 100)) rfl rfl rfl rfl ?_
   refine OA.op1 (dst := (some 9)) (v := (Pt n23 0 0)) (n1 := (n23 + 1)) (w := (n23, some ⟨[xCk52], 16, 35, true⟩)) rfl rfl rfl rfl (by omega) ?_
   refine OA.op1 (dst := none) (v := (.tuple #[])) (n1 := (n23 + 1)) (w := (n23, some ⟨[xCk52], 16, 35, true⟩)) rfl rfl rfl (r_store rfl rfl rfl rfl rfl rfl rfl get_here rfl rfl (Nat.le_of_ble_eq_true rfl) rfl) (by omega) ?_
   refine OA.pure (dst := (some 10)) (v := (.int .i64 0)) rfl rfl rfl rfl ?_
   refine OA.pure (dst := (some 11)) (v := (.int .i64 100)) rfl rfl rfl rfl ?_
   refine OA.nil ?_
   intro _
   refine RA.seq hd ?_
   refine RA.block ?_
   refine RA.seq hd ?_
   refine RA.region env_ok ?_
   refine OA.pure (dst := (some 36)) (v := (.string t)) rfl rfl rfl rfl ?_
   refine OA.pure (dst := (some 37)) (v := (.int .i64 ((t.size : Nat) : Int))) rfl rfl rfl rfl ?_
   refine OA.pure (dst := (some 38)) (v := (.bool false)) rfl rfl rfl (Eq.trans (r_bin rfl rfl rfl (b_lss rfl)) (by first | (rw [decide_eq_false hc1]; done) | (rw [decide_eq_false hc1]; rfl))) ?_
   refine OA.pure (dst := (some 35)) (v := (.bool false)) rfl rfl rfl rfl ?_
   refine OA.nil ?_
   intro _
   refine RA.cond (t := false) rfl (fun hc => ?_) (fun hc => ?_)
   · cases hc
   ·
    refine RA.seq hd ?_
    refine RA.par (md := [some [], some [], some [], some [], some [], some [], some [], some [], some [], some [], some [], some [], some [], some []]) env_ok (hd.of (by omega) (kb2 (by omega))) (by kernel_rfl) ?_
    refine PQ.pure (dst := (some 45)) (v := (.string k)) rfl rfl rfl noStore (none_ok _ _) rfl ?_
    refine PQ.pure (dst := (some 46)) (v := (.string t)) rfl rfl rfl noStore (none_ok _ _) rfl ?_
    refine PQ.pure (dst := (some 47)) (v := (.string t)) rfl rfl rfl noStore (none_ok _ _) rfl ?_
    refine PQ.pure (dst := (some 48)) (v := (.int .i64 ((t.size : Nat) : Int))) rfl rfl rfl noStore (none_ok _ _) rfl ?_
    refine PQ.pure (dst := (some 49)) (v := (.int .i64 (((t.size - 20) : Nat) : Int))) rfl rfl rfl noStore (none_ok _ _) (r_bin rfl rfl rfl (b_sub (i64_eq (by omega)))) ?_
    refine PQ.pure (dst := (some 50)) (v := (.string (t.extract 0 (t.size - 20)))) rfl rfl rfl noStore (none_ok _ _) (r_cut (a := 0) (b := (t.size - 20)) rfl rfl (fun _ => rfl) (fun _ => rfl) rfl rfl rfl bound_nat (by omega) (by omega) rfl) ?_
    refine PQ.callP (dst := (some 51)) (all := [(.string k), (.string (t.extract 0 (t.size - 20)))]) (v := (.string (macF k (t.extract 0 (t.size - 20))))) noStore (dom_none _) rfl rfl rfl rfl rfl rfl rfl rfl (none_ok _ _) (s19 k (t.extract 0 (t.size - 20)) (by omega) (by first | omega | (rw [size_cut _ _ _ (by omega)]; omega))) ?_
    intro n24 hn24
    refine PQ.pure (dst := (some 52)) (v := (.string t)) rfl rfl rfl noStore (none_ok _ _) rfl ?_
    refine PQ.pure (dst := (some 53)) (v := (.string t)) rfl rfl rfl noStore (none_ok _ _) rfl ?_
    refine PQ.pure (dst := (some 54)) (v := (.int .i64 ((t.size : Nat) : Int))) rfl rfl rfl noStore (none_ok _ _) rfl ?_
    refine PQ.pure (dst := (some 55)) (v := (.int .i64 (((t.size - 20) : Nat) : Int))) rfl rfl rfl noStore (none_ok _ _) (r_bin rfl rfl rfl (b_sub (i64_eq (by omega)))) ?_
    refine PQ.pure (dst := (some 56)) (v := (.string (t.extract (t.size - 20) t.size))) rfl rfl rfl noStore (none_ok _ _) (r_cut (a := (t.size - 20)) (b := t.size) rfl rfl (fun _ => rfl) (fun _ => rfl) rfl rfl bound_nat rfl (by omega) (by omega) rfl) ?_
    refine PQ.pure (dst := (some 57)) (v := (.bool true)) rfl rfl rfl noStore (none_ok _ _) (Eq.trans (r_neqS rfl rfl rfl) (by first | (rw [decide_eq_false hc2]; done) | (rw [decide_eq_false hc2]; rfl))) ?_
    refine PQ.pure (dst := (some 44)) (v := (.bool true)) rfl rfl rfl noStore (none_ok _ _) rfl ?_
    refine PQ.done (d := []) (by kernel_rfl) ?_
    intro _
    refine RA.rebase [(7, (.string k)), (8, (.string t)), (9, (Pt n23 0 0)), (10, (.int .i64 0)), (11, (.int .i64 100)), (35, (.bool false)), (44, (.bool true))] ⟨rfl, rfl, rfl, rfl, rfl, rfl, rfl, trivial⟩ (fun τr25 => ?_)
    refine RA.cond (t := true) rfl (fun hc => ?_) (fun hc => ?_)
    ·
     refine RA.seq hd ?_
     refine RA.region env_ok ?_
     refine OA.callP (dst := (some 58)) (all := []) (v := (.bool true)) (hd.of (by omega) (kb2 (by omega))) rfl rfl rfl rfl rfl rfl rfl rfl s23 ?_
     intro n26 hn26
     refine OA.pure (dst := (some 59)) (v := (.bool true)) rfl rfl rfl rfl ?_
     refine OA.pure (dst := (some 60)) (v := (.int .i64 100)) rfl rfl rfl rfl ?_
     refine OA.pure (dst := (some 61)) (v := (.bool true)) rfl rfl rfl (r_bin rfl rfl rfl (b_eql rfl)) ?_
     refine OA.pure (dst := (some 62)) (v := (.bool true)) rfl rfl rfl rfl ?_
     refine OA.pure (dst := (some 6)) (v := (.bool true)) rfl rfl rfl rfl ?_
     refine OA.nil ?_
     intro _
     refine RA.ret env_ok ?_
     refine ⟨.inr rfl, [(.bool true)], (resL_cons rfl resL_nil), rfl, (kc2 (by omega))⟩
    · cases hc
theorem s9t {σ : Store} (key s : ByteArray)   : PS Try.prog noDen 9 [(.string key), (.string s), (.bool true)] σ (.bool true) := by
 refine PS.body (E := env) env_ok rfl rfl (by show _ ≤ _; exact of_decide_eq_true (by kernel_rfl)) (fun n hd => ?_)
 refine RA.seq hd ?_
 refine RA.region env_ok ?_
 refine OA.pure (dst := (some 6)) (v := (.bool false)) rfl rfl rfl rfl ?_
 refine OA.nil ?_
 intro _
 refine RA.seq hd ?_
 refine RA.par (md := [some [], some [], some [], some [], some [], some [], some [], some [], some [], some [], some [], some []]) env_ok (hd.up (by omega)) (by kernel_rfl) ?_
 refine PQ.pure (dst := (some 12)) (v := (.string key)) rfl rfl rfl noStore (none_ok _ _) rfl ?_
 refine PQ.pure (dst := (some 13)) (v := (.string key)) rfl rfl rfl noStore (none_ok _ _) rfl ?_
 refine PQ.pure (dst := (some 14)) (v := (.int .i64 ((key.size : Nat) : Int))) rfl rfl rfl noStore (none_ok _ _) rfl ?_
 refine PQ.pure (dst := (some 15)) (v := (.int .i64 (((min key.size 70) : Nat) : Int))) rfl rfl rfl noStore (none_ok _ _) (r_min (a := key.size) (b := 70) rfl rfl rfl) ?_
 refine PQ.pure (dst := (some 16)) (v := (.string (key.extract 0 (min key.size 70)))) rfl rfl rfl noStore (none_ok _ _) (r_cut (a := 0) (b := (min key.size 70)) rfl rfl (fun _ => rfl) (fun _ => rfl) rfl rfl rfl bound_nat (by omega) (by omega) rfl) ?_
 refine PQ.pure (dst := (some 17)) (v := (.string s)) rfl rfl rfl noStore (none_ok _ _) rfl ?_
 refine PQ.pure (dst := (some 18)) (v := (.string s)) rfl rfl rfl noStore (none_ok _ _) rfl ?_
 refine PQ.pure (dst := (some 19)) (v := (.int .i64 ((s.size : Nat) : Int))) rfl rfl rfl noStore (none_ok _ _) rfl ?_
 refine PQ.pure (dst := (some 20)) (v := (.int .i64 (((min s.size 130) : Nat) : Int))) rfl rfl rfl noStore (none_ok _ _) (r_min (a := s.size) (b := 130) rfl rfl rfl) ?_
 refine PQ.pure (dst := (some 21)) (v := (.string (s.extract 0 (min s.size 130)))) rfl rfl rfl noStore (none_ok _ _) (r_cut (a := 0) (b := (min s.size 130)) rfl rfl (fun _ => rfl) (fun _ => rfl) rfl rfl rfl bound_nat (by omega) (by omega) rfl) ?_
 refine PQ.pure (dst := (some 7)) (v := (.string (key.extract 0 (min key.size 70)))) rfl rfl rfl noStore (none_ok _ _) rfl ?_
 refine PQ.pure (dst := (some 8)) (v := (.string (s.extract 0 (min s.size 130)))) rfl rfl rfl noStore (none_ok _ _) rfl ?_
 refine PQ.done (d := []) (by kernel_rfl) ?_
 intro _
 refine RA.seq hd ?_
 refine RA.seq hd ?_
 refine RA.region env_ok ?_
 refine OA.pure (dst := (some 22)) (v := (.bool true)) rfl rfl rfl rfl ?_
 refine OA.nil ?_
 intro _
 refine RA.cond (t := true) rfl (fun hc => ?_) (fun hc => ?_)
 ·
  refine RA.region env_ok ?_
  refine OA.pure (dst := (some 23)) (v := (.string (s.extract 0 (min s.size 130)))) rfl rfl rfl rfl ?_
  refine OA.pure (dst := (some 24)) (v := (.string (key.extract 0 (min key.size 70)))) rfl rfl rfl rfl ?_
  refine OA.pure (dst := (some 25)) (v := (.string (s.extract 0 (min s.size 130)))) rfl rfl rfl rfl ?_
  refine OA.callP (dst := (some 26)) (all := [(.string (key.extract 0 (min key.size 70))), (.string (s.extract 0 (min s.size 130)))]) (v := (.string (macF (key.extract 0 (min key.size 70)) (s.extract 0 (min s.size 130))))) (hd.up (by omega)) rfl rfl rfl rfl rfl rfl rfl rfl (s19 (key.extract 0 (min key.size 70)) (s.extract 0 (min s.size 130)) (by rw [size_cut _ _ _ (by omega)]; omega) (by rw [size_cut _ _ _ (by omega)]; omega)) ?_
  intro n1 hn1
  refine OA.pure (dst := (some 27)) (v := (.string ((s.extract 0 (min s.size 130)) ++ (macF (key.extract 0 (min key.size 70)) (s.extract 0 (min s.size 130)))))) rfl rfl rfl (r_cat rfl rfl rfl (by (try simp only [ByteArray.size_append, bstr_size, size_lit, List.size_toArray, List.length_cons, List.length_nil, List.length_take, List.length_drop, List.length_replicate, macF_size, ByteArray.size_extract]); try omega)) ?_
  refine OA.pure (dst := (some 8)) (v := (.string ((s.extract 0 (min s.size 130)) ++ (macF (key.extract 0 (min key.size 70)) (s.extract 0 (min s.size 130)))))) rfl rfl rfl rfl ?_
  refine OA.nil ?_
  intro _
  refine RA.weaken (D' := []) hd (Less.refl _ _ _) ?_
  refine RA.rebase [(7, (.string (key.extract 0 (min key.size 70)))), (8, (.string ((s.extract 0 (min s.size 130)) ++ (macF (key.extract 0 (min key.size 70)) (s.extract 0 (min s.size 130))))))] ⟨rfl, rfl, trivial⟩ (fun τr => ?_)
  exact suf9 hd (key.extract 0 (min key.size 70)) ((s.extract 0 (min s.size 130)) ++ (macF (key.extract 0 (min key.size 70)) (s.extract 0 (min s.size 130)))) (by rw [size_cut _ _ _ (by omega)]; omega) (by rw [ByteArray.size_append, macF_size]; rw [size_cut _ _ _ (by omega)]; omega) n1 (by omega) τr
 · cases hc
theorem s9f {σ : Store} (key s : ByteArray)   : PS Try.prog noDen 9 [(.string key), (.string s), (.bool false)] σ (.bool true) := by
 refine PS.body (E := env) env_ok rfl rfl (by show _ ≤ _; exact of_decide_eq_true (by kernel_rfl)) (fun n hd => ?_)
 refine RA.seq hd ?_
 refine RA.region env_ok ?_
 refine OA.pure (dst := (some 6)) (v := (.bool false)) rfl rfl rfl rfl ?_
 refine OA.nil ?_
 intro _
 refine RA.seq hd ?_
 refine RA.par (md := [some [], some [], some [], some [], some [], some [], some [], some [], some [], some [], some [], some []]) env_ok (hd.up (by omega)) (by kernel_rfl) ?_
 refine PQ.pure (dst := (some 12)) (v := (.string key)) rfl rfl rfl noStore (none_ok _ _) rfl ?_
 refine PQ.pure (dst := (some 13)) (v := (.string key)) rfl rfl rfl noStore (none_ok _ _) rfl ?_
 refine PQ.pure (dst := (some 14)) (v := (.int .i64 ((key.size : Nat) : Int))) rfl rfl rfl noStore (none_ok _ _) rfl ?_
 refine PQ.pure (dst := (some 15)) (v := (.int .i64 (((min key.size 70) : Nat) : Int))) rfl rfl rfl noStore (none_ok _ _) (r_min (a := key.size) (b := 70) rfl rfl rfl) ?_
 refine PQ.pure (dst := (some 16)) (v := (.string (key.extract 0 (min key.size 70)))) rfl rfl rfl noStore (none_ok _ _) (r_cut (a := 0) (b := (min key.size 70)) rfl rfl (fun _ => rfl) (fun _ => rfl) rfl rfl rfl bound_nat (by omega) (by omega) rfl) ?_
 refine PQ.pure (dst := (some 17)) (v := (.string s)) rfl rfl rfl noStore (none_ok _ _) rfl ?_
 refine PQ.pure (dst := (some 18)) (v := (.string s)) rfl rfl rfl noStore (none_ok _ _) rfl ?_
 refine PQ.pure (dst := (some 19)) (v := (.int .i64 ((s.size : Nat) : Int))) rfl rfl rfl noStore (none_ok _ _) rfl ?_
 refine PQ.pure (dst := (some 20)) (v := (.int .i64 (((min s.size 130) : Nat) : Int))) rfl rfl rfl noStore (none_ok _ _) (r_min (a := s.size) (b := 130) rfl rfl rfl) ?_
 refine PQ.pure (dst := (some 21)) (v := (.string (s.extract 0 (min s.size 130)))) rfl rfl rfl noStore (none_ok _ _) (r_cut (a := 0) (b := (min s.size 130)) rfl rfl (fun _ => rfl) (fun _ => rfl) rfl rfl rfl bound_nat (by omega) (by omega) rfl) ?_
 refine PQ.pure (dst := (some 7)) (v := (.string (key.extract 0 (min key.size 70)))) rfl rfl rfl noStore (none_ok _ _) rfl ?_
 refine PQ.pure (dst := (some 8)) (v := (.string (s.extract 0 (min s.size 130)))) rfl rfl rfl noStore (none_ok _ _) rfl ?_
 refine PQ.done (d := []) (by kernel_rfl) ?_
 intro _
 refine RA.seq hd ?_
 refine RA.seq hd ?_
 refine RA.region env_ok ?_
 refine OA.pure (dst := (some 22)) (v := (.bool false)) rfl rfl rfl rfl ?_
 refine OA.nil ?_
 intro _
 refine RA.cond (t := false) rfl (fun hc => ?_) (fun hc => ?_)
 · cases hc
 ·
  refine RA.skip env_ok ?_
  intro _
  refine RA.weaken (D' := []) hd (Less.refl _ _ _) ?_
  refine RA.rebase [(7, (.string (key.extract 0 (min key.size 70)))), (8, (.string (s.extract 0 (min s.size 130))))] ⟨rfl, rfl, trivial⟩ (fun τr => ?_)
  exact suf9 hd (key.extract 0 (min key.size 70)) (s.extract 0 (min s.size 130)) (by rw [size_cut _ _ _ (by omega)]; omega) (by rw [size_cut _ _ _ (by omega)]; omega) n (by omega) τr
end Go.Proofs.Ytdnkhdkflemkeaa.Vt
