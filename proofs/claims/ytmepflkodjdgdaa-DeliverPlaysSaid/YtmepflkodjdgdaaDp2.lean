/- Dp2: walks through functions of the program, by the calculus; written by a program of this workplace. -/
import Derived.Test.YtmepflkodjdgdaaDp1
import Derived.Test.YtmepflkodjdgdaaVm6
namespace Go.Proofs.Ytmepflkodjdgdaa.Vt
open Go Go.Proofs Go.Proofs.YtmepflkodjdgdaaV
set_option maxRecDepth 100000
set_option linter.unusedVariables false
set_option linter.unusedSimpArgs false
abbrev xDp21 (L2 : List Msg) : List Value := [(.int .i64 (L2.getD 0 dMsg).st), (.int .i64 (L2.getD 0 dMsg).ssn), (.bool (L2.getD 0 dMsg).loose), (W (L2.getD 0 dMsg).proto), (.string (L2.getD 0 dMsg).data)]
abbrev xDp22 (jn : Nat) (NX : Nat) (n3 : Nat) (K : Nat) (jo : Nat) (M : Nat) : List Value := [(.slice (some ⟨jn, 0, none⟩) NX 0), (.slice (some ⟨(n3 + 1), 0, none⟩) (K + 1) 2), (.slice (some ⟨jo, 0, none⟩) M 2)]
abbrev xDp23 (jn : Nat) (NX : Nat) (jw2 : Nat) (K2 : Nat) (jo2 : Nat) (M2 : Nat) : List Value := [(.slice (some ⟨jn, 0, none⟩) NX 0), (.slice (some ⟨jw2, 0, none⟩) K2 2), (.slice (some ⟨jo2, 0, none⟩) M2 2)]
abbrev xDp24 (jn : Nat) (NX : Nat) (n : Nat) (K : Nat) (jo : Nat) (M : Nat) : List Value := [(.slice (some ⟨jn, 0, none⟩) NX 0), (.slice (some ⟨n, 0, none⟩) K 2), (.slice (some ⟨jo, 0, none⟩) M 2)]
theorem pPutX {n : Nat} {σ : Store} (hd : Dom n σ) (s jn NX : Nat) (w o_ : Value) (hw : oneB w = true) (ho : oneB o_ = true) (m : Msg) (hr : m.st < 0 ∨ ((NX : Nat) : Int) ≤ m.st) (hs : σ s = some ⟨[[(.slice (some ⟨jn, 0, none⟩) NX 0), w, o_]], 3, 101, true⟩)  : CQ Try.prog noDen 14 [(Pt s 0 0), (.agg ⟨(cMsg m)⟩)] n σ (fun v n' d => v = .bool false ∧ d = []) := by
 have lhs := hd.lt hs
 refine CQ.body (E := env) env_ok hd rfl rfl (by show _ ≤ _; exact of_decide_eq_true (by kernel_rfl)) ?_
 refine RA.seq hd ?_
 refine RA.region env_ok ?_
 refine OA.op1 (dst := (some 3)) (v := (Pt n 0 0)) (n1 := (n + 1)) (w := (n, some ⟨[(cMsg m)], 5, 29, true⟩)) rfl rfl rfl rfl (by omega) ?_
 refine OA.p (some 4) (.bool false) rfl rfl rfl rfl ?_
 refine OA.nil ?_
 intro _
 refine RA.seq hd ?_
 refine RA.seq hd ?_
 refine RA.par (md := [some [], some [], some [], some [], some [n], some [], some [], some [], some [], some [n], some [], some [], some [], some [s], some [], some [], some []]) env_ok (hd.of (by omega) (kb1 (by omega))) (by kernel_rfl) ?_
 refine PQ.pure (dst := (some 6)) (v := (Pt s 0 0)) rfl rfl rfl noStore (none_ok _ _) rfl ?_
 refine PQ.pure (dst := (some 7)) (v := (.bool false)) rfl rfl rfl noStore (none_ok _ _) rfl ?_
 refine PQ.pure (dst := (some 8)) (v := (.bool false)) rfl rfl rfl noStore (none_ok _ _) rfl ?_
 refine PQ.pure (dst := (some 9)) (v := (Pt n 0 0)) rfl rfl rfl noStore (none_ok _ _) rfl ?_
 refine PQ.pure (dst := (some 10)) (v := (.int .i64 m.st)) rfl rfl rfl (app [(n, some ⟨[(cMsg m)], 5, 29, true⟩)] noStore) (seen_one (V := []) (D := [(n, some ⟨[(cMsg m)], 5, 29, true⟩)]) (by kernel_rfl) get_here) (r_load1 rfl rfl rfl rfl rfl get_here rfl rfl) ?_
 by_cases hc1 : m.st < 0
 ·
  refine PQ.pure (dst := (some 11)) (v := (.bool true)) rfl rfl rfl noStore (none_ok _ _) (Eq.trans (r_bin rfl rfl rfl (b_lss rfl)) (dT hc1)) ?_
  refine PQ.pure (dst := (some 12)) (v := (.bool true)) rfl rfl rfl noStore (none_ok _ _) rfl ?_
  refine PQ.pure (dst := (some 13)) (v := (.bool true)) rfl rfl rfl noStore (none_ok _ _) rfl ?_
  refine PQ.off (dst := (some 14)) rfl rfl rfl ?_
  refine PQ.off (dst := (some 15)) rfl rfl rfl ?_
  refine PQ.off (dst := (some 16)) rfl rfl rfl ?_
  refine PQ.off (dst := (some 17)) rfl rfl rfl ?_
  refine PQ.off (dst := (some 18)) rfl rfl rfl ?_
  refine PQ.off (dst := (some 19)) rfl rfl rfl ?_
  refine PQ.off (dst := (some 20)) rfl rfl rfl ?_
  refine PQ.off (dst := (some 21)) rfl rfl rfl ?_
  refine PQ.pure (dst := (some 22)) (v := (.bool true)) rfl rfl rfl noStore (none_ok _ _) rfl ?_
  refine PQ.done (d := []) (by kernel_rfl) ?_
  intro _
  refine RA.condT rfl ?_
  refine RA.seq hd ?_
  refine RA.region env_ok ?_
  refine OA.p (some 4) (.bool false) rfl rfl rfl rfl ?_
  refine OA.nil ?_
  intro _
  refine RA.ret env_ok ?_
  refine ⟨.inr rfl, [(.bool false)], (resL_cons rfl resL_nil), [], (Less.of (fun p hp => by simp at hp) (gone_of (by simp only [goneP, memP, List.cons_append, List.nil_append, true_or, or_true, true_and, and_true, or_false] <;> omega))), ⟨rfl, rfl⟩⟩
 ·
  refine PQ.pure (dst := (some 11)) (v := (.bool false)) rfl rfl rfl noStore (none_ok _ _) (Eq.trans (r_bin rfl rfl rfl (b_lss rfl)) (dF hc1)) ?_
  refine PQ.pure (dst := (some 12)) (v := (.bool false)) rfl rfl rfl noStore (none_ok _ _) rfl ?_
  refine PQ.pure (dst := (some 13)) (v := (.bool false)) rfl rfl rfl noStore (none_ok _ _) rfl ?_
  refine PQ.pure (dst := (some 14)) (v := (Pt n 0 0)) rfl rfl rfl noStore (none_ok _ _) rfl ?_
  refine PQ.pure (dst := (some 15)) (v := (.int .i64 m.st)) rfl rfl rfl (app [(n, some ⟨[(cMsg m)], 5, 29, true⟩)] noStore) (seen_one (V := []) (D := [(n, some ⟨[(cMsg m)], 5, 29, true⟩)]) (by kernel_rfl) get_here) (r_load1 rfl rfl rfl rfl rfl get_here rfl rfl) ?_
  refine PQ.pure (dst := (some 16)) (v := (Pt s 0 0)) rfl rfl rfl noStore (none_ok _ _) rfl ?_
  refine PQ.pure (dst := (some 17)) (v := (Pt s 0 0)) rfl rfl rfl noStore (none_ok _ _) rfl ?_
  refine PQ.pure (dst := (some 18)) (v := (Pt s 0 0)) rfl rfl rfl noStore (none_ok _ _) rfl ?_
  refine PQ.pure (dst := (some 19)) (v := (.slice (some ⟨jn, 0, none⟩) NX 0)) rfl rfl rfl (app [(s, some ⟨[[(.slice (some ⟨jn, 0, none⟩) NX 0), w, o_]], 3, 101, true⟩)] noStore) (seen_one (V := []) (D := [(n, some ⟨[(cMsg m)], 5, 29, true⟩)]) (by kernel_rfl) (get_there (by omega) hs)) (r_load1 rfl rfl rfl rfl rfl get_here rfl rfl) ?_
  refine PQ.pure (dst := (some 20)) (v := (.int .i64 ((NX : Nat) : Int))) rfl rfl rfl noStore (none_ok _ _) rfl ?_
  have hc2 : ((NX : Nat) : Int) ≤ m.st := Classical.byContradiction (fun hdd => by exfalso; omega)
  refine PQ.pure (dst := (some 21)) (v := (.bool true)) rfl rfl rfl noStore (none_ok _ _) (Eq.trans (r_bin rfl rfl rfl (b_geq rfl)) (dT hc2)) ?_
  refine PQ.pure (dst := (some 22)) (v := (.bool true)) rfl rfl rfl noStore (none_ok _ _) rfl ?_
  refine PQ.done (d := []) (by kernel_rfl) ?_
  intro _
  refine RA.condT rfl ?_
  refine RA.seq hd ?_
  refine RA.region env_ok ?_
  refine OA.p (some 4) (.bool false) rfl rfl rfl rfl ?_
  refine OA.nil ?_
  intro _
  refine RA.ret env_ok ?_
  refine ⟨.inr rfl, [(.bool false)], (resL_cons rfl resL_nil), [], (Less.of (fun p hp => by simp at hp) (gone_of (by simp only [goneP, memP, List.cons_append, List.nil_append, true_or, or_true, true_and, and_true, or_false] <;> omega))), ⟨rfl, rfl⟩⟩

theorem pPutL0 {n : Nat} {σ : Store} (hd : Dom n σ) (s jn jo t NX M : Nat) (L2 : List Msg) (hL2 : L2.length = M) (ht : t < NX) (hM : M ≤ 100000) (h4 : s ≠ jo) (w : Value) (hw : oneB w = true) (ssn : Int) (pr : BitVec 32) (da : ByteArray) (hs : σ s = some ⟨[[(.slice (some ⟨jn, 0, none⟩) NX 0), w, (.slice (some ⟨jo, 0, none⟩) M 2)]], 3, 101, true⟩) (hjo : σ jo = some (oMsg L2))  : CQ Try.prog noDen 14 [(Pt s 0 0), (.agg ⟨[(.int .i64 ((t : Nat) : Int)), (.int .i64 ssn), (.bool true), (W pr), (.string da)]⟩)] n σ (fun v n' d => ∃ jo2, n ≤ jo2 ∧ jo2 < n' ∧ v = .bool true ∧ d = [(s, some ⟨[[(.slice (some ⟨jn, 0, none⟩) NX 0), w, (.slice (some ⟨jo2, 0, none⟩) (M + 1) 2)]], 3, 101, true⟩), (jo2, some (oMsg (L2 ++ [(Msg.mk ((t : Nat) : Int) ssn true pr da)]))), (jo, none)]) := by
 have lhs := hd.lt hs
 have lhjo := hd.lt hjo
 refine CQ.body (E := env) env_ok hd rfl rfl (by show _ ≤ _; exact of_decide_eq_true (by kernel_rfl)) ?_
 refine RA.reoff (idx := 2) hs hjo (by omega) rfl (cs' := [(.slice (some ⟨jn, 0, none⟩) NX 0), w, (.slice (some ⟨n, 0, none⟩) M 2)]) rfl (ob' := (oMsg L2)) (ro0) ?_
 refine RA.seq hd ?_
 refine RA.region env_ok ?_
 refine OA.op1 (dst := (some 3)) (v := (.pointer (some ⟨(n + 1), 0, some 0⟩))) (n1 := (n + 2)) (w := ((n + 1), some ⟨[[(.int .i64 ((t : Nat) : Int)), (.int .i64 ssn), (.bool true), (W pr), (.string da)]], 5, 29, true⟩)) rfl rfl rfl rfl (by omega) ?_
 refine OA.p (some 4) (.bool false) rfl rfl rfl rfl ?_
 refine OA.nil ?_
 intro _
 refine RA.seq hd ?_
 refine RA.seq hd ?_
 refine RA.par (md := [some [], some [], some [], some [], some [(n + 1)], some [], some [], some [], some [], some [(n + 1)], some [], some [], some [], some [s], some [], some [], some []]) env_ok (hd.of (by omega) (kb4 (by omega))) (by kernel_rfl) ?_
 refine PQ.pure (dst := (some 6)) (v := (Pt s 0 0)) rfl rfl rfl noStore (none_ok _ _) rfl ?_
 refine PQ.pure (dst := (some 7)) (v := (.bool false)) rfl rfl rfl noStore (none_ok _ _) rfl ?_
 refine PQ.pure (dst := (some 8)) (v := (.bool false)) rfl rfl rfl noStore (none_ok _ _) rfl ?_
 refine PQ.pure (dst := (some 9)) (v := (.pointer (some ⟨(n + 1), 0, some 0⟩))) rfl rfl rfl noStore (none_ok _ _) rfl ?_
 refine PQ.pure (dst := (some 10)) (v := (.int .i64 ((t : Nat) : Int))) rfl rfl rfl (app [((n + 1), some ⟨[[(.int .i64 ((t : Nat) : Int)), (.int .i64 ssn), (.bool true), (W pr), (.string da)]], 5, 29, true⟩)] noStore) (seen_one (V := []) (D := [((n + 1), some ⟨[[(.int .i64 ((t : Nat) : Int)), (.int .i64 ssn), (.bool true), (W pr), (.string da)]], 5, 29, true⟩), (s, some ⟨[[(.slice (some ⟨jn, 0, none⟩) NX 0), w, (.slice (some ⟨n, 0, none⟩) M 2)]], 3, 101, true⟩), (n, some (oMsg L2)), (jo, none)]) (by kernel_rfl) get_here) (r_load1 rfl rfl rfl rfl rfl get_here rfl rfl) ?_
 have hc1 : ¬ (((t : Nat) : Int) < 0) := fun hdd => by exfalso; omega
 refine PQ.pure (dst := (some 11)) (v := (.bool false)) rfl rfl rfl noStore (none_ok _ _) (Eq.trans (r_bin rfl rfl rfl (b_lss rfl)) (dF hc1)) ?_
 refine PQ.pure (dst := (some 12)) (v := (.bool false)) rfl rfl rfl noStore (none_ok _ _) rfl ?_
 refine PQ.pure (dst := (some 13)) (v := (.bool false)) rfl rfl rfl noStore (none_ok _ _) rfl ?_
 refine PQ.pure (dst := (some 14)) (v := (.pointer (some ⟨(n + 1), 0, some 0⟩))) rfl rfl rfl noStore (none_ok _ _) rfl ?_
 refine PQ.pure (dst := (some 15)) (v := (.int .i64 ((t : Nat) : Int))) rfl rfl rfl (app [((n + 1), some ⟨[[(.int .i64 ((t : Nat) : Int)), (.int .i64 ssn), (.bool true), (W pr), (.string da)]], 5, 29, true⟩)] noStore) (seen_one (V := []) (D := [((n + 1), some ⟨[[(.int .i64 ((t : Nat) : Int)), (.int .i64 ssn), (.bool true), (W pr), (.string da)]], 5, 29, true⟩), (s, some ⟨[[(.slice (some ⟨jn, 0, none⟩) NX 0), w, (.slice (some ⟨n, 0, none⟩) M 2)]], 3, 101, true⟩), (n, some (oMsg L2)), (jo, none)]) (by kernel_rfl) get_here) (r_load1 rfl rfl rfl rfl rfl get_here rfl rfl) ?_
 refine PQ.pure (dst := (some 16)) (v := (Pt s 0 0)) rfl rfl rfl noStore (none_ok _ _) rfl ?_
 refine PQ.pure (dst := (some 17)) (v := (Pt s 0 0)) rfl rfl rfl noStore (none_ok _ _) rfl ?_
 refine PQ.pure (dst := (some 18)) (v := (Pt s 0 0)) rfl rfl rfl noStore (none_ok _ _) rfl ?_
 refine PQ.pure (dst := (some 19)) (v := (.slice (some ⟨jn, 0, none⟩) NX 0)) rfl rfl rfl (app [(s, some ⟨[[(.slice (some ⟨jn, 0, none⟩) NX 0), w, (.slice (some ⟨n, 0, none⟩) M 2)]], 3, 101, true⟩)] noStore) (seen_one (V := []) (D := [((n + 1), some ⟨[[(.int .i64 ((t : Nat) : Int)), (.int .i64 ssn), (.bool true), (W pr), (.string da)]], 5, 29, true⟩), (s, some ⟨[[(.slice (some ⟨jn, 0, none⟩) NX 0), w, (.slice (some ⟨n, 0, none⟩) M 2)]], 3, 101, true⟩), (n, some (oMsg L2)), (jo, none)]) (by kernel_rfl) (get_there (by omega) get_here)) (r_load1 rfl rfl rfl rfl rfl get_here rfl rfl) ?_
 refine PQ.pure (dst := (some 20)) (v := (.int .i64 ((NX : Nat) : Int))) rfl rfl rfl noStore (none_ok _ _) rfl ?_
 have hc2 : ¬ (((NX : Nat) : Int) ≤ ((t : Nat) : Int)) := fun hdd => by exfalso; omega
 refine PQ.pure (dst := (some 21)) (v := (.bool false)) rfl rfl rfl noStore (none_ok _ _) (Eq.trans (r_bin rfl rfl rfl (b_geq rfl)) (dF hc2)) ?_
 refine PQ.pure (dst := (some 22)) (v := (.bool false)) rfl rfl rfl noStore (none_ok _ _) rfl ?_
 refine PQ.done (d := []) (by kernel_rfl) ?_
 intro _
 refine RA.condF rfl ?_
 refine RA.skip env_ok ?_
 intro _
 refine RA.seq hd ?_
 refine RA.seq hd ?_
 refine RA.region env_ok ?_
 refine OA.p (some 23) (.pointer (some ⟨(n + 1), 0, some 2⟩)) rfl rfl rfl rfl ?_
 refine OA.p (some 24) (.bool true) rfl rfl rfl (r_load1 rfl rfl rfl rfl rfl get_here rfl rfl) ?_
 refine OA.nil ?_
 intro _
 refine RA.condT rfl ?_
 refine RA.seq hd ?_
 refine RA.par (md := [some [], some [], some [], some [], some [s], some [(n + 1)], some [], none, some [], some [], none]) env_ok (hd.of (by omega) (kb4 (by omega))) (by kernel_rfl) ?_
 refine PQ.pure (dst := (some 25)) (v := (Pt s 0 0)) rfl rfl rfl noStore (none_ok _ _) rfl ?_
 refine PQ.pure (dst := (some 26)) (v := (Pt s 0 0)) rfl rfl rfl noStore (none_ok _ _) rfl ?_
 refine PQ.pure (dst := (some 27)) (v := (Pt s 0 0)) rfl rfl rfl noStore (none_ok _ _) rfl ?_
 refine PQ.pure (dst := (some 28)) (v := (Pt s 0 2)) rfl rfl rfl noStore (none_ok _ _) rfl ?_
 refine PQ.pure (dst := (some 29)) (v := (.slice (some ⟨n, 0, none⟩) M 2)) rfl rfl rfl (app [(s, some ⟨[[(.slice (some ⟨jn, 0, none⟩) NX 0), w, (.slice (some ⟨n, 0, none⟩) M 2)]], 3, 101, true⟩)] noStore) (seen_one (V := []) (D := [((n + 1), some ⟨[[(.int .i64 ((t : Nat) : Int)), (.int .i64 ssn), (.bool true), (W pr), (.string da)]], 5, 29, true⟩), (s, some ⟨[[(.slice (some ⟨jn, 0, none⟩) NX 0), w, (.slice (some ⟨n, 0, none⟩) M 2)]], 3, 101, true⟩), (n, some (oMsg L2)), (jo, none)]) (by kernel_rfl) (get_there (by omega) get_here)) (r_load1 rfl rfl rfl rfl rfl get_here rfl rfl) ?_
 refine PQ.pure (dst := (some 30)) (v := (.agg ⟨[(.int .i64 ((t : Nat) : Int)), (.int .i64 ssn), (.bool true), (W pr), (.string da)]⟩)) rfl rfl rfl (app [((n + 1), some ⟨[[(.int .i64 ((t : Nat) : Int)), (.int .i64 ssn), (.bool true), (W pr), (.string da)]], 5, 29, true⟩)] noStore) (seen_one (V := []) (D := [((n + 1), some ⟨[[(.int .i64 ((t : Nat) : Int)), (.int .i64 ssn), (.bool true), (W pr), (.string da)]], 5, 29, true⟩), (s, some ⟨[[(.slice (some ⟨jn, 0, none⟩) NX 0), w, (.slice (some ⟨n, 0, none⟩) M 2)]], 3, 101, true⟩), (n, some (oMsg L2)), (jo, none)]) (by kernel_rfl) get_here) (r_loadA rfl rfl rfl rfl get_here rfl rfl rfl) ?_
 refine PQ.op (dst := (some 31)) (v := (.slice (some ⟨(n + 2), 0, none⟩) 1 0)) (n1 := (n + 3)) (d1 := [((n + 2), some ⟨[[(.int .i64 ((t : Nat) : Int)), (.int .i64 ssn), (.bool true), (W pr), (.string da)]], 5, 29, true⟩)]) rfl rfl rfl noStore (none_ok _ _) (by kernel_rfl) (by omega) (kp1 (wr_new (by omega) (by omega))) ?_
 refine PQ.op (dst := (some 32)) (v := (.slice (some ⟨(n + 3), 0, none⟩) (M + 1) 2)) (n1 := (n + 4)) (d1 := [((n + 3), some (oMsg (L2 ++ [(Msg.mk ((t : Nat) : Int) ssn true pr da)]))), (n, none)]) rfl rfl rfl _ (seen_any (V := [((n + 2), some ⟨[[(.int .i64 ((t : Nat) : Int)), (.int .i64 ssn), (.bool true), (W pr), (.string da)]], 5, 29, true⟩)]) (D := [((n + 1), some ⟨[[(.int .i64 ((t : Nat) : Int)), (.int .i64 ssn), (.bool true), (W pr), (.string da)]], 5, 29, true⟩), (s, some ⟨[[(.slice (some ⟨jn, 0, none⟩) NX 0), w, (.slice (some ⟨n, 0, none⟩) M 2)]], 3, 101, true⟩), (n, some (oMsg L2)), (jo, none)]) (by kernel_rfl)) (r_append2x (c := cMsg) (x := (Msg.mk ((t : Nat) : Int) ssn true pr da)) (l' := (L2 ++ [(Msg.mk ((t : Nat) : Int) ssn true pr da)])) rfl rfl rfl rfl rfl rfl rfl rfl rfl rfl (by decide) (gt3 (by omega) get_here) get_here (by rw [hL2]; omega) (by rw [take_all' (by rw [hL2])]) (by omega) (of_decide_eq_true (by kernel_rfl)) (by omega)) (by omega) (kp2 (wr_new (by omega) (by omega)) (wr_old [0] (by kernel_rfl) (by omega) (by omega) (fac (lo0 rfl) fan))) ?_
 refine PQ.pure (dst := (some 33)) (v := (Pt s 0 0)) rfl rfl rfl noStore (none_ok _ _) rfl ?_
 refine PQ.pure (dst := (some 34)) (v := (Pt s 0 2)) rfl rfl rfl noStore (none_ok _ _) rfl ?_
 refine PQ.op (dst := none) (v := (.tuple #[])) (n1 := (n + 4)) (d1 := [(s, some ⟨[[(.slice (some ⟨jn, 0, none⟩) NX 0), w, (.slice (some ⟨(n + 3), 0, none⟩) (M + 1) 2)]], 3, 101, true⟩)]) rfl rfl rfl _ (seen_any (V := [((n + 3), some (oMsg (L2 ++ [(Msg.mk ((t : Nat) : Int) ssn true pr da)]))), (n, none), ((n + 2), some ⟨[[(.int .i64 ((t : Nat) : Int)), (.int .i64 ssn), (.bool true), (W pr), (.string da)]], 5, 29, true⟩)]) (D := [((n + 1), some ⟨[[(.int .i64 ((t : Nat) : Int)), (.int .i64 ssn), (.bool true), (W pr), (.string da)]], 5, 29, true⟩), (s, some ⟨[[(.slice (some ⟨jn, 0, none⟩) NX 0), w, (.slice (some ⟨n, 0, none⟩) M 2)]], 3, 101, true⟩), (n, some (oMsg L2)), (jo, none)]) (by kernel_rfl)) (r_store rfl rfl rfl rfl rfl rfl rfl (gt4 (by omega) get_here) rfl rfl (Nat.le_of_ble_eq_true rfl) rfl) (by omega) (kp1 (wr_tight (by kernel_rfl) (by omega))) ?_
 refine PQ.done (d := [(s, some ⟨[[(.slice (some ⟨jn, 0, none⟩) NX 0), w, (.slice (some ⟨(n + 3), 0, none⟩) (M + 1) 2)]], 3, 101, true⟩), ((n + 3), some (oMsg (L2 ++ [(Msg.mk ((t : Nat) : Int) ssn true pr da)]))), (n, none), ((n + 2), some ⟨[[(.int .i64 ((t : Nat) : Int)), (.int .i64 ssn), (.bool true), (W pr), (.string da)]], 5, 29, true⟩)]) (by kernel_rfl) ?_
 intro _
 refine RA.rebase [(0, (Pt s 0 0)), (1, (.agg ⟨[(.int .i64 ((t : Nat) : Int)), (.int .i64 ssn), (.bool true), (W pr), (.string da)]⟩)), (3, (.pointer (some ⟨(n + 1), 0, some 0⟩))), (4, (.bool false)), (22, (.bool false)), (24, (.bool true))] ⟨rfl, rfl, rfl, rfl, rfl, rfl, trivial⟩ (fun τr1 => ?_)
 refine RA.seq hd ?_
 refine RA.region env_ok ?_
 refine OA.p (some 4) (.bool true) rfl rfl rfl rfl ?_
 refine OA.nil ?_
 intro _
 refine RA.ret env_ok ?_
 refine ⟨.inr rfl, [(.bool true)], (resL_cons rfl resL_nil), [(s, some ⟨[[(.slice (some ⟨jn, 0, none⟩) NX 0), w, (.slice (some ⟨(n + 3), 0, none⟩) (M + 1) 2)]], 3, 101, true⟩), ((n + 3), some (oMsg (L2 ++ [(Msg.mk ((t : Nat) : Int) ssn true pr da)]))), (jo, none)], (Less.of (fac (mm (fun _ => get_here) (fun _ => get_here)) (fac (mm (fun _ => (get_there (by omega) get_here)) (fun _ => (get_there (by omega) get_here))) (fac (mm (fun _ => (gt2 (by omega) get_here)) (fun _ => (gt7 (by omega) get_here))) fan))) (gone_of (by simp only [goneP, memP, List.cons_append, List.nil_append, true_or, or_true, true_and, and_true, or_false] <;> omega))), ⟨(n + 3), by omega, by omega, rfl, rfl⟩⟩

theorem pPutR0 {n : Nat} {σ : Store} (hd : Dom n σ) (s jn jw t NX K : Nat) (nx : List Ux) (ws : List Msg) (hnx : nx.length = NX) (hws : ws.length = K) (ht : t < NX) (hK : K ≤ 1000) (o_ : Value) (ho : oneB o_ = true) (ssn : Int) (pr : BitVec 32) (da : ByteArray) (hrj : less16 (u16N ssn) (nx.getD t dUx).z ∨ ws.any (qq ((t : Nat) : Int) (u16N ssn)) = true) (hs : σ s = some ⟨[[(.slice (some ⟨jn, 0, none⟩) NX 0), (.slice (some ⟨jw, 0, none⟩) K 2), o_]], 3, 101, true⟩) (hjn : σ jn = some (oUx nx)) (hjw : σ jw = some (oMsg ws))  : CQ Try.prog noDen 14 [(Pt s 0 0), (.agg ⟨[(.int .i64 ((t : Nat) : Int)), (.int .i64 ssn), (.bool false), (W pr), (.string da)]⟩)] n σ (fun v n' d => v = .bool false ∧ d = []) := by
 have lhs := hd.lt hs
 have lhjn := hd.lt hjn
 have lhjw := hd.lt hjw
 refine CQ.body (E := env) env_ok hd rfl rfl (by show _ ≤ _; exact of_decide_eq_true (by kernel_rfl)) ?_
 refine RA.seq hd ?_
 refine RA.region env_ok ?_
 refine OA.op1 (dst := (some 3)) (v := (Pt n 0 0)) (n1 := (n + 1)) (w := (n, some ⟨[[(.int .i64 ((t : Nat) : Int)), (.int .i64 ssn), (.bool false), (W pr), (.string da)]], 5, 29, true⟩)) rfl rfl rfl rfl (by omega) ?_
 refine OA.p (some 4) (.bool false) rfl rfl rfl rfl ?_
 refine OA.nil ?_
 intro _
 refine RA.seq hd ?_
 refine RA.seq hd ?_
 refine RA.par (md := [some [], some [], some [], some [], some [n], some [], some [], some [], some [], some [n], some [], some [], some [], some [s], some [], some [], some []]) env_ok (hd.of (by omega) (kb1 (by omega))) (by kernel_rfl) ?_
 refine PQ.pure (dst := (some 6)) (v := (Pt s 0 0)) rfl rfl rfl noStore (none_ok _ _) rfl ?_
 refine PQ.pure (dst := (some 7)) (v := (.bool false)) rfl rfl rfl noStore (none_ok _ _) rfl ?_
 refine PQ.pure (dst := (some 8)) (v := (.bool false)) rfl rfl rfl noStore (none_ok _ _) rfl ?_
 refine PQ.pure (dst := (some 9)) (v := (Pt n 0 0)) rfl rfl rfl noStore (none_ok _ _) rfl ?_
 refine PQ.pure (dst := (some 10)) (v := (.int .i64 ((t : Nat) : Int))) rfl rfl rfl (app [(n, some ⟨[[(.int .i64 ((t : Nat) : Int)), (.int .i64 ssn), (.bool false), (W pr), (.string da)]], 5, 29, true⟩)] noStore) (seen_one (V := []) (D := [(n, some ⟨[[(.int .i64 ((t : Nat) : Int)), (.int .i64 ssn), (.bool false), (W pr), (.string da)]], 5, 29, true⟩)]) (by kernel_rfl) get_here) (r_load1 rfl rfl rfl rfl rfl get_here rfl rfl) ?_
 have hc1 : ¬ (((t : Nat) : Int) < 0) := fun hdd => by exfalso; first | exact hrj.elim (fun h => absurd h (by assumption)) (fun h => absurd h hdd) | omega
 refine PQ.pure (dst := (some 11)) (v := (.bool false)) rfl rfl rfl noStore (none_ok _ _) (Eq.trans (r_bin rfl rfl rfl (b_lss rfl)) (dF hc1)) ?_
 refine PQ.pure (dst := (some 12)) (v := (.bool false)) rfl rfl rfl noStore (none_ok _ _) rfl ?_
 refine PQ.pure (dst := (some 13)) (v := (.bool false)) rfl rfl rfl noStore (none_ok _ _) rfl ?_
 refine PQ.pure (dst := (some 14)) (v := (Pt n 0 0)) rfl rfl rfl noStore (none_ok _ _) rfl ?_
 refine PQ.pure (dst := (some 15)) (v := (.int .i64 ((t : Nat) : Int))) rfl rfl rfl (app [(n, some ⟨[[(.int .i64 ((t : Nat) : Int)), (.int .i64 ssn), (.bool false), (W pr), (.string da)]], 5, 29, true⟩)] noStore) (seen_one (V := []) (D := [(n, some ⟨[[(.int .i64 ((t : Nat) : Int)), (.int .i64 ssn), (.bool false), (W pr), (.string da)]], 5, 29, true⟩)]) (by kernel_rfl) get_here) (r_load1 rfl rfl rfl rfl rfl get_here rfl rfl) ?_
 refine PQ.pure (dst := (some 16)) (v := (Pt s 0 0)) rfl rfl rfl noStore (none_ok _ _) rfl ?_
 refine PQ.pure (dst := (some 17)) (v := (Pt s 0 0)) rfl rfl rfl noStore (none_ok _ _) rfl ?_
 refine PQ.pure (dst := (some 18)) (v := (Pt s 0 0)) rfl rfl rfl noStore (none_ok _ _) rfl ?_
 refine PQ.pure (dst := (some 19)) (v := (.slice (some ⟨jn, 0, none⟩) NX 0)) rfl rfl rfl (app [(s, some ⟨[[(.slice (some ⟨jn, 0, none⟩) NX 0), (.slice (some ⟨jw, 0, none⟩) K 2), o_]], 3, 101, true⟩)] noStore) (seen_one (V := []) (D := [(n, some ⟨[[(.int .i64 ((t : Nat) : Int)), (.int .i64 ssn), (.bool false), (W pr), (.string da)]], 5, 29, true⟩)]) (by kernel_rfl) (get_there (by omega) hs)) (r_load1 rfl rfl rfl rfl rfl get_here rfl rfl) ?_
 refine PQ.pure (dst := (some 20)) (v := (.int .i64 ((NX : Nat) : Int))) rfl rfl rfl noStore (none_ok _ _) rfl ?_
 have hc2 : ¬ (((NX : Nat) : Int) ≤ ((t : Nat) : Int)) := fun hdd => by exfalso; first | exact hrj.elim (fun h => absurd h (by assumption)) (fun h => absurd h hdd) | omega
 refine PQ.pure (dst := (some 21)) (v := (.bool false)) rfl rfl rfl noStore (none_ok _ _) (Eq.trans (r_bin rfl rfl rfl (b_geq rfl)) (dF hc2)) ?_
 refine PQ.pure (dst := (some 22)) (v := (.bool false)) rfl rfl rfl noStore (none_ok _ _) rfl ?_
 refine PQ.done (d := []) (by kernel_rfl) ?_
 intro _
 refine RA.condF rfl ?_
 refine RA.skip env_ok ?_
 intro _
 refine RA.seq hd ?_
 refine RA.seq hd ?_
 refine RA.region env_ok ?_
 refine OA.p (some 23) (Pt n 0 2) rfl rfl rfl rfl ?_
 refine OA.p (some 24) (.bool false) rfl rfl rfl (r_load1 rfl rfl rfl rfl rfl get_here rfl rfl) ?_
 refine OA.nil ?_
 intro _
 refine RA.condF rfl ?_
 refine RA.skip env_ok ?_
 intro _
 refine RA.seq hd ?_
 refine RA.region env_ok ?_
 refine OA.p (some 35) (Pt n 0 1) rfl rfl rfl rfl ?_
 refine OA.p (some 36) (.int .i64 ssn) rfl rfl rfl (r_load1 rfl rfl rfl rfl rfl get_here rfl rfl) ?_
 refine OA.p (some 37) (.int .u16 (((u16N ssn) : Nat) : Int)) rfl rfl rfl (r_cvt rfl rfl rfl rfl rfl ⟨_, rfl⟩ (wrap_u16s _)) ?_
 refine OA.op1 (dst := (some 5)) (v := (.pointer (some ⟨(n + 1), 0, some 0⟩))) (n1 := (n + 2)) (w := ((n + 1), some ⟨[[(.int .u16 0)]], 1, 102, true⟩)) rfl rfl rfl rfl (by omega) ?_
 refine OA.op1 (dst := none) (v := (.tuple #[])) (n1 := (n + 2)) (w := ((n + 1), some ⟨[[(.int .u16 (((u16N ssn) : Nat) : Int))]], 1, 102, true⟩)) rfl rfl rfl (r_store rfl rfl rfl rfl rfl rfl rfl get_here rfl rfl (Nat.le_of_ble_eq_true rfl) rfl) (by omega) ?_
 refine OA.nil ?_
 intro _
 refine RA.rebase [(0, (Pt s 0 0)), (1, (.agg ⟨[(.int .i64 ((t : Nat) : Int)), (.int .i64 ssn), (.bool false), (W pr), (.string da)]⟩)), (3, (Pt n 0 0)), (4, (.bool false)), (5, (.pointer (some ⟨(n + 1), 0, some 0⟩))), (22, (.bool false)), (24, (.bool false))] ⟨rfl, rfl, rfl, rfl, rfl, rfl, rfl, trivial⟩ (fun τr1 => ?_)
 refine RA.seq hd ?_
 refine RA.seq hd ?_
 refine RA.par (md := [some [(n + 1)], some [], some [], some [], some [s], some [], some [n], none, none, some [], some [], some [], some [], some [], some [s], some [], none, some []]) env_ok (hd.of (by omega) (kb3 (by omega))) (by kernel_rfl) ?_
 refine PQ.pure (dst := (some 38)) (v := (.int .u16 (((u16N ssn) : Nat) : Int))) rfl rfl rfl (app [((n + 1), some ⟨[[(.int .u16 (((u16N ssn) : Nat) : Int))]], 1, 102, true⟩)] noStore) (seen_one (V := []) (D := [((n + 1), some ⟨[[(.int .u16 (((u16N ssn) : Nat) : Int))]], 1, 102, true⟩), ((n + 1), some ⟨[[(.int .u16 0)]], 1, 102, true⟩), (n, some ⟨[[(.int .i64 ((t : Nat) : Int)), (.int .i64 ssn), (.bool false), (W pr), (.string da)]], 5, 29, true⟩)]) (by kernel_rfl) get_here) (r_load1 rfl rfl rfl rfl rfl get_here rfl rfl) ?_
 refine PQ.pure (dst := (some 39)) (v := (Pt s 0 0)) rfl rfl rfl noStore (none_ok _ _) rfl ?_
 refine PQ.pure (dst := (some 40)) (v := (Pt s 0 0)) rfl rfl rfl noStore (none_ok _ _) rfl ?_
 refine PQ.pure (dst := (some 41)) (v := (Pt s 0 0)) rfl rfl rfl noStore (none_ok _ _) rfl ?_
 refine PQ.pure (dst := (some 42)) (v := (.slice (some ⟨jn, 0, none⟩) NX 0)) rfl rfl rfl (app [(s, some ⟨[[(.slice (some ⟨jn, 0, none⟩) NX 0), (.slice (some ⟨jw, 0, none⟩) K 2), o_]], 3, 101, true⟩)] noStore) (seen_one (V := []) (D := [((n + 1), some ⟨[[(.int .u16 (((u16N ssn) : Nat) : Int))]], 1, 102, true⟩), ((n + 1), some ⟨[[(.int .u16 0)]], 1, 102, true⟩), (n, some ⟨[[(.int .i64 ((t : Nat) : Int)), (.int .i64 ssn), (.bool false), (W pr), (.string da)]], 5, 29, true⟩)]) (by kernel_rfl) (gt3 (by omega) hs)) (r_load1 rfl rfl rfl rfl rfl get_here rfl rfl) ?_
 refine PQ.pure (dst := (some 43)) (v := (Pt n 0 0)) rfl rfl rfl noStore (none_ok _ _) rfl ?_
 refine PQ.pure (dst := (some 44)) (v := (.int .i64 ((t : Nat) : Int))) rfl rfl rfl (app [(n, some ⟨[[(.int .i64 ((t : Nat) : Int)), (.int .i64 ssn), (.bool false), (W pr), (.string da)]], 5, 29, true⟩)] noStore) (seen_one (V := []) (D := [((n + 1), some ⟨[[(.int .u16 (((u16N ssn) : Nat) : Int))]], 1, 102, true⟩), ((n + 1), some ⟨[[(.int .u16 0)]], 1, 102, true⟩), (n, some ⟨[[(.int .i64 ((t : Nat) : Int)), (.int .i64 ssn), (.bool false), (W pr), (.string da)]], 5, 29, true⟩)]) (by kernel_rfl) (gt2 (by omega) get_here)) (r_load1 rfl rfl rfl rfl rfl get_here rfl rfl) ?_
 refine PQ.pure (dst := (some 45)) (v := (Pt jn t 0)) rfl rfl rfl _ (seen_any (V := []) (D := [((n + 1), some ⟨[[(.int .u16 (((u16N ssn) : Nat) : Int))]], 1, 102, true⟩), ((n + 1), some ⟨[[(.int .u16 0)]], 1, 102, true⟩), (n, some ⟨[[(.int .i64 ((t : Nat) : Int)), (.int .i64 ssn), (.bool false), (W pr), (.string da)]], 5, 29, true⟩)]) (by kernel_rfl)) (r_iaS (l := t) rfl rfl rfl rfl rfl rfl (by omega) (by omega) (gt3 (by omega) hjn) rfl (by omega)) ?_
 refine PQ.pure (dst := (some 46)) (v := (.int .u16 (((nx.getD t dUx).z : Nat) : Int))) rfl rfl rfl _ (seen_any (V := []) (D := [((n + 1), some ⟨[[(.int .u16 (((u16N ssn) : Nat) : Int))]], 1, 102, true⟩), ((n + 1), some ⟨[[(.int .u16 0)]], 1, 102, true⟩), (n, some ⟨[[(.int .i64 ((t : Nat) : Int)), (.int .i64 ssn), (.bool false), (W pr), (.string da)]], 5, 29, true⟩)]) (by kernel_rfl)) (r_loadF (c := cUx) dUx rfl rfl rfl rfl rfl (gt3 (by omega) hjn) (by rw [hnx]; omega) rfl) ?_
 by_cases hc3 : less16 (u16N ssn) (nx.getD t dUx).z
 ·
  refine PQ.callP (dst := (some 47)) (all := [(.int .u16 (((u16N ssn) : Nat) : Int)), (.int .u16 (((nx.getD t dUx).z : Nat) : Int))]) (v := (.bool true)) noStore (dom_none _) rfl rfl rfl rfl rfl rfl rfl rfl (none_ok _ _) (PS.to (dLess (u16N ssn) (nx.getD t dUx).z) (show (.bool (decide (less16 (u16N ssn) (nx.getD t dUx).z))) = ((.bool true) : Value) from (by first | (rw [decide_eq_true hc3]; done) | (rw [decide_eq_true hc3]; rfl)))) ?_
  intro n2 hn2
  refine PQ.pure (dst := (some 48)) (v := (.bool true)) rfl rfl rfl noStore (none_ok _ _) rfl ?_
  refine PQ.off (dst := (some 49)) rfl rfl rfl ?_
  refine PQ.off (dst := (some 50)) rfl rfl rfl ?_
  refine PQ.off (dst := (some 51)) rfl rfl rfl ?_
  refine PQ.off (dst := (some 52)) rfl rfl rfl ?_
  refine PQ.off (dst := (some 53)) rfl rfl rfl ?_
  refine PQ.off (dst := (some 54)) rfl rfl rfl ?_
  refine PQ.pure (dst := (some 55)) (v := (.bool true)) rfl rfl rfl noStore (none_ok _ _) rfl ?_
  refine PQ.done (d := []) (by kernel_rfl) ?_
  intro _
  refine RA.condT rfl ?_
  refine RA.seq hd ?_
  refine RA.region env_ok ?_
  refine OA.p (some 4) (.bool false) rfl rfl rfl rfl ?_
  refine OA.nil ?_
  intro _
  refine RA.ret env_ok ?_
  refine ⟨.inr rfl, [(.bool false)], (resL_cons rfl resL_nil), [], (Less.of (fun p hp => by simp at hp) (gone_of (by simp only [goneP, memP, List.cons_append, List.nil_append, true_or, or_true, true_and, and_true, or_false] <;> omega))), ⟨rfl, rfl⟩⟩
 ·
  refine PQ.callP (dst := (some 47)) (all := [(.int .u16 (((u16N ssn) : Nat) : Int)), (.int .u16 (((nx.getD t dUx).z : Nat) : Int))]) (v := (.bool false)) noStore (dom_none _) rfl rfl rfl rfl rfl rfl rfl rfl (none_ok _ _) (PS.to (dLess (u16N ssn) (nx.getD t dUx).z) (show (.bool (decide (less16 (u16N ssn) (nx.getD t dUx).z))) = ((.bool false) : Value) from (by first | (rw [decide_eq_false hc3]; done) | (rw [decide_eq_false hc3]; rfl)))) ?_
  intro n3 hn3
  refine PQ.pure (dst := (some 48)) (v := (.bool false)) rfl rfl rfl noStore (none_ok _ _) rfl ?_
  refine PQ.pure (dst := (some 49)) (v := (Pt s 0 0)) rfl rfl rfl noStore (none_ok _ _) rfl ?_
  refine PQ.pure (dst := (some 50)) (v := (Pt s 0 0)) rfl rfl rfl noStore (none_ok _ _) rfl ?_
  refine PQ.pure (dst := (some 51)) (v := (Pt s 0 1)) rfl rfl rfl noStore (none_ok _ _) rfl ?_
  refine PQ.pure (dst := (some 52)) (v := (.slice (some ⟨jw, 0, none⟩) K 2)) rfl rfl rfl (app [(s, some ⟨[[(.slice (some ⟨jn, 0, none⟩) NX 0), (.slice (some ⟨jw, 0, none⟩) K 2), o_]], 3, 101, true⟩)] noStore) (seen_one (V := []) (D := [((n + 1), some ⟨[[(.int .u16 (((u16N ssn) : Nat) : Int))]], 1, 102, true⟩), ((n + 1), some ⟨[[(.int .u16 0)]], 1, 102, true⟩), (n, some ⟨[[(.int .i64 ((t : Nat) : Int)), (.int .i64 ssn), (.bool false), (W pr), (.string da)]], 5, 29, true⟩)]) (by kernel_rfl) (gt3 (by omega) hs)) (r_load1 rfl rfl rfl rfl rfl get_here rfl rfl) ?_
  refine PQ.pure (dst := (some 53)) (v := (.func (.func 58) ⟨[]⟩ ⟨[(Pt n 0 0), (.pointer (some ⟨(n + 1), 0, some 0⟩))]⟩)) rfl rfl rfl noStore (none_ok _ _) rfl ?_
  have hc4 : (ws.any (qq ((t : Nat) : Int) (u16N ssn))) = true := Classical.byContradiction (fun hdd => by exfalso; first | exact hrj.elim (fun h => absurd h (by assumption)) (fun h => absurd h hdd) | omega)
  refine PQ.callP (dst := (some 54)) (all := [(.slice (some ⟨jw, 0, none⟩) K 2), (.func (.func 58) ⟨[]⟩ ⟨[(Pt n 0 0), (.pointer (some ⟨(n + 1), 0, some 0⟩))]⟩)]) (v := (.bool true)) _ (hd.of (by omega) (kb3 (by omega))) rfl rfl rfl rfl rfl rfl rfl rfl (seen_any (V := []) (D := [((n + 1), some ⟨[[(.int .u16 (((u16N ssn) : Nat) : Int))]], 1, 102, true⟩), ((n + 1), some ⟨[[(.int .u16 0)]], 1, 102, true⟩), (n, some ⟨[[(.int .i64 ((t : Nat) : Int)), (.int .i64 ssn), (.bool false), (W pr), (.string da)]], 5, 29, true⟩)]) (by kernel_rfl)) (PS.to (dCont2 jw K ws (by rw [hws]) (by omega) (qq ((t : Nat) : Int) (u16N ssn)) n (n + 1) (gt3 (by omega) hjw) (fun x _ => dPc x (Msg.mk ((t : Nat) : Int) ssn false pr da) n (n + 1) (u16N ssn) (gt2 (by omega) get_here) get_here)) (show (.bool (ws.any (qq ((t : Nat) : Int) (u16N ssn)))) = ((.bool true) : Value) from (by first | (rw [hc4]; done) | (rw [hc4]; rfl)))) ?_
  intro n4 hn4
  refine PQ.pure (dst := (some 55)) (v := (.bool true)) rfl rfl rfl noStore (none_ok _ _) rfl ?_
  refine PQ.done (d := []) (by kernel_rfl) ?_
  intro _
  refine RA.condT rfl ?_
  refine RA.seq hd ?_
  refine RA.region env_ok ?_
  refine OA.p (some 4) (.bool false) rfl rfl rfl rfl ?_
  refine OA.nil ?_
  intro _
  refine RA.ret env_ok ?_
  refine ⟨.inr rfl, [(.bool false)], (resL_cons rfl resL_nil), [], (Less.of (fun p hp => by simp at hp) (gone_of (by simp only [goneP, memP, List.cons_append, List.nil_append, true_or, or_true, true_and, and_true, or_false] <;> omega))), ⟨rfl, rfl⟩⟩

theorem pPutT0 {n : Nat} {σ : Store} (hd : Dom n σ) (s jn jw jo t NX K M : Nat) (nx : List Ux) (ws L2 : List Msg) (hnx : nx.length = NX) (hws : ws.length = K) (hL2 : L2.length = M) (ht : t < NX) (hK : K ≤ 900) (hM : M ≤ 100000) (h1 : s ≠ jn) (h2 : s ≠ jw) (h3 : jn ≠ jw) (h4 : s ≠ jo) (h5 : jn ≠ jo) (h6 : jw ≠ jo) (ssn : Int) (pr : BitVec 32) (da : ByteArray) (hrj : ¬ (less16 (u16N ssn) (nx.getD t dUx).z ∨ ws.any (qq ((t : Nat) : Int) (u16N ssn)) = true)) (R : Nat × List Msg × List Msg) (hR : goS ((t : Nat) : Int) (K + 1) (nx.getD t dUx).z (ws ++ [(Msg.mk ((t : Nat) : Int) ssn false pr da)]) L2 = R) (hs : σ s = some ⟨[[(.slice (some ⟨jn, 0, none⟩) NX 0), (.slice (some ⟨jw, 0, none⟩) K 2), (.slice (some ⟨jo, 0, none⟩) M 2)]], 3, 101, true⟩) (hjn : σ jn = some (oUx nx)) (hjw : σ jw = some (oMsg ws)) (hjo : σ jo = some (oMsg L2))  : CQ Try.prog noDen 14 [(Pt s 0 0), (.agg ⟨[(.int .i64 ((t : Nat) : Int)), (.int .i64 ssn), (.bool false), (W pr), (.string da)]⟩)] n σ (fun v n' d => ∃ jw2 jo2, n ≤ jw2 ∧ jw2 < n' ∧ n ≤ jo2 ∧ jo2 < n' ∧ jw2 ≠ jo2 ∧ ∃ K2 M2, R.2.1.length = K2 ∧ R.2.2.length = M2 ∧ K2 + M2 = K + 1 + M ∧ v = .bool true ∧ d = [(s, some ⟨[[(.slice (some ⟨jn, 0, none⟩) NX 0), (.slice (some ⟨jw2, 0, none⟩) K2 2), (.slice (some ⟨jo2, 0, none⟩) M2 2)]], 3, 101, true⟩), (jn, some (oUx (nx.set t (Ux.mk R.1)))), (jw2, some (oMsg R.2.1)), (jo2, some (oMsg R.2.2)), (jw, none), (jo, none)]) := by
 have lhs := hd.lt hs
 have lhjn := hd.lt hjn
 have lhjw := hd.lt hjw
 have lhjo := hd.lt hjo
 refine CQ.body (E := env) env_ok hd rfl rfl (by show _ ≤ _; exact of_decide_eq_true (by kernel_rfl)) ?_
 refine RA.reoff (idx := 1) hs hjw (by omega) rfl (cs' := (xDp24 jn NX n K jo M)) rfl (ob' := (oMsg ws)) (ro0) ?_
 refine RA.seq hd ?_
 refine RA.region env_ok ?_
 refine OA.op1 (dst := (some 3)) (v := (.pointer (some ⟨(n + 1), 0, some 0⟩))) (n1 := (n + 2)) (w := ((n + 1), some ⟨[[(.int .i64 ((t : Nat) : Int)), (.int .i64 ssn), (.bool false), (W pr), (.string da)]], 5, 29, true⟩)) rfl rfl rfl rfl (by omega) ?_
 refine OA.p (some 4) (.bool false) rfl rfl rfl rfl ?_
 refine OA.nil ?_
 intro _
 refine RA.seq hd ?_
 refine RA.seq hd ?_
 refine RA.par (md := [some [], some [], some [], some [], some [(n + 1)], some [], some [], some [], some [], some [(n + 1)], some [], some [], some [], some [s], some [], some [], some []]) env_ok (hd.of (by omega) (kb4 (by omega))) (by kernel_rfl) ?_
 refine PQ.pure (dst := (some 6)) (v := (Pt s 0 0)) rfl rfl rfl noStore (none_ok _ _) rfl ?_
 refine PQ.pure (dst := (some 7)) (v := (.bool false)) rfl rfl rfl noStore (none_ok _ _) rfl ?_
 refine PQ.pure (dst := (some 8)) (v := (.bool false)) rfl rfl rfl noStore (none_ok _ _) rfl ?_
 refine PQ.pure (dst := (some 9)) (v := (.pointer (some ⟨(n + 1), 0, some 0⟩))) rfl rfl rfl noStore (none_ok _ _) rfl ?_
 refine PQ.pure (dst := (some 10)) (v := (.int .i64 ((t : Nat) : Int))) rfl rfl rfl (app [((n + 1), some ⟨[[(.int .i64 ((t : Nat) : Int)), (.int .i64 ssn), (.bool false), (W pr), (.string da)]], 5, 29, true⟩)] noStore) (seen_one (V := []) (D := [((n + 1), some ⟨[[(.int .i64 ((t : Nat) : Int)), (.int .i64 ssn), (.bool false), (W pr), (.string da)]], 5, 29, true⟩), (s, some ⟨[(xDp24 jn NX n K jo M)], 3, 101, true⟩), (n, some (oMsg ws)), (jw, none)]) (by kernel_rfl) get_here) (r_load1 rfl rfl rfl rfl rfl get_here rfl rfl) ?_
 have hc1 : ¬ (((t : Nat) : Int) < 0) := fun hdd => by exfalso; first | exact hrj (.inl hdd) | exact hrj (.inr hdd) | omega
 refine PQ.pure (dst := (some 11)) (v := (.bool false)) rfl rfl rfl noStore (none_ok _ _) (Eq.trans (r_bin rfl rfl rfl (b_lss rfl)) (dF hc1)) ?_
 refine PQ.pure (dst := (some 12)) (v := (.bool false)) rfl rfl rfl noStore (none_ok _ _) rfl ?_
 refine PQ.pure (dst := (some 13)) (v := (.bool false)) rfl rfl rfl noStore (none_ok _ _) rfl ?_
 refine PQ.pure (dst := (some 14)) (v := (.pointer (some ⟨(n + 1), 0, some 0⟩))) rfl rfl rfl noStore (none_ok _ _) rfl ?_
 refine PQ.pure (dst := (some 15)) (v := (.int .i64 ((t : Nat) : Int))) rfl rfl rfl (app [((n + 1), some ⟨[[(.int .i64 ((t : Nat) : Int)), (.int .i64 ssn), (.bool false), (W pr), (.string da)]], 5, 29, true⟩)] noStore) (seen_one (V := []) (D := [((n + 1), some ⟨[[(.int .i64 ((t : Nat) : Int)), (.int .i64 ssn), (.bool false), (W pr), (.string da)]], 5, 29, true⟩), (s, some ⟨[(xDp24 jn NX n K jo M)], 3, 101, true⟩), (n, some (oMsg ws)), (jw, none)]) (by kernel_rfl) get_here) (r_load1 rfl rfl rfl rfl rfl get_here rfl rfl) ?_
 refine PQ.pure (dst := (some 16)) (v := (Pt s 0 0)) rfl rfl rfl noStore (none_ok _ _) rfl ?_
 refine PQ.pure (dst := (some 17)) (v := (Pt s 0 0)) rfl rfl rfl noStore (none_ok _ _) rfl ?_
 refine PQ.pure (dst := (some 18)) (v := (Pt s 0 0)) rfl rfl rfl noStore (none_ok _ _) rfl ?_
 refine PQ.pure (dst := (some 19)) (v := (.slice (some ⟨jn, 0, none⟩) NX 0)) rfl rfl rfl (app [(s, some ⟨[(xDp24 jn NX n K jo M)], 3, 101, true⟩)] noStore) (seen_one (V := []) (D := [((n + 1), some ⟨[[(.int .i64 ((t : Nat) : Int)), (.int .i64 ssn), (.bool false), (W pr), (.string da)]], 5, 29, true⟩), (s, some ⟨[(xDp24 jn NX n K jo M)], 3, 101, true⟩), (n, some (oMsg ws)), (jw, none)]) (by kernel_rfl) (get_there (by omega) get_here)) (r_load1 rfl rfl rfl rfl rfl get_here rfl rfl) ?_
 refine PQ.pure (dst := (some 20)) (v := (.int .i64 ((NX : Nat) : Int))) rfl rfl rfl noStore (none_ok _ _) rfl ?_
 have hc2 : ¬ (((NX : Nat) : Int) ≤ ((t : Nat) : Int)) := fun hdd => by exfalso; first | exact hrj (.inl hdd) | exact hrj (.inr hdd) | omega
 refine PQ.pure (dst := (some 21)) (v := (.bool false)) rfl rfl rfl noStore (none_ok _ _) (Eq.trans (r_bin rfl rfl rfl (b_geq rfl)) (dF hc2)) ?_
 refine PQ.pure (dst := (some 22)) (v := (.bool false)) rfl rfl rfl noStore (none_ok _ _) rfl ?_
 refine PQ.done (d := []) (by kernel_rfl) ?_
 intro _
 refine RA.condF rfl ?_
 refine RA.skip env_ok ?_
 intro _
 refine RA.seq hd ?_
 refine RA.seq hd ?_
 refine RA.region env_ok ?_
 refine OA.p (some 23) (.pointer (some ⟨(n + 1), 0, some 2⟩)) rfl rfl rfl rfl ?_
 refine OA.p (some 24) (.bool false) rfl rfl rfl (r_load1 rfl rfl rfl rfl rfl get_here rfl rfl) ?_
 refine OA.nil ?_
 intro _
 refine RA.condF rfl ?_
 refine RA.skip env_ok ?_
 intro _
 refine RA.seq hd ?_
 refine RA.region env_ok ?_
 refine OA.p (some 35) (.pointer (some ⟨(n + 1), 0, some 1⟩)) rfl rfl rfl rfl ?_
 refine OA.p (some 36) (.int .i64 ssn) rfl rfl rfl (r_load1 rfl rfl rfl rfl rfl get_here rfl rfl) ?_
 refine OA.p (some 37) (.int .u16 (((u16N ssn) : Nat) : Int)) rfl rfl rfl (r_cvt rfl rfl rfl rfl rfl ⟨_, rfl⟩ (wrap_u16s _)) ?_
 refine OA.op1 (dst := (some 5)) (v := (.pointer (some ⟨(n + 2), 0, some 0⟩))) (n1 := (n + 3)) (w := ((n + 2), some ⟨[[(.int .u16 0)]], 1, 102, true⟩)) rfl rfl rfl rfl (by omega) ?_
 refine OA.op1 (dst := none) (v := (.tuple #[])) (n1 := (n + 3)) (w := ((n + 2), some ⟨[[(.int .u16 (((u16N ssn) : Nat) : Int))]], 1, 102, true⟩)) rfl rfl rfl (r_store rfl rfl rfl rfl rfl rfl rfl get_here rfl rfl (Nat.le_of_ble_eq_true rfl) rfl) (by omega) ?_
 refine OA.nil ?_
 intro _
 refine RA.rebase [(0, (Pt s 0 0)), (1, (.agg ⟨[(.int .i64 ((t : Nat) : Int)), (.int .i64 ssn), (.bool false), (W pr), (.string da)]⟩)), (3, (.pointer (some ⟨(n + 1), 0, some 0⟩))), (4, (.bool false)), (5, (.pointer (some ⟨(n + 2), 0, some 0⟩))), (22, (.bool false)), (24, (.bool false))] ⟨rfl, rfl, rfl, rfl, rfl, rfl, rfl, trivial⟩ (fun τr1 => ?_)
 refine RA.seq hd ?_
 refine RA.seq hd ?_
 refine RA.par (md := [some [(n + 2)], some [], some [], some [], some [s], some [], some [(n + 1)], none, none, some [], some [], some [], some [], some [], some [s], some [], none, some []]) env_ok (hd.of (by omega) (kb6 (by omega))) (by kernel_rfl) ?_
 refine PQ.pure (dst := (some 38)) (v := (.int .u16 (((u16N ssn) : Nat) : Int))) rfl rfl rfl (app [((n + 2), some ⟨[[(.int .u16 (((u16N ssn) : Nat) : Int))]], 1, 102, true⟩)] noStore) (seen_one (V := []) (D := [((n + 2), some ⟨[[(.int .u16 (((u16N ssn) : Nat) : Int))]], 1, 102, true⟩), ((n + 2), some ⟨[[(.int .u16 0)]], 1, 102, true⟩), ((n + 1), some ⟨[[(.int .i64 ((t : Nat) : Int)), (.int .i64 ssn), (.bool false), (W pr), (.string da)]], 5, 29, true⟩), (s, some ⟨[(xDp24 jn NX n K jo M)], 3, 101, true⟩), (n, some (oMsg ws)), (jw, none)]) (by kernel_rfl) get_here) (r_load1 rfl rfl rfl rfl rfl get_here rfl rfl) ?_
 refine PQ.pure (dst := (some 39)) (v := (Pt s 0 0)) rfl rfl rfl noStore (none_ok _ _) rfl ?_
 refine PQ.pure (dst := (some 40)) (v := (Pt s 0 0)) rfl rfl rfl noStore (none_ok _ _) rfl ?_
 refine PQ.pure (dst := (some 41)) (v := (Pt s 0 0)) rfl rfl rfl noStore (none_ok _ _) rfl ?_
 refine PQ.pure (dst := (some 42)) (v := (.slice (some ⟨jn, 0, none⟩) NX 0)) rfl rfl rfl (app [(s, some ⟨[(xDp24 jn NX n K jo M)], 3, 101, true⟩)] noStore) (seen_one (V := []) (D := [((n + 2), some ⟨[[(.int .u16 (((u16N ssn) : Nat) : Int))]], 1, 102, true⟩), ((n + 2), some ⟨[[(.int .u16 0)]], 1, 102, true⟩), ((n + 1), some ⟨[[(.int .i64 ((t : Nat) : Int)), (.int .i64 ssn), (.bool false), (W pr), (.string da)]], 5, 29, true⟩), (s, some ⟨[(xDp24 jn NX n K jo M)], 3, 101, true⟩), (n, some (oMsg ws)), (jw, none)]) (by kernel_rfl) (gt3 (by omega) get_here)) (r_load1 rfl rfl rfl rfl rfl get_here rfl rfl) ?_
 refine PQ.pure (dst := (some 43)) (v := (.pointer (some ⟨(n + 1), 0, some 0⟩))) rfl rfl rfl noStore (none_ok _ _) rfl ?_
 refine PQ.pure (dst := (some 44)) (v := (.int .i64 ((t : Nat) : Int))) rfl rfl rfl (app [((n + 1), some ⟨[[(.int .i64 ((t : Nat) : Int)), (.int .i64 ssn), (.bool false), (W pr), (.string da)]], 5, 29, true⟩)] noStore) (seen_one (V := []) (D := [((n + 2), some ⟨[[(.int .u16 (((u16N ssn) : Nat) : Int))]], 1, 102, true⟩), ((n + 2), some ⟨[[(.int .u16 0)]], 1, 102, true⟩), ((n + 1), some ⟨[[(.int .i64 ((t : Nat) : Int)), (.int .i64 ssn), (.bool false), (W pr), (.string da)]], 5, 29, true⟩), (s, some ⟨[(xDp24 jn NX n K jo M)], 3, 101, true⟩), (n, some (oMsg ws)), (jw, none)]) (by kernel_rfl) (gt2 (by omega) get_here)) (r_load1 rfl rfl rfl rfl rfl get_here rfl rfl) ?_
 refine PQ.pure (dst := (some 45)) (v := (Pt jn t 0)) rfl rfl rfl _ (seen_any (V := []) (D := [((n + 2), some ⟨[[(.int .u16 (((u16N ssn) : Nat) : Int))]], 1, 102, true⟩), ((n + 2), some ⟨[[(.int .u16 0)]], 1, 102, true⟩), ((n + 1), some ⟨[[(.int .i64 ((t : Nat) : Int)), (.int .i64 ssn), (.bool false), (W pr), (.string da)]], 5, 29, true⟩), (s, some ⟨[(xDp24 jn NX n K jo M)], 3, 101, true⟩), (n, some (oMsg ws)), (jw, none)]) (by kernel_rfl)) (r_iaS (l := t) rfl rfl rfl rfl rfl rfl (by omega) (by omega) (gt6 (by omega) hjn) rfl (by omega)) ?_
 refine PQ.pure (dst := (some 46)) (v := (.int .u16 (((nx.getD t dUx).z : Nat) : Int))) rfl rfl rfl _ (seen_any (V := []) (D := [((n + 2), some ⟨[[(.int .u16 (((u16N ssn) : Nat) : Int))]], 1, 102, true⟩), ((n + 2), some ⟨[[(.int .u16 0)]], 1, 102, true⟩), ((n + 1), some ⟨[[(.int .i64 ((t : Nat) : Int)), (.int .i64 ssn), (.bool false), (W pr), (.string da)]], 5, 29, true⟩), (s, some ⟨[(xDp24 jn NX n K jo M)], 3, 101, true⟩), (n, some (oMsg ws)), (jw, none)]) (by kernel_rfl)) (r_loadF (c := cUx) dUx rfl rfl rfl rfl rfl (gt6 (by omega) hjn) (by rw [hnx]; omega) rfl) ?_
 have hc3 : ¬ (less16 (u16N ssn) (nx.getD t dUx).z) := fun hdd => by exfalso; first | exact hrj (.inl hdd) | exact hrj (.inr hdd) | omega
 refine PQ.callP (dst := (some 47)) (all := [(.int .u16 (((u16N ssn) : Nat) : Int)), (.int .u16 (((nx.getD t dUx).z : Nat) : Int))]) (v := (.bool false)) noStore (dom_none _) rfl rfl rfl rfl rfl rfl rfl rfl (none_ok _ _) (PS.to (dLess (u16N ssn) (nx.getD t dUx).z) (show (.bool (decide (less16 (u16N ssn) (nx.getD t dUx).z))) = ((.bool false) : Value) from (by first | (rw [decide_eq_false hc3]; done) | (rw [decide_eq_false hc3]; rfl)))) ?_
 intro n2 hn2
 refine PQ.pure (dst := (some 48)) (v := (.bool false)) rfl rfl rfl noStore (none_ok _ _) rfl ?_
 refine PQ.pure (dst := (some 49)) (v := (Pt s 0 0)) rfl rfl rfl noStore (none_ok _ _) rfl ?_
 refine PQ.pure (dst := (some 50)) (v := (Pt s 0 0)) rfl rfl rfl noStore (none_ok _ _) rfl ?_
 refine PQ.pure (dst := (some 51)) (v := (Pt s 0 1)) rfl rfl rfl noStore (none_ok _ _) rfl ?_
 refine PQ.pure (dst := (some 52)) (v := (.slice (some ⟨n, 0, none⟩) K 2)) rfl rfl rfl (app [(s, some ⟨[(xDp24 jn NX n K jo M)], 3, 101, true⟩)] noStore) (seen_one (V := []) (D := [((n + 2), some ⟨[[(.int .u16 (((u16N ssn) : Nat) : Int))]], 1, 102, true⟩), ((n + 2), some ⟨[[(.int .u16 0)]], 1, 102, true⟩), ((n + 1), some ⟨[[(.int .i64 ((t : Nat) : Int)), (.int .i64 ssn), (.bool false), (W pr), (.string da)]], 5, 29, true⟩), (s, some ⟨[(xDp24 jn NX n K jo M)], 3, 101, true⟩), (n, some (oMsg ws)), (jw, none)]) (by kernel_rfl) (gt3 (by omega) get_here)) (r_load1 rfl rfl rfl rfl rfl get_here rfl rfl) ?_
 refine PQ.pure (dst := (some 53)) (v := (.func (.func 58) ⟨[]⟩ ⟨[(.pointer (some ⟨(n + 1), 0, some 0⟩)), (.pointer (some ⟨(n + 2), 0, some 0⟩))]⟩)) rfl rfl rfl noStore (none_ok _ _) rfl ?_
 have hc4 : ¬ ((ws.any (qq ((t : Nat) : Int) (u16N ssn))) = true) := fun hdd => by exfalso; first | exact hrj (.inl hdd) | exact hrj (.inr hdd) | omega
 refine PQ.callP (dst := (some 54)) (all := [(.slice (some ⟨n, 0, none⟩) K 2), (.func (.func 58) ⟨[]⟩ ⟨[(.pointer (some ⟨(n + 1), 0, some 0⟩)), (.pointer (some ⟨(n + 2), 0, some 0⟩))]⟩)]) (v := (.bool false)) _ (hd.of (by omega) (kb6 (by omega))) rfl rfl rfl rfl rfl rfl rfl rfl (seen_any (V := []) (D := [((n + 2), some ⟨[[(.int .u16 (((u16N ssn) : Nat) : Int))]], 1, 102, true⟩), ((n + 2), some ⟨[[(.int .u16 0)]], 1, 102, true⟩), ((n + 1), some ⟨[[(.int .i64 ((t : Nat) : Int)), (.int .i64 ssn), (.bool false), (W pr), (.string da)]], 5, 29, true⟩), (s, some ⟨[(xDp24 jn NX n K jo M)], 3, 101, true⟩), (n, some (oMsg ws)), (jw, none)]) (by kernel_rfl)) (PS.to (dCont2 n K ws (by rw [hws]) (by omega) (qq ((t : Nat) : Int) (u16N ssn)) (n + 1) (n + 2) (gt4 (by omega) get_here) (fun x _ => dPc x (Msg.mk ((t : Nat) : Int) ssn false pr da) (n + 1) (n + 2) (u16N ssn) (gt2 (by omega) get_here) get_here)) (show (.bool (ws.any (qq ((t : Nat) : Int) (u16N ssn)))) = ((.bool false) : Value) from (by first | (rw [eq_false_of_ne_true hc4]; done) | (rw [eq_false_of_ne_true hc4]; rfl)))) ?_
 intro n3 hn3
 refine PQ.pure (dst := (some 55)) (v := (.bool false)) rfl rfl rfl noStore (none_ok _ _) rfl ?_
 refine PQ.done (d := []) (by kernel_rfl) ?_
 intro _
 refine RA.condF rfl ?_
 refine RA.skip env_ok ?_
 intro _
 refine RA.seq hd ?_
 refine RA.par (md := [some [], some [], some [], some [], some [s], some [(n + 1)], some [], none, some [], some [], none]) env_ok (hd.of (by omega) (kb6 (by omega))) (by kernel_rfl) ?_
 refine PQ.pure (dst := (some 56)) (v := (Pt s 0 0)) rfl rfl rfl noStore (none_ok _ _) rfl ?_
 refine PQ.pure (dst := (some 57)) (v := (Pt s 0 0)) rfl rfl rfl noStore (none_ok _ _) rfl ?_
 refine PQ.pure (dst := (some 58)) (v := (Pt s 0 0)) rfl rfl rfl noStore (none_ok _ _) rfl ?_
 refine PQ.pure (dst := (some 59)) (v := (Pt s 0 1)) rfl rfl rfl noStore (none_ok _ _) rfl ?_
 refine PQ.pure (dst := (some 60)) (v := (.slice (some ⟨n, 0, none⟩) K 2)) rfl rfl rfl (app [(s, some ⟨[(xDp24 jn NX n K jo M)], 3, 101, true⟩)] noStore) (seen_one (V := []) (D := [((n + 2), some ⟨[[(.int .u16 (((u16N ssn) : Nat) : Int))]], 1, 102, true⟩), ((n + 2), some ⟨[[(.int .u16 0)]], 1, 102, true⟩), ((n + 1), some ⟨[[(.int .i64 ((t : Nat) : Int)), (.int .i64 ssn), (.bool false), (W pr), (.string da)]], 5, 29, true⟩), (s, some ⟨[(xDp24 jn NX n K jo M)], 3, 101, true⟩), (n, some (oMsg ws)), (jw, none)]) (by kernel_rfl) (gt3 (by omega) get_here)) (r_load1 rfl rfl rfl rfl rfl get_here rfl rfl) ?_
 refine PQ.pure (dst := (some 61)) (v := (.agg ⟨[(.int .i64 ((t : Nat) : Int)), (.int .i64 ssn), (.bool false), (W pr), (.string da)]⟩)) rfl rfl rfl (app [((n + 1), some ⟨[[(.int .i64 ((t : Nat) : Int)), (.int .i64 ssn), (.bool false), (W pr), (.string da)]], 5, 29, true⟩)] noStore) (seen_one (V := []) (D := [((n + 2), some ⟨[[(.int .u16 (((u16N ssn) : Nat) : Int))]], 1, 102, true⟩), ((n + 2), some ⟨[[(.int .u16 0)]], 1, 102, true⟩), ((n + 1), some ⟨[[(.int .i64 ((t : Nat) : Int)), (.int .i64 ssn), (.bool false), (W pr), (.string da)]], 5, 29, true⟩), (s, some ⟨[(xDp24 jn NX n K jo M)], 3, 101, true⟩), (n, some (oMsg ws)), (jw, none)]) (by kernel_rfl) (gt2 (by omega) get_here)) (r_loadA rfl rfl rfl rfl get_here rfl rfl rfl) ?_
 refine PQ.op (dst := (some 62)) (v := (.slice (some ⟨n3, 0, none⟩) 1 0)) (n1 := (n3 + 1)) (d1 := [(n3, some ⟨[[(.int .i64 ((t : Nat) : Int)), (.int .i64 ssn), (.bool false), (W pr), (.string da)]], 5, 29, true⟩)]) rfl rfl rfl noStore (none_ok _ _) (by kernel_rfl) (by omega) (kp1 (wr_new (by omega) (by omega))) ?_
 refine PQ.op (dst := (some 63)) (v := (.slice (some ⟨(n3 + 1), 0, none⟩) (K + 1) 2)) (n1 := (n3 + 2)) (d1 := [((n3 + 1), some (oMsg (ws ++ [(Msg.mk ((t : Nat) : Int) ssn false pr da)]))), (n, none)]) rfl rfl rfl _ (seen_any (V := [(n3, some ⟨[[(.int .i64 ((t : Nat) : Int)), (.int .i64 ssn), (.bool false), (W pr), (.string da)]], 5, 29, true⟩)]) (D := [((n + 2), some ⟨[[(.int .u16 (((u16N ssn) : Nat) : Int))]], 1, 102, true⟩), ((n + 2), some ⟨[[(.int .u16 0)]], 1, 102, true⟩), ((n + 1), some ⟨[[(.int .i64 ((t : Nat) : Int)), (.int .i64 ssn), (.bool false), (W pr), (.string da)]], 5, 29, true⟩), (s, some ⟨[(xDp24 jn NX n K jo M)], 3, 101, true⟩), (n, some (oMsg ws)), (jw, none)]) (by kernel_rfl)) (r_append2x (c := cMsg) (x := (Msg.mk ((t : Nat) : Int) ssn false pr da)) (l' := (ws ++ [(Msg.mk ((t : Nat) : Int) ssn false pr da)])) rfl rfl rfl rfl rfl rfl rfl rfl rfl rfl (by decide) (gt5 (by omega) get_here) get_here (by rw [hws]; omega) (by rw [take_all' (by rw [hws])]) (by omega) (of_decide_eq_true (by kernel_rfl)) (by omega)) (by omega) (kp2 (wr_new (by omega) (by omega)) (wr_old [0] (by kernel_rfl) (by omega) (by omega) (fac (lo0 rfl) fan))) ?_
 refine PQ.pure (dst := (some 64)) (v := (Pt s 0 0)) rfl rfl rfl noStore (none_ok _ _) rfl ?_
 refine PQ.pure (dst := (some 65)) (v := (Pt s 0 1)) rfl rfl rfl noStore (none_ok _ _) rfl ?_
 refine PQ.op (dst := none) (v := (.tuple #[])) (n1 := (n3 + 2)) (d1 := [(s, some ⟨[(xDp22 jn NX n3 K jo M)], 3, 101, true⟩)]) rfl rfl rfl _ (seen_any (V := [((n3 + 1), some (oMsg (ws ++ [(Msg.mk ((t : Nat) : Int) ssn false pr da)]))), (n, none), (n3, some ⟨[[(.int .i64 ((t : Nat) : Int)), (.int .i64 ssn), (.bool false), (W pr), (.string da)]], 5, 29, true⟩)]) (D := [((n + 2), some ⟨[[(.int .u16 (((u16N ssn) : Nat) : Int))]], 1, 102, true⟩), ((n + 2), some ⟨[[(.int .u16 0)]], 1, 102, true⟩), ((n + 1), some ⟨[[(.int .i64 ((t : Nat) : Int)), (.int .i64 ssn), (.bool false), (W pr), (.string da)]], 5, 29, true⟩), (s, some ⟨[(xDp24 jn NX n K jo M)], 3, 101, true⟩), (n, some (oMsg ws)), (jw, none)]) (by kernel_rfl)) (r_store rfl rfl rfl rfl rfl rfl rfl (gt6 (by omega) get_here) rfl rfl (Nat.le_of_ble_eq_true rfl) rfl) (by omega) (kp1 (wr_tight (by kernel_rfl) (by omega))) ?_
 refine PQ.done (d := [(s, some ⟨[(xDp22 jn NX n3 K jo M)], 3, 101, true⟩), ((n3 + 1), some (oMsg (ws ++ [(Msg.mk ((t : Nat) : Int) ssn false pr da)]))), (n, none), (n3, some ⟨[[(.int .i64 ((t : Nat) : Int)), (.int .i64 ssn), (.bool false), (W pr), (.string da)]], 5, 29, true⟩)]) (by kernel_rfl) ?_
 intro _
 refine RA.weaken (D' := [(s, some ⟨[(xDp22 jn NX n3 K jo M)], 3, 101, true⟩), ((n3 + 1), some (oMsg (ws ++ [(Msg.mk ((t : Nat) : Int) ssn false pr da)]))), (n, none), (n3, some ⟨[[(.int .i64 ((t : Nat) : Int)), (.int .i64 ssn), (.bool false), (W pr), (.string da)]], 5, 29, true⟩), ((n + 2), some ⟨[[(.int .u16 (((u16N ssn) : Nat) : Int))]], 1, 102, true⟩), ((n + 1), some ⟨[[(.int .i64 ((t : Nat) : Int)), (.int .i64 ssn), (.bool false), (W pr), (.string da)]], 5, 29, true⟩), (jw, none)]) hd (Less.of (fac (mm (fun _ => get_here) (fun _ => get_here)) (fac (mm (fun _ => (get_there (by omega) get_here)) (fun _ => (get_there (by omega) get_here))) (fac (mm (fun _ => (gt2 (by omega) get_here)) (fun _ => (gt2 (by omega) get_here))) (fac (mm (fun _ => (gt3 (by omega) get_here)) (fun _ => (gt3 (by omega) get_here))) (fac (mm (fun _ => (gt4 (by omega) get_here)) (fun _ => (gt4 (by omega) get_here))) (fac (mm (fun _ => (gt5 (by omega) get_here)) (fun _ => (gt6 (by omega) get_here))) (fac (mm (fun _ => (gt6 (by omega) get_here)) (fun _ => (gt9 (by omega) get_here))) fan))))))) (gone_of (by simp only [goneP, memP, List.cons_append, List.nil_append, true_or, or_true, true_and, and_true, or_false] <;> omega))) ?_
 refine RA.rebase [(0, (Pt s 0 0)), (1, (.agg ⟨[(.int .i64 ((t : Nat) : Int)), (.int .i64 ssn), (.bool false), (W pr), (.string da)]⟩)), (3, (.pointer (some ⟨(n + 1), 0, some 0⟩))), (4, (.bool false)), (5, (.pointer (some ⟨(n + 2), 0, some 0⟩))), (22, (.bool false)), (24, (.bool false)), (55, (.bool false))] ⟨rfl, rfl, rfl, rfl, rfl, rfl, rfl, rfl, trivial⟩ (fun τr4 => ?_)
 refine RA.seq hd ?_
 refine RA.region env_ok ?_
 refine OA.p (some 66) (Pt s 0 0) rfl rfl rfl rfl ?_
 refine OA.p (some 67) (.pointer (some ⟨(n + 1), 0, some 0⟩)) rfl rfl rfl rfl ?_
 refine OA.p (some 68) (.int .i64 ((t : Nat) : Int)) rfl rfl rfl (r_load1 rfl rfl rfl rfl rfl (gt5 (by omega) get_here) rfl rfl) ?_
 refine OA.call (dst := (some 69)) (all := [(Pt s 0 0), (.int .i64 ((t : Nat) : Int))]) rfl rfl rfl rfl rfl rfl rfl rfl (CQ.imp (dGo2 (hd.of (by omega) (kb7 (by omega))) s jn (n3 + 1) jo t NX (K + 1) M nx (ws ++ [(Msg.mk ((t : Nat) : Int) ssn false pr da)]) L2 hnx (show (ws ++ [(Msg.mk ((t : Nat) : Int) ssn false pr da)]).length = (K + 1) from by simp only [List.length_append, List.length_singleton, List.length_take, List.length_drop]; first | (rw [hws]; done) | (rw [hws]; omega)) hL2 ht (by omega) (by omega) (by omega) (by omega) (by omega) (by omega) (by omega) (by omega) R hR get_here (gt7 (by omega) hjn) (get_there (by omega) get_here) (gt7 (by omega) hjo)) ?_)
 rintro _ n5 _ ⟨jw2, jo2, hp1, hp2, hp3, hp4, hp5, K2, M2, hk2, hm2, hkm, rfl, rfl⟩ hn5
 show OA _ _ _ _ _ _ _ _ [(s, some ⟨[(xDp23 jn NX jw2 K2 jo2 M2)], 3, 101, true⟩), (jn, some (oUx (nx.set t (Ux.mk R.1)))), (jw2, some (oMsg R.2.1)), (jo2, some (oMsg R.2.2)), ((n3 + 1), none), (jo, none), (s, some ⟨[(xDp22 jn NX n3 K jo M)], 3, 101, true⟩), ((n3 + 1), some (oMsg (ws ++ [(Msg.mk ((t : Nat) : Int) ssn false pr da)]))), (n, none), (n3, some ⟨[[(.int .i64 ((t : Nat) : Int)), (.int .i64 ssn), (.bool false), (W pr), (.string da)]], 5, 29, true⟩), ((n + 2), some ⟨[[(.int .u16 (((u16N ssn) : Nat) : Int))]], 1, 102, true⟩), ((n + 1), some ⟨[[(.int .i64 ((t : Nat) : Int)), (.int .i64 ssn), (.bool false), (W pr), (.string da)]], 5, 29, true⟩), (jw, none)] _
 refine OA.nil ?_
 intro _
 refine RA.weaken (D' := [(s, some ⟨[(xDp23 jn NX jw2 K2 jo2 M2)], 3, 101, true⟩), (jn, some (oUx (nx.set t (Ux.mk R.1)))), (jw2, some (oMsg R.2.1)), (jo2, some (oMsg R.2.2)), ((n3 + 1), none), (jo, none), (n, none), (n3, some ⟨[[(.int .i64 ((t : Nat) : Int)), (.int .i64 ssn), (.bool false), (W pr), (.string da)]], 5, 29, true⟩), ((n + 2), some ⟨[[(.int .u16 (((u16N ssn) : Nat) : Int))]], 1, 102, true⟩), ((n + 1), some ⟨[[(.int .i64 ((t : Nat) : Int)), (.int .i64 ssn), (.bool false), (W pr), (.string da)]], 5, 29, true⟩), (jw, none)]) hd (Less.of (fac (mm (fun _ => get_here) (fun _ => get_here)) (fac (mm (fun _ => (get_there (by omega) get_here)) (fun _ => (get_there (by omega) get_here))) (fac (mm (fun _ => (gt2 (by omega) get_here)) (fun _ => (gt2 (by omega) get_here))) (fac (mm (fun _ => (gt3 (by omega) get_here)) (fun _ => (gt3 (by omega) get_here))) (fac (mm (fun _ => (gt4 (by omega) get_here)) (fun _ => (gt4 (by omega) get_here))) (fac (mm (fun _ => (gt5 (by omega) get_here)) (fun _ => (gt5 (by omega) get_here))) (fac (mm (fun _ => (gt6 (by omega) get_here)) (fun _ => (gt8 (by omega) get_here))) (fac (mm (fun _ => (gt7 (by omega) get_here)) (fun _ => (gt9 (by omega) get_here))) (fac (mm (fun _ => (gt8 (by omega) get_here)) (fun _ => (gt10 (by omega) get_here))) (fac (mm (fun _ => (gt9 (by omega) get_here)) (fun _ => (gt11 (by omega) get_here))) (fac (mm (fun _ => (gt10 (by omega) get_here)) (fun _ => (gt12 (by omega) get_here))) fan))))))))))) (gone_of (by simp only [goneP, memP, List.cons_append, List.nil_append, true_or, or_true, true_and, and_true, or_false] <;> omega))) ?_
 refine RA.seq hd ?_
 refine RA.region env_ok ?_
 refine OA.p (some 4) (.bool true) rfl rfl rfl rfl ?_
 refine OA.nil ?_
 intro _
 refine RA.ret env_ok ?_
 refine ⟨.inr rfl, [(.bool true)], (resL_cons rfl resL_nil), [(s, some ⟨[(xDp23 jn NX jw2 K2 jo2 M2)], 3, 101, true⟩), (jn, some (oUx (nx.set t (Ux.mk R.1)))), (jw2, some (oMsg R.2.1)), (jo2, some (oMsg R.2.2)), (jw, none), (jo, none)], (Less.of (fac (mm (fun _ => get_here) (fun _ => get_here)) (fac (mm (fun _ => (get_there (by omega) get_here)) (fun _ => (get_there (by omega) get_here))) (fac (mm (fun _ => (gt2 (by omega) get_here)) (fun _ => (gt2 (by omega) get_here))) (fac (mm (fun _ => (gt3 (by omega) get_here)) (fun _ => (gt3 (by omega) get_here))) (fac (mm (fun _ => (gt4 (by omega) get_here)) (fun _ => (gt10 (by omega) get_here))) (fac (mm (fun _ => (gt5 (by omega) get_here)) (fun _ => (gt5 (by omega) get_here))) fan)))))) (gone_of (by simp only [goneP, memP, List.cons_append, List.nil_append, true_or, or_true, true_and, and_true, or_false] <;> omega))), ⟨jw2, jo2, by omega, by omega, by omega, by omega, by omega, K2, M2, hk2, hm2, by omega, rfl, rfl⟩⟩

theorem pReadY {n : Nat} {σ : Store} (hd : Dom n σ) (s jn NX jo M : Nat) (L2 : List Msg) (hL2 : L2.length = M) (hM : 0 < M) (hM2 : M ≤ 100000) (w : Value) (hw : oneB w = true) (hs : σ s = some ⟨[[(.slice (some ⟨jn, 0, none⟩) NX 0), w, (.slice (some ⟨jo, 0, none⟩) M 2)]], 3, 101, true⟩) (hjo : σ jo = some (oMsg L2))  : CQ Try.prog noDen 15 [(Pt s 0 0)] n σ (fun v n' d => v = .tuple #[.agg ⟨cMsg (L2.getD 0 dMsg)⟩, .bool true] ∧ d = [(s, some ⟨[[(.slice (some ⟨jn, 0, none⟩) NX 0), w, (.slice (some ⟨jo, 1, none⟩) (M - 1) 2)]], 3, 101, true⟩)]) := by
 have lhs := hd.lt hs
 have lhjo := hd.lt hjo
 refine CQ.body (E := env) env_ok hd rfl rfl (by show _ ≤ _; exact of_decide_eq_true (by kernel_rfl)) ?_
 refine RA.seq hd ?_
 refine RA.region env_ok ?_
 refine OA.op1 (dst := (some 2)) (v := (Pt n 0 0)) (n1 := (n + 1)) (w := (n, some ⟨[[(.int .i64 0), (.int .i64 0), (.bool false), (.int .u32 0), (.string ByteArray.empty)]], 5, 29, true⟩)) rfl rfl rfl rfl (by omega) ?_
 refine OA.p (some 3) (.bool false) rfl rfl rfl rfl ?_
 refine OA.nil ?_
 intro _
 refine RA.seq hd ?_
 refine RA.seq hd ?_
 refine RA.region env_ok ?_
 refine OA.p (some 5) (Pt s 0 0) rfl rfl rfl rfl ?_
 refine OA.p (some 6) (.bool false) rfl rfl rfl rfl ?_
 refine OA.p (some 7) (.bool false) rfl rfl rfl rfl ?_
 refine OA.p (some 8) (Pt s 0 0) rfl rfl rfl rfl ?_
 refine OA.p (some 9) (Pt s 0 0) rfl rfl rfl rfl ?_
 refine OA.p (some 10) (Pt s 0 2) rfl rfl rfl rfl ?_
 refine OA.p (some 11) (.slice (some ⟨jo, 0, none⟩) M 2) rfl rfl rfl (r_load1 rfl rfl rfl rfl rfl (get_there (by omega) hs) rfl rfl) ?_
 refine OA.p (some 12) (.int .i64 ((M : Nat) : Int)) rfl rfl rfl rfl ?_
 have hc1 : ¬ (((M : Nat) : Int) = 0) := fun hdd => by exfalso; omega
 refine OA.p (some 13) (.bool false) rfl rfl rfl (Eq.trans (r_bin rfl rfl rfl (b_eql rfl)) (dF hc1)) ?_
 refine OA.p (some 14) (.bool false) rfl rfl rfl rfl ?_
 refine OA.nil ?_
 intro _
 refine RA.condF rfl ?_
 refine RA.skip env_ok ?_
 intro _
 refine RA.seq hd ?_
 refine RA.region env_ok ?_
 refine OA.p (some 16) (Pt s 0 0) rfl rfl rfl rfl ?_
 refine OA.p (some 17) (Pt s 0 0) rfl rfl rfl rfl ?_
 refine OA.p (some 18) (Pt s 0 2) rfl rfl rfl rfl ?_
 refine OA.p (some 19) (.slice (some ⟨jo, 0, none⟩) M 2) rfl rfl rfl (r_load1 rfl rfl rfl rfl rfl (get_there (by omega) hs) rfl rfl) ?_
 refine OA.p (some 20) (Pt jo 0 0) rfl rfl rfl (r_iaS (l := 0) rfl rfl rfl rfl rfl rfl (by omega) (by omega) (get_there (by omega) hjo) rfl (by omega)) ?_
 refine OA.p (some 21) (.agg ⟨(cMsg (L2.getD 0 dMsg))⟩) rfl rfl rfl (r_loadR (c := cMsg) dMsg rfl rfl rfl rfl (get_there (by omega) hjo) (by rw [hL2]; omega) rfl) ?_
 refine OA.op1 (dst := (some 4)) (v := (.pointer (some ⟨(n + 1), 0, some 0⟩))) (n1 := (n + 2)) (w := ((n + 1), some ⟨[[(.int .i64 0), (.int .i64 0), (.bool false), (.int .u32 0), (.string ByteArray.empty)]], 5, 29, true⟩)) rfl rfl rfl rfl (by omega) ?_
 refine OA.op1 (dst := none) (v := (.tuple #[])) (n1 := (n + 2)) (w := ((n + 1), some ⟨[(cMsg (L2.getD 0 dMsg))], 5, 29, true⟩)) rfl rfl rfl (r_store rfl rfl rfl rfl rfl rfl rfl get_here rfl rfl (Nat.le_of_ble_eq_true rfl) rfl) (by omega) ?_
 refine OA.nil ?_
 intro _
 refine RA.seq hd ?_
 refine RA.region env_ok ?_
 refine OA.p (some 22) (Pt s 0 0) rfl rfl rfl rfl ?_
 refine OA.p (some 23) (Pt s 0 0) rfl rfl rfl rfl ?_
 refine OA.p (some 24) (Pt s 0 0) rfl rfl rfl rfl ?_
 refine OA.p (some 25) (Pt s 0 2) rfl rfl rfl rfl ?_
 refine OA.p (some 26) (.slice (some ⟨jo, 0, none⟩) M 2) rfl rfl rfl (r_load1 rfl rfl rfl rfl rfl (gt3 (by omega) hs) rfl rfl) ?_
 refine OA.p (some 27) (.slice (some ⟨jo, 1, none⟩) (M - 1) 2) rfl rfl rfl (r_cut2 (a := 1) (b := M) rfl rfl (fun _ => rfl) (fun _ => rfl) rfl rfl rfl rfl rfl (gt3 (by omega) hjo) rfl (by omega) (by omega) (by rw [List.length_map, hL2]; omega) (by omega) (by omega)) ?_
 refine OA.p (some 28) (Pt s 0 0) rfl rfl rfl rfl ?_
 refine OA.p (some 29) (Pt s 0 2) rfl rfl rfl rfl ?_
 refine OA.op1 (dst := none) (v := (.tuple #[])) (n1 := (n + 2)) (w := (s, some ⟨[[(.slice (some ⟨jn, 0, none⟩) NX 0), w, (.slice (some ⟨jo, 1, none⟩) (M - 1) 2)]], 3, 101, true⟩)) rfl rfl rfl (r_store rfl rfl rfl rfl rfl rfl rfl (gt3 (by omega) hs) rfl rfl (Nat.le_of_ble_eq_true rfl) rfl) (by omega) ?_
 refine OA.nil ?_
 intro _
 refine RA.rebase [(0, (Pt s 0 0)), (2, (Pt n 0 0)), (3, (.bool false)), (4, (.pointer (some ⟨(n + 1), 0, some 0⟩))), (14, (.bool false))] ⟨rfl, rfl, rfl, rfl, rfl, trivial⟩ (fun τr1 => ?_)
 refine RA.seq hd ?_
 refine RA.region env_ok ?_
 refine OA.p (some 30) (.agg ⟨(xDp21 L2)⟩) rfl rfl rfl (r_loadA rfl rfl rfl rfl (get_there (by omega) get_here) rfl rfl rfl) ?_
 refine OA.op1 (dst := none) (v := (.tuple #[])) (n1 := (n + 2)) (w := (n, some ⟨[(xDp21 L2)], 5, 29, true⟩)) rfl rfl rfl (r_store rfl rfl rfl rfl rfl rfl rfl (gt3 (by omega) get_here) rfl rfl (Nat.le_of_ble_eq_true rfl) rfl) (by omega) ?_
 refine OA.p (some 3) (.bool true) rfl rfl rfl rfl ?_
 refine OA.nil ?_
 intro _
 refine RA.ret env_ok ?_
 refine ⟨.inr rfl, [(.agg ⟨(xDp21 L2)⟩), (.bool true)], (resL_cons (res_cellA rfl rfl rfl get_here rfl rfl rfl) (resL_cons rfl resL_nil)), [(s, some ⟨[[(.slice (some ⟨jn, 0, none⟩) NX 0), w, (.slice (some ⟨jo, 1, none⟩) (M - 1) 2)]], 3, 101, true⟩)], (Less.of (fac (mm (fun _ => get_here) (fun _ => (get_there (by omega) get_here))) fan) (gone_of (by simp only [goneP, memP, List.cons_append, List.nil_append, true_or, or_true, true_and, and_true, or_false] <;> omega))), ⟨rfl, rfl⟩⟩

theorem pReadN {n : Nat} {σ : Store} (hd : Dom n σ) (s jn NX jo M : Nat) (hM : M = 0) (w : Value) (hw : oneB w = true) (hs : σ s = some ⟨[[(.slice (some ⟨jn, 0, none⟩) NX 0), w, (.slice (some ⟨jo, 0, none⟩) M 2)]], 3, 101, true⟩)  : CQ Try.prog noDen 15 [(Pt s 0 0)] n σ (fun v n' d => v = .tuple #[.agg ⟨cMsg dMsg⟩, .bool false] ∧ d = []) := by
 have lhs := hd.lt hs
 refine CQ.body (E := env) env_ok hd rfl rfl (by show _ ≤ _; exact of_decide_eq_true (by kernel_rfl)) ?_
 refine RA.seq hd ?_
 refine RA.region env_ok ?_
 refine OA.op1 (dst := (some 2)) (v := (Pt n 0 0)) (n1 := (n + 1)) (w := (n, some ⟨[[(.int .i64 0), (.int .i64 0), (.bool false), (.int .u32 0), (.string ByteArray.empty)]], 5, 29, true⟩)) rfl rfl rfl rfl (by omega) ?_
 refine OA.p (some 3) (.bool false) rfl rfl rfl rfl ?_
 refine OA.nil ?_
 intro _
 refine RA.seq hd ?_
 refine RA.seq hd ?_
 refine RA.region env_ok ?_
 refine OA.p (some 5) (Pt s 0 0) rfl rfl rfl rfl ?_
 refine OA.p (some 6) (.bool false) rfl rfl rfl rfl ?_
 refine OA.p (some 7) (.bool false) rfl rfl rfl rfl ?_
 refine OA.p (some 8) (Pt s 0 0) rfl rfl rfl rfl ?_
 refine OA.p (some 9) (Pt s 0 0) rfl rfl rfl rfl ?_
 refine OA.p (some 10) (Pt s 0 2) rfl rfl rfl rfl ?_
 refine OA.p (some 11) (.slice (some ⟨jo, 0, none⟩) M 2) rfl rfl rfl (r_load1 rfl rfl rfl rfl rfl (get_there (by omega) hs) rfl rfl) ?_
 refine OA.p (some 12) (.int .i64 ((M : Nat) : Int)) rfl rfl rfl rfl ?_
 have hc1 : ((M : Nat) : Int) = 0 := Classical.byContradiction (fun hdd => by exfalso; omega)
 refine OA.p (some 13) (.bool true) rfl rfl rfl (Eq.trans (r_bin rfl rfl rfl (b_eql rfl)) (dT hc1)) ?_
 refine OA.p (some 14) (.bool true) rfl rfl rfl rfl ?_
 refine OA.nil ?_
 intro _
 refine RA.condT rfl ?_
 refine RA.seq hd ?_
 refine RA.region env_ok ?_
 refine OA.p (some 15) (.agg ⟨[(.int .i64 0), (.int .i64 0), (.bool false), (.int .u32 0), (.string ByteArray.empty)]⟩) rfl rfl rfl (by kernel_rfl) ?_
 refine OA.op1 (dst := none) (v := (.tuple #[])) (n1 := (n + 1)) (w := (n, some ⟨[[(.int .i64 0), (.int .i64 0), (.bool false), (.int .u32 0), (.string ByteArray.empty)]], 5, 29, true⟩)) rfl rfl rfl (r_store rfl rfl rfl rfl rfl rfl rfl get_here rfl rfl (Nat.le_of_ble_eq_true rfl) rfl) (by omega) ?_
 refine OA.p (some 3) (.bool false) rfl rfl rfl rfl ?_
 refine OA.nil ?_
 intro _
 refine RA.ret env_ok ?_
 refine ⟨.inr rfl, [(.agg ⟨[(.int .i64 0), (.int .i64 0), (.bool false), (.int .u32 0), (.string ByteArray.empty)]⟩), (.bool false)], (resL_cons (res_cellA rfl rfl rfl get_here rfl rfl rfl) (resL_cons rfl resL_nil)), [], (Less.of (fun p hp => by simp at hp) (gone_of (by simp only [goneP, memP, List.cons_append, List.nil_append, true_or, or_true, true_and, and_true, or_false] <;> omega))), ⟨rfl, rfl⟩⟩

theorem pGrow0 {n : Nat} {σ : Store} (hd : Dom n σ) (s jn NX b : Nat) (nx : List Ux) (hnx : nx.length = NX) (hN : NX ≤ 16) (hb : b ≤ 3) (h1 : s ≠ jn) (w o_ : Value) (hw : oneB w = true) (ho : oneB o_ = true) (hz : (min b (16 - NX)) = 0) (hs : σ s = some ⟨[[(.slice (some ⟨jn, 0, none⟩) NX 0), w, o_]], 3, 101, true⟩) (hjn : σ jn = some (oUx nx))  : CQ Try.prog noDen 17 [(Pt s 0 0), (.int .i64 ((b : Nat) : Int))] n σ (fun v n' d => v = .tuple #[] ∧ d = [(s, some ⟨[[(.slice (some ⟨jn, 0, none⟩) NX 0), w, o_]], 3, 101, true⟩)]) := by
 have lhs := hd.lt hs
 have lhjn := hd.lt hjn
 refine CQ.body (E := env) env_ok hd rfl rfl (by show _ ≤ _; exact of_decide_eq_true (by kernel_rfl)) ?_
 refine RA.seq hd ?_
 refine RA.region env_ok ?_
 refine OA.p (some 4) (Pt s 0 0) rfl rfl rfl rfl ?_
 refine OA.p (some 5) (.bool true) rfl rfl rfl rfl ?_
 refine OA.nil ?_
 intro _
 refine RA.condT rfl ?_
 refine RA.par (md := [some [], some [], some [], some [], some [s], some [], some [], some [], some [], some [], some [s], some [], some [], some [], none, some [], some [], none]) env_ok (hd.up (by omega)) (by kernel_rfl) ?_
 refine PQ.pure (dst := (some 6)) (v := (Pt s 0 0)) rfl rfl rfl noStore (none_ok _ _) rfl ?_
 refine PQ.pure (dst := (some 7)) (v := (Pt s 0 0)) rfl rfl rfl noStore (none_ok _ _) rfl ?_
 refine PQ.pure (dst := (some 8)) (v := (Pt s 0 0)) rfl rfl rfl noStore (none_ok _ _) rfl ?_
 refine PQ.pure (dst := (some 9)) (v := (Pt s 0 0)) rfl rfl rfl noStore (none_ok _ _) rfl ?_
 refine PQ.pure (dst := (some 10)) (v := (.slice (some ⟨jn, 0, none⟩) NX 0)) rfl rfl rfl (app [(s, some ⟨[[(.slice (some ⟨jn, 0, none⟩) NX 0), w, o_]], 3, 101, true⟩)] noStore) (seen_one (V := []) (D := []) (by kernel_rfl) hs) (r_load1 rfl rfl rfl rfl rfl get_here rfl rfl) ?_
 refine PQ.pure (dst := (some 11)) (v := (.int .i64 ((b : Nat) : Int))) rfl rfl rfl noStore (none_ok _ _) rfl ?_
 refine PQ.pure (dst := (some 12)) (v := (.int .i64 ((b : Nat) : Int))) rfl rfl rfl noStore (none_ok _ _) (Eq.trans (r_max (a := b) (b := 0) rfl rfl rfl) (by rw [Nat.max_zero])) ?_
 refine PQ.pure (dst := (some 13)) (v := (Pt s 0 0)) rfl rfl rfl noStore (none_ok _ _) rfl ?_
 refine PQ.pure (dst := (some 14)) (v := (Pt s 0 0)) rfl rfl rfl noStore (none_ok _ _) rfl ?_
 refine PQ.pure (dst := (some 15)) (v := (Pt s 0 0)) rfl rfl rfl noStore (none_ok _ _) rfl ?_
 refine PQ.pure (dst := (some 16)) (v := (.slice (some ⟨jn, 0, none⟩) NX 0)) rfl rfl rfl (app [(s, some ⟨[[(.slice (some ⟨jn, 0, none⟩) NX 0), w, o_]], 3, 101, true⟩)] noStore) (seen_one (V := []) (D := []) (by kernel_rfl) hs) (r_load1 rfl rfl rfl rfl rfl get_here rfl rfl) ?_
 refine PQ.pure (dst := (some 17)) (v := (.int .i64 ((NX : Nat) : Int))) rfl rfl rfl noStore (none_ok _ _) rfl ?_
 refine PQ.pure (dst := (some 18)) (v := (.int .i64 (((16 - NX) : Nat) : Int))) rfl rfl rfl noStore (none_ok _ _) (r_bin rfl rfl rfl (b_sub (i64_eq (by omega)))) ?_
 refine PQ.pure (dst := (some 19)) (v := (.int .i64 (((min b (16 - NX)) : Nat) : Int))) rfl rfl rfl noStore (none_ok _ _) (r_min (a := b) (b := (16 - NX)) rfl rfl rfl) ?_
 by_cases hc1 : (min b (16 - NX)) = 0
 ·
  refine PQ.pure (dst := (some 20)) (v := (.slice (some ⟨jn, 0, none⟩) NX 0)) rfl rfl rfl _ (seen_any (V := []) (D := []) (by kernel_rfl)) (r_appz0 rfl rfl rfl rfl rfl rfl rfl rfl rfl (by decide) (of_decide_eq_true (by kernel_rfl)) hc1) ?_
  refine PQ.pure (dst := (some 21)) (v := (Pt s 0 0)) rfl rfl rfl noStore (none_ok _ _) rfl ?_
  refine PQ.pure (dst := (some 22)) (v := (Pt s 0 0)) rfl rfl rfl noStore (none_ok _ _) rfl ?_
  refine PQ.op (dst := none) (v := (.tuple #[])) (n1 := n) (d1 := [(s, some ⟨[[(.slice (some ⟨jn, 0, none⟩) NX 0), w, o_]], 3, 101, true⟩)]) rfl rfl rfl _ (seen_any (V := []) (D := []) (by kernel_rfl)) (r_store rfl rfl rfl rfl rfl rfl rfl hs rfl rfl (Nat.le_of_ble_eq_true rfl) rfl) (by omega) (kp1 (wr_tight (by kernel_rfl) (by omega))) ?_
  refine PQ.done (d := [(s, some ⟨[[(.slice (some ⟨jn, 0, none⟩) NX 0), w, o_]], 3, 101, true⟩)]) (by kernel_rfl) ?_
  refine ⟨.inl rfl, [], resL_nil, [(s, some ⟨[[(.slice (some ⟨jn, 0, none⟩) NX 0), w, o_]], 3, 101, true⟩)], (Less.refl _ _ _), ⟨rfl, rfl⟩⟩
 · exfalso; first | exact hz hc1 | exact hc1 hz | omega

theorem pGrow1 {n : Nat} {σ : Store} (hd : Dom n σ) (s jn NX b : Nat) (nx : List Ux) (hnx : nx.length = NX) (hN : NX ≤ 16) (hb : b ≤ 3) (h1 : s ≠ jn) (w o_ : Value) (hw : oneB w = true) (ho : oneB o_ = true) (hz : ¬ (min b (16 - NX)) = 0) (hs : σ s = some ⟨[[(.slice (some ⟨jn, 0, none⟩) NX 0), w, o_]], 3, 101, true⟩) (hjn : σ jn = some (oUx nx))  : CQ Try.prog noDen 17 [(Pt s 0 0), (.int .i64 ((b : Nat) : Int))] n σ (fun v n' d => ∃ jn2, n ≤ jn2 ∧ jn2 < n' ∧ v = .tuple #[] ∧ d = [(s, some ⟨[[(.slice (some ⟨jn2, 0, none⟩) (NX + (min b (16 - NX))) 0), w, o_]], 3, 101, true⟩), (jn2, some (oUx (nx ++ List.replicate (min b (16 - NX)) dUx))), (jn, none)]) := by
 have lhs := hd.lt hs
 have lhjn := hd.lt hjn
 refine CQ.body (E := env) env_ok hd rfl rfl (by show _ ≤ _; exact of_decide_eq_true (by kernel_rfl)) ?_
 refine RA.seq hd ?_
 refine RA.region env_ok ?_
 refine OA.p (some 4) (Pt s 0 0) rfl rfl rfl rfl ?_
 refine OA.p (some 5) (.bool true) rfl rfl rfl rfl ?_
 refine OA.nil ?_
 intro _
 refine RA.condT rfl ?_
 refine RA.par (md := [some [], some [], some [], some [], some [s], some [], some [], some [], some [], some [], some [s], some [], some [], some [], none, some [], some [], none]) env_ok (hd.up (by omega)) (by kernel_rfl) ?_
 refine PQ.pure (dst := (some 6)) (v := (Pt s 0 0)) rfl rfl rfl noStore (none_ok _ _) rfl ?_
 refine PQ.pure (dst := (some 7)) (v := (Pt s 0 0)) rfl rfl rfl noStore (none_ok _ _) rfl ?_
 refine PQ.pure (dst := (some 8)) (v := (Pt s 0 0)) rfl rfl rfl noStore (none_ok _ _) rfl ?_
 refine PQ.pure (dst := (some 9)) (v := (Pt s 0 0)) rfl rfl rfl noStore (none_ok _ _) rfl ?_
 refine PQ.pure (dst := (some 10)) (v := (.slice (some ⟨jn, 0, none⟩) NX 0)) rfl rfl rfl (app [(s, some ⟨[[(.slice (some ⟨jn, 0, none⟩) NX 0), w, o_]], 3, 101, true⟩)] noStore) (seen_one (V := []) (D := []) (by kernel_rfl) hs) (r_load1 rfl rfl rfl rfl rfl get_here rfl rfl) ?_
 refine PQ.pure (dst := (some 11)) (v := (.int .i64 ((b : Nat) : Int))) rfl rfl rfl noStore (none_ok _ _) rfl ?_
 refine PQ.pure (dst := (some 12)) (v := (.int .i64 ((b : Nat) : Int))) rfl rfl rfl noStore (none_ok _ _) (Eq.trans (r_max (a := b) (b := 0) rfl rfl rfl) (by rw [Nat.max_zero])) ?_
 refine PQ.pure (dst := (some 13)) (v := (Pt s 0 0)) rfl rfl rfl noStore (none_ok _ _) rfl ?_
 refine PQ.pure (dst := (some 14)) (v := (Pt s 0 0)) rfl rfl rfl noStore (none_ok _ _) rfl ?_
 refine PQ.pure (dst := (some 15)) (v := (Pt s 0 0)) rfl rfl rfl noStore (none_ok _ _) rfl ?_
 refine PQ.pure (dst := (some 16)) (v := (.slice (some ⟨jn, 0, none⟩) NX 0)) rfl rfl rfl (app [(s, some ⟨[[(.slice (some ⟨jn, 0, none⟩) NX 0), w, o_]], 3, 101, true⟩)] noStore) (seen_one (V := []) (D := []) (by kernel_rfl) hs) (r_load1 rfl rfl rfl rfl rfl get_here rfl rfl) ?_
 refine PQ.pure (dst := (some 17)) (v := (.int .i64 ((NX : Nat) : Int))) rfl rfl rfl noStore (none_ok _ _) rfl ?_
 refine PQ.pure (dst := (some 18)) (v := (.int .i64 (((16 - NX) : Nat) : Int))) rfl rfl rfl noStore (none_ok _ _) (r_bin rfl rfl rfl (b_sub (i64_eq (by omega)))) ?_
 refine PQ.pure (dst := (some 19)) (v := (.int .i64 (((min b (16 - NX)) : Nat) : Int))) rfl rfl rfl noStore (none_ok _ _) (r_min (a := b) (b := (16 - NX)) rfl rfl rfl) ?_
 by_cases hc1 : (min b (16 - NX)) = 0
 · exfalso; first | exact hz hc1 | exact hc1 hz | omega
 ·
  refine PQ.op (dst := (some 20)) (v := (.slice (some ⟨n, 0, none⟩) (NX + (min b (16 - NX))) 0)) (n1 := (n + 1)) (d1 := [(n, some (oUx (nx ++ List.replicate (min b (16 - NX)) dUx))), (jn, none)]) rfl rfl rfl _ (seen_any (V := []) (D := []) (by kernel_rfl)) (r_appz (c := cUx) (z := dUx) rfl rfl rfl rfl rfl rfl rfl rfl rfl rfl (by decide) rfl hjn (by rw [hnx]) (by omega) (by omega) (of_decide_eq_true (by kernel_rfl)) rfl) (by omega) (kp2 (wr_new (by omega) (by omega)) (wr_old [0] (by kernel_rfl) (by omega) (by omega) (fac (lo0 rfl) fan))) ?_
  refine PQ.pure (dst := (some 21)) (v := (Pt s 0 0)) rfl rfl rfl noStore (none_ok _ _) rfl ?_
  refine PQ.pure (dst := (some 22)) (v := (Pt s 0 0)) rfl rfl rfl noStore (none_ok _ _) rfl ?_
  refine PQ.op (dst := none) (v := (.tuple #[])) (n1 := (n + 1)) (d1 := [(s, some ⟨[[(.slice (some ⟨n, 0, none⟩) (NX + (min b (16 - NX))) 0), w, o_]], 3, 101, true⟩)]) rfl rfl rfl _ (seen_any (V := [(n, some (oUx (nx ++ List.replicate (min b (16 - NX)) dUx))), (jn, none)]) (D := []) (by kernel_rfl)) (r_store rfl rfl rfl rfl rfl rfl rfl (gt2 (by omega) hs) rfl rfl (Nat.le_of_ble_eq_true rfl) rfl) (by omega) (kp1 (wr_tight (by kernel_rfl) (by omega))) ?_
  refine PQ.done (d := [(s, some ⟨[[(.slice (some ⟨n, 0, none⟩) (NX + (min b (16 - NX))) 0), w, o_]], 3, 101, true⟩), (n, some (oUx (nx ++ List.replicate (min b (16 - NX)) dUx))), (jn, none)]) (by kernel_rfl) ?_
  refine ⟨.inl rfl, [], resL_nil, [(s, some ⟨[[(.slice (some ⟨n, 0, none⟩) (NX + (min b (16 - NX))) 0), w, o_]], 3, 101, true⟩), (n, some (oUx (nx ++ List.replicate (min b (16 - NX)) dUx))), (jn, none)], (Less.refl _ _ _), ⟨n, by omega, by omega, rfl, rfl⟩⟩

theorem pMany {σ : Store} (s jn NX : Nat) (w o_ : Value) (hs : σ s = some ⟨[[(.slice (some ⟨jn, 0, none⟩) NX 0), w, o_]], 3, 101, true⟩)  : PS Try.prog noDen 21 [(Pt s 0 0)] σ (.int .i64 ((NX : Nat) : Int)) := by
 refine PS.body (E := env) env_ok rfl rfl (by show _ ≤ _; exact of_decide_eq_true (by kernel_rfl)) (fun n hd => ?_)
 have lhs := hd.lt hs
 refine RA.seq hd ?_
 refine RA.region env_ok ?_
 refine OA.p (some 2) (.int .i64 0) rfl rfl rfl rfl ?_
 refine OA.nil ?_
 intro _
 refine RA.seq hd ?_
 refine RA.seq hd ?_
 refine RA.region env_ok ?_
 refine OA.p (some 3) (Pt s 0 0) rfl rfl rfl rfl ?_
 refine OA.p (some 4) (.bool false) rfl rfl rfl rfl ?_
 refine OA.nil ?_
 intro _
 refine RA.condF rfl ?_
 refine RA.skip env_ok ?_
 intro _
 refine RA.seq hd ?_
 refine RA.region env_ok ?_
 refine OA.p (some 5) (Pt s 0 0) rfl rfl rfl rfl ?_
 refine OA.p (some 6) (Pt s 0 0) rfl rfl rfl rfl ?_
 refine OA.p (some 7) (Pt s 0 0) rfl rfl rfl rfl ?_
 refine OA.p (some 8) (.slice (some ⟨jn, 0, none⟩) NX 0) rfl rfl rfl (r_load1 rfl rfl rfl rfl rfl hs rfl rfl) ?_
 refine OA.p (some 9) (.int .i64 ((NX : Nat) : Int)) rfl rfl rfl rfl ?_
 refine OA.p (some 2) (.int .i64 ((NX : Nat) : Int)) rfl rfl rfl rfl ?_
 refine OA.nil ?_
 intro _
 refine RA.ret env_ok ?_
 refine ⟨.inr rfl, [(.int .i64 ((NX : Nat) : Int))], (resL_cons rfl resL_nil), rfl, (fun i hi => by cases hi)⟩

theorem pReady {σ : Store} (s jn NX jo M : Nat) (w : Value) (hs : σ s = some ⟨[[(.slice (some ⟨jn, 0, none⟩) NX 0), w, (.slice (some ⟨jo, 0, none⟩) M 2)]], 3, 101, true⟩)  : PS Try.prog noDen 19 [(Pt s 0 0)] σ (.int .i64 ((M : Nat) : Int)) := by
 refine PS.body (E := env) env_ok rfl rfl (by show _ ≤ _; exact of_decide_eq_true (by kernel_rfl)) (fun n hd => ?_)
 have lhs := hd.lt hs
 refine RA.seq hd ?_
 refine RA.region env_ok ?_
 refine OA.p (some 2) (.int .i64 0) rfl rfl rfl rfl ?_
 refine OA.nil ?_
 intro _
 refine RA.seq hd ?_
 refine RA.seq hd ?_
 refine RA.region env_ok ?_
 refine OA.p (some 3) (Pt s 0 0) rfl rfl rfl rfl ?_
 refine OA.p (some 4) (.bool false) rfl rfl rfl rfl ?_
 refine OA.nil ?_
 intro _
 refine RA.condF rfl ?_
 refine RA.skip env_ok ?_
 intro _
 refine RA.seq hd ?_
 refine RA.region env_ok ?_
 refine OA.p (some 5) (Pt s 0 0) rfl rfl rfl rfl ?_
 refine OA.p (some 6) (Pt s 0 0) rfl rfl rfl rfl ?_
 refine OA.p (some 7) (Pt s 0 2) rfl rfl rfl rfl ?_
 refine OA.p (some 8) (.slice (some ⟨jo, 0, none⟩) M 2) rfl rfl rfl (r_load1 rfl rfl rfl rfl rfl hs rfl rfl) ?_
 refine OA.p (some 9) (.int .i64 ((M : Nat) : Int)) rfl rfl rfl rfl ?_
 refine OA.p (some 2) (.int .i64 ((M : Nat) : Int)) rfl rfl rfl rfl ?_
 refine OA.nil ?_
 intro _
 refine RA.ret env_ok ?_
 refine ⟨.inr rfl, [(.int .i64 ((M : Nat) : Int))], (resL_cons rfl resL_nil), rfl, (fun i hi => by cases hi)⟩

theorem pBytes {σ : Store} (s jn NX jw jo K M : Nat) (ws L2 : List Msg) (hws : ws.length = K) (hL2 : L2.length = M) (hK : K ≤ 1000) (hM : M ≤ 1000) (hT : szs ws + szs L2 ≤ 1000000) (hs : σ s = some ⟨[[(.slice (some ⟨jn, 0, none⟩) NX 0), (.slice (some ⟨jw, 0, none⟩) K 2), (.slice (some ⟨jo, 0, none⟩) M 2)]], 3, 101, true⟩) (hjw : σ jw = some (oMsg ws)) (hjo : σ jo = some (oMsg L2))  : PS Try.prog noDen 20 [(Pt s 0 0)] σ (.int .i64 ((szs ws + szs L2 : Nat) : Int)) := by
 refine PS.body (E := env) env_ok rfl rfl (by show _ ≤ _; exact of_decide_eq_true (by kernel_rfl)) (fun n hd => ?_)
 have lhs := hd.lt hs
 have lhjw := hd.lt hjw
 have lhjo := hd.lt hjo
 refine RA.seq hd ?_
 refine RA.region env_ok ?_
 refine OA.p (some 2) (.int .i64 0) rfl rfl rfl rfl ?_
 refine OA.nil ?_
 intro _
 refine RA.seq hd ?_
 refine RA.seq hd ?_
 refine RA.region env_ok ?_
 refine OA.p (some 6) (Pt s 0 0) rfl rfl rfl rfl ?_
 refine OA.p (some 7) (.bool false) rfl rfl rfl rfl ?_
 refine OA.nil ?_
 intro _
 refine RA.condF rfl ?_
 refine RA.skip env_ok ?_
 intro _
 refine RA.seq hd ?_
 refine RA.region env_ok ?_
 refine OA.p (some 3) (.int .i64 0) rfl rfl rfl rfl ?_
 refine OA.nil ?_
 intro _
 refine RA.seq hd ?_
 refine RA.seq hd ?_
 refine RA.par (md := [some [], some [], some [], some [s], none, some [], some [], some [], some [s], none, some [], some []]) env_ok (hd.up (by omega)) (by kernel_rfl) ?_
 refine PQ.pure (dst := (some 8)) (v := (Pt s 0 0)) rfl rfl rfl noStore (none_ok _ _) rfl ?_
 refine PQ.pure (dst := (some 9)) (v := (Pt s 0 0)) rfl rfl rfl noStore (none_ok _ _) rfl ?_
 refine PQ.pure (dst := (some 10)) (v := (Pt s 0 1)) rfl rfl rfl noStore (none_ok _ _) rfl ?_
 refine PQ.pure (dst := (some 11)) (v := (.slice (some ⟨jw, 0, none⟩) K 2)) rfl rfl rfl (app [(s, some ⟨[[(.slice (some ⟨jn, 0, none⟩) NX 0), (.slice (some ⟨jw, 0, none⟩) K 2), (.slice (some ⟨jo, 0, none⟩) M 2)]], 3, 101, true⟩)] noStore) (seen_one (V := []) (D := []) (by kernel_rfl) hs) (r_load1 rfl rfl rfl rfl rfl get_here rfl rfl) ?_
 refine PQ.call (dst := (some 12)) (all := [(.slice (some ⟨jw, 0, none⟩) K 2)]) rfl rfl rfl rfl rfl rfl rfl rfl _ (seen_any (V := []) (D := []) (by kernel_rfl)) (CQ.imp (CQ.keys (dClone2 (hd.up (by omega)) jw K K ws hws (by omega) (by omega) hjw)) ?_)
 rintro _ n1 _ ⟨hkn1, ⟨jc, hj1, hj2, rfl, rfl⟩⟩
 have hn1 := hkn1.1
 refine ⟨hn1, (kp1 (by first | exact wr_new (by omega) (by omega) | exact wr_old [5, 6, 7, 8, 11] (by kernel_rfl) (by omega) (by omega) (fac (lo0 rfl) (fac (lo0 rfl) (fac (lo0 rfl) (fac (lo1 rfl (by omega)) (fac (lo0 rfl) fan))))))), ?_⟩
 refine PQ.pure (dst := (some 13)) (v := (Pt s 0 0)) rfl rfl rfl noStore (none_ok _ _) rfl ?_
 refine PQ.pure (dst := (some 14)) (v := (Pt s 0 0)) rfl rfl rfl noStore (none_ok _ _) rfl ?_
 refine PQ.pure (dst := (some 15)) (v := (Pt s 0 2)) rfl rfl rfl noStore (none_ok _ _) rfl ?_
 refine PQ.pure (dst := (some 16)) (v := (.slice (some ⟨jo, 0, none⟩) M 2)) rfl rfl rfl (app [(s, some ⟨[[(.slice (some ⟨jn, 0, none⟩) NX 0), (.slice (some ⟨jw, 0, none⟩) K 2), (.slice (some ⟨jo, 0, none⟩) M 2)]], 3, 101, true⟩)] noStore) (seen_one (V := []) (D := []) (by kernel_rfl) hs) (r_load1 rfl rfl rfl rfl rfl get_here rfl rfl) ?_
 refine PQ.op (dst := (some 17)) (v := (.slice (some ⟨n1, 0, none⟩) (K + M) 2)) (n1 := (n1 + 1)) (d1 := [(n1, some (oMsg ((ws.take K) ++ L2))), (jc, none)]) rfl rfl rfl _ (seen_any (V := [(jc, some (oMsg (ws.take K)))]) (D := []) (by kernel_rfl)) (r_append2 (c := cMsg) (l' := ((ws.take K) ++ L2)) rfl rfl rfl rfl rfl rfl rfl rfl rfl rfl (by decide) get_here (get_there (by omega) hjo) (by rw [show (ws.take K).length = K from by rw [List.length_take]; omega]; omega) (by rw [hL2]; omega) (by rw [take_all' (show (ws.take K).length = K from by rw [List.length_take]; omega)]; rw [take_all' (by rw [hL2])]) (by omega) (of_decide_eq_true (by kernel_rfl)) (by omega)) (by omega) (kp2 (wr_new (by omega) (by omega)) (wr_late [11] (by kernel_rfl) (by kernel_rfl) (by omega) 4 (by kernel_rfl) (by simp [keys]) (fac (lo0 rfl) fan))) ?_
 refine PQ.pure (dst := (some 18)) (v := (.int .i64 (((K + M) : Nat) : Int))) rfl rfl rfl noStore (none_ok _ _) rfl ?_
 refine PQ.pure (dst := (some 19)) (v := (.int .i64 0)) rfl rfl rfl noStore (none_ok _ _) rfl ?_
 refine PQ.done (d := [(n1, some (oMsg ((ws.take K) ++ L2))), (jc, none), (jc, some (oMsg (ws.take K)))]) (by kernel_rfl) ?_
 intro _
 refine RA.block ?_
 have hXl : ((ws.take K) ++ L2).length = (K + M) := show ((ws.take K) ++ L2).length = (K + M) from by simp only [List.length_append, List.length_take, List.length_drop, hL2]; omega
 have hXe : ((ws.take K) ++ L2) = ws ++ L2 := by rw [List.take_of_length_le (by omega)]
 have hXs : szs ((ws.take K) ++ L2) ≤ 1000000 := by rw [hXe, szs_app]; omega
 refine RA.weaken (D' := [(n1, some (oMsg ((ws.take K) ++ L2)))]) hd (Less.of (fac (mm (fun _ => get_here) (fun _ => get_here)) fan) (gone_of (by simp only [goneP, memP, List.cons_append, List.nil_append, true_or, or_true, true_and, and_true, or_false] <;> omega))) ?_
 refine RA.loop hd (fun kk_ τ n' D => ∃ i : Nat,  kk_ = ((K + M) - i) ∧ (n1 + 1) ≤ n' ∧ Has τ [(3, (.int .i64 (((szs (((ws.take K) ++ L2).take i)) : Nat) : Int))), (17, (.slice (some ⟨n1, 0, none⟩) (K + M) 2)), (18, (.int .i64 (((K + M) : Nat) : Int))), (19, (.int .i64 ((i : Nat) : Int)))] ∧ D = [(n1, some (oMsg ((ws.take K) ++ L2)))] ∧ (∀ i ∈ keys D, i < n') ∧ i ≤ (K + M)) (((K + M) - 0)) ⟨0, rfl, by omega, ⟨(by show Value.int _ _ = Value.int _ _; simp [szs]), rfl, rfl, rfl, trivial⟩, rfl, (kb1 (by omega)), by omega⟩ ?_
 rintro kn2 τ2 n2 _ ⟨i, rfl, hn2, hHn2, rfl, hKn2, hIn2⟩
 rw [Has.eq hHn2]
 have hKn2_0 : n1 < n2 := hKn2 _ (by simp only [keys, List.map_cons, List.map_nil, List.mem_cons, true_or, or_true])
 simp only [keys, List.map, List.forall_mem_cons, List.mem_cons, List.not_mem_nil, false_imp_iff, implies_true, and_true] at hKn2
 refine RA.seq hd ?_
 refine RA.region env_ok ?_
 by_cases hc1 : ((i : Nat) : Int) < (((K + M) : Nat) : Int)
 ·
  have hsi := szs_snoc (l := ((ws.take K) ++ L2)) (i := i) (by omega)
  have hse := szs_le (l := ((ws.take K) ++ L2)) (i := i + 1)
  refine OA.p (some 20) (.bool true) rfl rfl rfl (Eq.trans (r_bin rfl rfl rfl (b_lss rfl)) (dT hc1)) ?_
  refine OA.nil ?_
  intro _
  refine RA.seq hd ?_
  refine RA.condT rfl ?_
  refine RA.skip env_ok ?_
  intro _
  refine RA.seq hd ?_
  refine RA.block ?_
  refine RA.seq hd ?_
  refine RA.region env_ok ?_
  refine OA.p (some 21) (Pt n1 i 0) rfl rfl rfl (r_iaS (l := i) rfl rfl rfl rfl rfl rfl (by omega) (by omega) get_here rfl (by omega)) ?_
  refine OA.p (some 22) (.agg ⟨(cMsg (((ws.take K) ++ L2).getD i dMsg))⟩) rfl rfl rfl (r_loadR (c := cMsg) dMsg rfl rfl rfl rfl get_here (by have := (show ((ws.take K) ++ L2).length = (K + M) from by simp only [List.length_append, List.length_take, List.length_drop, hL2]; omega); omega) rfl) ?_
  refine OA.op1 (dst := (some 5)) (v := (Pt n2 0 0)) (n1 := (n2 + 1)) (w := (n2, some ⟨[[(.int .i64 0), (.int .i64 0), (.bool false), (.int .u32 0), (.string ByteArray.empty)]], 5, 29, true⟩)) rfl rfl rfl rfl (by omega) ?_
  refine OA.op1 (dst := none) (v := (.tuple #[])) (n1 := (n2 + 1)) (w := (n2, some ⟨[(cMsg (((ws.take K) ++ L2).getD i dMsg))], 5, 29, true⟩)) rfl rfl rfl (r_store rfl rfl rfl rfl rfl rfl rfl get_here rfl rfl (Nat.le_of_ble_eq_true rfl) rfl) (by omega) ?_
  refine OA.nil ?_
  intro _
  refine RA.region env_ok ?_
  refine OA.p (some 23) (.int .i64 (((szs (((ws.take K) ++ L2).take i)) : Nat) : Int)) rfl rfl rfl rfl ?_
  refine OA.p (some 24) (Pt n2 0 4) rfl rfl rfl rfl ?_
  refine OA.p (some 25) (.string (((ws.take K) ++ L2).getD i dMsg).data) rfl rfl rfl (r_load1 rfl rfl rfl rfl rfl get_here rfl rfl) ?_
  refine OA.p (some 26) (.int .i64 (((((ws.take K) ++ L2).getD i dMsg).data.size : Nat) : Int)) rfl rfl rfl rfl ?_
  refine OA.p (some 27) (.int .i64 ((((szs (((ws.take K) ++ L2).take i)) + (((ws.take K) ++ L2).getD i dMsg).data.size) : Nat) : Int)) rfl rfl rfl (r_bin rfl rfl rfl (b_add (i64_eq (by omega)))) ?_
  refine OA.p (some 3) (.int .i64 ((((szs (((ws.take K) ++ L2).take i)) + (((ws.take K) ++ L2).getD i dMsg).data.size) : Nat) : Int)) rfl rfl rfl rfl ?_
  refine OA.nil ?_
  intro _
  refine RA.region env_ok ?_
  refine OA.p (some 28) (.int .i64 (((i + 1) : Nat) : Int)) rfl rfl rfl (r_bin rfl rfl rfl (b_add (i64_eq (by omega)))) ?_
  refine OA.p (some 19) (.int .i64 (((i + 1) : Nat) : Int)) rfl rfl rfl rfl ?_
  refine OA.nil ?_
  refine ⟨((K + M) - (i + 1)), by omega, [(n1, some (oMsg ((ws.take K) ++ L2)))], (Less.of (fac (mm (fun _ => get_here) (fun _ => (gt2 (by omega) get_here))) fan) (gone_of (by simp only [goneP, memP, List.cons_append, List.nil_append, true_or, or_true, true_and, and_true, or_false] <;> omega))), (i + 1), rfl, by omega, ⟨(by show Value.int _ _ = Value.int _ _; rw [szs_snoc (by omega)]), rfl, rfl, rfl, trivial⟩, rfl, (kb1 (by omega)), by omega⟩
 ·
  refine OA.p (some 20) (.bool false) rfl rfl rfl (Eq.trans (r_bin rfl rfl rfl (b_lss rfl)) (dF hc1)) ?_
  refine OA.nil ?_
  intro _
  refine RA.seq hd ?_
  refine RA.condF rfl ?_
  refine RA.exit env_ok ?_
  intro _
  refine RA.seq hd ?_
  refine RA.region env_ok ?_
  refine OA.p (some 29) (.int .i64 (((szs (((ws.take K) ++ L2).take i)) : Nat) : Int)) rfl rfl rfl rfl ?_
  refine OA.p (some 2) (.int .i64 (((szs (((ws.take K) ++ L2).take i)) : Nat) : Int)) rfl rfl rfl rfl ?_
  refine OA.nil ?_
  intro _
  refine RA.ret env_ok ?_
  refine ⟨.inr rfl, [(.int .i64 (((szs (((ws.take K) ++ L2).take i)) : Nat) : Int))], (resL_cons rfl resL_nil), (by show Value.int _ _ = Value.int _ _; rw [szs_all (by omega), hXe, szs_app]), (kc1 (by omega))⟩

theorem pNewD {n : Nat} {σ : Store} (hd : Dom n σ) (m : Nat) (hm : m ≤ 31)   : CQ Try.prog noDen 13 [(.int .i64 ((m : Nat) : Int))] n σ (fun v n' d => ∃ i j, n ≤ i ∧ i < n' ∧ n ≤ j ∧ j < n' ∧ i ≠ j ∧ v = .pointer (some ⟨i, 0, some 0⟩) ∧ d = [(i, some ⟨[[(.slice (some ⟨j, 0, none⟩) (min (max m 1) 16) 0), (.slice none 0 0), (.slice none 0 0)]], 3, 101, true⟩), (j, some (oUx (List.replicate (min (max m 1) 16) dUx)))]) := by
 refine CQ.body (E := env) env_ok hd rfl rfl (by show _ ≤ _; exact of_decide_eq_true (by kernel_rfl)) ?_
 refine RA.seq hd ?_
 refine RA.region env_ok ?_
 refine OA.p (some 2) (.pointer none) rfl rfl rfl rfl ?_
 refine OA.nil ?_
 intro _
 refine RA.seq hd ?_
 refine RA.region env_ok ?_
 refine OA.p (some 3) (.int .i64 ((m : Nat) : Int)) rfl rfl rfl rfl ?_
 refine OA.p (some 4) (.int .i64 (((max m 1) : Nat) : Int)) rfl rfl rfl (r_max (a := m) (b := 1) rfl rfl rfl) ?_
 refine OA.p (some 5) (.int .i64 (((min (max m 1) 16) : Nat) : Int)) rfl rfl rfl (r_min (a := (max m 1)) (b := 16) rfl rfl rfl) ?_
 refine OA.op1 (dst := (some 6)) (v := (.slice (some ⟨n, 0, none⟩) (min (max m 1) 16) 0)) (n1 := (n + 1)) (w := (n, some (oUx (List.replicate (min (max m 1) 16) dUx)))) rfl rfl rfl (r_makeR (c := cUx) (z := dUx) (K := (min (max m 1) 16)) rfl rfl rfl rfl rfl rfl rfl (by decide) rfl rfl (of_decide_eq_true (by kernel_rfl)) (by omega)) (by omega) ?_
 refine OA.p (some 7) (.agg ⟨[(.slice (some ⟨n, 0, none⟩) (min (max m 1) 16) 0), (.slice none 0 0), (.slice none 0 0)]⟩) rfl rfl rfl (by kernel_rfl) ?_
 refine OA.op1 (dst := (some 8)) (v := (.pointer (some ⟨(n + 1), 0, some 0⟩))) (n1 := (n + 2)) (w := ((n + 1), some ⟨[[(.slice (some ⟨n, 0, none⟩) (min (max m 1) 16) 0), (.slice none 0 0), (.slice none 0 0)]], 3, 101, true⟩)) rfl rfl rfl rfl (by omega) ?_
 refine OA.p (some 2) (.pointer (some ⟨(n + 1), 0, some 0⟩)) rfl rfl rfl rfl ?_
 refine OA.nil ?_
 intro _
 refine RA.ret env_ok ?_
 refine ⟨.inr rfl, [(.pointer (some ⟨(n + 1), 0, some 0⟩))], (resL_cons rfl resL_nil), [((n + 1), some ⟨[[(.slice (some ⟨n, 0, none⟩) (min (max m 1) 16) 0), (.slice none 0 0), (.slice none 0 0)]], 3, 101, true⟩), (n, some (oUx (List.replicate (min (max m 1) 16) dUx)))], (Less.refl _ _ _), ⟨(n + 1), n, by omega, by omega, by omega, by omega, by omega, rfl, rfl⟩⟩
end Go.Proofs.Ytmepflkodjdgdaa.Vt
