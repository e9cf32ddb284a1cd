/- Np2: walks through functions of the program, by the calculus; written by a program of this workplace. -/
import Derived.Test.YtnjknabighmedaaNp1
import Derived.Test.YtnjknabighmedaaVm5
namespace Go.Proofs.Ytnjknabighmedaa.Vt
open Go Go.Proofs Go.Proofs.YtnjknabighmedaaV
set_option maxRecDepth 100000
set_option linter.unusedVariables false
set_option linter.unusedSimpArgs false
abbrev xNp21 (l : List Item) (a : Nat) : List Value := [(.int .i64 (l.getD a dItem).leg), (.int .i64 (l.getD a dItem).nat), (W (l.getD a dItem).fr), (W (l.getD a dItem).to), (.string (l.getD a dItem).s), (.bool (l.getD a dItem).bent)]
abbrev xNp22 : List Value := [(.int .i64 0), (.int .i64 0), (.int .u32 0), (.int .u32 0), (.string ByteArray.empty), (.bool false)]
theorem nNew {n : Nat} {σ : Store} (hd : Dom n σ)    : CQ Try.prog noDen 27 [] n σ (fun v n' d => ∃ i, n ≤ i ∧ i < n' ∧ v = .pointer (some ⟨i, 0, some 0⟩) ∧ d = [(i, some ⟨[[(.slice none 0 0), (.int .i64 0)]], 2, 115, true⟩)]) := by
 refine CQ.body (E := env) env_ok hd rfl rfl (by show _ ≤ _; exact of_decide_eq_true (by kernel_rfl)) ?_
 refine RA.seq hd ?_
 refine RA.region env_ok ?_
 refine OA.p (some 0) (.pointer none) rfl rfl rfl rfl ?_
 refine OA.nil ?_
 intro _
 refine RA.seq hd ?_
 refine RA.region env_ok ?_
 refine OA.p (some 1) (.agg ⟨[(.slice none 0 0), (.int .i64 0)]⟩) rfl rfl rfl (by kernel_rfl) ?_
 refine OA.op1 (dst := (some 2)) (v := (Pt n 0 0)) (n1 := (n + 1)) (w := (n, some ⟨[[(.slice none 0 0), (.int .i64 0)]], 2, 115, true⟩)) rfl rfl rfl rfl (by omega) ?_
 refine OA.p (some 0) (Pt n 0 0) rfl rfl rfl rfl ?_
 refine OA.nil ?_
 intro _
 refine RA.ret env_ok ?_
 refine ⟨.inr rfl, [(Pt n 0 0)], (resL_cons rfl resL_nil), [(n, some ⟨[[(.slice none 0 0), (.int .i64 0)]], 2, 115, true⟩)], (Less.refl _ _ _), ⟨n, by omega, by omega, rfl, rfl⟩⟩

theorem nLenA {σ : Store} (q : Nat) (hq : σ q = some ⟨[[(.slice none 0 0), (.int .i64 0)]], 2, 115, true⟩)  : PS Try.prog noDen 31 [(Pt q 0 0)] σ (.int .i64 0) := by
 refine PS.body (E := env) env_ok rfl rfl (by show _ ≤ _; exact of_decide_eq_true (by kernel_rfl)) (fun n hd => ?_)
 have lhq := hd.lt hq
 refine RA.seq hd ?_
 refine RA.region env_ok ?_
 refine OA.p (some 2) (.int .i64 0) rfl rfl rfl rfl ?_
 refine OA.nil ?_
 intro _
 refine RA.seq hd ?_
 refine RA.seq hd ?_
 refine RA.region env_ok ?_
 refine OA.p (some 3) (Pt q 0 0) rfl rfl rfl rfl ?_
 refine OA.p (some 4) (.bool false) rfl rfl rfl rfl ?_
 refine OA.nil ?_
 intro _
 refine RA.condF rfl ?_
 refine RA.skip env_ok ?_
 intro _
 refine RA.seq hd ?_
 refine RA.region env_ok ?_
 refine OA.p (some 5) (Pt q 0 0) rfl rfl rfl rfl ?_
 refine OA.p (some 6) (Pt q 0 0) rfl rfl rfl rfl ?_
 refine OA.p (some 7) (Pt q 0 0) rfl rfl rfl rfl ?_
 refine OA.p (some 8) (.slice none 0 0) rfl rfl rfl (r_load1 rfl rfl rfl rfl rfl hq rfl rfl) ?_
 refine OA.p (some 9) (.int .i64 0) rfl rfl rfl rfl ?_
 refine OA.p (some 2) (.int .i64 0) rfl rfl rfl rfl ?_
 refine OA.nil ?_
 intro _
 refine RA.ret env_ok ?_
 refine ⟨.inr rfl, [(.int .i64 0)], (resL_cons rfl resL_nil), rfl, (fun i hi => by cases hi)⟩

theorem nFullA {σ : Store} (q : Nat) (hq : σ q = some ⟨[[(.slice none 0 0), (.int .i64 0)]], 2, 115, true⟩)  : PS Try.prog noDen 32 [(Pt q 0 0)] σ (.int .i64 0) := by
 refine PS.body (E := env) env_ok rfl rfl (by show _ ≤ _; exact of_decide_eq_true (by kernel_rfl)) (fun n hd => ?_)
 have lhq := hd.lt hq
 refine RA.seq hd ?_
 refine RA.region env_ok ?_
 refine OA.p (some 2) (.int .i64 0) rfl rfl rfl rfl ?_
 refine OA.nil ?_
 intro _
 refine RA.seq hd ?_
 refine RA.seq hd ?_
 refine RA.region env_ok ?_
 refine OA.p (some 3) (Pt q 0 0) rfl rfl rfl rfl ?_
 refine OA.p (some 4) (.bool false) rfl rfl rfl rfl ?_
 refine OA.nil ?_
 intro _
 refine RA.condF rfl ?_
 refine RA.skip env_ok ?_
 intro _
 refine RA.seq hd ?_
 refine RA.region env_ok ?_
 refine OA.p (some 5) (Pt q 0 0) rfl rfl rfl rfl ?_
 refine OA.p (some 6) (Pt q 0 0) rfl rfl rfl rfl ?_
 refine OA.p (some 7) (Pt q 0 1) rfl rfl rfl rfl ?_
 refine OA.p (some 8) (.int .i64 0) rfl rfl rfl (r_load1 rfl rfl rfl rfl rfl hq rfl rfl) ?_
 refine OA.p (some 2) (.int .i64 0) rfl rfl rfl rfl ?_
 refine OA.nil ?_
 intro _
 refine RA.ret env_ok ?_
 refine ⟨.inr rfl, [(.int .i64 0)], (resL_cons rfl resL_nil), rfl, (fun i hi => by cases hi)⟩

theorem nLenB {σ : Store} (q j N : Nat) (hq : σ q = some ⟨[[(.slice (some ⟨j, 0, none⟩) N 0), (.int .i64 0)]], 2, 115, true⟩)  : PS Try.prog noDen 31 [(Pt q 0 0)] σ (.int .i64 ((N : Nat) : Int)) := by
 refine PS.body (E := env) env_ok rfl rfl (by show _ ≤ _; exact of_decide_eq_true (by kernel_rfl)) (fun n hd => ?_)
 have lhq := hd.lt hq
 refine RA.seq hd ?_
 refine RA.region env_ok ?_
 refine OA.p (some 2) (.int .i64 0) rfl rfl rfl rfl ?_
 refine OA.nil ?_
 intro _
 refine RA.seq hd ?_
 refine RA.seq hd ?_
 refine RA.region env_ok ?_
 refine OA.p (some 3) (Pt q 0 0) rfl rfl rfl rfl ?_
 refine OA.p (some 4) (.bool false) rfl rfl rfl rfl ?_
 refine OA.nil ?_
 intro _
 refine RA.condF rfl ?_
 refine RA.skip env_ok ?_
 intro _
 refine RA.seq hd ?_
 refine RA.region env_ok ?_
 refine OA.p (some 5) (Pt q 0 0) rfl rfl rfl rfl ?_
 refine OA.p (some 6) (Pt q 0 0) rfl rfl rfl rfl ?_
 refine OA.p (some 7) (Pt q 0 0) rfl rfl rfl rfl ?_
 refine OA.p (some 8) (.slice (some ⟨j, 0, none⟩) N 0) rfl rfl rfl (r_load1 rfl rfl rfl rfl rfl hq rfl rfl) ?_
 refine OA.p (some 9) (.int .i64 ((N : Nat) : Int)) rfl rfl rfl rfl ?_
 refine OA.p (some 2) (.int .i64 ((N : Nat) : Int)) rfl rfl rfl rfl ?_
 refine OA.nil ?_
 intro _
 refine RA.ret env_ok ?_
 refine ⟨.inr rfl, [(.int .i64 ((N : Nat) : Int))], (resL_cons rfl resL_nil), rfl, (fun i hi => by cases hi)⟩

theorem nFullB {σ : Store} (q j N : Nat) (hq : σ q = some ⟨[[(.slice (some ⟨j, 0, none⟩) N 0), (.int .i64 0)]], 2, 115, true⟩)  : PS Try.prog noDen 32 [(Pt q 0 0)] σ (.int .i64 0) := by
 refine PS.body (E := env) env_ok rfl rfl (by show _ ≤ _; exact of_decide_eq_true (by kernel_rfl)) (fun n hd => ?_)
 have lhq := hd.lt hq
 refine RA.seq hd ?_
 refine RA.region env_ok ?_
 refine OA.p (some 2) (.int .i64 0) rfl rfl rfl rfl ?_
 refine OA.nil ?_
 intro _
 refine RA.seq hd ?_
 refine RA.seq hd ?_
 refine RA.region env_ok ?_
 refine OA.p (some 3) (Pt q 0 0) rfl rfl rfl rfl ?_
 refine OA.p (some 4) (.bool false) rfl rfl rfl rfl ?_
 refine OA.nil ?_
 intro _
 refine RA.condF rfl ?_
 refine RA.skip env_ok ?_
 intro _
 refine RA.seq hd ?_
 refine RA.region env_ok ?_
 refine OA.p (some 5) (Pt q 0 0) rfl rfl rfl rfl ?_
 refine OA.p (some 6) (Pt q 0 0) rfl rfl rfl rfl ?_
 refine OA.p (some 7) (Pt q 0 1) rfl rfl rfl rfl ?_
 refine OA.p (some 8) (.int .i64 0) rfl rfl rfl (r_load1 rfl rfl rfl rfl rfl hq rfl rfl) ?_
 refine OA.p (some 2) (.int .i64 0) rfl rfl rfl rfl ?_
 refine OA.nil ?_
 intro _
 refine RA.ret env_ok ?_
 refine ⟨.inr rfl, [(.int .i64 0)], (resL_cons rfl resL_nil), rfl, (fun i hi => by cases hi)⟩

theorem nPutA {n : Nat} {σ : Store} (hd : Dom n σ) (q : Nat) (x : Item) (hq : σ q = some ⟨[[(.slice none 0 0), (.int .i64 0)]], 2, 115, true⟩)  : CQ Try.prog noDen 28 [(Pt q 0 0), (.agg ⟨(cItem x)⟩)] n σ (fun v n' d => ∃ i, n ≤ i ∧ i < n' ∧ v = .bool true ∧ d = [(q, some ⟨[[(.slice (some ⟨i, 0, none⟩) 1 0), (.int .i64 0)]], 2, 115, true⟩), (i, some (oItem [x]))]) := by
 have lhq := hd.lt hq
 refine CQ.body (E := env) env_ok hd rfl rfl (by show _ ≤ _; exact of_decide_eq_true (by kernel_rfl)) ?_
 refine RA.seq hd ?_
 refine RA.region env_ok ?_
 refine OA.op1 (dst := (some 3)) (v := (Pt n 0 0)) (n1 := (n + 1)) (w := (n, some ⟨[(cItem x)], 6, 59, true⟩)) rfl rfl rfl rfl (by omega) ?_
 refine OA.p (some 4) (.bool false) rfl rfl rfl rfl ?_
 refine OA.nil ?_
 intro _
 refine RA.seq hd ?_
 refine RA.seq hd ?_
 refine RA.region env_ok ?_
 refine OA.p (some 5) (Pt q 0 0) rfl rfl rfl rfl ?_
 refine OA.p (some 6) (.bool false) rfl rfl rfl rfl ?_
 refine OA.nil ?_
 intro _
 refine RA.condF rfl ?_
 refine RA.skip env_ok ?_
 intro _
 refine RA.seq hd ?_
 refine RA.seq hd ?_
 refine RA.region env_ok ?_
 refine OA.p (some 7) (Pt q 0 0) rfl rfl rfl rfl ?_
 refine OA.p (some 8) (Pt q 0 0) rfl rfl rfl rfl ?_
 refine OA.p (some 9) (Pt q 0 0) rfl rfl rfl rfl ?_
 refine OA.p (some 10) (.slice none 0 0) rfl rfl rfl (r_load1 rfl rfl rfl rfl rfl (get_there (by omega) hq) rfl rfl) ?_
 refine OA.p (some 11) (.int .i64 0) rfl rfl rfl rfl ?_
 refine OA.p (some 12) (.bool false) rfl rfl rfl (r_bin rfl rfl rfl (b_geq rfl)) ?_
 refine OA.nil ?_
 intro _
 refine RA.condF rfl ?_
 refine RA.skip env_ok ?_
 intro _
 refine RA.seq hd ?_
 refine RA.par (md := [some [], some [], some [], some [], some [q], some [n], some [], none, some [], some [], none]) env_ok (hd.of (by omega) (kb1 (by omega))) (by kernel_rfl) ?_
 refine PQ.pure (dst := (some 20)) (v := (Pt q 0 0)) rfl rfl rfl noStore (none_ok _ _) rfl ?_
 refine PQ.pure (dst := (some 21)) (v := (Pt q 0 0)) rfl rfl rfl noStore (none_ok _ _) rfl ?_
 refine PQ.pure (dst := (some 22)) (v := (Pt q 0 0)) rfl rfl rfl noStore (none_ok _ _) rfl ?_
 refine PQ.pure (dst := (some 23)) (v := (Pt q 0 0)) rfl rfl rfl noStore (none_ok _ _) rfl ?_
 refine PQ.pure (dst := (some 24)) (v := (.slice none 0 0)) rfl rfl rfl (app [(q, some ⟨[[(.slice none 0 0), (.int .i64 0)]], 2, 115, true⟩)] noStore) (seen_one (V := []) (D := [(n, some ⟨[(cItem x)], 6, 59, true⟩)]) (by kernel_rfl) (get_there (by omega) hq)) (r_load1 rfl rfl rfl rfl rfl get_here rfl rfl) ?_
 refine PQ.pure (dst := (some 25)) (v := (.agg ⟨[(.int .i64 x.leg), (.int .i64 x.nat), (W x.fr), (W x.to), (.string x.s), (.bool x.bent)]⟩)) rfl rfl rfl (app [(n, some ⟨[(cItem x)], 6, 59, true⟩)] noStore) (seen_one (V := []) (D := [(n, some ⟨[(cItem x)], 6, 59, true⟩)]) (by kernel_rfl) get_here) (r_loadA rfl rfl rfl rfl get_here rfl rfl rfl) ?_
 refine PQ.op (dst := (some 26)) (v := (.slice (some ⟨(n + 1), 0, none⟩) 1 0)) (n1 := (n + 2)) (d1 := [((n + 1), some ⟨[[(.int .i64 x.leg), (.int .i64 x.nat), (W x.fr), (W x.to), (.string x.s), (.bool x.bent)]], 6, 59, true⟩)]) rfl rfl rfl noStore (none_ok _ _) (by kernel_rfl) (by omega) (kp1 (wr_new (by omega) (by omega))) ?_
 refine PQ.op (dst := (some 27)) (v := (.slice (some ⟨(n + 2), 0, none⟩) 1 0)) (n1 := (n + 3)) (d1 := [((n + 2), some (oItem [x]))]) rfl rfl rfl _ (seen_any (V := [((n + 1), some ⟨[[(.int .i64 x.leg), (.int .i64 x.nat), (W x.fr), (W x.to), (.string x.s), (.bool x.bent)]], 6, 59, true⟩)]) (D := [(n, some ⟨[(cItem x)], 6, 59, true⟩)]) (by kernel_rfl)) (r_append0R (c := cItem) (x := x) rfl rfl rfl rfl rfl rfl rfl rfl rfl rfl (by decide) get_here (of_decide_eq_true (by kernel_rfl))) (by omega) (kp1 (wr_new (by omega) (by omega))) ?_
 refine PQ.pure (dst := (some 28)) (v := (Pt q 0 0)) rfl rfl rfl noStore (none_ok _ _) rfl ?_
 refine PQ.pure (dst := (some 29)) (v := (Pt q 0 0)) rfl rfl rfl noStore (none_ok _ _) rfl ?_
 refine PQ.op (dst := none) (v := (.tuple #[])) (n1 := (n + 3)) (d1 := [(q, some ⟨[[(.slice (some ⟨(n + 2), 0, none⟩) 1 0), (.int .i64 0)]], 2, 115, true⟩)]) rfl rfl rfl _ (seen_any (V := [((n + 2), some (oItem [x])), ((n + 1), some ⟨[[(.int .i64 x.leg), (.int .i64 x.nat), (W x.fr), (W x.to), (.string x.s), (.bool x.bent)]], 6, 59, true⟩)]) (D := [(n, some ⟨[(cItem x)], 6, 59, true⟩)]) (by kernel_rfl)) (r_store rfl rfl rfl rfl rfl rfl rfl (gt3 (by omega) hq) rfl rfl (Nat.le_of_ble_eq_true rfl) rfl) (by omega) (kp1 (wr_tight (by kernel_rfl) (by omega))) ?_
 refine PQ.done (d := [(q, some ⟨[[(.slice (some ⟨(n + 2), 0, none⟩) 1 0), (.int .i64 0)]], 2, 115, true⟩), ((n + 2), some (oItem [x])), ((n + 1), some ⟨[[(.int .i64 x.leg), (.int .i64 x.nat), (W x.fr), (W x.to), (.string x.s), (.bool x.bent)]], 6, 59, true⟩)]) (by kernel_rfl) ?_
 intro _
 refine RA.seq hd ?_
 refine RA.region env_ok ?_
 refine OA.p (some 4) (.bool true) rfl rfl rfl rfl ?_
 refine OA.nil ?_
 intro _
 refine RA.ret env_ok ?_
 refine ⟨.inr rfl, [(.bool true)], (resL_cons rfl resL_nil), [(q, some ⟨[[(.slice (some ⟨(n + 2), 0, none⟩) 1 0), (.int .i64 0)]], 2, 115, true⟩), ((n + 2), some (oItem [x]))], (Less.of (fac (mm (fun _ => get_here) (fun _ => get_here)) (fac (mm (fun _ => (get_there (by omega) get_here)) (fun _ => (get_there (by omega) get_here))) fan)) (gone_of (by simp only [goneP, memP, List.cons_append, List.nil_append, true_or, or_true, true_and, and_true, or_false] <;> omega))), ⟨(n + 2), by omega, by omega, rfl, rfl⟩⟩

theorem nPutB {n : Nat} {σ : Store} (hd : Dom n σ) (q j N : Nat) (l : List Item) (hl : l.length = N) (hN : N ≤ 200) (hqj : q ≠ j) (x : Item) (hq : σ q = some ⟨[[(.slice (some ⟨j, 0, none⟩) N 0), (.int .i64 0)]], 2, 115, true⟩) (hj : σ j = some (oItem l))  : CQ Try.prog noDen 28 [(Pt q 0 0), (.agg ⟨(cItem x)⟩)] n σ (fun v n' d => ∃ i, n ≤ i ∧ i < n' ∧ v = .bool true ∧ d = [(q, some ⟨[[(.slice (some ⟨i, 0, none⟩) (N + 1) 0), (.int .i64 0)]], 2, 115, true⟩), (i, some (oItem (l ++ [x]))), (j, none)]) := by
 have lhq := hd.lt hq
 have lhj := hd.lt hj
 refine CQ.body (E := env) env_ok hd rfl rfl (by show _ ≤ _; exact of_decide_eq_true (by kernel_rfl)) ?_
 refine RA.seq hd ?_
 refine RA.region env_ok ?_
 refine OA.op1 (dst := (some 3)) (v := (Pt n 0 0)) (n1 := (n + 1)) (w := (n, some ⟨[(cItem x)], 6, 59, true⟩)) rfl rfl rfl rfl (by omega) ?_
 refine OA.p (some 4) (.bool false) rfl rfl rfl rfl ?_
 refine OA.nil ?_
 intro _
 refine RA.seq hd ?_
 refine RA.seq hd ?_
 refine RA.region env_ok ?_
 refine OA.p (some 5) (Pt q 0 0) rfl rfl rfl rfl ?_
 refine OA.p (some 6) (.bool false) rfl rfl rfl rfl ?_
 refine OA.nil ?_
 intro _
 refine RA.condF rfl ?_
 refine RA.skip env_ok ?_
 intro _
 refine RA.seq hd ?_
 refine RA.seq hd ?_
 refine RA.region env_ok ?_
 refine OA.p (some 7) (Pt q 0 0) rfl rfl rfl rfl ?_
 refine OA.p (some 8) (Pt q 0 0) rfl rfl rfl rfl ?_
 refine OA.p (some 9) (Pt q 0 0) rfl rfl rfl rfl ?_
 refine OA.p (some 10) (.slice (some ⟨j, 0, none⟩) N 0) rfl rfl rfl (r_load1 rfl rfl rfl rfl rfl (get_there (by omega) hq) rfl rfl) ?_
 refine OA.p (some 11) (.int .i64 ((N : Nat) : Int)) rfl rfl rfl rfl ?_
 have hc1 : ¬ (300 ≤ ((N : Nat) : Int)) := fun hdd => by exfalso; omega
 refine OA.p (some 12) (.bool false) rfl rfl rfl (Eq.trans (r_bin rfl rfl rfl (b_geq rfl)) (dF hc1)) ?_
 refine OA.nil ?_
 intro _
 refine RA.condF rfl ?_
 refine RA.skip env_ok ?_
 intro _
 refine RA.seq hd ?_
 refine RA.par (md := [some [], some [], some [], some [], some [q], some [n], some [], none, some [], some [], none]) env_ok (hd.of (by omega) (kb1 (by omega))) (by kernel_rfl) ?_
 refine PQ.pure (dst := (some 20)) (v := (Pt q 0 0)) rfl rfl rfl noStore (none_ok _ _) rfl ?_
 refine PQ.pure (dst := (some 21)) (v := (Pt q 0 0)) rfl rfl rfl noStore (none_ok _ _) rfl ?_
 refine PQ.pure (dst := (some 22)) (v := (Pt q 0 0)) rfl rfl rfl noStore (none_ok _ _) rfl ?_
 refine PQ.pure (dst := (some 23)) (v := (Pt q 0 0)) rfl rfl rfl noStore (none_ok _ _) rfl ?_
 refine PQ.pure (dst := (some 24)) (v := (.slice (some ⟨j, 0, none⟩) N 0)) rfl rfl rfl (app [(q, some ⟨[[(.slice (some ⟨j, 0, none⟩) N 0), (.int .i64 0)]], 2, 115, true⟩)] noStore) (seen_one (V := []) (D := [(n, some ⟨[(cItem x)], 6, 59, true⟩)]) (by kernel_rfl) (get_there (by omega) hq)) (r_load1 rfl rfl rfl rfl rfl get_here rfl rfl) ?_
 refine PQ.pure (dst := (some 25)) (v := (.agg ⟨[(.int .i64 x.leg), (.int .i64 x.nat), (W x.fr), (W x.to), (.string x.s), (.bool x.bent)]⟩)) rfl rfl rfl (app [(n, some ⟨[(cItem x)], 6, 59, true⟩)] noStore) (seen_one (V := []) (D := [(n, some ⟨[(cItem x)], 6, 59, true⟩)]) (by kernel_rfl) get_here) (r_loadA rfl rfl rfl rfl get_here rfl rfl rfl) ?_
 refine PQ.op (dst := (some 26)) (v := (.slice (some ⟨(n + 1), 0, none⟩) 1 0)) (n1 := (n + 2)) (d1 := [((n + 1), some ⟨[[(.int .i64 x.leg), (.int .i64 x.nat), (W x.fr), (W x.to), (.string x.s), (.bool x.bent)]], 6, 59, true⟩)]) rfl rfl rfl noStore (none_ok _ _) (by kernel_rfl) (by omega) (kp1 (wr_new (by omega) (by omega))) ?_
 refine PQ.op (dst := (some 27)) (v := (.slice (some ⟨(n + 2), 0, none⟩) (N + 1) 0)) (n1 := (n + 3)) (d1 := [((n + 2), some (oItem (l ++ [x]))), (j, none)]) rfl rfl rfl _ (seen_any (V := [((n + 1), some ⟨[[(.int .i64 x.leg), (.int .i64 x.nat), (W x.fr), (W x.to), (.string x.s), (.bool x.bent)]], 6, 59, true⟩)]) (D := [(n, some ⟨[(cItem x)], 6, 59, true⟩)]) (by kernel_rfl)) (r_appendR (c := cItem) (l' := (l ++ [x])) rfl rfl rfl rfl rfl rfl rfl rfl rfl rfl (by decide) (gt2 (by omega) hj) get_here (by rw [hl]) (mp_snoc (c := cItem) (x := x)) (by omega) (of_decide_eq_true (by kernel_rfl)) (by omega)) (by omega) (kp2 (wr_new (by omega) (by omega)) (wr_old [0] (by kernel_rfl) (by omega) (by omega) (fac (lo0 rfl) fan))) ?_
 refine PQ.pure (dst := (some 28)) (v := (Pt q 0 0)) rfl rfl rfl noStore (none_ok _ _) rfl ?_
 refine PQ.pure (dst := (some 29)) (v := (Pt q 0 0)) rfl rfl rfl noStore (none_ok _ _) rfl ?_
 refine PQ.op (dst := none) (v := (.tuple #[])) (n1 := (n + 3)) (d1 := [(q, some ⟨[[(.slice (some ⟨(n + 2), 0, none⟩) (N + 1) 0), (.int .i64 0)]], 2, 115, true⟩)]) rfl rfl rfl _ (seen_any (V := [((n + 2), some (oItem (l ++ [x]))), (j, none), ((n + 1), some ⟨[[(.int .i64 x.leg), (.int .i64 x.nat), (W x.fr), (W x.to), (.string x.s), (.bool x.bent)]], 6, 59, true⟩)]) (D := [(n, some ⟨[(cItem x)], 6, 59, true⟩)]) (by kernel_rfl)) (r_store rfl rfl rfl rfl rfl rfl rfl (gt4 (by omega) hq) rfl rfl (Nat.le_of_ble_eq_true rfl) rfl) (by omega) (kp1 (wr_tight (by kernel_rfl) (by omega))) ?_
 refine PQ.done (d := [(q, some ⟨[[(.slice (some ⟨(n + 2), 0, none⟩) (N + 1) 0), (.int .i64 0)]], 2, 115, true⟩), ((n + 2), some (oItem (l ++ [x]))), (j, none), ((n + 1), some ⟨[[(.int .i64 x.leg), (.int .i64 x.nat), (W x.fr), (W x.to), (.string x.s), (.bool x.bent)]], 6, 59, true⟩)]) (by kernel_rfl) ?_
 intro _
 refine RA.seq hd ?_
 refine RA.region env_ok ?_
 refine OA.p (some 4) (.bool true) rfl rfl rfl rfl ?_
 refine OA.nil ?_
 intro _
 refine RA.ret env_ok ?_
 refine ⟨.inr rfl, [(.bool true)], (resL_cons rfl resL_nil), [(q, some ⟨[[(.slice (some ⟨(n + 2), 0, none⟩) (N + 1) 0), (.int .i64 0)]], 2, 115, true⟩), ((n + 2), some (oItem (l ++ [x]))), (j, none)], (Less.of (fac (mm (fun _ => get_here) (fun _ => get_here)) (fac (mm (fun _ => (get_there (by omega) get_here)) (fun _ => (get_there (by omega) get_here))) (fac (mm (fun _ => (gt2 (by omega) get_here)) (fun _ => (gt2 (by omega) get_here))) fan))) (gone_of (by simp only [goneP, memP, List.cons_append, List.nil_append, true_or, or_true, true_and, and_true, or_false] <;> omega))), ⟨(n + 2), by omega, by omega, rfl, rfl⟩⟩

theorem nDoubleOA {n : Nat} {σ : Store} (hd : Dom n σ) (q : Nat) (at_ : Int) (hq : σ q = some ⟨[[(.slice none 0 0), (.int .i64 0)]], 2, 115, true⟩)  : CQ Try.prog noDen 29 [(Pt q 0 0), (.int .i64 at_)] n σ (fun v n' d => v = .bool false ∧ d = []) := by
 have lhq := hd.lt hq
 refine CQ.body (E := env) env_ok hd rfl rfl (by show _ ≤ _; exact of_decide_eq_true (by kernel_rfl)) ?_
 refine RA.seq hd ?_
 refine RA.region env_ok ?_
 refine OA.p (some 4) (.bool false) rfl rfl rfl rfl ?_
 refine OA.nil ?_
 intro _
 refine RA.seq hd ?_
 refine RA.seq hd ?_
 refine RA.region env_ok ?_
 refine OA.p (some 5) (Pt q 0 0) rfl rfl rfl rfl ?_
 refine OA.p (some 6) (.bool false) rfl rfl rfl rfl ?_
 refine OA.p (some 7) (.bool false) rfl rfl rfl rfl ?_
 refine OA.p (some 8) (.int .i64 at_) rfl rfl rfl rfl ?_
 by_cases hc1 : at_ < 0
 ·
  refine OA.p (some 9) (.bool true) rfl rfl rfl (Eq.trans (r_bin rfl rfl rfl (b_lss rfl)) (dT hc1)) ?_
  refine OA.p (some 10) (.bool true) rfl rfl rfl rfl ?_
  refine OA.p (some 11) (.bool true) rfl rfl rfl rfl ?_
  refine OA.off (dst := (some 12)) rfl rfl rfl ?_
  refine OA.off (dst := (some 13)) rfl rfl rfl ?_
  refine OA.off (dst := (some 14)) rfl rfl rfl ?_
  refine OA.off (dst := (some 15)) rfl rfl rfl ?_
  refine OA.off (dst := (some 16)) rfl rfl rfl ?_
  refine OA.off (dst := (some 17)) rfl rfl rfl ?_
  refine OA.off (dst := (some 18)) rfl rfl rfl ?_
  refine OA.p (some 19) (.bool true) rfl rfl rfl rfl ?_
  refine OA.nil ?_
  intro _
  refine RA.condT rfl ?_
  refine RA.seq hd ?_
  refine RA.region env_ok ?_
  refine OA.p (some 4) (.bool false) rfl rfl rfl rfl ?_
  refine OA.nil ?_
  intro _
  refine RA.ret env_ok ?_
  refine ⟨.inr rfl, [(.bool false)], (resL_cons rfl resL_nil), [], (Less.refl _ _ _), ⟨rfl, rfl⟩⟩
 ·
  refine OA.p (some 9) (.bool false) rfl rfl rfl (Eq.trans (r_bin rfl rfl rfl (b_lss rfl)) (dF hc1)) ?_
  refine OA.p (some 10) (.bool false) rfl rfl rfl rfl ?_
  refine OA.p (some 11) (.bool false) rfl rfl rfl rfl ?_
  refine OA.p (some 12) (.int .i64 at_) rfl rfl rfl rfl ?_
  refine OA.p (some 13) (Pt q 0 0) rfl rfl rfl rfl ?_
  refine OA.p (some 14) (Pt q 0 0) rfl rfl rfl rfl ?_
  refine OA.p (some 15) (Pt q 0 0) rfl rfl rfl rfl ?_
  refine OA.p (some 16) (.slice none 0 0) rfl rfl rfl (r_load1 rfl rfl rfl rfl rfl hq rfl rfl) ?_
  refine OA.p (some 17) (.int .i64 0) rfl rfl rfl rfl ?_
  have hc2 : 0 ≤ at_ := Classical.byContradiction (fun hdd => by exfalso; omega)
  refine OA.p (some 18) (.bool true) rfl rfl rfl (Eq.trans (r_bin rfl rfl rfl (b_geq rfl)) (dT hc2)) ?_
  refine OA.p (some 19) (.bool true) rfl rfl rfl rfl ?_
  refine OA.nil ?_
  intro _
  refine RA.condT rfl ?_
  refine RA.seq hd ?_
  refine RA.region env_ok ?_
  refine OA.p (some 4) (.bool false) rfl rfl rfl rfl ?_
  refine OA.nil ?_
  intro _
  refine RA.ret env_ok ?_
  refine ⟨.inr rfl, [(.bool false)], (resL_cons rfl resL_nil), [], (Less.refl _ _ _), ⟨rfl, rfl⟩⟩

theorem nDoubleOB {n : Nat} {σ : Store} (hd : Dom n σ) (q j N : Nat) (at_ : Int) (ha : ¬ (0 ≤ at_ ∧ at_ < (N : Int))) (hq : σ q = some ⟨[[(.slice (some ⟨j, 0, none⟩) N 0), (.int .i64 0)]], 2, 115, true⟩)  : CQ Try.prog noDen 29 [(Pt q 0 0), (.int .i64 at_)] n σ (fun v n' d => v = .bool false ∧ d = []) := by
 have lhq := hd.lt hq
 refine CQ.body (E := env) env_ok hd rfl rfl (by show _ ≤ _; exact of_decide_eq_true (by kernel_rfl)) ?_
 refine RA.seq hd ?_
 refine RA.region env_ok ?_
 refine OA.p (some 4) (.bool false) rfl rfl rfl rfl ?_
 refine OA.nil ?_
 intro _
 refine RA.seq hd ?_
 refine RA.seq hd ?_
 refine RA.region env_ok ?_
 refine OA.p (some 5) (Pt q 0 0) rfl rfl rfl rfl ?_
 refine OA.p (some 6) (.bool false) rfl rfl rfl rfl ?_
 refine OA.p (some 7) (.bool false) rfl rfl rfl rfl ?_
 refine OA.p (some 8) (.int .i64 at_) rfl rfl rfl rfl ?_
 by_cases hc1 : at_ < 0
 ·
  refine OA.p (some 9) (.bool true) rfl rfl rfl (Eq.trans (r_bin rfl rfl rfl (b_lss rfl)) (dT hc1)) ?_
  refine OA.p (some 10) (.bool true) rfl rfl rfl rfl ?_
  refine OA.p (some 11) (.bool true) rfl rfl rfl rfl ?_
  refine OA.off (dst := (some 12)) rfl rfl rfl ?_
  refine OA.off (dst := (some 13)) rfl rfl rfl ?_
  refine OA.off (dst := (some 14)) rfl rfl rfl ?_
  refine OA.off (dst := (some 15)) rfl rfl rfl ?_
  refine OA.off (dst := (some 16)) rfl rfl rfl ?_
  refine OA.off (dst := (some 17)) rfl rfl rfl ?_
  refine OA.off (dst := (some 18)) rfl rfl rfl ?_
  refine OA.p (some 19) (.bool true) rfl rfl rfl rfl ?_
  refine OA.nil ?_
  intro _
  refine RA.condT rfl ?_
  refine RA.seq hd ?_
  refine RA.region env_ok ?_
  refine OA.p (some 4) (.bool false) rfl rfl rfl rfl ?_
  refine OA.nil ?_
  intro _
  refine RA.ret env_ok ?_
  refine ⟨.inr rfl, [(.bool false)], (resL_cons rfl resL_nil), [], (Less.refl _ _ _), ⟨rfl, rfl⟩⟩
 ·
  refine OA.p (some 9) (.bool false) rfl rfl rfl (Eq.trans (r_bin rfl rfl rfl (b_lss rfl)) (dF hc1)) ?_
  refine OA.p (some 10) (.bool false) rfl rfl rfl rfl ?_
  refine OA.p (some 11) (.bool false) rfl rfl rfl rfl ?_
  refine OA.p (some 12) (.int .i64 at_) rfl rfl rfl rfl ?_
  refine OA.p (some 13) (Pt q 0 0) rfl rfl rfl rfl ?_
  refine OA.p (some 14) (Pt q 0 0) rfl rfl rfl rfl ?_
  refine OA.p (some 15) (Pt q 0 0) rfl rfl rfl rfl ?_
  refine OA.p (some 16) (.slice (some ⟨j, 0, none⟩) N 0) rfl rfl rfl (r_load1 rfl rfl rfl rfl rfl hq rfl rfl) ?_
  refine OA.p (some 17) (.int .i64 ((N : Nat) : Int)) rfl rfl rfl rfl ?_
  have hc2 : ((N : Nat) : Int) ≤ at_ := Classical.byContradiction (fun hdd => by exfalso; omega)
  refine OA.p (some 18) (.bool true) rfl rfl rfl (Eq.trans (r_bin rfl rfl rfl (b_geq rfl)) (dT hc2)) ?_
  refine OA.p (some 19) (.bool true) rfl rfl rfl rfl ?_
  refine OA.nil ?_
  intro _
  refine RA.condT rfl ?_
  refine RA.seq hd ?_
  refine RA.region env_ok ?_
  refine OA.p (some 4) (.bool false) rfl rfl rfl rfl ?_
  refine OA.nil ?_
  intro _
  refine RA.ret env_ok ?_
  refine ⟨.inr rfl, [(.bool false)], (resL_cons rfl resL_nil), [], (Less.refl _ _ _), ⟨rfl, rfl⟩⟩

theorem nDouble {n : Nat} {σ : Store} (hd : Dom n σ) (q j N : Nat) (l : List Item) (hl : l.length = N) (hN : N ≤ 200) (hqj : q ≠ j) (a : Nat) (ha : a < N) (hq : σ q = some ⟨[[(.slice (some ⟨j, 0, none⟩) N 0), (.int .i64 0)]], 2, 115, true⟩) (hj : σ j = some (oItem l))  : CQ Try.prog noDen 29 [(Pt q 0 0), (.int .i64 ((a : Nat) : Int))] n σ (fun v n' d => ∃ i, n ≤ i ∧ i < n' ∧ v = .bool true ∧ d = [(q, some ⟨[[(.slice (some ⟨i, 0, none⟩) (N + 1) 0), (.int .i64 0)]], 2, 115, true⟩), (i, some (oItem (l ++ [(l.getD a dItem)]))), (j, none)]) := by
 have lhq := hd.lt hq
 have lhj := hd.lt hj
 refine CQ.body (E := env) env_ok hd rfl rfl (by show _ ≤ _; exact of_decide_eq_true (by kernel_rfl)) ?_
 refine RA.seq hd ?_
 refine RA.region env_ok ?_
 refine OA.p (some 4) (.bool false) rfl rfl rfl rfl ?_
 refine OA.nil ?_
 intro _
 refine RA.seq hd ?_
 refine RA.seq hd ?_
 refine RA.region env_ok ?_
 refine OA.p (some 5) (Pt q 0 0) rfl rfl rfl rfl ?_
 refine OA.p (some 6) (.bool false) rfl rfl rfl rfl ?_
 refine OA.p (some 7) (.bool false) rfl rfl rfl rfl ?_
 refine OA.p (some 8) (.int .i64 ((a : Nat) : Int)) rfl rfl rfl rfl ?_
 have hc1 : ¬ (((a : Nat) : Int) < 0) := fun hdd => by exfalso; omega
 refine OA.p (some 9) (.bool false) rfl rfl rfl (Eq.trans (r_bin rfl rfl rfl (b_lss rfl)) (dF hc1)) ?_
 refine OA.p (some 10) (.bool false) rfl rfl rfl rfl ?_
 refine OA.p (some 11) (.bool false) rfl rfl rfl rfl ?_
 refine OA.p (some 12) (.int .i64 ((a : Nat) : Int)) rfl rfl rfl rfl ?_
 refine OA.p (some 13) (Pt q 0 0) rfl rfl rfl rfl ?_
 refine OA.p (some 14) (Pt q 0 0) rfl rfl rfl rfl ?_
 refine OA.p (some 15) (Pt q 0 0) rfl rfl rfl rfl ?_
 refine OA.p (some 16) (.slice (some ⟨j, 0, none⟩) N 0) rfl rfl rfl (r_load1 rfl rfl rfl rfl rfl hq rfl rfl) ?_
 refine OA.p (some 17) (.int .i64 ((N : Nat) : Int)) rfl rfl rfl rfl ?_
 have hc2 : ¬ (((N : Nat) : Int) ≤ ((a : Nat) : Int)) := fun hdd => by exfalso; omega
 refine OA.p (some 18) (.bool false) rfl rfl rfl (Eq.trans (r_bin rfl rfl rfl (b_geq rfl)) (dF hc2)) ?_
 refine OA.p (some 19) (.bool false) rfl rfl rfl rfl ?_
 refine OA.nil ?_
 intro _
 refine RA.condF rfl ?_
 refine RA.skip env_ok ?_
 intro _
 refine RA.seq hd ?_
 refine RA.region env_ok ?_
 refine OA.p (some 20) (Pt q 0 0) rfl rfl rfl rfl ?_
 refine OA.p (some 21) (Pt q 0 0) rfl rfl rfl rfl ?_
 refine OA.p (some 22) (Pt q 0 0) rfl rfl rfl rfl ?_
 refine OA.p (some 23) (Pt q 0 0) rfl rfl rfl rfl ?_
 refine OA.p (some 24) (.slice (some ⟨j, 0, none⟩) N 0) rfl rfl rfl (r_load1 rfl rfl rfl rfl rfl hq rfl rfl) ?_
 refine OA.p (some 25) (.int .i64 ((a : Nat) : Int)) rfl rfl rfl rfl ?_
 refine OA.p (some 26) (Pt j a 0) rfl rfl rfl (r_iaS (l := a) rfl rfl rfl rfl rfl rfl (by omega) (by omega) hj rfl (by omega)) ?_
 refine OA.p (some 27) (.agg ⟨(cItem (l.getD a dItem))⟩) rfl rfl rfl (r_loadR (c := cItem) dItem rfl rfl rfl rfl hj (by rw [hl]; omega) rfl) ?_
 refine OA.call (dst := (some 28)) (all := [(Pt q 0 0), (.agg ⟨(cItem (l.getD a dItem))⟩)]) rfl rfl rfl rfl rfl rfl rfl rfl (CQ.imp (nPutB (hd.up (by omega)) q j N l hl hN hqj (l.getD a dItem) hq hj) ?_)
 rintro _ n1 _ ⟨in1, hin1a, hin1b, rfl, rfl⟩ hn1
 show OA _ _ _ _ _ _ _ _ [(q, some ⟨[[(.slice (some ⟨in1, 0, none⟩) (N + 1) 0), (.int .i64 0)]], 2, 115, true⟩), (in1, some (oItem (l ++ [(l.getD a dItem)]))), (j, none)] _
 refine OA.p (some 4) (.bool true) rfl rfl rfl rfl ?_
 refine OA.nil ?_
 intro _
 refine RA.rebase [(0, (Pt q 0 0)), (1, (.int .i64 ((a : Nat) : Int))), (4, (.bool true)), (19, (.bool false))] ⟨rfl, rfl, rfl, rfl, trivial⟩ (fun τr2 => ?_)
 refine RA.ret env_ok ?_
 refine ⟨.inr rfl, [(.bool true)], (resL_cons rfl resL_nil), [(q, some ⟨[[(.slice (some ⟨in1, 0, none⟩) (N + 1) 0), (.int .i64 0)]], 2, 115, true⟩), (in1, some (oItem (l ++ [(l.getD a dItem)]))), (j, none)], (Less.refl _ _ _), ⟨in1, by omega, by omega, rfl, rfl⟩⟩

theorem nTakeOA {n : Nat} {σ : Store} (hd : Dom n σ) (q : Nat) (at_ : Int) (hq : σ q = some ⟨[[(.slice none 0 0), (.int .i64 0)]], 2, 115, true⟩)  : CQ Try.prog noDen 38 [(Pt q 0 0), (.int .i64 at_)] n σ (fun v n' d => v = .tuple #[.agg ⟨cItem dItem⟩, .bool false] ∧ d = []) := by
 have lhq := hd.lt hq
 refine CQ.body (E := env) env_ok hd rfl rfl (by show _ ≤ _; exact of_decide_eq_true (by kernel_rfl)) ?_
 refine RA.seq hd ?_
 refine RA.region env_ok ?_
 refine OA.op1 (dst := (some 4)) (v := (Pt n 0 0)) (n1 := (n + 1)) (w := (n, some ⟨[xNp22], 6, 59, true⟩)) rfl rfl rfl rfl (by omega) ?_
 refine OA.p (some 5) (.bool false) rfl rfl rfl rfl ?_
 refine OA.nil ?_
 intro _
 refine RA.seq hd ?_
 refine RA.seq hd ?_
 refine RA.region env_ok ?_
 refine OA.p (some 7) (Pt q 0 0) rfl rfl rfl rfl ?_
 refine OA.p (some 8) (.bool false) rfl rfl rfl rfl ?_
 refine OA.p (some 9) (.bool false) rfl rfl rfl rfl ?_
 refine OA.p (some 10) (.int .i64 at_) rfl rfl rfl rfl ?_
 by_cases hc1 : at_ < 0
 ·
  refine OA.p (some 11) (.bool true) rfl rfl rfl (Eq.trans (r_bin rfl rfl rfl (b_lss rfl)) (dT hc1)) ?_
  refine OA.p (some 12) (.bool true) rfl rfl rfl rfl ?_
  refine OA.p (some 13) (.bool true) rfl rfl rfl rfl ?_
  refine OA.off (dst := (some 14)) rfl rfl rfl ?_
  refine OA.off (dst := (some 15)) rfl rfl rfl ?_
  refine OA.off (dst := (some 16)) rfl rfl rfl ?_
  refine OA.off (dst := (some 17)) rfl rfl rfl ?_
  refine OA.off (dst := (some 18)) rfl rfl rfl ?_
  refine OA.off (dst := (some 19)) rfl rfl rfl ?_
  refine OA.off (dst := (some 20)) rfl rfl rfl ?_
  refine OA.p (some 21) (.bool true) rfl rfl rfl rfl ?_
  refine OA.nil ?_
  intro _
  refine RA.condT rfl ?_
  refine RA.seq hd ?_
  refine RA.region env_ok ?_
  refine OA.p (some 22) (.agg ⟨xNp22⟩) rfl rfl rfl (by kernel_rfl) ?_
  refine OA.op1 (dst := none) (v := (.tuple #[])) (n1 := (n + 1)) (w := (n, some ⟨[xNp22], 6, 59, true⟩)) rfl rfl rfl (r_store rfl rfl rfl rfl rfl rfl rfl get_here rfl rfl (Nat.le_of_ble_eq_true rfl) rfl) (by omega) ?_
  refine OA.p (some 5) (.bool false) rfl rfl rfl rfl ?_
  refine OA.nil ?_
  intro _
  refine RA.ret env_ok ?_
  refine ⟨.inr rfl, [(.agg ⟨xNp22⟩), (.bool false)], (resL_cons (res_cellA rfl rfl rfl get_here rfl rfl rfl) (resL_cons rfl resL_nil)), [], (Less.of (fun p hp => by simp at hp) (gone_of (by simp only [goneP, memP, List.cons_append, List.nil_append, true_or, or_true, true_and, and_true, or_false] <;> omega))), ⟨rfl, rfl⟩⟩
 ·
  refine OA.p (some 11) (.bool false) rfl rfl rfl (Eq.trans (r_bin rfl rfl rfl (b_lss rfl)) (dF hc1)) ?_
  refine OA.p (some 12) (.bool false) rfl rfl rfl rfl ?_
  refine OA.p (some 13) (.bool false) rfl rfl rfl rfl ?_
  refine OA.p (some 14) (.int .i64 at_) rfl rfl rfl rfl ?_
  refine OA.p (some 15) (Pt q 0 0) rfl rfl rfl rfl ?_
  refine OA.p (some 16) (Pt q 0 0) rfl rfl rfl rfl ?_
  refine OA.p (some 17) (Pt q 0 0) rfl rfl rfl rfl ?_
  refine OA.p (some 18) (.slice none 0 0) rfl rfl rfl (r_load1 rfl rfl rfl rfl rfl (get_there (by omega) hq) rfl rfl) ?_
  refine OA.p (some 19) (.int .i64 0) rfl rfl rfl rfl ?_
  have hc2 : 0 ≤ at_ := Classical.byContradiction (fun hdd => by exfalso; omega)
  refine OA.p (some 20) (.bool true) rfl rfl rfl (Eq.trans (r_bin rfl rfl rfl (b_geq rfl)) (dT hc2)) ?_
  refine OA.p (some 21) (.bool true) rfl rfl rfl rfl ?_
  refine OA.nil ?_
  intro _
  refine RA.condT rfl ?_
  refine RA.seq hd ?_
  refine RA.region env_ok ?_
  refine OA.p (some 22) (.agg ⟨xNp22⟩) rfl rfl rfl (by kernel_rfl) ?_
  refine OA.op1 (dst := none) (v := (.tuple #[])) (n1 := (n + 1)) (w := (n, some ⟨[xNp22], 6, 59, true⟩)) rfl rfl rfl (r_store rfl rfl rfl rfl rfl rfl rfl get_here rfl rfl (Nat.le_of_ble_eq_true rfl) rfl) (by omega) ?_
  refine OA.p (some 5) (.bool false) rfl rfl rfl rfl ?_
  refine OA.nil ?_
  intro _
  refine RA.ret env_ok ?_
  refine ⟨.inr rfl, [(.agg ⟨xNp22⟩), (.bool false)], (resL_cons (res_cellA rfl rfl rfl get_here rfl rfl rfl) (resL_cons rfl resL_nil)), [], (Less.of (fun p hp => by simp at hp) (gone_of (by simp only [goneP, memP, List.cons_append, List.nil_append, true_or, or_true, true_and, and_true, or_false] <;> omega))), ⟨rfl, rfl⟩⟩

theorem nTakeOB {n : Nat} {σ : Store} (hd : Dom n σ) (q j N : Nat) (at_ : Int) (ha : ¬ (0 ≤ at_ ∧ at_ < (N : Int))) (hq : σ q = some ⟨[[(.slice (some ⟨j, 0, none⟩) N 0), (.int .i64 0)]], 2, 115, true⟩)  : CQ Try.prog noDen 38 [(Pt q 0 0), (.int .i64 at_)] n σ (fun v n' d => v = .tuple #[.agg ⟨cItem dItem⟩, .bool false] ∧ d = []) := by
 have lhq := hd.lt hq
 refine CQ.body (E := env) env_ok hd rfl rfl (by show _ ≤ _; exact of_decide_eq_true (by kernel_rfl)) ?_
 refine RA.seq hd ?_
 refine RA.region env_ok ?_
 refine OA.op1 (dst := (some 4)) (v := (Pt n 0 0)) (n1 := (n + 1)) (w := (n, some ⟨[xNp22], 6, 59, true⟩)) rfl rfl rfl rfl (by omega) ?_
 refine OA.p (some 5) (.bool false) rfl rfl rfl rfl ?_
 refine OA.nil ?_
 intro _
 refine RA.seq hd ?_
 refine RA.seq hd ?_
 refine RA.region env_ok ?_
 refine OA.p (some 7) (Pt q 0 0) rfl rfl rfl rfl ?_
 refine OA.p (some 8) (.bool false) rfl rfl rfl rfl ?_
 refine OA.p (some 9) (.bool false) rfl rfl rfl rfl ?_
 refine OA.p (some 10) (.int .i64 at_) rfl rfl rfl rfl ?_
 by_cases hc1 : at_ < 0
 ·
  refine OA.p (some 11) (.bool true) rfl rfl rfl (Eq.trans (r_bin rfl rfl rfl (b_lss rfl)) (dT hc1)) ?_
  refine OA.p (some 12) (.bool true) rfl rfl rfl rfl ?_
  refine OA.p (some 13) (.bool true) rfl rfl rfl rfl ?_
  refine OA.off (dst := (some 14)) rfl rfl rfl ?_
  refine OA.off (dst := (some 15)) rfl rfl rfl ?_
  refine OA.off (dst := (some 16)) rfl rfl rfl ?_
  refine OA.off (dst := (some 17)) rfl rfl rfl ?_
  refine OA.off (dst := (some 18)) rfl rfl rfl ?_
  refine OA.off (dst := (some 19)) rfl rfl rfl ?_
  refine OA.off (dst := (some 20)) rfl rfl rfl ?_
  refine OA.p (some 21) (.bool true) rfl rfl rfl rfl ?_
  refine OA.nil ?_
  intro _
  refine RA.condT rfl ?_
  refine RA.seq hd ?_
  refine RA.region env_ok ?_
  refine OA.p (some 22) (.agg ⟨xNp22⟩) rfl rfl rfl (by kernel_rfl) ?_
  refine OA.op1 (dst := none) (v := (.tuple #[])) (n1 := (n + 1)) (w := (n, some ⟨[xNp22], 6, 59, true⟩)) rfl rfl rfl (r_store rfl rfl rfl rfl rfl rfl rfl get_here rfl rfl (Nat.le_of_ble_eq_true rfl) rfl) (by omega) ?_
  refine OA.p (some 5) (.bool false) rfl rfl rfl rfl ?_
  refine OA.nil ?_
  intro _
  refine RA.ret env_ok ?_
  refine ⟨.inr rfl, [(.agg ⟨xNp22⟩), (.bool false)], (resL_cons (res_cellA rfl rfl rfl get_here rfl rfl rfl) (resL_cons rfl resL_nil)), [], (Less.of (fun p hp => by simp at hp) (gone_of (by simp only [goneP, memP, List.cons_append, List.nil_append, true_or, or_true, true_and, and_true, or_false] <;> omega))), ⟨rfl, rfl⟩⟩
 ·
  refine OA.p (some 11) (.bool false) rfl rfl rfl (Eq.trans (r_bin rfl rfl rfl (b_lss rfl)) (dF hc1)) ?_
  refine OA.p (some 12) (.bool false) rfl rfl rfl rfl ?_
  refine OA.p (some 13) (.bool false) rfl rfl rfl rfl ?_
  refine OA.p (some 14) (.int .i64 at_) rfl rfl rfl rfl ?_
  refine OA.p (some 15) (Pt q 0 0) rfl rfl rfl rfl ?_
  refine OA.p (some 16) (Pt q 0 0) rfl rfl rfl rfl ?_
  refine OA.p (some 17) (Pt q 0 0) rfl rfl rfl rfl ?_
  refine OA.p (some 18) (.slice (some ⟨j, 0, none⟩) N 0) rfl rfl rfl (r_load1 rfl rfl rfl rfl rfl (get_there (by omega) hq) rfl rfl) ?_
  refine OA.p (some 19) (.int .i64 ((N : Nat) : Int)) rfl rfl rfl rfl ?_
  have hc2 : ((N : Nat) : Int) ≤ at_ := Classical.byContradiction (fun hdd => by exfalso; omega)
  refine OA.p (some 20) (.bool true) rfl rfl rfl (Eq.trans (r_bin rfl rfl rfl (b_geq rfl)) (dT hc2)) ?_
  refine OA.p (some 21) (.bool true) rfl rfl rfl rfl ?_
  refine OA.nil ?_
  intro _
  refine RA.condT rfl ?_
  refine RA.seq hd ?_
  refine RA.region env_ok ?_
  refine OA.p (some 22) (.agg ⟨xNp22⟩) rfl rfl rfl (by kernel_rfl) ?_
  refine OA.op1 (dst := none) (v := (.tuple #[])) (n1 := (n + 1)) (w := (n, some ⟨[xNp22], 6, 59, true⟩)) rfl rfl rfl (r_store rfl rfl rfl rfl rfl rfl rfl get_here rfl rfl (Nat.le_of_ble_eq_true rfl) rfl) (by omega) ?_
  refine OA.p (some 5) (.bool false) rfl rfl rfl rfl ?_
  refine OA.nil ?_
  intro _
  refine RA.ret env_ok ?_
  refine ⟨.inr rfl, [(.agg ⟨xNp22⟩), (.bool false)], (resL_cons (res_cellA rfl rfl rfl get_here rfl rfl rfl) (resL_cons rfl resL_nil)), [], (Less.of (fun p hp => by simp at hp) (gone_of (by simp only [goneP, memP, List.cons_append, List.nil_append, true_or, or_true, true_and, and_true, or_false] <;> omega))), ⟨rfl, rfl⟩⟩

theorem nTake {n : Nat} {σ : Store} (hd : Dom n σ) (q j N : Nat) (l : List Item) (hl : l.length = N) (hN : N ≤ 200) (hqj : q ≠ j) (a : Nat) (ha : a < N) (hq : σ q = some ⟨[[(.slice (some ⟨j, 0, none⟩) N 0), (.int .i64 0)]], 2, 115, true⟩) (hj : σ j = some (oItem l))  : CQ Try.prog noDen 38 [(Pt q 0 0), (.int .i64 ((a : Nat) : Int))] n σ (fun v n' d => v = .tuple #[.agg ⟨cItem (l.getD a dItem)⟩, .bool true] ∧ d = [(q, some ⟨[[(.slice (some ⟨j, 0, none⟩) (N - 1) 0), (.int .i64 0)]], 2, 115, true⟩), (j, some (oItem (l.eraseIdx a)))]) := by
 have lhq := hd.lt hq
 have lhj := hd.lt hj
 refine CQ.body (E := env) env_ok hd rfl rfl (by show _ ≤ _; exact of_decide_eq_true (by kernel_rfl)) ?_
 refine RA.seq hd ?_
 refine RA.region env_ok ?_
 refine OA.op1 (dst := (some 4)) (v := (Pt n 0 0)) (n1 := (n + 1)) (w := (n, some ⟨[xNp22], 6, 59, true⟩)) rfl rfl rfl rfl (by omega) ?_
 refine OA.p (some 5) (.bool false) rfl rfl rfl rfl ?_
 refine OA.nil ?_
 intro _
 refine RA.seq hd ?_
 refine RA.seq hd ?_
 refine RA.region env_ok ?_
 refine OA.p (some 7) (Pt q 0 0) rfl rfl rfl rfl ?_
 refine OA.p (some 8) (.bool false) rfl rfl rfl rfl ?_
 refine OA.p (some 9) (.bool false) rfl rfl rfl rfl ?_
 refine OA.p (some 10) (.int .i64 ((a : Nat) : Int)) rfl rfl rfl rfl ?_
 have hc1 : ¬ (((a : Nat) : Int) < 0) := fun hdd => by exfalso; omega
 refine OA.p (some 11) (.bool false) rfl rfl rfl (Eq.trans (r_bin rfl rfl rfl (b_lss rfl)) (dF hc1)) ?_
 refine OA.p (some 12) (.bool false) rfl rfl rfl rfl ?_
 refine OA.p (some 13) (.bool false) rfl rfl rfl rfl ?_
 refine OA.p (some 14) (.int .i64 ((a : Nat) : Int)) rfl rfl rfl rfl ?_
 refine OA.p (some 15) (Pt q 0 0) rfl rfl rfl rfl ?_
 refine OA.p (some 16) (Pt q 0 0) rfl rfl rfl rfl ?_
 refine OA.p (some 17) (Pt q 0 0) rfl rfl rfl rfl ?_
 refine OA.p (some 18) (.slice (some ⟨j, 0, none⟩) N 0) rfl rfl rfl (r_load1 rfl rfl rfl rfl rfl (get_there (by omega) hq) rfl rfl) ?_
 refine OA.p (some 19) (.int .i64 ((N : Nat) : Int)) rfl rfl rfl rfl ?_
 have hc2 : ¬ (((N : Nat) : Int) ≤ ((a : Nat) : Int)) := fun hdd => by exfalso; omega
 refine OA.p (some 20) (.bool false) rfl rfl rfl (Eq.trans (r_bin rfl rfl rfl (b_geq rfl)) (dF hc2)) ?_
 refine OA.p (some 21) (.bool false) rfl rfl rfl rfl ?_
 refine OA.nil ?_
 intro _
 refine RA.condF rfl ?_
 refine RA.skip env_ok ?_
 intro _
 refine RA.seq hd ?_
 refine RA.region env_ok ?_
 refine OA.p (some 23) (Pt q 0 0) rfl rfl rfl rfl ?_
 refine OA.p (some 24) (Pt q 0 0) rfl rfl rfl rfl ?_
 refine OA.p (some 25) (Pt q 0 0) rfl rfl rfl rfl ?_
 refine OA.p (some 26) (.slice (some ⟨j, 0, none⟩) N 0) rfl rfl rfl (r_load1 rfl rfl rfl rfl rfl (get_there (by omega) hq) rfl rfl) ?_
 refine OA.p (some 27) (.int .i64 ((a : Nat) : Int)) rfl rfl rfl rfl ?_
 refine OA.p (some 28) (Pt j a 0) rfl rfl rfl (r_iaS (l := a) rfl rfl rfl rfl rfl rfl (by omega) (by omega) (get_there (by omega) hj) rfl (by omega)) ?_
 refine OA.p (some 29) (.agg ⟨(cItem (l.getD a dItem))⟩) rfl rfl rfl (r_loadR (c := cItem) dItem rfl rfl rfl rfl (get_there (by omega) hj) (by rw [hl]; omega) rfl) ?_
 refine OA.op1 (dst := (some 6)) (v := (.pointer (some ⟨(n + 1), 0, some 0⟩))) (n1 := (n + 2)) (w := ((n + 1), some ⟨[xNp22], 6, 59, true⟩)) rfl rfl rfl rfl (by omega) ?_
 refine OA.op1 (dst := none) (v := (.tuple #[])) (n1 := (n + 2)) (w := ((n + 1), some ⟨[(cItem (l.getD a dItem))], 6, 59, true⟩)) rfl rfl rfl (r_store rfl rfl rfl rfl rfl rfl rfl get_here rfl rfl (Nat.le_of_ble_eq_true rfl) rfl) (by omega) ?_
 refine OA.nil ?_
 intro _
 refine RA.rebase [(0, (Pt q 0 0)), (1, (.int .i64 ((a : Nat) : Int))), (4, (Pt n 0 0)), (5, (.bool false)), (6, (.pointer (some ⟨(n + 1), 0, some 0⟩))), (21, (.bool false))] ⟨rfl, rfl, rfl, rfl, rfl, rfl, trivial⟩ (fun τr1 => ?_)
 refine RA.seq hd ?_
 refine RA.region env_ok ?_
 refine OA.p (some 30) (Pt q 0 0) rfl rfl rfl rfl ?_
 refine OA.p (some 31) (Pt q 0 0) rfl rfl rfl rfl ?_
 refine OA.p (some 32) (Pt q 0 0) rfl rfl rfl rfl ?_
 refine OA.p (some 33) (Pt q 0 0) rfl rfl rfl rfl ?_
 refine OA.p (some 34) (.slice (some ⟨j, 0, none⟩) N 0) rfl rfl rfl (r_load1 rfl rfl rfl rfl rfl (gt3 (by omega) hq) rfl rfl) ?_
 refine OA.p (some 35) (.int .i64 ((a : Nat) : Int)) rfl rfl rfl rfl ?_
 refine OA.p (some 36) (.int .i64 ((a : Nat) : Int)) rfl rfl rfl rfl ?_
 refine OA.p (some 37) (.int .i64 (((a + 1) : Nat) : Int)) rfl rfl rfl (r_bin rfl rfl rfl (b_add (i64_eq (by omega)))) ?_
 refine OA.call (dst := (some 38)) (all := [(.slice (some ⟨j, 0, none⟩) N 0), (.int .i64 ((a : Nat) : Int)), (.int .i64 (((a + 1) : Nat) : Int))]) rfl rfl rfl rfl rfl rfl rfl rfl (CQ.imp (nDel (hd.of (by omega) (kb3 (by omega))) j N a l hl ha (by omega) (gt3 (by omega) hj)) ?_)
 rintro _ n2 _ ⟨rfl, rfl⟩ hn2
 refine OA.app1 ?_
 refine OA.p (some 39) (Pt q 0 0) rfl rfl rfl rfl ?_
 refine OA.p (some 40) (Pt q 0 0) rfl rfl rfl rfl ?_
 refine OA.op1 (dst := none) (v := (.tuple #[])) (n1 := n2) (w := (q, some ⟨[[(.slice (some ⟨j, 0, none⟩) (N - 1) 0), (.int .i64 0)]], 2, 115, true⟩)) rfl rfl rfl (r_store rfl rfl rfl rfl rfl rfl rfl (gt4 (by omega) hq) rfl rfl (Nat.le_of_ble_eq_true rfl) rfl) (by omega) ?_
 refine OA.nil ?_
 intro _
 refine RA.seq hd ?_
 refine RA.region env_ok ?_
 refine OA.p (some 41) (.agg ⟨(xNp21 l a)⟩) rfl rfl rfl (r_loadA rfl rfl rfl rfl (gt2 (by omega) get_here) rfl rfl rfl) ?_
 refine OA.op1 (dst := none) (v := (.tuple #[])) (n1 := n2) (w := (n, some ⟨[(xNp21 l a)], 6, 59, true⟩)) rfl rfl rfl (r_store rfl rfl rfl rfl rfl rfl rfl (gt4 (by omega) get_here) rfl rfl (Nat.le_of_ble_eq_true rfl) rfl) (by omega) ?_
 refine OA.p (some 5) (.bool true) rfl rfl rfl rfl ?_
 refine OA.nil ?_
 intro _
 refine RA.weaken (D' := [(n, some ⟨[(xNp21 l a)], 6, 59, true⟩), (q, some ⟨[[(.slice (some ⟨j, 0, none⟩) (N - 1) 0), (.int .i64 0)]], 2, 115, true⟩), (j, some (oItem (l.eraseIdx a))), ((n + 1), some ⟨[(cItem (l.getD a dItem))], 6, 59, true⟩)]) hd (Less.of (fac (mm (fun _ => get_here) (fun _ => get_here)) (fac (mm (fun _ => (get_there (by omega) get_here)) (fun _ => (get_there (by omega) get_here))) (fac (mm (fun _ => (gt2 (by omega) get_here)) (fun _ => (gt2 (by omega) get_here))) (fac (mm (fun _ => (gt3 (by omega) get_here)) (fun _ => (gt3 (by omega) get_here))) fan)))) (gone_of (by simp only [goneP, memP, List.cons_append, List.nil_append, true_or, or_true, true_and, and_true, or_false] <;> omega))) ?_
 refine RA.ret env_ok ?_
 refine ⟨.inr rfl, [(.agg ⟨(xNp21 l a)⟩), (.bool true)], (resL_cons (res_cellA rfl rfl rfl get_here rfl rfl rfl) (resL_cons rfl resL_nil)), [(q, some ⟨[[(.slice (some ⟨j, 0, none⟩) (N - 1) 0), (.int .i64 0)]], 2, 115, true⟩), (j, some (oItem (l.eraseIdx a)))], (Less.of (fac (mm (fun _ => get_here) (fun _ => (get_there (by omega) get_here))) (fac (mm (fun _ => (get_there (by omega) get_here)) (fun _ => (gt2 (by omega) get_here))) fan)) (gone_of (by simp only [goneP, memP, List.cons_append, List.nil_append, true_or, or_true, true_and, and_true, or_false] <;> omega))), ⟨rfl, rfl⟩⟩

theorem nAllA {σ : Store} (q : Nat) (hq : σ q = some ⟨[[(.slice none 0 0), (.int .i64 0)]], 2, 115, true⟩)  : PS Try.prog noDen 41 [(Pt q 0 0)] σ (.slice none 0 0) := by
 refine PS.body (E := env) env_ok rfl rfl (by show _ ≤ _; exact of_decide_eq_true (by kernel_rfl)) (fun n hd => ?_)
 have lhq := hd.lt hq
 refine RA.seq hd ?_
 refine RA.region env_ok ?_
 refine OA.p (some 2) (.slice none 0 0) rfl rfl rfl rfl ?_
 refine OA.nil ?_
 intro _
 refine RA.seq hd ?_
 refine RA.seq hd ?_
 refine RA.region env_ok ?_
 refine OA.p (some 3) (Pt q 0 0) rfl rfl rfl rfl ?_
 refine OA.p (some 4) (.bool false) rfl rfl rfl rfl ?_
 refine OA.nil ?_
 intro _
 refine RA.condF rfl ?_
 refine RA.skip env_ok ?_
 intro _
 refine RA.seq hd ?_
 refine RA.region env_ok ?_
 refine OA.p (some 5) (Pt q 0 0) rfl rfl rfl rfl ?_
 refine OA.p (some 6) (Pt q 0 0) rfl rfl rfl rfl ?_
 refine OA.p (some 7) (Pt q 0 0) rfl rfl rfl rfl ?_
 refine OA.p (some 8) (.slice none 0 0) rfl rfl rfl (r_load1 rfl rfl rfl rfl rfl hq rfl rfl) ?_
 refine OA.callP (dst := (some 9)) (all := [(.slice none 0 0)]) (v := (.slice none 0 0)) (hd.up (by omega)) rfl rfl rfl rfl rfl rfl rfl rfl nClone0 ?_
 intro n1 hn1
 refine OA.p (some 2) (.slice none 0 0) rfl rfl rfl rfl ?_
 refine OA.nil ?_
 intro _
 refine RA.ret env_ok ?_
 refine ⟨.inr rfl, [(.slice none 0 0)], (resL_cons rfl resL_nil), rfl, (fun i hi => by cases hi)⟩

theorem nAll {n : Nat} {σ : Store} (hd : Dom n σ) (q j N : Nat) (l : List Item) (hl : l.length = N) (hN : N ≤ 200) (hqj : q ≠ j) (hq : σ q = some ⟨[[(.slice (some ⟨j, 0, none⟩) N 0), (.int .i64 0)]], 2, 115, true⟩) (hj : σ j = some (oItem l))  : CQ Try.prog noDen 41 [(Pt q 0 0)] n σ (fun v n' d => ∃ i, n ≤ i ∧ i < n' ∧ v = .slice (some ⟨i, 0, none⟩) N 0 ∧ d = [(i, some (oItem l))]) := by
 have lhq := hd.lt hq
 have lhj := hd.lt hj
 refine CQ.body (E := env) env_ok hd rfl rfl (by show _ ≤ _; exact of_decide_eq_true (by kernel_rfl)) ?_
 refine RA.seq hd ?_
 refine RA.region env_ok ?_
 refine OA.p (some 2) (.slice none 0 0) rfl rfl rfl rfl ?_
 refine OA.nil ?_
 intro _
 refine RA.seq hd ?_
 refine RA.seq hd ?_
 refine RA.region env_ok ?_
 refine OA.p (some 3) (Pt q 0 0) rfl rfl rfl rfl ?_
 refine OA.p (some 4) (.bool false) rfl rfl rfl rfl ?_
 refine OA.nil ?_
 intro _
 refine RA.condF rfl ?_
 refine RA.skip env_ok ?_
 intro _
 refine RA.seq hd ?_
 refine RA.region env_ok ?_
 refine OA.p (some 5) (Pt q 0 0) rfl rfl rfl rfl ?_
 refine OA.p (some 6) (Pt q 0 0) rfl rfl rfl rfl ?_
 refine OA.p (some 7) (Pt q 0 0) rfl rfl rfl rfl ?_
 refine OA.p (some 8) (.slice (some ⟨j, 0, none⟩) N 0) rfl rfl rfl (r_load1 rfl rfl rfl rfl rfl hq rfl rfl) ?_
 refine OA.call (dst := (some 9)) (all := [(.slice (some ⟨j, 0, none⟩) N 0)]) rfl rfl rfl rfl rfl rfl rfl rfl (CQ.imp (nClone (hd.up (by omega)) j N l hl (by omega) hj) ?_)
 rintro _ n1 _ ⟨in1, hin1a, hin1b, rfl, rfl⟩ hn1
 refine OA.app1 ?_
 refine OA.p (some 2) (.slice (some ⟨in1, 0, none⟩) N 0) rfl rfl rfl rfl ?_
 refine OA.nil ?_
 intro _
 refine RA.ret env_ok ?_
 refine ⟨.inr rfl, [(.slice (some ⟨in1, 0, none⟩) N 0)], (resL_cons rfl resL_nil), [(in1, some (oItem l))], (Less.refl _ _ _), ⟨in1, by omega, by omega, rfl, rfl⟩⟩
end Go.Proofs.Ytnjknabighmedaa.Vt
