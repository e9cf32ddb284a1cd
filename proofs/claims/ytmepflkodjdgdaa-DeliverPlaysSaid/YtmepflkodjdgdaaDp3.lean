/- Dp3: walks through functions of the program, by the calculus; written by a program of this workplace. -/
import Derived.Test.YtmepflkodjdgdaaDp2
import Derived.Test.YtmepflkodjdgdaaVm6
namespace Go.Proofs.Ytmepflkodjdgdaa.Vt
open Go Go.Proofs Go.Proofs.YtmepflkodjdgdaaV
set_option maxRecDepth 100000
set_option linter.unusedVariables false
set_option linter.unusedSimpArgs false
theorem goS_next {t : Int} {f a : Nat} {ws out : List Msg} {R : Nat × List Msg × List Msg} (hf : 1 ≤ f) (h : ws.findIdx (qq t a) < ws.length) (hR : goS t f a ws out = R) : goS t (f - 1) (u16N (((a : Nat) : Int) + 1)) (ws.eraseIdx (ws.findIdx (qq t a))) (out ++ [ws.getD (ws.findIdx (qq t a)) dMsg]) = R := by
  cases f with
  | zero => omega
  | succ f => rw [goS, if_pos h] at hR; exact hR
abbrev xDp31 (ws2 : List Msg) (q : Nat) : List Value := [(.int .i64 (ws2.getD (q + 1) dMsg).st), (.int .i64 (ws2.getD (q + 1) dMsg).ssn), (.bool (ws2.getD (q + 1) dMsg).loose), (W (ws2.getD (q + 1) dMsg).proto), (.string (ws2.getD (q + 1) dMsg).data)]
abbrev xDp32 (ws2 : List Msg) (i : Nat) : List Value := [(.int .i64 (ws2.getD i dMsg).st), (.int .i64 (ws2.getD i dMsg).ssn), (.bool (ws2.getD i dMsg).loose), (W (ws2.getD i dMsg).proto), (.string (ws2.getD i dMsg).data)]
abbrev xDp33 (n8 : Nat) (NX : Nat) (jv3 : Nat) (K2 : Nat) (n10 : Nat) (M2 : Nat) : List Value := [(.slice (some ⟨(n8 + 1), 0, none⟩) NX 0), (.slice (some ⟨jv3, 0, none⟩) K2 2), (.slice (some ⟨(n10 + 4), 0, none⟩) (M2 + 1) 0)]
abbrev xDp34 (n8 : Nat) (NX : Nat) (jv2 : Nat) (K : Nat) (M : Nat) : List Value := [(.slice (some ⟨(n8 + 1), 0, none⟩) NX 0), (.slice (some ⟨jv2, 0, none⟩) (K + 1) 2), (.slice (some ⟨(n8 + 2), 0, none⟩) M 2)]
abbrev xDp35 (n8 : Nat) (NX : Nat) (jv3 : Nat) (K2 : Nat) (ju4 : Nat) (M2 : Nat) : List Value := [(.slice (some ⟨(n8 + 1), 0, none⟩) NX 0), (.slice (some ⟨jv3, 0, none⟩) K2 2), (.slice (some ⟨ju4, 0, none⟩) (M2 + 1) 0)]
abbrev xDp36 (n8 : Nat) (NX : Nat) (jv3 : Nat) (K2 : Nat) (n10 : Nat) : List Value := [(.slice (some ⟨(n8 + 1), 0, none⟩) NX 0), (.slice (some ⟨jv3, 0, none⟩) K2 2), (.slice (some ⟨(n10 + 3), 0, none⟩) 1 0)]
abbrev xDp37 (n8 : Nat) (NX : Nat) (jr : Nat) (q : Nat) (ju4 : Nat) (M2 : Nat) : List Value := [(.slice (some ⟨(n8 + 1), 0, none⟩) NX 0), (.slice (some ⟨jr, 0, none⟩) q 2), (.slice (some ⟨ju4, 0, none⟩) (M2 + 1) 0)]
abbrev xDp38 (n8 : Nat) (NX : Nat) (jr : Nat) (q : Nat) (ju4 : Nat) (M2 : Nat) : List Value := [(.slice (some ⟨(n8 + 1), 0, none⟩) NX 0), (.slice (some ⟨jr, 0, none⟩) q 2), (.slice (some ⟨ju4, 0, none⟩) (M2 + 1) 2)]
abbrev xDp39 (n8 : Nat) (NX : Nat) (jv2 : Nat) (K : Nat) (ju : Nat) (M : Nat) : List Value := [(.slice (some ⟨(n8 + 1), 0, none⟩) NX 0), (.slice (some ⟨jv2, 0, none⟩) (K + 1) 0), (.slice (some ⟨ju, 0, none⟩) M 2)]
abbrev xDp310 (jx : Nat) (NX : Nat) (n4 : Nat) (K : Nat) (ju : Nat) (M : Nat) : List Value := [(.slice (some ⟨jx, 0, none⟩) NX 0), (.slice (some ⟨(n4 + 3), 0, none⟩) (K + 1) 0), (.slice (some ⟨ju, 0, none⟩) M 2)]
abbrev xDp311 (jx : Nat) (NX : Nat) (jv : Nat) (K : Nat) (n : Nat) (M : Nat) : List Value := [(.slice (some ⟨jx, 0, none⟩) NX 0), (.slice (some ⟨jv, 0, none⟩) K 2), (.slice (some ⟨(n + 6), 0, none⟩) (M + 1) 0)]
abbrev xDp312 (jx : Nat) (NX : Nat) (jv : Nat) (K : Nat) (n : Nat) (M : Nat) : List Value := [(.slice (some ⟨jx, 0, none⟩) NX 0), (.slice (some ⟨jv, 0, none⟩) K 2), (.slice (some ⟨(n + 6), 0, none⟩) (M + 1) 2)]
abbrev xDp313 (n8 : Nat) (NX : Nat) (jv3 : Nat) (K2 : Nat) (ju3 : Nat) (M2 : Nat) : List Value := [(.slice (some ⟨(n8 + 1), 0, none⟩) NX 0), (.slice (some ⟨jv3, 0, none⟩) K2 2), (.slice (some ⟨ju3, 0, none⟩) M2 2)]
abbrev xDp314 (jx : Nat) (NX : Nat) (jv2 : Nat) (K : Nat) (ju : Nat) (M : Nat) : List Value := [(.slice (some ⟨jx, 0, none⟩) NX 0), (.slice (some ⟨jv2, 0, none⟩) (K + 1) 0), (.slice (some ⟨ju, 0, none⟩) M 2)]
abbrev xDp315 (jx : Nat) (NX : Nat) (n4 : Nat) (ju : Nat) (M : Nat) : List Value := [(.slice (some ⟨jx, 0, none⟩) NX 0), (.slice (some ⟨(n4 + 2), 0, none⟩) 1 0), (.slice (some ⟨ju, 0, none⟩) M 2)]
abbrev xDp316 (jx : Nat) (NX : Nat) (jv : Nat) (K : Nat) (n : Nat) : List Value := [(.slice (some ⟨jx, 0, none⟩) NX 0), (.slice (some ⟨jv, 0, none⟩) K 2), (.slice (some ⟨(n + 5), 0, none⟩) 1 0)]
abbrev xDp317 (jx : Nat) (NX : Nat) (jv : Nat) (K : Nat) (n : Nat) : List Value := [(.slice (some ⟨jx, 0, none⟩) NX 0), (.slice (some ⟨jv, 0, none⟩) K 2), (.slice (some ⟨(n + 5), 0, none⟩) 1 2)]
abbrev xDp318 (jx : Nat) (NX : Nat) (jv : Nat) (K : Nat) (ju : Nat) (M : Nat) : List Value := [(.slice (some ⟨jx, 0, none⟩) NX 0), (.slice (some ⟨jv, 0, none⟩) K 2), (.slice (some ⟨ju, 0, none⟩) M 2)]
theorem rPutX {n : Nat} {σ : Store} (hd : Dom n σ) (jx jv ju NX K M : Nat) (m : Msg) (hr : m.st < 0 ∨ ((NX : Nat) : Int) ≤ m.st)   : CQ Try.prog noDen 18 [(.agg ⟨[(.slice (some ⟨jx, 0, none⟩) NX 0), (.slice (some ⟨jv, 0, none⟩) K 2), (.slice (some ⟨ju, 0, none⟩) M 2)]⟩), (.agg ⟨(cMsg m)⟩)] n σ (fun v n' d => v = .tuple #[(.agg ⟨[(.slice (some ⟨jx, 0, none⟩) NX 0), (.slice (some ⟨jv, 0, none⟩) K 2), (.slice (some ⟨ju, 0, none⟩) M 2)]⟩), .bool false] ∧ d = []) := by
 refine CQ.body (E := env) env_ok hd rfl rfl (by show _ ≤ _; exact of_decide_eq_true (by kernel_rfl)) ?_
 refine RA.seq hd ?_
 refine RA.region env_ok ?_
 refine OA.op1 (dst := (some 2)) (v := (Pt n 0 0)) (n1 := (n + 1)) (w := (n, some ⟨[(xDp318 jx NX jv K ju M)], 3, 38, true⟩)) rfl rfl rfl rfl (by omega) ?_
 refine OA.op1 (dst := (some 3)) (v := (.pointer (some ⟨(n + 1), 0, some 0⟩))) (n1 := (n + 2)) (w := ((n + 1), some ⟨[(cMsg m)], 5, 29, true⟩)) rfl rfl rfl rfl (by omega) ?_
 refine OA.op1 (dst := (some 4)) (v := (.pointer (some ⟨(n + 2), 0, some 0⟩))) (n1 := (n + 3)) (w := ((n + 2), some ⟨[[(.slice none 0 0), (.slice none 0 0), (.slice none 0 0)]], 3, 38, true⟩)) rfl rfl rfl rfl (by omega) ?_
 refine OA.p (some 5) (.bool false) rfl rfl rfl rfl ?_
 refine OA.nil ?_
 intro _
 refine RA.seq hd ?_
 refine RA.seq hd ?_
 refine RA.region env_ok ?_
 refine OA.p (some 14) (.pointer (some ⟨(n + 1), 0, some 0⟩)) rfl rfl rfl rfl ?_
 refine OA.p (some 15) (.int .i64 m.st) rfl rfl rfl (r_load1 rfl rfl rfl rfl rfl (get_there (by omega) get_here) rfl rfl) ?_
 by_cases hc1 : m.st < 0
 ·
  refine OA.p (some 16) (.bool true) rfl rfl rfl (Eq.trans (r_bin rfl rfl rfl (b_lss rfl)) (dT hc1)) ?_
  refine OA.p (some 17) (.bool true) rfl rfl rfl rfl ?_
  refine OA.off (dst := (some 18)) rfl rfl rfl ?_
  refine OA.off (dst := (some 19)) rfl rfl rfl ?_
  refine OA.off (dst := (some 20)) rfl rfl rfl ?_
  refine OA.off (dst := (some 21)) rfl rfl rfl ?_
  refine OA.off (dst := (some 22)) rfl rfl rfl ?_
  refine OA.off (dst := (some 23)) rfl rfl rfl ?_
  refine OA.p (some 24) (.bool true) rfl rfl rfl rfl ?_
  refine OA.nil ?_
  intro _
  refine RA.condT rfl ?_
  refine RA.seq hd ?_
  refine RA.region env_ok ?_
  refine OA.p (some 25) (.agg ⟨(xDp318 jx NX jv K ju M)⟩) rfl rfl rfl (r_loadA rfl rfl rfl rfl (gt2 (by omega) get_here) rfl rfl rfl) ?_
  refine OA.op1 (dst := none) (v := (.tuple #[])) (n1 := (n + 3)) (w := ((n + 2), some ⟨[(xDp318 jx NX jv K ju M)], 3, 38, true⟩)) rfl rfl rfl (r_store rfl rfl rfl rfl rfl rfl rfl get_here rfl rfl (Nat.le_of_ble_eq_true rfl) rfl) (by omega) ?_
  refine OA.p (some 5) (.bool false) rfl rfl rfl rfl ?_
  refine OA.nil ?_
  intro _
  refine RA.ret env_ok ?_
  refine ⟨.inr rfl, [(.agg ⟨(xDp318 jx NX jv K ju M)⟩), (.bool false)], (resL_cons (res_cellA rfl rfl rfl get_here rfl rfl rfl) (resL_cons rfl resL_nil)), [], (Less.of (fun p hp => by simp at hp) (gone_of (by simp only [goneP, memP, List.cons_append, List.nil_append, true_or, or_true, true_and, and_true, or_false] <;> omega))), ⟨rfl, rfl⟩⟩
 ·
  refine OA.p (some 16) (.bool false) rfl rfl rfl (Eq.trans (r_bin rfl rfl rfl (b_lss rfl)) (dF hc1)) ?_
  refine OA.p (some 17) (.bool false) rfl rfl rfl rfl ?_
  refine OA.p (some 18) (.pointer (some ⟨(n + 1), 0, some 0⟩)) rfl rfl rfl rfl ?_
  refine OA.p (some 19) (.int .i64 m.st) rfl rfl rfl (r_load1 rfl rfl rfl rfl rfl (get_there (by omega) get_here) rfl rfl) ?_
  refine OA.p (some 20) (Pt n 0 0) rfl rfl rfl rfl ?_
  refine OA.p (some 21) (.slice (some ⟨jx, 0, none⟩) NX 0) rfl rfl rfl (r_load1 rfl rfl rfl rfl rfl (gt2 (by omega) get_here) rfl rfl) ?_
  refine OA.p (some 22) (.int .i64 ((NX : Nat) : Int)) rfl rfl rfl rfl ?_
  have hc2 : ((NX : Nat) : Int) ≤ m.st := Classical.byContradiction (fun hdd => by exfalso; omega)
  refine OA.p (some 23) (.bool true) rfl rfl rfl (Eq.trans (r_bin rfl rfl rfl (b_geq rfl)) (dT hc2)) ?_
  refine OA.p (some 24) (.bool true) rfl rfl rfl rfl ?_
  refine OA.nil ?_
  intro _
  refine RA.condT rfl ?_
  refine RA.seq hd ?_
  refine RA.region env_ok ?_
  refine OA.p (some 25) (.agg ⟨(xDp318 jx NX jv K ju M)⟩) rfl rfl rfl (r_loadA rfl rfl rfl rfl (gt2 (by omega) get_here) rfl rfl rfl) ?_
  refine OA.op1 (dst := none) (v := (.tuple #[])) (n1 := (n + 3)) (w := ((n + 2), some ⟨[(xDp318 jx NX jv K ju M)], 3, 38, true⟩)) rfl rfl rfl (r_store rfl rfl rfl rfl rfl rfl rfl get_here rfl rfl (Nat.le_of_ble_eq_true rfl) rfl) (by omega) ?_
  refine OA.p (some 5) (.bool false) rfl rfl rfl rfl ?_
  refine OA.nil ?_
  intro _
  refine RA.ret env_ok ?_
  refine ⟨.inr rfl, [(.agg ⟨(xDp318 jx NX jv K ju M)⟩), (.bool false)], (resL_cons (res_cellA rfl rfl rfl get_here rfl rfl rfl) (resL_cons rfl resL_nil)), [], (Less.of (fun p hp => by simp at hp) (gone_of (by simp only [goneP, memP, List.cons_append, List.nil_append, true_or, or_true, true_and, and_true, or_false] <;> omega))), ⟨rfl, rfl⟩⟩

theorem rPutL0 {n : Nat} {σ : Store} (hd : Dom n σ) (jx jv ju t NX K M : Nat) (L2 : List Msg) (hL2 : L2.length = M) (ht : t < NX) (hM : M ≤ 100000) (ssn : Int) (pr : BitVec 32) (da : ByteArray) (hju : σ ju = some (oMsg L2))  : CQ Try.prog noDen 18 [(.agg ⟨[(.slice (some ⟨jx, 0, none⟩) NX 0), (.slice (some ⟨jv, 0, none⟩) K 2), (.slice (some ⟨ju, 0, none⟩) M 2)]⟩), (.agg ⟨[(.int .i64 ((t : Nat) : Int)), (.int .i64 ssn), (.bool true), (W pr), (.string da)]⟩)] n σ (fun v n' d => ∃ ju2, n ≤ ju2 ∧ ju2 < n' ∧ v = .tuple #[(.agg ⟨[(.slice (some ⟨jx, 0, none⟩) NX 0), (.slice (some ⟨jv, 0, none⟩) K 2), (.slice (some ⟨ju2, 0, none⟩) (M + 1) 2)]⟩), .bool true] ∧ d = [(ju2, some (oMsg (L2 ++ [(Msg.mk ((t : Nat) : Int) ssn true pr da)])))]) := by
 have lhju := hd.lt hju
 refine CQ.body (E := env) env_ok hd rfl rfl (by show _ ≤ _; exact of_decide_eq_true (by kernel_rfl)) ?_
 refine RA.seq hd ?_
 refine RA.region env_ok ?_
 refine OA.op1 (dst := (some 2)) (v := (Pt n 0 0)) (n1 := (n + 1)) (w := (n, some ⟨[(xDp318 jx NX jv K ju M)], 3, 38, true⟩)) rfl rfl rfl rfl (by omega) ?_
 refine OA.op1 (dst := (some 3)) (v := (.pointer (some ⟨(n + 1), 0, some 0⟩))) (n1 := (n + 2)) (w := ((n + 1), some ⟨[[(.int .i64 ((t : Nat) : Int)), (.int .i64 ssn), (.bool true), (W pr), (.string da)]], 5, 29, true⟩)) rfl rfl rfl rfl (by omega) ?_
 refine OA.op1 (dst := (some 4)) (v := (.pointer (some ⟨(n + 2), 0, some 0⟩))) (n1 := (n + 3)) (w := ((n + 2), some ⟨[[(.slice none 0 0), (.slice none 0 0), (.slice none 0 0)]], 3, 38, true⟩)) rfl rfl rfl rfl (by omega) ?_
 refine OA.p (some 5) (.bool false) rfl rfl rfl rfl ?_
 refine OA.nil ?_
 intro _
 refine RA.seq hd ?_
 refine RA.seq hd ?_
 refine RA.region env_ok ?_
 refine OA.p (some 14) (.pointer (some ⟨(n + 1), 0, some 0⟩)) rfl rfl rfl rfl ?_
 refine OA.p (some 15) (.int .i64 ((t : Nat) : Int)) rfl rfl rfl (r_load1 rfl rfl rfl rfl rfl (get_there (by omega) get_here) rfl rfl) ?_
 have hc1 : ¬ (((t : Nat) : Int) < 0) := fun hdd => by exfalso; omega
 refine OA.p (some 16) (.bool false) rfl rfl rfl (Eq.trans (r_bin rfl rfl rfl (b_lss rfl)) (dF hc1)) ?_
 refine OA.p (some 17) (.bool false) rfl rfl rfl rfl ?_
 refine OA.p (some 18) (.pointer (some ⟨(n + 1), 0, some 0⟩)) rfl rfl rfl rfl ?_
 refine OA.p (some 19) (.int .i64 ((t : Nat) : Int)) rfl rfl rfl (r_load1 rfl rfl rfl rfl rfl (get_there (by omega) get_here) rfl rfl) ?_
 refine OA.p (some 20) (Pt n 0 0) rfl rfl rfl rfl ?_
 refine OA.p (some 21) (.slice (some ⟨jx, 0, none⟩) NX 0) rfl rfl rfl (r_load1 rfl rfl rfl rfl rfl (gt2 (by omega) get_here) rfl rfl) ?_
 refine OA.p (some 22) (.int .i64 ((NX : Nat) : Int)) rfl rfl rfl rfl ?_
 have hc2 : ¬ (((NX : Nat) : Int) ≤ ((t : Nat) : Int)) := fun hdd => by exfalso; omega
 refine OA.p (some 23) (.bool false) rfl rfl rfl (Eq.trans (r_bin rfl rfl rfl (b_geq rfl)) (dF hc2)) ?_
 refine OA.p (some 24) (.bool false) rfl rfl rfl rfl ?_
 refine OA.nil ?_
 intro _
 refine RA.condF rfl ?_
 refine RA.skip env_ok ?_
 intro _
 refine RA.seq hd ?_
 refine RA.seq hd ?_
 refine RA.region env_ok ?_
 refine OA.p (some 26) (.pointer (some ⟨(n + 1), 0, some 2⟩)) rfl rfl rfl rfl ?_
 refine OA.p (some 27) (.bool true) rfl rfl rfl (r_load1 rfl rfl rfl rfl rfl (get_there (by omega) get_here) rfl rfl) ?_
 refine OA.nil ?_
 intro _
 refine RA.condT rfl ?_
 refine RA.seq hd ?_
 refine RA.par (md := [some [], some [], some [n], none, some [(n + 1)], some [], none, some [], none]) env_ok (hd.of (by omega) (kb3 (by omega))) (by kernel_rfl) ?_
 refine PQ.op (dst := (some 28)) (v := (.slice (some ⟨(n + 3), 0, none⟩) 0 0)) (n1 := (n + 4)) (d1 := [((n + 3), some (oMsg ([] : List Msg)))]) rfl rfl rfl noStore (none_ok _ _) (by kernel_rfl) (by omega) (kp1 (wr_new (by omega) (by omega))) ?_
 refine PQ.pure (dst := (some 29)) (v := (Pt n 0 2)) rfl rfl rfl noStore (none_ok _ _) rfl ?_
 refine PQ.pure (dst := (some 30)) (v := (.slice (some ⟨ju, 0, none⟩) M 2)) rfl rfl rfl (app [(n, some ⟨[(xDp318 jx NX jv K ju M)], 3, 38, true⟩)] noStore) (seen_one (V := []) (D := [((n + 2), some ⟨[[(.slice none 0 0), (.slice none 0 0), (.slice none 0 0)]], 3, 38, true⟩), ((n + 1), some ⟨[[(.int .i64 ((t : Nat) : Int)), (.int .i64 ssn), (.bool true), (W pr), (.string da)]], 5, 29, true⟩), (n, some ⟨[(xDp318 jx NX jv K ju M)], 3, 38, true⟩)]) (by kernel_rfl) (gt2 (by omega) get_here)) (r_load1 rfl rfl rfl rfl rfl get_here rfl rfl) ?_
 by_cases hc3 : M = 0
 ·
  refine PQ.pure (dst := (some 31)) (v := (.slice (some ⟨(n + 3), 0, none⟩) 0 0)) rfl rfl rfl _ (seen_any (V := [((n + 3), some (oMsg ([] : List Msg)))]) (D := [((n + 2), some ⟨[[(.slice none 0 0), (.slice none 0 0), (.slice none 0 0)]], 3, 38, true⟩), ((n + 1), some ⟨[[(.int .i64 ((t : Nat) : Int)), (.int .i64 ssn), (.bool true), (W pr), (.string da)]], 5, 29, true⟩), (n, some ⟨[(xDp318 jx NX jv K ju M)], 3, 38, true⟩)]) (by kernel_rfl)) (r_appendZ rfl rfl rfl rfl (.inl ⟨_, _, _, rfl, by decide⟩) rfl rfl rfl rfl rfl (by decide) (by omega)) ?_
  refine PQ.pure (dst := (some 32)) (v := (.agg ⟨[(.int .i64 ((t : Nat) : Int)), (.int .i64 ssn), (.bool true), (W pr), (.string da)]⟩)) rfl rfl rfl (app [((n + 1), some ⟨[[(.int .i64 ((t : Nat) : Int)), (.int .i64 ssn), (.bool true), (W pr), (.string da)]], 5, 29, true⟩)] noStore) (seen_one (V := []) (D := [((n + 2), some ⟨[[(.slice none 0 0), (.slice none 0 0), (.slice none 0 0)]], 3, 38, true⟩), ((n + 1), some ⟨[[(.int .i64 ((t : Nat) : Int)), (.int .i64 ssn), (.bool true), (W pr), (.string da)]], 5, 29, true⟩), (n, some ⟨[(xDp318 jx NX jv K ju M)], 3, 38, true⟩)]) (by kernel_rfl) (get_there (by omega) get_here)) (r_loadA rfl rfl rfl rfl get_here rfl rfl rfl) ?_
  refine PQ.op (dst := (some 33)) (v := (.slice (some ⟨(n + 4), 0, none⟩) 1 0)) (n1 := (n + 5)) (d1 := [((n + 4), some ⟨[[(.int .i64 ((t : Nat) : Int)), (.int .i64 ssn), (.bool true), (W pr), (.string da)]], 5, 29, true⟩)]) rfl rfl rfl noStore (none_ok _ _) (by kernel_rfl) (by omega) (kp1 (wr_new (by omega) (by omega))) ?_
  refine PQ.op (dst := (some 34)) (v := (.slice (some ⟨(n + 5), 0, none⟩) 1 0)) (n1 := (n + 6)) (d1 := [((n + 5), some (oMsg (L2 ++ [(Msg.mk ((t : Nat) : Int) ssn true pr da)]))), ((n + 3), none)]) rfl rfl rfl _ (seen_any (V := [((n + 4), some ⟨[[(.int .i64 ((t : Nat) : Int)), (.int .i64 ssn), (.bool true), (W pr), (.string da)]], 5, 29, true⟩), ((n + 3), some (oMsg ([] : List Msg)))]) (D := [((n + 2), some ⟨[[(.slice none 0 0), (.slice none 0 0), (.slice none 0 0)]], 3, 38, true⟩), ((n + 1), some ⟨[[(.int .i64 ((t : Nat) : Int)), (.int .i64 ssn), (.bool true), (W pr), (.string da)]], 5, 29, true⟩), (n, some ⟨[(xDp318 jx NX jv K ju M)], 3, 38, true⟩)]) (by kernel_rfl)) (r_appendR (c := cMsg) (l' := (L2 ++ [(Msg.mk ((t : Nat) : Int) ssn true pr da)])) rfl rfl rfl rfl rfl rfl rfl rfl rfl rfl (by decide) (get_there (by omega) get_here) get_here (by rw [show ([] : List Msg).length = 0 from rfl]) (by rw [nil_of hL2 (by omega)]; rfl) (by omega) (of_decide_eq_true (by kernel_rfl)) (by omega)) (by omega) (kp2 (wr_new (by omega) (by omega)) (wr_tight (by kernel_rfl) (by omega))) ?_
  refine PQ.pure (dst := (some 35)) (v := (Pt n 0 2)) rfl rfl rfl noStore (none_ok _ _) rfl ?_
  refine PQ.op (dst := none) (v := (.tuple #[])) (n1 := (n + 6)) (d1 := [(n, some ⟨[(xDp316 jx NX jv K n)], 3, 38, true⟩)]) rfl rfl rfl _ (seen_any (V := [((n + 5), some (oMsg (L2 ++ [(Msg.mk ((t : Nat) : Int) ssn true pr da)]))), ((n + 3), none), ((n + 4), some ⟨[[(.int .i64 ((t : Nat) : Int)), (.int .i64 ssn), (.bool true), (W pr), (.string da)]], 5, 29, true⟩), ((n + 3), some (oMsg ([] : List Msg)))]) (D := [((n + 2), some ⟨[[(.slice none 0 0), (.slice none 0 0), (.slice none 0 0)]], 3, 38, true⟩), ((n + 1), some ⟨[[(.int .i64 ((t : Nat) : Int)), (.int .i64 ssn), (.bool true), (W pr), (.string da)]], 5, 29, true⟩), (n, some ⟨[(xDp318 jx NX jv K ju M)], 3, 38, true⟩)]) (by kernel_rfl)) (r_store rfl rfl rfl rfl rfl rfl rfl (gt6 (by omega) get_here) rfl rfl (Nat.le_of_ble_eq_true rfl) rfl) (by omega) (kp1 (wr_tight (by kernel_rfl) (by omega))) ?_
  refine PQ.done (d := [(n, some ⟨[(xDp316 jx NX jv K n)], 3, 38, true⟩), ((n + 5), some (oMsg (L2 ++ [(Msg.mk ((t : Nat) : Int) ssn true pr da)]))), ((n + 3), none), ((n + 4), some ⟨[[(.int .i64 ((t : Nat) : Int)), (.int .i64 ssn), (.bool true), (W pr), (.string da)]], 5, 29, true⟩), ((n + 3), some (oMsg ([] : List Msg)))]) (by kernel_rfl) ?_
  intro _
  refine RA.le (ob := ⟨[(xDp316 jx NX jv K n)], 3, 38, true⟩) (ob' := ⟨[(xDp317 jx NX jv K n)], 3, 38, true⟩) get_here (OLe.one (cs := (xDp316 jx NX jv K n)) (cs' := (xDp317 jx NX jv K n)) ⟨VLe.refl _, VLe.refl _, (vle_row _ _ _), trivial⟩ rfl) ?_
  refine RA.weaken (D' := [(n, some ⟨[(xDp317 jx NX jv K n)], 3, 38, true⟩), ((n + 5), some (oMsg (L2 ++ [(Msg.mk ((t : Nat) : Int) ssn true pr da)]))), ((n + 3), none), ((n + 4), some ⟨[[(.int .i64 ((t : Nat) : Int)), (.int .i64 ssn), (.bool true), (W pr), (.string da)]], 5, 29, true⟩), ((n + 2), some ⟨[[(.slice none 0 0), (.slice none 0 0), (.slice none 0 0)]], 3, 38, true⟩), ((n + 1), some ⟨[[(.int .i64 ((t : Nat) : Int)), (.int .i64 ssn), (.bool true), (W pr), (.string da)]], 5, 29, true⟩)]) hd (Less.of (fac (mm (fun _ => get_here) (fun _ => get_here)) (fac (mm (fun _ => (get_there (by omega) get_here)) (fun _ => (gt2 (by omega) get_here))) (fac (mm (fun _ => (gt2 (by omega) get_here)) (fun _ => (gt3 (by omega) get_here))) (fac (mm (fun _ => (gt3 (by omega) get_here)) (fun _ => (gt4 (by omega) get_here))) (fac (mm (fun _ => (gt4 (by omega) get_here)) (fun _ => (gt6 (by omega) get_here))) (fac (mm (fun _ => (gt5 (by omega) get_here)) (fun _ => (gt7 (by omega) get_here))) fan)))))) (gone_of (by simp only [goneP, memP, List.cons_append, List.nil_append, true_or, or_true, true_and, and_true, or_false] <;> omega))) ?_
  refine RA.rebase [(0, (.agg ⟨(xDp318 jx NX jv K ju M)⟩)), (1, (.agg ⟨[(.int .i64 ((t : Nat) : Int)), (.int .i64 ssn), (.bool true), (W pr), (.string da)]⟩)), (2, (Pt n 0 0)), (3, (.pointer (some ⟨(n + 1), 0, some 0⟩))), (4, (.pointer (some ⟨(n + 2), 0, some 0⟩))), (5, (.bool false)), (24, (.bool false)), (27, (.bool true))] ⟨rfl, rfl, rfl, rfl, rfl, rfl, rfl, rfl, trivial⟩ (fun τr1 => ?_)
  refine RA.seq hd ?_
  refine RA.region env_ok ?_
  refine OA.p (some 36) (.agg ⟨(xDp317 jx NX jv K n)⟩) rfl rfl rfl (r_loadA rfl rfl rfl rfl get_here rfl rfl rfl) ?_
  refine OA.op1 (dst := none) (v := (.tuple #[])) (n1 := (n + 6)) (w := ((n + 2), some ⟨[(xDp317 jx NX jv K n)], 3, 38, true⟩)) rfl rfl rfl (r_store rfl rfl rfl rfl rfl rfl rfl (gt4 (by omega) get_here) rfl rfl (Nat.le_of_ble_eq_true rfl) rfl) (by omega) ?_
  refine OA.p (some 5) (.bool true) rfl rfl rfl rfl ?_
  refine OA.nil ?_
  intro _
  refine RA.weaken (D' := [((n + 2), some ⟨[(xDp317 jx NX jv K n)], 3, 38, true⟩), (n, some ⟨[(xDp317 jx NX jv K n)], 3, 38, true⟩), ((n + 5), some (oMsg (L2 ++ [(Msg.mk ((t : Nat) : Int) ssn true pr da)]))), ((n + 3), none), ((n + 4), some ⟨[[(.int .i64 ((t : Nat) : Int)), (.int .i64 ssn), (.bool true), (W pr), (.string da)]], 5, 29, true⟩), ((n + 1), some ⟨[[(.int .i64 ((t : Nat) : Int)), (.int .i64 ssn), (.bool true), (W pr), (.string da)]], 5, 29, true⟩)]) hd (Less.of (fac (mm (fun _ => get_here) (fun _ => get_here)) (fac (mm (fun _ => (get_there (by omega) get_here)) (fun _ => (get_there (by omega) get_here))) (fac (mm (fun _ => (gt2 (by omega) get_here)) (fun _ => (gt2 (by omega) get_here))) (fac (mm (fun _ => (gt3 (by omega) get_here)) (fun _ => (gt3 (by omega) get_here))) (fac (mm (fun _ => (gt4 (by omega) get_here)) (fun _ => (gt4 (by omega) get_here))) (fac (mm (fun _ => (gt5 (by omega) get_here)) (fun _ => (gt6 (by omega) get_here))) fan)))))) (gone_of (by simp only [goneP, memP, List.cons_append, List.nil_append, true_or, or_true, true_and, and_true, or_false] <;> omega))) ?_
  refine RA.ret env_ok ?_
  refine ⟨.inr rfl, [(.agg ⟨(xDp317 jx NX jv K n)⟩), (.bool true)], (resL_cons (res_cellA rfl rfl rfl get_here rfl rfl rfl) (resL_cons rfl resL_nil)), [((n + 5), some (oMsg (L2 ++ [(Msg.mk ((t : Nat) : Int) ssn true pr da)])))], (Less.of (fac (mm (fun _ => get_here) (fun _ => (gt2 (by omega) get_here))) fan) (gone_of (by simp only [goneP, memP, List.cons_append, List.nil_append, true_or, or_true, true_and, and_true, or_false] <;> omega))), ⟨(n + 5), by omega, by omega, by rw [show M + 1 = 1 from by omega] <;> rfl, rfl⟩⟩
 ·
  refine PQ.op (dst := (some 31)) (v := (.slice (some ⟨(n + 4), 0, none⟩) M 0)) (n1 := (n + 5)) (d1 := [((n + 4), some (oMsg L2)), ((n + 3), none)]) rfl rfl rfl _ (seen_any (V := [((n + 3), some (oMsg ([] : List Msg)))]) (D := [((n + 2), some ⟨[[(.slice none 0 0), (.slice none 0 0), (.slice none 0 0)]], 3, 38, true⟩), ((n + 1), some ⟨[[(.int .i64 ((t : Nat) : Int)), (.int .i64 ssn), (.bool true), (W pr), (.string da)]], 5, 29, true⟩), (n, some ⟨[(xDp318 jx NX jv K ju M)], 3, 38, true⟩)]) (by kernel_rfl)) (r_appendL (c := cMsg) (l' := L2) rfl rfl rfl rfl rfl rfl rfl rfl rfl rfl (by decide) get_here (gt4 (by omega) hju) (by rw [show ([] : List Msg).length = 0 from rfl]) (by omega) (by rw [hL2]; omega) (by rw [List.nil_append, take_all' (by rw [hL2])]) (by omega) (of_decide_eq_true (by kernel_rfl)) (by omega)) (by omega) (kp2 (wr_new (by omega) (by omega)) (wr_late [4, 5] (by kernel_rfl) (by kernel_rfl) (by omega) 0 (by kernel_rfl) (by simp [keys]) (fac (lo1 rfl (by omega)) (fac (lo0 rfl) fan)))) ?_
  refine PQ.pure (dst := (some 32)) (v := (.agg ⟨[(.int .i64 ((t : Nat) : Int)), (.int .i64 ssn), (.bool true), (W pr), (.string da)]⟩)) rfl rfl rfl (app [((n + 1), some ⟨[[(.int .i64 ((t : Nat) : Int)), (.int .i64 ssn), (.bool true), (W pr), (.string da)]], 5, 29, true⟩)] noStore) (seen_one (V := []) (D := [((n + 2), some ⟨[[(.slice none 0 0), (.slice none 0 0), (.slice none 0 0)]], 3, 38, true⟩), ((n + 1), some ⟨[[(.int .i64 ((t : Nat) : Int)), (.int .i64 ssn), (.bool true), (W pr), (.string da)]], 5, 29, true⟩), (n, some ⟨[(xDp318 jx NX jv K ju M)], 3, 38, true⟩)]) (by kernel_rfl) (get_there (by omega) get_here)) (r_loadA rfl rfl rfl rfl get_here rfl rfl rfl) ?_
  refine PQ.op (dst := (some 33)) (v := (.slice (some ⟨(n + 5), 0, none⟩) 1 0)) (n1 := (n + 6)) (d1 := [((n + 5), some ⟨[[(.int .i64 ((t : Nat) : Int)), (.int .i64 ssn), (.bool true), (W pr), (.string da)]], 5, 29, true⟩)]) rfl rfl rfl noStore (none_ok _ _) (by kernel_rfl) (by omega) (kp1 (wr_new (by omega) (by omega))) ?_
  refine PQ.op (dst := (some 34)) (v := (.slice (some ⟨(n + 6), 0, none⟩) (M + 1) 0)) (n1 := (n + 7)) (d1 := [((n + 6), some (oMsg (L2 ++ [(Msg.mk ((t : Nat) : Int) ssn true pr da)]))), ((n + 4), none)]) rfl rfl rfl _ (seen_any (V := [((n + 5), some ⟨[[(.int .i64 ((t : Nat) : Int)), (.int .i64 ssn), (.bool true), (W pr), (.string da)]], 5, 29, true⟩), ((n + 4), some (oMsg L2)), ((n + 3), none), ((n + 3), some (oMsg ([] : List Msg)))]) (D := [((n + 2), some ⟨[[(.slice none 0 0), (.slice none 0 0), (.slice none 0 0)]], 3, 38, true⟩), ((n + 1), some ⟨[[(.int .i64 ((t : Nat) : Int)), (.int .i64 ssn), (.bool true), (W pr), (.string da)]], 5, 29, true⟩), (n, some ⟨[(xDp318 jx NX jv K ju M)], 3, 38, true⟩)]) (by kernel_rfl)) (r_appendR (c := cMsg) (l' := (L2 ++ [(Msg.mk ((t : Nat) : Int) ssn true pr da)])) rfl rfl rfl rfl rfl rfl rfl rfl rfl rfl (by decide) (get_there (by omega) get_here) get_here (by rw [hL2]) (mp_snoc (c := cMsg) (x := (Msg.mk ((t : Nat) : Int) ssn true pr da))) (by omega) (of_decide_eq_true (by kernel_rfl)) (by omega)) (by omega) (kp2 (wr_new (by omega) (by omega)) (wr_tight (by kernel_rfl) (by omega))) ?_
  refine PQ.pure (dst := (some 35)) (v := (Pt n 0 2)) rfl rfl rfl noStore (none_ok _ _) rfl ?_
  refine PQ.op (dst := none) (v := (.tuple #[])) (n1 := (n + 7)) (d1 := [(n, some ⟨[(xDp311 jx NX jv K n M)], 3, 38, true⟩)]) rfl rfl rfl _ (seen_any (V := [((n + 6), some (oMsg (L2 ++ [(Msg.mk ((t : Nat) : Int) ssn true pr da)]))), ((n + 4), none), ((n + 5), some ⟨[[(.int .i64 ((t : Nat) : Int)), (.int .i64 ssn), (.bool true), (W pr), (.string da)]], 5, 29, true⟩), ((n + 4), some (oMsg L2)), ((n + 3), none), ((n + 3), some (oMsg ([] : List Msg)))]) (D := [((n + 2), some ⟨[[(.slice none 0 0), (.slice none 0 0), (.slice none 0 0)]], 3, 38, true⟩), ((n + 1), some ⟨[[(.int .i64 ((t : Nat) : Int)), (.int .i64 ssn), (.bool true), (W pr), (.string da)]], 5, 29, true⟩), (n, some ⟨[(xDp318 jx NX jv K ju M)], 3, 38, true⟩)]) (by kernel_rfl)) (r_store rfl rfl rfl rfl rfl rfl rfl (gt8 (by omega) get_here) rfl rfl (Nat.le_of_ble_eq_true rfl) rfl) (by omega) (kp1 (wr_tight (by kernel_rfl) (by omega))) ?_
  refine PQ.done (d := [(n, some ⟨[(xDp311 jx NX jv K n M)], 3, 38, true⟩), ((n + 6), some (oMsg (L2 ++ [(Msg.mk ((t : Nat) : Int) ssn true pr da)]))), ((n + 4), none), ((n + 5), some ⟨[[(.int .i64 ((t : Nat) : Int)), (.int .i64 ssn), (.bool true), (W pr), (.string da)]], 5, 29, true⟩), ((n + 4), some (oMsg L2)), ((n + 3), none), ((n + 3), some (oMsg ([] : List Msg)))]) (by kernel_rfl) ?_
  intro _
  refine RA.le (ob := ⟨[(xDp311 jx NX jv K n M)], 3, 38, true⟩) (ob' := ⟨[(xDp312 jx NX jv K n M)], 3, 38, true⟩) get_here (OLe.one (cs := (xDp311 jx NX jv K n M)) (cs' := (xDp312 jx NX jv K n M)) ⟨VLe.refl _, VLe.refl _, (vle_row _ _ _), trivial⟩ rfl) ?_
  refine RA.weaken (D' := [(n, some ⟨[(xDp312 jx NX jv K n M)], 3, 38, true⟩), ((n + 6), some (oMsg (L2 ++ [(Msg.mk ((t : Nat) : Int) ssn true pr da)]))), ((n + 4), none), ((n + 5), some ⟨[[(.int .i64 ((t : Nat) : Int)), (.int .i64 ssn), (.bool true), (W pr), (.string da)]], 5, 29, true⟩), ((n + 3), none), ((n + 2), some ⟨[[(.slice none 0 0), (.slice none 0 0), (.slice none 0 0)]], 3, 38, true⟩), ((n + 1), some ⟨[[(.int .i64 ((t : Nat) : Int)), (.int .i64 ssn), (.bool true), (W pr), (.string da)]], 5, 29, true⟩)]) hd (Less.of (fac (mm (fun _ => get_here) (fun _ => get_here)) (fac (mm (fun _ => (get_there (by omega) get_here)) (fun _ => (gt2 (by omega) get_here))) (fac (mm (fun _ => (gt2 (by omega) get_here)) (fun _ => (gt3 (by omega) get_here))) (fac (mm (fun _ => (gt3 (by omega) get_here)) (fun _ => (gt4 (by omega) get_here))) (fac (mm (fun _ => (gt4 (by omega) get_here)) (fun _ => (gt6 (by omega) get_here))) (fac (mm (fun _ => (gt5 (by omega) get_here)) (fun _ => (gt8 (by omega) get_here))) (fac (mm (fun _ => (gt6 (by omega) get_here)) (fun _ => (gt9 (by omega) get_here))) fan))))))) (gone_of (by simp only [goneP, memP, List.cons_append, List.nil_append, true_or, or_true, true_and, and_true, or_false] <;> omega))) ?_
  refine RA.rebase [(0, (.agg ⟨(xDp318 jx NX jv K ju M)⟩)), (1, (.agg ⟨[(.int .i64 ((t : Nat) : Int)), (.int .i64 ssn), (.bool true), (W pr), (.string da)]⟩)), (2, (Pt n 0 0)), (3, (.pointer (some ⟨(n + 1), 0, some 0⟩))), (4, (.pointer (some ⟨(n + 2), 0, some 0⟩))), (5, (.bool false)), (24, (.bool false)), (27, (.bool true))] ⟨rfl, rfl, rfl, rfl, rfl, rfl, rfl, rfl, trivial⟩ (fun τr2 => ?_)
  refine RA.seq hd ?_
  refine RA.region env_ok ?_
  refine OA.p (some 36) (.agg ⟨(xDp312 jx NX jv K n M)⟩) rfl rfl rfl (r_loadA rfl rfl rfl rfl get_here rfl rfl rfl) ?_
  refine OA.op1 (dst := none) (v := (.tuple #[])) (n1 := (n + 7)) (w := ((n + 2), some ⟨[(xDp312 jx NX jv K n M)], 3, 38, true⟩)) rfl rfl rfl (r_store rfl rfl rfl rfl rfl rfl rfl (gt5 (by omega) get_here) rfl rfl (Nat.le_of_ble_eq_true rfl) rfl) (by omega) ?_
  refine OA.p (some 5) (.bool true) rfl rfl rfl rfl ?_
  refine OA.nil ?_
  intro _
  refine RA.weaken (D' := [((n + 2), some ⟨[(xDp312 jx NX jv K n M)], 3, 38, true⟩), (n, some ⟨[(xDp312 jx NX jv K n M)], 3, 38, true⟩), ((n + 6), some (oMsg (L2 ++ [(Msg.mk ((t : Nat) : Int) ssn true pr da)]))), ((n + 4), none), ((n + 5), some ⟨[[(.int .i64 ((t : Nat) : Int)), (.int .i64 ssn), (.bool true), (W pr), (.string da)]], 5, 29, true⟩), ((n + 3), none), ((n + 1), some ⟨[[(.int .i64 ((t : Nat) : Int)), (.int .i64 ssn), (.bool true), (W pr), (.string da)]], 5, 29, true⟩)]) hd (Less.of (fac (mm (fun _ => get_here) (fun _ => get_here)) (fac (mm (fun _ => (get_there (by omega) get_here)) (fun _ => (get_there (by omega) get_here))) (fac (mm (fun _ => (gt2 (by omega) get_here)) (fun _ => (gt2 (by omega) get_here))) (fac (mm (fun _ => (gt3 (by omega) get_here)) (fun _ => (gt3 (by omega) get_here))) (fac (mm (fun _ => (gt4 (by omega) get_here)) (fun _ => (gt4 (by omega) get_here))) (fac (mm (fun _ => (gt5 (by omega) get_here)) (fun _ => (gt5 (by omega) get_here))) (fac (mm (fun _ => (gt6 (by omega) get_here)) (fun _ => (gt7 (by omega) get_here))) fan))))))) (gone_of (by simp only [goneP, memP, List.cons_append, List.nil_append, true_or, or_true, true_and, and_true, or_false] <;> omega))) ?_
  refine RA.ret env_ok ?_
  refine ⟨.inr rfl, [(.agg ⟨(xDp312 jx NX jv K n M)⟩), (.bool true)], (resL_cons (res_cellA rfl rfl rfl get_here rfl rfl rfl) (resL_cons rfl resL_nil)), [((n + 6), some (oMsg (L2 ++ [(Msg.mk ((t : Nat) : Int) ssn true pr da)])))], (Less.of (fac (mm (fun _ => get_here) (fun _ => (gt2 (by omega) get_here))) fan) (gone_of (by simp only [goneP, memP, List.cons_append, List.nil_append, true_or, or_true, true_and, and_true, or_false] <;> omega))), ⟨(n + 6), by omega, by omega, rfl, rfl⟩⟩

theorem rPutR0 {n : Nat} {σ : Store} (hd : Dom n σ) (jx jv ju t NX K M : Nat) (nx : List Ux) (ws L2 : List Msg) (hnx : nx.length = NX) (hxb : (nx.getD t dUx).z < 65536) (hws : ws.length = K) (hL2 : L2.length = M) (ht : t < NX) (hN : NX ≤ 1000) (hK : K ≤ 900) (hM : M ≤ 100000) (ssn : Int) (pr : BitVec 32) (da : ByteArray) (hrj : less16 (u16N ssn) (nx.getD t dUx).z ∨ ws.any (qq ((t : Nat) : Int) (u16N ssn)) = true) (hjx : σ jx = some (oIn (nx.map uI))) (hjv : σ jv = some (oMsg ws))  : CQ Try.prog noDen 18 [(.agg ⟨[(.slice (some ⟨jx, 0, none⟩) NX 0), (.slice (some ⟨jv, 0, none⟩) K 2), (.slice (some ⟨ju, 0, none⟩) M 2)]⟩), (.agg ⟨[(.int .i64 ((t : Nat) : Int)), (.int .i64 ssn), (.bool false), (W pr), (.string da)]⟩)] n σ (fun v n' d => v = .tuple #[(.agg ⟨[(.slice (some ⟨jx, 0, none⟩) NX 0), (.slice (some ⟨jv, 0, none⟩) K 2), (.slice (some ⟨ju, 0, none⟩) M 2)]⟩), .bool false] ∧ d = []) := by
 have lhjx := hd.lt hjx
 have lhjv := hd.lt hjv
 have hub := u16N_lt ssn
 refine CQ.body (E := env) env_ok hd rfl rfl (by show _ ≤ _; exact of_decide_eq_true (by kernel_rfl)) ?_
 refine RA.seq hd ?_
 refine RA.region env_ok ?_
 refine OA.op1 (dst := (some 2)) (v := (Pt n 0 0)) (n1 := (n + 1)) (w := (n, some ⟨[(xDp318 jx NX jv K ju M)], 3, 38, true⟩)) rfl rfl rfl rfl (by omega) ?_
 refine OA.op1 (dst := (some 3)) (v := (.pointer (some ⟨(n + 1), 0, some 0⟩))) (n1 := (n + 2)) (w := ((n + 1), some ⟨[[(.int .i64 ((t : Nat) : Int)), (.int .i64 ssn), (.bool false), (W pr), (.string da)]], 5, 29, true⟩)) rfl rfl rfl rfl (by omega) ?_
 refine OA.op1 (dst := (some 4)) (v := (.pointer (some ⟨(n + 2), 0, some 0⟩))) (n1 := (n + 3)) (w := ((n + 2), some ⟨[[(.slice none 0 0), (.slice none 0 0), (.slice none 0 0)]], 3, 38, true⟩)) rfl rfl rfl rfl (by omega) ?_
 refine OA.p (some 5) (.bool false) rfl rfl rfl rfl ?_
 refine OA.nil ?_
 intro _
 refine RA.seq hd ?_
 refine RA.seq hd ?_
 refine RA.region env_ok ?_
 refine OA.p (some 14) (.pointer (some ⟨(n + 1), 0, some 0⟩)) rfl rfl rfl rfl ?_
 refine OA.p (some 15) (.int .i64 ((t : Nat) : Int)) rfl rfl rfl (r_load1 rfl rfl rfl rfl rfl (get_there (by omega) get_here) rfl rfl) ?_
 have hc1 : ¬ (((t : Nat) : Int) < 0) := fun hdd => by exfalso; omega
 refine OA.p (some 16) (.bool false) rfl rfl rfl (Eq.trans (r_bin rfl rfl rfl (b_lss rfl)) (dF hc1)) ?_
 refine OA.p (some 17) (.bool false) rfl rfl rfl rfl ?_
 refine OA.p (some 18) (.pointer (some ⟨(n + 1), 0, some 0⟩)) rfl rfl rfl rfl ?_
 refine OA.p (some 19) (.int .i64 ((t : Nat) : Int)) rfl rfl rfl (r_load1 rfl rfl rfl rfl rfl (get_there (by omega) get_here) rfl rfl) ?_
 refine OA.p (some 20) (Pt n 0 0) rfl rfl rfl rfl ?_
 refine OA.p (some 21) (.slice (some ⟨jx, 0, none⟩) NX 0) rfl rfl rfl (r_load1 rfl rfl rfl rfl rfl (gt2 (by omega) get_here) rfl rfl) ?_
 refine OA.p (some 22) (.int .i64 ((NX : Nat) : Int)) rfl rfl rfl rfl ?_
 have hc2 : ¬ (((NX : Nat) : Int) ≤ ((t : Nat) : Int)) := fun hdd => by exfalso; omega
 refine OA.p (some 23) (.bool false) rfl rfl rfl (Eq.trans (r_bin rfl rfl rfl (b_geq rfl)) (dF hc2)) ?_
 refine OA.p (some 24) (.bool false) rfl rfl rfl rfl ?_
 refine OA.nil ?_
 intro _
 refine RA.condF rfl ?_
 refine RA.skip env_ok ?_
 intro _
 refine RA.seq hd ?_
 refine RA.seq hd ?_
 refine RA.region env_ok ?_
 refine OA.p (some 26) (.pointer (some ⟨(n + 1), 0, some 2⟩)) rfl rfl rfl rfl ?_
 refine OA.p (some 27) (.bool false) rfl rfl rfl (r_load1 rfl rfl rfl rfl rfl (get_there (by omega) get_here) rfl rfl) ?_
 refine OA.nil ?_
 intro _
 refine RA.condF rfl ?_
 refine RA.skip env_ok ?_
 intro _
 refine RA.seq hd ?_
 refine RA.region env_ok ?_
 refine OA.p (some 37) (.pointer (some ⟨(n + 1), 0, some 1⟩)) rfl rfl rfl rfl ?_
 refine OA.p (some 38) (.int .i64 ssn) rfl rfl rfl (r_load1 rfl rfl rfl rfl rfl (get_there (by omega) get_here) rfl rfl) ?_
 have hm1 := andN_le ssn 65535 (by decide)
 refine OA.p (some 39) (.int .i64 (((u16N ssn) : Nat) : Int)) rfl rfl rfl (Eq.trans (r_bin rfl rfl rfl (b_andN ssn 65535 (by decide))) (by rw [andN_u16])) ?_
 refine OA.p (some 6) (.int .i64 (((u16N ssn) : Nat) : Int)) rfl rfl rfl rfl ?_
 refine OA.nil ?_
 intro _
 refine RA.seq hd ?_
 refine RA.seq hd ?_
 refine RA.region env_ok ?_
 refine OA.p (some 40) (.int .i64 (((u16N ssn) : Nat) : Int)) rfl rfl rfl rfl ?_
 refine OA.p (some 41) (Pt n 0 0) rfl rfl rfl rfl ?_
 refine OA.p (some 42) (.slice (some ⟨jx, 0, none⟩) NX 0) rfl rfl rfl (r_load1 rfl rfl rfl rfl rfl (gt2 (by omega) get_here) rfl rfl) ?_
 refine OA.p (some 43) (.pointer (some ⟨(n + 1), 0, some 0⟩)) rfl rfl rfl rfl ?_
 refine OA.p (some 44) (.int .i64 ((t : Nat) : Int)) rfl rfl rfl (r_load1 rfl rfl rfl rfl rfl (get_there (by omega) get_here) rfl rfl) ?_
 refine OA.p (some 45) (Pt jx t 0) rfl rfl rfl (r_iaS (l := t) rfl rfl rfl rfl rfl rfl (by omega) (by omega) (gt3 (by omega) hjx) rfl (by omega)) ?_
 refine OA.p (some 46) (.int .i64 (((nx.getD t dUx).z : Nat) : Int)) rfl rfl rfl (Eq.trans (r_loadF (c := cIn) dIn rfl rfl rfl rfl rfl (gt3 (by omega) hjx) (by rw [List.length_map, hnx]; omega) rfl) (by rw [uI_get (by omega)])) ?_
 refine OA.p (some 47) (.int .i64 ((((u16N ssn) : Nat) : Int) - (((nx.getD t dUx).z : Nat) : Int))) rfl rfl rfl (r_bin rfl rfl rfl (b_sub (i64_eq (by omega)))) ?_
 have hm2 := andN_le ((((u16N ssn) : Nat) : Int) - (((nx.getD t dUx).z : Nat) : Int)) 65535 (by decide)
 refine OA.p (some 48) (.int .i64 (((u16N ((((u16N ssn) : Nat) : Int) - (((nx.getD t dUx).z : Nat) : Int))) : Nat) : Int)) rfl rfl rfl (Eq.trans (r_bin rfl rfl rfl (b_andN ((((u16N ssn) : Nat) : Int) - (((nx.getD t dUx).z : Nat) : Int)) 65535 (by decide))) (by rw [andN_u16])) ?_
 refine OA.p (some 7) (.int .i64 (((u16N ((((u16N ssn) : Nat) : Int) - (((nx.getD t dUx).z : Nat) : Int))) : Nat) : Int)) rfl rfl rfl rfl ?_
 refine OA.nil ?_
 intro _
 refine RA.rebase [(0, (.agg ⟨(xDp318 jx NX jv K ju M)⟩)), (1, (.agg ⟨[(.int .i64 ((t : Nat) : Int)), (.int .i64 ssn), (.bool false), (W pr), (.string da)]⟩)), (2, (Pt n 0 0)), (3, (.pointer (some ⟨(n + 1), 0, some 0⟩))), (4, (.pointer (some ⟨(n + 2), 0, some 0⟩))), (5, (.bool false)), (6, (.int .i64 (((u16N ssn) : Nat) : Int))), (7, (.int .i64 (((u16N ((((u16N ssn) : Nat) : Int) - (((nx.getD t dUx).z : Nat) : Int))) : Nat) : Int))), (24, (.bool false)), (27, (.bool false))] ⟨rfl, rfl, rfl, rfl, rfl, rfl, rfl, rfl, rfl, rfl, trivial⟩ (fun τr3 => ?_)
 refine RA.seq hd ?_
 refine RA.region env_ok ?_
 refine OA.p (some 49) (.int .i64 (((u16N ((((u16N ssn) : Nat) : Int) - (((nx.getD t dUx).z : Nat) : Int))) : Nat) : Int)) rfl rfl rfl rfl ?_
 by_cases hc3 : 32768 < (((u16N ((((u16N ssn) : Nat) : Int) - (((nx.getD t dUx).z : Nat) : Int))) : Nat) : Int)
 ·
  refine OA.p (some 50) (.bool true) rfl rfl rfl (Eq.trans (r_bin rfl rfl rfl (b_gtr rfl)) (dT hc3)) ?_
  refine OA.nil ?_
  intro _
  refine RA.condT rfl ?_
  refine RA.seq hd ?_
  refine RA.region env_ok ?_
  refine OA.p (some 51) (.agg ⟨(xDp318 jx NX jv K ju M)⟩) rfl rfl rfl (r_loadA rfl rfl rfl rfl (gt2 (by omega) get_here) rfl rfl rfl) ?_
  refine OA.op1 (dst := none) (v := (.tuple #[])) (n1 := (n + 3)) (w := ((n + 2), some ⟨[(xDp318 jx NX jv K ju M)], 3, 38, true⟩)) rfl rfl rfl (r_store rfl rfl rfl rfl rfl rfl rfl get_here rfl rfl (Nat.le_of_ble_eq_true rfl) rfl) (by omega) ?_
  refine OA.p (some 5) (.bool false) rfl rfl rfl rfl ?_
  refine OA.nil ?_
  intro _
  refine RA.ret env_ok ?_
  refine ⟨.inr rfl, [(.agg ⟨(xDp318 jx NX jv K ju M)⟩), (.bool false)], (resL_cons (res_cellA rfl rfl rfl get_here rfl rfl rfl) (resL_cons rfl resL_nil)), [], (Less.of (fun p hp => by simp at hp) (gone_of (by simp only [goneP, memP, List.cons_append, List.nil_append, true_or, or_true, true_and, and_true, or_false] <;> omega))), ⟨rfl, rfl⟩⟩
 ·
  have hany := any_fi.1 (hrj.resolve_left (fun hh => absurd ((less_far (u16N_lt _) hxb).1 hh) (by unfold sub16; omega)))
  refine OA.p (some 50) (.bool false) rfl rfl rfl (Eq.trans (r_bin rfl rfl rfl (b_gtr rfl)) (dF hc3)) ?_
  refine OA.nil ?_
  intro _
  refine RA.condF rfl ?_
  refine RA.skip env_ok ?_
  intro _
  refine RA.seq hd ?_
  refine RA.seq hd ?_
  refine RA.region env_ok ?_
  refine OA.p (some 8) (.int .i64 0) rfl rfl rfl rfl ?_
  refine OA.nil ?_
  intro _
  refine RA.block ?_
  refine RA.loop hd (fun kk_ τ n' D => ∃ i : Nat,  kk_ = (K - i) ∧ (n + 3) ≤ n' ∧ Has τ [(2, (Pt n 0 0)), (3, (.pointer (some ⟨(n + 1), 0, some 0⟩))), (4, (.pointer (some ⟨(n + 2), 0, some 0⟩))), (5, (.bool false)), (6, (.int .i64 (((u16N ssn) : Nat) : Int))), (8, (.int .i64 ((i : Nat) : Int)))] ∧ D = [((n + 2), some ⟨[[(.slice none 0 0), (.slice none 0 0), (.slice none 0 0)]], 3, 38, true⟩), ((n + 1), some ⟨[[(.int .i64 ((t : Nat) : Int)), (.int .i64 ssn), (.bool false), (W pr), (.string da)]], 5, 29, true⟩), (n, some ⟨[(xDp318 jx NX jv K ju M)], 3, 38, true⟩)] ∧ (∀ i ∈ keys D, i < n') ∧ i ≤ K ∧ i ≤ ws.findIdx (qq ((t : Nat) : Int) (u16N ssn))) ((K - 0)) ⟨0, rfl, by omega, ⟨rfl, rfl, rfl, rfl, rfl, rfl, trivial⟩, rfl, (kb3 (by omega)), ⟨by omega, by omega⟩⟩ ?_
  rintro kn4 τ4 n4 _ ⟨i, rfl, hn4, hHn4, rfl, hKn4, hIn4⟩
  rw [Has.eq hHn4]
  have hKn4_0 : (n + 2) < n4 := hKn4 _ (by simp only [keys, List.map_cons, List.map_nil, List.mem_cons, true_or, or_true])
  have hKn4_1 : (n + 1) < n4 := hKn4 _ (by simp only [keys, List.map_cons, List.map_nil, List.mem_cons, true_or, or_true])
  have hKn4_2 : n < n4 := hKn4 _ (by simp only [keys, List.map_cons, List.map_nil, List.mem_cons, true_or, or_true])
  simp only [keys, List.map, List.forall_mem_cons, List.mem_cons, List.not_mem_nil, false_imp_iff, implies_true, and_true] at hKn4
  obtain ⟨hi1, hi2⟩ := hIn4
  refine RA.seq hd ?_
  refine RA.seq hd ?_
  refine RA.region env_ok ?_
  refine OA.p (some 52) (.int .i64 ((i : Nat) : Int)) rfl rfl rfl rfl ?_
  refine OA.p (some 53) (Pt n 0 1) rfl rfl rfl rfl ?_
  refine OA.p (some 54) (.slice (some ⟨jv, 0, none⟩) K 2) rfl rfl rfl (r_load1 rfl rfl rfl rfl rfl (gt2 (by omega) get_here) rfl rfl) ?_
  refine OA.p (some 55) (.int .i64 ((K : Nat) : Int)) rfl rfl rfl rfl ?_
  have hc4 : ((i : Nat) : Int) < ((K : Nat) : Int) := Classical.byContradiction (fun hdd => by exfalso; omega)
  refine OA.p (some 56) (.bool true) rfl rfl rfl (Eq.trans (r_bin rfl rfl rfl (b_lss rfl)) (dT hc4)) ?_
  refine OA.nil ?_
  intro _
  refine RA.condT rfl ?_
  refine RA.skip env_ok ?_
  intro _
  refine RA.seq hd ?_
  refine RA.block ?_
  refine RA.seq hd ?_
  refine RA.par (md := [some [], some [n], some [], none, some [], none, some [], some [(n + 1)], some [], some [], some [], some [n], some [], none, some [], none, some [], some [], some [], some []]) env_ok (hd.of (by omega) (kb3 (by omega))) (by kernel_rfl) ?_
  refine PQ.pure (dst := (some 59)) (v := (Pt n 0 1)) rfl rfl rfl noStore (none_ok _ _) rfl ?_
  refine PQ.pure (dst := (some 60)) (v := (.slice (some ⟨jv, 0, none⟩) K 2)) rfl rfl rfl (app [(n, some ⟨[(xDp318 jx NX jv K ju M)], 3, 38, true⟩)] noStore) (seen_one (V := []) (D := [((n + 2), some ⟨[[(.slice none 0 0), (.slice none 0 0), (.slice none 0 0)]], 3, 38, true⟩), ((n + 1), some ⟨[[(.int .i64 ((t : Nat) : Int)), (.int .i64 ssn), (.bool false), (W pr), (.string da)]], 5, 29, true⟩), (n, some ⟨[(xDp318 jx NX jv K ju M)], 3, 38, true⟩)]) (by kernel_rfl) (gt2 (by omega) get_here)) (r_load1 rfl rfl rfl rfl rfl get_here rfl rfl) ?_
  refine PQ.pure (dst := (some 61)) (v := (.int .i64 ((i : Nat) : Int))) rfl rfl rfl noStore (none_ok _ _) rfl ?_
  refine PQ.pure (dst := (some 62)) (v := (Pt jv i 0)) rfl rfl rfl _ (seen_any (V := []) (D := [((n + 2), some ⟨[[(.slice none 0 0), (.slice none 0 0), (.slice none 0 0)]], 3, 38, true⟩), ((n + 1), some ⟨[[(.int .i64 ((t : Nat) : Int)), (.int .i64 ssn), (.bool false), (W pr), (.string da)]], 5, 29, true⟩), (n, some ⟨[(xDp318 jx NX jv K ju M)], 3, 38, true⟩)]) (by kernel_rfl)) (r_iaS (l := i) rfl rfl rfl rfl rfl rfl (by omega) (by omega) (gt3 (by omega) hjv) rfl (by omega)) ?_
  refine PQ.pure (dst := (some 63)) (v := (Pt jv i 0)) rfl rfl rfl noStore (none_ok _ _) rfl ?_
  refine PQ.pure (dst := (some 64)) (v := (.int .i64 (ws.getD i dMsg).st)) rfl rfl rfl _ (seen_any (V := []) (D := [((n + 2), some ⟨[[(.slice none 0 0), (.slice none 0 0), (.slice none 0 0)]], 3, 38, true⟩), ((n + 1), some ⟨[[(.int .i64 ((t : Nat) : Int)), (.int .i64 ssn), (.bool false), (W pr), (.string da)]], 5, 29, true⟩), (n, some ⟨[(xDp318 jx NX jv K ju M)], 3, 38, true⟩)]) (by kernel_rfl)) (r_loadF (c := cMsg) dMsg rfl rfl rfl rfl rfl (gt3 (by omega) hjv) (by rw [hws]; omega) rfl) ?_
  refine PQ.pure (dst := (some 65)) (v := (.pointer (some ⟨(n + 1), 0, some 0⟩))) rfl rfl rfl noStore (none_ok _ _) rfl ?_
  refine PQ.pure (dst := (some 66)) (v := (.int .i64 ((t : Nat) : Int))) rfl rfl rfl (app [((n + 1), some ⟨[[(.int .i64 ((t : Nat) : Int)), (.int .i64 ssn), (.bool false), (W pr), (.string da)]], 5, 29, true⟩)] noStore) (seen_one (V := []) (D := [((n + 2), some ⟨[[(.slice none 0 0), (.slice none 0 0), (.slice none 0 0)]], 3, 38, true⟩), ((n + 1), some ⟨[[(.int .i64 ((t : Nat) : Int)), (.int .i64 ssn), (.bool false), (W pr), (.string da)]], 5, 29, true⟩), (n, some ⟨[(xDp318 jx NX jv K ju M)], 3, 38, true⟩)]) (by kernel_rfl) (get_there (by omega) get_here)) (r_load1 rfl rfl rfl rfl rfl get_here rfl rfl) ?_
  by_cases hc5 : (ws.getD i dMsg).st = ((t : Nat) : Int)
  ·
   refine PQ.pure (dst := (some 67)) (v := (.bool true)) rfl rfl rfl noStore (none_ok _ _) (Eq.trans (r_bin rfl rfl rfl (b_eql rfl)) (dT hc5)) ?_
   refine PQ.pure (dst := (some 68)) (v := (.bool true)) rfl rfl rfl noStore (none_ok _ _) rfl ?_
   refine PQ.pure (dst := (some 69)) (v := (Pt n 0 1)) rfl rfl rfl noStore (none_ok _ _) rfl ?_
   refine PQ.pure (dst := (some 70)) (v := (.slice (some ⟨jv, 0, none⟩) K 2)) rfl rfl rfl (app [(n, some ⟨[(xDp318 jx NX jv K ju M)], 3, 38, true⟩)] noStore) (seen_one (V := []) (D := [((n + 2), some ⟨[[(.slice none 0 0), (.slice none 0 0), (.slice none 0 0)]], 3, 38, true⟩), ((n + 1), some ⟨[[(.int .i64 ((t : Nat) : Int)), (.int .i64 ssn), (.bool false), (W pr), (.string da)]], 5, 29, true⟩), (n, some ⟨[(xDp318 jx NX jv K ju M)], 3, 38, true⟩)]) (by kernel_rfl) (gt2 (by omega) get_here)) (r_load1 rfl rfl rfl rfl rfl get_here rfl rfl) ?_
   refine PQ.pure (dst := (some 71)) (v := (.int .i64 ((i : Nat) : Int))) rfl rfl rfl noStore (none_ok _ _) rfl ?_
   refine PQ.pure (dst := (some 72)) (v := (Pt jv i 0)) rfl rfl rfl _ (seen_any (V := []) (D := [((n + 2), some ⟨[[(.slice none 0 0), (.slice none 0 0), (.slice none 0 0)]], 3, 38, true⟩), ((n + 1), some ⟨[[(.int .i64 ((t : Nat) : Int)), (.int .i64 ssn), (.bool false), (W pr), (.string da)]], 5, 29, true⟩), (n, some ⟨[(xDp318 jx NX jv K ju M)], 3, 38, true⟩)]) (by kernel_rfl)) (r_iaS (l := i) rfl rfl rfl rfl rfl rfl (by omega) (by omega) (gt3 (by omega) hjv) rfl (by omega)) ?_
   refine PQ.pure (dst := (some 73)) (v := (Pt jv i 1)) rfl rfl rfl noStore (none_ok _ _) rfl ?_
   refine PQ.pure (dst := (some 74)) (v := (.int .i64 (ws.getD i dMsg).ssn)) rfl rfl rfl _ (seen_any (V := []) (D := [((n + 2), some ⟨[[(.slice none 0 0), (.slice none 0 0), (.slice none 0 0)]], 3, 38, true⟩), ((n + 1), some ⟨[[(.int .i64 ((t : Nat) : Int)), (.int .i64 ssn), (.bool false), (W pr), (.string da)]], 5, 29, true⟩), (n, some ⟨[(xDp318 jx NX jv K ju M)], 3, 38, true⟩)]) (by kernel_rfl)) (r_loadF (c := cMsg) dMsg rfl rfl rfl rfl rfl (gt3 (by omega) hjv) (by rw [hws]; omega) rfl) ?_
   have hm5 := andN_le (ws.getD i dMsg).ssn 65535 (by decide)
   refine PQ.pure (dst := (some 75)) (v := (.int .i64 (((u16N (ws.getD i dMsg).ssn) : Nat) : Int))) rfl rfl rfl noStore (none_ok _ _) (Eq.trans (r_bin rfl rfl rfl (b_andN (ws.getD i dMsg).ssn 65535 (by decide))) (by rw [andN_u16])) ?_
   refine PQ.pure (dst := (some 76)) (v := (.int .i64 (((u16N ssn) : Nat) : Int))) rfl rfl rfl noStore (none_ok _ _) rfl ?_
   by_cases hc6 : (((u16N (ws.getD i dMsg).ssn) : Nat) : Int) = (((u16N ssn) : Nat) : Int)
   ·
    have hfo := fi_found (d := dMsg) (p := (qq ((t : Nat) : Int) (u16N ssn))) (by omega) (qT ⟨hc5, hc6⟩) hi2
    refine PQ.pure (dst := (some 77)) (v := (.bool true)) rfl rfl rfl noStore (none_ok _ _) (Eq.trans (r_bin rfl rfl rfl (b_eql rfl)) (dT hc6)) ?_
    refine PQ.pure (dst := (some 78)) (v := (.bool true)) rfl rfl rfl noStore (none_ok _ _) rfl ?_
    refine PQ.done (d := []) (by kernel_rfl) ?_
    intro _
    refine RA.rebase [(2, (Pt n 0 0)), (3, (.pointer (some ⟨(n + 1), 0, some 0⟩))), (4, (.pointer (some ⟨(n + 2), 0, some 0⟩))), (5, (.bool false)), (6, (.int .i64 (((u16N ssn) : Nat) : Int))), (8, (.int .i64 ((i : Nat) : Int))), (56, (.bool true)), (78, (.bool true))] ⟨rfl, rfl, rfl, rfl, rfl, rfl, rfl, rfl, trivial⟩ (fun τr6 => ?_)
    refine RA.condT rfl ?_
    refine RA.seq hd ?_
    refine RA.region env_ok ?_
    refine OA.p (some 79) (.agg ⟨(xDp318 jx NX jv K ju M)⟩) rfl rfl rfl (r_loadA rfl rfl rfl rfl (gt2 (by omega) get_here) rfl rfl rfl) ?_
    refine OA.op1 (dst := none) (v := (.tuple #[])) (n1 := n4) (w := ((n + 2), some ⟨[(xDp318 jx NX jv K ju M)], 3, 38, true⟩)) rfl rfl rfl (r_store rfl rfl rfl rfl rfl rfl rfl get_here rfl rfl (Nat.le_of_ble_eq_true rfl) rfl) (by omega) ?_
    refine OA.p (some 5) (.bool false) rfl rfl rfl rfl ?_
    refine OA.nil ?_
    intro _
    refine RA.ret env_ok ?_
    refine ⟨.inr rfl, [(.agg ⟨(xDp318 jx NX jv K ju M)⟩), (.bool false)], (resL_cons (res_cellA rfl rfl rfl get_here rfl rfl rfl) (resL_cons rfl resL_nil)), [], (Less.of (fun p hp => by simp at hp) (gone_of (by simp only [goneP, memP, List.cons_append, List.nil_append, true_or, or_true, true_and, and_true, or_false] <;> omega))), ⟨rfl, rfl⟩⟩
   ·
    have hst := fi_step (d := dMsg) (p := (qq ((t : Nat) : Int) (u16N ssn))) (by omega) (fun hh => hc6 (of_decide_eq_true hh).2) hi2
    refine PQ.pure (dst := (some 77)) (v := (.bool false)) rfl rfl rfl noStore (none_ok _ _) (Eq.trans (r_bin rfl rfl rfl (b_eql rfl)) (dF hc6)) ?_
    refine PQ.pure (dst := (some 78)) (v := (.bool false)) rfl rfl rfl noStore (none_ok _ _) rfl ?_
    refine PQ.done (d := []) (by kernel_rfl) ?_
    intro _
    refine RA.rebase [(2, (Pt n 0 0)), (3, (.pointer (some ⟨(n + 1), 0, some 0⟩))), (4, (.pointer (some ⟨(n + 2), 0, some 0⟩))), (5, (.bool false)), (6, (.int .i64 (((u16N ssn) : Nat) : Int))), (8, (.int .i64 ((i : Nat) : Int))), (56, (.bool true)), (78, (.bool false))] ⟨rfl, rfl, rfl, rfl, rfl, rfl, rfl, rfl, trivial⟩ (fun τr7 => ?_)
    refine RA.condF rfl ?_
    refine RA.skip env_ok ?_
    intro _
    refine RA.region env_ok ?_
    refine OA.p (some 57) (.int .i64 ((i : Nat) : Int)) rfl rfl rfl rfl ?_
    refine OA.p (some 58) (.int .i64 (((i + 1) : Nat) : Int)) rfl rfl rfl (r_bin rfl rfl rfl (b_add (i64_eq (by omega)))) ?_
    refine OA.p (some 8) (.int .i64 (((i + 1) : Nat) : Int)) rfl rfl rfl rfl ?_
    refine OA.nil ?_
    refine ⟨(K - (i + 1)), by omega, [((n + 2), some ⟨[[(.slice none 0 0), (.slice none 0 0), (.slice none 0 0)]], 3, 38, true⟩), ((n + 1), some ⟨[[(.int .i64 ((t : Nat) : Int)), (.int .i64 ssn), (.bool false), (W pr), (.string da)]], 5, 29, true⟩), (n, some ⟨[(xDp318 jx NX jv K ju M)], 3, 38, true⟩)], (Less.refl _ _ _), (i + 1), rfl, by omega, ⟨rfl, rfl, rfl, rfl, rfl, rfl, trivial⟩, rfl, (kb3 (by omega)), ⟨by omega, hst⟩⟩
  ·
   have hst := fi_step (d := dMsg) (p := (qq ((t : Nat) : Int) (u16N ssn))) (by omega) (fun hh => hc5 (of_decide_eq_true hh).1) hi2
   refine PQ.pure (dst := (some 67)) (v := (.bool false)) rfl rfl rfl noStore (none_ok _ _) (Eq.trans (r_bin rfl rfl rfl (b_eql rfl)) (dF hc5)) ?_
   refine PQ.pure (dst := (some 68)) (v := (.bool false)) rfl rfl rfl noStore (none_ok _ _) rfl ?_
   refine PQ.off (dst := (some 69)) rfl rfl rfl ?_
   refine PQ.off (dst := (some 70)) rfl rfl rfl ?_
   refine PQ.off (dst := (some 71)) rfl rfl rfl ?_
   refine PQ.off (dst := (some 72)) rfl rfl rfl ?_
   refine PQ.off (dst := (some 73)) rfl rfl rfl ?_
   refine PQ.off (dst := (some 74)) rfl rfl rfl ?_
   refine PQ.off (dst := (some 75)) rfl rfl rfl ?_
   refine PQ.off (dst := (some 76)) rfl rfl rfl ?_
   refine PQ.off (dst := (some 77)) rfl rfl rfl ?_
   refine PQ.pure (dst := (some 78)) (v := (.bool false)) rfl rfl rfl noStore (none_ok _ _) rfl ?_
   refine PQ.done (d := []) (by kernel_rfl) ?_
   intro _
   refine RA.rebase [(2, (Pt n 0 0)), (3, (.pointer (some ⟨(n + 1), 0, some 0⟩))), (4, (.pointer (some ⟨(n + 2), 0, some 0⟩))), (5, (.bool false)), (6, (.int .i64 (((u16N ssn) : Nat) : Int))), (8, (.int .i64 ((i : Nat) : Int))), (56, (.bool true)), (78, (.bool false))] ⟨rfl, rfl, rfl, rfl, rfl, rfl, rfl, rfl, trivial⟩ (fun τr8 => ?_)
   refine RA.condF rfl ?_
   refine RA.skip env_ok ?_
   intro _
   refine RA.region env_ok ?_
   refine OA.p (some 57) (.int .i64 ((i : Nat) : Int)) rfl rfl rfl rfl ?_
   refine OA.p (some 58) (.int .i64 (((i + 1) : Nat) : Int)) rfl rfl rfl (r_bin rfl rfl rfl (b_add (i64_eq (by omega)))) ?_
   refine OA.p (some 8) (.int .i64 (((i + 1) : Nat) : Int)) rfl rfl rfl rfl ?_
   refine OA.nil ?_
   refine ⟨(K - (i + 1)), by omega, [((n + 2), some ⟨[[(.slice none 0 0), (.slice none 0 0), (.slice none 0 0)]], 3, 38, true⟩), ((n + 1), some ⟨[[(.int .i64 ((t : Nat) : Int)), (.int .i64 ssn), (.bool false), (W pr), (.string da)]], 5, 29, true⟩), (n, some ⟨[(xDp318 jx NX jv K ju M)], 3, 38, true⟩)], (Less.refl _ _ _), (i + 1), rfl, by omega, ⟨rfl, rfl, rfl, rfl, rfl, rfl, trivial⟩, rfl, (kb3 (by omega)), ⟨by omega, hst⟩⟩

set_option maxHeartbeats 4000000 in
theorem rPutT0 {n : Nat} {σ : Store} (hd : Dom n σ) (jx jv ju t NX K M : Nat) (nx : List Ux) (ws L2 : List Msg) (hnx : nx.length = NX) (hxb : (nx.getD t dUx).z < 65536) (hws : ws.length = K) (hL2 : L2.length = M) (ht : t < NX) (hN : NX ≤ 1000) (hK : K ≤ 900) (hM : M ≤ 100000) (ssn : Int) (pr : BitVec 32) (da : ByteArray) (hrj : ¬ (less16 (u16N ssn) (nx.getD t dUx).z ∨ ws.any (qq ((t : Nat) : Int) (u16N ssn)) = true)) (R : Nat × List Msg × List Msg) (hR : goS ((t : Nat) : Int) (K + 1) (nx.getD t dUx).z (ws ++ [(Msg.mk ((t : Nat) : Int) ssn false pr da)]) L2 = R) (hjx : σ jx = some (oIn (nx.map uI))) (hjv : σ jv = some (oMsg ws)) (hju : σ ju = some (oMsg L2))  : CQ Try.prog noDen 18 [(.agg ⟨[(.slice (some ⟨jx, 0, none⟩) NX 0), (.slice (some ⟨jv, 0, none⟩) K 2), (.slice (some ⟨ju, 0, none⟩) M 2)]⟩), (.agg ⟨[(.int .i64 ((t : Nat) : Int)), (.int .i64 ssn), (.bool false), (W pr), (.string da)]⟩)] n σ (fun v n' d => ∃ jx2 jv2 ju2, n ≤ jx2 ∧ jx2 < n' ∧ n ≤ jv2 ∧ jv2 < n' ∧ n ≤ ju2 ∧ ju2 < n' ∧ jx2 ≠ jv2 ∧ jx2 ≠ ju2 ∧ jv2 ≠ ju2 ∧ ∃ K2 M2, R.2.1.length = K2 ∧ R.2.2.length = M2 ∧ K2 + M2 = K + 1 + M ∧ v = .tuple #[(.agg ⟨[(.slice (some ⟨jx2, 0, none⟩) NX 0), (.slice (some ⟨jv2, 0, none⟩) K2 2), (.slice (some ⟨ju2, 0, none⟩) M2 2)]⟩), .bool true] ∧ d = [(jx2, some (oIn ((nx.set t (Ux.mk R.1)).map uI))), (jv2, some (oMsg R.2.1)), (ju2, some (oMsg R.2.2)), (ju, none)]) := by
 have lhjx := hd.lt hjx
 have lhjv := hd.lt hjv
 have lhju := hd.lt hju
 have hub := u16N_lt ssn
 refine CQ.body (E := env) env_ok hd rfl rfl (by show _ ≤ _; exact of_decide_eq_true (by kernel_rfl)) ?_
 refine RA.seq hd ?_
 refine RA.region env_ok ?_
 refine OA.op1 (dst := (some 2)) (v := (Pt n 0 0)) (n1 := (n + 1)) (w := (n, some ⟨[(xDp318 jx NX jv K ju M)], 3, 38, true⟩)) rfl rfl rfl rfl (by omega) ?_
 refine OA.op1 (dst := (some 3)) (v := (.pointer (some ⟨(n + 1), 0, some 0⟩))) (n1 := (n + 2)) (w := ((n + 1), some ⟨[[(.int .i64 ((t : Nat) : Int)), (.int .i64 ssn), (.bool false), (W pr), (.string da)]], 5, 29, true⟩)) rfl rfl rfl rfl (by omega) ?_
 refine OA.op1 (dst := (some 4)) (v := (.pointer (some ⟨(n + 2), 0, some 0⟩))) (n1 := (n + 3)) (w := ((n + 2), some ⟨[[(.slice none 0 0), (.slice none 0 0), (.slice none 0 0)]], 3, 38, true⟩)) rfl rfl rfl rfl (by omega) ?_
 refine OA.p (some 5) (.bool false) rfl rfl rfl rfl ?_
 refine OA.nil ?_
 intro _
 refine RA.seq hd ?_
 refine RA.seq hd ?_
 refine RA.region env_ok ?_
 refine OA.p (some 14) (.pointer (some ⟨(n + 1), 0, some 0⟩)) rfl rfl rfl rfl ?_
 refine OA.p (some 15) (.int .i64 ((t : Nat) : Int)) rfl rfl rfl (r_load1 rfl rfl rfl rfl rfl (get_there (by omega) get_here) rfl rfl) ?_
 have hc1 : ¬ (((t : Nat) : Int) < 0) := fun hdd => by exfalso; first | omega | exact hrj (.inl ((less_far (u16N_lt _) hxb).2 (by unfold sub16; omega))) | exact hrj (.inr (List.any_eq_true.2 ⟨ws.getD i dMsg, getD_mem (by omega), qT ⟨by assumption, hdd⟩⟩))
 refine OA.p (some 16) (.bool false) rfl rfl rfl (Eq.trans (r_bin rfl rfl rfl (b_lss rfl)) (dF hc1)) ?_
 refine OA.p (some 17) (.bool false) rfl rfl rfl rfl ?_
 refine OA.p (some 18) (.pointer (some ⟨(n + 1), 0, some 0⟩)) rfl rfl rfl rfl ?_
 refine OA.p (some 19) (.int .i64 ((t : Nat) : Int)) rfl rfl rfl (r_load1 rfl rfl rfl rfl rfl (get_there (by omega) get_here) rfl rfl) ?_
 refine OA.p (some 20) (Pt n 0 0) rfl rfl rfl rfl ?_
 refine OA.p (some 21) (.slice (some ⟨jx, 0, none⟩) NX 0) rfl rfl rfl (r_load1 rfl rfl rfl rfl rfl (gt2 (by omega) get_here) rfl rfl) ?_
 refine OA.p (some 22) (.int .i64 ((NX : Nat) : Int)) rfl rfl rfl rfl ?_
 have hc2 : ¬ (((NX : Nat) : Int) ≤ ((t : Nat) : Int)) := fun hdd => by exfalso; first | omega | exact hrj (.inl ((less_far (u16N_lt _) hxb).2 (by unfold sub16; omega))) | exact hrj (.inr (List.any_eq_true.2 ⟨ws.getD i dMsg, getD_mem (by omega), qT ⟨by assumption, hdd⟩⟩))
 refine OA.p (some 23) (.bool false) rfl rfl rfl (Eq.trans (r_bin rfl rfl rfl (b_geq rfl)) (dF hc2)) ?_
 refine OA.p (some 24) (.bool false) rfl rfl rfl rfl ?_
 refine OA.nil ?_
 intro _
 refine RA.condF rfl ?_
 refine RA.skip env_ok ?_
 intro _
 refine RA.seq hd ?_
 refine RA.seq hd ?_
 refine RA.region env_ok ?_
 refine OA.p (some 26) (.pointer (some ⟨(n + 1), 0, some 2⟩)) rfl rfl rfl rfl ?_
 refine OA.p (some 27) (.bool false) rfl rfl rfl (r_load1 rfl rfl rfl rfl rfl (get_there (by omega) get_here) rfl rfl) ?_
 refine OA.nil ?_
 intro _
 refine RA.condF rfl ?_
 refine RA.skip env_ok ?_
 intro _
 refine RA.seq hd ?_
 refine RA.region env_ok ?_
 refine OA.p (some 37) (.pointer (some ⟨(n + 1), 0, some 1⟩)) rfl rfl rfl rfl ?_
 refine OA.p (some 38) (.int .i64 ssn) rfl rfl rfl (r_load1 rfl rfl rfl rfl rfl (get_there (by omega) get_here) rfl rfl) ?_
 have hm1 := andN_le ssn 65535 (by decide)
 refine OA.p (some 39) (.int .i64 (((u16N ssn) : Nat) : Int)) rfl rfl rfl (Eq.trans (r_bin rfl rfl rfl (b_andN ssn 65535 (by decide))) (by rw [andN_u16])) ?_
 refine OA.p (some 6) (.int .i64 (((u16N ssn) : Nat) : Int)) rfl rfl rfl rfl ?_
 refine OA.nil ?_
 intro _
 refine RA.seq hd ?_
 refine RA.seq hd ?_
 refine RA.region env_ok ?_
 refine OA.p (some 40) (.int .i64 (((u16N ssn) : Nat) : Int)) rfl rfl rfl rfl ?_
 refine OA.p (some 41) (Pt n 0 0) rfl rfl rfl rfl ?_
 refine OA.p (some 42) (.slice (some ⟨jx, 0, none⟩) NX 0) rfl rfl rfl (r_load1 rfl rfl rfl rfl rfl (gt2 (by omega) get_here) rfl rfl) ?_
 refine OA.p (some 43) (.pointer (some ⟨(n + 1), 0, some 0⟩)) rfl rfl rfl rfl ?_
 refine OA.p (some 44) (.int .i64 ((t : Nat) : Int)) rfl rfl rfl (r_load1 rfl rfl rfl rfl rfl (get_there (by omega) get_here) rfl rfl) ?_
 refine OA.p (some 45) (Pt jx t 0) rfl rfl rfl (r_iaS (l := t) rfl rfl rfl rfl rfl rfl (by omega) (by omega) (gt3 (by omega) hjx) rfl (by omega)) ?_
 refine OA.p (some 46) (.int .i64 (((nx.getD t dUx).z : Nat) : Int)) rfl rfl rfl (Eq.trans (r_loadF (c := cIn) dIn rfl rfl rfl rfl rfl (gt3 (by omega) hjx) (by rw [List.length_map, hnx]; omega) rfl) (by rw [uI_get (by omega)])) ?_
 refine OA.p (some 47) (.int .i64 ((((u16N ssn) : Nat) : Int) - (((nx.getD t dUx).z : Nat) : Int))) rfl rfl rfl (r_bin rfl rfl rfl (b_sub (i64_eq (by omega)))) ?_
 have hm2 := andN_le ((((u16N ssn) : Nat) : Int) - (((nx.getD t dUx).z : Nat) : Int)) 65535 (by decide)
 refine OA.p (some 48) (.int .i64 (((u16N ((((u16N ssn) : Nat) : Int) - (((nx.getD t dUx).z : Nat) : Int))) : Nat) : Int)) rfl rfl rfl (Eq.trans (r_bin rfl rfl rfl (b_andN ((((u16N ssn) : Nat) : Int) - (((nx.getD t dUx).z : Nat) : Int)) 65535 (by decide))) (by rw [andN_u16])) ?_
 refine OA.p (some 7) (.int .i64 (((u16N ((((u16N ssn) : Nat) : Int) - (((nx.getD t dUx).z : Nat) : Int))) : Nat) : Int)) rfl rfl rfl rfl ?_
 refine OA.nil ?_
 intro _
 refine RA.rebase [(0, (.agg ⟨(xDp318 jx NX jv K ju M)⟩)), (1, (.agg ⟨[(.int .i64 ((t : Nat) : Int)), (.int .i64 ssn), (.bool false), (W pr), (.string da)]⟩)), (2, (Pt n 0 0)), (3, (.pointer (some ⟨(n + 1), 0, some 0⟩))), (4, (.pointer (some ⟨(n + 2), 0, some 0⟩))), (5, (.bool false)), (6, (.int .i64 (((u16N ssn) : Nat) : Int))), (7, (.int .i64 (((u16N ((((u16N ssn) : Nat) : Int) - (((nx.getD t dUx).z : Nat) : Int))) : Nat) : Int))), (24, (.bool false)), (27, (.bool false))] ⟨rfl, rfl, rfl, rfl, rfl, rfl, rfl, rfl, rfl, rfl, trivial⟩ (fun τr3 => ?_)
 refine RA.seq hd ?_
 refine RA.region env_ok ?_
 refine OA.p (some 49) (.int .i64 (((u16N ((((u16N ssn) : Nat) : Int) - (((nx.getD t dUx).z : Nat) : Int))) : Nat) : Int)) rfl rfl rfl rfl ?_
 have hc3 : ¬ (32768 < (((u16N ((((u16N ssn) : Nat) : Int) - (((nx.getD t dUx).z : Nat) : Int))) : Nat) : Int)) := fun hdd => by exfalso; first | omega | exact hrj (.inl ((less_far (u16N_lt _) hxb).2 (by unfold sub16; omega))) | exact hrj (.inr (List.any_eq_true.2 ⟨ws.getD i dMsg, getD_mem (by omega), qT ⟨by assumption, hdd⟩⟩))
 refine OA.p (some 50) (.bool false) rfl rfl rfl (Eq.trans (r_bin rfl rfl rfl (b_gtr rfl)) (dF hc3)) ?_
 refine OA.nil ?_
 intro _
 refine RA.condF rfl ?_
 refine RA.skip env_ok ?_
 intro _
 refine RA.seq hd ?_
 refine RA.seq hd ?_
 refine RA.region env_ok ?_
 refine OA.p (some 8) (.int .i64 0) rfl rfl rfl rfl ?_
 refine OA.nil ?_
 intro _
 refine RA.block ?_
 refine RA.loop hd (fun kk_ τ n' D => ∃ i : Nat,  kk_ = (K - i) ∧ (n + 3) ≤ n' ∧ Has τ [(2, (Pt n 0 0)), (3, (.pointer (some ⟨(n + 1), 0, some 0⟩))), (4, (.pointer (some ⟨(n + 2), 0, some 0⟩))), (5, (.bool false)), (6, (.int .i64 (((u16N ssn) : Nat) : Int))), (8, (.int .i64 ((i : Nat) : Int)))] ∧ D = [((n + 2), some ⟨[[(.slice none 0 0), (.slice none 0 0), (.slice none 0 0)]], 3, 38, true⟩), ((n + 1), some ⟨[[(.int .i64 ((t : Nat) : Int)), (.int .i64 ssn), (.bool false), (W pr), (.string da)]], 5, 29, true⟩), (n, some ⟨[(xDp318 jx NX jv K ju M)], 3, 38, true⟩)] ∧ (∀ i ∈ keys D, i < n') ∧ i ≤ K ∧ i ≤ ws.findIdx (qq ((t : Nat) : Int) (u16N ssn))) ((K - 0)) ⟨0, rfl, by omega, ⟨rfl, rfl, rfl, rfl, rfl, rfl, trivial⟩, rfl, (kb3 (by omega)), ⟨by omega, by omega⟩⟩ ?_
 rintro kn4 τ4 n4 _ ⟨i, rfl, hn4, hHn4, rfl, hKn4, hIn4⟩
 rw [Has.eq hHn4]
 have hKn4_0 : (n + 2) < n4 := hKn4 _ (by simp only [keys, List.map_cons, List.map_nil, List.mem_cons, true_or, or_true])
 have hKn4_1 : (n + 1) < n4 := hKn4 _ (by simp only [keys, List.map_cons, List.map_nil, List.mem_cons, true_or, or_true])
 have hKn4_2 : n < n4 := hKn4 _ (by simp only [keys, List.map_cons, List.map_nil, List.mem_cons, true_or, or_true])
 simp only [keys, List.map, List.forall_mem_cons, List.mem_cons, List.not_mem_nil, false_imp_iff, implies_true, and_true] at hKn4
 obtain ⟨hi1, hi2⟩ := hIn4
 refine RA.seq hd ?_
 refine RA.seq hd ?_
 refine RA.region env_ok ?_
 refine OA.p (some 52) (.int .i64 ((i : Nat) : Int)) rfl rfl rfl rfl ?_
 refine OA.p (some 53) (Pt n 0 1) rfl rfl rfl rfl ?_
 refine OA.p (some 54) (.slice (some ⟨jv, 0, none⟩) K 2) rfl rfl rfl (r_load1 rfl rfl rfl rfl rfl (gt2 (by omega) get_here) rfl rfl) ?_
 refine OA.p (some 55) (.int .i64 ((K : Nat) : Int)) rfl rfl rfl rfl ?_
 by_cases hc4 : ((i : Nat) : Int) < ((K : Nat) : Int)
 ·
  refine OA.p (some 56) (.bool true) rfl rfl rfl (Eq.trans (r_bin rfl rfl rfl (b_lss rfl)) (dT hc4)) ?_
  refine OA.nil ?_
  intro _
  refine RA.condT rfl ?_
  refine RA.skip env_ok ?_
  intro _
  refine RA.seq hd ?_
  refine RA.block ?_
  refine RA.seq hd ?_
  refine RA.par (md := [some [], some [n], some [], some [jv], some [], some [jv], some [], some [(n + 1)], some [], some [], some [], some [n], some [], some [jv], some [], some [jv], some [], some [], some [], some []]) env_ok (hd.of (by omega) (kb3 (by omega))) (by kernel_rfl) ?_
  refine PQ.pure (dst := (some 59)) (v := (Pt n 0 1)) rfl rfl rfl noStore (none_ok _ _) rfl ?_
  refine PQ.pure (dst := (some 60)) (v := (.slice (some ⟨jv, 0, none⟩) K 2)) rfl rfl rfl (app [(n, some ⟨[(xDp318 jx NX jv K ju M)], 3, 38, true⟩)] noStore) (seen_one (V := []) (D := [((n + 2), some ⟨[[(.slice none 0 0), (.slice none 0 0), (.slice none 0 0)]], 3, 38, true⟩), ((n + 1), some ⟨[[(.int .i64 ((t : Nat) : Int)), (.int .i64 ssn), (.bool false), (W pr), (.string da)]], 5, 29, true⟩), (n, some ⟨[(xDp318 jx NX jv K ju M)], 3, 38, true⟩)]) (by kernel_rfl) (gt2 (by omega) get_here)) (r_load1 rfl rfl rfl rfl rfl get_here rfl rfl) ?_
  refine PQ.pure (dst := (some 61)) (v := (.int .i64 ((i : Nat) : Int))) rfl rfl rfl noStore (none_ok _ _) rfl ?_
  refine PQ.pure (dst := (some 62)) (v := (Pt jv i 0)) rfl rfl rfl (app [(jv, some (oMsg ws))] noStore) (seen_one (V := []) (D := [((n + 2), some ⟨[[(.slice none 0 0), (.slice none 0 0), (.slice none 0 0)]], 3, 38, true⟩), ((n + 1), some ⟨[[(.int .i64 ((t : Nat) : Int)), (.int .i64 ssn), (.bool false), (W pr), (.string da)]], 5, 29, true⟩), (n, some ⟨[(xDp318 jx NX jv K ju M)], 3, 38, true⟩)]) (by kernel_rfl) (gt3 (by omega) hjv)) (r_iaS (l := i) rfl rfl rfl rfl rfl rfl (by omega) (by omega) get_here rfl (by omega)) ?_
  refine PQ.pure (dst := (some 63)) (v := (Pt jv i 0)) rfl rfl rfl noStore (none_ok _ _) rfl ?_
  refine PQ.pure (dst := (some 64)) (v := (.int .i64 (ws.getD i dMsg).st)) rfl rfl rfl (app [(jv, some (oMsg ws))] noStore) (seen_one (V := []) (D := [((n + 2), some ⟨[[(.slice none 0 0), (.slice none 0 0), (.slice none 0 0)]], 3, 38, true⟩), ((n + 1), some ⟨[[(.int .i64 ((t : Nat) : Int)), (.int .i64 ssn), (.bool false), (W pr), (.string da)]], 5, 29, true⟩), (n, some ⟨[(xDp318 jx NX jv K ju M)], 3, 38, true⟩)]) (by kernel_rfl) (gt3 (by omega) hjv)) (r_loadF (c := cMsg) dMsg rfl rfl rfl rfl rfl get_here (by rw [hws]; omega) rfl) ?_
  refine PQ.pure (dst := (some 65)) (v := (.pointer (some ⟨(n + 1), 0, some 0⟩))) rfl rfl rfl noStore (none_ok _ _) rfl ?_
  refine PQ.pure (dst := (some 66)) (v := (.int .i64 ((t : Nat) : Int))) rfl rfl rfl (app [((n + 1), some ⟨[[(.int .i64 ((t : Nat) : Int)), (.int .i64 ssn), (.bool false), (W pr), (.string da)]], 5, 29, true⟩)] noStore) (seen_one (V := []) (D := [((n + 2), some ⟨[[(.slice none 0 0), (.slice none 0 0), (.slice none 0 0)]], 3, 38, true⟩), ((n + 1), some ⟨[[(.int .i64 ((t : Nat) : Int)), (.int .i64 ssn), (.bool false), (W pr), (.string da)]], 5, 29, true⟩), (n, some ⟨[(xDp318 jx NX jv K ju M)], 3, 38, true⟩)]) (by kernel_rfl) (get_there (by omega) get_here)) (r_load1 rfl rfl rfl rfl rfl get_here rfl rfl) ?_
  by_cases hc5 : (ws.getD i dMsg).st = ((t : Nat) : Int)
  ·
   refine PQ.pure (dst := (some 67)) (v := (.bool true)) rfl rfl rfl noStore (none_ok _ _) (Eq.trans (r_bin rfl rfl rfl (b_eql rfl)) (dT hc5)) ?_
   refine PQ.pure (dst := (some 68)) (v := (.bool true)) rfl rfl rfl noStore (none_ok _ _) rfl ?_
   refine PQ.pure (dst := (some 69)) (v := (Pt n 0 1)) rfl rfl rfl noStore (none_ok _ _) rfl ?_
   refine PQ.pure (dst := (some 70)) (v := (.slice (some ⟨jv, 0, none⟩) K 2)) rfl rfl rfl (app [(n, some ⟨[(xDp318 jx NX jv K ju M)], 3, 38, true⟩)] noStore) (seen_one (V := []) (D := [((n + 2), some ⟨[[(.slice none 0 0), (.slice none 0 0), (.slice none 0 0)]], 3, 38, true⟩), ((n + 1), some ⟨[[(.int .i64 ((t : Nat) : Int)), (.int .i64 ssn), (.bool false), (W pr), (.string da)]], 5, 29, true⟩), (n, some ⟨[(xDp318 jx NX jv K ju M)], 3, 38, true⟩)]) (by kernel_rfl) (gt2 (by omega) get_here)) (r_load1 rfl rfl rfl rfl rfl get_here rfl rfl) ?_
   refine PQ.pure (dst := (some 71)) (v := (.int .i64 ((i : Nat) : Int))) rfl rfl rfl noStore (none_ok _ _) rfl ?_
   refine PQ.pure (dst := (some 72)) (v := (Pt jv i 0)) rfl rfl rfl (app [(jv, some (oMsg ws))] noStore) (seen_one (V := []) (D := [((n + 2), some ⟨[[(.slice none 0 0), (.slice none 0 0), (.slice none 0 0)]], 3, 38, true⟩), ((n + 1), some ⟨[[(.int .i64 ((t : Nat) : Int)), (.int .i64 ssn), (.bool false), (W pr), (.string da)]], 5, 29, true⟩), (n, some ⟨[(xDp318 jx NX jv K ju M)], 3, 38, true⟩)]) (by kernel_rfl) (gt3 (by omega) hjv)) (r_iaS (l := i) rfl rfl rfl rfl rfl rfl (by omega) (by omega) get_here rfl (by omega)) ?_
   refine PQ.pure (dst := (some 73)) (v := (Pt jv i 1)) rfl rfl rfl noStore (none_ok _ _) rfl ?_
   refine PQ.pure (dst := (some 74)) (v := (.int .i64 (ws.getD i dMsg).ssn)) rfl rfl rfl (app [(jv, some (oMsg ws))] noStore) (seen_one (V := []) (D := [((n + 2), some ⟨[[(.slice none 0 0), (.slice none 0 0), (.slice none 0 0)]], 3, 38, true⟩), ((n + 1), some ⟨[[(.int .i64 ((t : Nat) : Int)), (.int .i64 ssn), (.bool false), (W pr), (.string da)]], 5, 29, true⟩), (n, some ⟨[(xDp318 jx NX jv K ju M)], 3, 38, true⟩)]) (by kernel_rfl) (gt3 (by omega) hjv)) (r_loadF (c := cMsg) dMsg rfl rfl rfl rfl rfl get_here (by rw [hws]; omega) rfl) ?_
   have hm5 := andN_le (ws.getD i dMsg).ssn 65535 (by decide)
   refine PQ.pure (dst := (some 75)) (v := (.int .i64 (((u16N (ws.getD i dMsg).ssn) : Nat) : Int))) rfl rfl rfl noStore (none_ok _ _) (Eq.trans (r_bin rfl rfl rfl (b_andN (ws.getD i dMsg).ssn 65535 (by decide))) (by rw [andN_u16])) ?_
   refine PQ.pure (dst := (some 76)) (v := (.int .i64 (((u16N ssn) : Nat) : Int))) rfl rfl rfl noStore (none_ok _ _) rfl ?_
   have hc6 : ¬ ((((u16N (ws.getD i dMsg).ssn) : Nat) : Int) = (((u16N ssn) : Nat) : Int)) := fun hdd => by exfalso; first | omega | exact hrj (.inl ((less_far (u16N_lt _) hxb).2 (by unfold sub16; omega))) | exact hrj (.inr (List.any_eq_true.2 ⟨ws.getD i dMsg, getD_mem (by omega), qT ⟨by assumption, hdd⟩⟩))
   have hst := fi_step (d := dMsg) (p := (qq ((t : Nat) : Int) (u16N ssn))) (by omega) (fun hh => hc6 (of_decide_eq_true hh).2) hi2
   refine PQ.pure (dst := (some 77)) (v := (.bool false)) rfl rfl rfl noStore (none_ok _ _) (Eq.trans (r_bin rfl rfl rfl (b_eql rfl)) (dF hc6)) ?_
   refine PQ.pure (dst := (some 78)) (v := (.bool false)) rfl rfl rfl noStore (none_ok _ _) rfl ?_
   refine PQ.done (d := []) (by kernel_rfl) ?_
   intro _
   refine RA.rebase [(2, (Pt n 0 0)), (3, (.pointer (some ⟨(n + 1), 0, some 0⟩))), (4, (.pointer (some ⟨(n + 2), 0, some 0⟩))), (5, (.bool false)), (6, (.int .i64 (((u16N ssn) : Nat) : Int))), (8, (.int .i64 ((i : Nat) : Int))), (56, (.bool true)), (78, (.bool false))] ⟨rfl, rfl, rfl, rfl, rfl, rfl, rfl, rfl, trivial⟩ (fun τr6 => ?_)
   refine RA.condF rfl ?_
   refine RA.skip env_ok ?_
   intro _
   refine RA.region env_ok ?_
   refine OA.p (some 57) (.int .i64 ((i : Nat) : Int)) rfl rfl rfl rfl ?_
   refine OA.p (some 58) (.int .i64 (((i + 1) : Nat) : Int)) rfl rfl rfl (r_bin rfl rfl rfl (b_add (i64_eq (by omega)))) ?_
   refine OA.p (some 8) (.int .i64 (((i + 1) : Nat) : Int)) rfl rfl rfl rfl ?_
   refine OA.nil ?_
   refine ⟨(K - (i + 1)), by omega, [((n + 2), some ⟨[[(.slice none 0 0), (.slice none 0 0), (.slice none 0 0)]], 3, 38, true⟩), ((n + 1), some ⟨[[(.int .i64 ((t : Nat) : Int)), (.int .i64 ssn), (.bool false), (W pr), (.string da)]], 5, 29, true⟩), (n, some ⟨[(xDp318 jx NX jv K ju M)], 3, 38, true⟩)], (Less.refl _ _ _), (i + 1), rfl, by omega, ⟨rfl, rfl, rfl, rfl, rfl, rfl, trivial⟩, rfl, (kb3 (by omega)), ⟨by omega, hst⟩⟩
  ·
   have hst := fi_step (d := dMsg) (p := (qq ((t : Nat) : Int) (u16N ssn))) (by omega) (fun hh => hc5 (of_decide_eq_true hh).1) hi2
   refine PQ.pure (dst := (some 67)) (v := (.bool false)) rfl rfl rfl noStore (none_ok _ _) (Eq.trans (r_bin rfl rfl rfl (b_eql rfl)) (dF hc5)) ?_
   refine PQ.pure (dst := (some 68)) (v := (.bool false)) rfl rfl rfl noStore (none_ok _ _) rfl ?_
   refine PQ.off (dst := (some 69)) rfl rfl rfl ?_
   refine PQ.off (dst := (some 70)) rfl rfl rfl ?_
   refine PQ.off (dst := (some 71)) rfl rfl rfl ?_
   refine PQ.off (dst := (some 72)) rfl rfl rfl ?_
   refine PQ.off (dst := (some 73)) rfl rfl rfl ?_
   refine PQ.off (dst := (some 74)) rfl rfl rfl ?_
   refine PQ.off (dst := (some 75)) rfl rfl rfl ?_
   refine PQ.off (dst := (some 76)) rfl rfl rfl ?_
   refine PQ.off (dst := (some 77)) rfl rfl rfl ?_
   refine PQ.pure (dst := (some 78)) (v := (.bool false)) rfl rfl rfl noStore (none_ok _ _) rfl ?_
   refine PQ.done (d := []) (by kernel_rfl) ?_
   intro _
   refine RA.rebase [(2, (Pt n 0 0)), (3, (.pointer (some ⟨(n + 1), 0, some 0⟩))), (4, (.pointer (some ⟨(n + 2), 0, some 0⟩))), (5, (.bool false)), (6, (.int .i64 (((u16N ssn) : Nat) : Int))), (8, (.int .i64 ((i : Nat) : Int))), (56, (.bool true)), (78, (.bool false))] ⟨rfl, rfl, rfl, rfl, rfl, rfl, rfl, rfl, trivial⟩ (fun τr7 => ?_)
   refine RA.condF rfl ?_
   refine RA.skip env_ok ?_
   intro _
   refine RA.region env_ok ?_
   refine OA.p (some 57) (.int .i64 ((i : Nat) : Int)) rfl rfl rfl rfl ?_
   refine OA.p (some 58) (.int .i64 (((i + 1) : Nat) : Int)) rfl rfl rfl (r_bin rfl rfl rfl (b_add (i64_eq (by omega)))) ?_
   refine OA.p (some 8) (.int .i64 (((i + 1) : Nat) : Int)) rfl rfl rfl rfl ?_
   refine OA.nil ?_
   refine ⟨(K - (i + 1)), by omega, [((n + 2), some ⟨[[(.slice none 0 0), (.slice none 0 0), (.slice none 0 0)]], 3, 38, true⟩), ((n + 1), some ⟨[[(.int .i64 ((t : Nat) : Int)), (.int .i64 ssn), (.bool false), (W pr), (.string da)]], 5, 29, true⟩), (n, some ⟨[(xDp318 jx NX jv K ju M)], 3, 38, true⟩)], (Less.refl _ _ _), (i + 1), rfl, by omega, ⟨rfl, rfl, rfl, rfl, rfl, rfl, trivial⟩, rfl, (kb3 (by omega)), ⟨by omega, hst⟩⟩
 ·
  refine OA.p (some 56) (.bool false) rfl rfl rfl (Eq.trans (r_bin rfl rfl rfl (b_lss rfl)) (dF hc4)) ?_
  refine OA.nil ?_
  intro _
  refine RA.condF rfl ?_
  refine RA.exit env_ok ?_
  intro _
  refine RA.seq hd (RA.imp (Q := fun x τ' n' D' => x = .normal ∧ ((∃ jv2 : Nat, Has τ' [(2, (Pt n 0 0)), (3, (.pointer (some ⟨(n + 1), 0, some 0⟩))), (4, (.pointer (some ⟨(n + 2), 0, some 0⟩))), (6, (.int .i64 (((u16N ssn) : Nat) : Int)))] ∧ (∃ D2, Less n n' D' D2 ∧ D2 = [(n, some ⟨[(xDp314 jx NX jv2 K ju M)], 3, 38, true⟩), (jv2, some (oMsg (ws ++ [(Msg.mk ((t : Nat) : Int) ssn false pr da)]))), ((n + 1), some ⟨[[(.int .i64 ((t : Nat) : Int)), (.int .i64 ssn), (.bool false), (W pr), (.string da)]], 5, 29, true⟩), ((n + 2), some ⟨[[(.slice none 0 0), (.slice none 0 0), (.slice none 0 0)]], 3, 38, true⟩)]) ∧ n4 ≤ n' ∧ (∀ i_ ∈ keys [(n, some ⟨[(xDp314 jx NX jv2 K ju M)], 3, 38, true⟩), (jv2, some (oMsg (ws ++ [(Msg.mk ((t : Nat) : Int) ssn false pr da)]))), ((n + 1), some ⟨[[(.int .i64 ((t : Nat) : Int)), (.int .i64 ssn), (.bool false), (W pr), (.string da)]], 5, 29, true⟩), ((n + 2), some ⟨[[(.slice none 0 0), (.slice none 0 0), (.slice none 0 0)]], 3, 38, true⟩)], i_ < n') ∧ n ≤ jv2 ∧ jv2 ≠ n ∧ jv2 ≠ (n + 1) ∧ jv2 ≠ (n + 2)))) ?_ ?_)
  ·
   refine RA.par (md := [some [], some [], some [n], none, some [(n + 1)], some [], none, some [], none]) env_ok (hd.of (by omega) (kb3 (by omega))) (by kernel_rfl) ?_
   refine PQ.op (dst := (some 80)) (v := (.slice (some ⟨n4, 0, none⟩) 0 0)) (n1 := (n4 + 1)) (d1 := [(n4, some (oMsg ([] : List Msg)))]) rfl rfl rfl noStore (none_ok _ _) (by kernel_rfl) (by omega) (kp1 (wr_new (by omega) (by omega))) ?_
   refine PQ.pure (dst := (some 81)) (v := (Pt n 0 1)) rfl rfl rfl noStore (none_ok _ _) rfl ?_
   refine PQ.pure (dst := (some 82)) (v := (.slice (some ⟨jv, 0, none⟩) K 2)) rfl rfl rfl (app [(n, some ⟨[(xDp318 jx NX jv K ju M)], 3, 38, true⟩)] noStore) (seen_one (V := []) (D := [((n + 2), some ⟨[[(.slice none 0 0), (.slice none 0 0), (.slice none 0 0)]], 3, 38, true⟩), ((n + 1), some ⟨[[(.int .i64 ((t : Nat) : Int)), (.int .i64 ssn), (.bool false), (W pr), (.string da)]], 5, 29, true⟩), (n, some ⟨[(xDp318 jx NX jv K ju M)], 3, 38, true⟩)]) (by kernel_rfl) (gt2 (by omega) get_here)) (r_load1 rfl rfl rfl rfl rfl get_here rfl rfl) ?_
   by_cases hc7 : K = 0
   ·
    refine PQ.pure (dst := (some 83)) (v := (.slice (some ⟨n4, 0, none⟩) 0 0)) rfl rfl rfl _ (seen_any (V := [(n4, some (oMsg ([] : List Msg)))]) (D := [((n + 2), some ⟨[[(.slice none 0 0), (.slice none 0 0), (.slice none 0 0)]], 3, 38, true⟩), ((n + 1), some ⟨[[(.int .i64 ((t : Nat) : Int)), (.int .i64 ssn), (.bool false), (W pr), (.string da)]], 5, 29, true⟩), (n, some ⟨[(xDp318 jx NX jv K ju M)], 3, 38, true⟩)]) (by kernel_rfl)) (r_appendZ rfl rfl rfl rfl (.inl ⟨_, _, _, rfl, by decide⟩) rfl rfl rfl rfl rfl (by decide) (by omega)) ?_
    refine PQ.pure (dst := (some 84)) (v := (.agg ⟨[(.int .i64 ((t : Nat) : Int)), (.int .i64 ssn), (.bool false), (W pr), (.string da)]⟩)) rfl rfl rfl (app [((n + 1), some ⟨[[(.int .i64 ((t : Nat) : Int)), (.int .i64 ssn), (.bool false), (W pr), (.string da)]], 5, 29, true⟩)] noStore) (seen_one (V := []) (D := [((n + 2), some ⟨[[(.slice none 0 0), (.slice none 0 0), (.slice none 0 0)]], 3, 38, true⟩), ((n + 1), some ⟨[[(.int .i64 ((t : Nat) : Int)), (.int .i64 ssn), (.bool false), (W pr), (.string da)]], 5, 29, true⟩), (n, some ⟨[(xDp318 jx NX jv K ju M)], 3, 38, true⟩)]) (by kernel_rfl) (get_there (by omega) get_here)) (r_loadA rfl rfl rfl rfl get_here rfl rfl rfl) ?_
    refine PQ.op (dst := (some 85)) (v := (.slice (some ⟨(n4 + 1), 0, none⟩) 1 0)) (n1 := (n4 + 2)) (d1 := [((n4 + 1), some ⟨[[(.int .i64 ((t : Nat) : Int)), (.int .i64 ssn), (.bool false), (W pr), (.string da)]], 5, 29, true⟩)]) rfl rfl rfl noStore (none_ok _ _) (by kernel_rfl) (by omega) (kp1 (wr_new (by omega) (by omega))) ?_
    refine PQ.op (dst := (some 86)) (v := (.slice (some ⟨(n4 + 2), 0, none⟩) 1 0)) (n1 := (n4 + 3)) (d1 := [((n4 + 2), some (oMsg (ws ++ [(Msg.mk ((t : Nat) : Int) ssn false pr da)]))), (n4, none)]) rfl rfl rfl _ (seen_any (V := [((n4 + 1), some ⟨[[(.int .i64 ((t : Nat) : Int)), (.int .i64 ssn), (.bool false), (W pr), (.string da)]], 5, 29, true⟩), (n4, some (oMsg ([] : List Msg)))]) (D := [((n + 2), some ⟨[[(.slice none 0 0), (.slice none 0 0), (.slice none 0 0)]], 3, 38, true⟩), ((n + 1), some ⟨[[(.int .i64 ((t : Nat) : Int)), (.int .i64 ssn), (.bool false), (W pr), (.string da)]], 5, 29, true⟩), (n, some ⟨[(xDp318 jx NX jv K ju M)], 3, 38, true⟩)]) (by kernel_rfl)) (r_appendR (c := cMsg) (l' := (ws ++ [(Msg.mk ((t : Nat) : Int) ssn false pr da)])) rfl rfl rfl rfl rfl rfl rfl rfl rfl rfl (by decide) (get_there (by omega) get_here) get_here (by rw [show ([] : List Msg).length = 0 from rfl]) (by rw [nil_of hws (by omega)]; rfl) (by omega) (of_decide_eq_true (by kernel_rfl)) (by omega)) (by omega) (kp2 (wr_new (by omega) (by omega)) (wr_tight (by kernel_rfl) (by omega))) ?_
    refine PQ.pure (dst := (some 87)) (v := (Pt n 0 1)) rfl rfl rfl noStore (none_ok _ _) rfl ?_
    refine PQ.op (dst := none) (v := (.tuple #[])) (n1 := (n4 + 3)) (d1 := [(n, some ⟨[(xDp315 jx NX n4 ju M)], 3, 38, true⟩)]) rfl rfl rfl _ (seen_any (V := [((n4 + 2), some (oMsg (ws ++ [(Msg.mk ((t : Nat) : Int) ssn false pr da)]))), (n4, none), ((n4 + 1), some ⟨[[(.int .i64 ((t : Nat) : Int)), (.int .i64 ssn), (.bool false), (W pr), (.string da)]], 5, 29, true⟩), (n4, some (oMsg ([] : List Msg)))]) (D := [((n + 2), some ⟨[[(.slice none 0 0), (.slice none 0 0), (.slice none 0 0)]], 3, 38, true⟩), ((n + 1), some ⟨[[(.int .i64 ((t : Nat) : Int)), (.int .i64 ssn), (.bool false), (W pr), (.string da)]], 5, 29, true⟩), (n, some ⟨[(xDp318 jx NX jv K ju M)], 3, 38, true⟩)]) (by kernel_rfl)) (r_store rfl rfl rfl rfl rfl rfl rfl (gt6 (by omega) get_here) rfl rfl (Nat.le_of_ble_eq_true rfl) rfl) (by omega) (kp1 (wr_tight (by kernel_rfl) (by omega))) ?_
    refine PQ.done (d := [(n, some ⟨[(xDp315 jx NX n4 ju M)], 3, 38, true⟩), ((n4 + 2), some (oMsg (ws ++ [(Msg.mk ((t : Nat) : Int) ssn false pr da)]))), (n4, none), ((n4 + 1), some ⟨[[(.int .i64 ((t : Nat) : Int)), (.int .i64 ssn), (.bool false), (W pr), (.string da)]], 5, 29, true⟩), (n4, some (oMsg ([] : List Msg)))]) (by kernel_rfl) ?_
    exact ⟨rfl, ⟨(n4 + 2), ⟨rfl, rfl, rfl, rfl, trivial⟩, ⟨[(n, some ⟨[(xDp315 jx NX n4 ju M)], 3, 38, true⟩), ((n4 + 2), some (oMsg (ws ++ [(Msg.mk ((t : Nat) : Int) ssn false pr da)]))), ((n + 1), some ⟨[[(.int .i64 ((t : Nat) : Int)), (.int .i64 ssn), (.bool false), (W pr), (.string da)]], 5, 29, true⟩), ((n + 2), some ⟨[[(.slice none 0 0), (.slice none 0 0), (.slice none 0 0)]], 3, 38, true⟩)], (Less.of (fac (mm (fun _ => get_here) (fun _ => get_here)) (fac (mm (fun _ => (get_there (by omega) get_here)) (fun _ => (get_there (by omega) get_here))) (fac (mm (fun _ => (gt2 (by omega) get_here)) (fun _ => (gt6 (by omega) get_here))) (fac (mm (fun _ => (gt3 (by omega) get_here)) (fun _ => (gt5 (by omega) get_here))) fan)))) (gone_of (by simp only [goneP, memP, List.cons_append, List.nil_append, true_or, or_true, true_and, and_true, or_false] <;> omega))), (by have hK0 : K = 0 := (by omega); subst hK0; rfl)⟩, by omega, (kb4 (by omega)), ⟨by omega, by omega, by omega, by omega⟩⟩⟩
   ·
    refine PQ.op (dst := (some 83)) (v := (.slice (some ⟨(n4 + 1), 0, none⟩) K 0)) (n1 := (n4 + 2)) (d1 := [((n4 + 1), some (oMsg ws)), (n4, none)]) rfl rfl rfl _ (seen_any (V := [(n4, some (oMsg ([] : List Msg)))]) (D := [((n + 2), some ⟨[[(.slice none 0 0), (.slice none 0 0), (.slice none 0 0)]], 3, 38, true⟩), ((n + 1), some ⟨[[(.int .i64 ((t : Nat) : Int)), (.int .i64 ssn), (.bool false), (W pr), (.string da)]], 5, 29, true⟩), (n, some ⟨[(xDp318 jx NX jv K ju M)], 3, 38, true⟩)]) (by kernel_rfl)) (r_appendL (c := cMsg) (l' := ws) rfl rfl rfl rfl rfl rfl rfl rfl rfl rfl (by decide) get_here (gt4 (by omega) hjv) (by rw [show ([] : List Msg).length = 0 from rfl]) (by omega) (by rw [hws]; omega) (by rw [List.nil_append, take_all' (by rw [hws])]) (by omega) (of_decide_eq_true (by kernel_rfl)) (by omega)) (by omega) (kp2 (wr_new (by omega) (by omega)) (wr_late [4, 5] (by kernel_rfl) (by kernel_rfl) (by omega) 0 (by kernel_rfl) (by simp [keys]) (fac (lo1 rfl (by omega)) (fac (lo0 rfl) fan)))) ?_
    refine PQ.pure (dst := (some 84)) (v := (.agg ⟨[(.int .i64 ((t : Nat) : Int)), (.int .i64 ssn), (.bool false), (W pr), (.string da)]⟩)) rfl rfl rfl (app [((n + 1), some ⟨[[(.int .i64 ((t : Nat) : Int)), (.int .i64 ssn), (.bool false), (W pr), (.string da)]], 5, 29, true⟩)] noStore) (seen_one (V := []) (D := [((n + 2), some ⟨[[(.slice none 0 0), (.slice none 0 0), (.slice none 0 0)]], 3, 38, true⟩), ((n + 1), some ⟨[[(.int .i64 ((t : Nat) : Int)), (.int .i64 ssn), (.bool false), (W pr), (.string da)]], 5, 29, true⟩), (n, some ⟨[(xDp318 jx NX jv K ju M)], 3, 38, true⟩)]) (by kernel_rfl) (get_there (by omega) get_here)) (r_loadA rfl rfl rfl rfl get_here rfl rfl rfl) ?_
    refine PQ.op (dst := (some 85)) (v := (.slice (some ⟨(n4 + 2), 0, none⟩) 1 0)) (n1 := (n4 + 3)) (d1 := [((n4 + 2), some ⟨[[(.int .i64 ((t : Nat) : Int)), (.int .i64 ssn), (.bool false), (W pr), (.string da)]], 5, 29, true⟩)]) rfl rfl rfl noStore (none_ok _ _) (by kernel_rfl) (by omega) (kp1 (wr_new (by omega) (by omega))) ?_
    refine PQ.op (dst := (some 86)) (v := (.slice (some ⟨(n4 + 3), 0, none⟩) (K + 1) 0)) (n1 := (n4 + 4)) (d1 := [((n4 + 3), some (oMsg (ws ++ [(Msg.mk ((t : Nat) : Int) ssn false pr da)]))), ((n4 + 1), none)]) rfl rfl rfl _ (seen_any (V := [((n4 + 2), some ⟨[[(.int .i64 ((t : Nat) : Int)), (.int .i64 ssn), (.bool false), (W pr), (.string da)]], 5, 29, true⟩), ((n4 + 1), some (oMsg ws)), (n4, none), (n4, some (oMsg ([] : List Msg)))]) (D := [((n + 2), some ⟨[[(.slice none 0 0), (.slice none 0 0), (.slice none 0 0)]], 3, 38, true⟩), ((n + 1), some ⟨[[(.int .i64 ((t : Nat) : Int)), (.int .i64 ssn), (.bool false), (W pr), (.string da)]], 5, 29, true⟩), (n, some ⟨[(xDp318 jx NX jv K ju M)], 3, 38, true⟩)]) (by kernel_rfl)) (r_appendR (c := cMsg) (l' := (ws ++ [(Msg.mk ((t : Nat) : Int) ssn false pr da)])) rfl rfl rfl rfl rfl rfl rfl rfl rfl rfl (by decide) (get_there (by omega) get_here) get_here (by rw [hws]) (mp_snoc (c := cMsg) (x := (Msg.mk ((t : Nat) : Int) ssn false pr da))) (by omega) (of_decide_eq_true (by kernel_rfl)) (by omega)) (by omega) (kp2 (wr_new (by omega) (by omega)) (wr_tight (by kernel_rfl) (by omega))) ?_
    refine PQ.pure (dst := (some 87)) (v := (Pt n 0 1)) rfl rfl rfl noStore (none_ok _ _) rfl ?_
    refine PQ.op (dst := none) (v := (.tuple #[])) (n1 := (n4 + 4)) (d1 := [(n, some ⟨[(xDp310 jx NX n4 K ju M)], 3, 38, true⟩)]) rfl rfl rfl _ (seen_any (V := [((n4 + 3), some (oMsg (ws ++ [(Msg.mk ((t : Nat) : Int) ssn false pr da)]))), ((n4 + 1), none), ((n4 + 2), some ⟨[[(.int .i64 ((t : Nat) : Int)), (.int .i64 ssn), (.bool false), (W pr), (.string da)]], 5, 29, true⟩), ((n4 + 1), some (oMsg ws)), (n4, none), (n4, some (oMsg ([] : List Msg)))]) (D := [((n + 2), some ⟨[[(.slice none 0 0), (.slice none 0 0), (.slice none 0 0)]], 3, 38, true⟩), ((n + 1), some ⟨[[(.int .i64 ((t : Nat) : Int)), (.int .i64 ssn), (.bool false), (W pr), (.string da)]], 5, 29, true⟩), (n, some ⟨[(xDp318 jx NX jv K ju M)], 3, 38, true⟩)]) (by kernel_rfl)) (r_store rfl rfl rfl rfl rfl rfl rfl (gt8 (by omega) get_here) rfl rfl (Nat.le_of_ble_eq_true rfl) rfl) (by omega) (kp1 (wr_tight (by kernel_rfl) (by omega))) ?_
    refine PQ.done (d := [(n, some ⟨[(xDp310 jx NX n4 K ju M)], 3, 38, true⟩), ((n4 + 3), some (oMsg (ws ++ [(Msg.mk ((t : Nat) : Int) ssn false pr da)]))), ((n4 + 1), none), ((n4 + 2), some ⟨[[(.int .i64 ((t : Nat) : Int)), (.int .i64 ssn), (.bool false), (W pr), (.string da)]], 5, 29, true⟩), ((n4 + 1), some (oMsg ws)), (n4, none), (n4, some (oMsg ([] : List Msg)))]) (by kernel_rfl) ?_
    exact ⟨rfl, ⟨(n4 + 3), ⟨rfl, rfl, rfl, rfl, trivial⟩, ⟨[(n, some ⟨[(xDp310 jx NX n4 K ju M)], 3, 38, true⟩), ((n4 + 3), some (oMsg (ws ++ [(Msg.mk ((t : Nat) : Int) ssn false pr da)]))), ((n + 1), some ⟨[[(.int .i64 ((t : Nat) : Int)), (.int .i64 ssn), (.bool false), (W pr), (.string da)]], 5, 29, true⟩), ((n + 2), some ⟨[[(.slice none 0 0), (.slice none 0 0), (.slice none 0 0)]], 3, 38, true⟩)], (Less.of (fac (mm (fun _ => get_here) (fun _ => get_here)) (fac (mm (fun _ => (get_there (by omega) get_here)) (fun _ => (get_there (by omega) get_here))) (fac (mm (fun _ => (gt2 (by omega) get_here)) (fun _ => (gt8 (by omega) get_here))) (fac (mm (fun _ => (gt3 (by omega) get_here)) (fun _ => (gt7 (by omega) get_here))) fan)))) (gone_of (by simp only [goneP, memP, List.cons_append, List.nil_append, true_or, or_true, true_and, and_true, or_false] <;> omega))), rfl⟩, by omega, (kb4 (by omega)), ⟨by omega, by omega, by omega, by omega⟩⟩⟩
  ·
   rintro _ τ8 n8 Dn8 hmn8 ⟨rfl, hSn8⟩
   rcases hSn8 with ⟨jv2, hHn8, ⟨_, hLn8, rfl⟩, hn8, hKn8, hIn8⟩
   intro _
   refine RA.weaken hd hLn8 ?_
   rw [Has.eq hHn8]
   have hKn8_0 : n < n8 := hKn8 _ (by simp only [keys, List.map_cons, List.map_nil, List.mem_cons, true_or, or_true])
   have hKn8_1 : jv2 < n8 := hKn8 _ (by simp only [keys, List.map_cons, List.map_nil, List.mem_cons, true_or, or_true])
   have hKn8_2 : (n + 1) < n8 := hKn8 _ (by simp only [keys, List.map_cons, List.map_nil, List.mem_cons, true_or, or_true])
   have hKn8_3 : (n + 2) < n8 := hKn8 _ (by simp only [keys, List.map_cons, List.map_nil, List.mem_cons, true_or, or_true])
   clear hKn8
   obtain ⟨hv1, hv2, hv3, hv4⟩ := hIn8
   refine RA.seq hd ?_
   refine RA.region env_ok ?_
   refine OA.op1 (dst := (some 88)) (v := (.slice (some ⟨n8, 0, none⟩) 0 0)) (n1 := (n8 + 1)) (w := (n8, some (oIn ([] : List In)))) rfl rfl rfl (by kernel_rfl) (by omega) ?_
   refine OA.p (some 89) (Pt n 0 0) rfl rfl rfl rfl ?_
   refine OA.p (some 90) (.slice (some ⟨jx, 0, none⟩) NX 0) rfl rfl rfl (r_load1 rfl rfl rfl rfl rfl (get_there (by omega) get_here) rfl rfl) ?_
   refine OA.op (dst := (some 91)) (v := (.slice (some ⟨(n8 + 1), 0, none⟩) NX 0)) (n1 := (n8 + 2)) (d1 := [((n8 + 1), some (oIn (nx.map uI))), (n8, none)]) (D' := [((n8 + 1), some (oIn (nx.map uI))), (n8, none), (n8, some (oIn ([] : List In))), (n, some ⟨[(xDp314 jx NX jv2 K ju M)], 3, 38, true⟩), (jv2, some (oMsg (ws ++ [(Msg.mk ((t : Nat) : Int) ssn false pr da)]))), ((n + 1), some ⟨[[(.int .i64 ((t : Nat) : Int)), (.int .i64 ssn), (.bool false), (W pr), (.string da)]], 5, 29, true⟩), ((n + 2), some ⟨[[(.slice none 0 0), (.slice none 0 0), (.slice none 0 0)]], 3, 38, true⟩)]) rfl rfl rfl (r_appendL (c := cIn) (l' := (nx.map uI)) rfl rfl rfl rfl rfl rfl rfl rfl rfl rfl (by decide) get_here (gt5 (by omega) hjx) (by rw [show ([] : List In).length = 0 from rfl]) (by omega) (by rw [List.length_map, hnx]; omega) (by rw [List.nil_append, take_all' (by rw [List.length_map, hnx])]) (by omega) (of_decide_eq_true (by kernel_rfl)) (by omega)) (by omega) rfl ?_
   refine OA.p (some 92) (Pt n 0 0) rfl rfl rfl rfl ?_
   refine OA.op1 (dst := none) (v := (.tuple #[])) (n1 := (n8 + 2)) (w := (n, some ⟨[(xDp39 n8 NX jv2 K ju M)], 3, 38, true⟩)) rfl rfl rfl (r_store rfl rfl rfl rfl rfl rfl rfl (gt3 (by omega) get_here) rfl rfl (Nat.le_of_ble_eq_true rfl) rfl) (by omega) ?_
   refine OA.nil ?_
   intro _
   refine RA.le (ob := ⟨[(xDp39 n8 NX jv2 K ju M)], 3, 38, true⟩) (ob' := ⟨[[(.slice (some ⟨(n8 + 1), 0, none⟩) NX 0), (.slice (some ⟨jv2, 0, none⟩) (K + 1) 2), (.slice (some ⟨ju, 0, none⟩) M 2)]], 3, 38, true⟩) get_here (OLe.one (cs := (xDp39 n8 NX jv2 K ju M)) (cs' := [(.slice (some ⟨(n8 + 1), 0, none⟩) NX 0), (.slice (some ⟨jv2, 0, none⟩) (K + 1) 2), (.slice (some ⟨ju, 0, none⟩) M 2)]) ⟨VLe.refl _, (vle_row _ _ _), VLe.refl _, trivial⟩ rfl) ?_
   refine RA.reoff (idx := 2) get_here (gt9 (by omega) hju) (by omega) rfl (cs' := (xDp34 n8 NX jv2 K M)) rfl (ob' := (oMsg L2)) (ro0) ?_
   refine RA.weaken (D' := [(n, some ⟨[(xDp34 n8 NX jv2 K M)], 3, 38, true⟩), ((n8 + 2), some (oMsg L2)), (ju, none), ((n8 + 1), some (oIn (nx.map uI))), (n8, none), (jv2, some (oMsg (ws ++ [(Msg.mk ((t : Nat) : Int) ssn false pr da)]))), ((n + 1), some ⟨[[(.int .i64 ((t : Nat) : Int)), (.int .i64 ssn), (.bool false), (W pr), (.string da)]], 5, 29, true⟩), ((n + 2), some ⟨[[(.slice none 0 0), (.slice none 0 0), (.slice none 0 0)]], 3, 38, true⟩)]) hd (Less.of (fac (mm (fun _ => get_here) (fun _ => get_here)) (fac (mm (fun _ => (get_there (by omega) get_here)) (fun _ => (get_there (by omega) get_here))) (fac (mm (fun _ => (gt2 (by omega) get_here)) (fun _ => (gt2 (by omega) get_here))) (fac (mm (fun _ => (gt3 (by omega) get_here)) (fun _ => (gt5 (by omega) get_here))) (fac (mm (fun _ => (gt4 (by omega) get_here)) (fun _ => (gt6 (by omega) get_here))) (fac (mm (fun _ => (gt5 (by omega) get_here)) (fun _ => (gt9 (by omega) get_here))) (fac (mm (fun _ => (gt6 (by omega) get_here)) (fun _ => (gt10 (by omega) get_here))) (fac (mm (fun _ => (gt7 (by omega) get_here)) (fun _ => (gt11 (by omega) get_here))) fan)))))))) (gone_of (by simp only [goneP, memP, List.cons_append, List.nil_append, true_or, or_true, true_and, and_true, or_false] <;> omega))) ?_
   refine RA.seq hd ?_
   refine RA.seq hd ?_
   refine RA.region env_ok ?_
   refine OA.p (some 93) (Pt n 0 1) rfl rfl rfl rfl ?_
   refine OA.p (some 94) (.slice (some ⟨jv2, 0, none⟩) (K + 1) 2) rfl rfl rfl (r_load1 rfl rfl rfl rfl rfl get_here rfl rfl) ?_
   refine OA.p (some 95) (.int .i64 (((K + 1) : Nat) : Int)) rfl rfl rfl rfl ?_
   refine OA.p (some 9) (.int .i64 (((K + 1) : Nat) : Int)) rfl rfl rfl rfl ?_
   refine OA.nil ?_
   intro _
   refine RA.block ?_
   refine RA.weaken (D' := [(n, some ⟨[(xDp34 n8 NX jv2 K M)], 3, 38, true⟩), ((n8 + 1), some (oIn (nx.map uI))), (jv2, some (oMsg (ws ++ [(Msg.mk ((t : Nat) : Int) ssn false pr da)]))), ((n8 + 2), some (oMsg L2)), ((n + 1), some ⟨[[(.int .i64 ((t : Nat) : Int)), (.int .i64 ssn), (.bool false), (W pr), (.string da)]], 5, 29, true⟩), ((n + 2), some ⟨[[(.slice none 0 0), (.slice none 0 0), (.slice none 0 0)]], 3, 38, true⟩), (ju, none)]) hd (Less.of (fac (mm (fun _ => get_here) (fun _ => get_here)) (fac (mm (fun _ => (get_there (by omega) get_here)) (fun _ => (gt3 (by omega) get_here))) (fac (mm (fun _ => (gt2 (by omega) get_here)) (fun _ => (gt5 (by omega) get_here))) (fac (mm (fun _ => (gt3 (by omega) get_here)) (fun _ => (get_there (by omega) get_here))) (fac (mm (fun _ => (gt4 (by omega) get_here)) (fun _ => (gt6 (by omega) get_here))) (fac (mm (fun _ => (gt5 (by omega) get_here)) (fun _ => (gt7 (by omega) get_here))) (fac (mm (fun _ => (gt6 (by omega) get_here)) (fun _ => (gt2 (by omega) get_here))) fan))))))) (gone_of (by simp only [goneP, memP, List.cons_append, List.nil_append, true_or, or_true, true_and, and_true, or_false] <;> omega))) ?_
   refine RA.loop hd (fun kk_ τ n' D => (∃ kk : Nat, ∃ a : Nat, ∃ K2 : Nat, ∃ ws2 : List Msg, ∃ jv3 : Nat, ∃ ju3 : Nat, ∃ M2 : Nat, ∃ L3 : List Msg, kk_ = 2 * kk ∧ (n8 + 3) ≤ n' ∧ Has τ [(2, (Pt n 0 0)), (3, (.pointer (some ⟨(n + 1), 0, some 0⟩))), (4, (.pointer (some ⟨(n + 2), 0, some 0⟩))), (9, (.int .i64 (((kk : Nat) : Int) - 1)))] ∧ D = [(n, some ⟨[(xDp313 n8 NX jv3 K2 ju3 M2)], 3, 38, true⟩), ((n8 + 1), some (oIn ((nx.set t (Ux.mk a)).map uI))), (jv3, some (oMsg ws2)), (ju3, some (oMsg L3)), ((n + 1), some ⟨[[(.int .i64 ((t : Nat) : Int)), (.int .i64 ssn), (.bool false), (W pr), (.string da)]], 5, 29, true⟩), ((n + 2), some ⟨[[(.slice none 0 0), (.slice none 0 0), (.slice none 0 0)]], 3, 38, true⟩), (ju, none)] ∧ (∀ i ∈ keys D, i < n') ∧ ws2.length = K2 ∧ L3.length = M2 ∧ goS ((t : Nat) : Int) kk a ws2 L3 = R ∧ K2 + M2 = K + 1 + M ∧ a < 65536 ∧ (n + 2) < jv3 ∧ (n8 + 1) < ju3 ∧ jv3 ≠ ju3 ∧ jv3 ≠ (n8 + 1) ∧ kk ≤ K + 2)) (2 * (K + 1 + 1)) (⟨(K + 1 + 1), (nx.getD t dUx).z, (K + 1), (ws ++ [(Msg.mk ((t : Nat) : Int) ssn false pr da)]), jv2, (n8 + 2), M, L2, rfl, by omega, ⟨rfl, rfl, rfl, (congrArg (Value.int .i64) (by omega)), trivial⟩, (by rw [set_self (by omega)]), (kb7 (by omega)), ⟨show (ws ++ [(Msg.mk ((t : Nat) : Int) ssn false pr da)]).length = K + 1 from by rw [List.length_append, hws]; rfl, hL2, (goS_more (by rw [List.length_append, hws]; exact Nat.le_refl _)).trans hR, by omega, hxb, by omega, by omega, by omega, by omega, by omega⟩⟩) ?_
   rintro kn9 τ9 n9 _ ⟨kk, a, K2, ws2, jv3, ju3, M2, L3, rfl, hn9, hHn9, rfl, hKn9, hIn9⟩
   rw [Has.eq hHn9]
   have hKn9_0 : n < n9 := hKn9 _ (by simp only [keys, List.map_cons, List.map_nil, List.mem_cons, true_or, or_true])
   have hKn9_1 : (n8 + 1) < n9 := hKn9 _ (by simp only [keys, List.map_cons, List.map_nil, List.mem_cons, true_or, or_true])
   have hKn9_2 : jv3 < n9 := hKn9 _ (by simp only [keys, List.map_cons, List.map_nil, List.mem_cons, true_or, or_true])
   have hKn9_3 : ju3 < n9 := hKn9 _ (by simp only [keys, List.map_cons, List.map_nil, List.mem_cons, true_or, or_true])
   have hKn9_4 : (n + 1) < n9 := hKn9 _ (by simp only [keys, List.map_cons, List.map_nil, List.mem_cons, true_or, or_true])
   have hKn9_5 : (n + 2) < n9 := hKn9 _ (by simp only [keys, List.map_cons, List.map_nil, List.mem_cons, true_or, or_true])
   have hKn9_6 : ju < n9 := hKn9 _ (by simp only [keys, List.map_cons, List.map_nil, List.mem_cons, true_or, or_true])
   clear hKn9
   obtain ⟨hws2, hL3, hR, hKM, ha, hn1_, hn2_, hn3_, hn4_, hkb⟩ := hIn9
   refine RA.seq hd ?_
   refine RA.seq hd ?_
   refine RA.region env_ok ?_
   refine OA.p (some 96) (.int .i64 (((kk : Nat) : Int) - 1)) rfl rfl rfl rfl ?_
   by_cases hc8 : 0 ≤ (((kk : Nat) : Int) - 1)
   ·
    refine OA.p (some 97) (.bool true) rfl rfl rfl (Eq.trans (r_bin rfl rfl rfl (b_geq rfl)) (dT hc8)) ?_
    refine OA.nil ?_
    intro _
    refine RA.condT rfl ?_
    refine RA.skip env_ok ?_
    intro _
    refine RA.seq hd ?_
    refine RA.block ?_
    refine RA.seq hd ?_
    refine RA.region env_ok ?_
    refine OA.op1 (dst := (some 100)) (v := (.slice (some ⟨n9, 0, none⟩) 0 0)) (n1 := (n9 + 1)) (w := (n9, some (oMsg ([] : List Msg)))) rfl rfl rfl (by kernel_rfl) (by omega) ?_
    refine OA.p (some 10) (.slice (some ⟨n9, 0, none⟩) 0 0) rfl rfl rfl rfl ?_
    refine OA.nil ?_
    intro _
    refine RA.seq hd ?_
    refine RA.region env_ok ?_
    refine OA.p (some 11) (.bool false) rfl rfl rfl rfl ?_
    refine OA.nil ?_
    intro _
    refine RA.seq hd ?_
    refine RA.seq hd ?_
    refine RA.region env_ok ?_
    refine OA.p (some 12) (.int .i64 0) rfl rfl rfl rfl ?_
    refine OA.nil ?_
    intro _
    refine RA.block ?_
    refine RA.leT (t := 10) (v := (.slice (some ⟨n9, 0, none⟩) 0 0)) (v' := (.slice (some ⟨n9, 0, none⟩) 0 2)) rfl (vle_row _ _ _) ?_
    refine RA.weaken (D' := [(n, some ⟨[(xDp313 n8 NX jv3 K2 ju3 M2)], 3, 38, true⟩), ((n8 + 1), some (oIn ((nx.set t (Ux.mk a)).map uI))), (jv3, some (oMsg ws2)), ((n + 1), some ⟨[[(.int .i64 ((t : Nat) : Int)), (.int .i64 ssn), (.bool false), (W pr), (.string da)]], 5, 29, true⟩), ((n + 2), some ⟨[[(.slice none 0 0), (.slice none 0 0), (.slice none 0 0)]], 3, 38, true⟩), (ju, none), (ju3, some (oMsg L3)), (n9, some (oMsg ([] : List Msg)))]) hd (Less.of (fac (mm (fun _ => get_here) (fun _ => (get_there (by omega) get_here))) (fac (mm (fun _ => (get_there (by omega) get_here)) (fun _ => (gt2 (by omega) get_here))) (fac (mm (fun _ => (gt2 (by omega) get_here)) (fun _ => (gt3 (by omega) get_here))) (fac (mm (fun _ => (gt3 (by omega) get_here)) (fun _ => (gt5 (by omega) get_here))) (fac (mm (fun _ => (gt4 (by omega) get_here)) (fun _ => (gt6 (by omega) get_here))) (fac (mm (fun _ => (gt5 (by omega) get_here)) (fun _ => (gt7 (by omega) get_here))) (fac (mm (fun _ => (gt6 (by omega) get_here)) (fun _ => (gt4 (by omega) get_here))) (fac (mm (fun _ => (gt7 (by omega) get_here)) (fun _ => get_here)) fan)))))))) (gone_of (by simp only [goneP, memP, List.cons_append, List.nil_append, true_or, or_true, true_and, and_true, or_false] <;> omega))) ?_
    refine RA.loop hd (fun kk_ τ n' D => (∃ i : Nat, ∃ jr : Nat, kk_ = K2 + 1 - i ∧ (n9 + 1) ≤ n' ∧ Has τ [(2, (Pt n 0 0)), (3, (.pointer (some ⟨(n + 1), 0, some 0⟩))), (4, (.pointer (some ⟨(n + 2), 0, some 0⟩))), (9, (.int .i64 (((kk : Nat) : Int) - 1))), (10, (.slice (some ⟨jr, 0, none⟩) i 2)), (11, (.bool false)), (12, (.int .i64 ((i : Nat) : Int)))] ∧ D = [(n, some ⟨[(xDp313 n8 NX jv3 K2 ju3 M2)], 3, 38, true⟩), ((n8 + 1), some (oIn ((nx.set t (Ux.mk a)).map uI))), (jv3, some (oMsg ws2)), ((n + 1), some ⟨[[(.int .i64 ((t : Nat) : Int)), (.int .i64 ssn), (.bool false), (W pr), (.string da)]], 5, 29, true⟩), ((n + 2), some ⟨[[(.slice none 0 0), (.slice none 0 0), (.slice none 0 0)]], 3, 38, true⟩), (ju, none), (ju3, some (oMsg L3)), (jr, some (oMsg (ws2.take i)))] ∧ (∀ i ∈ keys D, i < n') ∧ i ≤ K2 ∧ i ≤ (ws2.findIdx (qq ((t : Nat) : Int) a)) ∧ jv3 < jr ∧ ju3 < jr ∧ (n8 + 1) < jr) ∨ (∃ q : Nat, ∃ jr : Nat, ∃ ju4 : Nat, kk_ = K2 - q ∧ (n9 + 1) ≤ n' ∧ Has τ [(2, (Pt n 0 0)), (3, (.pointer (some ⟨(n + 1), 0, some 0⟩))), (4, (.pointer (some ⟨(n + 2), 0, some 0⟩))), (9, (.int .i64 (((kk : Nat) : Int) - 1))), (10, (.slice (some ⟨jr, 0, none⟩) q 2)), (11, (.bool true)), (12, (.int .i64 (((q + 1) : Nat) : Int)))] ∧ D = [(n, some ⟨[(xDp35 n8 NX jv3 K2 ju4 M2)], 3, 38, true⟩), ((n8 + 1), some (oIn ((nx.set t (Ux.mk a)).map uI))), (jv3, some (oMsg ws2)), ((n + 1), some ⟨[[(.int .i64 ((t : Nat) : Int)), (.int .i64 ssn), (.bool false), (W pr), (.string da)]], 5, 29, true⟩), ((n + 2), some ⟨[[(.slice none 0 0), (.slice none 0 0), (.slice none 0 0)]], 3, 38, true⟩), (ju, none), (ju4, some (oMsg (L3 ++ [ws2.getD (ws2.findIdx (qq ((t : Nat) : Int) a)) dMsg]))), (jr, some (oMsg ((ws2.eraseIdx (ws2.findIdx (qq ((t : Nat) : Int) a))).take q)))] ∧ (∀ i ∈ keys D, i < n') ∧ (ws2.findIdx (qq ((t : Nat) : Int) a)) ≤ q ∧ q + 1 ≤ K2 ∧ jv3 < jr ∧ (n8 + 1) < jr ∧ jv3 < ju4 ∧ (n8 + 1) < ju4 ∧ jr ≠ ju4)) (K2 + 1 - 0) (.inl (⟨0, n9, rfl, by omega, ⟨rfl, rfl, rfl, rfl, rfl, rfl, rfl, trivial⟩, (by rfl), (kb8 (by omega)), ⟨by omega, by omega, by omega, by omega, by omega⟩⟩)) ?_
    rintro kn10 τ10 n10 Dn10 hSn10
    rcases hSn10 with ⟨i, jr, rfl, hn10, hHn10, rfl, hKn10, hIn10⟩ | ⟨q, jr, ju4, rfl, hn10, hHn10, rfl, hKn10, hIn10⟩
    ·
     rw [Has.eq hHn10]
     have hKn10_0 : n < n10 := hKn10 _ (by simp only [keys, List.map_cons, List.map_nil, List.mem_cons, true_or, or_true])
     have hKn10_1 : (n8 + 1) < n10 := hKn10 _ (by simp only [keys, List.map_cons, List.map_nil, List.mem_cons, true_or, or_true])
     have hKn10_2 : jv3 < n10 := hKn10 _ (by simp only [keys, List.map_cons, List.map_nil, List.mem_cons, true_or, or_true])
     have hKn10_3 : (n + 1) < n10 := hKn10 _ (by simp only [keys, List.map_cons, List.map_nil, List.mem_cons, true_or, or_true])
     have hKn10_4 : (n + 2) < n10 := hKn10 _ (by simp only [keys, List.map_cons, List.map_nil, List.mem_cons, true_or, or_true])
     have hKn10_5 : ju < n10 := hKn10 _ (by simp only [keys, List.map_cons, List.map_nil, List.mem_cons, true_or, or_true])
     have hKn10_6 : ju3 < n10 := hKn10 _ (by simp only [keys, List.map_cons, List.map_nil, List.mem_cons, true_or, or_true])
     have hKn10_7 : jr < n10 := hKn10 _ (by simp only [keys, List.map_cons, List.map_nil, List.mem_cons, true_or, or_true])
     clear hKn10
     obtain ⟨hi1, hi2, hr0, hr1, hr2⟩ := hIn10
     refine RA.seq hd ?_
     refine RA.seq hd ?_
     refine RA.region env_ok ?_
     refine OA.p (some 101) (.int .i64 ((i : Nat) : Int)) rfl rfl rfl rfl ?_
     refine OA.p (some 102) (Pt n 0 1) rfl rfl rfl rfl ?_
     refine OA.p (some 103) (.slice (some ⟨jv3, 0, none⟩) K2 2) rfl rfl rfl (r_load1 rfl rfl rfl rfl rfl get_here rfl rfl) ?_
     refine OA.p (some 104) (.int .i64 ((K2 : Nat) : Int)) rfl rfl rfl rfl ?_
     by_cases hc9 : ((i : Nat) : Int) < ((K2 : Nat) : Int)
     ·
      refine OA.p (some 105) (.bool true) rfl rfl rfl (Eq.trans (r_bin rfl rfl rfl (b_lss rfl)) (dT hc9)) ?_
      refine OA.nil ?_
      intro _
      refine RA.condT rfl ?_
      refine RA.skip env_ok ?_
      intro _
      refine RA.seq hd ?_
      refine RA.block ?_
      refine RA.seq hd ?_
      refine RA.region env_ok ?_
      refine OA.p (some 108) (Pt n 0 1) rfl rfl rfl rfl ?_
      refine OA.p (some 109) (.slice (some ⟨jv3, 0, none⟩) K2 2) rfl rfl rfl (r_load1 rfl rfl rfl rfl rfl get_here rfl rfl) ?_
      refine OA.p (some 110) (.int .i64 ((i : Nat) : Int)) rfl rfl rfl rfl ?_
      refine OA.p (some 111) (Pt jv3 i 0) rfl rfl rfl (r_iaS (l := i) rfl rfl rfl rfl rfl rfl (by omega) (by omega) (gt2 (by omega) get_here) rfl (by omega)) ?_
      refine OA.p (some 112) (.agg ⟨(cMsg (ws2.getD i dMsg))⟩) rfl rfl rfl (r_loadR (c := cMsg) dMsg rfl rfl rfl rfl (gt2 (by omega) get_here) (by rw [hws2]; omega) rfl) ?_
      refine OA.op1 (dst := (some 13)) (v := (Pt n10 0 0)) (n1 := (n10 + 1)) (w := (n10, some ⟨[[(.int .i64 0), (.int .i64 0), (.bool false), (.int .u32 0), (.string ByteArray.empty)]], 5, 29, true⟩)) rfl rfl rfl rfl (by omega) ?_
      refine OA.op1 (dst := none) (v := (.tuple #[])) (n1 := (n10 + 1)) (w := (n10, some ⟨[(cMsg (ws2.getD i dMsg))], 5, 29, true⟩)) rfl rfl rfl (r_store rfl rfl rfl rfl rfl rfl rfl get_here rfl rfl (Nat.le_of_ble_eq_true rfl) rfl) (by omega) ?_
      refine OA.nil ?_
      intro _
      refine RA.weaken (D' := [(n10, some ⟨[(cMsg (ws2.getD i dMsg))], 5, 29, true⟩), (n, some ⟨[(xDp313 n8 NX jv3 K2 ju3 M2)], 3, 38, true⟩), ((n8 + 1), some (oIn ((nx.set t (Ux.mk a)).map uI))), (jv3, some (oMsg ws2)), ((n + 1), some ⟨[[(.int .i64 ((t : Nat) : Int)), (.int .i64 ssn), (.bool false), (W pr), (.string da)]], 5, 29, true⟩), ((n + 2), some ⟨[[(.slice none 0 0), (.slice none 0 0), (.slice none 0 0)]], 3, 38, true⟩), (ju, none), (ju3, some (oMsg L3)), (jr, some (oMsg (ws2.take i)))]) hd (Less.of (fac (mm (fun _ => get_here) (fun _ => get_here)) (fac (mm (fun _ => (get_there (by omega) get_here)) (fun _ => (gt2 (by omega) get_here))) (fac (mm (fun _ => (gt2 (by omega) get_here)) (fun _ => (gt3 (by omega) get_here))) (fac (mm (fun _ => (gt3 (by omega) get_here)) (fun _ => (gt4 (by omega) get_here))) (fac (mm (fun _ => (gt4 (by omega) get_here)) (fun _ => (gt5 (by omega) get_here))) (fac (mm (fun _ => (gt5 (by omega) get_here)) (fun _ => (gt6 (by omega) get_here))) (fac (mm (fun _ => (gt6 (by omega) get_here)) (fun _ => (gt7 (by omega) get_here))) (fac (mm (fun _ => (gt7 (by omega) get_here)) (fun _ => (gt8 (by omega) get_here))) (fac (mm (fun _ => (gt8 (by omega) get_here)) (fun _ => (gt9 (by omega) get_here))) fan))))))))) (gone_of (by simp only [goneP, memP, List.cons_append, List.nil_append, true_or, or_true, true_and, and_true, or_false] <;> omega))) ?_
      refine RA.seq hd ?_
      refine RA.seq hd ?_
      refine RA.par (md := [some [], some [], some [], some [], some [n10], some [], some [(n + 1)], some [], some [], some [], some [], some [n10], some [], some [], some [n], some [], some [(n + 1)], some [(n8 + 1)], some [(n8 + 1)], some [], some []]) env_ok (hd.of (by omega) (kb9 (by omega))) (by kernel_rfl) ?_
      refine PQ.pure (dst := (some 113)) (v := (.bool false)) rfl rfl rfl noStore (none_ok _ _) rfl ?_
      refine PQ.pure (dst := (some 114)) (v := (.bool true)) rfl rfl rfl noStore (none_ok _ _) rfl ?_
      refine PQ.pure (dst := (some 115)) (v := (.bool true)) rfl rfl rfl noStore (none_ok _ _) rfl ?_
      refine PQ.pure (dst := (some 116)) (v := (Pt n10 0 0)) rfl rfl rfl noStore (none_ok _ _) rfl ?_
      refine PQ.pure (dst := (some 117)) (v := (.int .i64 (ws2.getD i dMsg).st)) rfl rfl rfl (app [(n10, some ⟨[(cMsg (ws2.getD i dMsg))], 5, 29, true⟩)] noStore) (seen_one (V := []) (D := [(n10, some ⟨[(cMsg (ws2.getD i dMsg))], 5, 29, true⟩), (n, some ⟨[(xDp313 n8 NX jv3 K2 ju3 M2)], 3, 38, true⟩), ((n8 + 1), some (oIn ((nx.set t (Ux.mk a)).map uI))), (jv3, some (oMsg ws2)), ((n + 1), some ⟨[[(.int .i64 ((t : Nat) : Int)), (.int .i64 ssn), (.bool false), (W pr), (.string da)]], 5, 29, true⟩), ((n + 2), some ⟨[[(.slice none 0 0), (.slice none 0 0), (.slice none 0 0)]], 3, 38, true⟩), (ju, none), (ju3, some (oMsg L3)), (jr, some (oMsg (ws2.take i)))]) (by kernel_rfl) get_here) (r_load1 rfl rfl rfl rfl rfl get_here rfl rfl) ?_
      refine PQ.pure (dst := (some 118)) (v := (.pointer (some ⟨(n + 1), 0, some 0⟩))) rfl rfl rfl noStore (none_ok _ _) rfl ?_
      refine PQ.pure (dst := (some 119)) (v := (.int .i64 ((t : Nat) : Int))) rfl rfl rfl (app [((n + 1), some ⟨[[(.int .i64 ((t : Nat) : Int)), (.int .i64 ssn), (.bool false), (W pr), (.string da)]], 5, 29, true⟩)] noStore) (seen_one (V := []) (D := [(n10, some ⟨[(cMsg (ws2.getD i dMsg))], 5, 29, true⟩), (n, some ⟨[(xDp313 n8 NX jv3 K2 ju3 M2)], 3, 38, true⟩), ((n8 + 1), some (oIn ((nx.set t (Ux.mk a)).map uI))), (jv3, some (oMsg ws2)), ((n + 1), some ⟨[[(.int .i64 ((t : Nat) : Int)), (.int .i64 ssn), (.bool false), (W pr), (.string da)]], 5, 29, true⟩), ((n + 2), some ⟨[[(.slice none 0 0), (.slice none 0 0), (.slice none 0 0)]], 3, 38, true⟩), (ju, none), (ju3, some (oMsg L3)), (jr, some (oMsg (ws2.take i)))]) (by kernel_rfl) (gt4 (by omega) get_here)) (r_load1 rfl rfl rfl rfl rfl get_here rfl rfl) ?_
      by_cases hc10 : (ws2.getD i dMsg).st = ((t : Nat) : Int)
      ·
       refine PQ.pure (dst := (some 120)) (v := (.bool true)) rfl rfl rfl noStore (none_ok _ _) (Eq.trans (r_bin rfl rfl rfl (b_eql rfl)) (dT hc10)) ?_
       refine PQ.pure (dst := (some 121)) (v := (.bool true)) rfl rfl rfl noStore (none_ok _ _) rfl ?_
       refine PQ.pure (dst := (some 122)) (v := (.bool true)) rfl rfl rfl noStore (none_ok _ _) rfl ?_
       refine PQ.pure (dst := (some 123)) (v := (Pt n10 0 1)) rfl rfl rfl noStore (none_ok _ _) rfl ?_
       refine PQ.pure (dst := (some 124)) (v := (.int .i64 (ws2.getD i dMsg).ssn)) rfl rfl rfl (app [(n10, some ⟨[(cMsg (ws2.getD i dMsg))], 5, 29, true⟩)] noStore) (seen_one (V := []) (D := [(n10, some ⟨[(cMsg (ws2.getD i dMsg))], 5, 29, true⟩), (n, some ⟨[(xDp313 n8 NX jv3 K2 ju3 M2)], 3, 38, true⟩), ((n8 + 1), some (oIn ((nx.set t (Ux.mk a)).map uI))), (jv3, some (oMsg ws2)), ((n + 1), some ⟨[[(.int .i64 ((t : Nat) : Int)), (.int .i64 ssn), (.bool false), (W pr), (.string da)]], 5, 29, true⟩), ((n + 2), some ⟨[[(.slice none 0 0), (.slice none 0 0), (.slice none 0 0)]], 3, 38, true⟩), (ju, none), (ju3, some (oMsg L3)), (jr, some (oMsg (ws2.take i)))]) (by kernel_rfl) get_here) (r_load1 rfl rfl rfl rfl rfl get_here rfl rfl) ?_
       have hm11 := andN_le (ws2.getD i dMsg).ssn 65535 (by decide)
       refine PQ.pure (dst := (some 125)) (v := (.int .i64 (((u16N (ws2.getD i dMsg).ssn) : Nat) : Int))) rfl rfl rfl noStore (none_ok _ _) (Eq.trans (r_bin rfl rfl rfl (b_andN (ws2.getD i dMsg).ssn 65535 (by decide))) (by rw [andN_u16])) ?_
       refine PQ.pure (dst := (some 126)) (v := (Pt n 0 0)) rfl rfl rfl noStore (none_ok _ _) rfl ?_
       refine PQ.pure (dst := (some 127)) (v := (.slice (some ⟨(n8 + 1), 0, none⟩) NX 0)) rfl rfl rfl (app [(n, some ⟨[(xDp313 n8 NX jv3 K2 ju3 M2)], 3, 38, true⟩)] noStore) (seen_one (V := []) (D := [(n10, some ⟨[(cMsg (ws2.getD i dMsg))], 5, 29, true⟩), (n, some ⟨[(xDp313 n8 NX jv3 K2 ju3 M2)], 3, 38, true⟩), ((n8 + 1), some (oIn ((nx.set t (Ux.mk a)).map uI))), (jv3, some (oMsg ws2)), ((n + 1), some ⟨[[(.int .i64 ((t : Nat) : Int)), (.int .i64 ssn), (.bool false), (W pr), (.string da)]], 5, 29, true⟩), ((n + 2), some ⟨[[(.slice none 0 0), (.slice none 0 0), (.slice none 0 0)]], 3, 38, true⟩), (ju, none), (ju3, some (oMsg L3)), (jr, some (oMsg (ws2.take i)))]) (by kernel_rfl) (get_there (by omega) get_here)) (r_load1 rfl rfl rfl rfl rfl get_here rfl rfl) ?_
       refine PQ.pure (dst := (some 128)) (v := (.pointer (some ⟨(n + 1), 0, some 0⟩))) rfl rfl rfl noStore (none_ok _ _) rfl ?_
       refine PQ.pure (dst := (some 129)) (v := (.int .i64 ((t : Nat) : Int))) rfl rfl rfl (app [((n + 1), some ⟨[[(.int .i64 ((t : Nat) : Int)), (.int .i64 ssn), (.bool false), (W pr), (.string da)]], 5, 29, true⟩)] noStore) (seen_one (V := []) (D := [(n10, some ⟨[(cMsg (ws2.getD i dMsg))], 5, 29, true⟩), (n, some ⟨[(xDp313 n8 NX jv3 K2 ju3 M2)], 3, 38, true⟩), ((n8 + 1), some (oIn ((nx.set t (Ux.mk a)).map uI))), (jv3, some (oMsg ws2)), ((n + 1), some ⟨[[(.int .i64 ((t : Nat) : Int)), (.int .i64 ssn), (.bool false), (W pr), (.string da)]], 5, 29, true⟩), ((n + 2), some ⟨[[(.slice none 0 0), (.slice none 0 0), (.slice none 0 0)]], 3, 38, true⟩), (ju, none), (ju3, some (oMsg L3)), (jr, some (oMsg (ws2.take i)))]) (by kernel_rfl) (gt4 (by omega) get_here)) (r_load1 rfl rfl rfl rfl rfl get_here rfl rfl) ?_
       refine PQ.pure (dst := (some 130)) (v := (.pointer (some ⟨(n8 + 1), t, some 0⟩))) rfl rfl rfl (app [((n8 + 1), some (oIn ((nx.set t (Ux.mk a)).map uI)))] noStore) (seen_one (V := []) (D := [(n10, some ⟨[(cMsg (ws2.getD i dMsg))], 5, 29, true⟩), (n, some ⟨[(xDp313 n8 NX jv3 K2 ju3 M2)], 3, 38, true⟩), ((n8 + 1), some (oIn ((nx.set t (Ux.mk a)).map uI))), (jv3, some (oMsg ws2)), ((n + 1), some ⟨[[(.int .i64 ((t : Nat) : Int)), (.int .i64 ssn), (.bool false), (W pr), (.string da)]], 5, 29, true⟩), ((n + 2), some ⟨[[(.slice none 0 0), (.slice none 0 0), (.slice none 0 0)]], 3, 38, true⟩), (ju, none), (ju3, some (oMsg L3)), (jr, some (oMsg (ws2.take i)))]) (by kernel_rfl) (gt2 (by omega) get_here)) (r_iaS (l := t) rfl rfl rfl rfl rfl rfl (by omega) (by omega) get_here rfl (by omega)) ?_
       refine PQ.pure (dst := (some 131)) (v := (.int .i64 ((a : Nat) : Int))) rfl rfl rfl (app [((n8 + 1), some (oIn ((nx.set t (Ux.mk a)).map uI)))] noStore) (seen_one (V := []) (D := [(n10, some ⟨[(cMsg (ws2.getD i dMsg))], 5, 29, true⟩), (n, some ⟨[(xDp313 n8 NX jv3 K2 ju3 M2)], 3, 38, true⟩), ((n8 + 1), some (oIn ((nx.set t (Ux.mk a)).map uI))), (jv3, some (oMsg ws2)), ((n + 1), some ⟨[[(.int .i64 ((t : Nat) : Int)), (.int .i64 ssn), (.bool false), (W pr), (.string da)]], 5, 29, true⟩), ((n + 2), some ⟨[[(.slice none 0 0), (.slice none 0 0), (.slice none 0 0)]], 3, 38, true⟩), (ju, none), (ju3, some (oMsg L3)), (jr, some (oMsg (ws2.take i)))]) (by kernel_rfl) (gt2 (by omega) get_here)) (Eq.trans (r_loadF (c := cIn) dIn rfl rfl rfl rfl rfl get_here (by rw [List.length_map, List.length_set, hnx]; omega) rfl) (by rw [uI_get (by rw [List.length_set]; omega), set_z (by omega)])) ?_
       by_cases hc11 : (((u16N (ws2.getD i dMsg).ssn) : Nat) : Int) = ((a : Nat) : Int)
       ·
        have hfo := fi_found (d := dMsg) (p := (qq ((t : Nat) : Int) a)) (by omega) (qT ⟨hc10, hc11⟩) hi2
        refine PQ.pure (dst := (some 132)) (v := (.bool true)) rfl rfl rfl noStore (none_ok _ _) (Eq.trans (r_bin rfl rfl rfl (b_eql rfl)) (dT hc11)) ?_
        refine PQ.pure (dst := (some 133)) (v := (.bool true)) rfl rfl rfl noStore (none_ok _ _) rfl ?_
        refine PQ.done (d := []) (by kernel_rfl) ?_
        intro _
        refine RA.rebase [(2, (Pt n 0 0)), (3, (.pointer (some ⟨(n + 1), 0, some 0⟩))), (4, (.pointer (some ⟨(n + 2), 0, some 0⟩))), (9, (.int .i64 (((kk : Nat) : Int) - 1))), (10, (.slice (some ⟨jr, 0, none⟩) i 2)), (11, (.bool false)), (12, (.int .i64 ((i : Nat) : Int))), (13, (Pt n10 0 0)), (105, (.bool true)), (133, (.bool true))] ⟨rfl, rfl, rfl, rfl, rfl, rfl, rfl, rfl, rfl, rfl, trivial⟩ (fun τr12 => ?_)
        refine RA.condT rfl ?_
        refine RA.seq hd ?_
        refine RA.par (md := [some [], some [], some [n], none, some [n10], some [], none, some [], none, some []]) env_ok (hd.of (by omega) (kb9 (by omega))) (by kernel_rfl) ?_
        refine PQ.op (dst := (some 134)) (v := (.slice (some ⟨(n10 + 1), 0, none⟩) 0 0)) (n1 := (n10 + 2)) (d1 := [((n10 + 1), some (oMsg ([] : List Msg)))]) rfl rfl rfl noStore (none_ok _ _) (by kernel_rfl) (by omega) (kp1 (wr_new (by omega) (by omega))) ?_
        refine PQ.pure (dst := (some 135)) (v := (Pt n 0 2)) rfl rfl rfl noStore (none_ok _ _) rfl ?_
        refine PQ.pure (dst := (some 136)) (v := (.slice (some ⟨ju3, 0, none⟩) M2 2)) rfl rfl rfl (app [(n, some ⟨[(xDp313 n8 NX jv3 K2 ju3 M2)], 3, 38, true⟩)] noStore) (seen_one (V := []) (D := [(n10, some ⟨[(cMsg (ws2.getD i dMsg))], 5, 29, true⟩), (n, some ⟨[(xDp313 n8 NX jv3 K2 ju3 M2)], 3, 38, true⟩), ((n8 + 1), some (oIn ((nx.set t (Ux.mk a)).map uI))), (jv3, some (oMsg ws2)), ((n + 1), some ⟨[[(.int .i64 ((t : Nat) : Int)), (.int .i64 ssn), (.bool false), (W pr), (.string da)]], 5, 29, true⟩), ((n + 2), some ⟨[[(.slice none 0 0), (.slice none 0 0), (.slice none 0 0)]], 3, 38, true⟩), (ju, none), (ju3, some (oMsg L3)), (jr, some (oMsg (ws2.take i)))]) (by kernel_rfl) (get_there (by omega) get_here)) (r_load1 rfl rfl rfl rfl rfl get_here rfl rfl) ?_
        by_cases hc12 : M2 = 0
        ·
         refine PQ.pure (dst := (some 137)) (v := (.slice (some ⟨(n10 + 1), 0, none⟩) 0 0)) rfl rfl rfl _ (seen_any (V := [((n10 + 1), some (oMsg ([] : List Msg)))]) (D := [(n10, some ⟨[(cMsg (ws2.getD i dMsg))], 5, 29, true⟩), (n, some ⟨[(xDp313 n8 NX jv3 K2 ju3 M2)], 3, 38, true⟩), ((n8 + 1), some (oIn ((nx.set t (Ux.mk a)).map uI))), (jv3, some (oMsg ws2)), ((n + 1), some ⟨[[(.int .i64 ((t : Nat) : Int)), (.int .i64 ssn), (.bool false), (W pr), (.string da)]], 5, 29, true⟩), ((n + 2), some ⟨[[(.slice none 0 0), (.slice none 0 0), (.slice none 0 0)]], 3, 38, true⟩), (ju, none), (ju3, some (oMsg L3)), (jr, some (oMsg (ws2.take i)))]) (by kernel_rfl)) (r_appendZ rfl rfl rfl rfl (.inl ⟨_, _, _, rfl, by decide⟩) rfl rfl rfl rfl rfl (by decide) (by omega)) ?_
         refine PQ.pure (dst := (some 138)) (v := (.agg ⟨(xDp32 ws2 i)⟩)) rfl rfl rfl (app [(n10, some ⟨[(cMsg (ws2.getD i dMsg))], 5, 29, true⟩)] noStore) (seen_one (V := []) (D := [(n10, some ⟨[(cMsg (ws2.getD i dMsg))], 5, 29, true⟩), (n, some ⟨[(xDp313 n8 NX jv3 K2 ju3 M2)], 3, 38, true⟩), ((n8 + 1), some (oIn ((nx.set t (Ux.mk a)).map uI))), (jv3, some (oMsg ws2)), ((n + 1), some ⟨[[(.int .i64 ((t : Nat) : Int)), (.int .i64 ssn), (.bool false), (W pr), (.string da)]], 5, 29, true⟩), ((n + 2), some ⟨[[(.slice none 0 0), (.slice none 0 0), (.slice none 0 0)]], 3, 38, true⟩), (ju, none), (ju3, some (oMsg L3)), (jr, some (oMsg (ws2.take i)))]) (by kernel_rfl) get_here) (r_loadA rfl rfl rfl rfl get_here rfl rfl rfl) ?_
         refine PQ.op (dst := (some 139)) (v := (.slice (some ⟨(n10 + 2), 0, none⟩) 1 0)) (n1 := (n10 + 3)) (d1 := [((n10 + 2), some ⟨[(xDp32 ws2 i)], 5, 29, true⟩)]) rfl rfl rfl noStore (none_ok _ _) (by kernel_rfl) (by omega) (kp1 (wr_new (by omega) (by omega))) ?_
         refine PQ.op (dst := (some 140)) (v := (.slice (some ⟨(n10 + 3), 0, none⟩) 1 0)) (n1 := (n10 + 4)) (d1 := [((n10 + 3), some (oMsg (L3 ++ [(ws2.getD i dMsg)]))), ((n10 + 1), none)]) rfl rfl rfl _ (seen_any (V := [((n10 + 2), some ⟨[(xDp32 ws2 i)], 5, 29, true⟩), ((n10 + 1), some (oMsg ([] : List Msg)))]) (D := [(n10, some ⟨[(cMsg (ws2.getD i dMsg))], 5, 29, true⟩), (n, some ⟨[(xDp313 n8 NX jv3 K2 ju3 M2)], 3, 38, true⟩), ((n8 + 1), some (oIn ((nx.set t (Ux.mk a)).map uI))), (jv3, some (oMsg ws2)), ((n + 1), some ⟨[[(.int .i64 ((t : Nat) : Int)), (.int .i64 ssn), (.bool false), (W pr), (.string da)]], 5, 29, true⟩), ((n + 2), some ⟨[[(.slice none 0 0), (.slice none 0 0), (.slice none 0 0)]], 3, 38, true⟩), (ju, none), (ju3, some (oMsg L3)), (jr, some (oMsg (ws2.take i)))]) (by kernel_rfl)) (r_appendR (c := cMsg) (l' := (L3 ++ [(ws2.getD i dMsg)])) rfl rfl rfl rfl rfl rfl rfl rfl rfl rfl (by decide) (get_there (by omega) get_here) get_here (by rw [show ([] : List Msg).length = 0 from rfl]) (by rw [nil_of hL3 (by omega)]; rfl) (by omega) (of_decide_eq_true (by kernel_rfl)) (by omega)) (by omega) (kp2 (wr_new (by omega) (by omega)) (wr_tight (by kernel_rfl) (by omega))) ?_
         refine PQ.pure (dst := (some 141)) (v := (Pt n 0 2)) rfl rfl rfl noStore (none_ok _ _) rfl ?_
         refine PQ.op (dst := none) (v := (.tuple #[])) (n1 := (n10 + 4)) (d1 := [(n, some ⟨[(xDp36 n8 NX jv3 K2 n10)], 3, 38, true⟩)]) rfl rfl rfl _ (seen_any (V := [((n10 + 3), some (oMsg (L3 ++ [(ws2.getD i dMsg)]))), ((n10 + 1), none), ((n10 + 2), some ⟨[(xDp32 ws2 i)], 5, 29, true⟩), ((n10 + 1), some (oMsg ([] : List Msg)))]) (D := [(n10, some ⟨[(cMsg (ws2.getD i dMsg))], 5, 29, true⟩), (n, some ⟨[(xDp313 n8 NX jv3 K2 ju3 M2)], 3, 38, true⟩), ((n8 + 1), some (oIn ((nx.set t (Ux.mk a)).map uI))), (jv3, some (oMsg ws2)), ((n + 1), some ⟨[[(.int .i64 ((t : Nat) : Int)), (.int .i64 ssn), (.bool false), (W pr), (.string da)]], 5, 29, true⟩), ((n + 2), some ⟨[[(.slice none 0 0), (.slice none 0 0), (.slice none 0 0)]], 3, 38, true⟩), (ju, none), (ju3, some (oMsg L3)), (jr, some (oMsg (ws2.take i)))]) (by kernel_rfl)) (r_store rfl rfl rfl rfl rfl rfl rfl (gt5 (by omega) get_here) rfl rfl (Nat.le_of_ble_eq_true rfl) rfl) (by omega) (kp1 (wr_tight (by kernel_rfl) (by omega))) ?_
         refine PQ.pure (dst := (some 11)) (v := (.bool true)) rfl rfl rfl noStore (none_ok _ _) rfl ?_
         refine PQ.done (d := [(n, some ⟨[(xDp36 n8 NX jv3 K2 n10)], 3, 38, true⟩), ((n10 + 3), some (oMsg (L3 ++ [(ws2.getD i dMsg)]))), ((n10 + 1), none), ((n10 + 2), some ⟨[(xDp32 ws2 i)], 5, 29, true⟩), ((n10 + 1), some (oMsg ([] : List Msg)))]) (by kernel_rfl) ?_
         intro _
         refine RA.weaken (D' := [(n, some ⟨[(xDp36 n8 NX jv3 K2 n10)], 3, 38, true⟩), ((n10 + 3), some (oMsg (L3 ++ [(ws2.getD i dMsg)]))), ((n10 + 1), none), ((n10 + 2), some ⟨[(xDp32 ws2 i)], 5, 29, true⟩), (n10, some ⟨[(cMsg (ws2.getD i dMsg))], 5, 29, true⟩), ((n8 + 1), some (oIn ((nx.set t (Ux.mk a)).map uI))), (jv3, some (oMsg ws2)), ((n + 1), some ⟨[[(.int .i64 ((t : Nat) : Int)), (.int .i64 ssn), (.bool false), (W pr), (.string da)]], 5, 29, true⟩), ((n + 2), some ⟨[[(.slice none 0 0), (.slice none 0 0), (.slice none 0 0)]], 3, 38, true⟩), (ju, none), (ju3, some (oMsg L3)), (jr, some (oMsg (ws2.take i)))]) hd (Less.of (fac (mm (fun _ => get_here) (fun _ => get_here)) (fac (mm (fun _ => (get_there (by omega) get_here)) (fun _ => (get_there (by omega) get_here))) (fac (mm (fun _ => (gt2 (by omega) get_here)) (fun _ => (gt2 (by omega) get_here))) (fac (mm (fun _ => (gt3 (by omega) get_here)) (fun _ => (gt3 (by omega) get_here))) (fac (mm (fun _ => (gt4 (by omega) get_here)) (fun _ => (gt5 (by omega) get_here))) (fac (mm (fun _ => (gt5 (by omega) get_here)) (fun _ => (gt7 (by omega) get_here))) (fac (mm (fun _ => (gt6 (by omega) get_here)) (fun _ => (gt8 (by omega) get_here))) (fac (mm (fun _ => (gt7 (by omega) get_here)) (fun _ => (gt9 (by omega) get_here))) (fac (mm (fun _ => (gt8 (by omega) get_here)) (fun _ => (gt10 (by omega) get_here))) (fac (mm (fun _ => (gt9 (by omega) get_here)) (fun _ => (gt11 (by omega) get_here))) (fac (mm (fun _ => (gt10 (by omega) get_here)) (fun _ => (gt12 (by omega) get_here))) (fac (mm (fun _ => (gt11 (by omega) get_here)) (fun _ => (gt13 (by omega) get_here))) fan)))))))))))) (gone_of (by simp only [goneP, memP, List.cons_append, List.nil_append, true_or, or_true, true_and, and_true, or_false] <;> omega))) ?_
         refine RA.exit env_ok ?_
         intro _
         refine RA.region env_ok ?_
         refine OA.p (some 106) (.int .i64 ((i : Nat) : Int)) rfl rfl rfl rfl ?_
         refine OA.p (some 107) (.int .i64 (((i + 1) : Nat) : Int)) rfl rfl rfl (r_bin rfl rfl rfl (b_add (i64_eq (by omega)))) ?_
         refine OA.p (some 12) (.int .i64 (((i + 1) : Nat) : Int)) rfl rfl rfl rfl ?_
         refine OA.nil ?_
         refine ⟨K2 - i, by omega, [(n, some ⟨[(xDp36 n8 NX jv3 K2 n10)], 3, 38, true⟩), ((n8 + 1), some (oIn ((nx.set t (Ux.mk a)).map uI))), (jv3, some (oMsg ws2)), ((n + 1), some ⟨[[(.int .i64 ((t : Nat) : Int)), (.int .i64 ssn), (.bool false), (W pr), (.string da)]], 5, 29, true⟩), ((n + 2), some ⟨[[(.slice none 0 0), (.slice none 0 0), (.slice none 0 0)]], 3, 38, true⟩), (ju, none), ((n10 + 3), some (oMsg (L3 ++ [(ws2.getD i dMsg)]))), (jr, some (oMsg (ws2.take i)))], (Less.of (fac (mm (fun _ => get_here) (fun _ => get_here)) (fac (mm (fun _ => (get_there (by omega) get_here)) (fun _ => (gt5 (by omega) get_here))) (fac (mm (fun _ => (gt2 (by omega) get_here)) (fun _ => (gt6 (by omega) get_here))) (fac (mm (fun _ => (gt3 (by omega) get_here)) (fun _ => (gt7 (by omega) get_here))) (fac (mm (fun _ => (gt4 (by omega) get_here)) (fun _ => (gt8 (by omega) get_here))) (fac (mm (fun _ => (gt5 (by omega) get_here)) (fun _ => (gt9 (by omega) get_here))) (fac (mm (fun _ => (gt6 (by omega) get_here)) (fun _ => (get_there (by omega) get_here))) (fac (mm (fun _ => (gt7 (by omega) get_here)) (fun _ => (gt11 (by omega) get_here))) fan)))))))) (gone_of (by simp only [goneP, memP, List.cons_append, List.nil_append, true_or, or_true, true_and, and_true, or_false] <;> omega))), .inr (⟨i, jr, (n10 + 3), rfl, by omega, ⟨rfl, rfl, rfl, rfl, rfl, rfl, rfl, trivial⟩, (by rw [hfo, ← rest_at (by omega)]; have hM0 : M2 = 0 := (by omega); subst hM0; rfl), (kb8 (by omega)), ⟨by omega, by omega, by omega, by omega, by omega, by omega, by omega⟩⟩)⟩
        ·
         refine PQ.op (dst := (some 137)) (v := (.slice (some ⟨(n10 + 2), 0, none⟩) M2 0)) (n1 := (n10 + 3)) (d1 := [((n10 + 2), some (oMsg L3)), ((n10 + 1), none)]) rfl rfl rfl _ (seen_any (V := [((n10 + 1), some (oMsg ([] : List Msg)))]) (D := [(n10, some ⟨[(cMsg (ws2.getD i dMsg))], 5, 29, true⟩), (n, some ⟨[(xDp313 n8 NX jv3 K2 ju3 M2)], 3, 38, true⟩), ((n8 + 1), some (oIn ((nx.set t (Ux.mk a)).map uI))), (jv3, some (oMsg ws2)), ((n + 1), some ⟨[[(.int .i64 ((t : Nat) : Int)), (.int .i64 ssn), (.bool false), (W pr), (.string da)]], 5, 29, true⟩), ((n + 2), some ⟨[[(.slice none 0 0), (.slice none 0 0), (.slice none 0 0)]], 3, 38, true⟩), (ju, none), (ju3, some (oMsg L3)), (jr, some (oMsg (ws2.take i)))]) (by kernel_rfl)) (r_appendL (c := cMsg) (l' := L3) rfl rfl rfl rfl rfl rfl rfl rfl rfl rfl (by decide) get_here (gt8 (by omega) get_here) (by rw [show ([] : List Msg).length = 0 from rfl]) (by omega) (by rw [hL3]; omega) (by rw [List.nil_append, take_all' (by rw [hL3])]) (by omega) (of_decide_eq_true (by kernel_rfl)) (by omega)) (by omega) (kp2 (wr_new (by omega) (by omega)) (wr_late [4, 5] (by kernel_rfl) (by kernel_rfl) (by omega) 0 (by kernel_rfl) (by simp [keys]) (fac (lo1 rfl (by omega)) (fac (lo0 rfl) fan)))) ?_
         refine PQ.pure (dst := (some 138)) (v := (.agg ⟨(xDp32 ws2 i)⟩)) rfl rfl rfl (app [(n10, some ⟨[(cMsg (ws2.getD i dMsg))], 5, 29, true⟩)] noStore) (seen_one (V := []) (D := [(n10, some ⟨[(cMsg (ws2.getD i dMsg))], 5, 29, true⟩), (n, some ⟨[(xDp313 n8 NX jv3 K2 ju3 M2)], 3, 38, true⟩), ((n8 + 1), some (oIn ((nx.set t (Ux.mk a)).map uI))), (jv3, some (oMsg ws2)), ((n + 1), some ⟨[[(.int .i64 ((t : Nat) : Int)), (.int .i64 ssn), (.bool false), (W pr), (.string da)]], 5, 29, true⟩), ((n + 2), some ⟨[[(.slice none 0 0), (.slice none 0 0), (.slice none 0 0)]], 3, 38, true⟩), (ju, none), (ju3, some (oMsg L3)), (jr, some (oMsg (ws2.take i)))]) (by kernel_rfl) get_here) (r_loadA rfl rfl rfl rfl get_here rfl rfl rfl) ?_
         refine PQ.op (dst := (some 139)) (v := (.slice (some ⟨(n10 + 3), 0, none⟩) 1 0)) (n1 := (n10 + 4)) (d1 := [((n10 + 3), some ⟨[(xDp32 ws2 i)], 5, 29, true⟩)]) rfl rfl rfl noStore (none_ok _ _) (by kernel_rfl) (by omega) (kp1 (wr_new (by omega) (by omega))) ?_
         refine PQ.op (dst := (some 140)) (v := (.slice (some ⟨(n10 + 4), 0, none⟩) (M2 + 1) 0)) (n1 := (n10 + 5)) (d1 := [((n10 + 4), some (oMsg (L3 ++ [(ws2.getD i dMsg)]))), ((n10 + 2), none)]) rfl rfl rfl _ (seen_any (V := [((n10 + 3), some ⟨[(xDp32 ws2 i)], 5, 29, true⟩), ((n10 + 2), some (oMsg L3)), ((n10 + 1), none), ((n10 + 1), some (oMsg ([] : List Msg)))]) (D := [(n10, some ⟨[(cMsg (ws2.getD i dMsg))], 5, 29, true⟩), (n, some ⟨[(xDp313 n8 NX jv3 K2 ju3 M2)], 3, 38, true⟩), ((n8 + 1), some (oIn ((nx.set t (Ux.mk a)).map uI))), (jv3, some (oMsg ws2)), ((n + 1), some ⟨[[(.int .i64 ((t : Nat) : Int)), (.int .i64 ssn), (.bool false), (W pr), (.string da)]], 5, 29, true⟩), ((n + 2), some ⟨[[(.slice none 0 0), (.slice none 0 0), (.slice none 0 0)]], 3, 38, true⟩), (ju, none), (ju3, some (oMsg L3)), (jr, some (oMsg (ws2.take i)))]) (by kernel_rfl)) (r_appendR (c := cMsg) (l' := (L3 ++ [(ws2.getD i dMsg)])) rfl rfl rfl rfl rfl rfl rfl rfl rfl rfl (by decide) (get_there (by omega) get_here) get_here (by rw [hL3]) (mp_snoc (c := cMsg) (x := (ws2.getD i dMsg))) (by omega) (of_decide_eq_true (by kernel_rfl)) (by omega)) (by omega) (kp2 (wr_new (by omega) (by omega)) (wr_tight (by kernel_rfl) (by omega))) ?_
         refine PQ.pure (dst := (some 141)) (v := (Pt n 0 2)) rfl rfl rfl noStore (none_ok _ _) rfl ?_
         refine PQ.op (dst := none) (v := (.tuple #[])) (n1 := (n10 + 5)) (d1 := [(n, some ⟨[(xDp33 n8 NX jv3 K2 n10 M2)], 3, 38, true⟩)]) rfl rfl rfl _ (seen_any (V := [((n10 + 4), some (oMsg (L3 ++ [(ws2.getD i dMsg)]))), ((n10 + 2), none), ((n10 + 3), some ⟨[(xDp32 ws2 i)], 5, 29, true⟩), ((n10 + 2), some (oMsg L3)), ((n10 + 1), none), ((n10 + 1), some (oMsg ([] : List Msg)))]) (D := [(n10, some ⟨[(cMsg (ws2.getD i dMsg))], 5, 29, true⟩), (n, some ⟨[(xDp313 n8 NX jv3 K2 ju3 M2)], 3, 38, true⟩), ((n8 + 1), some (oIn ((nx.set t (Ux.mk a)).map uI))), (jv3, some (oMsg ws2)), ((n + 1), some ⟨[[(.int .i64 ((t : Nat) : Int)), (.int .i64 ssn), (.bool false), (W pr), (.string da)]], 5, 29, true⟩), ((n + 2), some ⟨[[(.slice none 0 0), (.slice none 0 0), (.slice none 0 0)]], 3, 38, true⟩), (ju, none), (ju3, some (oMsg L3)), (jr, some (oMsg (ws2.take i)))]) (by kernel_rfl)) (r_store rfl rfl rfl rfl rfl rfl rfl (gt7 (by omega) get_here) rfl rfl (Nat.le_of_ble_eq_true rfl) rfl) (by omega) (kp1 (wr_tight (by kernel_rfl) (by omega))) ?_
         refine PQ.pure (dst := (some 11)) (v := (.bool true)) rfl rfl rfl noStore (none_ok _ _) rfl ?_
         refine PQ.done (d := [(n, some ⟨[(xDp33 n8 NX jv3 K2 n10 M2)], 3, 38, true⟩), ((n10 + 4), some (oMsg (L3 ++ [(ws2.getD i dMsg)]))), ((n10 + 2), none), ((n10 + 3), some ⟨[(xDp32 ws2 i)], 5, 29, true⟩), ((n10 + 2), some (oMsg L3)), ((n10 + 1), none), ((n10 + 1), some (oMsg ([] : List Msg)))]) (by kernel_rfl) ?_
         intro _
         refine RA.weaken (D' := [(n, some ⟨[(xDp33 n8 NX jv3 K2 n10 M2)], 3, 38, true⟩), ((n10 + 4), some (oMsg (L3 ++ [(ws2.getD i dMsg)]))), ((n10 + 2), none), ((n10 + 3), some ⟨[(xDp32 ws2 i)], 5, 29, true⟩), ((n10 + 1), none), (n10, some ⟨[(cMsg (ws2.getD i dMsg))], 5, 29, true⟩), ((n8 + 1), some (oIn ((nx.set t (Ux.mk a)).map uI))), (jv3, some (oMsg ws2)), ((n + 1), some ⟨[[(.int .i64 ((t : Nat) : Int)), (.int .i64 ssn), (.bool false), (W pr), (.string da)]], 5, 29, true⟩), ((n + 2), some ⟨[[(.slice none 0 0), (.slice none 0 0), (.slice none 0 0)]], 3, 38, true⟩), (ju, none), (ju3, some (oMsg L3)), (jr, some (oMsg (ws2.take i)))]) hd (Less.of (fac (mm (fun _ => get_here) (fun _ => get_here)) (fac (mm (fun _ => (get_there (by omega) get_here)) (fun _ => (get_there (by omega) get_here))) (fac (mm (fun _ => (gt2 (by omega) get_here)) (fun _ => (gt2 (by omega) get_here))) (fac (mm (fun _ => (gt3 (by omega) get_here)) (fun _ => (gt3 (by omega) get_here))) (fac (mm (fun _ => (gt4 (by omega) get_here)) (fun _ => (gt5 (by omega) get_here))) (fac (mm (fun _ => (gt5 (by omega) get_here)) (fun _ => (gt7 (by omega) get_here))) (fac (mm (fun _ => (gt6 (by omega) get_here)) (fun _ => (gt9 (by omega) get_here))) (fac (mm (fun _ => (gt7 (by omega) get_here)) (fun _ => (gt10 (by omega) get_here))) (fac (mm (fun _ => (gt8 (by omega) get_here)) (fun _ => (gt11 (by omega) get_here))) (fac (mm (fun _ => (gt9 (by omega) get_here)) (fun _ => (gt12 (by omega) get_here))) (fac (mm (fun _ => (gt10 (by omega) get_here)) (fun _ => (gt13 (by omega) get_here))) (fac (mm (fun _ => (gt11 (by omega) get_here)) (fun _ => (gt14 (by omega) get_here))) (fac (mm (fun _ => (gt12 (by omega) get_here)) (fun _ => (gt15 (by omega) get_here))) fan))))))))))))) (gone_of (by simp only [goneP, memP, List.cons_append, List.nil_append, true_or, or_true, true_and, and_true, or_false] <;> omega))) ?_
         refine RA.exit env_ok ?_
         intro _
         refine RA.region env_ok ?_
         refine OA.p (some 106) (.int .i64 ((i : Nat) : Int)) rfl rfl rfl rfl ?_
         refine OA.p (some 107) (.int .i64 (((i + 1) : Nat) : Int)) rfl rfl rfl (r_bin rfl rfl rfl (b_add (i64_eq (by omega)))) ?_
         refine OA.p (some 12) (.int .i64 (((i + 1) : Nat) : Int)) rfl rfl rfl rfl ?_
         refine OA.nil ?_
         refine ⟨K2 - i, by omega, [(n, some ⟨[(xDp33 n8 NX jv3 K2 n10 M2)], 3, 38, true⟩), ((n8 + 1), some (oIn ((nx.set t (Ux.mk a)).map uI))), (jv3, some (oMsg ws2)), ((n + 1), some ⟨[[(.int .i64 ((t : Nat) : Int)), (.int .i64 ssn), (.bool false), (W pr), (.string da)]], 5, 29, true⟩), ((n + 2), some ⟨[[(.slice none 0 0), (.slice none 0 0), (.slice none 0 0)]], 3, 38, true⟩), (ju, none), ((n10 + 4), some (oMsg (L3 ++ [(ws2.getD i dMsg)]))), (jr, some (oMsg (ws2.take i)))], (Less.of (fac (mm (fun _ => get_here) (fun _ => get_here)) (fac (mm (fun _ => (get_there (by omega) get_here)) (fun _ => (gt6 (by omega) get_here))) (fac (mm (fun _ => (gt2 (by omega) get_here)) (fun _ => (gt7 (by omega) get_here))) (fac (mm (fun _ => (gt3 (by omega) get_here)) (fun _ => (gt8 (by omega) get_here))) (fac (mm (fun _ => (gt4 (by omega) get_here)) (fun _ => (gt9 (by omega) get_here))) (fac (mm (fun _ => (gt5 (by omega) get_here)) (fun _ => (gt10 (by omega) get_here))) (fac (mm (fun _ => (gt6 (by omega) get_here)) (fun _ => (get_there (by omega) get_here))) (fac (mm (fun _ => (gt7 (by omega) get_here)) (fun _ => (gt12 (by omega) get_here))) fan)))))))) (gone_of (by simp only [goneP, memP, List.cons_append, List.nil_append, true_or, or_true, true_and, and_true, or_false] <;> omega))), .inr (⟨i, jr, (n10 + 4), rfl, by omega, ⟨rfl, rfl, rfl, rfl, rfl, rfl, rfl, trivial⟩, (by rw [hfo, ← rest_at (by omega)]), (kb8 (by omega)), ⟨by omega, by omega, by omega, by omega, by omega, by omega, by omega⟩⟩)⟩
       ·
        have hst := fi_step (d := dMsg) (p := (qq ((t : Nat) : Int) a)) (by omega) (fun hh => hc11 (of_decide_eq_true hh).2) hi2
        refine PQ.pure (dst := (some 132)) (v := (.bool false)) rfl rfl rfl noStore (none_ok _ _) (Eq.trans (r_bin rfl rfl rfl (b_eql rfl)) (dF hc11)) ?_
        refine PQ.pure (dst := (some 133)) (v := (.bool false)) rfl rfl rfl noStore (none_ok _ _) rfl ?_
        refine PQ.done (d := []) (by kernel_rfl) ?_
        intro _
        refine RA.rebase [(2, (Pt n 0 0)), (3, (.pointer (some ⟨(n + 1), 0, some 0⟩))), (4, (.pointer (some ⟨(n + 2), 0, some 0⟩))), (9, (.int .i64 (((kk : Nat) : Int) - 1))), (10, (.slice (some ⟨jr, 0, none⟩) i 2)), (11, (.bool false)), (12, (.int .i64 ((i : Nat) : Int))), (13, (Pt n10 0 0)), (105, (.bool true)), (133, (.bool false))] ⟨rfl, rfl, rfl, rfl, rfl, rfl, rfl, rfl, rfl, rfl, trivial⟩ (fun τr13 => ?_)
        refine RA.condF rfl ?_
        refine RA.skip env_ok ?_
        intro _
        refine RA.region env_ok ?_
        refine OA.p (some 142) (.slice (some ⟨jr, 0, none⟩) i 2) rfl rfl rfl rfl ?_
        refine OA.p (some 143) (.agg ⟨(xDp32 ws2 i)⟩) rfl rfl rfl (r_loadA rfl rfl rfl rfl get_here rfl rfl rfl) ?_
        refine OA.op1 (dst := (some 144)) (v := (.slice (some ⟨(n10 + 1), 0, none⟩) 1 0)) (n1 := (n10 + 2)) (w := ((n10 + 1), some ⟨[(xDp32 ws2 i)], 5, 29, true⟩)) rfl rfl rfl (by kernel_rfl) (by omega) ?_
        refine OA.op (dst := (some 145)) (v := (.slice (some ⟨(n10 + 2), 0, none⟩) (i + 1) 2)) (n1 := (n10 + 3)) (d1 := [((n10 + 2), some (oMsg ((ws2.take i) ++ [(ws2.getD i dMsg)]))), (jr, none)]) (D' := [((n10 + 2), some (oMsg ((ws2.take i) ++ [(ws2.getD i dMsg)]))), (jr, none), ((n10 + 1), some ⟨[(xDp32 ws2 i)], 5, 29, true⟩), (n10, some ⟨[(cMsg (ws2.getD i dMsg))], 5, 29, true⟩), (n, some ⟨[(xDp313 n8 NX jv3 K2 ju3 M2)], 3, 38, true⟩), ((n8 + 1), some (oIn ((nx.set t (Ux.mk a)).map uI))), (jv3, some (oMsg ws2)), ((n + 1), some ⟨[[(.int .i64 ((t : Nat) : Int)), (.int .i64 ssn), (.bool false), (W pr), (.string da)]], 5, 29, true⟩), ((n + 2), some ⟨[[(.slice none 0 0), (.slice none 0 0), (.slice none 0 0)]], 3, 38, true⟩), (ju, none), (ju3, some (oMsg L3)), (jr, some (oMsg (ws2.take i)))]) rfl rfl rfl (r_append2x (c := cMsg) (x := (ws2.getD i dMsg)) (l' := ((ws2.take i) ++ [(ws2.getD i dMsg)])) rfl rfl rfl rfl rfl rfl rfl rfl rfl rfl (by decide) (gt9 (by omega) get_here) get_here (by rw [show (ws2.take i).length = i from by rw [List.length_take]; omega]; omega) (by rw [take_all' (show (ws2.take i).length = i from by rw [List.length_take]; omega)]) (by omega) (of_decide_eq_true (by kernel_rfl)) (by omega)) (by omega) rfl ?_
        refine OA.p (some 10) (.slice (some ⟨(n10 + 2), 0, none⟩) (i + 1) 2) rfl rfl rfl rfl ?_
        refine OA.nil ?_
        intro _
        refine RA.weaken (D' := [((n10 + 2), some (oMsg ((ws2.take i) ++ [(ws2.getD i dMsg)]))), (jr, none), ((n10 + 1), some ⟨[(xDp32 ws2 i)], 5, 29, true⟩), (n10, some ⟨[(cMsg (ws2.getD i dMsg))], 5, 29, true⟩), (n, some ⟨[(xDp313 n8 NX jv3 K2 ju3 M2)], 3, 38, true⟩), ((n8 + 1), some (oIn ((nx.set t (Ux.mk a)).map uI))), (jv3, some (oMsg ws2)), ((n + 1), some ⟨[[(.int .i64 ((t : Nat) : Int)), (.int .i64 ssn), (.bool false), (W pr), (.string da)]], 5, 29, true⟩), ((n + 2), some ⟨[[(.slice none 0 0), (.slice none 0 0), (.slice none 0 0)]], 3, 38, true⟩), (ju, none), (ju3, some (oMsg L3))]) hd (Less.of (fac (mm (fun _ => get_here) (fun _ => get_here)) (fac (mm (fun _ => (get_there (by omega) get_here)) (fun _ => (get_there (by omega) get_here))) (fac (mm (fun _ => (gt2 (by omega) get_here)) (fun _ => (gt2 (by omega) get_here))) (fac (mm (fun _ => (gt3 (by omega) get_here)) (fun _ => (gt3 (by omega) get_here))) (fac (mm (fun _ => (gt4 (by omega) get_here)) (fun _ => (gt4 (by omega) get_here))) (fac (mm (fun _ => (gt5 (by omega) get_here)) (fun _ => (gt5 (by omega) get_here))) (fac (mm (fun _ => (gt6 (by omega) get_here)) (fun _ => (gt6 (by omega) get_here))) (fac (mm (fun _ => (gt7 (by omega) get_here)) (fun _ => (gt7 (by omega) get_here))) (fac (mm (fun _ => (gt8 (by omega) get_here)) (fun _ => (gt8 (by omega) get_here))) (fac (mm (fun _ => (gt9 (by omega) get_here)) (fun _ => (gt9 (by omega) get_here))) (fac (mm (fun _ => (gt10 (by omega) get_here)) (fun _ => (gt10 (by omega) get_here))) fan))))))))))) (gone_of (by simp only [goneP, memP, List.cons_append, List.nil_append, true_or, or_true, true_and, and_true, or_false] <;> omega))) ?_
        refine RA.region env_ok ?_
        refine OA.p (some 106) (.int .i64 ((i : Nat) : Int)) rfl rfl rfl rfl ?_
        refine OA.p (some 107) (.int .i64 (((i + 1) : Nat) : Int)) rfl rfl rfl (r_bin rfl rfl rfl (b_add (i64_eq (by omega)))) ?_
        refine OA.p (some 12) (.int .i64 (((i + 1) : Nat) : Int)) rfl rfl rfl rfl ?_
        refine OA.nil ?_
        refine ⟨K2 + 1 - (i + 1), by omega, [(n, some ⟨[(xDp313 n8 NX jv3 K2 ju3 M2)], 3, 38, true⟩), ((n8 + 1), some (oIn ((nx.set t (Ux.mk a)).map uI))), (jv3, some (oMsg ws2)), ((n + 1), some ⟨[[(.int .i64 ((t : Nat) : Int)), (.int .i64 ssn), (.bool false), (W pr), (.string da)]], 5, 29, true⟩), ((n + 2), some ⟨[[(.slice none 0 0), (.slice none 0 0), (.slice none 0 0)]], 3, 38, true⟩), (ju, none), (ju3, some (oMsg L3)), ((n10 + 2), some (oMsg ((ws2.take i) ++ [(ws2.getD i dMsg)])))], (Less.of (fac (mm (fun _ => get_here) (fun _ => (gt4 (by omega) get_here))) (fac (mm (fun _ => (get_there (by omega) get_here)) (fun _ => (gt5 (by omega) get_here))) (fac (mm (fun _ => (gt2 (by omega) get_here)) (fun _ => (gt6 (by omega) get_here))) (fac (mm (fun _ => (gt3 (by omega) get_here)) (fun _ => (gt7 (by omega) get_here))) (fac (mm (fun _ => (gt4 (by omega) get_here)) (fun _ => (gt8 (by omega) get_here))) (fac (mm (fun _ => (gt5 (by omega) get_here)) (fun _ => (gt9 (by omega) get_here))) (fac (mm (fun _ => (gt6 (by omega) get_here)) (fun _ => (gt10 (by omega) get_here))) (fac (mm (fun _ => (gt7 (by omega) get_here)) (fun _ => get_here)) fan)))))))) (gone_of (by simp only [goneP, memP, List.cons_append, List.nil_append, true_or, or_true, true_and, and_true, or_false] <;> omega))), .inl (⟨(i + 1), (n10 + 2), rfl, by omega, ⟨rfl, rfl, rfl, rfl, rfl, rfl, rfl, trivial⟩, (by rw [rest_before (by omega)]), (kb8 (by omega)), ⟨by omega, hst, by omega, by omega, by omega⟩⟩)⟩
      ·
       have hst := fi_step (d := dMsg) (p := (qq ((t : Nat) : Int) a)) (by omega) (fun hh => hc10 (of_decide_eq_true hh).1) hi2
       refine PQ.pure (dst := (some 120)) (v := (.bool false)) rfl rfl rfl noStore (none_ok _ _) (Eq.trans (r_bin rfl rfl rfl (b_eql rfl)) (dF hc10)) ?_
       refine PQ.pure (dst := (some 121)) (v := (.bool false)) rfl rfl rfl noStore (none_ok _ _) rfl ?_
       refine PQ.pure (dst := (some 122)) (v := (.bool false)) rfl rfl rfl noStore (none_ok _ _) rfl ?_
       refine PQ.off (dst := (some 123)) rfl rfl rfl ?_
       refine PQ.off (dst := (some 124)) rfl rfl rfl ?_
       refine PQ.off (dst := (some 125)) rfl rfl rfl ?_
       refine PQ.off (dst := (some 126)) rfl rfl rfl ?_
       refine PQ.off (dst := (some 127)) rfl rfl rfl ?_
       refine PQ.off (dst := (some 128)) rfl rfl rfl ?_
       refine PQ.off (dst := (some 129)) rfl rfl rfl ?_
       refine PQ.off (dst := (some 130)) rfl rfl rfl ?_
       refine PQ.off (dst := (some 131)) rfl rfl rfl ?_
       refine PQ.off (dst := (some 132)) rfl rfl rfl ?_
       refine PQ.pure (dst := (some 133)) (v := (.bool false)) rfl rfl rfl noStore (none_ok _ _) rfl ?_
       refine PQ.done (d := []) (by kernel_rfl) ?_
       intro _
       refine RA.rebase [(2, (Pt n 0 0)), (3, (.pointer (some ⟨(n + 1), 0, some 0⟩))), (4, (.pointer (some ⟨(n + 2), 0, some 0⟩))), (9, (.int .i64 (((kk : Nat) : Int) - 1))), (10, (.slice (some ⟨jr, 0, none⟩) i 2)), (11, (.bool false)), (12, (.int .i64 ((i : Nat) : Int))), (13, (Pt n10 0 0)), (105, (.bool true)), (133, (.bool false))] ⟨rfl, rfl, rfl, rfl, rfl, rfl, rfl, rfl, rfl, rfl, trivial⟩ (fun τr14 => ?_)
       refine RA.condF rfl ?_
       refine RA.skip env_ok ?_
       intro _
       refine RA.region env_ok ?_
       refine OA.p (some 142) (.slice (some ⟨jr, 0, none⟩) i 2) rfl rfl rfl rfl ?_
       refine OA.p (some 143) (.agg ⟨(xDp32 ws2 i)⟩) rfl rfl rfl (r_loadA rfl rfl rfl rfl get_here rfl rfl rfl) ?_
       refine OA.op1 (dst := (some 144)) (v := (.slice (some ⟨(n10 + 1), 0, none⟩) 1 0)) (n1 := (n10 + 2)) (w := ((n10 + 1), some ⟨[(xDp32 ws2 i)], 5, 29, true⟩)) rfl rfl rfl (by kernel_rfl) (by omega) ?_
       refine OA.op (dst := (some 145)) (v := (.slice (some ⟨(n10 + 2), 0, none⟩) (i + 1) 2)) (n1 := (n10 + 3)) (d1 := [((n10 + 2), some (oMsg ((ws2.take i) ++ [(ws2.getD i dMsg)]))), (jr, none)]) (D' := [((n10 + 2), some (oMsg ((ws2.take i) ++ [(ws2.getD i dMsg)]))), (jr, none), ((n10 + 1), some ⟨[(xDp32 ws2 i)], 5, 29, true⟩), (n10, some ⟨[(cMsg (ws2.getD i dMsg))], 5, 29, true⟩), (n, some ⟨[(xDp313 n8 NX jv3 K2 ju3 M2)], 3, 38, true⟩), ((n8 + 1), some (oIn ((nx.set t (Ux.mk a)).map uI))), (jv3, some (oMsg ws2)), ((n + 1), some ⟨[[(.int .i64 ((t : Nat) : Int)), (.int .i64 ssn), (.bool false), (W pr), (.string da)]], 5, 29, true⟩), ((n + 2), some ⟨[[(.slice none 0 0), (.slice none 0 0), (.slice none 0 0)]], 3, 38, true⟩), (ju, none), (ju3, some (oMsg L3)), (jr, some (oMsg (ws2.take i)))]) rfl rfl rfl (r_append2x (c := cMsg) (x := (ws2.getD i dMsg)) (l' := ((ws2.take i) ++ [(ws2.getD i dMsg)])) rfl rfl rfl rfl rfl rfl rfl rfl rfl rfl (by decide) (gt9 (by omega) get_here) get_here (by rw [show (ws2.take i).length = i from by rw [List.length_take]; omega]; omega) (by rw [take_all' (show (ws2.take i).length = i from by rw [List.length_take]; omega)]) (by omega) (of_decide_eq_true (by kernel_rfl)) (by omega)) (by omega) rfl ?_
       refine OA.p (some 10) (.slice (some ⟨(n10 + 2), 0, none⟩) (i + 1) 2) rfl rfl rfl rfl ?_
       refine OA.nil ?_
       intro _
       refine RA.weaken (D' := [((n10 + 2), some (oMsg ((ws2.take i) ++ [(ws2.getD i dMsg)]))), (jr, none), ((n10 + 1), some ⟨[(xDp32 ws2 i)], 5, 29, true⟩), (n10, some ⟨[(cMsg (ws2.getD i dMsg))], 5, 29, true⟩), (n, some ⟨[(xDp313 n8 NX jv3 K2 ju3 M2)], 3, 38, true⟩), ((n8 + 1), some (oIn ((nx.set t (Ux.mk a)).map uI))), (jv3, some (oMsg ws2)), ((n + 1), some ⟨[[(.int .i64 ((t : Nat) : Int)), (.int .i64 ssn), (.bool false), (W pr), (.string da)]], 5, 29, true⟩), ((n + 2), some ⟨[[(.slice none 0 0), (.slice none 0 0), (.slice none 0 0)]], 3, 38, true⟩), (ju, none), (ju3, some (oMsg L3))]) hd (Less.of (fac (mm (fun _ => get_here) (fun _ => get_here)) (fac (mm (fun _ => (get_there (by omega) get_here)) (fun _ => (get_there (by omega) get_here))) (fac (mm (fun _ => (gt2 (by omega) get_here)) (fun _ => (gt2 (by omega) get_here))) (fac (mm (fun _ => (gt3 (by omega) get_here)) (fun _ => (gt3 (by omega) get_here))) (fac (mm (fun _ => (gt4 (by omega) get_here)) (fun _ => (gt4 (by omega) get_here))) (fac (mm (fun _ => (gt5 (by omega) get_here)) (fun _ => (gt5 (by omega) get_here))) (fac (mm (fun _ => (gt6 (by omega) get_here)) (fun _ => (gt6 (by omega) get_here))) (fac (mm (fun _ => (gt7 (by omega) get_here)) (fun _ => (gt7 (by omega) get_here))) (fac (mm (fun _ => (gt8 (by omega) get_here)) (fun _ => (gt8 (by omega) get_here))) (fac (mm (fun _ => (gt9 (by omega) get_here)) (fun _ => (gt9 (by omega) get_here))) (fac (mm (fun _ => (gt10 (by omega) get_here)) (fun _ => (gt10 (by omega) get_here))) fan))))))))))) (gone_of (by simp only [goneP, memP, List.cons_append, List.nil_append, true_or, or_true, true_and, and_true, or_false] <;> omega))) ?_
       refine RA.region env_ok ?_
       refine OA.p (some 106) (.int .i64 ((i : Nat) : Int)) rfl rfl rfl rfl ?_
       refine OA.p (some 107) (.int .i64 (((i + 1) : Nat) : Int)) rfl rfl rfl (r_bin rfl rfl rfl (b_add (i64_eq (by omega)))) ?_
       refine OA.p (some 12) (.int .i64 (((i + 1) : Nat) : Int)) rfl rfl rfl rfl ?_
       refine OA.nil ?_
       refine ⟨K2 + 1 - (i + 1), by omega, [(n, some ⟨[(xDp313 n8 NX jv3 K2 ju3 M2)], 3, 38, true⟩), ((n8 + 1), some (oIn ((nx.set t (Ux.mk a)).map uI))), (jv3, some (oMsg ws2)), ((n + 1), some ⟨[[(.int .i64 ((t : Nat) : Int)), (.int .i64 ssn), (.bool false), (W pr), (.string da)]], 5, 29, true⟩), ((n + 2), some ⟨[[(.slice none 0 0), (.slice none 0 0), (.slice none 0 0)]], 3, 38, true⟩), (ju, none), (ju3, some (oMsg L3)), ((n10 + 2), some (oMsg ((ws2.take i) ++ [(ws2.getD i dMsg)])))], (Less.of (fac (mm (fun _ => get_here) (fun _ => (gt4 (by omega) get_here))) (fac (mm (fun _ => (get_there (by omega) get_here)) (fun _ => (gt5 (by omega) get_here))) (fac (mm (fun _ => (gt2 (by omega) get_here)) (fun _ => (gt6 (by omega) get_here))) (fac (mm (fun _ => (gt3 (by omega) get_here)) (fun _ => (gt7 (by omega) get_here))) (fac (mm (fun _ => (gt4 (by omega) get_here)) (fun _ => (gt8 (by omega) get_here))) (fac (mm (fun _ => (gt5 (by omega) get_here)) (fun _ => (gt9 (by omega) get_here))) (fac (mm (fun _ => (gt6 (by omega) get_here)) (fun _ => (gt10 (by omega) get_here))) (fac (mm (fun _ => (gt7 (by omega) get_here)) (fun _ => get_here)) fan)))))))) (gone_of (by simp only [goneP, memP, List.cons_append, List.nil_append, true_or, or_true, true_and, and_true, or_false] <;> omega))), .inl (⟨(i + 1), (n10 + 2), rfl, by omega, ⟨rfl, rfl, rfl, rfl, rfl, rfl, rfl, trivial⟩, (by rw [rest_before (by omega)]), (kb8 (by omega)), ⟨by omega, hst, by omega, by omega, by omega⟩⟩)⟩
     ·
      refine OA.p (some 105) (.bool false) rfl rfl rfl (Eq.trans (r_bin rfl rfl rfl (b_lss rfl)) (dF hc9)) ?_
      refine OA.nil ?_
      intro _
      refine RA.condF rfl ?_
      refine RA.exit env_ok ?_
      intro _
      have hnf : ¬ (ws2.findIdx (qq ((t : Nat) : Int) a)) < ws2.length := by omega
      refine RA.seq hd ?_
      refine RA.region env_ok ?_
      refine OA.p (some 146) (.bool false) rfl rfl rfl rfl ?_
      refine OA.nil ?_
      intro _
      refine RA.condF rfl ?_
      refine RA.skip env_ok ?_
      intro _
      refine RA.region env_ok ?_
      refine OA.p (some 98) (.int .i64 (((kk : Nat) : Int) - 1)) rfl rfl rfl rfl ?_
      refine OA.p (some 99) (.int .i64 ((((kk : Nat) : Int) - 1) - 1)) rfl rfl rfl (r_bin rfl rfl rfl (b_sub (i64_eq (by omega)))) ?_
      refine OA.p (some 9) (.int .i64 ((((kk : Nat) : Int) - 1) - 1)) rfl rfl rfl rfl ?_
      refine OA.nil ?_
      refine ⟨2 * (kk - 1), by omega, [(n, some ⟨[(xDp313 n8 NX jv3 K2 ju3 M2)], 3, 38, true⟩), ((n8 + 1), some (oIn ((nx.set t (Ux.mk a)).map uI))), (jv3, some (oMsg ws2)), (ju3, some (oMsg L3)), ((n + 1), some ⟨[[(.int .i64 ((t : Nat) : Int)), (.int .i64 ssn), (.bool false), (W pr), (.string da)]], 5, 29, true⟩), ((n + 2), some ⟨[[(.slice none 0 0), (.slice none 0 0), (.slice none 0 0)]], 3, 38, true⟩), (ju, none)], (Less.of (fac (mm (fun _ => get_here) (fun _ => get_here)) (fac (mm (fun _ => (get_there (by omega) get_here)) (fun _ => (get_there (by omega) get_here))) (fac (mm (fun _ => (gt2 (by omega) get_here)) (fun _ => (gt2 (by omega) get_here))) (fac (mm (fun _ => (gt3 (by omega) get_here)) (fun _ => (gt6 (by omega) get_here))) (fac (mm (fun _ => (gt4 (by omega) get_here)) (fun _ => (gt3 (by omega) get_here))) (fac (mm (fun _ => (gt5 (by omega) get_here)) (fun _ => (gt4 (by omega) get_here))) (fac (mm (fun _ => (gt6 (by omega) get_here)) (fun _ => (gt5 (by omega) get_here))) fan))))))) (gone_of (by simp only [goneP, memP, List.cons_append, List.nil_append, true_or, or_true, true_and, and_true, or_false] <;> omega))), ⟨(kk - 1), a, K2, ws2, jv3, ju3, M2, L3, rfl, by omega, ⟨rfl, rfl, rfl, (congrArg (Value.int .i64) (by omega)), trivial⟩, rfl, (kb7 (by omega)), ⟨hws2, hL3, (goS_stop hnf).trans ((goS_stop hnf).symm.trans hR), by omega, ha, by omega, by omega, by omega, by omega, by omega⟩⟩⟩
    ·
     rw [Has.eq hHn10]
     have hKn10_0 : n < n10 := hKn10 _ (by simp only [keys, List.map_cons, List.map_nil, List.mem_cons, true_or, or_true])
     have hKn10_1 : (n8 + 1) < n10 := hKn10 _ (by simp only [keys, List.map_cons, List.map_nil, List.mem_cons, true_or, or_true])
     have hKn10_2 : jv3 < n10 := hKn10 _ (by simp only [keys, List.map_cons, List.map_nil, List.mem_cons, true_or, or_true])
     have hKn10_3 : (n + 1) < n10 := hKn10 _ (by simp only [keys, List.map_cons, List.map_nil, List.mem_cons, true_or, or_true])
     have hKn10_4 : (n + 2) < n10 := hKn10 _ (by simp only [keys, List.map_cons, List.map_nil, List.mem_cons, true_or, or_true])
     have hKn10_5 : ju < n10 := hKn10 _ (by simp only [keys, List.map_cons, List.map_nil, List.mem_cons, true_or, or_true])
     have hKn10_6 : ju4 < n10 := hKn10 _ (by simp only [keys, List.map_cons, List.map_nil, List.mem_cons, true_or, or_true])
     have hKn10_7 : jr < n10 := hKn10 _ (by simp only [keys, List.map_cons, List.map_nil, List.mem_cons, true_or, or_true])
     clear hKn10
     obtain ⟨hq1, hq2, hr0, hr1, hr2, hr3, hr4⟩ := hIn10
     refine RA.seq hd ?_
     refine RA.seq hd ?_
     refine RA.region env_ok ?_
     refine OA.p (some 101) (.int .i64 (((q + 1) : Nat) : Int)) rfl rfl rfl rfl ?_
     refine OA.p (some 102) (Pt n 0 1) rfl rfl rfl rfl ?_
     refine OA.p (some 103) (.slice (some ⟨jv3, 0, none⟩) K2 2) rfl rfl rfl (r_load1 rfl rfl rfl rfl rfl get_here rfl rfl) ?_
     refine OA.p (some 104) (.int .i64 ((K2 : Nat) : Int)) rfl rfl rfl rfl ?_
     by_cases hc13 : (((q + 1) : Nat) : Int) < ((K2 : Nat) : Int)
     ·
      refine OA.p (some 105) (.bool true) rfl rfl rfl (Eq.trans (r_bin rfl rfl rfl (b_lss rfl)) (dT hc13)) ?_
      refine OA.nil ?_
      intro _
      refine RA.condT rfl ?_
      refine RA.skip env_ok ?_
      intro _
      refine RA.seq hd ?_
      refine RA.block ?_
      refine RA.seq hd ?_
      refine RA.region env_ok ?_
      refine OA.p (some 108) (Pt n 0 1) rfl rfl rfl rfl ?_
      refine OA.p (some 109) (.slice (some ⟨jv3, 0, none⟩) K2 2) rfl rfl rfl (r_load1 rfl rfl rfl rfl rfl get_here rfl rfl) ?_
      refine OA.p (some 110) (.int .i64 (((q + 1) : Nat) : Int)) rfl rfl rfl rfl ?_
      refine OA.p (some 111) (.pointer (some ⟨jv3, (q + 1), some 0⟩)) rfl rfl rfl (r_iaS (l := (q + 1)) rfl rfl rfl rfl rfl rfl (by omega) (by omega) (gt2 (by omega) get_here) rfl (by omega)) ?_
      refine OA.p (some 112) (.agg ⟨(cMsg (ws2.getD (q + 1) dMsg))⟩) rfl rfl rfl (r_loadR (c := cMsg) dMsg rfl rfl rfl rfl (gt2 (by omega) get_here) (by rw [hws2]; omega) rfl) ?_
      refine OA.op1 (dst := (some 13)) (v := (Pt n10 0 0)) (n1 := (n10 + 1)) (w := (n10, some ⟨[[(.int .i64 0), (.int .i64 0), (.bool false), (.int .u32 0), (.string ByteArray.empty)]], 5, 29, true⟩)) rfl rfl rfl rfl (by omega) ?_
      refine OA.op1 (dst := none) (v := (.tuple #[])) (n1 := (n10 + 1)) (w := (n10, some ⟨[(cMsg (ws2.getD (q + 1) dMsg))], 5, 29, true⟩)) rfl rfl rfl (r_store rfl rfl rfl rfl rfl rfl rfl get_here rfl rfl (Nat.le_of_ble_eq_true rfl) rfl) (by omega) ?_
      refine OA.nil ?_
      intro _
      refine RA.weaken (D' := [(n10, some ⟨[(cMsg (ws2.getD (q + 1) dMsg))], 5, 29, true⟩), (n, some ⟨[(xDp35 n8 NX jv3 K2 ju4 M2)], 3, 38, true⟩), ((n8 + 1), some (oIn ((nx.set t (Ux.mk a)).map uI))), (jv3, some (oMsg ws2)), ((n + 1), some ⟨[[(.int .i64 ((t : Nat) : Int)), (.int .i64 ssn), (.bool false), (W pr), (.string da)]], 5, 29, true⟩), ((n + 2), some ⟨[[(.slice none 0 0), (.slice none 0 0), (.slice none 0 0)]], 3, 38, true⟩), (ju, none), (ju4, some (oMsg (L3 ++ [ws2.getD (ws2.findIdx (qq ((t : Nat) : Int) a)) dMsg]))), (jr, some (oMsg ((ws2.eraseIdx (ws2.findIdx (qq ((t : Nat) : Int) a))).take q)))]) hd (Less.of (fac (mm (fun _ => get_here) (fun _ => get_here)) (fac (mm (fun _ => (get_there (by omega) get_here)) (fun _ => (gt2 (by omega) get_here))) (fac (mm (fun _ => (gt2 (by omega) get_here)) (fun _ => (gt3 (by omega) get_here))) (fac (mm (fun _ => (gt3 (by omega) get_here)) (fun _ => (gt4 (by omega) get_here))) (fac (mm (fun _ => (gt4 (by omega) get_here)) (fun _ => (gt5 (by omega) get_here))) (fac (mm (fun _ => (gt5 (by omega) get_here)) (fun _ => (gt6 (by omega) get_here))) (fac (mm (fun _ => (gt6 (by omega) get_here)) (fun _ => (gt7 (by omega) get_here))) (fac (mm (fun _ => (gt7 (by omega) get_here)) (fun _ => (gt8 (by omega) get_here))) (fac (mm (fun _ => (gt8 (by omega) get_here)) (fun _ => (gt9 (by omega) get_here))) fan))))))))) (gone_of (by simp only [goneP, memP, List.cons_append, List.nil_append, true_or, or_true, true_and, and_true, or_false] <;> omega))) ?_
      refine RA.seq hd ?_
      refine RA.seq hd ?_
      refine RA.par (md := [some [], some [], some [], some [], some [n10], some [], some [(n + 1)], some [], some [], some [], some [], some [n10], some [], some [], some [n], some [], some [(n + 1)], none, none, some [], some []]) env_ok (hd.of (by omega) (kb9 (by omega))) (by kernel_rfl) ?_
      refine PQ.pure (dst := (some 113)) (v := (.bool true)) rfl rfl rfl noStore (none_ok _ _) rfl ?_
      refine PQ.pure (dst := (some 114)) (v := (.bool false)) rfl rfl rfl noStore (none_ok _ _) rfl ?_
      refine PQ.pure (dst := (some 115)) (v := (.bool false)) rfl rfl rfl noStore (none_ok _ _) rfl ?_
      refine PQ.off (dst := (some 116)) rfl rfl rfl ?_
      refine PQ.off (dst := (some 117)) rfl rfl rfl ?_
      refine PQ.off (dst := (some 118)) rfl rfl rfl ?_
      refine PQ.off (dst := (some 119)) rfl rfl rfl ?_
      refine PQ.off (dst := (some 120)) rfl rfl rfl ?_
      refine PQ.pure (dst := (some 121)) (v := (.bool false)) rfl rfl rfl noStore (none_ok _ _) rfl ?_
      refine PQ.pure (dst := (some 122)) (v := (.bool false)) rfl rfl rfl noStore (none_ok _ _) rfl ?_
      refine PQ.off (dst := (some 123)) rfl rfl rfl ?_
      refine PQ.off (dst := (some 124)) rfl rfl rfl ?_
      refine PQ.off (dst := (some 125)) rfl rfl rfl ?_
      refine PQ.off (dst := (some 126)) rfl rfl rfl ?_
      refine PQ.off (dst := (some 127)) rfl rfl rfl ?_
      refine PQ.off (dst := (some 128)) rfl rfl rfl ?_
      refine PQ.off (dst := (some 129)) rfl rfl rfl ?_
      refine PQ.off (dst := (some 130)) rfl rfl rfl ?_
      refine PQ.off (dst := (some 131)) rfl rfl rfl ?_
      refine PQ.off (dst := (some 132)) rfl rfl rfl ?_
      refine PQ.pure (dst := (some 133)) (v := (.bool false)) rfl rfl rfl noStore (none_ok _ _) rfl ?_
      refine PQ.done (d := []) (by kernel_rfl) ?_
      intro _
      refine RA.rebase [(2, (Pt n 0 0)), (3, (.pointer (some ⟨(n + 1), 0, some 0⟩))), (4, (.pointer (some ⟨(n + 2), 0, some 0⟩))), (9, (.int .i64 (((kk : Nat) : Int) - 1))), (10, (.slice (some ⟨jr, 0, none⟩) q 2)), (11, (.bool true)), (12, (.int .i64 (((q + 1) : Nat) : Int))), (13, (Pt n10 0 0)), (105, (.bool true)), (133, (.bool false))] ⟨rfl, rfl, rfl, rfl, rfl, rfl, rfl, rfl, rfl, rfl, trivial⟩ (fun τr15 => ?_)
      refine RA.condF rfl ?_
      refine RA.skip env_ok ?_
      intro _
      refine RA.region env_ok ?_
      refine OA.p (some 142) (.slice (some ⟨jr, 0, none⟩) q 2) rfl rfl rfl rfl ?_
      refine OA.p (some 143) (.agg ⟨(xDp31 ws2 q)⟩) rfl rfl rfl (r_loadA rfl rfl rfl rfl get_here rfl rfl rfl) ?_
      refine OA.op1 (dst := (some 144)) (v := (.slice (some ⟨(n10 + 1), 0, none⟩) 1 0)) (n1 := (n10 + 2)) (w := ((n10 + 1), some ⟨[(xDp31 ws2 q)], 5, 29, true⟩)) rfl rfl rfl (by kernel_rfl) (by omega) ?_
      refine OA.op (dst := (some 145)) (v := (.slice (some ⟨(n10 + 2), 0, none⟩) (q + 1) 2)) (n1 := (n10 + 3)) (d1 := [((n10 + 2), some (oMsg (((ws2.eraseIdx (ws2.findIdx (qq ((t : Nat) : Int) a))).take q) ++ [(ws2.getD (q + 1) dMsg)]))), (jr, none)]) (D' := [((n10 + 2), some (oMsg (((ws2.eraseIdx (ws2.findIdx (qq ((t : Nat) : Int) a))).take q) ++ [(ws2.getD (q + 1) dMsg)]))), (jr, none), ((n10 + 1), some ⟨[(xDp31 ws2 q)], 5, 29, true⟩), (n10, some ⟨[(cMsg (ws2.getD (q + 1) dMsg))], 5, 29, true⟩), (n, some ⟨[(xDp35 n8 NX jv3 K2 ju4 M2)], 3, 38, true⟩), ((n8 + 1), some (oIn ((nx.set t (Ux.mk a)).map uI))), (jv3, some (oMsg ws2)), ((n + 1), some ⟨[[(.int .i64 ((t : Nat) : Int)), (.int .i64 ssn), (.bool false), (W pr), (.string da)]], 5, 29, true⟩), ((n + 2), some ⟨[[(.slice none 0 0), (.slice none 0 0), (.slice none 0 0)]], 3, 38, true⟩), (ju, none), (ju4, some (oMsg (L3 ++ [ws2.getD (ws2.findIdx (qq ((t : Nat) : Int) a)) dMsg]))), (jr, some (oMsg ((ws2.eraseIdx (ws2.findIdx (qq ((t : Nat) : Int) a))).take q)))]) rfl rfl rfl (r_append2x (c := cMsg) (x := (ws2.getD (q + 1) dMsg)) (l' := (((ws2.eraseIdx (ws2.findIdx (qq ((t : Nat) : Int) a))).take q) ++ [(ws2.getD (q + 1) dMsg)])) rfl rfl rfl rfl rfl rfl rfl rfl rfl rfl (by decide) (gt9 (by omega) get_here) get_here (by rw [show ((ws2.eraseIdx (ws2.findIdx (qq ((t : Nat) : Int) a))).take q).length = q from by rw [List.length_take, List.length_eraseIdx_of_lt (by omega)]; omega]; omega) (by rw [take_all' (show ((ws2.eraseIdx (ws2.findIdx (qq ((t : Nat) : Int) a))).take q).length = q from by rw [List.length_take, List.length_eraseIdx_of_lt (by omega)]; omega)]) (by omega) (of_decide_eq_true (by kernel_rfl)) (by omega)) (by omega) rfl ?_
      refine OA.p (some 10) (.slice (some ⟨(n10 + 2), 0, none⟩) (q + 1) 2) rfl rfl rfl rfl ?_
      refine OA.nil ?_
      intro _
      refine RA.weaken (D' := [((n10 + 2), some (oMsg (((ws2.eraseIdx (ws2.findIdx (qq ((t : Nat) : Int) a))).take q) ++ [(ws2.getD (q + 1) dMsg)]))), (jr, none), ((n10 + 1), some ⟨[(xDp31 ws2 q)], 5, 29, true⟩), (n10, some ⟨[(cMsg (ws2.getD (q + 1) dMsg))], 5, 29, true⟩), (n, some ⟨[(xDp35 n8 NX jv3 K2 ju4 M2)], 3, 38, true⟩), ((n8 + 1), some (oIn ((nx.set t (Ux.mk a)).map uI))), (jv3, some (oMsg ws2)), ((n + 1), some ⟨[[(.int .i64 ((t : Nat) : Int)), (.int .i64 ssn), (.bool false), (W pr), (.string da)]], 5, 29, true⟩), ((n + 2), some ⟨[[(.slice none 0 0), (.slice none 0 0), (.slice none 0 0)]], 3, 38, true⟩), (ju, none), (ju4, some (oMsg (L3 ++ [ws2.getD (ws2.findIdx (qq ((t : Nat) : Int) a)) dMsg])))]) hd (Less.of (fac (mm (fun _ => get_here) (fun _ => get_here)) (fac (mm (fun _ => (get_there (by omega) get_here)) (fun _ => (get_there (by omega) get_here))) (fac (mm (fun _ => (gt2 (by omega) get_here)) (fun _ => (gt2 (by omega) get_here))) (fac (mm (fun _ => (gt3 (by omega) get_here)) (fun _ => (gt3 (by omega) get_here))) (fac (mm (fun _ => (gt4 (by omega) get_here)) (fun _ => (gt4 (by omega) get_here))) (fac (mm (fun _ => (gt5 (by omega) get_here)) (fun _ => (gt5 (by omega) get_here))) (fac (mm (fun _ => (gt6 (by omega) get_here)) (fun _ => (gt6 (by omega) get_here))) (fac (mm (fun _ => (gt7 (by omega) get_here)) (fun _ => (gt7 (by omega) get_here))) (fac (mm (fun _ => (gt8 (by omega) get_here)) (fun _ => (gt8 (by omega) get_here))) (fac (mm (fun _ => (gt9 (by omega) get_here)) (fun _ => (gt9 (by omega) get_here))) (fac (mm (fun _ => (gt10 (by omega) get_here)) (fun _ => (gt10 (by omega) get_here))) fan))))))))))) (gone_of (by simp only [goneP, memP, List.cons_append, List.nil_append, true_or, or_true, true_and, and_true, or_false] <;> omega))) ?_
      refine RA.region env_ok ?_
      refine OA.p (some 106) (.int .i64 (((q + 1) : Nat) : Int)) rfl rfl rfl rfl ?_
      refine OA.p (some 107) (.int .i64 (((q + 2) : Nat) : Int)) rfl rfl rfl (r_bin rfl rfl rfl (b_add (i64_eq (by omega)))) ?_
      refine OA.p (some 12) (.int .i64 (((q + 2) : Nat) : Int)) rfl rfl rfl rfl ?_
      refine OA.nil ?_
      refine ⟨K2 - (q + 1), by omega, [(n, some ⟨[(xDp35 n8 NX jv3 K2 ju4 M2)], 3, 38, true⟩), ((n8 + 1), some (oIn ((nx.set t (Ux.mk a)).map uI))), (jv3, some (oMsg ws2)), ((n + 1), some ⟨[[(.int .i64 ((t : Nat) : Int)), (.int .i64 ssn), (.bool false), (W pr), (.string da)]], 5, 29, true⟩), ((n + 2), some ⟨[[(.slice none 0 0), (.slice none 0 0), (.slice none 0 0)]], 3, 38, true⟩), (ju, none), (ju4, some (oMsg (L3 ++ [ws2.getD (ws2.findIdx (qq ((t : Nat) : Int) a)) dMsg]))), ((n10 + 2), some (oMsg (((ws2.eraseIdx (ws2.findIdx (qq ((t : Nat) : Int) a))).take q) ++ [(ws2.getD (q + 1) dMsg)])))], (Less.of (fac (mm (fun _ => get_here) (fun _ => (gt4 (by omega) get_here))) (fac (mm (fun _ => (get_there (by omega) get_here)) (fun _ => (gt5 (by omega) get_here))) (fac (mm (fun _ => (gt2 (by omega) get_here)) (fun _ => (gt6 (by omega) get_here))) (fac (mm (fun _ => (gt3 (by omega) get_here)) (fun _ => (gt7 (by omega) get_here))) (fac (mm (fun _ => (gt4 (by omega) get_here)) (fun _ => (gt8 (by omega) get_here))) (fac (mm (fun _ => (gt5 (by omega) get_here)) (fun _ => (gt9 (by omega) get_here))) (fac (mm (fun _ => (gt6 (by omega) get_here)) (fun _ => (gt10 (by omega) get_here))) (fac (mm (fun _ => (gt7 (by omega) get_here)) (fun _ => get_here)) fan)))))))) (gone_of (by simp only [goneP, memP, List.cons_append, List.nil_append, true_or, or_true, true_and, and_true, or_false] <;> omega))), .inr (⟨(q + 1), (n10 + 2), ju4, rfl, by omega, ⟨rfl, rfl, rfl, rfl, rfl, rfl, rfl, trivial⟩, (by rw [show (ws2.eraseIdx (ws2.findIdx (qq ((t : Nat) : Int) a))).take q ++ [ws2.getD (q + 1) dMsg] = (ws2.eraseIdx (ws2.findIdx (qq ((t : Nat) : Int) a))).take (q + 1) from rest_after (l := ws2) (j := (ws2.findIdx (qq ((t : Nat) : Int) a))) (i := q + 1) (by omega) (by omega)]), (kb8 (by omega)), ⟨by omega, by omega, by omega, by omega, by omega, by omega, by omega⟩⟩)⟩
     ·
      refine OA.p (some 105) (.bool false) rfl rfl rfl (Eq.trans (r_bin rfl rfl rfl (b_lss rfl)) (dF hc13)) ?_
      refine OA.nil ?_
      intro _
      refine RA.condF rfl ?_
      refine RA.exit env_ok ?_
      intro _
      refine RA.seq hd ?_
      refine RA.region env_ok ?_
      refine OA.p (some 146) (.bool true) rfl rfl rfl rfl ?_
      refine OA.nil ?_
      intro _
      refine RA.condT rfl ?_
      refine RA.par (md := [some [], some [n], some [], some [(n + 1)], some [], some [], some [n], some [], some [(n + 1)], some [(n8 + 1)], some [(n8 + 1)], some [], some [], some [], none, some [(n8 + 1)], none]) env_ok (hd.of (by omega) (kb8 (by omega))) (by kernel_rfl) ?_
      refine PQ.pure (dst := (some 147)) (v := (Pt n 0 0)) rfl rfl rfl noStore (none_ok _ _) rfl ?_
      refine PQ.pure (dst := (some 148)) (v := (.slice (some ⟨(n8 + 1), 0, none⟩) NX 0)) rfl rfl rfl (app [(n, some ⟨[(xDp35 n8 NX jv3 K2 ju4 M2)], 3, 38, true⟩)] noStore) (seen_one (V := []) (D := [(n, some ⟨[(xDp35 n8 NX jv3 K2 ju4 M2)], 3, 38, true⟩), ((n8 + 1), some (oIn ((nx.set t (Ux.mk a)).map uI))), (jv3, some (oMsg ws2)), ((n + 1), some ⟨[[(.int .i64 ((t : Nat) : Int)), (.int .i64 ssn), (.bool false), (W pr), (.string da)]], 5, 29, true⟩), ((n + 2), some ⟨[[(.slice none 0 0), (.slice none 0 0), (.slice none 0 0)]], 3, 38, true⟩), (ju, none), (ju4, some (oMsg (L3 ++ [ws2.getD (ws2.findIdx (qq ((t : Nat) : Int) a)) dMsg]))), (jr, some (oMsg ((ws2.eraseIdx (ws2.findIdx (qq ((t : Nat) : Int) a))).take q)))]) (by kernel_rfl) get_here) (r_load1 rfl rfl rfl rfl rfl get_here rfl rfl) ?_
      refine PQ.pure (dst := (some 149)) (v := (.pointer (some ⟨(n + 1), 0, some 0⟩))) rfl rfl rfl noStore (none_ok _ _) rfl ?_
      refine PQ.pure (dst := (some 150)) (v := (.int .i64 ((t : Nat) : Int))) rfl rfl rfl (app [((n + 1), some ⟨[[(.int .i64 ((t : Nat) : Int)), (.int .i64 ssn), (.bool false), (W pr), (.string da)]], 5, 29, true⟩)] noStore) (seen_one (V := []) (D := [(n, some ⟨[(xDp35 n8 NX jv3 K2 ju4 M2)], 3, 38, true⟩), ((n8 + 1), some (oIn ((nx.set t (Ux.mk a)).map uI))), (jv3, some (oMsg ws2)), ((n + 1), some ⟨[[(.int .i64 ((t : Nat) : Int)), (.int .i64 ssn), (.bool false), (W pr), (.string da)]], 5, 29, true⟩), ((n + 2), some ⟨[[(.slice none 0 0), (.slice none 0 0), (.slice none 0 0)]], 3, 38, true⟩), (ju, none), (ju4, some (oMsg (L3 ++ [ws2.getD (ws2.findIdx (qq ((t : Nat) : Int) a)) dMsg]))), (jr, some (oMsg ((ws2.eraseIdx (ws2.findIdx (qq ((t : Nat) : Int) a))).take q)))]) (by kernel_rfl) (gt3 (by omega) get_here)) (r_load1 rfl rfl rfl rfl rfl get_here rfl rfl) ?_
      refine PQ.pure (dst := (some 151)) (v := (.slice (some ⟨jr, 0, none⟩) q 2)) rfl rfl rfl noStore (none_ok _ _) rfl ?_
      refine PQ.pure (dst := (some 152)) (v := (Pt n 0 0)) rfl rfl rfl noStore (none_ok _ _) rfl ?_
      refine PQ.pure (dst := (some 153)) (v := (.slice (some ⟨(n8 + 1), 0, none⟩) NX 0)) rfl rfl rfl (app [(n, some ⟨[(xDp35 n8 NX jv3 K2 ju4 M2)], 3, 38, true⟩)] noStore) (seen_one (V := []) (D := [(n, some ⟨[(xDp35 n8 NX jv3 K2 ju4 M2)], 3, 38, true⟩), ((n8 + 1), some (oIn ((nx.set t (Ux.mk a)).map uI))), (jv3, some (oMsg ws2)), ((n + 1), some ⟨[[(.int .i64 ((t : Nat) : Int)), (.int .i64 ssn), (.bool false), (W pr), (.string da)]], 5, 29, true⟩), ((n + 2), some ⟨[[(.slice none 0 0), (.slice none 0 0), (.slice none 0 0)]], 3, 38, true⟩), (ju, none), (ju4, some (oMsg (L3 ++ [ws2.getD (ws2.findIdx (qq ((t : Nat) : Int) a)) dMsg]))), (jr, some (oMsg ((ws2.eraseIdx (ws2.findIdx (qq ((t : Nat) : Int) a))).take q)))]) (by kernel_rfl) get_here) (r_load1 rfl rfl rfl rfl rfl get_here rfl rfl) ?_
      refine PQ.pure (dst := (some 154)) (v := (.pointer (some ⟨(n + 1), 0, some 0⟩))) rfl rfl rfl noStore (none_ok _ _) rfl ?_
      refine PQ.pure (dst := (some 155)) (v := (.int .i64 ((t : Nat) : Int))) rfl rfl rfl (app [((n + 1), some ⟨[[(.int .i64 ((t : Nat) : Int)), (.int .i64 ssn), (.bool false), (W pr), (.string da)]], 5, 29, true⟩)] noStore) (seen_one (V := []) (D := [(n, some ⟨[(xDp35 n8 NX jv3 K2 ju4 M2)], 3, 38, true⟩), ((n8 + 1), some (oIn ((nx.set t (Ux.mk a)).map uI))), (jv3, some (oMsg ws2)), ((n + 1), some ⟨[[(.int .i64 ((t : Nat) : Int)), (.int .i64 ssn), (.bool false), (W pr), (.string da)]], 5, 29, true⟩), ((n + 2), some ⟨[[(.slice none 0 0), (.slice none 0 0), (.slice none 0 0)]], 3, 38, true⟩), (ju, none), (ju4, some (oMsg (L3 ++ [ws2.getD (ws2.findIdx (qq ((t : Nat) : Int) a)) dMsg]))), (jr, some (oMsg ((ws2.eraseIdx (ws2.findIdx (qq ((t : Nat) : Int) a))).take q)))]) (by kernel_rfl) (gt3 (by omega) get_here)) (r_load1 rfl rfl rfl rfl rfl get_here rfl rfl) ?_
      refine PQ.pure (dst := (some 156)) (v := (.pointer (some ⟨(n8 + 1), t, some 0⟩))) rfl rfl rfl (app [((n8 + 1), some (oIn ((nx.set t (Ux.mk a)).map uI)))] noStore) (seen_one (V := []) (D := [(n, some ⟨[(xDp35 n8 NX jv3 K2 ju4 M2)], 3, 38, true⟩), ((n8 + 1), some (oIn ((nx.set t (Ux.mk a)).map uI))), (jv3, some (oMsg ws2)), ((n + 1), some ⟨[[(.int .i64 ((t : Nat) : Int)), (.int .i64 ssn), (.bool false), (W pr), (.string da)]], 5, 29, true⟩), ((n + 2), some ⟨[[(.slice none 0 0), (.slice none 0 0), (.slice none 0 0)]], 3, 38, true⟩), (ju, none), (ju4, some (oMsg (L3 ++ [ws2.getD (ws2.findIdx (qq ((t : Nat) : Int) a)) dMsg]))), (jr, some (oMsg ((ws2.eraseIdx (ws2.findIdx (qq ((t : Nat) : Int) a))).take q)))]) (by kernel_rfl) (get_there (by omega) get_here)) (r_iaS (l := t) rfl rfl rfl rfl rfl rfl (by omega) (by omega) get_here rfl (by omega)) ?_
      refine PQ.pure (dst := (some 157)) (v := (.int .i64 ((a : Nat) : Int))) rfl rfl rfl (app [((n8 + 1), some (oIn ((nx.set t (Ux.mk a)).map uI)))] noStore) (seen_one (V := []) (D := [(n, some ⟨[(xDp35 n8 NX jv3 K2 ju4 M2)], 3, 38, true⟩), ((n8 + 1), some (oIn ((nx.set t (Ux.mk a)).map uI))), (jv3, some (oMsg ws2)), ((n + 1), some ⟨[[(.int .i64 ((t : Nat) : Int)), (.int .i64 ssn), (.bool false), (W pr), (.string da)]], 5, 29, true⟩), ((n + 2), some ⟨[[(.slice none 0 0), (.slice none 0 0), (.slice none 0 0)]], 3, 38, true⟩), (ju, none), (ju4, some (oMsg (L3 ++ [ws2.getD (ws2.findIdx (qq ((t : Nat) : Int) a)) dMsg]))), (jr, some (oMsg ((ws2.eraseIdx (ws2.findIdx (qq ((t : Nat) : Int) a))).take q)))]) (by kernel_rfl) (get_there (by omega) get_here)) (Eq.trans (r_loadF (c := cIn) dIn rfl rfl rfl rfl rfl get_here (by rw [List.length_map, List.length_set, hnx]; omega) rfl) (by rw [uI_get (by rw [List.length_set]; omega), set_z (by omega)])) ?_
      refine PQ.pure (dst := (some 158)) (v := (.int .i64 (((a + 1) : Nat) : Int))) rfl rfl rfl noStore (none_ok _ _) (r_bin rfl rfl rfl (b_add (i64_eq (by omega)))) ?_
      have hm16 := andN_le (((a + 1) : Nat) : Int) 65535 (by decide)
      refine PQ.pure (dst := (some 159)) (v := (.int .i64 (((u16N (((a : Nat) : Int) + 1)) : Nat) : Int))) rfl rfl rfl noStore (none_ok _ _) (Eq.trans (r_bin rfl rfl rfl (b_andN (((a + 1) : Nat) : Int) 65535 (by decide))) (by rw [andN_u16, Int.natCast_add] <;> rfl)) ?_
      refine PQ.pure (dst := (some 160)) (v := (Pt n 0 1)) rfl rfl rfl noStore (none_ok _ _) rfl ?_
      refine PQ.op (dst := none) (v := (.tuple #[])) (n1 := n10) (d1 := [(n, some ⟨[(xDp37 n8 NX jr q ju4 M2)], 3, 38, true⟩)]) rfl rfl rfl _ (seen_any (V := []) (D := [(n, some ⟨[(xDp35 n8 NX jv3 K2 ju4 M2)], 3, 38, true⟩), ((n8 + 1), some (oIn ((nx.set t (Ux.mk a)).map uI))), (jv3, some (oMsg ws2)), ((n + 1), some ⟨[[(.int .i64 ((t : Nat) : Int)), (.int .i64 ssn), (.bool false), (W pr), (.string da)]], 5, 29, true⟩), ((n + 2), some ⟨[[(.slice none 0 0), (.slice none 0 0), (.slice none 0 0)]], 3, 38, true⟩), (ju, none), (ju4, some (oMsg (L3 ++ [ws2.getD (ws2.findIdx (qq ((t : Nat) : Int) a)) dMsg]))), (jr, some (oMsg ((ws2.eraseIdx (ws2.findIdx (qq ((t : Nat) : Int) a))).take q)))]) (by kernel_rfl)) (r_store rfl rfl rfl rfl rfl rfl rfl get_here rfl rfl (Nat.le_of_ble_eq_true rfl) rfl) (by omega) (kp1 (wr_old [2, 3, 7, 8, 9, 10, 11, 12] (by kernel_rfl) (by omega) (by omega) (fac (lo0 rfl) (fac (lo1 rfl (by omega)) (fac (lo0 rfl) (fac (lo1 rfl (by omega)) (fac (lo1 rfl (by omega)) (fac (lo1 rfl (by omega)) (fac (lo0 rfl) (fac (lo0 rfl) fan)))))))))) ?_
      refine PQ.pure (dst := (some 161)) (v := (.pointer (some ⟨(n8 + 1), t, some 0⟩))) rfl rfl rfl (app [((n8 + 1), some (oIn ((nx.set t (Ux.mk a)).map uI)))] noStore) (seen_one (V := [(n, some ⟨[(xDp37 n8 NX jr q ju4 M2)], 3, 38, true⟩)]) (D := [(n, some ⟨[(xDp35 n8 NX jv3 K2 ju4 M2)], 3, 38, true⟩), ((n8 + 1), some (oIn ((nx.set t (Ux.mk a)).map uI))), (jv3, some (oMsg ws2)), ((n + 1), some ⟨[[(.int .i64 ((t : Nat) : Int)), (.int .i64 ssn), (.bool false), (W pr), (.string da)]], 5, 29, true⟩), ((n + 2), some ⟨[[(.slice none 0 0), (.slice none 0 0), (.slice none 0 0)]], 3, 38, true⟩), (ju, none), (ju4, some (oMsg (L3 ++ [ws2.getD (ws2.findIdx (qq ((t : Nat) : Int) a)) dMsg]))), (jr, some (oMsg ((ws2.eraseIdx (ws2.findIdx (qq ((t : Nat) : Int) a))).take q)))]) (by kernel_rfl) (gt2 (by omega) get_here)) (r_iaS (l := t) rfl rfl rfl rfl rfl rfl (by omega) (by omega) get_here rfl (by omega)) ?_
      refine PQ.op (dst := none) (v := (.tuple #[])) (n1 := n10) (d1 := [((n8 + 1), some (oIn (((nx.set t (Ux.mk a)).map uI).set t (In.mk (u16N (((a : Nat) : Int) + 1))))))]) rfl rfl rfl _ (seen_any (V := [(n, some ⟨[(xDp37 n8 NX jr q ju4 M2)], 3, 38, true⟩)]) (D := [(n, some ⟨[(xDp35 n8 NX jv3 K2 ju4 M2)], 3, 38, true⟩), ((n8 + 1), some (oIn ((nx.set t (Ux.mk a)).map uI))), (jv3, some (oMsg ws2)), ((n + 1), some ⟨[[(.int .i64 ((t : Nat) : Int)), (.int .i64 ssn), (.bool false), (W pr), (.string da)]], 5, 29, true⟩), ((n + 2), some ⟨[[(.slice none 0 0), (.slice none 0 0), (.slice none 0 0)]], 3, 38, true⟩), (ju, none), (ju4, some (oMsg (L3 ++ [ws2.getD (ws2.findIdx (qq ((t : Nat) : Int) a)) dMsg]))), (jr, some (oMsg ((ws2.eraseIdx (ws2.findIdx (qq ((t : Nat) : Int) a))).take q)))]) (by kernel_rfl)) (r_storeR (c := cIn) dIn (In.mk (u16N (((a : Nat) : Int) + 1))) rfl rfl rfl rfl rfl rfl rfl (gt2 (by omega) get_here) (by rw [List.length_map, List.length_set, hnx]; omega) (Nat.le_of_ble_eq_true rfl) rfl) (by omega) (kp1 (wr_tight (by kernel_rfl) (by omega))) ?_
      refine PQ.done (d := [((n8 + 1), some (oIn (((nx.set t (Ux.mk a)).map uI).set t (In.mk (u16N (((a : Nat) : Int) + 1)))))), (n, some ⟨[(xDp37 n8 NX jr q ju4 M2)], 3, 38, true⟩)]) (by kernel_rfl) ?_
      intro _
      refine RA.le (ob := ⟨[(xDp37 n8 NX jr q ju4 M2)], 3, 38, true⟩) (ob' := ⟨[(xDp38 n8 NX jr q ju4 M2)], 3, 38, true⟩) (get_there (by omega) get_here) (OLe.one (cs := (xDp37 n8 NX jr q ju4 M2)) (cs' := (xDp38 n8 NX jr q ju4 M2)) ⟨VLe.refl _, VLe.refl _, (vle_row _ _ _), trivial⟩ rfl) ?_
      refine RA.weaken (D' := [(n, some ⟨[(xDp38 n8 NX jr q ju4 M2)], 3, 38, true⟩), ((n8 + 1), some (oIn (((nx.set t (Ux.mk a)).map uI).set t (In.mk (u16N (((a : Nat) : Int) + 1)))))), (jv3, some (oMsg ws2)), ((n + 1), some ⟨[[(.int .i64 ((t : Nat) : Int)), (.int .i64 ssn), (.bool false), (W pr), (.string da)]], 5, 29, true⟩), ((n + 2), some ⟨[[(.slice none 0 0), (.slice none 0 0), (.slice none 0 0)]], 3, 38, true⟩), (ju, none), (ju4, some (oMsg (L3 ++ [ws2.getD (ws2.findIdx (qq ((t : Nat) : Int) a)) dMsg]))), (jr, some (oMsg ((ws2.eraseIdx (ws2.findIdx (qq ((t : Nat) : Int) a))).take q)))]) hd (Less.of (fac (mm (fun _ => get_here) (fun _ => get_here)) (fac (mm (fun _ => (get_there (by omega) get_here)) (fun _ => (get_there (by omega) get_here))) (fac (mm (fun _ => (gt2 (by omega) get_here)) (fun _ => (gt5 (by omega) get_here))) (fac (mm (fun _ => (gt3 (by omega) get_here)) (fun _ => (gt6 (by omega) get_here))) (fac (mm (fun _ => (gt4 (by omega) get_here)) (fun _ => (gt7 (by omega) get_here))) (fac (mm (fun _ => (gt5 (by omega) get_here)) (fun _ => (gt8 (by omega) get_here))) (fac (mm (fun _ => (gt6 (by omega) get_here)) (fun _ => (gt9 (by omega) get_here))) (fac (mm (fun _ => (gt7 (by omega) get_here)) (fun _ => (gt10 (by omega) get_here))) fan)))))))) (gone_of (by simp only [goneP, memP, List.cons_append, List.nil_append, true_or, or_true, true_and, and_true, or_false] <;> omega))) ?_
      refine RA.region env_ok ?_
      refine OA.p (some 98) (.int .i64 (((kk : Nat) : Int) - 1)) rfl rfl rfl rfl ?_
      refine OA.p (some 99) (.int .i64 ((((kk : Nat) : Int) - 1) - 1)) rfl rfl rfl (r_bin rfl rfl rfl (b_sub (i64_eq (by omega)))) ?_
      refine OA.p (some 9) (.int .i64 ((((kk : Nat) : Int) - 1) - 1)) rfl rfl rfl rfl ?_
      refine OA.nil ?_
      refine ⟨2 * (kk - 1), by omega, [(n, some ⟨[(xDp38 n8 NX jr q ju4 M2)], 3, 38, true⟩), ((n8 + 1), some (oIn (((nx.set t (Ux.mk a)).map uI).set t (In.mk (u16N (((a : Nat) : Int) + 1)))))), (jr, some (oMsg ((ws2.eraseIdx (ws2.findIdx (qq ((t : Nat) : Int) a))).take q))), (ju4, some (oMsg (L3 ++ [ws2.getD (ws2.findIdx (qq ((t : Nat) : Int) a)) dMsg]))), ((n + 1), some ⟨[[(.int .i64 ((t : Nat) : Int)), (.int .i64 ssn), (.bool false), (W pr), (.string da)]], 5, 29, true⟩), ((n + 2), some ⟨[[(.slice none 0 0), (.slice none 0 0), (.slice none 0 0)]], 3, 38, true⟩), (ju, none)], (Less.of (fac (mm (fun _ => get_here) (fun _ => get_here)) (fac (mm (fun _ => (get_there (by omega) get_here)) (fun _ => (get_there (by omega) get_here))) (fac (mm (fun _ => (gt2 (by omega) get_here)) (fun _ => (gt7 (by omega) get_here))) (fac (mm (fun _ => (gt3 (by omega) get_here)) (fun _ => (gt6 (by omega) get_here))) (fac (mm (fun _ => (gt4 (by omega) get_here)) (fun _ => (gt3 (by omega) get_here))) (fac (mm (fun _ => (gt5 (by omega) get_here)) (fun _ => (gt4 (by omega) get_here))) (fac (mm (fun _ => (gt6 (by omega) get_here)) (fun _ => (gt5 (by omega) get_here))) fan))))))) (gone_of (by simp only [goneP, memP, List.cons_append, List.nil_append, true_or, or_true, true_and, and_true, or_false] <;> omega))), ⟨(kk - 1), (u16N (((a : Nat) : Int) + 1)), q, (ws2.eraseIdx (ws2.findIdx (qq ((t : Nat) : Int) a))), jr, ju4, (M2 + 1), (L3 ++ [ws2.getD (ws2.findIdx (qq ((t : Nat) : Int) a)) dMsg]), rfl, by omega, ⟨rfl, rfl, rfl, (congrArg (Value.int .i64) (by omega)), trivial⟩, (by rw [uI_set, List.set_set, List.take_of_length_le (show (ws2.eraseIdx (ws2.findIdx (qq ((t : Nat) : Int) a))).length ≤ q from by rw [List.length_eraseIdx_of_lt (by omega)]; omega)]), (kb7 (by omega)), ⟨by rw [List.length_eraseIdx_of_lt (by omega)]; omega, by rw [List.length_append, hL3]; rfl, goS_next (by omega) (by omega) hR, by omega, u16N_lt _, by omega, by omega, by omega, by omega, by omega⟩⟩⟩
   ·
    refine OA.p (some 97) (.bool false) rfl rfl rfl (Eq.trans (r_bin rfl rfl rfl (b_geq rfl)) (dF hc8)) ?_
    refine OA.nil ?_
    intro _
    refine RA.condF rfl ?_
    refine RA.exit env_ok ?_
    intro _
    refine RA.seq hd ?_
    refine RA.region env_ok ?_
    refine OA.p (some 162) (.agg ⟨(xDp313 n8 NX jv3 K2 ju3 M2)⟩) rfl rfl rfl (r_loadA rfl rfl rfl rfl get_here rfl rfl rfl) ?_
    refine OA.op1 (dst := none) (v := (.tuple #[])) (n1 := n9) (w := ((n + 2), some ⟨[(xDp313 n8 NX jv3 K2 ju3 M2)], 3, 38, true⟩)) rfl rfl rfl (r_store rfl rfl rfl rfl rfl rfl rfl (gt5 (by omega) get_here) rfl rfl (Nat.le_of_ble_eq_true rfl) rfl) (by omega) ?_
    refine OA.p (some 5) (.bool true) rfl rfl rfl rfl ?_
    refine OA.nil ?_
    intro _
    refine RA.weaken (D' := [((n + 2), some ⟨[(xDp313 n8 NX jv3 K2 ju3 M2)], 3, 38, true⟩), (n, some ⟨[(xDp313 n8 NX jv3 K2 ju3 M2)], 3, 38, true⟩), ((n8 + 1), some (oIn ((nx.set t (Ux.mk a)).map uI))), (jv3, some (oMsg ws2)), (ju3, some (oMsg L3)), ((n + 1), some ⟨[[(.int .i64 ((t : Nat) : Int)), (.int .i64 ssn), (.bool false), (W pr), (.string da)]], 5, 29, true⟩), (ju, none)]) hd (Less.of (fac (mm (fun _ => get_here) (fun _ => get_here)) (fac (mm (fun _ => (get_there (by omega) get_here)) (fun _ => (get_there (by omega) get_here))) (fac (mm (fun _ => (gt2 (by omega) get_here)) (fun _ => (gt2 (by omega) get_here))) (fac (mm (fun _ => (gt3 (by omega) get_here)) (fun _ => (gt3 (by omega) get_here))) (fac (mm (fun _ => (gt4 (by omega) get_here)) (fun _ => (gt4 (by omega) get_here))) (fac (mm (fun _ => (gt5 (by omega) get_here)) (fun _ => (gt5 (by omega) get_here))) (fac (mm (fun _ => (gt6 (by omega) get_here)) (fun _ => (gt7 (by omega) get_here))) fan))))))) (gone_of (by simp only [goneP, memP, List.cons_append, List.nil_append, true_or, or_true, true_and, and_true, or_false] <;> omega))) ?_
    refine RA.ret env_ok ?_
    refine ⟨.inr rfl, [(.agg ⟨(xDp313 n8 NX jv3 K2 ju3 M2)⟩), (.bool true)], (resL_cons (res_cellA rfl rfl rfl get_here rfl rfl rfl) (resL_cons rfl resL_nil)), [((n8 + 1), some (oIn ((nx.set t (Ux.mk a)).map uI))), (jv3, some (oMsg ws2)), (ju3, some (oMsg L3)), (ju, none)], (Less.of (fac (mm (fun _ => get_here) (fun _ => (gt2 (by omega) get_here))) (fac (mm (fun _ => (get_there (by omega) get_here)) (fun _ => (gt3 (by omega) get_here))) (fac (mm (fun _ => (gt2 (by omega) get_here)) (fun _ => (gt4 (by omega) get_here))) (fac (mm (fun _ => (gt3 (by omega) get_here)) (fun _ => (gt6 (by omega) get_here))) fan)))) (gone_of (by simp only [goneP, memP, List.cons_append, List.nil_append, true_or, or_true, true_and, and_true, or_false] <;> omega))), ⟨(n8 + 1), jv3, ju3, by omega, by omega, by omega, by omega, by omega, by omega, by omega, by omega, by omega, K2, M2, by rw [← hR, show kk = 0 from by omega]; exact hws2, by rw [← hR, show kk = 0 from by omega]; exact hL3, by omega, rfl, by rw [← hR, show kk = 0 from by omega]; rfl⟩⟩
end Go.Proofs.Ytmepflkodjdgdaa.Vt
