/- Ak2: walks through functions of the program, by the calculus; written by a program of this workplace. -/
import Derived.Test.YtdnkhdkflemkeaaAk1
import Derived.Test.YtdnkhdkflemkeaaVm5
namespace Go.Proofs.Ytdnkhdkflemkeaa.Vt
open Go Go.Proofs Go.Proofs.YtdnkhdkflemkeaaV
set_option maxRecDepth 100000
set_option linter.unusedVariables false
set_option linter.unusedSimpArgs false
def kB : ByteArray := (ByteArray.mk #[107])
def blB : ByteArray := (ByteArray.mk #[0, 0, 0, 0, 0, 0, 0, 0, 0, 0, 0, 0, 0, 0, 0, 0, 0, 0, 0, 0])
def pbB : ByteArray := (ByteArray.mk #[15, 0, 0, 28, 0, 0, 0, 1, 0, 0, 0, 0, 0, 0, 0, 0, 0, 0, 0, 0, 0, 0, 0, 0, 0, 0, 0, 0])
def pcB : ByteArray := (ByteArray.mk #[]) ++ (ByteArray.mk #[193, 0, 0, 8, 0, 0, 0, 5])
def msgB : ByteArray := pbB ++ pcB
theorem kB_s : kB.size < 4294967296 := by decide +kernel
theorem msgB_s : msgB.size < 2147483648 := by decide +kernel
abbrev xAk21 : List Value := [(.int .i64 193), (.int .i64 0), (.int .u32 5), (.int .i64 0), (.int .i64 0), (.int .u32 0), (.string ByteArray.empty), (.int .u32 0), (.int .u32 0), (.int .i64 0), (.int .i64 0), (.slice none 0 0), (.slice none 0 0), (.slice none 0 0), (.slice none 0 0)]
abbrev xAk22 : List Value := [(.int .i64 0), (.int .i64 0), (.int .u32 0), (.int .i64 0), (.int .i64 0), (.int .u32 0), (.string ByteArray.empty), (.int .u32 0), (.int .u32 0), (.int .i64 0), (.int .i64 0), (.slice none 0 0), (.slice none 0 0), (.slice none 0 0), (.slice none 0 0)]
abbrev xAk23 : List Value := [(.int .i64 15), (.int .i64 0), (.int .u32 0), (.int .i64 0), (.int .i64 1), (.int .u32 0), (.string (macF kB msgB)), (.int .u32 0), (.int .u32 0), (.int .i64 0), (.int .i64 0), (.slice none 0 0), (.slice none 0 0), (.slice none 0 0), (.slice none 0 0)]
abbrev xAk24 : List Value := [(.int .i64 15), (.int .i64 0), (.int .u32 0), (.int .i64 0), (.int .i64 1), (.int .u32 0), (.string blB), (.int .u32 0), (.int .u32 0), (.int .i64 0), (.int .i64 0), (.slice none 0 0), (.slice none 0 0), (.slice none 0 0), (.slice none 0 0)]
theorem kNeeds {σ : Store}    : PS Try.prog noDen 54 [(.agg ⟨[(.int .i64 193), (.int .i64 0), (.int .u32 5), (.int .i64 0), (.int .i64 0), (.int .u32 0), (.string ByteArray.empty), (.int .u32 0), (.int .u32 0), (.int .i64 0), (.int .i64 0), (.slice none 0 0), (.slice none 0 0), (.slice none 0 0), (.slice none 0 0)]⟩)] σ (.bool true) := by
 refine PS.body (E := env) env_ok rfl rfl (by show _ ≤ _; exact of_decide_eq_true (by kernel_rfl)) (fun n hd => ?_)
 refine RA.seq hd ?_
 refine RA.region env_ok ?_
 refine OA.op1 (dst := (some 1)) (v := (Pt n 0 0)) (n1 := (n + 1)) (w := (n, some ⟨[xAk21], 15, 54, true⟩)) rfl rfl rfl rfl (by omega) ?_
 refine OA.p (some 2) (.bool false) rfl rfl rfl rfl ?_
 refine OA.nil ?_
 intro _
 refine RA.seq hd ?_
 refine RA.region env_ok ?_
 refine OA.p (some 3) (Pt n 0 0) rfl rfl rfl rfl ?_
 refine OA.p (some 4) (.int .i64 193) rfl rfl rfl (r_load1 rfl rfl rfl rfl rfl get_here rfl rfl) ?_
 refine OA.p (some 5) (.bool true) rfl rfl rfl (r_bin rfl rfl rfl (b_eql rfl)) ?_
 refine OA.p (some 6) (.bool true) rfl rfl rfl rfl ?_
 refine OA.off (dst := (some 7)) rfl rfl rfl ?_
 refine OA.off (dst := (some 8)) rfl rfl rfl ?_
 refine OA.off (dst := (some 9)) rfl rfl rfl ?_
 refine OA.p (some 10) (.bool true) rfl rfl rfl rfl ?_
 refine OA.p (some 2) (.bool true) rfl rfl rfl rfl ?_
 refine OA.nil ?_
 intro _
 refine RA.ret env_ok ?_
 refine ⟨.inr rfl, [(.bool true)], (resL_cons rfl resL_nil), rfl, (kc1 (by omega))⟩

theorem kBytes1 {σ : Store} (j : Nat) (hj : σ j = some ⟨[[(.int .i64 193), (.int .i64 0), (.int .u32 5), (.int .i64 0), (.int .i64 0), (.int .u32 0), (.string ByteArray.empty), (.int .u32 0), (.int .u32 0), (.int .i64 0), (.int .i64 0), (.slice none 0 0), (.slice none 0 0), (.slice none 0 0), (.slice none 0 0)]], 15, 54, true⟩)  : PS Try.prog noDen 68 [(.slice (some ⟨j, 0, none⟩) 1 0)] σ (.string pcB) := by
 refine PS.body (E := env) env_ok rfl rfl (by show _ ≤ _; exact of_decide_eq_true (by kernel_rfl)) (fun n hd => ?_)
 have lhj := hd.lt hj
 refine RA.seq hd ?_
 refine RA.region env_ok ?_
 refine OA.p (some 2) (.string (ByteArray.mk #[])) rfl rfl rfl rfl ?_
 refine OA.nil ?_
 intro _
 refine RA.seq hd ?_
 refine RA.region env_ok ?_
 refine OA.p (some 3) (.string (ByteArray.mk #[])) rfl rfl rfl rfl ?_
 refine OA.nil ?_
 intro _
 refine RA.seq hd ?_
 refine RA.seq hd ?_
 refine RA.region env_ok ?_
 refine OA.p (some 6) (.slice (some ⟨j, 0, none⟩) 1 0) rfl rfl rfl rfl ?_
 refine OA.p (some 7) (.int .i64 1) rfl rfl rfl rfl ?_
 refine OA.p (some 8) (.int .i64 0) rfl rfl rfl rfl ?_
 refine OA.nil ?_
 intro _
 refine RA.block ?_
 refine RA.unroll hd ?_
 refine RA.seq hd ?_
 refine RA.region env_ok ?_
 refine OA.p (some 9) (.bool true) rfl rfl rfl (r_bin rfl rfl rfl (b_lss rfl)) ?_
 refine OA.nil ?_
 intro _
 refine RA.seq hd ?_
 refine RA.condT rfl ?_
 refine RA.skip env_ok ?_
 intro _
 refine RA.seq hd ?_
 refine RA.block ?_
 refine RA.seq hd ?_
 refine RA.region env_ok ?_
 refine OA.p (some 10) (Pt j 0 0) rfl rfl rfl (r_iaS (l := 0) rfl rfl rfl rfl rfl rfl (by omega) (by omega) hj rfl (by omega)) ?_
 refine OA.p (some 11) (.agg ⟨xAk21⟩) rfl rfl rfl (r_loadA rfl rfl rfl rfl hj rfl rfl rfl) ?_
 refine OA.op1 (dst := (some 5)) (v := (Pt n 0 0)) (n1 := (n + 1)) (w := (n, some ⟨[xAk22], 15, 54, true⟩)) rfl rfl rfl rfl (by omega) ?_
 refine OA.op1 (dst := none) (v := (.tuple #[])) (n1 := (n + 1)) (w := (n, some ⟨[xAk21], 15, 54, true⟩)) rfl rfl rfl (r_store rfl rfl rfl rfl rfl rfl rfl get_here rfl rfl (Nat.le_of_ble_eq_true rfl) rfl) (by omega) ?_
 refine OA.nil ?_
 intro _
 refine RA.region env_ok ?_
 refine OA.p (some 12) (.string (ByteArray.mk #[])) rfl rfl rfl rfl ?_
 refine OA.p (some 13) (.agg ⟨xAk21⟩) rfl rfl rfl (r_loadA rfl rfl rfl rfl get_here rfl rfl rfl) ?_
 refine OA.callP (dst := (some 14)) (all := [(.agg ⟨xAk21⟩)]) (v := (.string (ByteArray.mk #[193, 0, 0, 8, 0, 0, 0, 5]))) (hd.of (by omega) (kb2 (by omega))) rfl rfl rfl rfl rfl rfl rfl rfl pConf ?_
 intro n1 hn1
 refine OA.p (some 15) (.string pcB) rfl rfl rfl (show _ = some (Value.string pcB, _, []) from r_cat rfl rfl rfl (by decide +kernel)) ?_
 refine OA.p (some 3) (.string pcB) rfl rfl rfl rfl ?_
 refine OA.nil ?_
 intro _
 refine RA.region env_ok ?_
 refine OA.p (some 16) (.int .i64 1) rfl rfl rfl (r_bin rfl rfl rfl (b_add (i64_eq (by omega)))) ?_
 refine OA.p (some 8) (.int .i64 1) rfl rfl rfl rfl ?_
 refine OA.nil ?_
 intro _
 refine RA.unroll hd ?_
 refine RA.seq hd ?_
 refine RA.region env_ok ?_
 refine OA.p (some 9) (.bool false) rfl rfl rfl (r_bin rfl rfl rfl (b_lss rfl)) ?_
 refine OA.nil ?_
 intro _
 refine RA.seq hd ?_
 refine RA.condF rfl ?_
 refine RA.exit env_ok ?_
 intro _
 refine RA.seq hd ?_
 refine RA.region env_ok ?_
 refine OA.p (some 17) (.string pcB) rfl rfl rfl rfl ?_
 refine OA.p (some 2) (.string pcB) rfl rfl rfl rfl ?_
 refine OA.nil ?_
 intro _
 refine RA.ret env_ok ?_
 refine ⟨.inr rfl, [(.string pcB)], (resL_cons rfl resL_nil), rfl, (kc2 (by omega))⟩

theorem kBytes2 {σ : Store} (j : Nat) (hj : σ j = some ⟨[[(.int .i64 15), (.int .i64 0), (.int .u32 0), (.int .i64 0), (.int .i64 1), (.int .u32 0), (.string (macF kB msgB)), (.int .u32 0), (.int .u32 0), (.int .i64 0), (.int .i64 0), (.slice none 0 0), (.slice none 0 0), (.slice none 0 0), (.slice none 0 0)], [(.int .i64 193), (.int .i64 0), (.int .u32 5), (.int .i64 0), (.int .i64 0), (.int .u32 0), (.string ByteArray.empty), (.int .u32 0), (.int .u32 0), (.int .i64 0), (.int .i64 0), (.slice none 0 0), (.slice none 0 0), (.slice none 0 0), (.slice none 0 0)]], 15, 54, true⟩)  : PS Try.prog noDen 68 [(.slice (some ⟨j, 1, none⟩) 1 0)] σ (.string pcB) := by
 refine PS.body (E := env) env_ok rfl rfl (by show _ ≤ _; exact of_decide_eq_true (by kernel_rfl)) (fun n hd => ?_)
 have lhj := hd.lt hj
 refine RA.seq hd ?_
 refine RA.region env_ok ?_
 refine OA.p (some 2) (.string (ByteArray.mk #[])) rfl rfl rfl rfl ?_
 refine OA.nil ?_
 intro _
 refine RA.seq hd ?_
 refine RA.region env_ok ?_
 refine OA.p (some 3) (.string (ByteArray.mk #[])) rfl rfl rfl rfl ?_
 refine OA.nil ?_
 intro _
 refine RA.seq hd ?_
 refine RA.seq hd ?_
 refine RA.region env_ok ?_
 refine OA.p (some 6) (.slice (some ⟨j, 1, none⟩) 1 0) rfl rfl rfl rfl ?_
 refine OA.p (some 7) (.int .i64 1) rfl rfl rfl rfl ?_
 refine OA.p (some 8) (.int .i64 0) rfl rfl rfl rfl ?_
 refine OA.nil ?_
 intro _
 refine RA.block ?_
 refine RA.unroll hd ?_
 refine RA.seq hd ?_
 refine RA.region env_ok ?_
 refine OA.p (some 9) (.bool true) rfl rfl rfl (r_bin rfl rfl rfl (b_lss rfl)) ?_
 refine OA.nil ?_
 intro _
 refine RA.seq hd ?_
 refine RA.condT rfl ?_
 refine RA.skip env_ok ?_
 intro _
 refine RA.seq hd ?_
 refine RA.block ?_
 refine RA.seq hd ?_
 refine RA.region env_ok ?_
 refine OA.p (some 10) (Pt j 1 0) rfl rfl rfl (r_iaS (l := 0) rfl rfl rfl rfl rfl rfl (by omega) (by omega) hj rfl (by omega)) ?_
 refine OA.p (some 11) (.agg ⟨xAk21⟩) rfl rfl rfl (r_loadA rfl rfl rfl rfl hj rfl rfl rfl) ?_
 refine OA.op1 (dst := (some 5)) (v := (Pt n 0 0)) (n1 := (n + 1)) (w := (n, some ⟨[xAk22], 15, 54, true⟩)) rfl rfl rfl rfl (by omega) ?_
 refine OA.op1 (dst := none) (v := (.tuple #[])) (n1 := (n + 1)) (w := (n, some ⟨[xAk21], 15, 54, true⟩)) rfl rfl rfl (r_store rfl rfl rfl rfl rfl rfl rfl get_here rfl rfl (Nat.le_of_ble_eq_true rfl) rfl) (by omega) ?_
 refine OA.nil ?_
 intro _
 refine RA.region env_ok ?_
 refine OA.p (some 12) (.string (ByteArray.mk #[])) rfl rfl rfl rfl ?_
 refine OA.p (some 13) (.agg ⟨xAk21⟩) rfl rfl rfl (r_loadA rfl rfl rfl rfl get_here rfl rfl rfl) ?_
 refine OA.callP (dst := (some 14)) (all := [(.agg ⟨xAk21⟩)]) (v := (.string (ByteArray.mk #[193, 0, 0, 8, 0, 0, 0, 5]))) (hd.of (by omega) (kb2 (by omega))) rfl rfl rfl rfl rfl rfl rfl rfl pConf ?_
 intro n1 hn1
 refine OA.p (some 15) (.string pcB) rfl rfl rfl (show _ = some (Value.string pcB, _, []) from r_cat rfl rfl rfl (by decide +kernel)) ?_
 refine OA.p (some 3) (.string pcB) rfl rfl rfl rfl ?_
 refine OA.nil ?_
 intro _
 refine RA.region env_ok ?_
 refine OA.p (some 16) (.int .i64 1) rfl rfl rfl (r_bin rfl rfl rfl (b_add (i64_eq (by omega)))) ?_
 refine OA.p (some 8) (.int .i64 1) rfl rfl rfl rfl ?_
 refine OA.nil ?_
 intro _
 refine RA.unroll hd ?_
 refine RA.seq hd ?_
 refine RA.region env_ok ?_
 refine OA.p (some 9) (.bool false) rfl rfl rfl (r_bin rfl rfl rfl (b_lss rfl)) ?_
 refine OA.nil ?_
 intro _
 refine RA.seq hd ?_
 refine RA.condF rfl ?_
 refine RA.exit env_ok ?_
 intro _
 refine RA.seq hd ?_
 refine RA.region env_ok ?_
 refine OA.p (some 17) (.string pcB) rfl rfl rfl rfl ?_
 refine OA.p (some 2) (.string pcB) rfl rfl rfl rfl ?_
 refine OA.nil ?_
 intro _
 refine RA.ret env_ok ?_
 refine ⟨.inr rfl, [(.string pcB)], (resL_cons rfl resL_nil), rfl, (kc2 (by omega))⟩

theorem kSeal {σ : Store} (j : Nat) (hj : σ j = some ⟨[[(.int .i64 193), (.int .i64 0), (.int .u32 5), (.int .i64 0), (.int .i64 0), (.int .u32 0), (.string ByteArray.empty), (.int .u32 0), (.int .u32 0), (.int .i64 0), (.int .i64 0), (.slice none 0 0), (.slice none 0 0), (.slice none 0 0), (.slice none 0 0)]], 15, 54, true⟩)  : PS Try.prog noDen 50 [(.string kB), (.slice (some ⟨j, 0, none⟩) 1 0)] σ (.string (macF kB msgB)) := by
 refine PS.body (E := env) env_ok rfl rfl (by show _ ≤ _; exact of_decide_eq_true (by kernel_rfl)) (fun n hd => ?_)
 have lhj := hd.lt hj
 refine RA.seq hd ?_
 refine RA.region env_ok ?_
 refine OA.p (some 4) (.string (ByteArray.mk #[])) rfl rfl rfl rfl ?_
 refine OA.nil ?_
 intro _
 refine RA.seq hd ?_
 refine RA.region env_ok ?_
 refine OA.op1 (dst := (some 6)) (v := (.slice (some ⟨n, 0, none⟩) 20 0)) (n1 := (n + 1)) (w := (n, some ⟨(bc (List.replicate 20 0)), 1, 5, true⟩)) rfl rfl rfl (r_makeBytes (K := 20) rfl rfl rfl rfl rfl rfl rfl rfl rfl (by omega)) (by omega) ?_
 refine OA.p (some 7) (.string blB) rfl rfl rfl (Eq.trans (r_b2s rfl rfl rfl rfl rfl rfl rfl rfl get_here (by rw [List.length_replicate]; omega)) (by kernel_rfl)) ?_
 refine OA.p (some 8) (.agg ⟨xAk24⟩) rfl rfl rfl (by kernel_rfl) ?_
 refine OA.op1 (dst := (some 5)) (v := (.pointer (some ⟨(n + 1), 0, some 0⟩))) (n1 := (n + 2)) (w := ((n + 1), some ⟨[xAk22], 15, 54, true⟩)) rfl rfl rfl rfl (by omega) ?_
 refine OA.op1 (dst := none) (v := (.tuple #[])) (n1 := (n + 2)) (w := ((n + 1), some ⟨[xAk24], 15, 54, true⟩)) rfl rfl rfl (r_store rfl rfl rfl rfl rfl rfl rfl get_here rfl rfl (Nat.le_of_ble_eq_true rfl) rfl) (by omega) ?_
 refine OA.nil ?_
 intro _
 refine RA.weaken (D' := [((n + 1), some ⟨[xAk24], 15, 54, true⟩), (n, some ⟨(bc (List.replicate 20 0)), 1, 5, true⟩)]) hd (Less.of (fac (mm (fun _ => get_here) (fun _ => get_here)) (fac (mm (fun _ => (get_there (by omega) get_here)) (fun _ => (gt2 (by omega) get_here))) fan)) (gone_of (by simp only [goneP, memP, List.cons_append, List.nil_append, true_or, or_true, true_and, and_true, or_false] <;> omega))) ?_
 refine RA.seq hd ?_
 refine RA.region env_ok ?_
 refine OA.p (some 9) (.string kB) rfl rfl rfl rfl ?_
 refine OA.p (some 10) (.agg ⟨xAk24⟩) rfl rfl rfl (r_loadA rfl rfl rfl rfl get_here rfl rfl rfl) ?_
 refine OA.callP (dst := (some 11)) (all := [(.agg ⟨xAk24⟩)]) (v := (.string pbB)) (hd.of (by omega) (kb2 (by omega))) rfl rfl rfl rfl rfl rfl rfl rfl pBlank ?_
 intro n1 hn1
 refine OA.p (some 12) (.slice (some ⟨j, 0, none⟩) 1 0) rfl rfl rfl rfl ?_
 refine OA.callP (dst := (some 13)) (all := [(.slice (some ⟨j, 0, none⟩) 1 0)]) (v := (.string pcB)) (hd.of (by omega) (kb2 (by omega))) rfl rfl rfl rfl rfl rfl rfl rfl (kBytes1 j (gt2 (by omega) hj)) ?_
 intro n2 hn2
 refine OA.p (some 14) (.string msgB) rfl rfl rfl (show _ = some (Value.string msgB, _, []) from r_cat rfl rfl rfl (by decide +kernel)) ?_
 refine OA.callP (dst := (some 15)) (all := [(.string kB), (.string msgB)]) (v := (.string (macF kB msgB))) (hd.of (by omega) (kb2 (by omega))) rfl rfl rfl rfl rfl rfl rfl rfl (s18 kB msgB kB_s msgB_s) ?_
 intro n3 hn3
 refine OA.p (some 4) (.string (macF kB msgB)) rfl rfl rfl rfl ?_
 refine OA.nil ?_
 intro _
 refine RA.ret env_ok ?_
 refine ⟨.inr rfl, [(.string (macF kB msgB))], (resL_cons rfl resL_nil), rfl, (kc2 (by omega))⟩

theorem kSign {n : Nat} {σ : Store} (hd : Dom n σ) (j : Nat) (hj : σ j = some ⟨[[(.int .i64 193), (.int .i64 0), (.int .u32 5), (.int .i64 0), (.int .i64 0), (.int .u32 0), (.string ByteArray.empty), (.int .u32 0), (.int .u32 0), (.int .i64 0), (.int .i64 0), (.slice none 0 0), (.slice none 0 0), (.slice none 0 0), (.slice none 0 0)]], 15, 54, true⟩)  : CQ Try.prog noDen 31 [(.string kB), (.slice (some ⟨j, 0, none⟩) 1 0)] n σ (fun v n' d => ∃ i, n ≤ i ∧ i < n' ∧ v = .slice (some ⟨i, 0, none⟩) 2 0 ∧ d = [(i, some ⟨[[(.int .i64 15), (.int .i64 0), (.int .u32 0), (.int .i64 0), (.int .i64 1), (.int .u32 0), (.string (macF kB msgB)), (.int .u32 0), (.int .u32 0), (.int .i64 0), (.int .i64 0), (.slice none 0 0), (.slice none 0 0), (.slice none 0 0), (.slice none 0 0)], [(.int .i64 193), (.int .i64 0), (.int .u32 5), (.int .i64 0), (.int .i64 0), (.int .u32 0), (.string ByteArray.empty), (.int .u32 0), (.int .u32 0), (.int .i64 0), (.int .i64 0), (.slice none 0 0), (.slice none 0 0), (.slice none 0 0), (.slice none 0 0)]], 15, 54, true⟩)]) := by
 have lhj := hd.lt hj
 refine CQ.body (E := env) env_ok hd rfl rfl (by show _ ≤ _; exact of_decide_eq_true (by kernel_rfl)) ?_
 refine RA.seq hd ?_
 refine RA.region env_ok ?_
 refine OA.p (some 4) (.slice none 0 0) rfl rfl rfl rfl ?_
 refine OA.nil ?_
 intro _
 refine RA.seq hd ?_
 refine RA.region env_ok ?_
 refine OA.p (some 6) (.string kB) rfl rfl rfl rfl ?_
 refine OA.p (some 7) (.slice (some ⟨j, 0, none⟩) 1 0) rfl rfl rfl rfl ?_
 refine OA.callP (dst := (some 8)) (all := [(.string kB), (.slice (some ⟨j, 0, none⟩) 1 0)]) (v := (.string (macF kB msgB))) (hd.up (by omega)) rfl rfl rfl rfl rfl rfl rfl rfl (kSeal j hj) ?_
 intro n1 hn1
 refine OA.p (some 9) (.agg ⟨xAk23⟩) rfl rfl rfl (by kernel_rfl) ?_
 refine OA.op1 (dst := (some 5)) (v := (Pt n1 0 0)) (n1 := (n1 + 1)) (w := (n1, some ⟨[xAk22], 15, 54, true⟩)) rfl rfl rfl rfl (by omega) ?_
 refine OA.op1 (dst := none) (v := (.tuple #[])) (n1 := (n1 + 1)) (w := (n1, some ⟨[xAk23], 15, 54, true⟩)) rfl rfl rfl (r_store rfl rfl rfl rfl rfl rfl rfl get_here rfl rfl (Nat.le_of_ble_eq_true rfl) rfl) (by omega) ?_
 refine OA.nil ?_
 intro _
 refine RA.seq hd ?_
 refine RA.region env_ok ?_
 refine OA.p (some 10) (.agg ⟨xAk23⟩) rfl rfl rfl (r_loadA rfl rfl rfl rfl get_here rfl rfl rfl) ?_
 refine OA.op1 (dst := (some 11)) (v := (.slice (some ⟨(n1 + 1), 0, none⟩) 1 0)) (n1 := (n1 + 2)) (w := ((n1 + 1), some ⟨[xAk23], 15, 54, true⟩)) rfl rfl rfl (by kernel_rfl) (by omega) ?_
 refine OA.p (some 12) (.slice (some ⟨j, 0, none⟩) 1 0) rfl rfl rfl rfl ?_
 refine OA.op (dst := (some 13)) (v := (.slice (some ⟨(n1 + 2), 0, none⟩) 2 0)) (n1 := (n1 + 3)) (d1 := [((n1 + 2), some ⟨[xAk23, xAk21], 15, 54, true⟩), ((n1 + 1), none)]) (D' := [((n1 + 2), some ⟨[xAk23, xAk21], 15, 54, true⟩), ((n1 + 1), none), ((n1 + 1), some ⟨[xAk23], 15, 54, true⟩), (n1, some ⟨[xAk23], 15, 54, true⟩), (n1, some ⟨[xAk22], 15, 54, true⟩)]) rfl rfl rfl (r_append (l := [xAk23]) (cs := xAk21) rfl rfl rfl rfl rfl rfl rfl rfl rfl rfl (by decide) get_here (gt3 (by omega) hj) rfl (by decide) (of_decide_eq_true (by kernel_rfl)) rfl) (by omega) rfl ?_
 refine OA.p (some 4) (.slice (some ⟨(n1 + 2), 0, none⟩) 2 0) rfl rfl rfl rfl ?_
 refine OA.nil ?_
 intro _
 refine RA.weaken (D' := [((n1 + 2), some ⟨[xAk23, xAk21], 15, 54, true⟩), ((n1 + 1), none), (n1, some ⟨[xAk23], 15, 54, true⟩)]) hd (Less.of (fac (mm (fun _ => get_here) (fun _ => get_here)) (fac (mm (fun _ => (get_there (by omega) get_here)) (fun _ => (get_there (by omega) get_here))) (fac (mm (fun _ => (gt2 (by omega) get_here)) (fun _ => (gt3 (by omega) get_here))) fan))) (gone_of (by simp only [goneP, memP, List.cons_append, List.nil_append, true_or, or_true, true_and, and_true, or_false] <;> omega))) ?_
 refine RA.ret env_ok ?_
 refine ⟨.inr rfl, [(.slice (some ⟨(n1 + 2), 0, none⟩) 2 0)], (resL_cons rfl resL_nil), [((n1 + 2), some ⟨[xAk23, xAk21], 15, 54, true⟩)], (Less.of (fac (mm (fun _ => get_here) (fun _ => get_here)) fan) (gone_of (by simp only [goneP, memP, List.cons_append, List.nil_append, true_or, or_true, true_and, and_true, or_false] <;> omega))), ⟨(n1 + 2), by omega, by omega, rfl, rfl⟩⟩

theorem kRight {σ : Store} (j : Nat) (hj : σ j = some ⟨[[(.int .i64 15), (.int .i64 0), (.int .u32 0), (.int .i64 0), (.int .i64 1), (.int .u32 0), (.string (macF kB msgB)), (.int .u32 0), (.int .u32 0), (.int .i64 0), (.int .i64 0), (.slice none 0 0), (.slice none 0 0), (.slice none 0 0), (.slice none 0 0)], [(.int .i64 193), (.int .i64 0), (.int .u32 5), (.int .i64 0), (.int .i64 0), (.int .u32 0), (.string ByteArray.empty), (.int .u32 0), (.int .u32 0), (.int .i64 0), (.int .i64 0), (.slice none 0 0), (.slice none 0 0), (.slice none 0 0), (.slice none 0 0)]], 15, 54, true⟩)  : PS Try.prog noDen 53 [(.string kB), (.agg ⟨[(.int .i64 15), (.int .i64 0), (.int .u32 0), (.int .i64 0), (.int .i64 1), (.int .u32 0), (.string (macF kB msgB)), (.int .u32 0), (.int .u32 0), (.int .i64 0), (.int .i64 0), (.slice none 0 0), (.slice none 0 0), (.slice none 0 0), (.slice none 0 0)]⟩), (.slice (some ⟨j, 1, none⟩) 1 0)] σ (.bool true) := by
 refine PS.body (E := env) env_ok rfl rfl (by show _ ≤ _; exact of_decide_eq_true (by kernel_rfl)) (fun n hd => ?_)
 have lhj := hd.lt hj
 refine RA.seq hd ?_
 refine RA.region env_ok ?_
 refine OA.op1 (dst := (some 4)) (v := (Pt n 0 0)) (n1 := (n + 1)) (w := (n, some ⟨[xAk23], 15, 54, true⟩)) rfl rfl rfl rfl (by omega) ?_
 refine OA.p (some 6) (.bool false) rfl rfl rfl rfl ?_
 refine OA.nil ?_
 intro _
 refine RA.seq hd ?_
 refine RA.region env_ok ?_
 refine OA.op1 (dst := (some 8)) (v := (.slice (some ⟨(n + 1), 0, none⟩) 20 0)) (n1 := (n + 2)) (w := ((n + 1), some ⟨(bc (List.replicate 20 0)), 1, 5, true⟩)) rfl rfl rfl (r_makeBytes (K := 20) rfl rfl rfl rfl rfl rfl rfl rfl rfl (by omega)) (by omega) ?_
 refine OA.p (some 9) (.string blB) rfl rfl rfl (Eq.trans (r_b2s rfl rfl rfl rfl rfl rfl rfl rfl get_here (by rw [List.length_replicate]; omega)) (by kernel_rfl)) ?_
 refine OA.p (some 10) (.agg ⟨xAk24⟩) rfl rfl rfl (by kernel_rfl) ?_
 refine OA.op1 (dst := (some 7)) (v := (.pointer (some ⟨(n + 2), 0, some 0⟩))) (n1 := (n + 3)) (w := ((n + 2), some ⟨[xAk22], 15, 54, true⟩)) rfl rfl rfl rfl (by omega) ?_
 refine OA.op1 (dst := none) (v := (.tuple #[])) (n1 := (n + 3)) (w := ((n + 2), some ⟨[xAk24], 15, 54, true⟩)) rfl rfl rfl (r_store rfl rfl rfl rfl rfl rfl rfl get_here rfl rfl (Nat.le_of_ble_eq_true rfl) rfl) (by omega) ?_
 refine OA.nil ?_
 intro _
 refine RA.weaken (D' := [((n + 2), some ⟨[xAk24], 15, 54, true⟩), ((n + 1), some ⟨(bc (List.replicate 20 0)), 1, 5, true⟩), (n, some ⟨[xAk23], 15, 54, true⟩)]) hd (Less.of (fac (mm (fun _ => get_here) (fun _ => get_here)) (fac (mm (fun _ => (get_there (by omega) get_here)) (fun _ => (gt2 (by omega) get_here))) (fac (mm (fun _ => (gt2 (by omega) get_here)) (fun _ => (gt3 (by omega) get_here))) fan))) (gone_of (by simp only [goneP, memP, List.cons_append, List.nil_append, true_or, or_true, true_and, and_true, or_false] <;> omega))) ?_
 refine RA.seq hd ?_
 refine RA.par (md := [some [], some [n], some [], some [], some [], some [n], some [], some [], some [], some [], some [(n + 2)], some [], some [], none, some [], some [], some [n], some [], some [], some []]) env_ok (hd.of (by omega) (kb3 (by omega))) (by kernel_rfl) ?_
 refine PQ.pure (dst := (some 11)) (v := (Pt n 0 3)) rfl rfl rfl noStore (none_ok _ _) rfl ?_
 refine PQ.pure (dst := (some 12)) (v := (.int .i64 0)) rfl rfl rfl (app [(n, some ⟨[xAk23], 15, 54, true⟩)] noStore) (seen_one (V := []) (D := [((n + 2), some ⟨[xAk24], 15, 54, true⟩), ((n + 1), some ⟨(bc (List.replicate 20 0)), 1, 5, true⟩), (n, some ⟨[xAk23], 15, 54, true⟩)]) (by kernel_rfl) (gt2 (by omega) get_here)) (r_load1 rfl rfl rfl rfl rfl get_here rfl rfl) ?_
 refine PQ.pure (dst := (some 13)) (v := (.bool true)) rfl rfl rfl noStore (none_ok _ _) (r_bin rfl rfl rfl (b_eql rfl)) ?_
 refine PQ.pure (dst := (some 14)) (v := (.bool true)) rfl rfl rfl noStore (none_ok _ _) rfl ?_
 refine PQ.pure (dst := (some 15)) (v := (Pt n 0 4)) rfl rfl rfl noStore (none_ok _ _) rfl ?_
 refine PQ.pure (dst := (some 16)) (v := (.int .i64 1)) rfl rfl rfl (app [(n, some ⟨[xAk23], 15, 54, true⟩)] noStore) (seen_one (V := []) (D := [((n + 2), some ⟨[xAk24], 15, 54, true⟩), ((n + 1), some ⟨(bc (List.replicate 20 0)), 1, 5, true⟩), (n, some ⟨[xAk23], 15, 54, true⟩)]) (by kernel_rfl) (gt2 (by omega) get_here)) (r_load1 rfl rfl rfl rfl rfl get_here rfl rfl) ?_
 refine PQ.pure (dst := (some 17)) (v := (.bool true)) rfl rfl rfl noStore (none_ok _ _) (r_bin rfl rfl rfl (b_eql rfl)) ?_
 refine PQ.pure (dst := (some 18)) (v := (.bool true)) rfl rfl rfl noStore (none_ok _ _) rfl ?_
 refine PQ.pure (dst := (some 19)) (v := (.bool true)) rfl rfl rfl noStore (none_ok _ _) rfl ?_
 refine PQ.pure (dst := (some 20)) (v := (.string kB)) rfl rfl rfl noStore (none_ok _ _) rfl ?_
 refine PQ.pure (dst := (some 21)) (v := (.agg ⟨xAk24⟩)) rfl rfl rfl (app [((n + 2), some ⟨[xAk24], 15, 54, true⟩)] noStore) (seen_one (V := []) (D := [((n + 2), some ⟨[xAk24], 15, 54, true⟩), ((n + 1), some ⟨(bc (List.replicate 20 0)), 1, 5, true⟩), (n, some ⟨[xAk23], 15, 54, true⟩)]) (by kernel_rfl) get_here) (r_loadA rfl rfl rfl rfl get_here rfl rfl rfl) ?_
 refine PQ.callP (dst := (some 22)) (all := [(.agg ⟨xAk24⟩)]) (v := (.string pbB)) noStore (dom_none _) rfl rfl rfl rfl rfl rfl rfl rfl (none_ok _ _) pBlank ?_
 intro n1 hn1
 refine PQ.pure (dst := (some 23)) (v := (.slice (some ⟨j, 1, none⟩) 1 0)) rfl rfl rfl noStore (none_ok _ _) rfl ?_
 refine PQ.callP (dst := (some 24)) (all := [(.slice (some ⟨j, 1, none⟩) 1 0)]) (v := (.string pcB)) _ (hd.of (by omega) (kb3 (by omega))) rfl rfl rfl rfl rfl rfl rfl rfl (seen_any (V := []) (D := [((n + 2), some ⟨[xAk24], 15, 54, true⟩), ((n + 1), some ⟨(bc (List.replicate 20 0)), 1, 5, true⟩), (n, some ⟨[xAk23], 15, 54, true⟩)]) (by kernel_rfl)) (kBytes2 j (gt3 (by omega) hj)) ?_
 intro n2 hn2
 refine PQ.pure (dst := (some 25)) (v := (.string msgB)) rfl rfl rfl noStore (none_ok _ _) (show _ = some (Value.string msgB, _, []) from r_cat rfl rfl rfl (by decide +kernel)) ?_
 refine PQ.pure (dst := (some 26)) (v := (Pt n 0 6)) rfl rfl rfl noStore (none_ok _ _) rfl ?_
 refine PQ.pure (dst := (some 27)) (v := (.string (macF kB msgB))) rfl rfl rfl (app [(n, some ⟨[xAk23], 15, 54, true⟩)] noStore) (seen_one (V := []) (D := [((n + 2), some ⟨[xAk24], 15, 54, true⟩), ((n + 1), some ⟨(bc (List.replicate 20 0)), 1, 5, true⟩), (n, some ⟨[xAk23], 15, 54, true⟩)]) (by kernel_rfl) (gt2 (by omega) get_here)) (r_load1 rfl rfl rfl rfl rfl get_here rfl rfl) ?_
 refine PQ.callP (dst := (some 28)) (all := [(.string kB), (.string msgB), (.string (macF kB msgB))]) (v := (.bool true)) noStore (dom_none _) rfl rfl rfl rfl rfl rfl rfl rfl (none_ok _ _) (PS.to (s20 kB msgB (macF kB msgB) kB_s msgB_s) (congrArg Value.bool (decide_eq_true rfl))) ?_
 intro n3 hn3
 refine PQ.pure (dst := (some 29)) (v := (.bool true)) rfl rfl rfl noStore (none_ok _ _) rfl ?_
 refine PQ.pure (dst := (some 6)) (v := (.bool true)) rfl rfl rfl noStore (none_ok _ _) rfl ?_
 refine PQ.done (d := []) (by kernel_rfl) ?_
 intro _
 refine RA.rebase [(0, (.string kB)), (1, (.agg ⟨xAk23⟩)), (2, (.slice (some ⟨j, 1, none⟩) 1 0)), (4, (Pt n 0 0)), (6, (.bool true)), (7, (.pointer (some ⟨(n + 2), 0, some 0⟩)))] ⟨rfl, rfl, rfl, rfl, rfl, rfl, trivial⟩ (fun τr4 => ?_)
 refine RA.ret env_ok ?_
 refine ⟨.inr rfl, [(.bool true)], (resL_cons rfl resL_nil), rfl, (kc3 (by omega))⟩

theorem kPass2 {n : Nat} {σ : Store} (hd : Dom n σ) (j : Nat) (hj : σ j = some ⟨[[(.int .i64 15), (.int .i64 0), (.int .u32 0), (.int .i64 0), (.int .i64 1), (.int .u32 0), (.string (macF kB msgB)), (.int .u32 0), (.int .u32 0), (.int .i64 0), (.int .i64 0), (.slice none 0 0), (.slice none 0 0), (.slice none 0 0), (.slice none 0 0)], [(.int .i64 193), (.int .i64 0), (.int .u32 5), (.int .i64 0), (.int .i64 0), (.int .u32 0), (.string ByteArray.empty), (.int .u32 0), (.int .u32 0), (.int .i64 0), (.int .i64 0), (.slice none 0 0), (.slice none 0 0), (.slice none 0 0), (.slice none 0 0)]], 15, 54, true⟩)  : CQ Try.prog noDen 35 [(.string kB), (.slice (some ⟨j, 0, none⟩) 2 0)] n σ (fun v n' d => ∃ i, n ≤ i ∧ i < n' ∧ v = .slice (some ⟨i, 0, none⟩) 1 0 ∧ d = [(i, some ⟨[[(.int .i64 193), (.int .i64 0), (.int .u32 5), (.int .i64 0), (.int .i64 0), (.int .u32 0), (.string ByteArray.empty), (.int .u32 0), (.int .u32 0), (.int .i64 0), (.int .i64 0), (.slice none 0 0), (.slice none 0 0), (.slice none 0 0), (.slice none 0 0)]], 15, 54, true⟩)]) := by
 have lhj := hd.lt hj
 refine CQ.body (E := env) env_ok hd rfl rfl (by show _ ≤ _; exact of_decide_eq_true (by kernel_rfl)) ?_
 refine RA.seq hd ?_
 refine RA.region env_ok ?_
 refine OA.p (some 4) (.slice none 0 0) rfl rfl rfl rfl ?_
 refine OA.nil ?_
 intro _
 refine RA.seq hd ?_
 refine RA.region env_ok ?_
 refine OA.p (some 5) (.slice none 0 0) rfl rfl rfl rfl ?_
 refine OA.nil ?_
 intro _
 refine RA.seq hd ?_
 refine RA.region env_ok ?_
 refine OA.p (some 6) (.bool false) rfl rfl rfl rfl ?_
 refine OA.nil ?_
 intro _
 refine RA.seq hd ?_
 refine RA.seq hd ?_
 refine RA.region env_ok ?_
 refine OA.p (some 9) (.slice (some ⟨j, 0, none⟩) 2 0) rfl rfl rfl rfl ?_
 refine OA.p (some 10) (.int .i64 2) rfl rfl rfl rfl ?_
 refine OA.p (some 11) (.int .i64 0) rfl rfl rfl rfl ?_
 refine OA.nil ?_
 intro _
 refine RA.block ?_
 refine RA.unroll hd ?_
 refine RA.seq hd ?_
 refine RA.region env_ok ?_
 refine OA.p (some 12) (.bool true) rfl rfl rfl (r_bin rfl rfl rfl (b_lss rfl)) ?_
 refine OA.nil ?_
 intro _
 refine RA.seq hd ?_
 refine RA.condT rfl ?_
 refine RA.skip env_ok ?_
 intro _
 refine RA.seq hd ?_
 refine RA.block ?_
 refine RA.seq hd ?_
 refine RA.region env_ok ?_
 refine OA.p (some 13) (.int .i64 0) rfl rfl rfl rfl ?_
 refine OA.p (some 14) (Pt j 0 0) rfl rfl rfl (r_iaS (l := 0) rfl rfl rfl rfl rfl rfl (by omega) (by omega) hj rfl (by omega)) ?_
 refine OA.p (some 15) (.agg ⟨xAk23⟩) rfl rfl rfl (r_loadA rfl rfl rfl rfl hj rfl rfl rfl) ?_
 refine OA.op1 (dst := (some 8)) (v := (Pt n 0 0)) (n1 := (n + 1)) (w := (n, some ⟨[xAk22], 15, 54, true⟩)) rfl rfl rfl rfl (by omega) ?_
 refine OA.p (some 7) (.int .i64 0) rfl rfl rfl rfl ?_
 refine OA.op1 (dst := none) (v := (.tuple #[])) (n1 := (n + 1)) (w := (n, some ⟨[xAk23], 15, 54, true⟩)) rfl rfl rfl (r_store rfl rfl rfl rfl rfl rfl rfl get_here rfl rfl (Nat.le_of_ble_eq_true rfl) rfl) (by omega) ?_
 refine OA.nil ?_
 intro _
 refine RA.block ?_
 refine RA.seq hd ?_
 refine RA.region env_ok ?_
 refine OA.p (some 17) (Pt n 0 0) rfl rfl rfl rfl ?_
 refine OA.p (some 18) (.int .i64 15) rfl rfl rfl (r_load1 rfl rfl rfl rfl rfl get_here rfl rfl) ?_
 refine OA.p (some 19) (.bool true) rfl rfl rfl (r_bin rfl rfl rfl (b_eql rfl)) ?_
 refine OA.p (some 16) (.bool true) rfl rfl rfl rfl ?_
 refine OA.nil ?_
 intro _
 refine RA.condT rfl ?_
 refine RA.par (md := [some [], some [n], some [], some [], some [], some [j], none, some []]) env_ok (hd.of (by omega) (kb2 (by omega))) (by kernel_rfl) ?_
 refine PQ.pure (dst := (some 20)) (v := (.string kB)) rfl rfl rfl noStore (none_ok _ _) rfl ?_
 refine PQ.pure (dst := (some 21)) (v := (.agg ⟨xAk23⟩)) rfl rfl rfl (app [(n, some ⟨[xAk23], 15, 54, true⟩)] noStore) (seen_one (V := []) (D := [(n, some ⟨[xAk23], 15, 54, true⟩), (n, some ⟨[xAk22], 15, 54, true⟩)]) (by kernel_rfl) get_here) (r_loadA rfl rfl rfl rfl get_here rfl rfl rfl) ?_
 refine PQ.pure (dst := (some 22)) (v := (.slice (some ⟨j, 0, none⟩) 2 0)) rfl rfl rfl noStore (none_ok _ _) rfl ?_
 refine PQ.pure (dst := (some 23)) (v := (.int .i64 0)) rfl rfl rfl noStore (none_ok _ _) rfl ?_
 refine PQ.pure (dst := (some 24)) (v := (.int .i64 1)) rfl rfl rfl noStore (none_ok _ _) (r_bin rfl rfl rfl (b_add (i64_eq (by omega)))) ?_
 refine PQ.pure (dst := (some 25)) (v := (.slice (some ⟨j, 1, none⟩) 1 0)) rfl rfl rfl (app [(j, some ⟨[xAk23, xAk21], 15, 54, true⟩)] noStore) (seen_one (V := []) (D := [(n, some ⟨[xAk23], 15, 54, true⟩), (n, some ⟨[xAk22], 15, 54, true⟩)]) (by kernel_rfl) (gt2 (by omega) hj)) (r_cutG (a := 1) (b := 2) rfl rfl (fun _ => rfl) (fun _ => rfl) rfl rfl rfl rfl rfl get_here rfl (by decide) ⟨.inl (Nat.le_refl _), Nat.le_of_ble_eq_true rfl⟩ (by decide) (by decide)) ?_
 refine PQ.callP (dst := (some 26)) (all := [(.string kB), (.agg ⟨xAk23⟩), (.slice (some ⟨j, 1, none⟩) 1 0)]) (v := (.bool true)) _ (hd.of (by omega) (kb2 (by omega))) rfl rfl rfl rfl rfl rfl rfl rfl (seen_any (V := []) (D := [(n, some ⟨[xAk23], 15, 54, true⟩), (n, some ⟨[xAk22], 15, 54, true⟩)]) (by kernel_rfl)) (kRight j (gt2 (by omega) hj)) ?_
 intro n1 hn1
 refine PQ.pure (dst := (some 6)) (v := (.bool true)) rfl rfl rfl noStore (none_ok _ _) rfl ?_
 refine PQ.done (d := []) (by kernel_rfl) ?_
 intro _
 refine RA.rebase [(0, (.string kB)), (1, (.slice (some ⟨j, 0, none⟩) 2 0)), (4, (.slice none 0 0)), (5, (.slice none 0 0)), (6, (.bool true)), (7, (.int .i64 0)), (8, (Pt n 0 0)), (9, (.slice (some ⟨j, 0, none⟩) 2 0)), (10, (.int .i64 2)), (11, (.int .i64 0)), (12, (.bool true)), (16, (.bool true))] ⟨rfl, rfl, rfl, rfl, rfl, rfl, rfl, rfl, rfl, rfl, rfl, rfl, trivial⟩ (fun τr2 => ?_)
 refine RA.region env_ok ?_
 refine OA.p (some 38) (.int .i64 1) rfl rfl rfl (r_bin rfl rfl rfl (b_add (i64_eq (by omega)))) ?_
 refine OA.p (some 11) (.int .i64 1) rfl rfl rfl rfl ?_
 refine OA.nil ?_
 intro _
 refine RA.unroll hd ?_
 refine RA.seq hd ?_
 refine RA.region env_ok ?_
 refine OA.p (some 12) (.bool true) rfl rfl rfl (r_bin rfl rfl rfl (b_lss rfl)) ?_
 refine OA.nil ?_
 intro _
 refine RA.seq hd ?_
 refine RA.condT rfl ?_
 refine RA.skip env_ok ?_
 intro _
 refine RA.seq hd ?_
 refine RA.block ?_
 refine RA.seq hd ?_
 refine RA.region env_ok ?_
 refine OA.p (some 13) (.int .i64 1) rfl rfl rfl rfl ?_
 refine OA.p (some 14) (Pt j 1 0) rfl rfl rfl (r_iaS (l := 1) rfl rfl rfl rfl rfl rfl (by omega) (by omega) (gt2 (by omega) hj) rfl (by omega)) ?_
 refine OA.p (some 15) (.agg ⟨xAk21⟩) rfl rfl rfl (r_loadA rfl rfl rfl rfl (gt2 (by omega) hj) rfl rfl rfl) ?_
 refine OA.op1 (dst := (some 8)) (v := (Pt n1 0 0)) (n1 := (n1 + 1)) (w := (n1, some ⟨[xAk22], 15, 54, true⟩)) rfl rfl rfl rfl (by omega) ?_
 refine OA.p (some 7) (.int .i64 1) rfl rfl rfl rfl ?_
 refine OA.op1 (dst := none) (v := (.tuple #[])) (n1 := (n1 + 1)) (w := (n1, some ⟨[xAk21], 15, 54, true⟩)) rfl rfl rfl (r_store rfl rfl rfl rfl rfl rfl rfl get_here rfl rfl (Nat.le_of_ble_eq_true rfl) rfl) (by omega) ?_
 refine OA.nil ?_
 intro _
 refine RA.weaken (D' := [(n1, some ⟨[xAk21], 15, 54, true⟩), (n, some ⟨[xAk23], 15, 54, true⟩)]) hd (Less.of (fac (mm (fun _ => get_here) (fun _ => get_here)) (fac (mm (fun _ => (get_there (by omega) get_here)) (fun _ => (gt2 (by omega) get_here))) fan)) (gone_of (by simp only [goneP, memP, List.cons_append, List.nil_append, true_or, or_true, true_and, and_true, or_false] <;> omega))) ?_
 refine RA.block ?_
 refine RA.seq hd ?_
 refine RA.region env_ok ?_
 refine OA.p (some 17) (Pt n1 0 0) rfl rfl rfl rfl ?_
 refine OA.p (some 18) (.int .i64 193) rfl rfl rfl (r_load1 rfl rfl rfl rfl rfl get_here rfl rfl) ?_
 refine OA.p (some 19) (.bool false) rfl rfl rfl (r_bin rfl rfl rfl (b_eql rfl)) ?_
 refine OA.p (some 16) (.bool false) rfl rfl rfl rfl ?_
 refine OA.nil ?_
 intro _
 refine RA.condF rfl ?_
 refine RA.seq hd ?_
 refine RA.region env_ok ?_
 refine OA.p (some 28) (.agg ⟨xAk21⟩) rfl rfl rfl (r_loadA rfl rfl rfl rfl get_here rfl rfl rfl) ?_
 refine OA.callP (dst := (some 29)) (all := [(.agg ⟨xAk21⟩)]) (v := (.bool true)) (hd.of (by omega) (kb2 (by omega))) rfl rfl rfl rfl rfl rfl rfl rfl kNeeds ?_
 intro n3 hn3
 refine OA.p (some 30) (.bool false) rfl rfl rfl rfl ?_
 refine OA.p (some 31) (.bool false) rfl rfl rfl rfl ?_
 refine OA.p (some 32) (.bool true) rfl rfl rfl rfl ?_
 refine OA.p (some 33) (.bool true) rfl rfl rfl rfl ?_
 refine OA.p (some 27) (.bool true) rfl rfl rfl rfl ?_
 refine OA.nil ?_
 intro _
 refine RA.condT rfl ?_
 refine RA.region env_ok ?_
 refine OA.p (some 34) (.slice none 0 0) rfl rfl rfl rfl ?_
 refine OA.p (some 35) (.agg ⟨xAk21⟩) rfl rfl rfl (r_loadA rfl rfl rfl rfl get_here rfl rfl rfl) ?_
 refine OA.op1 (dst := (some 36)) (v := (.slice (some ⟨n3, 0, none⟩) 1 0)) (n1 := (n3 + 1)) (w := (n3, some ⟨[xAk21], 15, 54, true⟩)) rfl rfl rfl (by kernel_rfl) (by omega) ?_
 refine OA.op1 (dst := (some 37)) (v := (.slice (some ⟨(n3 + 1), 0, none⟩) 1 0)) (n1 := (n3 + 2)) (w := ((n3 + 1), some ⟨[xAk21], 15, 54, true⟩)) rfl rfl rfl (r_append0 rfl rfl rfl rfl rfl rfl rfl rfl rfl rfl (by decide) get_here (of_decide_eq_true (by kernel_rfl))) (by omega) ?_
 refine OA.p (some 5) (.slice (some ⟨(n3 + 1), 0, none⟩) 1 0) rfl rfl rfl rfl ?_
 refine OA.nil ?_
 intro _
 refine RA.rebase [(0, (.string kB)), (1, (.slice (some ⟨j, 0, none⟩) 2 0)), (4, (.slice none 0 0)), (5, (.slice (some ⟨(n3 + 1), 0, none⟩) 1 0)), (6, (.bool true)), (7, (.int .i64 1)), (8, (Pt n1 0 0)), (9, (.slice (some ⟨j, 0, none⟩) 2 0)), (10, (.int .i64 2)), (11, (.int .i64 1)), (12, (.bool true)), (16, (.bool false)), (27, (.bool true))] ⟨rfl, rfl, rfl, rfl, rfl, rfl, rfl, rfl, rfl, rfl, rfl, rfl, rfl, trivial⟩ (fun τr4 => ?_)
 refine RA.region env_ok ?_
 refine OA.p (some 38) (.int .i64 2) rfl rfl rfl (r_bin rfl rfl rfl (b_add (i64_eq (by omega)))) ?_
 refine OA.p (some 11) (.int .i64 2) rfl rfl rfl rfl ?_
 refine OA.nil ?_
 intro _
 refine RA.unroll hd ?_
 refine RA.seq hd ?_
 refine RA.region env_ok ?_
 refine OA.p (some 12) (.bool false) rfl rfl rfl (r_bin rfl rfl rfl (b_lss rfl)) ?_
 refine OA.nil ?_
 intro _
 refine RA.seq hd ?_
 refine RA.condF rfl ?_
 refine RA.exit env_ok ?_
 intro _
 refine RA.seq hd ?_
 refine RA.region env_ok ?_
 refine OA.p (some 39) (.slice (some ⟨(n3 + 1), 0, none⟩) 1 0) rfl rfl rfl rfl ?_
 refine OA.p (some 4) (.slice (some ⟨(n3 + 1), 0, none⟩) 1 0) rfl rfl rfl rfl ?_
 refine OA.nil ?_
 intro _
 refine RA.ret env_ok ?_
 refine ⟨.inr rfl, [(.slice (some ⟨(n3 + 1), 0, none⟩) 1 0)], (resL_cons rfl resL_nil), [((n3 + 1), some ⟨[xAk21], 15, 54, true⟩)], (Less.of (fac (mm (fun _ => get_here) (fun _ => get_here)) fan) (gone_of (by simp only [goneP, memP, List.cons_append, List.nil_append, true_or, or_true, true_and, and_true, or_false] <;> omega))), ⟨(n3 + 1), by omega, by omega, rfl, rfl⟩⟩

theorem kPass1 {σ : Store} (j : Nat) (hj : σ j = some ⟨[[(.int .i64 15), (.int .i64 0), (.int .u32 0), (.int .i64 0), (.int .i64 1), (.int .u32 0), (.string (macF kB msgB)), (.int .u32 0), (.int .u32 0), (.int .i64 0), (.int .i64 0), (.slice none 0 0), (.slice none 0 0), (.slice none 0 0), (.slice none 0 0)], [(.int .i64 193), (.int .i64 0), (.int .u32 5), (.int .i64 0), (.int .i64 0), (.int .u32 0), (.string ByteArray.empty), (.int .u32 0), (.int .u32 0), (.int .i64 0), (.int .i64 0), (.slice none 0 0), (.slice none 0 0), (.slice none 0 0), (.slice none 0 0)]], 15, 54, true⟩)  : PS Try.prog noDen 35 [(.string kB), (.slice (some ⟨j, 1, none⟩) 1 0)] σ (.slice none 0 0) := by
 refine PS.body (E := env) env_ok rfl rfl (by show _ ≤ _; exact of_decide_eq_true (by kernel_rfl)) (fun n hd => ?_)
 have lhj := hd.lt hj
 refine RA.seq hd ?_
 refine RA.region env_ok ?_
 refine OA.p (some 4) (.slice none 0 0) rfl rfl rfl rfl ?_
 refine OA.nil ?_
 intro _
 refine RA.seq hd ?_
 refine RA.region env_ok ?_
 refine OA.p (some 5) (.slice none 0 0) rfl rfl rfl rfl ?_
 refine OA.nil ?_
 intro _
 refine RA.seq hd ?_
 refine RA.region env_ok ?_
 refine OA.p (some 6) (.bool false) rfl rfl rfl rfl ?_
 refine OA.nil ?_
 intro _
 refine RA.seq hd ?_
 refine RA.seq hd ?_
 refine RA.region env_ok ?_
 refine OA.p (some 9) (.slice (some ⟨j, 1, none⟩) 1 0) rfl rfl rfl rfl ?_
 refine OA.p (some 10) (.int .i64 1) rfl rfl rfl rfl ?_
 refine OA.p (some 11) (.int .i64 0) rfl rfl rfl rfl ?_
 refine OA.nil ?_
 intro _
 refine RA.block ?_
 refine RA.unroll hd ?_
 refine RA.seq hd ?_
 refine RA.region env_ok ?_
 refine OA.p (some 12) (.bool true) rfl rfl rfl (r_bin rfl rfl rfl (b_lss rfl)) ?_
 refine OA.nil ?_
 intro _
 refine RA.seq hd ?_
 refine RA.condT rfl ?_
 refine RA.skip env_ok ?_
 intro _
 refine RA.seq hd ?_
 refine RA.block ?_
 refine RA.seq hd ?_
 refine RA.region env_ok ?_
 refine OA.p (some 13) (.int .i64 0) rfl rfl rfl rfl ?_
 refine OA.p (some 14) (Pt j 1 0) rfl rfl rfl (r_iaS (l := 0) rfl rfl rfl rfl rfl rfl (by omega) (by omega) hj rfl (by omega)) ?_
 refine OA.p (some 15) (.agg ⟨xAk21⟩) rfl rfl rfl (r_loadA rfl rfl rfl rfl hj rfl rfl rfl) ?_
 refine OA.op1 (dst := (some 8)) (v := (Pt n 0 0)) (n1 := (n + 1)) (w := (n, some ⟨[xAk22], 15, 54, true⟩)) rfl rfl rfl rfl (by omega) ?_
 refine OA.p (some 7) (.int .i64 0) rfl rfl rfl rfl ?_
 refine OA.op1 (dst := none) (v := (.tuple #[])) (n1 := (n + 1)) (w := (n, some ⟨[xAk21], 15, 54, true⟩)) rfl rfl rfl (r_store rfl rfl rfl rfl rfl rfl rfl get_here rfl rfl (Nat.le_of_ble_eq_true rfl) rfl) (by omega) ?_
 refine OA.nil ?_
 intro _
 refine RA.block ?_
 refine RA.seq hd ?_
 refine RA.region env_ok ?_
 refine OA.p (some 17) (Pt n 0 0) rfl rfl rfl rfl ?_
 refine OA.p (some 18) (.int .i64 193) rfl rfl rfl (r_load1 rfl rfl rfl rfl rfl get_here rfl rfl) ?_
 refine OA.p (some 19) (.bool false) rfl rfl rfl (r_bin rfl rfl rfl (b_eql rfl)) ?_
 refine OA.p (some 16) (.bool false) rfl rfl rfl rfl ?_
 refine OA.nil ?_
 intro _
 refine RA.condF rfl ?_
 refine RA.seq hd ?_
 refine RA.region env_ok ?_
 refine OA.p (some 28) (.agg ⟨xAk21⟩) rfl rfl rfl (r_loadA rfl rfl rfl rfl get_here rfl rfl rfl) ?_
 refine OA.callP (dst := (some 29)) (all := [(.agg ⟨xAk21⟩)]) (v := (.bool true)) (hd.of (by omega) (kb2 (by omega))) rfl rfl rfl rfl rfl rfl rfl rfl kNeeds ?_
 intro n1 hn1
 refine OA.p (some 30) (.bool false) rfl rfl rfl rfl ?_
 refine OA.p (some 31) (.bool false) rfl rfl rfl rfl ?_
 refine OA.p (some 32) (.bool false) rfl rfl rfl rfl ?_
 refine OA.p (some 33) (.bool false) rfl rfl rfl rfl ?_
 refine OA.p (some 27) (.bool false) rfl rfl rfl rfl ?_
 refine OA.nil ?_
 intro _
 refine RA.condF rfl ?_
 refine RA.skip env_ok ?_
 intro _
 refine RA.region env_ok ?_
 refine OA.p (some 38) (.int .i64 1) rfl rfl rfl (r_bin rfl rfl rfl (b_add (i64_eq (by omega)))) ?_
 refine OA.p (some 11) (.int .i64 1) rfl rfl rfl rfl ?_
 refine OA.nil ?_
 intro _
 refine RA.unroll hd ?_
 refine RA.seq hd ?_
 refine RA.region env_ok ?_
 refine OA.p (some 12) (.bool false) rfl rfl rfl (r_bin rfl rfl rfl (b_lss rfl)) ?_
 refine OA.nil ?_
 intro _
 refine RA.rebase [(0, (.string kB)), (1, (.slice (some ⟨j, 1, none⟩) 1 0)), (4, (.slice none 0 0)), (5, (.slice none 0 0)), (6, (.bool false)), (7, (.int .i64 0)), (8, (Pt n 0 0)), (9, (.slice (some ⟨j, 1, none⟩) 1 0)), (10, (.int .i64 1)), (11, (.int .i64 1)), (12, (.bool false)), (16, (.bool false)), (27, (.bool false))] ⟨rfl, rfl, rfl, rfl, rfl, rfl, rfl, rfl, rfl, rfl, rfl, rfl, rfl, trivial⟩ (fun τr2 => ?_)
 refine RA.seq hd ?_
 refine RA.condF rfl ?_
 refine RA.exit env_ok ?_
 intro _
 refine RA.seq hd ?_
 refine RA.region env_ok ?_
 refine OA.p (some 39) (.slice none 0 0) rfl rfl rfl rfl ?_
 refine OA.p (some 4) (.slice none 0 0) rfl rfl rfl rfl ?_
 refine OA.nil ?_
 intro _
 refine RA.ret env_ok ?_
 refine ⟨.inr rfl, [(.slice none 0 0)], (resL_cons rfl resL_nil), rfl, (kc2 (by omega))⟩

theorem kAwake {σ : Store}    : PS Try.prog noDen 32 [] σ (.bool true) := by
 refine PS.body (E := env) env_ok rfl rfl (by show _ ≤ _; exact of_decide_eq_true (by kernel_rfl)) (fun n hd => ?_)
 refine RA.seq hd ?_
 refine RA.region env_ok ?_
 refine OA.p (some 0) (.bool false) rfl rfl rfl rfl ?_
 refine OA.nil ?_
 intro _
 refine RA.seq hd ?_
 refine RA.region env_ok ?_
 refine OA.p (some 2) (.agg ⟨xAk21⟩) rfl rfl rfl (by kernel_rfl) ?_
 refine OA.op1 (dst := (some 3)) (v := (.slice (some ⟨n, 0, none⟩) 1 0)) (n1 := (n + 1)) (w := (n, some ⟨[xAk21], 15, 54, true⟩)) rfl rfl rfl (by kernel_rfl) (by omega) ?_
 refine OA.call (dst := (some 4)) (all := [(.string kB), (.slice (some ⟨n, 0, none⟩) 1 0)]) rfl rfl rfl rfl rfl rfl rfl rfl (CQ.imp (kSign (hd.of (by omega) (kb1 (by omega))) n get_here) ?_)
 rintro _ n1 _ ⟨in1, hin1a, hin1b, rfl, rfl⟩ hn1
 refine OA.app1 ?_
 refine OA.p (some 1) (.slice (some ⟨in1, 0, none⟩) 2 0) rfl rfl rfl rfl ?_
 refine OA.nil ?_
 intro _
 refine RA.seq hd ?_
 refine RA.region env_ok ?_
 refine OA.p (some 5) (.slice (some ⟨in1, 0, none⟩) 2 0) rfl rfl rfl rfl ?_
 refine OA.p (some 6) (.int .i64 2) rfl rfl rfl rfl ?_
 refine OA.p (some 7) (.bool true) rfl rfl rfl (r_bin rfl rfl rfl (b_eql rfl)) ?_
 refine OA.p (some 8) (.bool true) rfl rfl rfl rfl ?_
 refine OA.p (some 9) (.slice (some ⟨in1, 0, none⟩) 2 0) rfl rfl rfl rfl ?_
 refine OA.call (dst := (some 10)) (all := [(.string kB), (.slice (some ⟨in1, 0, none⟩) 2 0)]) rfl rfl rfl rfl rfl rfl rfl rfl (CQ.imp (kPass2 (hd.of (by omega) (kb2 (by omega))) in1 get_here) ?_)
 rintro _ n2 _ ⟨in2, hin2a, hin2b, rfl, rfl⟩ hn2
 refine OA.app1 ?_
 refine OA.p (some 11) (.int .i64 1) rfl rfl rfl rfl ?_
 refine OA.p (some 12) (.bool true) rfl rfl rfl (r_bin rfl rfl rfl (b_eql rfl)) ?_
 refine OA.p (some 13) (.bool true) rfl rfl rfl rfl ?_
 refine OA.p (some 14) (.bool true) rfl rfl rfl rfl ?_
 refine OA.p (some 15) (.slice (some ⟨in1, 0, none⟩) 2 0) rfl rfl rfl rfl ?_
 refine OA.p (some 16) (.slice (some ⟨in1, 1, none⟩) 1 0) rfl rfl rfl (r_cutG (a := 1) (b := 2) rfl rfl (fun _ => rfl) (fun _ => rfl) rfl rfl rfl rfl rfl (get_there (by omega) get_here) rfl (by decide) ⟨.inl (Nat.le_refl _), Nat.le_of_ble_eq_true rfl⟩ (by decide) (by decide)) ?_
 refine OA.callP (dst := (some 17)) (all := [(.string kB), (.slice (some ⟨in1, 1, none⟩) 1 0)]) (v := (.slice none 0 0)) (hd.of (by omega) (kb3 (by omega))) rfl rfl rfl rfl rfl rfl rfl rfl (kPass1 in1 (get_there (by omega) get_here)) ?_
 intro n3 hn3
 refine OA.p (some 18) (.int .i64 0) rfl rfl rfl rfl ?_
 refine OA.p (some 19) (.bool true) rfl rfl rfl (r_bin rfl rfl rfl (b_eql rfl)) ?_
 refine OA.p (some 20) (.bool true) rfl rfl rfl rfl ?_
 refine OA.p (some 0) (.bool true) rfl rfl rfl rfl ?_
 refine OA.nil ?_
 intro _
 refine RA.ret env_ok ?_
 refine ⟨.inr rfl, [(.bool true)], (resL_cons rfl resL_nil), rfl, (kc3 (by omega))⟩

theorem kLaw {σ : Store} (x y : ByteArray)   : PS Try.prog noDen 13 [(.string x), (.string y)] σ (.bool true) := by
 refine PS.body (E := env) env_ok rfl rfl (by show _ ≤ _; exact of_decide_eq_true (by kernel_rfl)) (fun n hd => ?_)
 have h20x : (x.extract 0 (min x.size 20)).size ≤ 20 := by simp only [ByteArray.size_extract]; omega
 have h20y : (y.extract 0 (min y.size 20)).size ≤ 20 := by simp only [ByteArray.size_extract]; omega
 refine RA.seq hd ?_
 refine RA.region env_ok ?_
 refine OA.p (some 4) (.bool false) rfl rfl rfl rfl ?_
 refine OA.nil ?_
 intro _
 refine RA.seq hd ?_
 refine RA.par (md := [some [], some [], some [], some [], some [], some [], some [], some [], some [], some [], some [], some []]) env_ok (hd.up (by omega)) (by kernel_rfl) ?_
 refine PQ.pure (dst := (some 8)) (v := (.string x)) rfl rfl rfl noStore (none_ok _ _) rfl ?_
 refine PQ.pure (dst := (some 9)) (v := (.string x)) rfl rfl rfl noStore (none_ok _ _) rfl ?_
 refine PQ.pure (dst := (some 10)) (v := (.int .i64 ((x.size : Nat) : Int))) rfl rfl rfl noStore (none_ok _ _) rfl ?_
 refine PQ.pure (dst := (some 11)) (v := (.int .i64 (((min x.size 20) : Nat) : Int))) rfl rfl rfl noStore (none_ok _ _) (r_min (a := x.size) (b := 20) rfl rfl rfl) ?_
 refine PQ.pure (dst := (some 12)) (v := (.string (x.extract 0 (min x.size 20)))) rfl rfl rfl noStore (none_ok _ _) (r_cut (a := 0) (b := (min x.size 20)) rfl rfl (fun _ => rfl) (fun _ => rfl) rfl rfl rfl bound_nat (by omega) (by omega) rfl) ?_
 refine PQ.pure (dst := (some 13)) (v := (.string y)) rfl rfl rfl noStore (none_ok _ _) rfl ?_
 refine PQ.pure (dst := (some 14)) (v := (.string y)) rfl rfl rfl noStore (none_ok _ _) rfl ?_
 refine PQ.pure (dst := (some 15)) (v := (.int .i64 ((y.size : Nat) : Int))) rfl rfl rfl noStore (none_ok _ _) rfl ?_
 refine PQ.pure (dst := (some 16)) (v := (.int .i64 (((min y.size 20) : Nat) : Int))) rfl rfl rfl noStore (none_ok _ _) (r_min (a := y.size) (b := 20) rfl rfl rfl) ?_
 refine PQ.pure (dst := (some 17)) (v := (.string (y.extract 0 (min y.size 20)))) rfl rfl rfl noStore (none_ok _ _) (r_cut (a := 0) (b := (min y.size 20)) rfl rfl (fun _ => rfl) (fun _ => rfl) rfl rfl rfl bound_nat (by omega) (by omega) rfl) ?_
 refine PQ.pure (dst := (some 5)) (v := (.string (x.extract 0 (min x.size 20)))) rfl rfl rfl noStore (none_ok _ _) rfl ?_
 refine PQ.pure (dst := (some 6)) (v := (.string (y.extract 0 (min y.size 20)))) rfl rfl rfl noStore (none_ok _ _) rfl ?_
 refine PQ.done (d := []) (by kernel_rfl) ?_
 intro _
 refine RA.seq hd ?_
 refine RA.region env_ok ?_
 refine OA.p (some 18) (.string (x.extract 0 (min x.size 20))) rfl rfl rfl rfl ?_
 refine OA.p (some 19) (.string (y.extract 0 (min y.size 20))) rfl rfl rfl rfl ?_
 refine OA.p (some 20) (.string ((x.extract 0 (min x.size 20)) ++ (y.extract 0 (min y.size 20)))) rfl rfl rfl (r_cat rfl rfl rfl (by (try simp only [ByteArray.size_append, bstr_size, size_lit, List.size_toArray, List.length_cons, List.length_nil, List.length_take, List.length_drop, List.length_replicate]); try omega)) ?_
 refine OA.p (some 7) (.string ((x.extract 0 (min x.size 20)) ++ (y.extract 0 (min y.size 20)))) rfl rfl rfl rfl ?_
 refine OA.nil ?_
 intro _
 refine RA.seq hd ?_
 refine RA.seq hd ?_
 refine RA.region env_ok ?_
 refine OA.p (some 21) (.string (y.extract 0 (min y.size 20))) rfl rfl rfl rfl ?_
 refine OA.p (some 22) (.string (x.extract 0 (min x.size 20))) rfl rfl rfl rfl ?_
 by_cases hc1 : (bl (y.extract 0 (min y.size 20)) (x.extract 0 (min x.size 20))) = true
 ·
  refine OA.p (some 23) (.bool true) rfl rfl rfl (Eq.trans (r_lssS rfl rfl rfl) (bT hc1)) ?_
  refine OA.nil ?_
  intro _
  refine RA.condT rfl ?_
  refine RA.region env_ok ?_
  refine OA.p (some 24) (.string (y.extract 0 (min y.size 20))) rfl rfl rfl rfl ?_
  refine OA.p (some 25) (.string (x.extract 0 (min x.size 20))) rfl rfl rfl rfl ?_
  refine OA.p (some 26) (.string ((y.extract 0 (min y.size 20)) ++ (x.extract 0 (min x.size 20)))) rfl rfl rfl (r_cat rfl rfl rfl (by (try simp only [ByteArray.size_append, bstr_size, size_lit, List.size_toArray, List.length_cons, List.length_nil, List.length_take, List.length_drop, List.length_replicate]); try omega)) ?_
  refine OA.p (some 7) (.string ((y.extract 0 (min y.size 20)) ++ (x.extract 0 (min x.size 20)))) rfl rfl rfl rfl ?_
  refine OA.nil ?_
  intro _
  refine RA.seq hd ?_
  refine RA.region env_ok ?_
  refine OA.callP (dst := (some 27)) (all := []) (v := (.bool true)) (hd.up (by omega)) rfl rfl rfl rfl rfl rfl rfl rfl kAwake ?_
  intro n1 hn1
  refine OA.p (some 28) (.bool true) rfl rfl rfl rfl ?_
  refine OA.p (some 29) (.string (x.extract 0 (min x.size 20))) rfl rfl rfl rfl ?_
  refine OA.p (some 30) (.string (y.extract 0 (min y.size 20))) rfl rfl rfl rfl ?_
  refine OA.callP (dst := (some 31)) (all := [(.string (x.extract 0 (min x.size 20))), (.string (y.extract 0 (min y.size 20)))]) (v := (.string (keyF (x.extract 0 (min x.size 20)) (y.extract 0 (min y.size 20))))) (hd.up (by omega)) rfl rfl rfl rfl rfl rfl rfl rfl (kKey (x.extract 0 (min x.size 20)) (y.extract 0 (min y.size 20)) (by simp only [ByteArray.size_extract]; omega) (by simp only [ByteArray.size_extract]; omega)) ?_
  intro n2 hn2
  refine OA.p (some 32) (.string ((y.extract 0 (min y.size 20)) ++ (x.extract 0 (min x.size 20)))) rfl rfl rfl rfl ?_
  refine OA.p (some 33) (.bool true) rfl rfl rfl (Eq.trans (r_eqlS rfl rfl rfl) (by rw [decide_eq_true (keyT hc1)] <;> rfl)) ?_
  refine OA.p (some 34) (.bool true) rfl rfl rfl rfl ?_
  refine OA.p (some 35) (.bool true) rfl rfl rfl rfl ?_
  refine OA.p (some 36) (.string (y.extract 0 (min y.size 20))) rfl rfl rfl rfl ?_
  refine OA.p (some 37) (.string (x.extract 0 (min x.size 20))) rfl rfl rfl rfl ?_
  refine OA.callP (dst := (some 38)) (all := [(.string (y.extract 0 (min y.size 20))), (.string (x.extract 0 (min x.size 20)))]) (v := (.string (keyF (y.extract 0 (min y.size 20)) (x.extract 0 (min x.size 20))))) (hd.up (by omega)) rfl rfl rfl rfl rfl rfl rfl rfl (kKey (y.extract 0 (min y.size 20)) (x.extract 0 (min x.size 20)) (by simp only [ByteArray.size_extract]; omega) (by simp only [ByteArray.size_extract]; omega)) ?_
  intro n3 hn3
  refine OA.p (some 39) (.string ((y.extract 0 (min y.size 20)) ++ (x.extract 0 (min x.size 20)))) rfl rfl rfl rfl ?_
  refine OA.p (some 40) (.bool true) rfl rfl rfl (Eq.trans (r_eqlS rfl rfl rfl) (by rw [decide_eq_true ((keyF_comm _ _).trans <| keyT hc1)] <;> rfl)) ?_
  refine OA.p (some 41) (.bool true) rfl rfl rfl rfl ?_
  refine OA.p (some 4) (.bool true) rfl rfl rfl rfl ?_
  refine OA.nil ?_
  intro _
  refine RA.rebase [(0, (.string x)), (1, (.string y)), (4, (.bool true)), (5, (.string (x.extract 0 (min x.size 20)))), (6, (.string (y.extract 0 (min y.size 20)))), (7, (.string ((y.extract 0 (min y.size 20)) ++ (x.extract 0 (min x.size 20))))), (23, (.bool true))] ⟨rfl, rfl, rfl, rfl, rfl, rfl, rfl, trivial⟩ (fun τr4 => ?_)
  refine RA.ret env_ok ?_
  refine ⟨.inr rfl, [(.bool true)], (resL_cons rfl resL_nil), rfl, (fun i hi => by cases hi)⟩
 ·
  refine OA.p (some 23) (.bool false) rfl rfl rfl (Eq.trans (r_lssS rfl rfl rfl) (bF hc1)) ?_
  refine OA.nil ?_
  intro _
  refine RA.condF rfl ?_
  refine RA.skip env_ok ?_
  intro _
  refine RA.seq hd ?_
  refine RA.region env_ok ?_
  refine OA.callP (dst := (some 27)) (all := []) (v := (.bool true)) (hd.up (by omega)) rfl rfl rfl rfl rfl rfl rfl rfl kAwake ?_
  intro n5 hn5
  refine OA.p (some 28) (.bool true) rfl rfl rfl rfl ?_
  refine OA.p (some 29) (.string (x.extract 0 (min x.size 20))) rfl rfl rfl rfl ?_
  refine OA.p (some 30) (.string (y.extract 0 (min y.size 20))) rfl rfl rfl rfl ?_
  refine OA.callP (dst := (some 31)) (all := [(.string (x.extract 0 (min x.size 20))), (.string (y.extract 0 (min y.size 20)))]) (v := (.string (keyF (x.extract 0 (min x.size 20)) (y.extract 0 (min y.size 20))))) (hd.up (by omega)) rfl rfl rfl rfl rfl rfl rfl rfl (kKey (x.extract 0 (min x.size 20)) (y.extract 0 (min y.size 20)) (by simp only [ByteArray.size_extract]; omega) (by simp only [ByteArray.size_extract]; omega)) ?_
  intro n6 hn6
  refine OA.p (some 32) (.string ((x.extract 0 (min x.size 20)) ++ (y.extract 0 (min y.size 20)))) rfl rfl rfl rfl ?_
  refine OA.p (some 33) (.bool true) rfl rfl rfl (Eq.trans (r_eqlS rfl rfl rfl) (by rw [decide_eq_true (keyN hc1)] <;> rfl)) ?_
  refine OA.p (some 34) (.bool true) rfl rfl rfl rfl ?_
  refine OA.p (some 35) (.bool true) rfl rfl rfl rfl ?_
  refine OA.p (some 36) (.string (y.extract 0 (min y.size 20))) rfl rfl rfl rfl ?_
  refine OA.p (some 37) (.string (x.extract 0 (min x.size 20))) rfl rfl rfl rfl ?_
  refine OA.callP (dst := (some 38)) (all := [(.string (y.extract 0 (min y.size 20))), (.string (x.extract 0 (min x.size 20)))]) (v := (.string (keyF (y.extract 0 (min y.size 20)) (x.extract 0 (min x.size 20))))) (hd.up (by omega)) rfl rfl rfl rfl rfl rfl rfl rfl (kKey (y.extract 0 (min y.size 20)) (x.extract 0 (min x.size 20)) (by simp only [ByteArray.size_extract]; omega) (by simp only [ByteArray.size_extract]; omega)) ?_
  intro n7 hn7
  refine OA.p (some 39) (.string ((x.extract 0 (min x.size 20)) ++ (y.extract 0 (min y.size 20)))) rfl rfl rfl rfl ?_
  refine OA.p (some 40) (.bool true) rfl rfl rfl (Eq.trans (r_eqlS rfl rfl rfl) (by rw [decide_eq_true ((keyF_comm _ _).trans <| keyN hc1)] <;> rfl)) ?_
  refine OA.p (some 41) (.bool true) rfl rfl rfl rfl ?_
  refine OA.p (some 4) (.bool true) rfl rfl rfl rfl ?_
  refine OA.nil ?_
  intro _
  refine RA.rebase [(0, (.string x)), (1, (.string y)), (4, (.bool true)), (5, (.string (x.extract 0 (min x.size 20)))), (6, (.string (y.extract 0 (min y.size 20)))), (7, (.string ((x.extract 0 (min x.size 20)) ++ (y.extract 0 (min y.size 20))))), (23, (.bool false))] ⟨rfl, rfl, rfl, rfl, rfl, rfl, rfl, trivial⟩ (fun τr8 => ?_)
  refine RA.ret env_ok ?_
  refine ⟨.inr rfl, [(.bool true)], (resL_cons rfl resL_nil), rfl, (fun i hi => by cases hi)⟩
end Go.Proofs.Ytdnkhdkflemkeaa.Vt
