/- Ra1: walks through functions of the program, by the calculus; written by a program of this workplace. -/
import Derived.Test.YtgajcmanompmcaaRc1
import Derived.Test.YtgajcmanompmcaaVm5
namespace Go.Proofs.Ytgajcmanompmcaa.Vt
open Go Go.Proofs Go.Proofs.YtgajcmanompmcaaV
set_option maxRecDepth 100000
set_option linter.unusedVariables false
set_option linter.unusedSimpArgs false
theorem w_ne1 (x : BitVec 32) : ¬ (((x + 1#32).toNat : Int) = (x.toNat : Int)) := by
  intro h
  rw [BitVec.toNat_add] at h
  have := x.isLt
  simp at h
  omega
theorem t4_bounds {z : Int} (h : -9223372036854775808 ≤ z ∧ z ≤ 9223372036854775807) : -9223372036854775808 ≤ z.tdiv 4 ∧ z.tdiv 4 ≤ 9223372036854775807 := by
  have h1 := Int.tdiv_eq_ediv (a := z) (b := 4)
  rw [show Int.sign 4 = 1 from rfl] at h1
  split at h1 <;> (try simp at h1) <;> omega
theorem mem_getD {l : List I1} {i : Nat} (h : i < l.length) : l.getD i dI1 ∈ l := by
  rw [List.getD_eq_getElem?_getD, List.getElem?_eq_getElem h]
  exact List.getElem_mem h
abbrev xRa11 (nx : BitVec 32) (n2 : Nat) : List Value := [(.int .i64 130), (.int .i64 0), (W nx), (.int .i64 0), (.int .i64 0), (.int .u32 0), (.string ByteArray.empty), (.int .u32 0), (.int .u32 0), (.int .i64 0), (.int .i64 0), (.slice (some ⟨n2, 0, none⟩) 1 0), (.slice none 0 0), (.slice none 0 0), (.slice none 0 0)]
abbrev xRa12 (id : BitVec 32) (k : Nat) : List Value := [(.int .i64 130), (.int .i64 0), (W id), (.int .i64 0), (.int .i64 0), (.int .u32 0), (.string ByteArray.empty), (.int .u32 0), (.int .u32 0), (.int .i64 0), (.int .i64 0), (.slice (some ⟨k, 0, none⟩) 1 0), (.slice none 0 0), (.slice none 0 0), (.slice none 0 0)]
abbrev xRa13 : List Value := [(.int .i64 0), (.int .i64 0), (.int .u32 0), (.int .i64 0), (.int .i64 0), (.int .u32 0), (.string ByteArray.empty), (.int .u32 0), (.int .u32 0), (.int .i64 0), (.int .i64 0), (.slice none 0 0), (.slice none 0 0), (.slice none 0 0), (.slice none 0 0)]
abbrev xRa14 (want : Nat) (nx : BitVec 32) (at_ : Int) (mn : Nat) : List Value := [(.int .i64 ((want : Nat) : Int)), (W nx), (.int .i64 at_), (.int .i64 (((mn + 1) : Nat) : Int)), (W 0#32), (.int .i64 0)]
abbrev xRa15 (want : Nat) (nx : BitVec 32) (now : Int) (mn : Nat) : List Value := [(.int .i64 ((want : Nat) : Int)), (W nx), (.int .i64 now), (.int .i64 (((mn + 1) : Nat) : Int)), (W 0#32), (.int .i64 0)]
abbrev xRa16 (nx : BitVec 32) (at_ : Int) (mn : Nat) : List Value := [(.int .i64 0), (W (nx + (1#32))), (.int .i64 at_), (.int .i64 ((mn : Nat) : Int)), (W 0#32), (.int .i64 0)]
abbrev xRa17 (nx : BitVec 32) (at_ : Int) (mn : Nat) : List Value := [(.int .i64 0), (W nx), (.int .i64 at_), (.int .i64 ((mn : Nat) : Int)), (W 0#32), (.int .i64 0)]
theorem aWant {σ : Store} (b : Nat) (want mn : Nat) (nx : BitVec 32) (at_ : Int) (hb : σ b = some ⟨[[(.int .i64 ((want : Nat) : Int)), (W nx), (.int .i64 at_), (.int .i64 ((mn : Nat) : Int)), (W 0#32), (.int .i64 0)]], 6, 94, true⟩)  : PS Try.prog noDen 31 [(Pt b 0 0)] σ (.int .i64 ((want : Nat) : Int)) := by
 refine PS.body (E := env) env_ok rfl rfl (by show _ ≤ _; exact of_decide_eq_true (by kernel_rfl)) (fun n hd => ?_)
 have lhb := hd.lt hb
 refine RA.seq hd ?_
 refine RA.region env_ok ?_
 refine OA.p (some 2) (.int .i64 0) rfl rfl rfl rfl ?_
 refine OA.nil ?_
 intro _
 refine RA.seq hd ?_
 refine RA.seq hd ?_
 refine RA.region env_ok ?_
 refine OA.p (some 3) (Pt b 0 0) rfl rfl rfl rfl ?_
 refine OA.p (some 4) (.bool false) rfl rfl rfl rfl ?_
 refine OA.nil ?_
 intro _
 refine RA.condF rfl ?_
 refine RA.skip env_ok ?_
 intro _
 refine RA.seq hd ?_
 refine RA.region env_ok ?_
 refine OA.p (some 5) (Pt b 0 0) rfl rfl rfl rfl ?_
 refine OA.p (some 6) (Pt b 0 0) rfl rfl rfl rfl ?_
 refine OA.p (some 7) (Pt b 0 0) rfl rfl rfl rfl ?_
 refine OA.p (some 8) (.int .i64 ((want : Nat) : Int)) rfl rfl rfl (r_load1 rfl rfl rfl rfl rfl hb rfl rfl) ?_
 refine OA.p (some 2) (.int .i64 ((want : Nat) : Int)) rfl rfl rfl rfl ?_
 refine OA.nil ?_
 intro _
 refine RA.ret env_ok ?_
 refine ⟨.inr rfl, [(.int .i64 ((want : Nat) : Int))], (resL_cons rfl resL_nil), rfl, (fun i hi => by cases hi)⟩

theorem aTimes {σ : Store} (b : Nat) (want mn : Nat) (nx : BitVec 32) (at_ : Int) (tm : Nat) (h0 : want = 0 → tm = 0) (h1 : want ≠ 0 → tm = mn) (hb : σ b = some ⟨[[(.int .i64 ((want : Nat) : Int)), (W nx), (.int .i64 at_), (.int .i64 ((mn : Nat) : Int)), (W 0#32), (.int .i64 0)]], 6, 94, true⟩)  : PS Try.prog noDen 32 [(Pt b 0 0)] σ (.int .i64 ((tm : Nat) : Int)) := by
 refine PS.body (E := env) env_ok rfl rfl (by show _ ≤ _; exact of_decide_eq_true (by kernel_rfl)) (fun n hd => ?_)
 have lhb := hd.lt hb
 refine RA.seq hd ?_
 refine RA.region env_ok ?_
 refine OA.p (some 2) (.int .i64 0) rfl rfl rfl rfl ?_
 refine OA.nil ?_
 intro _
 refine RA.seq hd ?_
 refine RA.seq hd ?_
 refine RA.region env_ok ?_
 refine OA.p (some 3) (Pt b 0 0) rfl rfl rfl rfl ?_
 refine OA.p (some 4) (.bool false) rfl rfl rfl rfl ?_
 refine OA.p (some 5) (.bool false) rfl rfl rfl rfl ?_
 refine OA.p (some 6) (Pt b 0 0) rfl rfl rfl rfl ?_
 refine OA.p (some 7) (Pt b 0 0) rfl rfl rfl rfl ?_
 refine OA.p (some 8) (Pt b 0 0) rfl rfl rfl rfl ?_
 refine OA.p (some 9) (.int .i64 ((want : Nat) : Int)) rfl rfl rfl (r_load1 rfl rfl rfl rfl rfl hb rfl rfl) ?_
 by_cases hc1 : ((want : Nat) : Int) = 0
 ·
  refine OA.p (some 10) (.bool true) rfl rfl rfl (Eq.trans (r_bin rfl rfl rfl (b_eql rfl)) (dT hc1)) ?_
  refine OA.p (some 11) (.bool true) rfl rfl rfl rfl ?_
  refine OA.nil ?_
  intro _
  refine RA.condT rfl ?_
  refine RA.seq hd ?_
  refine RA.region env_ok ?_
  refine OA.p (some 2) (.int .i64 0) rfl rfl rfl rfl ?_
  refine OA.nil ?_
  intro _
  refine RA.ret env_ok ?_
  refine ⟨.inr rfl, [(.int .i64 0)], (resL_cons rfl resL_nil), (by rw [h0 (by omega)]; rfl), (fun i hi => by cases hi)⟩
 ·
  refine OA.p (some 10) (.bool false) rfl rfl rfl (Eq.trans (r_bin rfl rfl rfl (b_eql rfl)) (dF hc1)) ?_
  refine OA.p (some 11) (.bool false) rfl rfl rfl rfl ?_
  refine OA.nil ?_
  intro _
  refine RA.condF rfl ?_
  refine RA.skip env_ok ?_
  intro _
  refine RA.seq hd ?_
  refine RA.region env_ok ?_
  refine OA.p (some 12) (Pt b 0 0) rfl rfl rfl rfl ?_
  refine OA.p (some 13) (Pt b 0 0) rfl rfl rfl rfl ?_
  refine OA.p (some 14) (Pt b 0 3) rfl rfl rfl rfl ?_
  refine OA.p (some 15) (.int .i64 ((mn : Nat) : Int)) rfl rfl rfl (r_load1 rfl rfl rfl rfl rfl hb rfl rfl) ?_
  refine OA.p (some 2) (.int .i64 ((mn : Nat) : Int)) rfl rfl rfl rfl ?_
  refine OA.nil ?_
  intro _
  refine RA.ret env_ok ?_
  refine ⟨.inr rfl, [(.int .i64 ((mn : Nat) : Int))], (resL_cons rfl resL_nil), (by rw [h1 (by omega)]; rfl), (fun i hi => by cases hi)⟩

theorem aAt0 {σ : Store} (b : Nat) (want mn : Nat) (nx : BitVec 32) (at_ : Int) (tm : Nat) (h0 : want = 0 → tm = 0) (h1 : want ≠ 0 → tm = mn) (ht : tm = 0) (hb : σ b = some ⟨[[(.int .i64 ((want : Nat) : Int)), (W nx), (.int .i64 at_), (.int .i64 ((mn : Nat) : Int)), (W 0#32), (.int .i64 0)]], 6, 94, true⟩)  : PS Try.prog noDen 30 [(Pt b 0 0)] σ (.tuple ⟨[(.int .i64 0), (.bool false)]⟩) := by
 refine PS.body (E := env) env_ok rfl rfl (by show _ ≤ _; exact of_decide_eq_true (by kernel_rfl)) (fun n hd => ?_)
 have lhb := hd.lt hb
 refine RA.seq hd ?_
 refine RA.region env_ok ?_
 refine OA.p (some 2) (.int .i64 0) rfl rfl rfl rfl ?_
 refine OA.p (some 3) (.bool false) rfl rfl rfl rfl ?_
 refine OA.nil ?_
 intro _
 refine RA.seq hd ?_
 refine RA.seq hd ?_
 refine RA.region env_ok ?_
 refine OA.p (some 4) (Pt b 0 0) rfl rfl rfl rfl ?_
 refine OA.callP (dst := (some 5)) (all := [(Pt b 0 0)]) (v := (.int .i64 ((tm : Nat) : Int))) (hd.up (by omega)) rfl rfl rfl rfl rfl rfl rfl rfl (aTimes b want mn nx at_ tm h0 h1 hb) ?_
 intro n1 hn1
 have hc1 : ((tm : Nat) : Int) = 0 := Classical.byContradiction (fun hdd => by exfalso; omega)
 refine OA.p (some 6) (.bool true) rfl rfl rfl (Eq.trans (r_bin rfl rfl rfl (b_eql rfl)) (dT hc1)) ?_
 refine OA.nil ?_
 intro _
 refine RA.condT rfl ?_
 refine RA.seq hd ?_
 refine RA.region env_ok ?_
 refine OA.p (some 2) (.int .i64 0) rfl rfl rfl rfl ?_
 refine OA.p (some 3) (.bool false) rfl rfl rfl rfl ?_
 refine OA.nil ?_
 intro _
 refine RA.ret env_ok ?_
 refine ⟨.inr rfl, [(.int .i64 0), (.bool false)], (resL_cons rfl (resL_cons rfl resL_nil)), rfl, (fun i hi => by cases hi)⟩

theorem aAt1 {σ : Store} (b : Nat) (want mn : Nat) (nx : BitVec 32) (at_ : Int) (tm : Nat) (h0 : want = 0 → tm = 0) (h1 : want ≠ 0 → tm = mn) (ht : tm ≠ 0) (hb : σ b = some ⟨[[(.int .i64 ((want : Nat) : Int)), (W nx), (.int .i64 at_), (.int .i64 ((mn : Nat) : Int)), (W 0#32), (.int .i64 0)]], 6, 94, true⟩)  : PS Try.prog noDen 30 [(Pt b 0 0)] σ (.tuple ⟨[(.int .i64 at_), (.bool true)]⟩) := by
 refine PS.body (E := env) env_ok rfl rfl (by show _ ≤ _; exact of_decide_eq_true (by kernel_rfl)) (fun n hd => ?_)
 have lhb := hd.lt hb
 refine RA.seq hd ?_
 refine RA.region env_ok ?_
 refine OA.p (some 2) (.int .i64 0) rfl rfl rfl rfl ?_
 refine OA.p (some 3) (.bool false) rfl rfl rfl rfl ?_
 refine OA.nil ?_
 intro _
 refine RA.seq hd ?_
 refine RA.seq hd ?_
 refine RA.region env_ok ?_
 refine OA.p (some 4) (Pt b 0 0) rfl rfl rfl rfl ?_
 refine OA.callP (dst := (some 5)) (all := [(Pt b 0 0)]) (v := (.int .i64 ((tm : Nat) : Int))) (hd.up (by omega)) rfl rfl rfl rfl rfl rfl rfl rfl (aTimes b want mn nx at_ tm h0 h1 hb) ?_
 intro n1 hn1
 have hc1 : ¬ (((tm : Nat) : Int) = 0) := fun hdd => by exfalso; omega
 refine OA.p (some 6) (.bool false) rfl rfl rfl (Eq.trans (r_bin rfl rfl rfl (b_eql rfl)) (dF hc1)) ?_
 refine OA.nil ?_
 intro _
 refine RA.condF rfl ?_
 refine RA.skip env_ok ?_
 intro _
 refine RA.seq hd ?_
 refine RA.region env_ok ?_
 refine OA.p (some 7) (Pt b 0 0) rfl rfl rfl rfl ?_
 refine OA.p (some 8) (Pt b 0 0) rfl rfl rfl rfl ?_
 refine OA.p (some 9) (Pt b 0 2) rfl rfl rfl rfl ?_
 refine OA.p (some 10) (.int .i64 at_) rfl rfl rfl (r_load1 rfl rfl rfl rfl rfl hb rfl rfl) ?_
 refine OA.p (some 2) (.int .i64 at_) rfl rfl rfl rfl ?_
 refine OA.p (some 3) (.bool true) rfl rfl rfl rfl ?_
 refine OA.nil ?_
 intro _
 refine RA.ret env_ok ?_
 refine ⟨.inr rfl, [(.int .i64 at_), (.bool true)], (resL_cons rfl (resL_cons rfl resL_nil)), rfl, (fun i hi => by cases hi)⟩

theorem aAskX {n : Nat} {σ : Store} (hd : Dom n σ) (b : Nat) (want mn : Nat) (nx : BitVec 32) (at_ : Int) (y : Int) (hy : y < 1 ∨ 16 < y) (hb : σ b = some ⟨[[(.int .i64 ((want : Nat) : Int)), (W nx), (.int .i64 at_), (.int .i64 ((mn : Nat) : Int)), (W 0#32), (.int .i64 0)]], 6, 94, true⟩)  : CQ Try.prog noDen 27 [(Pt b 0 0), (.int .i64 y)] n σ (fun v n' d => v = .int .i64 1 ∧ d = []) := by
 have lhb := hd.lt hb
 refine CQ.body (E := env) env_ok hd rfl rfl (by show _ ≤ _; exact of_decide_eq_true (by kernel_rfl)) ?_
 refine RA.seq hd ?_
 refine RA.region env_ok ?_
 refine OA.p (some 4) (.int .i64 0) rfl rfl rfl rfl ?_
 refine OA.nil ?_
 intro _
 refine RA.seq hd ?_
 refine RA.block ?_
 refine RA.seq hd ?_
 refine RA.region env_ok ?_
 refine OA.p (some 6) (Pt b 0 0) rfl rfl rfl rfl ?_
 refine OA.p (some 7) (.bool false) rfl rfl rfl rfl ?_
 refine OA.p (some 8) (.bool false) rfl rfl rfl rfl ?_
 refine OA.p (some 9) (.int .i64 y) rfl rfl rfl rfl ?_
 by_cases hc1 : y < 1
 ·
  refine OA.p (some 10) (.bool true) rfl rfl rfl (Eq.trans (r_bin rfl rfl rfl (b_lss rfl)) (dT hc1)) ?_
  refine OA.p (some 11) (.bool true) rfl rfl rfl rfl ?_
  refine OA.p (some 12) (.bool true) rfl rfl rfl rfl ?_
  refine OA.off (dst := (some 13)) rfl rfl rfl ?_
  refine OA.off (dst := (some 14)) rfl rfl rfl ?_
  refine OA.p (some 15) (.bool true) rfl rfl rfl rfl ?_
  refine OA.p (some 5) (.bool true) rfl rfl rfl rfl ?_
  refine OA.nil ?_
  intro _
  refine RA.condT rfl ?_
  refine RA.seq hd ?_
  refine RA.region env_ok ?_
  refine OA.p (some 4) (.int .i64 1) rfl rfl rfl rfl ?_
  refine OA.nil ?_
  intro _
  refine RA.ret env_ok ?_
  refine ⟨.inr rfl, [(.int .i64 1)], (resL_cons rfl resL_nil), [], (Less.refl _ _ _), ⟨rfl, rfl⟩⟩
 ·
  refine OA.p (some 10) (.bool false) rfl rfl rfl (Eq.trans (r_bin rfl rfl rfl (b_lss rfl)) (dF hc1)) ?_
  refine OA.p (some 11) (.bool false) rfl rfl rfl rfl ?_
  refine OA.p (some 12) (.bool false) rfl rfl rfl rfl ?_
  refine OA.p (some 13) (.int .i64 y) rfl rfl rfl rfl ?_
  have hc2 : 16 < y := Classical.byContradiction (fun hdd => by exfalso; omega)
  refine OA.p (some 14) (.bool true) rfl rfl rfl (Eq.trans (r_bin rfl rfl rfl (b_gtr rfl)) (dT hc2)) ?_
  refine OA.p (some 15) (.bool true) rfl rfl rfl rfl ?_
  refine OA.p (some 5) (.bool true) rfl rfl rfl rfl ?_
  refine OA.nil ?_
  intro _
  refine RA.condT rfl ?_
  refine RA.seq hd ?_
  refine RA.region env_ok ?_
  refine OA.p (some 4) (.int .i64 1) rfl rfl rfl rfl ?_
  refine OA.nil ?_
  intro _
  refine RA.ret env_ok ?_
  refine ⟨.inr rfl, [(.int .i64 1)], (resL_cons rfl resL_nil), [], (Less.refl _ _ _), ⟨rfl, rfl⟩⟩

theorem aAskF {n : Nat} {σ : Store} (hd : Dom n σ) (b : Nat) (want mn : Nat) (nx : BitVec 32) (at_ : Int) (y : Int) (hy : ¬ y < 1) (hy2 : ¬ 16 < y) (hw : want ≠ 0) (hb : σ b = some ⟨[[(.int .i64 ((want : Nat) : Int)), (W nx), (.int .i64 at_), (.int .i64 ((mn : Nat) : Int)), (W 0#32), (.int .i64 0)]], 6, 94, true⟩)  : CQ Try.prog noDen 27 [(Pt b 0 0), (.int .i64 y)] n σ (fun v n' d => v = .int .i64 6 ∧ d = []) := by
 have lhb := hd.lt hb
 refine CQ.body (E := env) env_ok hd rfl rfl (by show _ ≤ _; exact of_decide_eq_true (by kernel_rfl)) ?_
 refine RA.seq hd ?_
 refine RA.region env_ok ?_
 refine OA.p (some 4) (.int .i64 0) rfl rfl rfl rfl ?_
 refine OA.nil ?_
 intro _
 refine RA.seq hd ?_
 refine RA.block ?_
 refine RA.seq hd ?_
 refine RA.region env_ok ?_
 refine OA.p (some 6) (Pt b 0 0) rfl rfl rfl rfl ?_
 refine OA.p (some 7) (.bool false) rfl rfl rfl rfl ?_
 refine OA.p (some 8) (.bool false) rfl rfl rfl rfl ?_
 refine OA.p (some 9) (.int .i64 y) rfl rfl rfl rfl ?_
 have hc1 : ¬ (y < 1) := fun hdd => by exfalso; omega
 refine OA.p (some 10) (.bool false) rfl rfl rfl (Eq.trans (r_bin rfl rfl rfl (b_lss rfl)) (dF hc1)) ?_
 refine OA.p (some 11) (.bool false) rfl rfl rfl rfl ?_
 refine OA.p (some 12) (.bool false) rfl rfl rfl rfl ?_
 refine OA.p (some 13) (.int .i64 y) rfl rfl rfl rfl ?_
 have hc2 : ¬ (16 < y) := fun hdd => by exfalso; omega
 refine OA.p (some 14) (.bool false) rfl rfl rfl (Eq.trans (r_bin rfl rfl rfl (b_gtr rfl)) (dF hc2)) ?_
 refine OA.p (some 15) (.bool false) rfl rfl rfl rfl ?_
 refine OA.p (some 5) (.bool false) rfl rfl rfl rfl ?_
 refine OA.nil ?_
 intro _
 refine RA.condF rfl ?_
 refine RA.seq hd ?_
 refine RA.region env_ok ?_
 refine OA.p (some 17) (Pt b 0 0) rfl rfl rfl rfl ?_
 refine OA.p (some 18) (Pt b 0 0) rfl rfl rfl rfl ?_
 refine OA.p (some 19) (Pt b 0 0) rfl rfl rfl rfl ?_
 refine OA.p (some 20) (.int .i64 ((want : Nat) : Int)) rfl rfl rfl (r_load1 rfl rfl rfl rfl rfl hb rfl rfl) ?_
 have hc3 : 0 < ((want : Nat) : Int) := Classical.byContradiction (fun hdd => by exfalso; omega)
 refine OA.p (some 21) (.bool true) rfl rfl rfl (Eq.trans (r_bin rfl rfl rfl (b_gtr rfl)) (dT hc3)) ?_
 refine OA.p (some 16) (.bool true) rfl rfl rfl rfl ?_
 refine OA.nil ?_
 intro _
 refine RA.condT rfl ?_
 refine RA.seq hd ?_
 refine RA.region env_ok ?_
 refine OA.p (some 4) (.int .i64 6) rfl rfl rfl rfl ?_
 refine OA.nil ?_
 intro _
 refine RA.ret env_ok ?_
 refine ⟨.inr rfl, [(.int .i64 6)], (resL_cons rfl resL_nil), [], (Less.refl _ _ _), ⟨rfl, rfl⟩⟩

theorem aAsk0 {n : Nat} {σ : Store} (hd : Dom n σ) (b : Nat) (want mn : Nat) (nx : BitVec 32) (at_ : Int) (a : Nat) (ha : 1 ≤ a ∧ a ≤ 16) (hw : want = 0) (hb : σ b = some ⟨[[(.int .i64 ((want : Nat) : Int)), (W nx), (.int .i64 at_), (.int .i64 ((mn : Nat) : Int)), (W 0#32), (.int .i64 0)]], 6, 94, true⟩)  : CQ Try.prog noDen 27 [(Pt b 0 0), (.int .i64 ((a : Nat) : Int))] n σ (fun v n' d => v = .int .i64 0 ∧ d = [(b, some ⟨[[(.int .i64 ((a : Nat) : Int)), (W nx), (.int .i64 at_), (.int .i64 0), (W 0#32), (.int .i64 0)]], 6, 94, true⟩)]) := by
 have lhb := hd.lt hb
 refine CQ.body (E := env) env_ok hd rfl rfl (by show _ ≤ _; exact of_decide_eq_true (by kernel_rfl)) ?_
 refine RA.seq hd ?_
 refine RA.region env_ok ?_
 refine OA.p (some 4) (.int .i64 0) rfl rfl rfl rfl ?_
 refine OA.nil ?_
 intro _
 refine RA.seq hd ?_
 refine RA.block ?_
 refine RA.seq hd ?_
 refine RA.region env_ok ?_
 refine OA.p (some 6) (Pt b 0 0) rfl rfl rfl rfl ?_
 refine OA.p (some 7) (.bool false) rfl rfl rfl rfl ?_
 refine OA.p (some 8) (.bool false) rfl rfl rfl rfl ?_
 refine OA.p (some 9) (.int .i64 ((a : Nat) : Int)) rfl rfl rfl rfl ?_
 have hc1 : ¬ (((a : Nat) : Int) < 1) := fun hdd => by exfalso; omega
 refine OA.p (some 10) (.bool false) rfl rfl rfl (Eq.trans (r_bin rfl rfl rfl (b_lss rfl)) (dF hc1)) ?_
 refine OA.p (some 11) (.bool false) rfl rfl rfl rfl ?_
 refine OA.p (some 12) (.bool false) rfl rfl rfl rfl ?_
 refine OA.p (some 13) (.int .i64 ((a : Nat) : Int)) rfl rfl rfl rfl ?_
 have hc2 : ¬ (16 < ((a : Nat) : Int)) := fun hdd => by exfalso; omega
 refine OA.p (some 14) (.bool false) rfl rfl rfl (Eq.trans (r_bin rfl rfl rfl (b_gtr rfl)) (dF hc2)) ?_
 refine OA.p (some 15) (.bool false) rfl rfl rfl rfl ?_
 refine OA.p (some 5) (.bool false) rfl rfl rfl rfl ?_
 refine OA.nil ?_
 intro _
 refine RA.condF rfl ?_
 refine RA.seq hd ?_
 refine RA.region env_ok ?_
 refine OA.p (some 17) (Pt b 0 0) rfl rfl rfl rfl ?_
 refine OA.p (some 18) (Pt b 0 0) rfl rfl rfl rfl ?_
 refine OA.p (some 19) (Pt b 0 0) rfl rfl rfl rfl ?_
 refine OA.p (some 20) (.int .i64 ((want : Nat) : Int)) rfl rfl rfl (r_load1 rfl rfl rfl rfl rfl hb rfl rfl) ?_
 have hc3 : ¬ (0 < ((want : Nat) : Int)) := fun hdd => by exfalso; omega
 refine OA.p (some 21) (.bool false) rfl rfl rfl (Eq.trans (r_bin rfl rfl rfl (b_gtr rfl)) (dF hc3)) ?_
 refine OA.p (some 16) (.bool false) rfl rfl rfl rfl ?_
 refine OA.nil ?_
 intro _
 refine RA.condF rfl ?_
 refine RA.skip env_ok ?_
 intro _
 refine RA.seq hd ?_
 refine RA.region env_ok ?_
 refine OA.p (some 22) (Pt b 0 0) rfl rfl rfl rfl ?_
 refine OA.p (some 23) (Pt b 0 0) rfl rfl rfl rfl ?_
 refine OA.p (some 24) (.int .i64 ((a : Nat) : Int)) rfl rfl rfl rfl ?_
 refine OA.p (some 25) (Pt b 0 0) rfl rfl rfl rfl ?_
 refine OA.p (some 26) (Pt b 0 0) rfl rfl rfl rfl ?_
 refine OA.op1 (dst := none) (v := (.tuple #[])) (n1 := n) (w := (b, some ⟨[[(.int .i64 ((a : Nat) : Int)), (W nx), (.int .i64 at_), (.int .i64 ((mn : Nat) : Int)), (W 0#32), (.int .i64 0)]], 6, 94, true⟩)) rfl rfl rfl (r_store rfl rfl rfl rfl rfl rfl rfl hb rfl rfl (Nat.le_of_ble_eq_true rfl) rfl) (by omega) ?_
 refine OA.p (some 27) (Pt b 0 0) rfl rfl rfl rfl ?_
 refine OA.p (some 28) (Pt b 0 3) rfl rfl rfl rfl ?_
 refine OA.op1 (dst := none) (v := (.tuple #[])) (n1 := n) (w := (b, some ⟨[[(.int .i64 ((a : Nat) : Int)), (W nx), (.int .i64 at_), (.int .i64 0), (W 0#32), (.int .i64 0)]], 6, 94, true⟩)) rfl rfl rfl (r_store rfl rfl rfl rfl rfl rfl rfl get_here rfl rfl (Nat.le_of_ble_eq_true rfl) rfl) (by omega) ?_
 refine OA.nil ?_
 intro _
 refine RA.rebase [(0, (Pt b 0 0)), (1, (.int .i64 ((a : Nat) : Int))), (4, (.int .i64 0)), (5, (.bool false)), (16, (.bool false))] ⟨rfl, rfl, rfl, rfl, rfl, trivial⟩ (fun τr1 => ?_)
 refine RA.seq hd ?_
 refine RA.region env_ok ?_
 refine OA.p (some 4) (.int .i64 0) rfl rfl rfl rfl ?_
 refine OA.nil ?_
 intro _
 refine RA.ret env_ok ?_
 refine ⟨.inr rfl, [(.int .i64 0)], (resL_cons rfl resL_nil), [(b, some ⟨[[(.int .i64 ((a : Nat) : Int)), (W nx), (.int .i64 at_), (.int .i64 0), (W 0#32), (.int .i64 0)]], 6, 94, true⟩)], (Less.of (fac (mm (fun _ => get_here) (fun _ => get_here)) fan) (gone_of (by simp only [goneP, memP, List.cons_append, List.nil_append, true_or, or_true, true_and, and_true, or_false] <;> omega))), ⟨rfl, rfl⟩⟩

theorem aAsk {n : Nat} {σ : Store} (hd : Dom n σ) (b : Nat) (want mn : Nat) (nx : BitVec 32) (at_ : Int) (y : Int) (a : Nat) (hya : y = ((a : Nat) : Int)) (ha : 1 ≤ a ∧ a ≤ 16) (hw : want = 0) (hb : σ b = some ⟨[[(.int .i64 ((want : Nat) : Int)), (W nx), (.int .i64 at_), (.int .i64 ((mn : Nat) : Int)), (W 0#32), (.int .i64 0)]], 6, 94, true⟩) : CQ Try.prog noDen 27 [(Pt b 0 0), (.int .i64 y)] n σ (fun v n' d => v = .int .i64 0 ∧ d = [(b, some ⟨[[(.int .i64 ((a : Nat) : Int)), (W nx), (.int .i64 at_), (.int .i64 0), (W 0#32), (.int .i64 0)]], 6, 94, true⟩)]) := by
  subst hya
  exact aAsk0 hd b want mn nx at_ a ha hw hb

theorem aSend0 {n : Nat} {σ : Store} (hd : Dom n σ) (b : Nat) (want mn : Nat) (nx : BitVec 32) (at_ : Int) (now : Int) (hw : want = 0) (hb : σ b = some ⟨[[(.int .i64 ((want : Nat) : Int)), (W nx), (.int .i64 at_), (.int .i64 ((mn : Nat) : Int)), (W 0#32), (.int .i64 0)]], 6, 94, true⟩)  : CQ Try.prog noDen 28 [(Pt b 0 0), (.int .i64 now)] n σ (fun v n' d => v = (.tuple ⟨[(.agg ⟨[(.int .i64 0), (.int .i64 0), (.int .u32 0), (.int .i64 0), (.int .i64 0), (.int .u32 0), (.string ByteArray.empty), (.int .u32 0), (.int .u32 0), (.int .i64 0), (.int .i64 0), (.slice none 0 0), (.slice none 0 0), (.slice none 0 0), (.slice none 0 0)]⟩), (.bool false)]⟩) ∧ d = []) := by
 have lhb := hd.lt hb
 refine CQ.body (E := env) env_ok hd rfl rfl (by show _ ≤ _; exact of_decide_eq_true (by kernel_rfl)) ?_
 refine RA.seq hd ?_
 refine RA.region env_ok ?_
 refine OA.op1 (dst := (some 4)) (v := (Pt n 0 0)) (n1 := (n + 1)) (w := (n, some ⟨[xRa13], 15, 53, true⟩)) rfl rfl rfl rfl (by omega) ?_
 refine OA.p (some 5) (.bool false) rfl rfl rfl rfl ?_
 refine OA.nil ?_
 intro _
 refine RA.seq hd ?_
 refine RA.seq hd ?_
 refine RA.region env_ok ?_
 refine OA.p (some 6) (Pt b 0 0) rfl rfl rfl rfl ?_
 refine OA.callP (dst := (some 7)) (all := [(Pt b 0 0)]) (v := (.int .i64 ((want : Nat) : Int))) (hd.of (by omega) (kb1 (by omega))) rfl rfl rfl rfl rfl rfl rfl rfl (aWant b want mn nx at_ (get_there (by omega) hb)) ?_
 intro n1 hn1
 have hc1 : ((want : Nat) : Int) = 0 := Classical.byContradiction (fun hdd => by exfalso; omega)
 refine OA.p (some 8) (.bool true) rfl rfl rfl (Eq.trans (r_bin rfl rfl rfl (b_eql rfl)) (dT hc1)) ?_
 refine OA.nil ?_
 intro _
 refine RA.condT rfl ?_
 refine RA.seq hd ?_
 refine RA.region env_ok ?_
 refine OA.p (some 9) (.agg ⟨xRa13⟩) rfl rfl rfl (by kernel_rfl) ?_
 refine OA.op1 (dst := none) (v := (.tuple #[])) (n1 := n1) (w := (n, some ⟨[xRa13], 15, 53, true⟩)) rfl rfl rfl (r_store rfl rfl rfl rfl rfl rfl rfl get_here rfl rfl (Nat.le_of_ble_eq_true rfl) rfl) (by omega) ?_
 refine OA.p (some 5) (.bool false) rfl rfl rfl rfl ?_
 refine OA.nil ?_
 intro _
 refine RA.ret env_ok ?_
 refine ⟨.inr rfl, [(.agg ⟨xRa13⟩), (.bool false)], (resL_cons (res_cellA rfl rfl rfl get_here rfl rfl rfl) (resL_cons rfl resL_nil)), [], (Less.of (fun p hp => by simp at hp) (gone_of (by simp only [goneP, memP, List.cons_append, List.nil_append, true_or, or_true, true_and, and_true, or_false] <;> omega))), ⟨rfl, rfl⟩⟩

theorem aSend {n : Nat} {σ : Store} (hd : Dom n σ) (b : Nat) (want mn : Nat) (nx : BitVec 32) (at_ : Int) (now : Int) (hw : want ≠ 0) (hw2 : want ≤ 16) (hmn : mn ≤ 1000) (hb : σ b = some ⟨[[(.int .i64 ((want : Nat) : Int)), (W nx), (.int .i64 at_), (.int .i64 ((mn : Nat) : Int)), (W 0#32), (.int .i64 0)]], 6, 94, true⟩)  : CQ Try.prog noDen 28 [(Pt b 0 0), (.int .i64 now)] n σ (fun v n' d => ∃ i, n ≤ i ∧ i < n' ∧ v = (.tuple ⟨[(.agg ⟨[(.int .i64 130), (.int .i64 0), (W nx), (.int .i64 0), (.int .i64 0), (.int .u32 0), (.string ByteArray.empty), (.int .u32 0), (.int .u32 0), (.int .i64 0), (.int .i64 0), (.slice (some ⟨i, 0, none⟩) 1 0), (.slice none 0 0), (.slice none 0 0), (.slice none 0 0)]⟩), (.bool true)]⟩) ∧ d = [(b, some ⟨[[(.int .i64 ((want : Nat) : Int)), (W nx), (.int .i64 now), (.int .i64 (((mn + 1) : Nat) : Int)), (W 0#32), (.int .i64 0)]], 6, 94, true⟩), (i, some ⟨[[(.int .i64 17), (.string (moreV nx want))]], 2, 35, true⟩)]) := by
 have lhb := hd.lt hb
 refine CQ.body (E := env) env_ok hd rfl rfl (by show _ ≤ _; exact of_decide_eq_true (by kernel_rfl)) ?_
 refine RA.seq hd ?_
 refine RA.region env_ok ?_
 refine OA.op1 (dst := (some 4)) (v := (Pt n 0 0)) (n1 := (n + 1)) (w := (n, some ⟨[xRa13], 15, 53, true⟩)) rfl rfl rfl rfl (by omega) ?_
 refine OA.p (some 5) (.bool false) rfl rfl rfl rfl ?_
 refine OA.nil ?_
 intro _
 refine RA.seq hd ?_
 refine RA.seq hd ?_
 refine RA.region env_ok ?_
 refine OA.p (some 6) (Pt b 0 0) rfl rfl rfl rfl ?_
 refine OA.callP (dst := (some 7)) (all := [(Pt b 0 0)]) (v := (.int .i64 ((want : Nat) : Int))) (hd.of (by omega) (kb1 (by omega))) rfl rfl rfl rfl rfl rfl rfl rfl (aWant b want mn nx at_ (get_there (by omega) hb)) ?_
 intro n1 hn1
 have hc1 : ¬ (((want : Nat) : Int) = 0) := fun hdd => by exfalso; omega
 refine OA.p (some 8) (.bool false) rfl rfl rfl (Eq.trans (r_bin rfl rfl rfl (b_eql rfl)) (dF hc1)) ?_
 refine OA.nil ?_
 intro _
 refine RA.condF rfl ?_
 refine RA.skip env_ok ?_
 intro _
 refine RA.seq hd ?_
 refine RA.region env_ok ?_
 refine OA.p (some 10) (Pt b 0 0) rfl rfl rfl rfl ?_
 refine OA.p (some 11) (Pt b 0 0) rfl rfl rfl rfl ?_
 refine OA.p (some 12) (Pt b 0 3) rfl rfl rfl rfl ?_
 refine OA.p (some 13) (.int .i64 ((mn : Nat) : Int)) rfl rfl rfl (r_load1 rfl rfl rfl rfl rfl (get_there (by omega) hb) rfl rfl) ?_
 refine OA.p (some 14) (.int .i64 (((mn + 1) : Nat) : Int)) rfl rfl rfl (r_bin rfl rfl rfl (b_add (i64_eq (by omega)))) ?_
 refine OA.p (some 15) (Pt b 0 0) rfl rfl rfl rfl ?_
 refine OA.p (some 16) (Pt b 0 3) rfl rfl rfl rfl ?_
 refine OA.op1 (dst := none) (v := (.tuple #[])) (n1 := n1) (w := (b, some ⟨[(xRa14 want nx at_ mn)], 6, 94, true⟩)) rfl rfl rfl (r_store rfl rfl rfl rfl rfl rfl rfl (get_there (by omega) hb) rfl rfl (Nat.le_of_ble_eq_true rfl) rfl) (by omega) ?_
 refine OA.nil ?_
 intro _
 refine RA.seq hd ?_
 refine RA.region env_ok ?_
 refine OA.p (some 17) (Pt b 0 0) rfl rfl rfl rfl ?_
 refine OA.p (some 18) (.int .i64 now) rfl rfl rfl rfl ?_
 refine OA.p (some 19) (Pt b 0 0) rfl rfl rfl rfl ?_
 refine OA.p (some 20) (Pt b 0 2) rfl rfl rfl rfl ?_
 refine OA.op1 (dst := none) (v := (.tuple #[])) (n1 := n1) (w := (b, some ⟨[(xRa15 want nx now mn)], 6, 94, true⟩)) rfl rfl rfl (r_store rfl rfl rfl rfl rfl rfl rfl get_here rfl rfl (Nat.le_of_ble_eq_true rfl) rfl) (by omega) ?_
 refine OA.nil ?_
 intro _
 refine RA.seq hd ?_
 refine RA.par (md := [some [], some [], some [], some [b], some [], some [], some [], some [b], some [], some [], some [], some [b], some [], some [], some [], none, some []]) env_ok (hd.of (by omega) (kb3 (by omega))) (by kernel_rfl) ?_
 refine PQ.pure (dst := (some 21)) (v := (Pt b 0 0)) rfl rfl rfl noStore (none_ok _ _) rfl ?_
 refine PQ.pure (dst := (some 22)) (v := (Pt b 0 0)) rfl rfl rfl noStore (none_ok _ _) rfl ?_
 refine PQ.pure (dst := (some 23)) (v := (Pt b 0 1)) rfl rfl rfl noStore (none_ok _ _) rfl ?_
 refine PQ.pure (dst := (some 24)) (v := (W nx)) rfl rfl rfl (app [(b, some ⟨[(xRa15 want nx now mn)], 6, 94, true⟩)] noStore) (seen_one (V := []) (D := [(b, some ⟨[(xRa15 want nx now mn)], 6, 94, true⟩), (b, some ⟨[(xRa14 want nx at_ mn)], 6, 94, true⟩), (n, some ⟨[xRa13], 15, 53, true⟩)]) (by kernel_rfl) get_here) (r_load1 rfl rfl rfl rfl rfl get_here rfl rfl) ?_
 refine PQ.pure (dst := (some 25)) (v := (Pt b 0 0)) rfl rfl rfl noStore (none_ok _ _) rfl ?_
 refine PQ.pure (dst := (some 26)) (v := (Pt b 0 0)) rfl rfl rfl noStore (none_ok _ _) rfl ?_
 refine PQ.pure (dst := (some 27)) (v := (Pt b 0 1)) rfl rfl rfl noStore (none_ok _ _) rfl ?_
 refine PQ.pure (dst := (some 28)) (v := (W nx)) rfl rfl rfl (app [(b, some ⟨[(xRa15 want nx now mn)], 6, 94, true⟩)] noStore) (seen_one (V := []) (D := [(b, some ⟨[(xRa15 want nx now mn)], 6, 94, true⟩), (b, some ⟨[(xRa14 want nx at_ mn)], 6, 94, true⟩), (n, some ⟨[xRa13], 15, 53, true⟩)]) (by kernel_rfl) get_here) (r_load1 rfl rfl rfl rfl rfl get_here rfl rfl) ?_
 refine PQ.pure (dst := (some 29)) (v := (Pt b 0 0)) rfl rfl rfl noStore (none_ok _ _) rfl ?_
 refine PQ.pure (dst := (some 30)) (v := (Pt b 0 0)) rfl rfl rfl noStore (none_ok _ _) rfl ?_
 refine PQ.pure (dst := (some 31)) (v := (Pt b 0 0)) rfl rfl rfl noStore (none_ok _ _) rfl ?_
 refine PQ.pure (dst := (some 32)) (v := (.int .i64 ((want : Nat) : Int))) rfl rfl rfl (app [(b, some ⟨[(xRa15 want nx now mn)], 6, 94, true⟩)] noStore) (seen_one (V := []) (D := [(b, some ⟨[(xRa15 want nx now mn)], 6, 94, true⟩), (b, some ⟨[(xRa14 want nx at_ mn)], 6, 94, true⟩), (n, some ⟨[xRa13], 15, 53, true⟩)]) (by kernel_rfl) get_here) (r_load1 rfl rfl rfl rfl rfl get_here rfl rfl) ?_
 refine PQ.callP (dst := (some 33)) (all := [(W nx), (.int .i64 ((want : Nat) : Int))]) (v := (.agg ⟨[(.int .i64 17), (.string (moreV nx want))]⟩)) noStore (dom_none _) rfl rfl rfl rfl rfl rfl rfl rfl (none_ok _ _) (sMore _ _ (by omega)) ?_
 intro n2 hn2
 refine PQ.op (dst := (some 34)) (v := (.slice (some ⟨n2, 0, none⟩) 1 0)) (n1 := (n2 + 1)) (d1 := [(n2, some ⟨[[(.int .i64 17), (.string (moreV nx want))]], 2, 35, true⟩)]) rfl rfl rfl noStore (none_ok _ _) (by kernel_rfl) (by omega) (kp1 (wr_new (by omega) (by omega))) ?_
 refine PQ.pure (dst := (some 35)) (v := (.agg ⟨(xRa11 nx n2)⟩)) rfl rfl rfl noStore (none_ok _ _) (by kernel_rfl) ?_
 refine PQ.op (dst := none) (v := (.tuple #[])) (n1 := (n2 + 1)) (d1 := [(n, some ⟨[(xRa11 nx n2)], 15, 53, true⟩)]) rfl rfl rfl _ (seen_any (V := [(n2, some ⟨[[(.int .i64 17), (.string (moreV nx want))]], 2, 35, true⟩)]) (D := [(b, some ⟨[(xRa15 want nx now mn)], 6, 94, true⟩), (b, some ⟨[(xRa14 want nx at_ mn)], 6, 94, true⟩), (n, some ⟨[xRa13], 15, 53, true⟩)]) (by kernel_rfl)) (r_store rfl rfl rfl rfl rfl rfl rfl (gt3 (by omega) get_here) rfl rfl (Nat.le_of_ble_eq_true rfl) rfl) (by omega) (kp1 (wr_tight (by kernel_rfl) (by omega))) ?_
 refine PQ.pure (dst := (some 5)) (v := (.bool true)) rfl rfl rfl noStore (none_ok _ _) rfl ?_
 refine PQ.done (d := [(n, some ⟨[(xRa11 nx n2)], 15, 53, true⟩), (n2, some ⟨[[(.int .i64 17), (.string (moreV nx want))]], 2, 35, true⟩)]) (by kernel_rfl) ?_
 intro _
 refine RA.weaken (D' := [(n, some ⟨[(xRa11 nx n2)], 15, 53, true⟩), (n2, some ⟨[[(.int .i64 17), (.string (moreV nx want))]], 2, 35, true⟩), (b, some ⟨[(xRa15 want nx now mn)], 6, 94, true⟩)]) hd (Less.of (fac (mm (fun _ => get_here) (fun _ => get_here)) (fac (mm (fun _ => (get_there (by omega) get_here)) (fun _ => (get_there (by omega) get_here))) (fac (mm (fun _ => (gt2 (by omega) get_here)) (fun _ => (gt2 (by omega) get_here))) fan))) (gone_of (by simp only [goneP, memP, List.cons_append, List.nil_append, true_or, or_true, true_and, and_true, or_false] <;> omega))) ?_
 refine RA.rebase [(0, (Pt b 0 0)), (1, (.int .i64 now)), (4, (Pt n 0 0)), (5, (.bool true)), (8, (.bool false))] ⟨rfl, rfl, rfl, rfl, rfl, trivial⟩ (fun τr3 => ?_)
 refine RA.ret env_ok ?_
 refine ⟨.inr rfl, [(.agg ⟨(xRa11 nx n2)⟩), (.bool true)], (resL_cons (res_cellA rfl rfl rfl get_here rfl rfl rfl) (resL_cons rfl resL_nil)), [(b, some ⟨[(xRa15 want nx now mn)], 6, 94, true⟩), (n2, some ⟨[[(.int .i64 17), (.string (moreV nx want))]], 2, 35, true⟩)], (Less.of (fac (mm (fun _ => get_here) (fun _ => (gt2 (by omega) get_here))) (fac (mm (fun _ => (get_there (by omega) get_here)) (fun _ => (get_there (by omega) get_here))) fan)) (gone_of (by simp only [goneP, memP, List.cons_append, List.nil_append, true_or, or_true, true_and, and_true, or_false] <;> omega))), ⟨n2, by omega, by omega, rfl, rfl⟩⟩

theorem aAnsN {n : Nat} {σ : Store} (hd : Dom n σ) (b : Nat) (want mn : Nat) (nx : BitVec 32) (at_ : Int) (k : Nat) (hbk : b ≠ k) (id : BitVec 32) (w : Nat) (hw : w = 1 ∨ w = 2) (tm : Nat) (h0 : want = 0 → tm = 0) (h1 : want ≠ 0 → tm = mn) (hn : tm = 0 ∨ ¬ (id.toNat : Int) = (nx.toNat : Int)) (hb : σ b = some ⟨[[(.int .i64 ((want : Nat) : Int)), (W nx), (.int .i64 at_), (.int .i64 ((mn : Nat) : Int)), (W 0#32), (.int .i64 0)]], 6, 94, true⟩) (hk : σ k = some ⟨[[(.int .i64 16), (.string (resV id (BitVec.ofNat 32 w)))]], 2, 35, true⟩)  : CQ Try.prog noDen 29 [(Pt b 0 0), (.agg ⟨[(.int .i64 130), (.int .i64 0), (W id), (.int .i64 0), (.int .i64 0), (.int .u32 0), (.string ByteArray.empty), (.int .u32 0), (.int .u32 0), (.int .i64 0), (.int .i64 0), (.slice (some ⟨k, 0, none⟩) 1 0), (.slice none 0 0), (.slice none 0 0), (.slice none 0 0)]⟩)] n σ (fun v n' d => v = (.tuple ⟨[(.int .i64 0), (.bool false)]⟩) ∧ d = []) := by
 have lhb := hd.lt hb
 have lhk := hd.lt hk
 refine CQ.body (E := env) env_ok hd rfl rfl (by show _ ≤ _; exact of_decide_eq_true (by kernel_rfl)) ?_
 refine RA.seq hd ?_
 refine RA.region env_ok ?_
 refine OA.op1 (dst := (some 3)) (v := (Pt n 0 0)) (n1 := (n + 1)) (w := (n, some ⟨[(xRa12 id k)], 15, 53, true⟩)) rfl rfl rfl rfl (by omega) ?_
 refine OA.p (some 4) (.int .i64 0) rfl rfl rfl rfl ?_
 refine OA.p (some 5) (.bool false) rfl rfl rfl rfl ?_
 refine OA.nil ?_
 intro _
 refine RA.seq hd ?_
 refine RA.region env_ok ?_
 refine OA.p (some 13) (Pt n 0 11) rfl rfl rfl rfl ?_
 refine OA.p (some 14) (.slice (some ⟨k, 0, none⟩) 1 0) rfl rfl rfl (r_load1 rfl rfl rfl rfl rfl get_here rfl rfl) ?_
 refine OA.callP (dst := (some 15)) (all := [(.slice (some ⟨k, 0, none⟩) 1 0), (.int .i64 16)]) (v := (.tuple ⟨[(.agg ⟨[(.int .i64 16), (.string (resV id (BitVec.ofNat 32 w)))]⟩), (.bool true)]⟩)) (hd.of (by omega) (kb1 (by omega))) rfl rfl rfl rfl rfl rfl rfl rfl (cFind16 k (resV id (BitVec.ofNat 32 w)) (get_there (by omega) hk)) ?_
 intro n1 hn1
 refine OA.p (some 12) (.tuple ⟨[(.agg ⟨[(.int .i64 16), (.string (resV id (BitVec.ofNat 32 w)))]⟩), (.bool true)]⟩) rfl rfl rfl rfl ?_
 refine OA.p (some 16) (.agg ⟨[(.int .i64 16), (.string (resV id (BitVec.ofNat 32 w)))]⟩) rfl rfl rfl rfl ?_
 refine OA.p (some 17) (.bool true) rfl rfl rfl rfl ?_
 refine OA.op1 (dst := (some 6)) (v := (Pt n1 0 0)) (n1 := (n1 + 1)) (w := (n1, some ⟨[[(.int .i64 0), (.string ByteArray.empty)]], 2, 35, true⟩)) rfl rfl rfl rfl (by omega) ?_
 refine OA.op1 (dst := none) (v := (.tuple #[])) (n1 := (n1 + 1)) (w := (n1, some ⟨[[(.int .i64 16), (.string (resV id (BitVec.ofNat 32 w)))]], 2, 35, true⟩)) rfl rfl rfl (r_store rfl rfl rfl rfl rfl rfl rfl get_here rfl rfl (Nat.le_of_ble_eq_true rfl) rfl) (by omega) ?_
 refine OA.p (some 7) (.bool true) rfl rfl rfl rfl ?_
 refine OA.nil ?_
 intro _
 refine RA.seq hd ?_
 refine RA.region env_ok ?_
 refine OA.p (some 19) (.agg ⟨[(.int .i64 16), (.string (resV id (BitVec.ofNat 32 w)))]⟩) rfl rfl rfl (r_loadA rfl rfl rfl rfl get_here rfl rfl rfl) ?_
 refine OA.callP (dst := (some 20)) (all := [(.agg ⟨[(.int .i64 16), (.string (resV id (BitVec.ofNat 32 w)))]⟩)]) (v := (.tuple ⟨[(W id), (.int .i64 ((w : Nat) : Int)), (.bool true)]⟩)) (hd.of (by omega) (kb3 (by omega))) rfl rfl rfl rfl rfl rfl rfl rfl (sRR1 id w (by omega) (by omega)) ?_
 intro n2 hn2
 refine OA.p (some 18) (.tuple ⟨[(W id), (.int .i64 ((w : Nat) : Int)), (.bool true)]⟩) rfl rfl rfl rfl ?_
 refine OA.p (some 21) (W id) rfl rfl rfl rfl ?_
 refine OA.p (some 22) (.int .i64 ((w : Nat) : Int)) rfl rfl rfl rfl ?_
 refine OA.p (some 23) (.bool true) rfl rfl rfl rfl ?_
 refine OA.p (some 8) (W id) rfl rfl rfl rfl ?_
 refine OA.p (some 9) (.int .i64 ((w : Nat) : Int)) rfl rfl rfl rfl ?_
 refine OA.p (some 10) (.bool true) rfl rfl rfl rfl ?_
 refine OA.nil ?_
 intro _
 refine RA.seq hd ?_
 refine RA.seq hd ?_
 refine RA.region env_ok ?_
 refine OA.p (some 24) (Pt b 0 0) rfl rfl rfl rfl ?_
 refine OA.callP (dst := (some 25)) (all := [(Pt b 0 0)]) (v := (.int .i64 ((tm : Nat) : Int))) (hd.of (by omega) (kb3 (by omega))) rfl rfl rfl rfl rfl rfl rfl rfl (aTimes b want mn nx at_ tm h0 h1 (gt3 (by omega) hb)) ?_
 intro n3 hn3
 by_cases hc1 : ((tm : Nat) : Int) = 0
 ·
  refine OA.p (some 26) (.bool true) rfl rfl rfl (Eq.trans (r_bin rfl rfl rfl (b_eql rfl)) (dT hc1)) ?_
  refine OA.p (some 27) (.bool true) rfl rfl rfl rfl ?_
  refine OA.off (dst := (some 28)) rfl rfl rfl ?_
  refine OA.off (dst := (some 29)) rfl rfl rfl ?_
  refine OA.off (dst := (some 30)) rfl rfl rfl ?_
  refine OA.p (some 31) (.bool true) rfl rfl rfl rfl ?_
  refine OA.p (some 32) (.bool true) rfl rfl rfl rfl ?_
  refine OA.off (dst := (some 33)) rfl rfl rfl ?_
  refine OA.off (dst := (some 34)) rfl rfl rfl ?_
  refine OA.p (some 35) (.bool true) rfl rfl rfl rfl ?_
  refine OA.p (some 36) (.bool true) rfl rfl rfl rfl ?_
  refine OA.off (dst := (some 37)) rfl rfl rfl ?_
  refine OA.off (dst := (some 38)) rfl rfl rfl ?_
  refine OA.off (dst := (some 39)) rfl rfl rfl ?_
  refine OA.off (dst := (some 40)) rfl rfl rfl ?_
  refine OA.off (dst := (some 41)) rfl rfl rfl ?_
  refine OA.off (dst := (some 42)) rfl rfl rfl ?_
  refine OA.p (some 43) (.bool true) rfl rfl rfl rfl ?_
  refine OA.nil ?_
  intro _
  refine RA.rebase [(0, (Pt b 0 0)), (1, (.agg ⟨(xRa12 id k)⟩)), (3, (Pt n 0 0)), (4, (.int .i64 0)), (5, (.bool false)), (6, (Pt n1 0 0)), (8, (W id)), (9, (.int .i64 ((w : Nat) : Int))), (10, (.bool true)), (43, (.bool true))] ⟨rfl, rfl, rfl, rfl, rfl, rfl, rfl, rfl, rfl, rfl, trivial⟩ (fun τr4 => ?_)
  refine RA.condT rfl ?_
  refine RA.seq hd ?_
  refine RA.region env_ok ?_
  refine OA.p (some 4) (.int .i64 0) rfl rfl rfl rfl ?_
  refine OA.p (some 5) (.bool false) rfl rfl rfl rfl ?_
  refine OA.nil ?_
  intro _
  refine RA.ret env_ok ?_
  refine ⟨.inr rfl, [(.int .i64 0), (.bool false)], (resL_cons rfl (resL_cons rfl resL_nil)), [], (Less.of (fun p hp => by simp at hp) (gone_of (by simp only [goneP, memP, List.cons_append, List.nil_append, true_or, or_true, true_and, and_true, or_false] <;> omega))), ⟨rfl, rfl⟩⟩
 ·
  refine OA.p (some 26) (.bool false) rfl rfl rfl (Eq.trans (r_bin rfl rfl rfl (b_eql rfl)) (dF hc1)) ?_
  refine OA.p (some 27) (.bool false) rfl rfl rfl rfl ?_
  refine OA.p (some 28) (Pt n 0 0) rfl rfl rfl rfl ?_
  refine OA.p (some 29) (.int .i64 130) rfl rfl rfl (r_load1 rfl rfl rfl rfl rfl (gt2 (by omega) get_here) rfl rfl) ?_
  refine OA.p (some 30) (.bool false) rfl rfl rfl (r_bin rfl rfl rfl (b_neq rfl)) ?_
  refine OA.p (some 31) (.bool false) rfl rfl rfl rfl ?_
  refine OA.p (some 32) (.bool false) rfl rfl rfl rfl ?_
  refine OA.p (some 33) (.bool true) rfl rfl rfl rfl ?_
  refine OA.p (some 34) (.bool false) rfl rfl rfl rfl ?_
  refine OA.p (some 35) (.bool false) rfl rfl rfl rfl ?_
  refine OA.p (some 36) (.bool false) rfl rfl rfl rfl ?_
  refine OA.p (some 37) (W id) rfl rfl rfl rfl ?_
  refine OA.p (some 38) (Pt b 0 0) rfl rfl rfl rfl ?_
  refine OA.p (some 39) (Pt b 0 0) rfl rfl rfl rfl ?_
  refine OA.p (some 40) (Pt b 0 1) rfl rfl rfl rfl ?_
  refine OA.p (some 41) (W nx) rfl rfl rfl (r_load1 rfl rfl rfl rfl rfl (gt3 (by omega) hb) rfl rfl) ?_
  by_cases hc2 : (id.toNat : Int) ≠ (nx.toNat : Int)
  ·
   refine OA.p (some 42) (.bool true) rfl rfl rfl (Eq.trans (r_bin rfl rfl rfl (b_neq rfl)) (dT hc2)) ?_
   refine OA.p (some 43) (.bool true) rfl rfl rfl rfl ?_
   refine OA.nil ?_
   intro _
   refine RA.rebase [(0, (Pt b 0 0)), (1, (.agg ⟨(xRa12 id k)⟩)), (3, (Pt n 0 0)), (4, (.int .i64 0)), (5, (.bool false)), (6, (Pt n1 0 0)), (8, (W id)), (9, (.int .i64 ((w : Nat) : Int))), (10, (.bool true)), (43, (.bool true))] ⟨rfl, rfl, rfl, rfl, rfl, rfl, rfl, rfl, rfl, rfl, trivial⟩ (fun τr5 => ?_)
   refine RA.condT rfl ?_
   refine RA.seq hd ?_
   refine RA.region env_ok ?_
   refine OA.p (some 4) (.int .i64 0) rfl rfl rfl rfl ?_
   refine OA.p (some 5) (.bool false) rfl rfl rfl rfl ?_
   refine OA.nil ?_
   intro _
   refine RA.ret env_ok ?_
   refine ⟨.inr rfl, [(.int .i64 0), (.bool false)], (resL_cons rfl (resL_cons rfl resL_nil)), [], (Less.of (fun p hp => by simp at hp) (gone_of (by simp only [goneP, memP, List.cons_append, List.nil_append, true_or, or_true, true_and, and_true, or_false] <;> omega))), ⟨rfl, rfl⟩⟩
  ·
   refine OA.p (some 42) (.bool false) rfl rfl rfl (Eq.trans (r_bin rfl rfl rfl (b_neq rfl)) (dF hc2)) ?_
   refine OA.p (some 43) (.bool false) rfl rfl rfl rfl ?_
   refine OA.nil ?_
   intro _
   refine RA.rebase [(0, (Pt b 0 0)), (1, (.agg ⟨(xRa12 id k)⟩)), (3, (Pt n 0 0)), (4, (.int .i64 0)), (5, (.bool false)), (6, (Pt n1 0 0)), (8, (W id)), (9, (.int .i64 ((w : Nat) : Int))), (10, (.bool true)), (43, (.bool false))] ⟨rfl, rfl, rfl, rfl, rfl, rfl, rfl, rfl, rfl, rfl, trivial⟩ (fun τr6 => ?_)
   refine RA.condF rfl ?_
   refine RA.skip env_ok ?_
   intro _
   refine RA.seq hd ?_
   refine RA.region env_ok ?_
   refine OA.p (some 44) (Pt b 0 0) rfl rfl rfl rfl ?_
   refine OA.p (some 45) (Pt b 0 0) rfl rfl rfl rfl ?_
   refine OA.p (some 46) (Pt b 0 0) rfl rfl rfl rfl ?_
   refine OA.p (some 47) (.int .i64 ((want : Nat) : Int)) rfl rfl rfl (r_load1 rfl rfl rfl rfl rfl (gt3 (by omega) hb) rfl rfl) ?_
   refine OA.p (some 11) (.int .i64 ((want : Nat) : Int)) rfl rfl rfl rfl ?_
   refine OA.nil ?_
   intro _
   refine RA.seq hd ?_
   refine RA.region env_ok ?_
   refine OA.p (some 48) (Pt b 0 0) rfl rfl rfl rfl ?_
   refine OA.p (some 49) (Pt b 0 0) rfl rfl rfl rfl ?_
   refine OA.p (some 50) (Pt b 0 0) rfl rfl rfl rfl ?_
   refine OA.op1 (dst := none) (v := (.tuple #[])) (n1 := n3) (w := (b, some ⟨[(xRa17 nx at_ mn)], 6, 94, true⟩)) rfl rfl rfl (r_store rfl rfl rfl rfl rfl rfl rfl (gt3 (by omega) hb) rfl rfl (Nat.le_of_ble_eq_true rfl) rfl) (by omega) ?_
   refine OA.nil ?_
   intro _
   refine RA.seq hd ?_
   refine RA.region env_ok ?_
   refine OA.p (some 51) (Pt b 0 0) rfl rfl rfl rfl ?_
   refine OA.p (some 52) (Pt b 0 0) rfl rfl rfl rfl ?_
   refine OA.p (some 53) (Pt b 0 1) rfl rfl rfl rfl ?_
   refine OA.p (some 54) (W nx) rfl rfl rfl (r_load1 rfl rfl rfl rfl rfl get_here rfl rfl) ?_
   refine OA.p (some 55) (W (nx + (1#32))) rfl rfl rfl (r_bin rfl rfl rfl (b_addW nx (1#32))) ?_
   refine OA.p (some 56) (Pt b 0 0) rfl rfl rfl rfl ?_
   refine OA.p (some 57) (Pt b 0 1) rfl rfl rfl rfl ?_
   refine OA.op1 (dst := none) (v := (.tuple #[])) (n1 := n3) (w := (b, some ⟨[(xRa16 nx at_ mn)], 6, 94, true⟩)) rfl rfl rfl (r_store rfl rfl rfl rfl rfl rfl rfl get_here rfl rfl (Nat.le_of_ble_eq_true rfl) rfl) (by omega) ?_
   refine OA.nil ?_
   intro _
   refine RA.weaken (D' := [(b, some ⟨[(xRa16 nx at_ mn)], 6, 94, true⟩), (n1, some ⟨[[(.int .i64 16), (.string (resV id (BitVec.ofNat 32 w)))]], 2, 35, true⟩), (n, some ⟨[(xRa12 id k)], 15, 53, true⟩)]) hd (Less.of (fac (mm (fun _ => get_here) (fun _ => get_here)) (fac (mm (fun _ => (get_there (by omega) get_here)) (fun _ => (gt2 (by omega) get_here))) (fac (mm (fun _ => (gt2 (by omega) get_here)) (fun _ => (gt4 (by omega) get_here))) fan))) (gone_of (by simp only [goneP, memP, List.cons_append, List.nil_append, true_or, or_true, true_and, and_true, or_false] <;> omega))) ?_
   refine RA.seq hd ?_
   refine RA.seq hd ?_
   refine RA.region env_ok ?_
   refine OA.p (some 58) (.int .i64 ((w : Nat) : Int)) rfl rfl rfl rfl ?_
   by_cases hc3 : ((w : Nat) : Int) ≠ 1
   ·
    refine OA.p (some 59) (.bool true) rfl rfl rfl (Eq.trans (r_bin rfl rfl rfl (b_neq rfl)) (dT hc3)) ?_
    refine OA.nil ?_
    intro _
    refine RA.condT rfl ?_
    refine RA.seq hd ?_
    refine RA.region env_ok ?_
    refine OA.p (some 4) (.int .i64 0) rfl rfl rfl rfl ?_
    refine OA.p (some 5) (.bool true) rfl rfl rfl rfl ?_
    refine OA.nil ?_
    intro _
    refine RA.ret env_ok ?_
    refine ⟨.inr rfl, [(.int .i64 0), (.bool true)], (resL_cons rfl (resL_cons rfl resL_nil)), [], (Less.of (fun p hp => by simp at hp) (gone_of (by simp only [goneP, memP, List.cons_append, List.nil_append, true_or, or_true, true_and, and_true, or_false] <;> omega))), (by exfalso; omega)⟩
   ·
    refine OA.p (some 59) (.bool false) rfl rfl rfl (Eq.trans (r_bin rfl rfl rfl (b_neq rfl)) (dF hc3)) ?_
    refine OA.nil ?_
    intro _
    refine RA.condF rfl ?_
    refine RA.skip env_ok ?_
    intro _
    refine RA.seq hd ?_
    refine RA.region env_ok ?_
    refine OA.p (some 60) (.int .i64 ((want : Nat) : Int)) rfl rfl rfl rfl ?_
    refine OA.p (some 4) (.int .i64 ((want : Nat) : Int)) rfl rfl rfl rfl ?_
    refine OA.p (some 5) (.bool true) rfl rfl rfl rfl ?_
    refine OA.nil ?_
    intro _
    refine RA.ret env_ok ?_
    refine ⟨.inr rfl, [(.int .i64 ((want : Nat) : Int)), (.bool true)], (resL_cons rfl (resL_cons rfl resL_nil)), [], (Less.of (fun p hp => by simp at hp) (gone_of (by simp only [goneP, memP, List.cons_append, List.nil_append, true_or, or_true, true_and, and_true, or_false] <;> omega))), (by exfalso; omega)⟩

theorem aAns1 {n : Nat} {σ : Store} (hd : Dom n σ) (b : Nat) (want mn : Nat) (nx : BitVec 32) (at_ : Int) (k : Nat) (hbk : b ≠ k) (id : BitVec 32) (w : Nat) (hw : w = 1 ∨ w = 2) (tm : Nat) (h0 : want = 0 → tm = 0) (h1 : want ≠ 0 → tm = mn) (hid : (id.toNat : Int) = (nx.toNat : Int)) (ht : tm ≠ 0) (hw2 : w = 1) (hb : σ b = some ⟨[[(.int .i64 ((want : Nat) : Int)), (W nx), (.int .i64 at_), (.int .i64 ((mn : Nat) : Int)), (W 0#32), (.int .i64 0)]], 6, 94, true⟩) (hk : σ k = some ⟨[[(.int .i64 16), (.string (resV id (BitVec.ofNat 32 w)))]], 2, 35, true⟩)  : CQ Try.prog noDen 29 [(Pt b 0 0), (.agg ⟨[(.int .i64 130), (.int .i64 0), (W id), (.int .i64 0), (.int .i64 0), (.int .u32 0), (.string ByteArray.empty), (.int .u32 0), (.int .u32 0), (.int .i64 0), (.int .i64 0), (.slice (some ⟨k, 0, none⟩) 1 0), (.slice none 0 0), (.slice none 0 0), (.slice none 0 0)]⟩)] n σ (fun v n' d => v = (.tuple ⟨[(.int .i64 ((want : Nat) : Int)), (.bool true)]⟩) ∧ d = [(b, some ⟨[[(.int .i64 0), (W (nx + 1#32)), (.int .i64 at_), (.int .i64 ((mn : Nat) : Int)), (W 0#32), (.int .i64 0)]], 6, 94, true⟩)]) := by
 have lhb := hd.lt hb
 have lhk := hd.lt hk
 refine CQ.body (E := env) env_ok hd rfl rfl (by show _ ≤ _; exact of_decide_eq_true (by kernel_rfl)) ?_
 refine RA.seq hd ?_
 refine RA.region env_ok ?_
 refine OA.op1 (dst := (some 3)) (v := (Pt n 0 0)) (n1 := (n + 1)) (w := (n, some ⟨[(xRa12 id k)], 15, 53, true⟩)) rfl rfl rfl rfl (by omega) ?_
 refine OA.p (some 4) (.int .i64 0) rfl rfl rfl rfl ?_
 refine OA.p (some 5) (.bool false) rfl rfl rfl rfl ?_
 refine OA.nil ?_
 intro _
 refine RA.seq hd ?_
 refine RA.region env_ok ?_
 refine OA.p (some 13) (Pt n 0 11) rfl rfl rfl rfl ?_
 refine OA.p (some 14) (.slice (some ⟨k, 0, none⟩) 1 0) rfl rfl rfl (r_load1 rfl rfl rfl rfl rfl get_here rfl rfl) ?_
 refine OA.callP (dst := (some 15)) (all := [(.slice (some ⟨k, 0, none⟩) 1 0), (.int .i64 16)]) (v := (.tuple ⟨[(.agg ⟨[(.int .i64 16), (.string (resV id (BitVec.ofNat 32 w)))]⟩), (.bool true)]⟩)) (hd.of (by omega) (kb1 (by omega))) rfl rfl rfl rfl rfl rfl rfl rfl (cFind16 k (resV id (BitVec.ofNat 32 w)) (get_there (by omega) hk)) ?_
 intro n1 hn1
 refine OA.p (some 12) (.tuple ⟨[(.agg ⟨[(.int .i64 16), (.string (resV id (BitVec.ofNat 32 w)))]⟩), (.bool true)]⟩) rfl rfl rfl rfl ?_
 refine OA.p (some 16) (.agg ⟨[(.int .i64 16), (.string (resV id (BitVec.ofNat 32 w)))]⟩) rfl rfl rfl rfl ?_
 refine OA.p (some 17) (.bool true) rfl rfl rfl rfl ?_
 refine OA.op1 (dst := (some 6)) (v := (Pt n1 0 0)) (n1 := (n1 + 1)) (w := (n1, some ⟨[[(.int .i64 0), (.string ByteArray.empty)]], 2, 35, true⟩)) rfl rfl rfl rfl (by omega) ?_
 refine OA.op1 (dst := none) (v := (.tuple #[])) (n1 := (n1 + 1)) (w := (n1, some ⟨[[(.int .i64 16), (.string (resV id (BitVec.ofNat 32 w)))]], 2, 35, true⟩)) rfl rfl rfl (r_store rfl rfl rfl rfl rfl rfl rfl get_here rfl rfl (Nat.le_of_ble_eq_true rfl) rfl) (by omega) ?_
 refine OA.p (some 7) (.bool true) rfl rfl rfl rfl ?_
 refine OA.nil ?_
 intro _
 refine RA.seq hd ?_
 refine RA.region env_ok ?_
 refine OA.p (some 19) (.agg ⟨[(.int .i64 16), (.string (resV id (BitVec.ofNat 32 w)))]⟩) rfl rfl rfl (r_loadA rfl rfl rfl rfl get_here rfl rfl rfl) ?_
 refine OA.callP (dst := (some 20)) (all := [(.agg ⟨[(.int .i64 16), (.string (resV id (BitVec.ofNat 32 w)))]⟩)]) (v := (.tuple ⟨[(W id), (.int .i64 ((w : Nat) : Int)), (.bool true)]⟩)) (hd.of (by omega) (kb3 (by omega))) rfl rfl rfl rfl rfl rfl rfl rfl (sRR1 id w (by omega) (by omega)) ?_
 intro n2 hn2
 refine OA.p (some 18) (.tuple ⟨[(W id), (.int .i64 ((w : Nat) : Int)), (.bool true)]⟩) rfl rfl rfl rfl ?_
 refine OA.p (some 21) (W id) rfl rfl rfl rfl ?_
 refine OA.p (some 22) (.int .i64 ((w : Nat) : Int)) rfl rfl rfl rfl ?_
 refine OA.p (some 23) (.bool true) rfl rfl rfl rfl ?_
 refine OA.p (some 8) (W id) rfl rfl rfl rfl ?_
 refine OA.p (some 9) (.int .i64 ((w : Nat) : Int)) rfl rfl rfl rfl ?_
 refine OA.p (some 10) (.bool true) rfl rfl rfl rfl ?_
 refine OA.nil ?_
 intro _
 refine RA.seq hd ?_
 refine RA.seq hd ?_
 refine RA.region env_ok ?_
 refine OA.p (some 24) (Pt b 0 0) rfl rfl rfl rfl ?_
 refine OA.callP (dst := (some 25)) (all := [(Pt b 0 0)]) (v := (.int .i64 ((tm : Nat) : Int))) (hd.of (by omega) (kb3 (by omega))) rfl rfl rfl rfl rfl rfl rfl rfl (aTimes b want mn nx at_ tm h0 h1 (gt3 (by omega) hb)) ?_
 intro n3 hn3
 have hc1 : ¬ (((tm : Nat) : Int) = 0) := fun hdd => by exfalso; first | omega | (exact hdd rfl) | (exact hdd hid)
 refine OA.p (some 26) (.bool false) rfl rfl rfl (Eq.trans (r_bin rfl rfl rfl (b_eql rfl)) (dF hc1)) ?_
 refine OA.p (some 27) (.bool false) rfl rfl rfl rfl ?_
 refine OA.p (some 28) (Pt n 0 0) rfl rfl rfl rfl ?_
 refine OA.p (some 29) (.int .i64 130) rfl rfl rfl (r_load1 rfl rfl rfl rfl rfl (gt2 (by omega) get_here) rfl rfl) ?_
 refine OA.p (some 30) (.bool false) rfl rfl rfl (r_bin rfl rfl rfl (b_neq rfl)) ?_
 refine OA.p (some 31) (.bool false) rfl rfl rfl rfl ?_
 refine OA.p (some 32) (.bool false) rfl rfl rfl rfl ?_
 refine OA.p (some 33) (.bool true) rfl rfl rfl rfl ?_
 refine OA.p (some 34) (.bool false) rfl rfl rfl rfl ?_
 refine OA.p (some 35) (.bool false) rfl rfl rfl rfl ?_
 refine OA.p (some 36) (.bool false) rfl rfl rfl rfl ?_
 refine OA.p (some 37) (W id) rfl rfl rfl rfl ?_
 refine OA.p (some 38) (Pt b 0 0) rfl rfl rfl rfl ?_
 refine OA.p (some 39) (Pt b 0 0) rfl rfl rfl rfl ?_
 refine OA.p (some 40) (Pt b 0 1) rfl rfl rfl rfl ?_
 refine OA.p (some 41) (W nx) rfl rfl rfl (r_load1 rfl rfl rfl rfl rfl (gt3 (by omega) hb) rfl rfl) ?_
 have hc2 : ¬ ((id.toNat : Int) ≠ (nx.toNat : Int)) := fun hdd => by exfalso; first | omega | (exact hdd rfl) | (exact hdd hid)
 refine OA.p (some 42) (.bool false) rfl rfl rfl (Eq.trans (r_bin rfl rfl rfl (b_neq rfl)) (dF hc2)) ?_
 refine OA.p (some 43) (.bool false) rfl rfl rfl rfl ?_
 refine OA.nil ?_
 intro _
 refine RA.rebase [(0, (Pt b 0 0)), (1, (.agg ⟨(xRa12 id k)⟩)), (3, (Pt n 0 0)), (4, (.int .i64 0)), (5, (.bool false)), (6, (Pt n1 0 0)), (8, (W id)), (9, (.int .i64 ((w : Nat) : Int))), (10, (.bool true)), (43, (.bool false))] ⟨rfl, rfl, rfl, rfl, rfl, rfl, rfl, rfl, rfl, rfl, trivial⟩ (fun τr4 => ?_)
 refine RA.condF rfl ?_
 refine RA.skip env_ok ?_
 intro _
 refine RA.seq hd ?_
 refine RA.region env_ok ?_
 refine OA.p (some 44) (Pt b 0 0) rfl rfl rfl rfl ?_
 refine OA.p (some 45) (Pt b 0 0) rfl rfl rfl rfl ?_
 refine OA.p (some 46) (Pt b 0 0) rfl rfl rfl rfl ?_
 refine OA.p (some 47) (.int .i64 ((want : Nat) : Int)) rfl rfl rfl (r_load1 rfl rfl rfl rfl rfl (gt3 (by omega) hb) rfl rfl) ?_
 refine OA.p (some 11) (.int .i64 ((want : Nat) : Int)) rfl rfl rfl rfl ?_
 refine OA.nil ?_
 intro _
 refine RA.seq hd ?_
 refine RA.region env_ok ?_
 refine OA.p (some 48) (Pt b 0 0) rfl rfl rfl rfl ?_
 refine OA.p (some 49) (Pt b 0 0) rfl rfl rfl rfl ?_
 refine OA.p (some 50) (Pt b 0 0) rfl rfl rfl rfl ?_
 refine OA.op1 (dst := none) (v := (.tuple #[])) (n1 := n3) (w := (b, some ⟨[(xRa17 nx at_ mn)], 6, 94, true⟩)) rfl rfl rfl (r_store rfl rfl rfl rfl rfl rfl rfl (gt3 (by omega) hb) rfl rfl (Nat.le_of_ble_eq_true rfl) rfl) (by omega) ?_
 refine OA.nil ?_
 intro _
 refine RA.seq hd ?_
 refine RA.region env_ok ?_
 refine OA.p (some 51) (Pt b 0 0) rfl rfl rfl rfl ?_
 refine OA.p (some 52) (Pt b 0 0) rfl rfl rfl rfl ?_
 refine OA.p (some 53) (Pt b 0 1) rfl rfl rfl rfl ?_
 refine OA.p (some 54) (W nx) rfl rfl rfl (r_load1 rfl rfl rfl rfl rfl get_here rfl rfl) ?_
 refine OA.p (some 55) (W (nx + (1#32))) rfl rfl rfl (r_bin rfl rfl rfl (b_addW nx (1#32))) ?_
 refine OA.p (some 56) (Pt b 0 0) rfl rfl rfl rfl ?_
 refine OA.p (some 57) (Pt b 0 1) rfl rfl rfl rfl ?_
 refine OA.op1 (dst := none) (v := (.tuple #[])) (n1 := n3) (w := (b, some ⟨[(xRa16 nx at_ mn)], 6, 94, true⟩)) rfl rfl rfl (r_store rfl rfl rfl rfl rfl rfl rfl get_here rfl rfl (Nat.le_of_ble_eq_true rfl) rfl) (by omega) ?_
 refine OA.nil ?_
 intro _
 refine RA.weaken (D' := [(b, some ⟨[(xRa16 nx at_ mn)], 6, 94, true⟩), (n1, some ⟨[[(.int .i64 16), (.string (resV id (BitVec.ofNat 32 w)))]], 2, 35, true⟩), (n, some ⟨[(xRa12 id k)], 15, 53, true⟩)]) hd (Less.of (fac (mm (fun _ => get_here) (fun _ => get_here)) (fac (mm (fun _ => (get_there (by omega) get_here)) (fun _ => (gt2 (by omega) get_here))) (fac (mm (fun _ => (gt2 (by omega) get_here)) (fun _ => (gt4 (by omega) get_here))) fan))) (gone_of (by simp only [goneP, memP, List.cons_append, List.nil_append, true_or, or_true, true_and, and_true, or_false] <;> omega))) ?_
 refine RA.seq hd ?_
 refine RA.seq hd ?_
 refine RA.region env_ok ?_
 refine OA.p (some 58) (.int .i64 ((w : Nat) : Int)) rfl rfl rfl rfl ?_
 have hc3 : ¬ (((w : Nat) : Int) ≠ 1) := fun hdd => by exfalso; first | omega | (exact hdd rfl) | (exact hdd hid)
 refine OA.p (some 59) (.bool false) rfl rfl rfl (Eq.trans (r_bin rfl rfl rfl (b_neq rfl)) (dF hc3)) ?_
 refine OA.nil ?_
 intro _
 refine RA.condF rfl ?_
 refine RA.skip env_ok ?_
 intro _
 refine RA.seq hd ?_
 refine RA.region env_ok ?_
 refine OA.p (some 60) (.int .i64 ((want : Nat) : Int)) rfl rfl rfl rfl ?_
 refine OA.p (some 4) (.int .i64 ((want : Nat) : Int)) rfl rfl rfl rfl ?_
 refine OA.p (some 5) (.bool true) rfl rfl rfl rfl ?_
 refine OA.nil ?_
 intro _
 refine RA.ret env_ok ?_
 refine ⟨.inr rfl, [(.int .i64 ((want : Nat) : Int)), (.bool true)], (resL_cons rfl (resL_cons rfl resL_nil)), [(b, some ⟨[(xRa16 nx at_ mn)], 6, 94, true⟩)], (Less.of (fac (mm (fun _ => get_here) (fun _ => get_here)) fan) (gone_of (by simp only [goneP, memP, List.cons_append, List.nil_append, true_or, or_true, true_and, and_true, or_false] <;> omega))), ⟨rfl, rfl⟩⟩

theorem aAns2 {n : Nat} {σ : Store} (hd : Dom n σ) (b : Nat) (want mn : Nat) (nx : BitVec 32) (at_ : Int) (k : Nat) (hbk : b ≠ k) (id : BitVec 32) (w : Nat) (hw : w = 1 ∨ w = 2) (tm : Nat) (h0 : want = 0 → tm = 0) (h1 : want ≠ 0 → tm = mn) (hid : (id.toNat : Int) = (nx.toNat : Int)) (ht : tm ≠ 0) (hw2 : w = 2) (hb : σ b = some ⟨[[(.int .i64 ((want : Nat) : Int)), (W nx), (.int .i64 at_), (.int .i64 ((mn : Nat) : Int)), (W 0#32), (.int .i64 0)]], 6, 94, true⟩) (hk : σ k = some ⟨[[(.int .i64 16), (.string (resV id (BitVec.ofNat 32 w)))]], 2, 35, true⟩)  : CQ Try.prog noDen 29 [(Pt b 0 0), (.agg ⟨[(.int .i64 130), (.int .i64 0), (W id), (.int .i64 0), (.int .i64 0), (.int .u32 0), (.string ByteArray.empty), (.int .u32 0), (.int .u32 0), (.int .i64 0), (.int .i64 0), (.slice (some ⟨k, 0, none⟩) 1 0), (.slice none 0 0), (.slice none 0 0), (.slice none 0 0)]⟩)] n σ (fun v n' d => v = (.tuple ⟨[(.int .i64 0), (.bool true)]⟩) ∧ d = [(b, some ⟨[[(.int .i64 0), (W (nx + 1#32)), (.int .i64 at_), (.int .i64 ((mn : Nat) : Int)), (W 0#32), (.int .i64 0)]], 6, 94, true⟩)]) := by
 have lhb := hd.lt hb
 have lhk := hd.lt hk
 refine CQ.body (E := env) env_ok hd rfl rfl (by show _ ≤ _; exact of_decide_eq_true (by kernel_rfl)) ?_
 refine RA.seq hd ?_
 refine RA.region env_ok ?_
 refine OA.op1 (dst := (some 3)) (v := (Pt n 0 0)) (n1 := (n + 1)) (w := (n, some ⟨[(xRa12 id k)], 15, 53, true⟩)) rfl rfl rfl rfl (by omega) ?_
 refine OA.p (some 4) (.int .i64 0) rfl rfl rfl rfl ?_
 refine OA.p (some 5) (.bool false) rfl rfl rfl rfl ?_
 refine OA.nil ?_
 intro _
 refine RA.seq hd ?_
 refine RA.region env_ok ?_
 refine OA.p (some 13) (Pt n 0 11) rfl rfl rfl rfl ?_
 refine OA.p (some 14) (.slice (some ⟨k, 0, none⟩) 1 0) rfl rfl rfl (r_load1 rfl rfl rfl rfl rfl get_here rfl rfl) ?_
 refine OA.callP (dst := (some 15)) (all := [(.slice (some ⟨k, 0, none⟩) 1 0), (.int .i64 16)]) (v := (.tuple ⟨[(.agg ⟨[(.int .i64 16), (.string (resV id (BitVec.ofNat 32 w)))]⟩), (.bool true)]⟩)) (hd.of (by omega) (kb1 (by omega))) rfl rfl rfl rfl rfl rfl rfl rfl (cFind16 k (resV id (BitVec.ofNat 32 w)) (get_there (by omega) hk)) ?_
 intro n1 hn1
 refine OA.p (some 12) (.tuple ⟨[(.agg ⟨[(.int .i64 16), (.string (resV id (BitVec.ofNat 32 w)))]⟩), (.bool true)]⟩) rfl rfl rfl rfl ?_
 refine OA.p (some 16) (.agg ⟨[(.int .i64 16), (.string (resV id (BitVec.ofNat 32 w)))]⟩) rfl rfl rfl rfl ?_
 refine OA.p (some 17) (.bool true) rfl rfl rfl rfl ?_
 refine OA.op1 (dst := (some 6)) (v := (Pt n1 0 0)) (n1 := (n1 + 1)) (w := (n1, some ⟨[[(.int .i64 0), (.string ByteArray.empty)]], 2, 35, true⟩)) rfl rfl rfl rfl (by omega) ?_
 refine OA.op1 (dst := none) (v := (.tuple #[])) (n1 := (n1 + 1)) (w := (n1, some ⟨[[(.int .i64 16), (.string (resV id (BitVec.ofNat 32 w)))]], 2, 35, true⟩)) rfl rfl rfl (r_store rfl rfl rfl rfl rfl rfl rfl get_here rfl rfl (Nat.le_of_ble_eq_true rfl) rfl) (by omega) ?_
 refine OA.p (some 7) (.bool true) rfl rfl rfl rfl ?_
 refine OA.nil ?_
 intro _
 refine RA.seq hd ?_
 refine RA.region env_ok ?_
 refine OA.p (some 19) (.agg ⟨[(.int .i64 16), (.string (resV id (BitVec.ofNat 32 w)))]⟩) rfl rfl rfl (r_loadA rfl rfl rfl rfl get_here rfl rfl rfl) ?_
 refine OA.callP (dst := (some 20)) (all := [(.agg ⟨[(.int .i64 16), (.string (resV id (BitVec.ofNat 32 w)))]⟩)]) (v := (.tuple ⟨[(W id), (.int .i64 ((w : Nat) : Int)), (.bool true)]⟩)) (hd.of (by omega) (kb3 (by omega))) rfl rfl rfl rfl rfl rfl rfl rfl (sRR1 id w (by omega) (by omega)) ?_
 intro n2 hn2
 refine OA.p (some 18) (.tuple ⟨[(W id), (.int .i64 ((w : Nat) : Int)), (.bool true)]⟩) rfl rfl rfl rfl ?_
 refine OA.p (some 21) (W id) rfl rfl rfl rfl ?_
 refine OA.p (some 22) (.int .i64 ((w : Nat) : Int)) rfl rfl rfl rfl ?_
 refine OA.p (some 23) (.bool true) rfl rfl rfl rfl ?_
 refine OA.p (some 8) (W id) rfl rfl rfl rfl ?_
 refine OA.p (some 9) (.int .i64 ((w : Nat) : Int)) rfl rfl rfl rfl ?_
 refine OA.p (some 10) (.bool true) rfl rfl rfl rfl ?_
 refine OA.nil ?_
 intro _
 refine RA.seq hd ?_
 refine RA.seq hd ?_
 refine RA.region env_ok ?_
 refine OA.p (some 24) (Pt b 0 0) rfl rfl rfl rfl ?_
 refine OA.callP (dst := (some 25)) (all := [(Pt b 0 0)]) (v := (.int .i64 ((tm : Nat) : Int))) (hd.of (by omega) (kb3 (by omega))) rfl rfl rfl rfl rfl rfl rfl rfl (aTimes b want mn nx at_ tm h0 h1 (gt3 (by omega) hb)) ?_
 intro n3 hn3
 have hc1 : ¬ (((tm : Nat) : Int) = 0) := fun hdd => by exfalso; first | omega | (exact hdd rfl) | (exact hdd hid)
 refine OA.p (some 26) (.bool false) rfl rfl rfl (Eq.trans (r_bin rfl rfl rfl (b_eql rfl)) (dF hc1)) ?_
 refine OA.p (some 27) (.bool false) rfl rfl rfl rfl ?_
 refine OA.p (some 28) (Pt n 0 0) rfl rfl rfl rfl ?_
 refine OA.p (some 29) (.int .i64 130) rfl rfl rfl (r_load1 rfl rfl rfl rfl rfl (gt2 (by omega) get_here) rfl rfl) ?_
 refine OA.p (some 30) (.bool false) rfl rfl rfl (r_bin rfl rfl rfl (b_neq rfl)) ?_
 refine OA.p (some 31) (.bool false) rfl rfl rfl rfl ?_
 refine OA.p (some 32) (.bool false) rfl rfl rfl rfl ?_
 refine OA.p (some 33) (.bool true) rfl rfl rfl rfl ?_
 refine OA.p (some 34) (.bool false) rfl rfl rfl rfl ?_
 refine OA.p (some 35) (.bool false) rfl rfl rfl rfl ?_
 refine OA.p (some 36) (.bool false) rfl rfl rfl rfl ?_
 refine OA.p (some 37) (W id) rfl rfl rfl rfl ?_
 refine OA.p (some 38) (Pt b 0 0) rfl rfl rfl rfl ?_
 refine OA.p (some 39) (Pt b 0 0) rfl rfl rfl rfl ?_
 refine OA.p (some 40) (Pt b 0 1) rfl rfl rfl rfl ?_
 refine OA.p (some 41) (W nx) rfl rfl rfl (r_load1 rfl rfl rfl rfl rfl (gt3 (by omega) hb) rfl rfl) ?_
 have hc2 : ¬ ((id.toNat : Int) ≠ (nx.toNat : Int)) := fun hdd => by exfalso; first | omega | (exact hdd rfl) | (exact hdd hid)
 refine OA.p (some 42) (.bool false) rfl rfl rfl (Eq.trans (r_bin rfl rfl rfl (b_neq rfl)) (dF hc2)) ?_
 refine OA.p (some 43) (.bool false) rfl rfl rfl rfl ?_
 refine OA.nil ?_
 intro _
 refine RA.rebase [(0, (Pt b 0 0)), (1, (.agg ⟨(xRa12 id k)⟩)), (3, (Pt n 0 0)), (4, (.int .i64 0)), (5, (.bool false)), (6, (Pt n1 0 0)), (8, (W id)), (9, (.int .i64 ((w : Nat) : Int))), (10, (.bool true)), (43, (.bool false))] ⟨rfl, rfl, rfl, rfl, rfl, rfl, rfl, rfl, rfl, rfl, trivial⟩ (fun τr4 => ?_)
 refine RA.condF rfl ?_
 refine RA.skip env_ok ?_
 intro _
 refine RA.seq hd ?_
 refine RA.region env_ok ?_
 refine OA.p (some 44) (Pt b 0 0) rfl rfl rfl rfl ?_
 refine OA.p (some 45) (Pt b 0 0) rfl rfl rfl rfl ?_
 refine OA.p (some 46) (Pt b 0 0) rfl rfl rfl rfl ?_
 refine OA.p (some 47) (.int .i64 ((want : Nat) : Int)) rfl rfl rfl (r_load1 rfl rfl rfl rfl rfl (gt3 (by omega) hb) rfl rfl) ?_
 refine OA.p (some 11) (.int .i64 ((want : Nat) : Int)) rfl rfl rfl rfl ?_
 refine OA.nil ?_
 intro _
 refine RA.seq hd ?_
 refine RA.region env_ok ?_
 refine OA.p (some 48) (Pt b 0 0) rfl rfl rfl rfl ?_
 refine OA.p (some 49) (Pt b 0 0) rfl rfl rfl rfl ?_
 refine OA.p (some 50) (Pt b 0 0) rfl rfl rfl rfl ?_
 refine OA.op1 (dst := none) (v := (.tuple #[])) (n1 := n3) (w := (b, some ⟨[(xRa17 nx at_ mn)], 6, 94, true⟩)) rfl rfl rfl (r_store rfl rfl rfl rfl rfl rfl rfl (gt3 (by omega) hb) rfl rfl (Nat.le_of_ble_eq_true rfl) rfl) (by omega) ?_
 refine OA.nil ?_
 intro _
 refine RA.seq hd ?_
 refine RA.region env_ok ?_
 refine OA.p (some 51) (Pt b 0 0) rfl rfl rfl rfl ?_
 refine OA.p (some 52) (Pt b 0 0) rfl rfl rfl rfl ?_
 refine OA.p (some 53) (Pt b 0 1) rfl rfl rfl rfl ?_
 refine OA.p (some 54) (W nx) rfl rfl rfl (r_load1 rfl rfl rfl rfl rfl get_here rfl rfl) ?_
 refine OA.p (some 55) (W (nx + (1#32))) rfl rfl rfl (r_bin rfl rfl rfl (b_addW nx (1#32))) ?_
 refine OA.p (some 56) (Pt b 0 0) rfl rfl rfl rfl ?_
 refine OA.p (some 57) (Pt b 0 1) rfl rfl rfl rfl ?_
 refine OA.op1 (dst := none) (v := (.tuple #[])) (n1 := n3) (w := (b, some ⟨[(xRa16 nx at_ mn)], 6, 94, true⟩)) rfl rfl rfl (r_store rfl rfl rfl rfl rfl rfl rfl get_here rfl rfl (Nat.le_of_ble_eq_true rfl) rfl) (by omega) ?_
 refine OA.nil ?_
 intro _
 refine RA.weaken (D' := [(b, some ⟨[(xRa16 nx at_ mn)], 6, 94, true⟩), (n1, some ⟨[[(.int .i64 16), (.string (resV id (BitVec.ofNat 32 w)))]], 2, 35, true⟩), (n, some ⟨[(xRa12 id k)], 15, 53, true⟩)]) hd (Less.of (fac (mm (fun _ => get_here) (fun _ => get_here)) (fac (mm (fun _ => (get_there (by omega) get_here)) (fun _ => (gt2 (by omega) get_here))) (fac (mm (fun _ => (gt2 (by omega) get_here)) (fun _ => (gt4 (by omega) get_here))) fan))) (gone_of (by simp only [goneP, memP, List.cons_append, List.nil_append, true_or, or_true, true_and, and_true, or_false] <;> omega))) ?_
 refine RA.seq hd ?_
 refine RA.seq hd ?_
 refine RA.region env_ok ?_
 refine OA.p (some 58) (.int .i64 ((w : Nat) : Int)) rfl rfl rfl rfl ?_
 have hc3 : ((w : Nat) : Int) ≠ 1 := Classical.byContradiction (fun hdd => by exfalso; first | omega | (exact hdd rfl) | (exact hdd hid))
 refine OA.p (some 59) (.bool true) rfl rfl rfl (Eq.trans (r_bin rfl rfl rfl (b_neq rfl)) (dT hc3)) ?_
 refine OA.nil ?_
 intro _
 refine RA.condT rfl ?_
 refine RA.seq hd ?_
 refine RA.region env_ok ?_
 refine OA.p (some 4) (.int .i64 0) rfl rfl rfl rfl ?_
 refine OA.p (some 5) (.bool true) rfl rfl rfl rfl ?_
 refine OA.nil ?_
 intro _
 refine RA.ret env_ok ?_
 refine ⟨.inr rfl, [(.int .i64 0), (.bool true)], (resL_cons rfl (resL_cons rfl resL_nil)), [(b, some ⟨[(xRa16 nx at_ mn)], 6, 94, true⟩)], (Less.of (fac (mm (fun _ => get_here) (fun _ => get_here)) fan) (gone_of (by simp only [goneP, memP, List.cons_append, List.nil_append, true_or, or_true, true_and, and_true, or_false] <;> omega))), ⟨rfl, rfl⟩⟩
end Go.Proofs.Ytgajcmanompmcaa.Vt
