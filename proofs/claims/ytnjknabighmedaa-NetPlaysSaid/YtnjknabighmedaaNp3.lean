/- Np3: walks through functions of the program, by the calculus; written by a program of this workplace. -/
import Derived.Test.YtnjknabighmedaaNp2
import Derived.Test.YtnjknabighmedaaVm5
namespace Go.Proofs.Ytnjknabighmedaa.Vt
open Go Go.Proofs Go.Proofs.YtnjknabighmedaaV
set_option maxRecDepth 100000
set_option linter.unusedVariables false
set_option linter.unusedSimpArgs false
def benti (x : Item) (bit : Int) : Item := ⟨x.leg, x.nat, x.fr, x.to, bentS x.s bit, true⟩
theorem set_two {l : List Item} {a : Nat} (h : a < l.length) (x : Item) (f : Item → Item) : (l.set a x).set a (f ((l.set a x).getD a dItem)) = l.set a (f x) := by
  rw [List.set_set, lset_self h]
abbrev xNp31 (l : List Item) (a : Nat) (bit : Int) : Item := (Item.mk (((l.set a (Item.mk ((l.getD a dItem).leg) ((l.getD a dItem).nat) ((l.getD a dItem).fr) ((l.getD a dItem).to) (bentS (l.getD a dItem).s bit) ((l.getD a dItem).bent))).getD a dItem).leg) (((l.set a (Item.mk ((l.getD a dItem).leg) ((l.getD a dItem).nat) ((l.getD a dItem).fr) ((l.getD a dItem).to) (bentS (l.getD a dItem).s bit) ((l.getD a dItem).bent))).getD a dItem).nat) (((l.set a (Item.mk ((l.getD a dItem).leg) ((l.getD a dItem).nat) ((l.getD a dItem).fr) ((l.getD a dItem).to) (bentS (l.getD a dItem).s bit) ((l.getD a dItem).bent))).getD a dItem).fr) (((l.set a (Item.mk ((l.getD a dItem).leg) ((l.getD a dItem).nat) ((l.getD a dItem).fr) ((l.getD a dItem).to) (bentS (l.getD a dItem).s bit) ((l.getD a dItem).bent))).getD a dItem).to) (((l.set a (Item.mk ((l.getD a dItem).leg) ((l.getD a dItem).nat) ((l.getD a dItem).fr) ((l.getD a dItem).to) (bentS (l.getD a dItem).s bit) ((l.getD a dItem).bent))).getD a dItem).s) true)
abbrev xNp32 (l : List Item) (a : Nat) (bit : Int) : Item := (Item.mk ((l.getD a dItem).leg) ((l.getD a dItem).nat) ((l.getD a dItem).fr) ((l.getD a dItem).to) (bentS (l.getD a dItem).s bit) ((l.getD a dItem).bent))
theorem nBendOA {n : Nat} {σ : Store} (hd : Dom n σ) (q : Nat) (at_ bit : Int) (hq : σ q = some ⟨[[(.slice none 0 0), (.int .i64 0)]], 2, 115, true⟩)  : CQ Try.prog noDen 39 [(Pt q 0 0), (.int .i64 at_), (.int .i64 bit)] n σ (fun v n' d => v = .bool false ∧ d = []) := by
 have lhq := hd.lt hq
 refine CQ.body (E := env) env_ok hd rfl rfl (by show _ ≤ _; exact of_decide_eq_true (by kernel_rfl)) ?_
 refine RA.seq hd ?_
 refine RA.region env_ok ?_
 refine OA.p (some 6) (.bool false) rfl rfl rfl rfl ?_
 refine OA.nil ?_
 intro _
 refine RA.seq hd ?_
 refine RA.seq hd ?_
 refine RA.region env_ok ?_
 refine OA.p (some 9) (Pt q 0 0) rfl rfl rfl rfl ?_
 refine OA.p (some 10) (.bool false) rfl rfl rfl rfl ?_
 refine OA.p (some 11) (.bool false) rfl rfl rfl rfl ?_
 refine OA.p (some 12) (.int .i64 at_) rfl rfl rfl rfl ?_
 by_cases hc1 : at_ < 0
 ·
  refine OA.p (some 13) (.bool true) rfl rfl rfl (Eq.trans (r_bin rfl rfl rfl (b_lss rfl)) (dT hc1)) ?_
  refine OA.p (some 14) (.bool true) rfl rfl rfl rfl ?_
  refine OA.p (some 15) (.bool true) rfl rfl rfl rfl ?_
  refine OA.off (dst := (some 16)) rfl rfl rfl ?_
  refine OA.off (dst := (some 17)) rfl rfl rfl ?_
  refine OA.off (dst := (some 18)) rfl rfl rfl ?_
  refine OA.off (dst := (some 19)) rfl rfl rfl ?_
  refine OA.off (dst := (some 20)) rfl rfl rfl ?_
  refine OA.off (dst := (some 21)) rfl rfl rfl ?_
  refine OA.off (dst := (some 22)) rfl rfl rfl ?_
  refine OA.p (some 23) (.bool true) rfl rfl rfl rfl ?_
  refine OA.p (some 24) (.bool true) rfl rfl rfl rfl ?_
  refine OA.off (dst := (some 25)) rfl rfl rfl ?_
  refine OA.off (dst := (some 26)) rfl rfl rfl ?_
  refine OA.off (dst := (some 27)) rfl rfl rfl ?_
  refine OA.off (dst := (some 28)) rfl rfl rfl ?_
  refine OA.off (dst := (some 29)) rfl rfl rfl ?_
  refine OA.off (dst := (some 30)) rfl rfl rfl ?_
  refine OA.off (dst := (some 31)) rfl rfl rfl ?_
  refine OA.off (dst := (some 32)) rfl rfl rfl ?_
  refine OA.p (some 33) (.bool true) rfl rfl rfl rfl ?_
  refine OA.p (some 34) (.bool true) rfl rfl rfl rfl ?_
  refine OA.off (dst := (some 35)) rfl rfl rfl ?_
  refine OA.off (dst := (some 36)) rfl rfl rfl ?_
  refine OA.off (dst := (some 37)) rfl rfl rfl ?_
  refine OA.off (dst := (some 38)) rfl rfl rfl ?_
  refine OA.off (dst := (some 39)) rfl rfl rfl ?_
  refine OA.off (dst := (some 40)) rfl rfl rfl ?_
  refine OA.off (dst := (some 41)) rfl rfl rfl ?_
  refine OA.off (dst := (some 42)) rfl rfl rfl ?_
  refine OA.off (dst := (some 43)) rfl rfl rfl ?_
  refine OA.off (dst := (some 44)) rfl rfl rfl ?_
  refine OA.p (some 45) (.bool true) rfl rfl rfl rfl ?_
  refine OA.nil ?_
  intro _
  refine RA.rebase [(0, (Pt q 0 0)), (1, (.int .i64 at_)), (2, (.int .i64 bit)), (6, (.bool false)), (45, (.bool true))] ⟨rfl, rfl, rfl, rfl, rfl, trivial⟩ (fun τr1 => ?_)
  refine RA.condT rfl ?_
  refine RA.seq hd ?_
  refine RA.region env_ok ?_
  refine OA.p (some 6) (.bool false) rfl rfl rfl rfl ?_
  refine OA.nil ?_
  intro _
  refine RA.ret env_ok ?_
  refine ⟨.inr rfl, [(.bool false)], (resL_cons rfl resL_nil), [], (Less.refl _ _ _), ⟨rfl, rfl⟩⟩
 ·
  refine OA.p (some 13) (.bool false) rfl rfl rfl (Eq.trans (r_bin rfl rfl rfl (b_lss rfl)) (dF hc1)) ?_
  refine OA.p (some 14) (.bool false) rfl rfl rfl rfl ?_
  refine OA.p (some 15) (.bool false) rfl rfl rfl rfl ?_
  refine OA.p (some 16) (.int .i64 at_) rfl rfl rfl rfl ?_
  refine OA.p (some 17) (Pt q 0 0) rfl rfl rfl rfl ?_
  refine OA.p (some 18) (Pt q 0 0) rfl rfl rfl rfl ?_
  refine OA.p (some 19) (Pt q 0 0) rfl rfl rfl rfl ?_
  refine OA.p (some 20) (.slice none 0 0) rfl rfl rfl (r_load1 rfl rfl rfl rfl rfl hq rfl rfl) ?_
  refine OA.p (some 21) (.int .i64 0) rfl rfl rfl rfl ?_
  have hc2 : 0 ≤ at_ := Classical.byContradiction (fun hdd => by exfalso; omega)
  refine OA.p (some 22) (.bool true) rfl rfl rfl (Eq.trans (r_bin rfl rfl rfl (b_geq rfl)) (dT hc2)) ?_
  refine OA.p (some 23) (.bool true) rfl rfl rfl rfl ?_
  refine OA.p (some 24) (.bool true) rfl rfl rfl rfl ?_
  refine OA.off (dst := (some 25)) rfl rfl rfl ?_
  refine OA.off (dst := (some 26)) rfl rfl rfl ?_
  refine OA.off (dst := (some 27)) rfl rfl rfl ?_
  refine OA.off (dst := (some 28)) rfl rfl rfl ?_
  refine OA.off (dst := (some 29)) rfl rfl rfl ?_
  refine OA.off (dst := (some 30)) rfl rfl rfl ?_
  refine OA.off (dst := (some 31)) rfl rfl rfl ?_
  refine OA.off (dst := (some 32)) rfl rfl rfl ?_
  refine OA.p (some 33) (.bool true) rfl rfl rfl rfl ?_
  refine OA.p (some 34) (.bool true) rfl rfl rfl rfl ?_
  refine OA.off (dst := (some 35)) rfl rfl rfl ?_
  refine OA.off (dst := (some 36)) rfl rfl rfl ?_
  refine OA.off (dst := (some 37)) rfl rfl rfl ?_
  refine OA.off (dst := (some 38)) rfl rfl rfl ?_
  refine OA.off (dst := (some 39)) rfl rfl rfl ?_
  refine OA.off (dst := (some 40)) rfl rfl rfl ?_
  refine OA.off (dst := (some 41)) rfl rfl rfl ?_
  refine OA.off (dst := (some 42)) rfl rfl rfl ?_
  refine OA.off (dst := (some 43)) rfl rfl rfl ?_
  refine OA.off (dst := (some 44)) rfl rfl rfl ?_
  refine OA.p (some 45) (.bool true) rfl rfl rfl rfl ?_
  refine OA.nil ?_
  intro _
  refine RA.rebase [(0, (Pt q 0 0)), (1, (.int .i64 at_)), (2, (.int .i64 bit)), (6, (.bool false)), (45, (.bool true))] ⟨rfl, rfl, rfl, rfl, rfl, trivial⟩ (fun τr2 => ?_)
  refine RA.condT rfl ?_
  refine RA.seq hd ?_
  refine RA.region env_ok ?_
  refine OA.p (some 6) (.bool false) rfl rfl rfl rfl ?_
  refine OA.nil ?_
  intro _
  refine RA.ret env_ok ?_
  refine ⟨.inr rfl, [(.bool false)], (resL_cons rfl resL_nil), [], (Less.refl _ _ _), ⟨rfl, rfl⟩⟩

theorem nBendOB {n : Nat} {σ : Store} (hd : Dom n σ) (q j N : Nat) (at_ bit : Int) (ha : ¬ (0 ≤ at_ ∧ at_ < (N : Int))) (hq : σ q = some ⟨[[(.slice (some ⟨j, 0, none⟩) N 0), (.int .i64 0)]], 2, 115, true⟩)  : CQ Try.prog noDen 39 [(Pt q 0 0), (.int .i64 at_), (.int .i64 bit)] n σ (fun v n' d => v = .bool false ∧ d = []) := by
 have lhq := hd.lt hq
 refine CQ.body (E := env) env_ok hd rfl rfl (by show _ ≤ _; exact of_decide_eq_true (by kernel_rfl)) ?_
 refine RA.seq hd ?_
 refine RA.region env_ok ?_
 refine OA.p (some 6) (.bool false) rfl rfl rfl rfl ?_
 refine OA.nil ?_
 intro _
 refine RA.seq hd ?_
 refine RA.seq hd ?_
 refine RA.region env_ok ?_
 refine OA.p (some 9) (Pt q 0 0) rfl rfl rfl rfl ?_
 refine OA.p (some 10) (.bool false) rfl rfl rfl rfl ?_
 refine OA.p (some 11) (.bool false) rfl rfl rfl rfl ?_
 refine OA.p (some 12) (.int .i64 at_) rfl rfl rfl rfl ?_
 by_cases hc1 : at_ < 0
 ·
  refine OA.p (some 13) (.bool true) rfl rfl rfl (Eq.trans (r_bin rfl rfl rfl (b_lss rfl)) (dT hc1)) ?_
  refine OA.p (some 14) (.bool true) rfl rfl rfl rfl ?_
  refine OA.p (some 15) (.bool true) rfl rfl rfl rfl ?_
  refine OA.off (dst := (some 16)) rfl rfl rfl ?_
  refine OA.off (dst := (some 17)) rfl rfl rfl ?_
  refine OA.off (dst := (some 18)) rfl rfl rfl ?_
  refine OA.off (dst := (some 19)) rfl rfl rfl ?_
  refine OA.off (dst := (some 20)) rfl rfl rfl ?_
  refine OA.off (dst := (some 21)) rfl rfl rfl ?_
  refine OA.off (dst := (some 22)) rfl rfl rfl ?_
  refine OA.p (some 23) (.bool true) rfl rfl rfl rfl ?_
  refine OA.p (some 24) (.bool true) rfl rfl rfl rfl ?_
  refine OA.off (dst := (some 25)) rfl rfl rfl ?_
  refine OA.off (dst := (some 26)) rfl rfl rfl ?_
  refine OA.off (dst := (some 27)) rfl rfl rfl ?_
  refine OA.off (dst := (some 28)) rfl rfl rfl ?_
  refine OA.off (dst := (some 29)) rfl rfl rfl ?_
  refine OA.off (dst := (some 30)) rfl rfl rfl ?_
  refine OA.off (dst := (some 31)) rfl rfl rfl ?_
  refine OA.off (dst := (some 32)) rfl rfl rfl ?_
  refine OA.p (some 33) (.bool true) rfl rfl rfl rfl ?_
  refine OA.p (some 34) (.bool true) rfl rfl rfl rfl ?_
  refine OA.off (dst := (some 35)) rfl rfl rfl ?_
  refine OA.off (dst := (some 36)) rfl rfl rfl ?_
  refine OA.off (dst := (some 37)) rfl rfl rfl ?_
  refine OA.off (dst := (some 38)) rfl rfl rfl ?_
  refine OA.off (dst := (some 39)) rfl rfl rfl ?_
  refine OA.off (dst := (some 40)) rfl rfl rfl ?_
  refine OA.off (dst := (some 41)) rfl rfl rfl ?_
  refine OA.off (dst := (some 42)) rfl rfl rfl ?_
  refine OA.off (dst := (some 43)) rfl rfl rfl ?_
  refine OA.off (dst := (some 44)) rfl rfl rfl ?_
  refine OA.p (some 45) (.bool true) rfl rfl rfl rfl ?_
  refine OA.nil ?_
  intro _
  refine RA.rebase [(0, (Pt q 0 0)), (1, (.int .i64 at_)), (2, (.int .i64 bit)), (6, (.bool false)), (45, (.bool true))] ⟨rfl, rfl, rfl, rfl, rfl, trivial⟩ (fun τr1 => ?_)
  refine RA.condT rfl ?_
  refine RA.seq hd ?_
  refine RA.region env_ok ?_
  refine OA.p (some 6) (.bool false) rfl rfl rfl rfl ?_
  refine OA.nil ?_
  intro _
  refine RA.ret env_ok ?_
  refine ⟨.inr rfl, [(.bool false)], (resL_cons rfl resL_nil), [], (Less.refl _ _ _), ⟨rfl, rfl⟩⟩
 ·
  refine OA.p (some 13) (.bool false) rfl rfl rfl (Eq.trans (r_bin rfl rfl rfl (b_lss rfl)) (dF hc1)) ?_
  refine OA.p (some 14) (.bool false) rfl rfl rfl rfl ?_
  refine OA.p (some 15) (.bool false) rfl rfl rfl rfl ?_
  refine OA.p (some 16) (.int .i64 at_) rfl rfl rfl rfl ?_
  refine OA.p (some 17) (Pt q 0 0) rfl rfl rfl rfl ?_
  refine OA.p (some 18) (Pt q 0 0) rfl rfl rfl rfl ?_
  refine OA.p (some 19) (Pt q 0 0) rfl rfl rfl rfl ?_
  refine OA.p (some 20) (.slice (some ⟨j, 0, none⟩) N 0) rfl rfl rfl (r_load1 rfl rfl rfl rfl rfl hq rfl rfl) ?_
  refine OA.p (some 21) (.int .i64 ((N : Nat) : Int)) rfl rfl rfl rfl ?_
  have hc2 : ((N : Nat) : Int) ≤ at_ := Classical.byContradiction (fun hdd => by exfalso; omega)
  refine OA.p (some 22) (.bool true) rfl rfl rfl (Eq.trans (r_bin rfl rfl rfl (b_geq rfl)) (dT hc2)) ?_
  refine OA.p (some 23) (.bool true) rfl rfl rfl rfl ?_
  refine OA.p (some 24) (.bool true) rfl rfl rfl rfl ?_
  refine OA.off (dst := (some 25)) rfl rfl rfl ?_
  refine OA.off (dst := (some 26)) rfl rfl rfl ?_
  refine OA.off (dst := (some 27)) rfl rfl rfl ?_
  refine OA.off (dst := (some 28)) rfl rfl rfl ?_
  refine OA.off (dst := (some 29)) rfl rfl rfl ?_
  refine OA.off (dst := (some 30)) rfl rfl rfl ?_
  refine OA.off (dst := (some 31)) rfl rfl rfl ?_
  refine OA.off (dst := (some 32)) rfl rfl rfl ?_
  refine OA.p (some 33) (.bool true) rfl rfl rfl rfl ?_
  refine OA.p (some 34) (.bool true) rfl rfl rfl rfl ?_
  refine OA.off (dst := (some 35)) rfl rfl rfl ?_
  refine OA.off (dst := (some 36)) rfl rfl rfl ?_
  refine OA.off (dst := (some 37)) rfl rfl rfl ?_
  refine OA.off (dst := (some 38)) rfl rfl rfl ?_
  refine OA.off (dst := (some 39)) rfl rfl rfl ?_
  refine OA.off (dst := (some 40)) rfl rfl rfl ?_
  refine OA.off (dst := (some 41)) rfl rfl rfl ?_
  refine OA.off (dst := (some 42)) rfl rfl rfl ?_
  refine OA.off (dst := (some 43)) rfl rfl rfl ?_
  refine OA.off (dst := (some 44)) rfl rfl rfl ?_
  refine OA.p (some 45) (.bool true) rfl rfl rfl rfl ?_
  refine OA.nil ?_
  intro _
  refine RA.rebase [(0, (Pt q 0 0)), (1, (.int .i64 at_)), (2, (.int .i64 bit)), (6, (.bool false)), (45, (.bool true))] ⟨rfl, rfl, rfl, rfl, rfl, trivial⟩ (fun τr2 => ?_)
  refine RA.condT rfl ?_
  refine RA.seq hd ?_
  refine RA.region env_ok ?_
  refine OA.p (some 6) (.bool false) rfl rfl rfl rfl ?_
  refine OA.nil ?_
  intro _
  refine RA.ret env_ok ?_
  refine ⟨.inr rfl, [(.bool false)], (resL_cons rfl resL_nil), [], (Less.refl _ _ _), ⟨rfl, rfl⟩⟩

theorem nBendX {n : Nat} {σ : Store} (hd : Dom n σ) (q j N : Nat) (l : List Item) (hl : l.length = N) (hN : N ≤ 200) (hqj : q ≠ j) (bit : Int) (a : Nat) (ha : a < N) (hx : (l.getD a dItem).bent = true ∨ (l.getD a dItem).s = ByteArray.mk #[]) (hq : σ q = some ⟨[[(.slice (some ⟨j, 0, none⟩) N 0), (.int .i64 0)]], 2, 115, true⟩) (hj : σ j = some (oItem l))  : CQ Try.prog noDen 39 [(Pt q 0 0), (.int .i64 ((a : Nat) : Int)), (.int .i64 bit)] n σ (fun v n' d => v = .bool false ∧ d = []) := by
 have lhq := hd.lt hq
 have lhj := hd.lt hj
 refine CQ.body (E := env) env_ok hd rfl rfl (by show _ ≤ _; exact of_decide_eq_true (by kernel_rfl)) ?_
 refine RA.seq hd ?_
 refine RA.region env_ok ?_
 refine OA.p (some 6) (.bool false) rfl rfl rfl rfl ?_
 refine OA.nil ?_
 intro _
 refine RA.seq hd ?_
 refine RA.seq hd ?_
 refine RA.region env_ok ?_
 refine OA.p (some 9) (Pt q 0 0) rfl rfl rfl rfl ?_
 refine OA.p (some 10) (.bool false) rfl rfl rfl rfl ?_
 refine OA.p (some 11) (.bool false) rfl rfl rfl rfl ?_
 refine OA.p (some 12) (.int .i64 ((a : Nat) : Int)) rfl rfl rfl rfl ?_
 have hc1 : ¬ (((a : Nat) : Int) < 0) := fun hdd => by exfalso; first | omega | (exact hx.elim (fun q => hnb q) (fun q => hdd q))
 refine OA.p (some 13) (.bool false) rfl rfl rfl (Eq.trans (r_bin rfl rfl rfl (b_lss rfl)) (dF hc1)) ?_
 refine OA.p (some 14) (.bool false) rfl rfl rfl rfl ?_
 refine OA.p (some 15) (.bool false) rfl rfl rfl rfl ?_
 refine OA.p (some 16) (.int .i64 ((a : Nat) : Int)) rfl rfl rfl rfl ?_
 refine OA.p (some 17) (Pt q 0 0) rfl rfl rfl rfl ?_
 refine OA.p (some 18) (Pt q 0 0) rfl rfl rfl rfl ?_
 refine OA.p (some 19) (Pt q 0 0) rfl rfl rfl rfl ?_
 refine OA.p (some 20) (.slice (some ⟨j, 0, none⟩) N 0) rfl rfl rfl (r_load1 rfl rfl rfl rfl rfl hq rfl rfl) ?_
 refine OA.p (some 21) (.int .i64 ((N : Nat) : Int)) rfl rfl rfl rfl ?_
 have hc2 : ¬ (((N : Nat) : Int) ≤ ((a : Nat) : Int)) := fun hdd => by exfalso; first | omega | (exact hx.elim (fun q => hnb q) (fun q => hdd q))
 refine OA.p (some 22) (.bool false) rfl rfl rfl (Eq.trans (r_bin rfl rfl rfl (b_geq rfl)) (dF hc2)) ?_
 refine OA.p (some 23) (.bool false) rfl rfl rfl rfl ?_
 refine OA.p (some 24) (.bool false) rfl rfl rfl rfl ?_
 refine OA.p (some 25) (Pt q 0 0) rfl rfl rfl rfl ?_
 refine OA.p (some 26) (Pt q 0 0) rfl rfl rfl rfl ?_
 refine OA.p (some 27) (Pt q 0 0) rfl rfl rfl rfl ?_
 refine OA.p (some 28) (.slice (some ⟨j, 0, none⟩) N 0) rfl rfl rfl (r_load1 rfl rfl rfl rfl rfl hq rfl rfl) ?_
 refine OA.p (some 29) (.int .i64 ((a : Nat) : Int)) rfl rfl rfl rfl ?_
 refine OA.p (some 30) (Pt j a 0) rfl rfl rfl (r_iaS (l := a) rfl rfl rfl rfl rfl rfl (by omega) (by omega) hj rfl (by omega)) ?_
 refine OA.p (some 31) (Pt j a 5) rfl rfl rfl rfl ?_
 by_cases hc3 : (l.getD a dItem).bent = true
 ·
  refine OA.p (some 32) (.bool true) rfl rfl rfl (Eq.trans (r_loadF (c := cItem) dItem rfl rfl rfl rfl rfl hj (by rw [hl]; omega) rfl) (bT hc3)) ?_
  refine OA.p (some 33) (.bool true) rfl rfl rfl rfl ?_
  refine OA.p (some 34) (.bool true) rfl rfl rfl rfl ?_
  refine OA.off (dst := (some 35)) rfl rfl rfl ?_
  refine OA.off (dst := (some 36)) rfl rfl rfl ?_
  refine OA.off (dst := (some 37)) rfl rfl rfl ?_
  refine OA.off (dst := (some 38)) rfl rfl rfl ?_
  refine OA.off (dst := (some 39)) rfl rfl rfl ?_
  refine OA.off (dst := (some 40)) rfl rfl rfl ?_
  refine OA.off (dst := (some 41)) rfl rfl rfl ?_
  refine OA.off (dst := (some 42)) rfl rfl rfl ?_
  refine OA.off (dst := (some 43)) rfl rfl rfl ?_
  refine OA.off (dst := (some 44)) rfl rfl rfl ?_
  refine OA.p (some 45) (.bool true) rfl rfl rfl rfl ?_
  refine OA.nil ?_
  intro _
  refine RA.rebase [(0, (Pt q 0 0)), (1, (.int .i64 ((a : Nat) : Int))), (2, (.int .i64 bit)), (6, (.bool false)), (45, (.bool true))] ⟨rfl, rfl, rfl, rfl, rfl, trivial⟩ (fun τr1 => ?_)
  refine RA.condT rfl ?_
  refine RA.seq hd ?_
  refine RA.region env_ok ?_
  refine OA.p (some 6) (.bool false) rfl rfl rfl rfl ?_
  refine OA.nil ?_
  intro _
  refine RA.ret env_ok ?_
  refine ⟨.inr rfl, [(.bool false)], (resL_cons rfl resL_nil), [], (Less.refl _ _ _), ⟨rfl, rfl⟩⟩
 ·
  have hnb := hc3
  refine OA.p (some 32) (.bool false) rfl rfl rfl (Eq.trans (r_loadF (c := cItem) dItem rfl rfl rfl rfl rfl hj (by rw [hl]; omega) rfl) (bF hc3)) ?_
  refine OA.p (some 33) (.bool false) rfl rfl rfl rfl ?_
  refine OA.p (some 34) (.bool false) rfl rfl rfl rfl ?_
  refine OA.p (some 35) (Pt q 0 0) rfl rfl rfl rfl ?_
  refine OA.p (some 36) (Pt q 0 0) rfl rfl rfl rfl ?_
  refine OA.p (some 37) (Pt q 0 0) rfl rfl rfl rfl ?_
  refine OA.p (some 38) (.slice (some ⟨j, 0, none⟩) N 0) rfl rfl rfl (r_load1 rfl rfl rfl rfl rfl hq rfl rfl) ?_
  refine OA.p (some 39) (.int .i64 ((a : Nat) : Int)) rfl rfl rfl rfl ?_
  refine OA.p (some 40) (Pt j a 0) rfl rfl rfl (r_iaS (l := a) rfl rfl rfl rfl rfl rfl (by omega) (by omega) hj rfl (by omega)) ?_
  refine OA.p (some 41) (Pt j a 2) rfl rfl rfl rfl ?_
  refine OA.p (some 42) (Pt j a 4) rfl rfl rfl rfl ?_
  refine OA.p (some 43) (.string (l.getD a dItem).s) rfl rfl rfl (r_loadF (c := cItem) dItem rfl rfl rfl rfl rfl hj (by rw [hl]; omega) rfl) ?_
  have hc4 : (l.getD a dItem).s = (ByteArray.mk #[]) := Classical.byContradiction (fun hdd => by exfalso; first | omega | (exact hx.elim (fun q => hnb q) (fun q => hdd q)))
  refine OA.p (some 44) (.bool true) rfl rfl rfl (Eq.trans (r_eqlS rfl rfl rfl) (dT hc4)) ?_
  refine OA.p (some 45) (.bool true) rfl rfl rfl rfl ?_
  refine OA.nil ?_
  intro _
  refine RA.rebase [(0, (Pt q 0 0)), (1, (.int .i64 ((a : Nat) : Int))), (2, (.int .i64 bit)), (6, (.bool false)), (45, (.bool true))] ⟨rfl, rfl, rfl, rfl, rfl, trivial⟩ (fun τr2 => ?_)
  refine RA.condT rfl ?_
  refine RA.seq hd ?_
  refine RA.region env_ok ?_
  refine OA.p (some 6) (.bool false) rfl rfl rfl rfl ?_
  refine OA.nil ?_
  intro _
  refine RA.ret env_ok ?_
  refine ⟨.inr rfl, [(.bool false)], (resL_cons rfl resL_nil), [], (Less.refl _ _ _), ⟨rfl, rfl⟩⟩

theorem nBend {n : Nat} {σ : Store} (hd : Dom n σ) (q j N : Nat) (l : List Item) (hl : l.length = N) (hN : N ≤ 200) (hqj : q ≠ j) (bit : Int) (a : Nat) (ha : a < N) (hz : (l.getD a dItem).s.size ≤ 10) (hb : ¬ (l.getD a dItem).bent = true) (hs : ¬ (l.getD a dItem).s = ByteArray.mk #[]) (hq : σ q = some ⟨[[(.slice (some ⟨j, 0, none⟩) N 0), (.int .i64 0)]], 2, 115, true⟩) (hj : σ j = some (oItem l))  : CQ Try.prog noDen 39 [(Pt q 0 0), (.int .i64 ((a : Nat) : Int)), (.int .i64 bit)] n σ (fun v n' d => v = .bool true ∧ d = [(j, some (oItem (l.set a (benti (l.getD a dItem) bit))))]) := by
 have lhq := hd.lt hq
 have lhj := hd.lt hj
 have hpos := size_pos hs
 refine CQ.body (E := env) env_ok hd rfl rfl (by show _ ≤ _; exact of_decide_eq_true (by kernel_rfl)) ?_
 refine RA.seq hd ?_
 refine RA.region env_ok ?_
 refine OA.p (some 6) (.bool false) rfl rfl rfl rfl ?_
 refine OA.nil ?_
 intro _
 refine RA.seq hd ?_
 refine RA.seq hd ?_
 refine RA.region env_ok ?_
 refine OA.p (some 9) (Pt q 0 0) rfl rfl rfl rfl ?_
 refine OA.p (some 10) (.bool false) rfl rfl rfl rfl ?_
 refine OA.p (some 11) (.bool false) rfl rfl rfl rfl ?_
 refine OA.p (some 12) (.int .i64 ((a : Nat) : Int)) rfl rfl rfl rfl ?_
 have hc1 : ¬ (((a : Nat) : Int) < 0) := fun hdd => by exfalso; first | omega | (exact hb hdd) | (exact hs hdd)
 refine OA.p (some 13) (.bool false) rfl rfl rfl (Eq.trans (r_bin rfl rfl rfl (b_lss rfl)) (dF hc1)) ?_
 refine OA.p (some 14) (.bool false) rfl rfl rfl rfl ?_
 refine OA.p (some 15) (.bool false) rfl rfl rfl rfl ?_
 refine OA.p (some 16) (.int .i64 ((a : Nat) : Int)) rfl rfl rfl rfl ?_
 refine OA.p (some 17) (Pt q 0 0) rfl rfl rfl rfl ?_
 refine OA.p (some 18) (Pt q 0 0) rfl rfl rfl rfl ?_
 refine OA.p (some 19) (Pt q 0 0) rfl rfl rfl rfl ?_
 refine OA.p (some 20) (.slice (some ⟨j, 0, none⟩) N 0) rfl rfl rfl (r_load1 rfl rfl rfl rfl rfl hq rfl rfl) ?_
 refine OA.p (some 21) (.int .i64 ((N : Nat) : Int)) rfl rfl rfl rfl ?_
 have hc2 : ¬ (((N : Nat) : Int) ≤ ((a : Nat) : Int)) := fun hdd => by exfalso; first | omega | (exact hb hdd) | (exact hs hdd)
 refine OA.p (some 22) (.bool false) rfl rfl rfl (Eq.trans (r_bin rfl rfl rfl (b_geq rfl)) (dF hc2)) ?_
 refine OA.p (some 23) (.bool false) rfl rfl rfl rfl ?_
 refine OA.p (some 24) (.bool false) rfl rfl rfl rfl ?_
 refine OA.p (some 25) (Pt q 0 0) rfl rfl rfl rfl ?_
 refine OA.p (some 26) (Pt q 0 0) rfl rfl rfl rfl ?_
 refine OA.p (some 27) (Pt q 0 0) rfl rfl rfl rfl ?_
 refine OA.p (some 28) (.slice (some ⟨j, 0, none⟩) N 0) rfl rfl rfl (r_load1 rfl rfl rfl rfl rfl hq rfl rfl) ?_
 refine OA.p (some 29) (.int .i64 ((a : Nat) : Int)) rfl rfl rfl rfl ?_
 refine OA.p (some 30) (Pt j a 0) rfl rfl rfl (r_iaS (l := a) rfl rfl rfl rfl rfl rfl (by omega) (by omega) hj rfl (by omega)) ?_
 refine OA.p (some 31) (Pt j a 5) rfl rfl rfl rfl ?_
 have hc3 : ¬ ((l.getD a dItem).bent = true) := fun hdd => by exfalso; first | omega | (exact hb hdd) | (exact hs hdd)
 refine OA.p (some 32) (.bool false) rfl rfl rfl (Eq.trans (r_loadF (c := cItem) dItem rfl rfl rfl rfl rfl hj (by rw [hl]; omega) rfl) (bF hc3)) ?_
 refine OA.p (some 33) (.bool false) rfl rfl rfl rfl ?_
 refine OA.p (some 34) (.bool false) rfl rfl rfl rfl ?_
 refine OA.p (some 35) (Pt q 0 0) rfl rfl rfl rfl ?_
 refine OA.p (some 36) (Pt q 0 0) rfl rfl rfl rfl ?_
 refine OA.p (some 37) (Pt q 0 0) rfl rfl rfl rfl ?_
 refine OA.p (some 38) (.slice (some ⟨j, 0, none⟩) N 0) rfl rfl rfl (r_load1 rfl rfl rfl rfl rfl hq rfl rfl) ?_
 refine OA.p (some 39) (.int .i64 ((a : Nat) : Int)) rfl rfl rfl rfl ?_
 refine OA.p (some 40) (Pt j a 0) rfl rfl rfl (r_iaS (l := a) rfl rfl rfl rfl rfl rfl (by omega) (by omega) hj rfl (by omega)) ?_
 refine OA.p (some 41) (Pt j a 2) rfl rfl rfl rfl ?_
 refine OA.p (some 42) (Pt j a 4) rfl rfl rfl rfl ?_
 refine OA.p (some 43) (.string (l.getD a dItem).s) rfl rfl rfl (r_loadF (c := cItem) dItem rfl rfl rfl rfl rfl hj (by rw [hl]; omega) rfl) ?_
 have hc4 : ¬ ((l.getD a dItem).s = (ByteArray.mk #[])) := fun hdd => by exfalso; first | omega | (exact hb hdd) | (exact hs hdd)
 refine OA.p (some 44) (.bool false) rfl rfl rfl (Eq.trans (r_eqlS rfl rfl rfl) (dF hc4)) ?_
 refine OA.p (some 45) (.bool false) rfl rfl rfl rfl ?_
 refine OA.nil ?_
 intro _
 refine RA.rebase [(0, (Pt q 0 0)), (1, (.int .i64 ((a : Nat) : Int))), (2, (.int .i64 bit)), (6, (.bool false)), (45, (.bool false))] ⟨rfl, rfl, rfl, rfl, rfl, trivial⟩ (fun τr1 => ?_)
 refine RA.condF rfl ?_
 refine RA.skip env_ok ?_
 intro _
 refine RA.seq hd ?_
 refine RA.region env_ok ?_
 refine OA.p (some 46) (Pt q 0 0) rfl rfl rfl rfl ?_
 refine OA.p (some 47) (Pt q 0 0) rfl rfl rfl rfl ?_
 refine OA.p (some 48) (Pt q 0 0) rfl rfl rfl rfl ?_
 refine OA.p (some 49) (.slice (some ⟨j, 0, none⟩) N 0) rfl rfl rfl (r_load1 rfl rfl rfl rfl rfl hq rfl rfl) ?_
 refine OA.p (some 50) (.int .i64 ((a : Nat) : Int)) rfl rfl rfl rfl ?_
 refine OA.p (some 51) (Pt j a 0) rfl rfl rfl (r_iaS (l := a) rfl rfl rfl rfl rfl rfl (by omega) (by omega) hj rfl (by omega)) ?_
 refine OA.p (some 52) (Pt j a 2) rfl rfl rfl rfl ?_
 refine OA.p (some 53) (Pt j a 4) rfl rfl rfl rfl ?_
 refine OA.p (some 54) (.string (l.getD a dItem).s) rfl rfl rfl (r_loadF (c := cItem) dItem rfl rfl rfl rfl rfl hj (by rw [hl]; omega) rfl) ?_
 refine OA.op1 (dst := (some 55)) (v := (.slice (some ⟨n, 0, none⟩) (l.getD a dItem).s.size 0)) (n1 := (n + 1)) (w := (n, some ⟨(bc (L (l.getD a dItem).s)), 1, 5, true⟩)) rfl rfl rfl (r_s2b (S' := (l.getD a dItem).s) rfl rfl rfl rfl rfl rfl rfl rfl) (by omega) ?_
 refine OA.p (some 7) (.slice (some ⟨n, 0, none⟩) (l.getD a dItem).s.size 0) rfl rfl rfl rfl ?_
 refine OA.nil ?_
 intro _
 refine RA.seq hd ?_
 refine RA.region env_ok ?_
 refine OA.p (some 56) (.int .i64 bit) rfl rfl rfl rfl ?_
 refine OA.p (some 57) (.slice (some ⟨n, 0, none⟩) (l.getD a dItem).s.size 0) rfl rfl rfl rfl ?_
 refine OA.p (some 58) (.int .i64 (((l.getD a dItem).s.size : Nat) : Int)) rfl rfl rfl rfl ?_
 refine OA.p (some 59) (.int .i64 (((8 * (l.getD a dItem).s.size) : Nat) : Int)) rfl rfl rfl (r_bin rfl rfl rfl (b_mul (i64_eq (by omega)))) ?_
 refine OA.p (some 60) (.int .i64 (bit.tmod (((8 * (l.getD a dItem).s.size) : Nat) : Int))) rfl rfl rfl (r_bin rfl rfl rfl (b_rem (by omega) rfl)) ?_
 refine OA.p (some 8) (.int .i64 (bit.tmod (((8 * (l.getD a dItem).s.size) : Nat) : Int))) rfl rfl rfl rfl ?_
 refine OA.nil ?_
 intro _
 refine RA.seq hd ?_
 refine RA.seq hd ?_
 refine RA.region env_ok ?_
 refine OA.p (some 61) (.int .i64 (bit.tmod (((8 * (l.getD a dItem).s.size) : Nat) : Int))) rfl rfl rfl rfl ?_
 by_cases hc5 : (bit.tmod (((8 * (l.getD a dItem).s.size) : Nat) : Int)) < 0
 ·
  have hbk := bk_neg hpos hc5
  have hlt := bk_lt (bit := bit) hpos
  refine OA.p (some 62) (.bool true) rfl rfl rfl (Eq.trans (r_bin rfl rfl rfl (b_lss rfl)) (dT hc5)) ?_
  refine OA.nil ?_
  intro _
  refine RA.condT rfl ?_
  refine RA.region env_ok ?_
  refine OA.p (some 63) (.int .i64 (bit.tmod (((8 * (l.getD a dItem).s.size) : Nat) : Int))) rfl rfl rfl rfl ?_
  refine OA.p (some 64) (.slice (some ⟨n, 0, none⟩) (l.getD a dItem).s.size 0) rfl rfl rfl rfl ?_
  refine OA.p (some 65) (.int .i64 (((l.getD a dItem).s.size : Nat) : Int)) rfl rfl rfl rfl ?_
  refine OA.p (some 66) (.int .i64 (((8 * (l.getD a dItem).s.size) : Nat) : Int)) rfl rfl rfl (r_bin rfl rfl rfl (b_mul (i64_eq (by omega)))) ?_
  refine OA.p (some 67) (.int .i64 (((bk bit (l.getD a dItem).s.size) : Nat) : Int)) rfl rfl rfl (r_bin rfl rfl rfl (b_add (i64_eq (by omega)))) ?_
  refine OA.p (some 8) (.int .i64 (((bk bit (l.getD a dItem).s.size) : Nat) : Int)) rfl rfl rfl rfl ?_
  refine OA.nil ?_
  intro _
  refine RA.rebase [(0, (Pt q 0 0)), (1, (.int .i64 ((a : Nat) : Int))), (2, (.int .i64 bit)), (6, (.bool false)), (7, (.slice (some ⟨n, 0, none⟩) (l.getD a dItem).s.size 0)), (8, (.int .i64 (((bk bit (l.getD a dItem).s.size) : Nat) : Int))), (45, (.bool false)), (62, (.bool true))] ⟨rfl, rfl, rfl, rfl, rfl, rfl, rfl, rfl, trivial⟩ (fun τr2 => ?_)
  refine RA.seq hd ?_
  refine RA.par (md := [some [], some [], some [], some [n], some [n], some [], some [], some [], some [], some [n], none]) env_ok (hd.of (by omega) (kb1 (by omega))) (by kernel_rfl) ?_
  refine PQ.pure (dst := (some 68)) (v := (.slice (some ⟨n, 0, none⟩) (l.getD a dItem).s.size 0)) rfl rfl rfl noStore (none_ok _ _) rfl ?_
  refine PQ.pure (dst := (some 69)) (v := (.int .i64 (((bk bit (l.getD a dItem).s.size) : Nat) : Int))) rfl rfl rfl noStore (none_ok _ _) rfl ?_
  refine PQ.pure (dst := (some 70)) (v := (.int .i64 ((((bk bit (l.getD a dItem).s.size) / 8) : Nat) : Int))) rfl rfl rfl noStore (none_ok _ _) (r_bin rfl rfl rfl (b_quoN (a := (bk bit (l.getD a dItem).s.size)) (c := 8) (by decide) (i64_eq (by omega)))) ?_
  refine PQ.pure (dst := (some 71)) (v := (.pointer (some ⟨n, ((bk bit (l.getD a dItem).s.size) / 8), some 0⟩))) rfl rfl rfl (app [(n, some ⟨(bc (L (l.getD a dItem).s)), 1, 5, true⟩)] noStore) (seen_one (V := []) (D := [(n, some ⟨(bc (L (l.getD a dItem).s)), 1, 5, true⟩)]) (by kernel_rfl) get_here) (r_iaS (l := ((bk bit (l.getD a dItem).s.size) / 8)) rfl rfl rfl rfl rfl rfl (by omega) (by omega) get_here rfl (by omega)) ?_
  refine PQ.pure (dst := (some 72)) (v := (.int .u8 ((((L (l.getD a dItem).s).getD ((bk bit (l.getD a dItem).s.size) / 8) 0).toNat : Nat) : Int))) rfl rfl rfl (app [(n, some ⟨(bc (L (l.getD a dItem).s)), 1, 5, true⟩)] noStore) (seen_one (V := []) (D := [(n, some ⟨(bc (L (l.getD a dItem).s)), 1, 5, true⟩)]) (by kernel_rfl) get_here) (r_loadB rfl rfl rfl rfl rfl get_here (by rw [L_len]; omega)) ?_
  refine PQ.pure (dst := (some 73)) (v := (.int .i64 (((bk bit (l.getD a dItem).s.size) : Nat) : Int))) rfl rfl rfl noStore (none_ok _ _) rfl ?_
  refine PQ.pure (dst := (some 74)) (v := (.int .i64 ((((bk bit (l.getD a dItem).s.size) % 8) : Nat) : Int))) rfl rfl rfl noStore (none_ok _ _) (r_bin rfl rfl rfl (b_remN (a := (bk bit (l.getD a dItem).s.size)) (c := 8) (by decide))) ?_
  refine PQ.pure (dst := (some 75)) (v := (.int .u8 (((UInt8.ofNat (2 ^ ((bk bit (l.getD a dItem).s.size) % 8))).toNat : Nat) : Int))) rfl rfl rfl noStore (none_ok _ _) (r_bin rfl rfl rfl (b_shl1 (K := ((bk bit (l.getD a dItem).s.size) % 8)) (by omega))) ?_
  refine PQ.pure (dst := (some 76)) (v := (.int .u8 (((((L (l.getD a dItem).s).getD ((bk bit (l.getD a dItem).s.size) / 8) 0) ^^^ (UInt8.ofNat (2 ^ ((bk bit (l.getD a dItem).s.size) % 8)))).toNat : Nat) : Int))) rfl rfl rfl noStore (none_ok _ _) (r_bin rfl rfl rfl (b_xor8 ((L (l.getD a dItem).s).getD ((bk bit (l.getD a dItem).s.size) / 8) 0) (UInt8.ofNat (2 ^ ((bk bit (l.getD a dItem).s.size) % 8))))) ?_
  refine PQ.pure (dst := (some 77)) (v := (.pointer (some ⟨n, ((bk bit (l.getD a dItem).s.size) / 8), some 0⟩))) rfl rfl rfl (app [(n, some ⟨(bc (L (l.getD a dItem).s)), 1, 5, true⟩)] noStore) (seen_one (V := []) (D := [(n, some ⟨(bc (L (l.getD a dItem).s)), 1, 5, true⟩)]) (by kernel_rfl) get_here) (r_iaS (l := ((bk bit (l.getD a dItem).s.size) / 8)) rfl rfl rfl rfl rfl rfl (by omega) (by omega) get_here rfl (by omega)) ?_
  refine PQ.op (dst := none) (v := (.tuple #[])) (n1 := (n + 1)) (d1 := [(n, some ⟨(bc ((L (l.getD a dItem).s).set ((bk bit (l.getD a dItem).s.size) / 8) (((L (l.getD a dItem).s).getD ((bk bit (l.getD a dItem).s.size) / 8) 0) ^^^ (UInt8.ofNat (2 ^ ((bk bit (l.getD a dItem).s.size) % 8)))))), 1, 5, true⟩)]) rfl rfl rfl _ (seen_any (V := []) (D := [(n, some ⟨(bc (L (l.getD a dItem).s)), 1, 5, true⟩)]) (by kernel_rfl)) (r_storeB (B' := (((L (l.getD a dItem).s).getD ((bk bit (l.getD a dItem).s.size) / 8) 0) ^^^ (UInt8.ofNat (2 ^ ((bk bit (l.getD a dItem).s.size) % 8))))) rfl rfl rfl rfl rfl get_here (by rw [L_len]; omega)) (by omega) (kp1 (wr_tight (by kernel_rfl) (by omega))) ?_
  refine PQ.done (d := [(n, some ⟨(bc ((L (l.getD a dItem).s).set ((bk bit (l.getD a dItem).s.size) / 8) (((L (l.getD a dItem).s).getD ((bk bit (l.getD a dItem).s.size) / 8) 0) ^^^ (UInt8.ofNat (2 ^ ((bk bit (l.getD a dItem).s.size) % 8)))))), 1, 5, true⟩)]) (by kernel_rfl) ?_
  intro _
  refine RA.seq hd ?_
  refine RA.par (md := [some [], some [], some [], some [q], some [], some [], some [], some [], some [q], some [], some [], none, none, some [], some [], none, none, some [], none]) env_ok (hd.of (by omega) (kb2 (by omega))) (by kernel_rfl) ?_
  refine PQ.pure (dst := (some 78)) (v := (Pt q 0 0)) rfl rfl rfl noStore (none_ok _ _) rfl ?_
  refine PQ.pure (dst := (some 79)) (v := (Pt q 0 0)) rfl rfl rfl noStore (none_ok _ _) rfl ?_
  refine PQ.pure (dst := (some 80)) (v := (Pt q 0 0)) rfl rfl rfl noStore (none_ok _ _) rfl ?_
  refine PQ.pure (dst := (some 81)) (v := (.slice (some ⟨j, 0, none⟩) N 0)) rfl rfl rfl (app [(q, some ⟨[[(.slice (some ⟨j, 0, none⟩) N 0), (.int .i64 0)]], 2, 115, true⟩)] noStore) (seen_one (V := []) (D := [(n, some ⟨(bc ((L (l.getD a dItem).s).set ((bk bit (l.getD a dItem).s.size) / 8) (((L (l.getD a dItem).s).getD ((bk bit (l.getD a dItem).s.size) / 8) 0) ^^^ (UInt8.ofNat (2 ^ ((bk bit (l.getD a dItem).s.size) % 8)))))), 1, 5, true⟩), (n, some ⟨(bc (L (l.getD a dItem).s)), 1, 5, true⟩)]) (by kernel_rfl) (gt2 (by omega) hq)) (r_load1 rfl rfl rfl rfl rfl get_here rfl rfl) ?_
  refine PQ.pure (dst := (some 82)) (v := (.int .i64 ((a : Nat) : Int))) rfl rfl rfl noStore (none_ok _ _) rfl ?_
  refine PQ.pure (dst := (some 83)) (v := (Pt q 0 0)) rfl rfl rfl noStore (none_ok _ _) rfl ?_
  refine PQ.pure (dst := (some 84)) (v := (Pt q 0 0)) rfl rfl rfl noStore (none_ok _ _) rfl ?_
  refine PQ.pure (dst := (some 85)) (v := (Pt q 0 0)) rfl rfl rfl noStore (none_ok _ _) rfl ?_
  refine PQ.pure (dst := (some 86)) (v := (.slice (some ⟨j, 0, none⟩) N 0)) rfl rfl rfl (app [(q, some ⟨[[(.slice (some ⟨j, 0, none⟩) N 0), (.int .i64 0)]], 2, 115, true⟩)] noStore) (seen_one (V := []) (D := [(n, some ⟨(bc ((L (l.getD a dItem).s).set ((bk bit (l.getD a dItem).s.size) / 8) (((L (l.getD a dItem).s).getD ((bk bit (l.getD a dItem).s.size) / 8) 0) ^^^ (UInt8.ofNat (2 ^ ((bk bit (l.getD a dItem).s.size) % 8)))))), 1, 5, true⟩), (n, some ⟨(bc (L (l.getD a dItem).s)), 1, 5, true⟩)]) (by kernel_rfl) (gt2 (by omega) hq)) (r_load1 rfl rfl rfl rfl rfl get_here rfl rfl) ?_
  refine PQ.pure (dst := (some 87)) (v := (.int .i64 ((a : Nat) : Int))) rfl rfl rfl noStore (none_ok _ _) rfl ?_
  refine PQ.pure (dst := (some 88)) (v := (.slice (some ⟨n, 0, none⟩) (l.getD a dItem).s.size 0)) rfl rfl rfl noStore (none_ok _ _) rfl ?_
  refine PQ.pure (dst := (some 89)) (v := (.string (bentS (l.getD a dItem).s bit))) rfl rfl rfl _ (seen_any (V := []) (D := [(n, some ⟨(bc ((L (l.getD a dItem).s).set ((bk bit (l.getD a dItem).s.size) / 8) (((L (l.getD a dItem).s).getD ((bk bit (l.getD a dItem).s.size) / 8) 0) ^^^ (UInt8.ofNat (2 ^ ((bk bit (l.getD a dItem).s.size) % 8)))))), 1, 5, true⟩), (n, some ⟨(bc (L (l.getD a dItem).s)), 1, 5, true⟩)]) (by kernel_rfl)) (Eq.trans (r_b2s rfl rfl rfl rfl rfl rfl rfl rfl get_here (by rw [List.length_set, L_len]; omega)) (congrArg (fun z => some (Value.string z, _, [])) bent_t)) ?_
  refine PQ.pure (dst := (some 90)) (v := (Pt j a 0)) rfl rfl rfl _ (seen_any (V := []) (D := [(n, some ⟨(bc ((L (l.getD a dItem).s).set ((bk bit (l.getD a dItem).s.size) / 8) (((L (l.getD a dItem).s).getD ((bk bit (l.getD a dItem).s.size) / 8) 0) ^^^ (UInt8.ofNat (2 ^ ((bk bit (l.getD a dItem).s.size) % 8)))))), 1, 5, true⟩), (n, some ⟨(bc (L (l.getD a dItem).s)), 1, 5, true⟩)]) (by kernel_rfl)) (r_iaS (l := a) rfl rfl rfl rfl rfl rfl (by omega) (by omega) (gt2 (by omega) hj) rfl (by omega)) ?_
  refine PQ.pure (dst := (some 91)) (v := (Pt j a 2)) rfl rfl rfl noStore (none_ok _ _) rfl ?_
  refine PQ.pure (dst := (some 92)) (v := (Pt j a 4)) rfl rfl rfl noStore (none_ok _ _) rfl ?_
  refine PQ.op (dst := none) (v := (.tuple #[])) (n1 := (n + 1)) (d1 := [(j, some (oItem (l.set a (xNp32 l a bit))))]) rfl rfl rfl _ (seen_any (V := []) (D := [(n, some ⟨(bc ((L (l.getD a dItem).s).set ((bk bit (l.getD a dItem).s.size) / 8) (((L (l.getD a dItem).s).getD ((bk bit (l.getD a dItem).s.size) / 8) 0) ^^^ (UInt8.ofNat (2 ^ ((bk bit (l.getD a dItem).s.size) % 8)))))), 1, 5, true⟩), (n, some ⟨(bc (L (l.getD a dItem).s)), 1, 5, true⟩)]) (by kernel_rfl)) (r_storeR (c := cItem) dItem (xNp32 l a bit) rfl rfl rfl rfl rfl rfl rfl (gt2 (by omega) hj) (by rw [hl]; omega) (Nat.le_of_ble_eq_true rfl) rfl) (by omega) (kp1 (wr_old [9] (by kernel_rfl) (by omega) (by omega) (fac (lo0 rfl) fan))) ?_
  refine PQ.pure (dst := (some 93)) (v := (Pt j a 0)) rfl rfl rfl _ (seen_any (V := [(j, some (oItem (l.set a (xNp32 l a bit))))]) (D := [(n, some ⟨(bc ((L (l.getD a dItem).s).set ((bk bit (l.getD a dItem).s.size) / 8) (((L (l.getD a dItem).s).getD ((bk bit (l.getD a dItem).s.size) / 8) 0) ^^^ (UInt8.ofNat (2 ^ ((bk bit (l.getD a dItem).s.size) % 8)))))), 1, 5, true⟩), (n, some ⟨(bc (L (l.getD a dItem).s)), 1, 5, true⟩)]) (by kernel_rfl)) (r_iaS (l := a) rfl rfl rfl rfl rfl rfl (by omega) (by omega) get_here rfl (by omega)) ?_
  refine PQ.pure (dst := (some 94)) (v := (Pt j a 5)) rfl rfl rfl noStore (none_ok _ _) rfl ?_
  refine PQ.op (dst := none) (v := (.tuple #[])) (n1 := (n + 1)) (d1 := [(j, some (oItem ((l.set a (xNp32 l a bit)).set a (xNp31 l a bit))))]) rfl rfl rfl _ (seen_any (V := [(j, some (oItem (l.set a (xNp32 l a bit))))]) (D := [(n, some ⟨(bc ((L (l.getD a dItem).s).set ((bk bit (l.getD a dItem).s.size) / 8) (((L (l.getD a dItem).s).getD ((bk bit (l.getD a dItem).s.size) / 8) 0) ^^^ (UInt8.ofNat (2 ^ ((bk bit (l.getD a dItem).s.size) % 8)))))), 1, 5, true⟩), (n, some ⟨(bc (L (l.getD a dItem).s)), 1, 5, true⟩)]) (by kernel_rfl)) (r_storeR (c := cItem) dItem (xNp31 l a bit) rfl rfl rfl rfl rfl rfl rfl get_here (by rw [List.length_set, hl]; omega) (Nat.le_of_ble_eq_true rfl) rfl) (by omega) (kp1 (wr_tight (by kernel_rfl) (by omega))) ?_
  refine PQ.done (d := [(j, some (oItem ((l.set a (xNp32 l a bit)).set a (xNp31 l a bit)))), (j, some (oItem (l.set a (xNp32 l a bit))))]) (by kernel_rfl) ?_
  intro _
  refine RA.weaken (D' := [(j, some (oItem ((l.set a (xNp32 l a bit)).set a (xNp31 l a bit)))), (n, some ⟨(bc ((L (l.getD a dItem).s).set ((bk bit (l.getD a dItem).s.size) / 8) (((L (l.getD a dItem).s).getD ((bk bit (l.getD a dItem).s.size) / 8) 0) ^^^ (UInt8.ofNat (2 ^ ((bk bit (l.getD a dItem).s.size) % 8)))))), 1, 5, true⟩)]) hd (Less.of (fac (mm (fun _ => get_here) (fun _ => get_here)) (fac (mm (fun _ => (get_there (by omega) get_here)) (fun _ => (gt2 (by omega) get_here))) fan)) (gone_of (by simp only [goneP, memP, List.cons_append, List.nil_append, true_or, or_true, true_and, and_true, or_false] <;> omega))) ?_
  refine RA.rebase [(0, (Pt q 0 0)), (1, (.int .i64 ((a : Nat) : Int))), (2, (.int .i64 bit)), (6, (.bool false)), (7, (.slice (some ⟨n, 0, none⟩) (l.getD a dItem).s.size 0)), (8, (.int .i64 (((bk bit (l.getD a dItem).s.size) : Nat) : Int))), (45, (.bool false)), (62, (.bool true))] ⟨rfl, rfl, rfl, rfl, rfl, rfl, rfl, rfl, trivial⟩ (fun τr3 => ?_)
  refine RA.seq hd ?_
  refine RA.region env_ok ?_
  refine OA.p (some 6) (.bool true) rfl rfl rfl rfl ?_
  refine OA.nil ?_
  intro _
  refine RA.ret env_ok ?_
  refine ⟨.inr rfl, [(.bool true)], (resL_cons rfl resL_nil), [(j, some (oItem ((l.set a (xNp32 l a bit)).set a (xNp31 l a bit))))], (Less.of (fac (mm (fun _ => get_here) (fun _ => get_here)) fan) (gone_of (by simp only [goneP, memP, List.cons_append, List.nil_append, true_or, or_true, true_and, and_true, or_false] <;> omega))), ⟨rfl, by rw [show ((l.set a (xNp32 l a bit)).set a (xNp31 l a bit)) = l.set a (benti (l.getD a dItem) bit) from set_two (by omega) (Item.mk (l.getD a dItem).leg (l.getD a dItem).nat (l.getD a dItem).fr (l.getD a dItem).to (bentS (l.getD a dItem).s bit) (l.getD a dItem).bent) (fun e => Item.mk e.leg e.nat e.fr e.to e.s true)]⟩⟩
 ·
  have hbk := bk_pos hpos hc5
  have hlt := bk_lt (bit := bit) hpos
  refine OA.p (some 62) (.bool false) rfl rfl rfl (Eq.trans (r_bin rfl rfl rfl (b_lss rfl)) (dF hc5)) ?_
  refine OA.nil ?_
  intro _
  refine RA.condF rfl ?_
  refine RA.skip env_ok ?_
  intro _
  refine RA.seq hd ?_
  refine RA.par (md := [some [], some [], some [], some [n], some [n], some [], some [], some [], some [], some [n], none]) env_ok (hd.of (by omega) (kb1 (by omega))) (by kernel_rfl) ?_
  refine PQ.pure (dst := (some 68)) (v := (.slice (some ⟨n, 0, none⟩) (l.getD a dItem).s.size 0)) rfl rfl rfl noStore (none_ok _ _) rfl ?_
  refine PQ.pure (dst := (some 69)) (v := (.int .i64 (bit.tmod (((8 * (l.getD a dItem).s.size) : Nat) : Int)))) rfl rfl rfl noStore (none_ok _ _) rfl ?_
  refine PQ.pure (dst := (some 70)) (v := (.int .i64 ((((bk bit (l.getD a dItem).s.size) / 8) : Nat) : Int))) rfl rfl rfl noStore (none_ok _ _) (by rw [hbk]; exact r_bin rfl rfl rfl (b_quoN (a := (bk bit (l.getD a dItem).s.size)) (c := 8) (by decide) (i64_eq (by omega)))) ?_
  refine PQ.pure (dst := (some 71)) (v := (.pointer (some ⟨n, ((bk bit (l.getD a dItem).s.size) / 8), some 0⟩))) rfl rfl rfl (app [(n, some ⟨(bc (L (l.getD a dItem).s)), 1, 5, true⟩)] noStore) (seen_one (V := []) (D := [(n, some ⟨(bc (L (l.getD a dItem).s)), 1, 5, true⟩)]) (by kernel_rfl) get_here) (r_iaS (l := ((bk bit (l.getD a dItem).s.size) / 8)) rfl rfl rfl rfl rfl rfl (by omega) (by omega) get_here rfl (by omega)) ?_
  refine PQ.pure (dst := (some 72)) (v := (.int .u8 ((((L (l.getD a dItem).s).getD ((bk bit (l.getD a dItem).s.size) / 8) 0).toNat : Nat) : Int))) rfl rfl rfl (app [(n, some ⟨(bc (L (l.getD a dItem).s)), 1, 5, true⟩)] noStore) (seen_one (V := []) (D := [(n, some ⟨(bc (L (l.getD a dItem).s)), 1, 5, true⟩)]) (by kernel_rfl) get_here) (r_loadB rfl rfl rfl rfl rfl get_here (by rw [L_len]; omega)) ?_
  refine PQ.pure (dst := (some 73)) (v := (.int .i64 (bit.tmod (((8 * (l.getD a dItem).s.size) : Nat) : Int)))) rfl rfl rfl noStore (none_ok _ _) rfl ?_
  refine PQ.pure (dst := (some 74)) (v := (.int .i64 ((((bk bit (l.getD a dItem).s.size) % 8) : Nat) : Int))) rfl rfl rfl noStore (none_ok _ _) (by rw [hbk]; exact r_bin rfl rfl rfl (b_remN (a := (bk bit (l.getD a dItem).s.size)) (c := 8) (by decide))) ?_
  refine PQ.pure (dst := (some 75)) (v := (.int .u8 (((UInt8.ofNat (2 ^ ((bk bit (l.getD a dItem).s.size) % 8))).toNat : Nat) : Int))) rfl rfl rfl noStore (none_ok _ _) (r_bin rfl rfl rfl (b_shl1 (K := ((bk bit (l.getD a dItem).s.size) % 8)) (by omega))) ?_
  refine PQ.pure (dst := (some 76)) (v := (.int .u8 (((((L (l.getD a dItem).s).getD ((bk bit (l.getD a dItem).s.size) / 8) 0) ^^^ (UInt8.ofNat (2 ^ ((bk bit (l.getD a dItem).s.size) % 8)))).toNat : Nat) : Int))) rfl rfl rfl noStore (none_ok _ _) (r_bin rfl rfl rfl (b_xor8 ((L (l.getD a dItem).s).getD ((bk bit (l.getD a dItem).s.size) / 8) 0) (UInt8.ofNat (2 ^ ((bk bit (l.getD a dItem).s.size) % 8))))) ?_
  refine PQ.pure (dst := (some 77)) (v := (.pointer (some ⟨n, ((bk bit (l.getD a dItem).s.size) / 8), some 0⟩))) rfl rfl rfl (app [(n, some ⟨(bc (L (l.getD a dItem).s)), 1, 5, true⟩)] noStore) (seen_one (V := []) (D := [(n, some ⟨(bc (L (l.getD a dItem).s)), 1, 5, true⟩)]) (by kernel_rfl) get_here) (r_iaS (l := ((bk bit (l.getD a dItem).s.size) / 8)) rfl rfl rfl rfl rfl rfl (by omega) (by omega) get_here rfl (by omega)) ?_
  refine PQ.op (dst := none) (v := (.tuple #[])) (n1 := (n + 1)) (d1 := [(n, some ⟨(bc ((L (l.getD a dItem).s).set ((bk bit (l.getD a dItem).s.size) / 8) (((L (l.getD a dItem).s).getD ((bk bit (l.getD a dItem).s.size) / 8) 0) ^^^ (UInt8.ofNat (2 ^ ((bk bit (l.getD a dItem).s.size) % 8)))))), 1, 5, true⟩)]) rfl rfl rfl _ (seen_any (V := []) (D := [(n, some ⟨(bc (L (l.getD a dItem).s)), 1, 5, true⟩)]) (by kernel_rfl)) (r_storeB (B' := (((L (l.getD a dItem).s).getD ((bk bit (l.getD a dItem).s.size) / 8) 0) ^^^ (UInt8.ofNat (2 ^ ((bk bit (l.getD a dItem).s.size) % 8))))) rfl rfl rfl rfl rfl get_here (by rw [L_len]; omega)) (by omega) (kp1 (wr_tight (by kernel_rfl) (by omega))) ?_
  refine PQ.done (d := [(n, some ⟨(bc ((L (l.getD a dItem).s).set ((bk bit (l.getD a dItem).s.size) / 8) (((L (l.getD a dItem).s).getD ((bk bit (l.getD a dItem).s.size) / 8) 0) ^^^ (UInt8.ofNat (2 ^ ((bk bit (l.getD a dItem).s.size) % 8)))))), 1, 5, true⟩)]) (by kernel_rfl) ?_
  intro _
  refine RA.rebase [(0, (Pt q 0 0)), (1, (.int .i64 ((a : Nat) : Int))), (2, (.int .i64 bit)), (6, (.bool false)), (7, (.slice (some ⟨n, 0, none⟩) (l.getD a dItem).s.size 0)), (8, (.int .i64 (bit.tmod (((8 * (l.getD a dItem).s.size) : Nat) : Int)))), (45, (.bool false)), (62, (.bool false))] ⟨rfl, rfl, rfl, rfl, rfl, rfl, rfl, rfl, trivial⟩ (fun τr4 => ?_)
  refine RA.seq hd ?_
  refine RA.par (md := [some [], some [], some [], some [q], some [], some [], some [], some [], some [q], some [], some [], none, none, some [], some [], none, none, some [], none]) env_ok (hd.of (by omega) (kb2 (by omega))) (by kernel_rfl) ?_
  refine PQ.pure (dst := (some 78)) (v := (Pt q 0 0)) rfl rfl rfl noStore (none_ok _ _) rfl ?_
  refine PQ.pure (dst := (some 79)) (v := (Pt q 0 0)) rfl rfl rfl noStore (none_ok _ _) rfl ?_
  refine PQ.pure (dst := (some 80)) (v := (Pt q 0 0)) rfl rfl rfl noStore (none_ok _ _) rfl ?_
  refine PQ.pure (dst := (some 81)) (v := (.slice (some ⟨j, 0, none⟩) N 0)) rfl rfl rfl (app [(q, some ⟨[[(.slice (some ⟨j, 0, none⟩) N 0), (.int .i64 0)]], 2, 115, true⟩)] noStore) (seen_one (V := []) (D := [(n, some ⟨(bc ((L (l.getD a dItem).s).set ((bk bit (l.getD a dItem).s.size) / 8) (((L (l.getD a dItem).s).getD ((bk bit (l.getD a dItem).s.size) / 8) 0) ^^^ (UInt8.ofNat (2 ^ ((bk bit (l.getD a dItem).s.size) % 8)))))), 1, 5, true⟩), (n, some ⟨(bc (L (l.getD a dItem).s)), 1, 5, true⟩)]) (by kernel_rfl) (gt2 (by omega) hq)) (r_load1 rfl rfl rfl rfl rfl get_here rfl rfl) ?_
  refine PQ.pure (dst := (some 82)) (v := (.int .i64 ((a : Nat) : Int))) rfl rfl rfl noStore (none_ok _ _) rfl ?_
  refine PQ.pure (dst := (some 83)) (v := (Pt q 0 0)) rfl rfl rfl noStore (none_ok _ _) rfl ?_
  refine PQ.pure (dst := (some 84)) (v := (Pt q 0 0)) rfl rfl rfl noStore (none_ok _ _) rfl ?_
  refine PQ.pure (dst := (some 85)) (v := (Pt q 0 0)) rfl rfl rfl noStore (none_ok _ _) rfl ?_
  refine PQ.pure (dst := (some 86)) (v := (.slice (some ⟨j, 0, none⟩) N 0)) rfl rfl rfl (app [(q, some ⟨[[(.slice (some ⟨j, 0, none⟩) N 0), (.int .i64 0)]], 2, 115, true⟩)] noStore) (seen_one (V := []) (D := [(n, some ⟨(bc ((L (l.getD a dItem).s).set ((bk bit (l.getD a dItem).s.size) / 8) (((L (l.getD a dItem).s).getD ((bk bit (l.getD a dItem).s.size) / 8) 0) ^^^ (UInt8.ofNat (2 ^ ((bk bit (l.getD a dItem).s.size) % 8)))))), 1, 5, true⟩), (n, some ⟨(bc (L (l.getD a dItem).s)), 1, 5, true⟩)]) (by kernel_rfl) (gt2 (by omega) hq)) (r_load1 rfl rfl rfl rfl rfl get_here rfl rfl) ?_
  refine PQ.pure (dst := (some 87)) (v := (.int .i64 ((a : Nat) : Int))) rfl rfl rfl noStore (none_ok _ _) rfl ?_
  refine PQ.pure (dst := (some 88)) (v := (.slice (some ⟨n, 0, none⟩) (l.getD a dItem).s.size 0)) rfl rfl rfl noStore (none_ok _ _) rfl ?_
  refine PQ.pure (dst := (some 89)) (v := (.string (bentS (l.getD a dItem).s bit))) rfl rfl rfl _ (seen_any (V := []) (D := [(n, some ⟨(bc ((L (l.getD a dItem).s).set ((bk bit (l.getD a dItem).s.size) / 8) (((L (l.getD a dItem).s).getD ((bk bit (l.getD a dItem).s.size) / 8) 0) ^^^ (UInt8.ofNat (2 ^ ((bk bit (l.getD a dItem).s.size) % 8)))))), 1, 5, true⟩), (n, some ⟨(bc (L (l.getD a dItem).s)), 1, 5, true⟩)]) (by kernel_rfl)) (Eq.trans (r_b2s rfl rfl rfl rfl rfl rfl rfl rfl get_here (by rw [List.length_set, L_len]; omega)) (congrArg (fun z => some (Value.string z, _, [])) bent_t)) ?_
  refine PQ.pure (dst := (some 90)) (v := (Pt j a 0)) rfl rfl rfl _ (seen_any (V := []) (D := [(n, some ⟨(bc ((L (l.getD a dItem).s).set ((bk bit (l.getD a dItem).s.size) / 8) (((L (l.getD a dItem).s).getD ((bk bit (l.getD a dItem).s.size) / 8) 0) ^^^ (UInt8.ofNat (2 ^ ((bk bit (l.getD a dItem).s.size) % 8)))))), 1, 5, true⟩), (n, some ⟨(bc (L (l.getD a dItem).s)), 1, 5, true⟩)]) (by kernel_rfl)) (r_iaS (l := a) rfl rfl rfl rfl rfl rfl (by omega) (by omega) (gt2 (by omega) hj) rfl (by omega)) ?_
  refine PQ.pure (dst := (some 91)) (v := (Pt j a 2)) rfl rfl rfl noStore (none_ok _ _) rfl ?_
  refine PQ.pure (dst := (some 92)) (v := (Pt j a 4)) rfl rfl rfl noStore (none_ok _ _) rfl ?_
  refine PQ.op (dst := none) (v := (.tuple #[])) (n1 := (n + 1)) (d1 := [(j, some (oItem (l.set a (xNp32 l a bit))))]) rfl rfl rfl _ (seen_any (V := []) (D := [(n, some ⟨(bc ((L (l.getD a dItem).s).set ((bk bit (l.getD a dItem).s.size) / 8) (((L (l.getD a dItem).s).getD ((bk bit (l.getD a dItem).s.size) / 8) 0) ^^^ (UInt8.ofNat (2 ^ ((bk bit (l.getD a dItem).s.size) % 8)))))), 1, 5, true⟩), (n, some ⟨(bc (L (l.getD a dItem).s)), 1, 5, true⟩)]) (by kernel_rfl)) (r_storeR (c := cItem) dItem (xNp32 l a bit) rfl rfl rfl rfl rfl rfl rfl (gt2 (by omega) hj) (by rw [hl]; omega) (Nat.le_of_ble_eq_true rfl) rfl) (by omega) (kp1 (wr_old [9] (by kernel_rfl) (by omega) (by omega) (fac (lo0 rfl) fan))) ?_
  refine PQ.pure (dst := (some 93)) (v := (Pt j a 0)) rfl rfl rfl _ (seen_any (V := [(j, some (oItem (l.set a (xNp32 l a bit))))]) (D := [(n, some ⟨(bc ((L (l.getD a dItem).s).set ((bk bit (l.getD a dItem).s.size) / 8) (((L (l.getD a dItem).s).getD ((bk bit (l.getD a dItem).s.size) / 8) 0) ^^^ (UInt8.ofNat (2 ^ ((bk bit (l.getD a dItem).s.size) % 8)))))), 1, 5, true⟩), (n, some ⟨(bc (L (l.getD a dItem).s)), 1, 5, true⟩)]) (by kernel_rfl)) (r_iaS (l := a) rfl rfl rfl rfl rfl rfl (by omega) (by omega) get_here rfl (by omega)) ?_
  refine PQ.pure (dst := (some 94)) (v := (Pt j a 5)) rfl rfl rfl noStore (none_ok _ _) rfl ?_
  refine PQ.op (dst := none) (v := (.tuple #[])) (n1 := (n + 1)) (d1 := [(j, some (oItem ((l.set a (xNp32 l a bit)).set a (xNp31 l a bit))))]) rfl rfl rfl _ (seen_any (V := [(j, some (oItem (l.set a (xNp32 l a bit))))]) (D := [(n, some ⟨(bc ((L (l.getD a dItem).s).set ((bk bit (l.getD a dItem).s.size) / 8) (((L (l.getD a dItem).s).getD ((bk bit (l.getD a dItem).s.size) / 8) 0) ^^^ (UInt8.ofNat (2 ^ ((bk bit (l.getD a dItem).s.size) % 8)))))), 1, 5, true⟩), (n, some ⟨(bc (L (l.getD a dItem).s)), 1, 5, true⟩)]) (by kernel_rfl)) (r_storeR (c := cItem) dItem (xNp31 l a bit) rfl rfl rfl rfl rfl rfl rfl get_here (by rw [List.length_set, hl]; omega) (Nat.le_of_ble_eq_true rfl) rfl) (by omega) (kp1 (wr_tight (by kernel_rfl) (by omega))) ?_
  refine PQ.done (d := [(j, some (oItem ((l.set a (xNp32 l a bit)).set a (xNp31 l a bit)))), (j, some (oItem (l.set a (xNp32 l a bit))))]) (by kernel_rfl) ?_
  intro _
  refine RA.weaken (D' := [(j, some (oItem ((l.set a (xNp32 l a bit)).set a (xNp31 l a bit)))), (n, some ⟨(bc ((L (l.getD a dItem).s).set ((bk bit (l.getD a dItem).s.size) / 8) (((L (l.getD a dItem).s).getD ((bk bit (l.getD a dItem).s.size) / 8) 0) ^^^ (UInt8.ofNat (2 ^ ((bk bit (l.getD a dItem).s.size) % 8)))))), 1, 5, true⟩)]) hd (Less.of (fac (mm (fun _ => get_here) (fun _ => get_here)) (fac (mm (fun _ => (get_there (by omega) get_here)) (fun _ => (gt2 (by omega) get_here))) fan)) (gone_of (by simp only [goneP, memP, List.cons_append, List.nil_append, true_or, or_true, true_and, and_true, or_false] <;> omega))) ?_
  refine RA.seq hd ?_
  refine RA.region env_ok ?_
  refine OA.p (some 6) (.bool true) rfl rfl rfl rfl ?_
  refine OA.nil ?_
  intro _
  refine RA.ret env_ok ?_
  refine ⟨.inr rfl, [(.bool true)], (resL_cons rfl resL_nil), [(j, some (oItem ((l.set a (xNp32 l a bit)).set a (xNp31 l a bit))))], (Less.of (fac (mm (fun _ => get_here) (fun _ => get_here)) fan) (gone_of (by simp only [goneP, memP, List.cons_append, List.nil_append, true_or, or_true, true_and, and_true, or_false] <;> omega))), ⟨rfl, by rw [show ((l.set a (xNp32 l a bit)).set a (xNp31 l a bit)) = l.set a (benti (l.getD a dItem) bit) from set_two (by omega) (Item.mk (l.getD a dItem).leg (l.getD a dItem).nat (l.getD a dItem).fr (l.getD a dItem).to (bentS (l.getD a dItem).s bit) (l.getD a dItem).bent) (fun e => Item.mk e.leg e.nat e.fr e.to e.s true)]⟩⟩

theorem nbent {σ : Store} (s : ByteArray) (bit : Int) (hz : s.size ≤ 10) (hs : ¬ s = ByteArray.mk #[])   : PS Try.prog noDen 40 [(.string s), (.int .i64 bit)] σ (.string (bentS s bit)) := by
 have hpos := size_pos hs
 have hlt := bk_lt (bit := bit) hpos
 refine PS.body (E := env) env_ok rfl rfl (by show _ ≤ _; exact of_decide_eq_true (by kernel_rfl)) (fun n hd => ?_)
 refine RA.seq hd ?_
 refine RA.region env_ok ?_
 refine OA.p (some 4) (.string (ByteArray.mk #[])) rfl rfl rfl rfl ?_
 refine OA.nil ?_
 intro _
 refine RA.seq hd ?_
 refine RA.region env_ok ?_
 refine OA.p (some 8) (.string s) rfl rfl rfl rfl ?_
 refine OA.p (some 9) (.int .i64 ((s.size : Nat) : Int)) rfl rfl rfl rfl ?_
 refine OA.p (some 10) (.int .i64 (((8 * s.size) : Nat) : Int)) rfl rfl rfl (r_bin rfl rfl rfl (b_mul (i64_eq (by omega)))) ?_
 refine OA.p (some 5) (.int .i64 (((8 * s.size) : Nat) : Int)) rfl rfl rfl rfl ?_
 refine OA.nil ?_
 intro _
 refine RA.seq hd ?_
 refine RA.region env_ok ?_
 refine OA.p (some 11) (.int .i64 bit) rfl rfl rfl rfl ?_
 refine OA.p (some 12) (.int .i64 (((8 * s.size) : Nat) : Int)) rfl rfl rfl rfl ?_
 refine OA.p (some 13) (.int .i64 (bit.tmod (((8 * s.size) : Nat) : Int))) rfl rfl rfl (r_bin rfl rfl rfl (b_rem (by omega) rfl)) ?_
 refine OA.p (some 14) (.int .i64 (((8 * s.size) : Nat) : Int)) rfl rfl rfl rfl ?_
 refine OA.p (some 15) (.int .i64 (bit.tmod (((8 * s.size) : Nat) : Int) + (((8 * s.size) : Nat) : Int))) rfl rfl rfl (r_bin rfl rfl rfl (b_add (i64_eq (by have h1 := Int.tmod_lt_of_pos bit (b := (((8 * s.size) : Nat) : Int)) (by omega); have h2 := Int.lt_tmod_of_pos bit (b := (((8 * s.size) : Nat) : Int)) (by omega); omega)))) ?_
 refine OA.p (some 16) (.int .i64 (((8 * s.size) : Nat) : Int)) rfl rfl rfl rfl ?_
 refine OA.p (some 17) (.int .i64 (((bk bit s.size) : Nat) : Int)) rfl rfl rfl (r_bin rfl rfl rfl (b_rem (by omega) (bk_two hpos))) ?_
 refine OA.p (some 6) (.int .i64 (((bk bit s.size) : Nat) : Int)) rfl rfl rfl rfl ?_
 refine OA.nil ?_
 intro _
 refine RA.seq hd ?_
 refine RA.region env_ok ?_
 refine OA.p (some 18) (.string s) rfl rfl rfl rfl ?_
 refine OA.op1 (dst := (some 19)) (v := (.slice (some ⟨n, 0, none⟩) s.size 0)) (n1 := (n + 1)) (w := (n, some ⟨(bc (L s)), 1, 5, true⟩)) rfl rfl rfl (r_s2b (S' := s) rfl rfl rfl rfl rfl rfl rfl rfl) (by omega) ?_
 refine OA.p (some 7) (.slice (some ⟨n, 0, none⟩) s.size 0) rfl rfl rfl rfl ?_
 refine OA.nil ?_
 intro _
 refine RA.seq hd ?_
 refine RA.region env_ok ?_
 refine OA.p (some 20) (.slice (some ⟨n, 0, none⟩) s.size 0) rfl rfl rfl rfl ?_
 refine OA.p (some 21) (.int .i64 (((bk bit s.size) : Nat) : Int)) rfl rfl rfl rfl ?_
 refine OA.p (some 22) (.int .i64 ((((bk bit s.size) / 8) : Nat) : Int)) rfl rfl rfl (r_bin rfl rfl rfl (b_quoN (a := (bk bit s.size)) (c := 8) (by decide) (i64_eq (by omega)))) ?_
 refine OA.p (some 23) (.pointer (some ⟨n, ((bk bit s.size) / 8), some 0⟩)) rfl rfl rfl (r_iaS (l := ((bk bit s.size) / 8)) rfl rfl rfl rfl rfl rfl (by omega) (by omega) get_here rfl (by omega)) ?_
 refine OA.p (some 24) (.int .u8 ((((L s).getD ((bk bit s.size) / 8) 0).toNat : Nat) : Int)) rfl rfl rfl (r_loadB rfl rfl rfl rfl rfl get_here (by rw [L_len]; omega)) ?_
 refine OA.p (some 25) (.int .i64 (((bk bit s.size) : Nat) : Int)) rfl rfl rfl rfl ?_
 refine OA.p (some 26) (.int .i64 ((((bk bit s.size) % 8) : Nat) : Int)) rfl rfl rfl (r_bin rfl rfl rfl (b_remN (a := (bk bit s.size)) (c := 8) (by decide))) ?_
 refine OA.p (some 27) (.int .u64 ((((bk bit s.size) % 8) : Nat) : Int)) rfl rfl rfl (r_cvt rfl rfl rfl rfl rfl ⟨_, rfl⟩ (u64_eq (by omega))) ?_
 refine OA.p (some 28) (.int .u8 (((UInt8.ofNat (2 ^ ((bk bit s.size) % 8))).toNat : Nat) : Int)) rfl rfl rfl (r_bin rfl rfl rfl (b_shl1 (K := ((bk bit s.size) % 8)) (by omega))) ?_
 refine OA.p (some 29) (.int .u8 (((((L s).getD ((bk bit s.size) / 8) 0) ^^^ (UInt8.ofNat (2 ^ ((bk bit s.size) % 8)))).toNat : Nat) : Int)) rfl rfl rfl (r_bin rfl rfl rfl (b_xor8 ((L s).getD ((bk bit s.size) / 8) 0) (UInt8.ofNat (2 ^ ((bk bit s.size) % 8))))) ?_
 refine OA.p (some 30) (.pointer (some ⟨n, ((bk bit s.size) / 8), some 0⟩)) rfl rfl rfl (r_iaS (l := ((bk bit s.size) / 8)) rfl rfl rfl rfl rfl rfl (by omega) (by omega) get_here rfl (by omega)) ?_
 refine OA.op1 (dst := none) (v := (.tuple #[])) (n1 := (n + 1)) (w := (n, some ⟨(bc ((L s).set ((bk bit s.size) / 8) (((L s).getD ((bk bit s.size) / 8) 0) ^^^ (UInt8.ofNat (2 ^ ((bk bit s.size) % 8)))))), 1, 5, true⟩)) rfl rfl rfl (r_storeB (B' := (((L s).getD ((bk bit s.size) / 8) 0) ^^^ (UInt8.ofNat (2 ^ ((bk bit s.size) % 8))))) rfl rfl rfl rfl rfl get_here (by rw [L_len]; omega)) (by omega) ?_
 refine OA.nil ?_
 intro _
 refine RA.rebase [(0, (.string s)), (1, (.int .i64 bit)), (4, (.string (ByteArray.mk #[]))), (5, (.int .i64 (((8 * s.size) : Nat) : Int))), (6, (.int .i64 (((bk bit s.size) : Nat) : Int))), (7, (.slice (some ⟨n, 0, none⟩) s.size 0))] ⟨rfl, rfl, rfl, rfl, rfl, rfl, trivial⟩ (fun τr1 => ?_)
 refine RA.seq hd ?_
 refine RA.region env_ok ?_
 refine OA.p (some 31) (.slice (some ⟨n, 0, none⟩) s.size 0) rfl rfl rfl rfl ?_
 refine OA.p (some 32) (.string (bentS s bit)) rfl rfl rfl (Eq.trans (r_b2s rfl rfl rfl rfl rfl rfl rfl rfl get_here (by rw [List.length_set, L_len]; omega)) (congrArg (fun z => some (Value.string z, _, [])) bent_t)) ?_
 refine OA.p (some 4) (.string (bentS s bit)) rfl rfl rfl rfl ?_
 refine OA.nil ?_
 intro _
 refine RA.ret env_ok ?_
 refine ⟨.inr rfl, [(.string (bentS s bit))], (resL_cons rfl resL_nil), rfl, (kc2 (by omega))⟩
theorem wTake {n : Nat} {σ : Store} (hd : Dom n σ) (q j N : Nat) (l : List Item) (hl : l.length = N) (hN : N ≤ 200) (hqj : q ≠ j) (at_ : Int) (a : Nat) (hat : at_ = ((a : Nat) : Int)) (ha : a < N) (hq : σ q = some ⟨[[(.slice (some ⟨j, 0, none⟩) N 0), (.int .i64 0)]], 2, 115, true⟩) (hj : σ j = some (oItem l)) : CQ Try.prog noDen 38 [(Pt q 0 0), (.int .i64 at_)] n σ (fun v n' d => v = .tuple #[.agg ⟨cItem (l.getD a dItem)⟩, .bool true] ∧ d = [(q, some ⟨[[(.slice (some ⟨j, 0, none⟩) (N - 1) 0), (.int .i64 0)]], 2, 115, true⟩), (j, some (oItem (l.eraseIdx a)))]) := by
  subst hat
  exact nTake hd q j N l hl hN hqj a ha hq hj
theorem wDouble {n : Nat} {σ : Store} (hd : Dom n σ) (q j N : Nat) (l : List Item) (hl : l.length = N) (hN : N ≤ 200) (hqj : q ≠ j) (at_ : Int) (a : Nat) (hat : at_ = ((a : Nat) : Int)) (ha : a < N) (hq : σ q = some ⟨[[(.slice (some ⟨j, 0, none⟩) N 0), (.int .i64 0)]], 2, 115, true⟩) (hj : σ j = some (oItem l)) : CQ Try.prog noDen 29 [(Pt q 0 0), (.int .i64 at_)] n σ (fun v n' d => ∃ i, n ≤ i ∧ i < n' ∧ v = .bool true ∧ d = [(q, some ⟨[[(.slice (some ⟨i, 0, none⟩) (N + 1) 0), (.int .i64 0)]], 2, 115, true⟩), (i, some (oItem (l ++ [(l.getD a dItem)]))), (j, none)]) := by
  subst hat
  exact nDouble hd q j N l hl hN hqj a ha hq hj
theorem wBend {n : Nat} {σ : Store} (hd : Dom n σ) (q j N : Nat) (l : List Item) (hl : l.length = N) (hN : N ≤ 200) (hqj : q ≠ j) (at_ bit : Int) (a : Nat) (hat : at_ = ((a : Nat) : Int)) (ha : a < N) (hz : (l.getD a dItem).s.size ≤ 10) (hb : ¬ (l.getD a dItem).bent = true) (hs : ¬ (l.getD a dItem).s = ByteArray.mk #[]) (hq : σ q = some ⟨[[(.slice (some ⟨j, 0, none⟩) N 0), (.int .i64 0)]], 2, 115, true⟩) (hj : σ j = some (oItem l)) : CQ Try.prog noDen 39 [(Pt q 0 0), (.int .i64 at_), (.int .i64 bit)] n σ (fun v n' d => v = .bool true ∧ d = [(j, some (oItem (l.set a (benti (l.getD a dItem) bit))))]) := by
  subst hat
  exact nBend hd q j N l hl hN hqj bit a ha hz hb hs hq hj
theorem wBendX {n : Nat} {σ : Store} (hd : Dom n σ) (q j N : Nat) (l : List Item) (hl : l.length = N) (hN : N ≤ 200) (hqj : q ≠ j) (at_ bit : Int) (a : Nat) (hat : at_ = ((a : Nat) : Int)) (ha : a < N) (hx : (l.getD a dItem).bent = true ∨ (l.getD a dItem).s = ByteArray.mk #[]) (hq : σ q = some ⟨[[(.slice (some ⟨j, 0, none⟩) N 0), (.int .i64 0)]], 2, 115, true⟩) (hj : σ j = some (oItem l)) : CQ Try.prog noDen 39 [(Pt q 0 0), (.int .i64 at_), (.int .i64 bit)] n σ (fun v n' d => v = .bool false ∧ d = []) := by
  subst hat
  exact nBendX hd q j N l hl hN hqj bit a ha hx hq hj
def SZ (l : List Item) : Prop := ∀ x ∈ l, x.s.size ≤ 10
theorem SZ.get {l : List Item} (h : SZ l) {a : Nat} (ha : a < l.length) : (l.getD a dItem).s.size ≤ 10 := by
  rw [List.getD_eq_getElem?_getD, List.getElem?_eq_getElem ha]
  exact h _ (List.getElem_mem ha)
theorem SZ.snoc {l : List Item} (h : SZ l) {x : Item} (hx : x.s.size ≤ 10) : SZ (l ++ [x]) := fun y hy => by
  rw [List.mem_append, List.mem_singleton] at hy
  rcases hy with hy | rfl
  · exact h y hy
  · exact hx
theorem SZ.one {x : Item} (hx : x.s.size ≤ 10) : SZ [x] := fun y hy => by
  rw [List.mem_singleton] at hy
  subst hy; exact hx
theorem SZ.erase {l : List Item} (h : SZ l) {a : Nat} : SZ (l.eraseIdx a) := fun y hy => h y (List.mem_of_mem_eraseIdx hy)
theorem bentS_size (s : ByteArray) (bit : Int) : (bentS s bit).size = s.size := by
  unfold bentS
  rw [bstr_size, List.length_set, L_len]
theorem SZ.set {l : List Item} (h : SZ l) {a : Nat} {bit : Int} (ha : a < l.length) : SZ (l.set a (benti (l.getD a dItem) bit)) := fun y hy => by
  rcases List.mem_or_eq_of_mem_set hy with hy | rfl
  · exact h y hy
  · show (bentS _ bit).size ≤ 10
    rw [bentS_size]; exact h.get ha
theorem cut10 (s : ByteArray) : (s.extract 0 (min s.size 10)).size ≤ 10 := by rw [size_cut _ _ _ (by omega)]; omega
theorem nil_of {l : List Item} {N : Nat} (hl : l.length = N) (h : N = 0) : ([] : List Item) = l := by subst h; exact (List.length_eq_zero_iff.1 hl).symm
theorem er_last {l : List Item} {N a : Nat} (hl : l.length = N) (h : a + 1 = N) : l.take a = l.eraseIdx a := by
  rw [List.eraseIdx_eq_take_drop_succ, List.drop_of_length_le (by omega), List.append_nil]
theorem er_nil {l : List Item} {N a : Nat} (hl : l.length = N) (h : a = 0) (h2 : N = 1) : ([] : List Item) = l.eraseIdx a := by
  subst h
  rw [List.eraseIdx_eq_take_drop_succ, List.drop_of_length_le (by omega)]; rfl
theorem er_len {l : List Item} {N a : Nat} (hl : l.length = N) (h : a < N) : (l.eraseIdx a).length = N - 1 := by rw [List.length_eraseIdx_of_lt (by omega), hl]
end Go.Proofs.Ytnjknabighmedaa.Vt
