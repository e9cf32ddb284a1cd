/- Dg1: walks through functions of the program, by the calculus; written by a program of this workplace. -/
import Derived.Test.YtdnkhdkflemkeaaEnv
import Derived.Test.YtdnkhdkflemkeaaVm5
namespace Go.Proofs.Ytdnkhdkflemkeaa.Vt
open Go Go.Proofs Go.Proofs.YtdnkhdkflemkeaaV
set_option maxRecDepth 100000
set_option linter.unusedVariables false
set_option linter.unusedSimpArgs false
def rl (x : BitVec 32) (k : Nat) : BitVec 32 := x <<< k ||| x >>> (32 - k)
def fk (i : Nat) (b c d : BitVec 32) : BitVec 32 × BitVec 32 :=
  if i < 20 then (b &&& c ||| ~~~b &&& d, 1518500249#32) else if i < 40 then (b ^^^ c ^^^ d, 1859775393#32) else if i < 60 then (b &&& c ||| b &&& d ||| c &&& d, 2400959708#32) else (b ^^^ c ^^^ d, 3395469782#32)
theorem ch_eq (b c d : BitVec 32) : d ^^^ (b &&& (c ^^^ d)) = b &&& c ||| ~~~b &&& d := by
  ext i hi
  simp only [BitVec.getElem_xor, BitVec.getElem_and, BitVec.getElem_or, BitVec.getElem_not]
  cases b[i] <;> cases c[i] <;> cases d[i] <;> rfl
theorem maj_eq (b c d : BitVec 32) : b &&& c ||| (d &&& (b ||| c)) = b &&& c ||| b &&& d ||| c &&& d := by
  ext i hi
  simp only [BitVec.getElem_xor, BitVec.getElem_and, BitVec.getElem_or, BitVec.getElem_not]
  cases b[i] <;> cases c[i] <;> cases d[i] <;> rfl
theorem b_and31 {E : Env} {t k : Nat} (h : k < 32) : abin0 E .and t (.int .u64 ((k : Nat) : Int)) (.int .u64 31) = .ret (.int .u64 ((k : Nat) : Int)) [] := by
  have : ∀ k : Nat, k < 32 → Op.intBits .and .u64 ((k : Nat) : Int) 31 = .pure (.int .u64 ((k : Nat) : Int)) := fun k hk => by
    have : k = 0 ∨ k = 1 ∨ k = 2 ∨ k = 3 ∨ k = 4 ∨ k = 5 ∨ k = 6 ∨ k = 7 ∨ k = 8 ∨ k = 9 ∨ k = 10 ∨ k = 11 ∨ k = 12 ∨ k = 13 ∨ k = 14 ∨ k = 15 ∨ k = 16 ∨ k = 17 ∨ k = 18 ∨ k = 19 ∨ k = 20 ∨ k = 21 ∨ k = 22 ∨ k = 23 ∨ k = 24 ∨ k = 25 ∨ k = 26 ∨ k = 27 ∨ k = 28 ∨ k = 29 ∨ k = 30 ∨ k = 31 := by omega
    rcases this with rfl | rfl | rfl | rfl | rfl | rfl | rfl | rfl | rfl | rfl | rfl | rfl | rfl | rfl | rfl | rfl | rfl | rfl | rfl | rfl | rfl | rfl | rfl | rfl | rfl | rfl | rfl | rfl | rfl | rfl | rfl | rfl <;> rfl
  unfold abin0
  simp only [ne_eq, not_true_eq_false, if_false, this k h, ofSem]
theorem s59 {σ : Store} (x : BitVec 32) (k : Nat) (hk : k ≤ 32)   : PS Try.prog noDen 59 [(W x), (.int .u64 ((k : Nat) : Int))] σ (W (rl x k)) := by
 refine PS.body (E := env) env_ok rfl rfl (by show _ ≤ _; exact of_decide_eq_true (by kernel_rfl)) (fun n hd => ?_)
 refine RA.seq hd ?_
 refine RA.region env_ok ?_
 refine OA.p (some 4) (.int .u32 0) rfl rfl rfl rfl ?_
 refine OA.nil ?_
 intro _
 refine RA.seq hd ?_
 refine RA.region env_ok ?_
 refine OA.p (some 5) (W x) rfl rfl rfl rfl ?_
 refine OA.p (some 6) (.int .u64 ((k : Nat) : Int)) rfl rfl rfl rfl ?_
 refine OA.p (some 7) (W (x <<< k)) rfl rfl rfl (r_bin rfl rfl rfl (b_shlW _ (s := k) (by omega))) ?_
 refine OA.p (some 8) (W x) rfl rfl rfl rfl ?_
 refine OA.p (some 9) (.int .u64 ((k : Nat) : Int)) rfl rfl rfl rfl ?_
 refine OA.p (some 10) (.int .u64 (((32 - k) : Nat) : Int)) rfl rfl rfl (r_bin rfl rfl rfl (b_sub (u64_eq (by omega)))) ?_
 refine OA.p (some 11) (W (x >>> (32 - k))) rfl rfl rfl (r_bin rfl rfl rfl (b_shrW _ (s := (32 - k)) (by omega))) ?_
 refine OA.p (some 12) (W ((x <<< k) ||| (x >>> (32 - k)))) rfl rfl rfl (r_bin rfl rfl rfl (b_orW (x <<< k) (x >>> (32 - k)))) ?_
 refine OA.p (some 4) (W ((x <<< k) ||| (x >>> (32 - k)))) rfl rfl rfl rfl ?_
 refine OA.nil ?_
 intro _
 refine RA.ret env_ok ?_
 refine ⟨.inr rfl, [(W ((x <<< k) ||| (x >>> (32 - k))))], (resL_cons rfl resL_nil), rfl, (fun i hi => by cases hi)⟩

theorem s57 {σ : Store} (x : BitVec 32) (k : Nat) (hk : k < 32)   : PS Try.prog noDen 57 [(W x), (.int .i64 ((k : Nat) : Int))] σ (W (rl x k)) := by
 refine PS.body (E := env) env_ok rfl rfl (by show _ ≤ _; exact of_decide_eq_true (by kernel_rfl)) (fun n hd => ?_)
 refine RA.seq hd ?_
 refine RA.region env_ok ?_
 refine OA.p (some 4) (.int .u32 0) rfl rfl rfl rfl ?_
 refine OA.nil ?_
 intro _
 refine RA.seq hd ?_
 refine RA.region env_ok ?_
 refine OA.p (some 6) (.int .i64 ((k : Nat) : Int)) rfl rfl rfl rfl ?_
 refine OA.p (some 7) (.int .u64 ((k : Nat) : Int)) rfl rfl rfl (r_cvt rfl rfl rfl rfl rfl ⟨_, rfl⟩ (u64_eq (by omega))) ?_
 refine OA.p (some 8) (.int .u64 ((k : Nat) : Int)) rfl rfl rfl (r_bin rfl rfl rfl (b_and31 hk)) ?_
 refine OA.p (some 5) (.int .u64 ((k : Nat) : Int)) rfl rfl rfl rfl ?_
 refine OA.nil ?_
 intro _
 refine RA.seq hd ?_
 refine RA.region env_ok ?_
 refine OA.p (some 9) (W x) rfl rfl rfl rfl ?_
 refine OA.p (some 10) (.int .u64 ((k : Nat) : Int)) rfl rfl rfl rfl ?_
 refine OA.p (some 11) (W (x <<< k)) rfl rfl rfl (r_bin rfl rfl rfl (b_shlW _ (s := k) (by omega))) ?_
 refine OA.p (some 12) (W x) rfl rfl rfl rfl ?_
 refine OA.p (some 13) (.int .u64 ((k : Nat) : Int)) rfl rfl rfl rfl ?_
 refine OA.p (some 14) (.int .u64 (((32 - k) : Nat) : Int)) rfl rfl rfl (r_bin rfl rfl rfl (b_sub (u64_eq (by omega)))) ?_
 refine OA.p (some 15) (W (x >>> (32 - k))) rfl rfl rfl (r_bin rfl rfl rfl (b_shrW _ (s := (32 - k)) (by omega))) ?_
 refine OA.p (some 16) (W ((x <<< k) ||| (x >>> (32 - k)))) rfl rfl rfl (r_bin rfl rfl rfl (b_orW (x <<< k) (x >>> (32 - k)))) ?_
 refine OA.p (some 4) (W ((x <<< k) ||| (x >>> (32 - k)))) rfl rfl rfl rfl ?_
 refine OA.nil ?_
 intro _
 refine RA.ret env_ok ?_
 refine ⟨.inr rfl, [(W ((x <<< k) ||| (x >>> (32 - k))))], (resL_cons rfl resL_nil), rfl, (fun i hi => by cases hi)⟩

theorem s56 {σ : Store} (i : Nat) (hi : i < 80) (b c d : BitVec 32)   : PS Try.prog noDen 56 [(.int .i64 ((i : Nat) : Int)), (W b), (W c), (W d)] σ (.tuple #[W (fk i b c d).1, W (fk i b c d).2]) := by
 refine PS.body (E := env) env_ok rfl rfl (by show _ ≤ _; exact of_decide_eq_true (by kernel_rfl)) (fun n hd => ?_)
 refine RA.seq hd ?_
 refine RA.region env_ok ?_
 refine OA.p (some 8) (.int .u32 0) rfl rfl rfl rfl ?_
 refine OA.p (some 9) (.int .u32 0) rfl rfl rfl rfl ?_
 refine OA.nil ?_
 intro _
 refine RA.seq hd ?_
 refine RA.seq hd ?_
 refine RA.region env_ok ?_
 refine OA.p (some 10) (.int .i64 ((i : Nat) : Int)) rfl rfl rfl rfl ?_
 refine OA.p (some 11) (.int .i64 (((i / 20) : Nat) : Int)) rfl rfl rfl (r_bin rfl rfl rfl (b_quoN (a := i) (c := 20) (by decide) (i64_eq (by omega)))) ?_
 refine OA.nil ?_
 intro _
 refine RA.block ?_
 refine RA.seq hd ?_
 refine RA.region env_ok ?_
 by_cases hc1 : (((i / 20) : Nat) : Int) = 0
 ·
  refine OA.p (some 13) (.bool true) rfl rfl rfl (Eq.trans (r_bin rfl rfl rfl (b_eql rfl)) (dT hc1)) ?_
  refine OA.p (some 12) (.bool true) rfl rfl rfl rfl ?_
  refine OA.nil ?_
  intro _
  refine RA.condT rfl ?_
  refine RA.seq hd ?_
  refine RA.region env_ok ?_
  refine OA.p (some 14) (W b) rfl rfl rfl rfl ?_
  refine OA.p (some 15) (W c) rfl rfl rfl rfl ?_
  refine OA.p (some 16) (W (b &&& c)) rfl rfl rfl (r_bin rfl rfl rfl (b_andW b c)) ?_
  refine OA.p (some 17) (W b) rfl rfl rfl rfl ?_
  refine OA.p (some 18) (W (~~~b)) rfl rfl rfl (r_notW rfl rfl) ?_
  refine OA.p (some 19) (W d) rfl rfl rfl rfl ?_
  refine OA.p (some 20) (W ((~~~b) &&& d)) rfl rfl rfl (r_bin rfl rfl rfl (b_andW (~~~b) d)) ?_
  refine OA.p (some 21) (W ((b &&& c) ||| ((~~~b) &&& d))) rfl rfl rfl (r_bin rfl rfl rfl (b_orW (b &&& c) ((~~~b) &&& d))) ?_
  refine OA.p (some 8) (W ((b &&& c) ||| ((~~~b) &&& d))) rfl rfl rfl rfl ?_
  refine OA.p (some 9) (.int .u32 1518500249) rfl rfl rfl rfl ?_
  refine OA.nil ?_
  intro _
  refine RA.ret env_ok ?_
  refine ⟨.inr rfl, [(W ((b &&& c) ||| ((~~~b) &&& d))), (.int .u32 1518500249)], (resL_cons rfl (resL_cons rfl resL_nil)), (by simp only [one, fk]; (repeat' split) <;> first | rfl | (exfalso; omega)), (fun i hi => by cases hi)⟩
 ·
  refine OA.p (some 13) (.bool false) rfl rfl rfl (Eq.trans (r_bin rfl rfl rfl (b_eql rfl)) (dF hc1)) ?_
  refine OA.p (some 12) (.bool false) rfl rfl rfl rfl ?_
  refine OA.nil ?_
  intro _
  refine RA.condF rfl ?_
  refine RA.seq hd ?_
  refine RA.region env_ok ?_
  by_cases hc2 : (((i / 20) : Nat) : Int) = 1
  ·
   refine OA.p (some 23) (.bool true) rfl rfl rfl (Eq.trans (r_bin rfl rfl rfl (b_eql rfl)) (dT hc2)) ?_
   refine OA.p (some 22) (.bool true) rfl rfl rfl rfl ?_
   refine OA.nil ?_
   intro _
   refine RA.condT rfl ?_
   refine RA.seq hd ?_
   refine RA.region env_ok ?_
   refine OA.p (some 24) (W b) rfl rfl rfl rfl ?_
   refine OA.p (some 25) (W c) rfl rfl rfl rfl ?_
   refine OA.p (some 26) (W (b ^^^ c)) rfl rfl rfl (r_bin rfl rfl rfl (b_xorW b c)) ?_
   refine OA.p (some 27) (W d) rfl rfl rfl rfl ?_
   refine OA.p (some 28) (W ((b ^^^ c) ^^^ d)) rfl rfl rfl (r_bin rfl rfl rfl (b_xorW (b ^^^ c) d)) ?_
   refine OA.p (some 8) (W ((b ^^^ c) ^^^ d)) rfl rfl rfl rfl ?_
   refine OA.p (some 9) (.int .u32 1859775393) rfl rfl rfl rfl ?_
   refine OA.nil ?_
   intro _
   refine RA.ret env_ok ?_
   refine ⟨.inr rfl, [(W ((b ^^^ c) ^^^ d)), (.int .u32 1859775393)], (resL_cons rfl (resL_cons rfl resL_nil)), (by simp only [one, fk]; (repeat' split) <;> first | rfl | (exfalso; omega)), (fun i hi => by cases hi)⟩
  ·
   refine OA.p (some 23) (.bool false) rfl rfl rfl (Eq.trans (r_bin rfl rfl rfl (b_eql rfl)) (dF hc2)) ?_
   refine OA.p (some 22) (.bool false) rfl rfl rfl rfl ?_
   refine OA.nil ?_
   intro _
   refine RA.condF rfl ?_
   refine RA.seq hd ?_
   refine RA.region env_ok ?_
   by_cases hc3 : (((i / 20) : Nat) : Int) = 2
   ·
    refine OA.p (some 30) (.bool true) rfl rfl rfl (Eq.trans (r_bin rfl rfl rfl (b_eql rfl)) (dT hc3)) ?_
    refine OA.p (some 29) (.bool true) rfl rfl rfl rfl ?_
    refine OA.nil ?_
    intro _
    refine RA.condT rfl ?_
    refine RA.seq hd ?_
    refine RA.region env_ok ?_
    refine OA.p (some 31) (W b) rfl rfl rfl rfl ?_
    refine OA.p (some 32) (W c) rfl rfl rfl rfl ?_
    refine OA.p (some 33) (W (b &&& c)) rfl rfl rfl (r_bin rfl rfl rfl (b_andW b c)) ?_
    refine OA.p (some 34) (W b) rfl rfl rfl rfl ?_
    refine OA.p (some 35) (W d) rfl rfl rfl rfl ?_
    refine OA.p (some 36) (W (b &&& d)) rfl rfl rfl (r_bin rfl rfl rfl (b_andW b d)) ?_
    refine OA.p (some 37) (W ((b &&& c) ||| (b &&& d))) rfl rfl rfl (r_bin rfl rfl rfl (b_orW (b &&& c) (b &&& d))) ?_
    refine OA.p (some 38) (W c) rfl rfl rfl rfl ?_
    refine OA.p (some 39) (W d) rfl rfl rfl rfl ?_
    refine OA.p (some 40) (W (c &&& d)) rfl rfl rfl (r_bin rfl rfl rfl (b_andW c d)) ?_
    refine OA.p (some 41) (W (((b &&& c) ||| (b &&& d)) ||| (c &&& d))) rfl rfl rfl (r_bin rfl rfl rfl (b_orW ((b &&& c) ||| (b &&& d)) (c &&& d))) ?_
    refine OA.p (some 8) (W (((b &&& c) ||| (b &&& d)) ||| (c &&& d))) rfl rfl rfl rfl ?_
    refine OA.p (some 9) (.int .u32 2400959708) rfl rfl rfl rfl ?_
    refine OA.nil ?_
    intro _
    refine RA.ret env_ok ?_
    refine ⟨.inr rfl, [(W (((b &&& c) ||| (b &&& d)) ||| (c &&& d))), (.int .u32 2400959708)], (resL_cons rfl (resL_cons rfl resL_nil)), (by simp only [one, fk]; (repeat' split) <;> first | rfl | (exfalso; omega)), (fun i hi => by cases hi)⟩
   ·
    refine OA.p (some 30) (.bool false) rfl rfl rfl (Eq.trans (r_bin rfl rfl rfl (b_eql rfl)) (dF hc3)) ?_
    refine OA.p (some 29) (.bool false) rfl rfl rfl rfl ?_
    refine OA.nil ?_
    intro _
    refine RA.condF rfl ?_
    refine RA.skip env_ok ?_
    intro _
    refine RA.seq hd ?_
    refine RA.region env_ok ?_
    refine OA.p (some 42) (W b) rfl rfl rfl rfl ?_
    refine OA.p (some 43) (W c) rfl rfl rfl rfl ?_
    refine OA.p (some 44) (W (b ^^^ c)) rfl rfl rfl (r_bin rfl rfl rfl (b_xorW b c)) ?_
    refine OA.p (some 45) (W d) rfl rfl rfl rfl ?_
    refine OA.p (some 46) (W ((b ^^^ c) ^^^ d)) rfl rfl rfl (r_bin rfl rfl rfl (b_xorW (b ^^^ c) d)) ?_
    refine OA.p (some 8) (W ((b ^^^ c) ^^^ d)) rfl rfl rfl rfl ?_
    refine OA.p (some 9) (.int .u32 3395469782) rfl rfl rfl rfl ?_
    refine OA.nil ?_
    intro _
    refine RA.ret env_ok ?_
    refine ⟨.inr rfl, [(W ((b ^^^ c) ^^^ d)), (.int .u32 3395469782)], (resL_cons rfl (resL_cons rfl resL_nil)), (by simp only [one, fk]; (repeat' split) <;> first | rfl | (exfalso; omega)), (fun i hi => by cases hi)⟩

theorem s60 {σ : Store} (i : Nat) (hi : i < 80) (b c d : BitVec 32)   : PS Try.prog noDen 60 [(.int .i64 ((i : Nat) : Int)), (W b), (W c), (W d)] σ (.tuple #[W (fk i b c d).1, W (fk i b c d).2]) := by
 refine PS.body (E := env) env_ok rfl rfl (by show _ ≤ _; exact of_decide_eq_true (by kernel_rfl)) (fun n hd => ?_)
 refine RA.seq hd ?_
 refine RA.region env_ok ?_
 refine OA.p (some 8) (.int .u32 0) rfl rfl rfl rfl ?_
 refine OA.p (some 9) (.int .u32 0) rfl rfl rfl rfl ?_
 refine OA.nil ?_
 intro _
 refine RA.seq hd ?_
 refine RA.block ?_
 refine RA.seq hd ?_
 refine RA.region env_ok ?_
 refine OA.p (some 11) (.int .i64 ((i : Nat) : Int)) rfl rfl rfl rfl ?_
 by_cases hc1 : ((i : Nat) : Int) < 20
 ·
  refine OA.p (some 12) (.bool true) rfl rfl rfl (Eq.trans (r_bin rfl rfl rfl (b_lss rfl)) (dT hc1)) ?_
  refine OA.p (some 10) (.bool true) rfl rfl rfl rfl ?_
  refine OA.nil ?_
  intro _
  refine RA.condT rfl ?_
  refine RA.seq hd ?_
  refine RA.region env_ok ?_
  refine OA.p (some 13) (W d) rfl rfl rfl rfl ?_
  refine OA.p (some 14) (W b) rfl rfl rfl rfl ?_
  refine OA.p (some 15) (W c) rfl rfl rfl rfl ?_
  refine OA.p (some 16) (W d) rfl rfl rfl rfl ?_
  refine OA.p (some 17) (W (c ^^^ d)) rfl rfl rfl (r_bin rfl rfl rfl (b_xorW c d)) ?_
  refine OA.p (some 18) (W (b &&& (c ^^^ d))) rfl rfl rfl (r_bin rfl rfl rfl (b_andW b (c ^^^ d))) ?_
  refine OA.p (some 19) (W (d ^^^ (b &&& (c ^^^ d)))) rfl rfl rfl (r_bin rfl rfl rfl (b_xorW d (b &&& (c ^^^ d)))) ?_
  refine OA.p (some 8) (W (d ^^^ (b &&& (c ^^^ d)))) rfl rfl rfl rfl ?_
  refine OA.p (some 9) (.int .u32 1518500249) rfl rfl rfl rfl ?_
  refine OA.nil ?_
  intro _
  refine RA.ret env_ok ?_
  refine ⟨.inr rfl, [(W (d ^^^ (b &&& (c ^^^ d)))), (.int .u32 1518500249)], (resL_cons rfl (resL_cons rfl resL_nil)), (by simp only [one, fk, ch_eq, maj_eq]; (repeat' split) <;> first | rfl | (exfalso; omega)), (fun i hi => by cases hi)⟩
 ·
  refine OA.p (some 12) (.bool false) rfl rfl rfl (Eq.trans (r_bin rfl rfl rfl (b_lss rfl)) (dF hc1)) ?_
  refine OA.p (some 10) (.bool false) rfl rfl rfl rfl ?_
  refine OA.nil ?_
  intro _
  refine RA.condF rfl ?_
  refine RA.seq hd ?_
  refine RA.region env_ok ?_
  refine OA.p (some 21) (.int .i64 ((i : Nat) : Int)) rfl rfl rfl rfl ?_
  by_cases hc2 : ((i : Nat) : Int) < 40
  ·
   refine OA.p (some 22) (.bool true) rfl rfl rfl (Eq.trans (r_bin rfl rfl rfl (b_lss rfl)) (dT hc2)) ?_
   refine OA.p (some 20) (.bool true) rfl rfl rfl rfl ?_
   refine OA.nil ?_
   intro _
   refine RA.condT rfl ?_
   refine RA.seq hd ?_
   refine RA.region env_ok ?_
   refine OA.p (some 23) (W b) rfl rfl rfl rfl ?_
   refine OA.p (some 24) (W c) rfl rfl rfl rfl ?_
   refine OA.p (some 25) (W (b ^^^ c)) rfl rfl rfl (r_bin rfl rfl rfl (b_xorW b c)) ?_
   refine OA.p (some 26) (W d) rfl rfl rfl rfl ?_
   refine OA.p (some 27) (W ((b ^^^ c) ^^^ d)) rfl rfl rfl (r_bin rfl rfl rfl (b_xorW (b ^^^ c) d)) ?_
   refine OA.p (some 8) (W ((b ^^^ c) ^^^ d)) rfl rfl rfl rfl ?_
   refine OA.p (some 9) (.int .u32 1859775393) rfl rfl rfl rfl ?_
   refine OA.nil ?_
   intro _
   refine RA.ret env_ok ?_
   refine ⟨.inr rfl, [(W ((b ^^^ c) ^^^ d)), (.int .u32 1859775393)], (resL_cons rfl (resL_cons rfl resL_nil)), (by simp only [one, fk, ch_eq, maj_eq]; (repeat' split) <;> first | rfl | (exfalso; omega)), (fun i hi => by cases hi)⟩
  ·
   refine OA.p (some 22) (.bool false) rfl rfl rfl (Eq.trans (r_bin rfl rfl rfl (b_lss rfl)) (dF hc2)) ?_
   refine OA.p (some 20) (.bool false) rfl rfl rfl rfl ?_
   refine OA.nil ?_
   intro _
   refine RA.condF rfl ?_
   refine RA.seq hd ?_
   refine RA.region env_ok ?_
   refine OA.p (some 29) (.int .i64 ((i : Nat) : Int)) rfl rfl rfl rfl ?_
   by_cases hc3 : ((i : Nat) : Int) < 60
   ·
    refine OA.p (some 30) (.bool true) rfl rfl rfl (Eq.trans (r_bin rfl rfl rfl (b_lss rfl)) (dT hc3)) ?_
    refine OA.p (some 28) (.bool true) rfl rfl rfl rfl ?_
    refine OA.nil ?_
    intro _
    refine RA.condT rfl ?_
    refine RA.seq hd ?_
    refine RA.region env_ok ?_
    refine OA.p (some 31) (W b) rfl rfl rfl rfl ?_
    refine OA.p (some 32) (W c) rfl rfl rfl rfl ?_
    refine OA.p (some 33) (W (b &&& c)) rfl rfl rfl (r_bin rfl rfl rfl (b_andW b c)) ?_
    refine OA.p (some 34) (W d) rfl rfl rfl rfl ?_
    refine OA.p (some 35) (W b) rfl rfl rfl rfl ?_
    refine OA.p (some 36) (W c) rfl rfl rfl rfl ?_
    refine OA.p (some 37) (W (b ||| c)) rfl rfl rfl (r_bin rfl rfl rfl (b_orW b c)) ?_
    refine OA.p (some 38) (W (d &&& (b ||| c))) rfl rfl rfl (r_bin rfl rfl rfl (b_andW d (b ||| c))) ?_
    refine OA.p (some 39) (W ((b &&& c) ||| (d &&& (b ||| c)))) rfl rfl rfl (r_bin rfl rfl rfl (b_orW (b &&& c) (d &&& (b ||| c)))) ?_
    refine OA.p (some 8) (W ((b &&& c) ||| (d &&& (b ||| c)))) rfl rfl rfl rfl ?_
    refine OA.p (some 9) (.int .u32 2400959708) rfl rfl rfl rfl ?_
    refine OA.nil ?_
    intro _
    refine RA.ret env_ok ?_
    refine ⟨.inr rfl, [(W ((b &&& c) ||| (d &&& (b ||| c)))), (.int .u32 2400959708)], (resL_cons rfl (resL_cons rfl resL_nil)), (by simp only [one, fk, ch_eq, maj_eq]; (repeat' split) <;> first | rfl | (exfalso; omega)), (fun i hi => by cases hi)⟩
   ·
    refine OA.p (some 30) (.bool false) rfl rfl rfl (Eq.trans (r_bin rfl rfl rfl (b_lss rfl)) (dF hc3)) ?_
    refine OA.p (some 28) (.bool false) rfl rfl rfl rfl ?_
    refine OA.nil ?_
    intro _
    refine RA.condF rfl ?_
    refine RA.skip env_ok ?_
    intro _
    refine RA.seq hd ?_
    refine RA.region env_ok ?_
    refine OA.p (some 40) (W b) rfl rfl rfl rfl ?_
    refine OA.p (some 41) (W c) rfl rfl rfl rfl ?_
    refine OA.p (some 42) (W (b ^^^ c)) rfl rfl rfl (r_bin rfl rfl rfl (b_xorW b c)) ?_
    refine OA.p (some 43) (W d) rfl rfl rfl rfl ?_
    refine OA.p (some 44) (W ((b ^^^ c) ^^^ d)) rfl rfl rfl (r_bin rfl rfl rfl (b_xorW (b ^^^ c) d)) ?_
    refine OA.p (some 8) (W ((b ^^^ c) ^^^ d)) rfl rfl rfl rfl ?_
    refine OA.p (some 9) (.int .u32 3395469782) rfl rfl rfl rfl ?_
    refine OA.nil ?_
    intro _
    refine RA.ret env_ok ?_
    refine ⟨.inr rfl, [(W ((b ^^^ c) ^^^ d)), (.int .u32 3395469782)], (resL_cons rfl (resL_cons rfl resL_nil)), (by simp only [one, fk, ch_eq, maj_eq]; (repeat' split) <;> first | rfl | (exfalso; omega)), (fun i hi => by cases hi)⟩
end Go.Proofs.Ytdnkhdkflemkeaa.Vt
