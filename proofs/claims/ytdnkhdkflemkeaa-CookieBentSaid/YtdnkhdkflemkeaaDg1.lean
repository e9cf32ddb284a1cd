/- Dg1: walks through functions of the program, by the calculus; written by a program of this workplace. -/
import Derived.Test.YtdnkhdkflemkeaaEnv
import Derived.Test.YtdnkhdkflemkeaaVm5
namespace Go.Proofs.Ytdnkhdkflemkeaa.Vt
open Go Go.Proofs Go.Proofs.YtdnkhdkflemkeaaV
set_option maxRecDepth 100000
set_option linter.unusedVariables false
set_option linter.unusedSimpArgs false
def rl (x : BitVec 32) (k : Nat) : BitVec 32 := x <<< k ||| x >>> (32 - k)
def fk (i : Nat) (b c d : BitVec 32) : BitVec 32 × BitVec 32 :=
  if i < 20 then (b &&& c ||| ~~~b &&& d, 1518500249#32) else if i < 40 then (b ^^^ c ^^^ d, 1859775393#32) else if i < 60 then (b &&& c ||| b &&& d ||| c &&& d, 2400959708#32) else (b ^^^ c ^^^ d, 3395469782#32)
theorem ch_eq (b c d : BitVec 32) : d ^^^ (b &&& (c ^^^ d)) = b &&& c ||| ~~~b &&& d := by
  ext i hi
  simp only [BitVec.getElem_xor, BitVec.getElem_and, BitVec.getElem_or, BitVec.getElem_not]
  cases b[i] <;> cases c[i] <;> cases d[i] <;> rfl
theorem maj_eq (b c d : BitVec 32) : b &&& c ||| (d &&& (b ||| c)) = b &&& c ||| b &&& d ||| c &&& d := by
  ext i hi
  simp only [BitVec.getElem_xor, BitVec.getElem_and, BitVec.getElem_or, BitVec.getElem_not]
  cases b[i] <;> cases c[i] <;> cases d[i] <;> rfl
theorem b_and31 {E : Env} {t k : Nat} (h : k < 32) : abin0 E .and t (.int .u64 ((k : Nat) : Int)) (.int .u64 31) = .ret (.int .u64 ((k : Nat) : Int)) [] := by
  have : ∀ k : Nat, k < 32 → Op.intBits .and .u64 ((k : Nat) : Int) 31 = .pure (.int .u64 ((k : Nat) : Int)) := fun k hk => by
    have : k = 0 ∨ k = 1 ∨ k = 2 ∨ k = 3 ∨ k = 4 ∨ k = 5 ∨ k = 6 ∨ k = 7 ∨ k = 8 ∨ k = 9 ∨ k = 10 ∨ k = 11 ∨ k = 12 ∨ k = 13 ∨ k = 14 ∨ k = 15 ∨ k = 16 ∨ k = 17 ∨ k = 18 ∨ k = 19 ∨ k = 20 ∨ k = 21 ∨ k = 22 ∨ k = 23 ∨ k = 24 ∨ k = 25 ∨ k = 26 ∨ k = 27 ∨ k = 28 ∨ k = 29 ∨ k = 30 ∨ k = 31 := by omega
    rcases this with rfl | rfl | rfl | rfl | rfl | rfl | rfl | rfl | rfl | rfl | rfl | rfl | rfl | rfl | rfl | rfl | rfl | rfl | rfl | rfl | rfl | rfl | rfl | rfl | rfl | rfl | rfl | rfl | rfl | rfl | rfl | rfl <;> rfl
  unfold abin0
  simp only [ne_eq, not_true_eq_false, if_false, this k h, ofSem]
theorem s59 {σ : Store} (x : BitVec 32) (k : Nat) (hk : k ≤ 32)   : PS Try.prog noDen 59 [(W x), (.int .u64 ((k : Nat) : Int))] σ (W (rl x k)) := by
 refine PS.body (E := env) env_ok rfl rfl (by show _ ≤ _; exact of_decide_eq_true (by kernel_rfl)) (fun n hd => ?_)
 refine RA.seq hd ?_
 refine RA.region env_ok ?_
 refine OA.pure (dst := (some 4)) (v := (.int .u32 0)) rfl rfl rfl rfl ?_
 refine OA.nil ?_
 intro _
 refine RA.seq hd ?_
 refine RA.region env_ok ?_
 refine OA.pure (dst := (some 5)) (v := (W x)) rfl rfl rfl rfl ?_
 refine OA.pure (dst := (some 6)) (v := (.int .u64 ((k : Nat) : Int))) rfl rfl rfl rfl ?_
 refine OA.pure (dst := (some 7)) (v := (W (x <<< k))) rfl rfl rfl (r_bin rfl rfl rfl (b_shlW _ (s := k) (by omega))) ?_
 refine OA.pure (dst := (some 8)) (v := (W x)) rfl rfl rfl rfl ?_
 refine OA.pure (dst := (some 9)) (v := (.int .u64 ((k : Nat) : Int))) rfl rfl rfl rfl ?_
 refine OA.pure (dst := (some 10)) (v := (.int .u64 (((32 - k) : Nat) : Int))) rfl rfl rfl (r_bin rfl rfl rfl (b_sub (u64_eq (by omega)))) ?_
 refine OA.pure (dst := (some 11)) (v := (W (x >>> (32 - k)))) rfl rfl rfl (r_bin rfl rfl rfl (b_shrW _ (s := (32 - k)) (by omega))) ?_
 refine OA.pure (dst := (some 12)) (v := (W ((x <<< k) ||| (x >>> (32 - k))))) rfl rfl rfl (r_bin rfl rfl rfl (b_orW (x <<< k) (x >>> (32 - k)))) ?_
 refine OA.pure (dst := (some 4)) (v := (W ((x <<< k) ||| (x >>> (32 - k))))) rfl rfl rfl rfl ?_
 refine OA.nil ?_
 intro _
 refine RA.ret env_ok ?_
 refine ⟨.inr rfl, [(W ((x <<< k) ||| (x >>> (32 - k))))], (resL_cons rfl resL_nil), rfl, (fun i hi => by cases hi)⟩

theorem s57 {σ : Store} (x : BitVec 32) (k : Nat) (hk : k < 32)   : PS Try.prog noDen 57 [(W x), (.int .i64 ((k : Nat) : Int))] σ (W (rl x k)) := by
 refine PS.body (E := env) env_ok rfl rfl (by show _ ≤ _; exact of_decide_eq_true (by kernel_rfl)) (fun n hd => ?_)
 refine RA.seq hd ?_
 refine RA.region env_ok ?_
 refine OA.pure (dst := (some 4)) (v := (.int .u32 0)) rfl rfl rfl rfl ?_
 refine OA.nil ?_
 intro _
 refine RA.seq hd ?_
 refine RA.region env_ok ?_
 refine OA.pure (dst := (some 6)) (v := (.int .i64 ((k : Nat) : Int))) rfl rfl rfl rfl ?_
 refine OA.pure (dst := (some 7)) (v := (.int .u64 ((k : Nat) : Int))) rfl rfl rfl (r_cvt rfl rfl rfl rfl rfl ⟨_, rfl⟩ (u64_eq (by omega))) ?_
 refine OA.pure (dst := (some 8)) (v := (.int .u64 ((k : Nat) : Int))) rfl rfl rfl (r_bin rfl rfl rfl (b_and31 hk)) ?_
 refine OA.pure (dst := (some 5)) (v := (.int .u64 ((k : Nat) : Int))) rfl rfl rfl rfl ?_
 refine OA.nil ?_
 intro _
 refine RA.seq hd ?_
 refine RA.region env_ok ?_
 refine OA.pure (dst := (some 9)) (v := (W x)) rfl rfl rfl rfl ?_
 refine OA.pure (dst := (some 10)) (v := (.int .u64 ((k : Nat) : Int))) rfl rfl rfl rfl ?_
 refine OA.pure (dst := (some 11)) (v := (W (x <<< k))) rfl rfl rfl (r_bin rfl rfl rfl (b_shlW _ (s := k) (by omega))) ?_
 refine OA.pure (dst := (some 12)) (v := (W x)) rfl rfl rfl rfl ?_
 refine OA.pure (dst := (some 13)) (v := (.int .u64 ((k : Nat) : Int))) rfl rfl rfl rfl ?_
 refine OA.pure (dst := (some 14)) (v := (.int .u64 (((32 - k) : Nat) : Int))) rfl rfl rfl (r_bin rfl rfl rfl (b_sub (u64_eq (by omega)))) ?_
 refine OA.pure (dst := (some 15)) (v := (W (x >>> (32 - k)))) rfl rfl rfl (r_bin rfl rfl rfl (b_shrW _ (s := (32 - k)) (by omega))) ?_
 refine OA.pure (dst := (some 16)) (v := (W ((x <<< k) ||| (x >>> (32 - k))))) rfl rfl rfl (r_bin rfl rfl rfl (b_orW (x <<< k) (x >>> (32 - k)))) ?_
 refine OA.pure (dst := (some 4)) (v := (W ((x <<< k) ||| (x >>> (32 - k))))) rfl rfl rfl rfl ?_
 refine OA.nil ?_
 intro _
 refine RA.ret env_ok ?_
 refine ⟨.inr rfl, [(W ((x <<< k) ||| (x >>> (32 - k))))], (resL_cons rfl resL_nil), rfl, (fun i hi => by cases hi)⟩

theorem s56 {σ : Store} (i : Nat) (hi : i < 80) (b c d : BitVec 32)   : PS Try.prog noDen 56 [(.int .i64 ((i : Nat) : Int)), (W b), (W c), (W d)] σ (.tuple #[W (fk i b c d).1, W (fk i b c d).2]) := by
 refine PS.body (E := env) env_ok rfl rfl (by show _ ≤ _; exact of_decide_eq_true (by kernel_rfl)) (fun n hd => ?_)
 refine RA.seq hd ?_
 refine RA.region env_ok ?_
 refine OA.pure (dst := (some 8)) (v := (.int .u32 0)) rfl rfl rfl rfl ?_
 refine OA.pure (dst := (some 9)) (v := (.int .u32 0)) rfl rfl rfl rfl ?_
 refine OA.nil ?_
 intro _
 refine RA.seq hd ?_
 refine RA.seq hd ?_
 refine RA.region env_ok ?_
 refine OA.pure (dst := (some 10)) (v := (.int .i64 ((i : Nat) : Int))) rfl rfl rfl rfl ?_
 refine OA.pure (dst := (some 11)) (v := (.int .i64 (((i / 20) : Nat) : Int))) rfl rfl rfl (r_bin rfl rfl rfl (b_quoN (a := i) (c := 20) (by decide) (i64_eq (by omega)))) ?_
 refine OA.nil ?_
 intro _
 refine RA.block ?_
 refine RA.seq hd ?_
 refine RA.region env_ok ?_
 by_cases hc1 : (((i / 20) : Nat) : Int) = 0
 ·
  refine OA.pure (dst := (some 13)) (v := (.bool true)) rfl rfl rfl (Eq.trans (r_bin rfl rfl rfl (b_eql rfl)) (by first | (rw [decide_eq_true hc1]; done) | (rw [decide_eq_true hc1]; rfl))) ?_
  refine OA.pure (dst := (some 12)) (v := (.bool true)) rfl rfl rfl rfl ?_
  refine OA.nil ?_
  intro _
  refine RA.cond (t := true) rfl (fun hc => ?_) (fun hc => ?_)
  ·
   refine RA.seq hd ?_
   refine RA.region env_ok ?_
   refine OA.pure (dst := (some 14)) (v := (W b)) rfl rfl rfl rfl ?_
   refine OA.pure (dst := (some 15)) (v := (W c)) rfl rfl rfl rfl ?_
   refine OA.pure (dst := (some 16)) (v := (W (b &&& c))) rfl rfl rfl (r_bin rfl rfl rfl (b_andW b c)) ?_
   refine OA.pure (dst := (some 17)) (v := (W b)) rfl rfl rfl rfl ?_
   refine OA.pure (dst := (some 18)) (v := (W (~~~b))) rfl rfl rfl (r_notW rfl rfl) ?_
   refine OA.pure (dst := (some 19)) (v := (W d)) rfl rfl rfl rfl ?_
   refine OA.pure (dst := (some 20)) (v := (W ((~~~b) &&& d))) rfl rfl rfl (r_bin rfl rfl rfl (b_andW (~~~b) d)) ?_
   refine OA.pure (dst := (some 21)) (v := (W ((b &&& c) ||| ((~~~b) &&& d)))) rfl rfl rfl (r_bin rfl rfl rfl (b_orW (b &&& c) ((~~~b) &&& d))) ?_
   refine OA.pure (dst := (some 8)) (v := (W ((b &&& c) ||| ((~~~b) &&& d)))) rfl rfl rfl rfl ?_
   refine OA.pure (dst := (some 9)) (v := (.int .u32 1518500249)) rfl rfl rfl rfl ?_
   refine OA.nil ?_
   intro _
   refine RA.ret env_ok ?_
   refine ⟨.inr rfl, [(W ((b &&& c) ||| ((~~~b) &&& d))), (.int .u32 1518500249)], (resL_cons rfl (resL_cons rfl resL_nil)), (by simp only [one, fk]; (repeat' split) <;> first | rfl | (exfalso; omega)), (fun i hi => by cases hi)⟩
  · cases hc
 ·
  refine OA.pure (dst := (some 13)) (v := (.bool false)) rfl rfl rfl (Eq.trans (r_bin rfl rfl rfl (b_eql rfl)) (by first | (rw [decide_eq_false hc1]; done) | (rw [decide_eq_false hc1]; rfl))) ?_
  refine OA.pure (dst := (some 12)) (v := (.bool false)) rfl rfl rfl rfl ?_
  refine OA.nil ?_
  intro _
  refine RA.cond (t := false) rfl (fun hc => ?_) (fun hc => ?_)
  · cases hc
  ·
   refine RA.seq hd ?_
   refine RA.region env_ok ?_
   by_cases hc2 : (((i / 20) : Nat) : Int) = 1
   ·
    refine OA.pure (dst := (some 23)) (v := (.bool true)) rfl rfl rfl (Eq.trans (r_bin rfl rfl rfl (b_eql rfl)) (by first | (rw [decide_eq_true hc2]; done) | (rw [decide_eq_true hc2]; rfl))) ?_
    refine OA.pure (dst := (some 22)) (v := (.bool true)) rfl rfl rfl rfl ?_
    refine OA.nil ?_
    intro _
    refine RA.cond (t := true) rfl (fun hc => ?_) (fun hc => ?_)
    ·
     refine RA.seq hd ?_
     refine RA.region env_ok ?_
     refine OA.pure (dst := (some 24)) (v := (W b)) rfl rfl rfl rfl ?_
     refine OA.pure (dst := (some 25)) (v := (W c)) rfl rfl rfl rfl ?_
     refine OA.pure (dst := (some 26)) (v := (W (b ^^^ c))) rfl rfl rfl (r_bin rfl rfl rfl (b_xorW b c)) ?_
     refine OA.pure (dst := (some 27)) (v := (W d)) rfl rfl rfl rfl ?_
     refine OA.pure (dst := (some 28)) (v := (W ((b ^^^ c) ^^^ d))) rfl rfl rfl (r_bin rfl rfl rfl (b_xorW (b ^^^ c) d)) ?_
     refine OA.pure (dst := (some 8)) (v := (W ((b ^^^ c) ^^^ d))) rfl rfl rfl rfl ?_
     refine OA.pure (dst := (some 9)) (v := (.int .u32 1859775393)) rfl rfl rfl rfl ?_
     refine OA.nil ?_
     intro _
     refine RA.ret env_ok ?_
     refine ⟨.inr rfl, [(W ((b ^^^ c) ^^^ d)), (.int .u32 1859775393)], (resL_cons rfl (resL_cons rfl resL_nil)), (by simp only [one, fk]; (repeat' split) <;> first | rfl | (exfalso; omega)), (fun i hi => by cases hi)⟩
    · cases hc
   ·
    refine OA.pure (dst := (some 23)) (v := (.bool false)) rfl rfl rfl (Eq.trans (r_bin rfl rfl rfl (b_eql rfl)) (by first | (rw [decide_eq_false hc2]; done) | (rw [decide_eq_false hc2]; rfl))) ?_
    refine OA.pure (dst := (some 22)) (v := (.bool false)) rfl rfl rfl rfl ?_
    refine OA.nil ?_
    intro _
    refine RA.cond (t := false) rfl (fun hc => ?_) (fun hc => ?_)
    · cases hc
    ·
     refine RA.seq hd ?_
     refine RA.region env_ok ?_
     by_cases hc3 : (((i / 20) : Nat) : Int) = 2
     ·
      refine OA.pure (dst := (some 30)) (v := (.bool true)) rfl rfl rfl (Eq.trans (r_bin rfl rfl rfl (b_eql rfl)) (by first | (rw [decide_eq_true hc3]; done) | (rw [decide_eq_true hc3]; rfl))) ?_
      refine OA.pure (dst := (some 29)) (v := (.bool true)) rfl rfl rfl rfl ?_
      refine OA.nil ?_
      intro _
      refine RA.cond (t := true) rfl (fun hc => ?_) (fun hc => ?_)
      ·
       refine RA.seq hd ?_
       refine RA.region env_ok ?_
       refine OA.pure (dst := (some 31)) (v := (W b)) rfl rfl rfl rfl ?_
       refine OA.pure (dst := (some 32)) (v := (W c)) rfl rfl rfl rfl ?_
       refine OA.pure (dst := (some 33)) (v := (W (b &&& c))) rfl rfl rfl (r_bin rfl rfl rfl (b_andW b c)) ?_
       refine OA.pure (dst := (some 34)) (v := (W b)) rfl rfl rfl rfl ?_
       refine OA.pure (dst := (some 35)) (v := (W d)) rfl rfl rfl rfl ?_
       refine OA.pure (dst := (some 36)) (v := (W (b &&& d))) rfl rfl rfl (r_bin rfl rfl rfl (b_andW b d)) ?_
       refine OA.pure (dst := (some 37)) (v := (W ((b &&& c) ||| (b &&& d)))) rfl rfl rfl (r_bin rfl rfl rfl (b_orW (b &&& c) (b &&& d))) ?_
       refine OA.pure (dst := (some 38)) (v := (W c)) rfl rfl rfl rfl ?_
       refine OA.pure (dst := (some 39)) (v := (W d)) rfl rfl rfl rfl ?_
       refine OA.pure (dst := (some 40)) (v := (W (c &&& d))) rfl rfl rfl (r_bin rfl rfl rfl (b_andW c d)) ?_
       refine OA.pure (dst := (some 41)) (v := (W (((b &&& c) ||| (b &&& d)) ||| (c &&& d)))) rfl rfl rfl (r_bin rfl rfl rfl (b_orW ((b &&& c) ||| (b &&& d)) (c &&& d))) ?_
       refine OA.pure (dst := (some 8)) (v := (W (((b &&& c) ||| (b &&& d)) ||| (c &&& d)))) rfl rfl rfl rfl ?_
       refine OA.pure (dst := (some 9)) (v := (.int .u32 2400959708)) rfl rfl rfl rfl ?_
       refine OA.nil ?_
       intro _
       refine RA.ret env_ok ?_
       refine ⟨.inr rfl, [(W (((b &&& c) ||| (b &&& d)) ||| (c &&& d))), (.int .u32 2400959708)], (resL_cons rfl (resL_cons rfl resL_nil)), (by simp only [one, fk]; (repeat' split) <;> first | rfl | (exfalso; omega)), (fun i hi => by cases hi)⟩
      · cases hc
     ·
      refine OA.pure (dst := (some 30)) (v := (.bool false)) rfl rfl rfl (Eq.trans (r_bin rfl rfl rfl (b_eql rfl)) (by first | (rw [decide_eq_false hc3]; done) | (rw [decide_eq_false hc3]; rfl))) ?_
      refine OA.pure (dst := (some 29)) (v := (.bool false)) rfl rfl rfl rfl ?_
      refine OA.nil ?_
      intro _
      refine RA.cond (t := false) rfl (fun hc => ?_) (fun hc => ?_)
      · cases hc
      ·
       refine RA.skip env_ok ?_
       intro _
       refine RA.seq hd ?_
       refine RA.region env_ok ?_
       refine OA.pure (dst := (some 42)) (v := (W b)) rfl rfl rfl rfl ?_
       refine OA.pure (dst := (some 43)) (v := (W c)) rfl rfl rfl rfl ?_
       refine OA.pure (dst := (some 44)) (v := (W (b ^^^ c))) rfl rfl rfl (r_bin rfl rfl rfl (b_xorW b c)) ?_
       refine OA.pure (dst := (some 45)) (v := (W d)) rfl rfl rfl rfl ?_
       refine OA.pure (dst := (some 46)) (v := (W ((b ^^^ c) ^^^ d))) rfl rfl rfl (r_bin rfl rfl rfl (b_xorW (b ^^^ c) d)) ?_
       refine OA.pure (dst := (some 8)) (v := (W ((b ^^^ c) ^^^ d))) rfl rfl rfl rfl ?_
       refine OA.pure (dst := (some 9)) (v := (.int .u32 3395469782)) rfl rfl rfl rfl ?_
       refine OA.nil ?_
       intro _
       refine RA.ret env_ok ?_
       refine ⟨.inr rfl, [(W ((b ^^^ c) ^^^ d)), (.int .u32 3395469782)], (resL_cons rfl (resL_cons rfl resL_nil)), (by simp only [one, fk]; (repeat' split) <;> first | rfl | (exfalso; omega)), (fun i hi => by cases hi)⟩

theorem s60 {σ : Store} (i : Nat) (hi : i < 80) (b c d : BitVec 32)   : PS Try.prog noDen 60 [(.int .i64 ((i : Nat) : Int)), (W b), (W c), (W d)] σ (.tuple #[W (fk i b c d).1, W (fk i b c d).2]) := by
 refine PS.body (E := env) env_ok rfl rfl (by show _ ≤ _; exact of_decide_eq_true (by kernel_rfl)) (fun n hd => ?_)
 refine RA.seq hd ?_
 refine RA.region env_ok ?_
 refine OA.pure (dst := (some 8)) (v := (.int .u32 0)) rfl rfl rfl rfl ?_
 refine OA.pure (dst := (some 9)) (v := (.int .u32 0)) rfl rfl rfl rfl ?_
 refine OA.nil ?_
 intro _
 refine RA.seq hd ?_
 refine RA.block ?_
 refine RA.seq hd ?_
 refine RA.region env_ok ?_
 refine OA.pure (dst := (some 11)) (v := (.int .i64 ((i : Nat) : Int))) rfl rfl rfl rfl ?_
 by_cases hc1 : ((i : Nat) : Int) < 20
 ·
  refine OA.pure (dst := (some 12)) (v := (.bool true)) rfl rfl rfl (Eq.trans (r_bin rfl rfl rfl (b_lss rfl)) (by first | (rw [decide_eq_true hc1]; done) | (rw [decide_eq_true hc1]; rfl))) ?_
  refine OA.pure (dst := (some 10)) (v := (.bool true)) rfl rfl rfl rfl ?_
  refine OA.nil ?_
  intro _
  refine RA.cond (t := true) rfl (fun hc => ?_) (fun hc => ?_)
  ·
   refine RA.seq hd ?_
   refine RA.region env_ok ?_
   refine OA.pure (dst := (some 13)) (v := (W d)) rfl rfl rfl rfl ?_
   refine OA.pure (dst := (some 14)) (v := (W b)) rfl rfl rfl rfl ?_
   refine OA.pure (dst := (some 15)) (v := (W c)) rfl rfl rfl rfl ?_
   refine OA.pure (dst := (some 16)) (v := (W d)) rfl rfl rfl rfl ?_
   refine OA.pure (dst := (some 17)) (v := (W (c ^^^ d))) rfl rfl rfl (r_bin rfl rfl rfl (b_xorW c d)) ?_
   refine OA.pure (dst := (some 18)) (v := (W (b &&& (c ^^^ d)))) rfl rfl rfl (r_bin rfl rfl rfl (b_andW b (c ^^^ d))) ?_
   refine OA.pure (dst := (some 19)) (v := (W (d ^^^ (b &&& (c ^^^ d))))) rfl rfl rfl (r_bin rfl rfl rfl (b_xorW d (b &&& (c ^^^ d)))) ?_
   refine OA.pure (dst := (some 8)) (v := (W (d ^^^ (b &&& (c ^^^ d))))) rfl rfl rfl rfl ?_
   refine OA.pure (dst := (some 9)) (v := (.int .u32 1518500249)) rfl rfl rfl rfl ?_
   refine OA.nil ?_
   intro _
   refine RA.ret env_ok ?_
   refine ⟨.inr rfl, [(W (d ^^^ (b &&& (c ^^^ d)))), (.int .u32 1518500249)], (resL_cons rfl (resL_cons rfl resL_nil)), (by simp only [one, fk, ch_eq, maj_eq]; (repeat' split) <;> first | rfl | (exfalso; omega)), (fun i hi => by cases hi)⟩
  · cases hc
 ·
  refine OA.pure (dst := (some 12)) (v := (.bool false)) rfl rfl rfl (Eq.trans (r_bin rfl rfl rfl (b_lss rfl)) (by first | (rw [decide_eq_false hc1]; done) | (rw [decide_eq_false hc1]; rfl))) ?_
  refine OA.pure (dst := (some 10)) (v := (.bool false)) rfl rfl rfl rfl ?_
  refine OA.nil ?_
  intro _
  refine RA.cond (t := false) rfl (fun hc => ?_) (fun hc => ?_)
  · cases hc
  ·
   refine RA.seq hd ?_
   refine RA.region env_ok ?_
   refine OA.pure (dst := (some 21)) (v := (.int .i64 ((i : Nat) : Int))) rfl rfl rfl rfl ?_
   by_cases hc2 : ((i : Nat) : Int) < 40
   ·
    refine OA.pure (dst := (some 22)) (v := (.bool true)) rfl rfl rfl (Eq.trans (r_bin rfl rfl rfl (b_lss rfl)) (by first | (rw [decide_eq_true hc2]; done) | (rw [decide_eq_true hc2]; rfl))) ?_
    refine OA.pure (dst := (some 20)) (v := (.bool true)) rfl rfl rfl rfl ?_
    refine OA.nil ?_
    intro _
    refine RA.cond (t := true) rfl (fun hc => ?_) (fun hc => ?_)
    ·
     refine RA.seq hd ?_
     refine RA.region env_ok ?_
     refine OA.pure (dst := (some 23)) (v := (W b)) rfl rfl rfl rfl ?_
     refine OA.pure (dst := (some 24)) (v := (W c)) rfl rfl rfl rfl ?_
     refine OA.pure (dst := (some 25)) (v := (W (b ^^^ c))) rfl rfl rfl (r_bin rfl rfl rfl (b_xorW b c)) ?_
     refine OA.pure (dst := (some 26)) (v := (W d)) rfl rfl rfl rfl ?_
     refine OA.pure (dst := (some 27)) (v := (W ((b ^^^ c) ^^^ d))) rfl rfl rfl (r_bin rfl rfl rfl (b_xorW (b ^^^ c) d)) ?_
     refine OA.pure (dst := (some 8)) (v := (W ((b ^^^ c) ^^^ d))) rfl rfl rfl rfl ?_
     refine OA.pure (dst := (some 9)) (v := (.int .u32 1859775393)) rfl rfl rfl rfl ?_
     refine OA.nil ?_
     intro _
     refine RA.ret env_ok ?_
     refine ⟨.inr rfl, [(W ((b ^^^ c) ^^^ d)), (.int .u32 1859775393)], (resL_cons rfl (resL_cons rfl resL_nil)), (by simp only [one, fk, ch_eq, maj_eq]; (repeat' split) <;> first | rfl | (exfalso; omega)), (fun i hi => by cases hi)⟩
    · cases hc
   ·
    refine OA.pure (dst := (some 22)) (v := (.bool false)) rfl rfl rfl (Eq.trans (r_bin rfl rfl rfl (b_lss rfl)) (by first | (rw [decide_eq_false hc2]; done) | (rw [decide_eq_false hc2]; rfl))) ?_
    refine OA.pure (dst := (some 20)) (v := (.bool false)) rfl rfl rfl rfl ?_
    refine OA.nil ?_
    intro _
    refine RA.cond (t := false) rfl (fun hc => ?_) (fun hc => ?_)
    · cases hc
    ·
     refine RA.seq hd ?_
     refine RA.region env_ok ?_
     refine OA.pure (dst := (some 29)) (v := (.int .i64 ((i : Nat) : Int))) rfl rfl rfl rfl ?_
     by_cases hc3 : ((i : Nat) : Int) < 60
     ·
      refine OA.pure (dst := (some 30)) (v := (.bool true)) rfl rfl rfl (Eq.trans (r_bin rfl rfl rfl (b_lss rfl)) (by first | (rw [decide_eq_true hc3]; done) | (rw [decide_eq_true hc3]; rfl))) ?_
      refine OA.pure (dst := (some 28)) (v := (.bool true)) rfl rfl rfl rfl ?_
      refine OA.nil ?_
      intro _
      refine RA.cond (t := true) rfl (fun hc => ?_) (fun hc => ?_)
      ·
       refine RA.seq hd ?_
       refine RA.region env_ok ?_
       refine OA.pure (dst := (some 31)) (v := (W b)) rfl rfl rfl rfl ?_
       refine OA.pure (dst := (some 32)) (v := (W c)) rfl rfl rfl rfl ?_
       refine OA.pure (dst := (some 33)) (v := (W (b &&& c))) rfl rfl rfl (r_bin rfl rfl rfl (b_andW b c)) ?_
       refine OA.pure (dst := (some 34)) (v := (W d)) rfl rfl rfl rfl ?_
       refine OA.pure (dst := (some 35)) (v := (W b)) rfl rfl rfl rfl ?_
       refine OA.pure (dst := (some 36)) (v := (W c)) rfl rfl rfl rfl ?_
       refine OA.pure (dst := (some 37)) (v := (W (b ||| c))) rfl rfl rfl (r_bin rfl rfl rfl (b_orW b c)) ?_
       refine OA.pure (dst := (some 38)) (v := (W (d &&& (b ||| c)))) rfl rfl rfl (r_bin rfl rfl rfl (b_andW d (b ||| c))) ?_
       refine OA.pure (dst := (some 39)) (v := (W ((b &&& c) ||| (d &&& (b ||| c))))) rfl rfl rfl (r_bin rfl rfl rfl (b_orW (b &&& c) (d &&& (b ||| c)))) ?_
       refine OA.pure (dst := (some 8)) (v := (W ((b &&& c) ||| (d &&& (b ||| c))))) rfl rfl rfl rfl ?_
       refine OA.pure (dst := (some 9)) (v := (.int .u32 2400959708)) rfl rfl rfl rfl ?_
       refine OA.nil ?_
       intro _
       refine RA.ret env_ok ?_
       refine ⟨.inr rfl, [(W ((b &&& c) ||| (d &&& (b ||| c)))), (.int .u32 2400959708)], (resL_cons rfl (resL_cons rfl resL_nil)), (by simp only [one, fk, ch_eq, maj_eq]; (repeat' split) <;> first | rfl | (exfalso; omega)), (fun i hi => by cases hi)⟩
      · cases hc
     ·
      refine OA.pure (dst := (some 30)) (v := (.bool false)) rfl rfl rfl (Eq.trans (r_bin rfl rfl rfl (b_lss rfl)) (by first | (rw [decide_eq_false hc3]; done) | (rw [decide_eq_false hc3]; rfl))) ?_
      refine OA.pure (dst := (some 28)) (v := (.bool false)) rfl rfl rfl rfl ?_
      refine OA.nil ?_
      intro _
      refine RA.cond (t := false) rfl (fun hc => ?_) (fun hc => ?_)
      · cases hc
      ·
       refine RA.skip env_ok ?_
       intro _
       refine RA.seq hd ?_
       refine RA.region env_ok ?_
       refine OA.pure (dst := (some 40)) (v := (W b)) rfl rfl rfl rfl ?_
       refine OA.pure (dst := (some 41)) (v := (W c)) rfl rfl rfl rfl ?_
       refine OA.pure (dst := (some 42)) (v := (W (b ^^^ c))) rfl rfl rfl (r_bin rfl rfl rfl (b_xorW b c)) ?_
       refine OA.pure (dst := (some 43)) (v := (W d)) rfl rfl rfl rfl ?_
       refine OA.pure (dst := (some 44)) (v := (W ((b ^^^ c) ^^^ d))) rfl rfl rfl (r_bin rfl rfl rfl (b_xorW (b ^^^ c) d)) ?_
       refine OA.pure (dst := (some 8)) (v := (W ((b ^^^ c) ^^^ d))) rfl rfl rfl rfl ?_
       refine OA.pure (dst := (some 9)) (v := (.int .u32 3395469782)) rfl rfl rfl rfl ?_
       refine OA.nil ?_
       intro _
       refine RA.ret env_ok ?_
       refine ⟨.inr rfl, [(W ((b ^^^ c) ^^^ d)), (.int .u32 3395469782)], (resL_cons rfl (resL_cons rfl resL_nil)), (by simp only [one, fk, ch_eq, maj_eq]; (repeat' split) <;> first | rfl | (exfalso; omega)), (fun i hi => by cases hi)⟩
end Go.Proofs.Ytdnkhdkflemkeaa.Vt
