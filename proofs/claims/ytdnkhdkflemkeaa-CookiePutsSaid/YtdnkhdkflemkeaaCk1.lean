/- Ck1: walks through functions of the program, by the calculus; written by a program of this workplace. -/
import Derived.Test.YtdnkhdkflemkeaaRd
import Derived.Test.YtdnkhdkflemkeaaVm5
namespace Go.Proofs.Ytdnkhdkflemkeaa.Vt
open Go Go.Proofs Go.Proofs.YtdnkhdkflemkeaaV
set_option maxRecDepth 100000
set_option linter.unusedVariables false
set_option linter.unusedSimpArgs false
structure CkI where
  made : Int
  mine : BitVec 32
  yours : BitVec 32
  mt : BitVec 32
  yt : BitVec 32
  peer : BitVec 32
  loc : BitVec 32
  pp : Int
  mp : Int
  rwnd : BitVec 32
  ou : Int
  inn : Int
  tm : BitVec 32
  ty : BitVec 32
  mr : ByteArray
  rn : ByteArray
structure Ck where
  made : Nat
  mine : BitVec 32
  yours : BitVec 32
  mt : BitVec 32
  yt : BitVec 32
  peer : BitVec 32
  loc : BitVec 32
  pp : Nat
  mp : Nat
  rwnd : BitVec 32
  ou : Nat
  inn : Nat
  tm : BitVec 32
  ty : BitVec 32
  mr : ByteArray
  rn : ByteArray
def MayI (c : CkI) : Prop := 0 ≤ c.made ∧ c.mine.toNat ≠ 0 ∧ c.yours.toNat ≠ 0 ∧ (0 ≤ c.pp ∧ c.pp < 65536) ∧ (0 ≤ c.mp ∧ c.mp < 65536) ∧ (0 ≤ c.ou ∧ c.ou < 65536) ∧ (0 ≤ c.inn ∧ c.inn < 65536) ∧ c.mr.size = 16 ∧ c.rn.size = 16
def MayN (c : Ck) : Prop := c.mine.toNat ≠ 0 ∧ c.yours.toNat ≠ 0 ∧ c.pp < 65536 ∧ c.mp < 65536 ∧ c.ou < 65536 ∧ c.inn < 65536 ∧ c.mr.size = 16 ∧ c.rn.size = 16
def be2 (m : Nat) : List UInt8 := [UInt8.ofNat (m / 256), UInt8.ofNat m]
theorem be2_len (m : Nat) : (be2 m).length = 2 := rfl
def ckB (c : Ck) : List UInt8 := be8 c.made ++ be4 c.mine ++ be4 c.yours ++ be4 c.mt ++ be4 c.yt ++ be4 c.peer ++ be4 c.loc ++ be2 c.pp ++ be2 c.mp ++ be4 c.rwnd ++ be2 c.ou ++ be2 c.inn ++ be4 c.tm ++ be4 c.ty ++ L c.mr ++ L c.rn
theorem putL_2 (m : Nat) : putL m 2 = be2 m := by
  have h0 : UInt8.ofNat (m / 256 % 256) = UInt8.ofNat (m / 256) := ofNat_mod _
  have h1 : UInt8.ofNat (m % 256) = UInt8.ofNat m := ofNat_mod _
  simp only [putL, be2]
  rw [h0, h1]
  rfl
theorem ofNat_toNat32 (x : BitVec 32) : BitVec.ofNat 32 x.toNat = x := by simp
theorem ckB_len (c : Ck) (h : MayN c) : (ckB c).length = 84 := by
  unfold MayN at h
  simp only [ckB, List.length_append, be8_len, be4_len, be2_len, L_len]
  omega
abbrev xCk11 (c : Ck) : List Value := [(.int .i64 ((c.made : Nat) : Int)), (W c.mine), (W c.yours), (W c.mt), (W c.yt), (W c.peer), (W c.loc), (.int .i64 ((c.pp : Nat) : Int)), (.int .i64 ((c.mp : Nat) : Int)), (W c.rwnd), (.int .i64 ((c.ou : Nat) : Int)), (.int .i64 ((c.inn : Nat) : Int)), (W c.tm), (W c.ty), (.string c.mr), (.string c.rn)]
abbrev xCk12 (c : CkI) : List Value := [(.int .i64 c.made), (W c.mine), (W c.yours), (W c.mt), (W c.yt), (W c.peer), (W c.loc), (.int .i64 c.pp), (.int .i64 c.mp), (W c.rwnd), (.int .i64 c.ou), (.int .i64 c.inn), (W c.tm), (W c.ty), (.string c.mr), (.string c.rn)]
theorem s46 {σ : Store} (m : Int)   : PS Try.prog noDen 46 [(.int .i64 m)] σ (.bool (decide (0 ≤ m ∧ m < 65536))) := by
 refine PS.body (E := env) env_ok rfl rfl (by show _ ≤ _; exact of_decide_eq_true (by kernel_rfl)) (fun n hd => ?_)
 refine RA.seq hd ?_
 refine RA.region env_ok ?_
 refine OA.pure (dst := (some 2)) (v := (.bool false)) rfl rfl rfl rfl ?_
 refine OA.nil ?_
 intro _
 refine RA.seq hd ?_
 refine RA.region env_ok ?_
 refine OA.pure (dst := (some 3)) (v := (.int .i64 m)) rfl rfl rfl rfl ?_
 by_cases hc1 : 0 ≤ m
 ·
  refine OA.pure (dst := (some 4)) (v := (.bool true)) rfl rfl rfl (Eq.trans (r_bin rfl rfl rfl (b_geq rfl)) (by first | (rw [decide_eq_true hc1]; done) | (rw [decide_eq_true hc1]; rfl))) ?_
  refine OA.pure (dst := (some 5)) (v := (.bool true)) rfl rfl rfl rfl ?_
  refine OA.pure (dst := (some 6)) (v := (.int .i64 m)) rfl rfl rfl rfl ?_
  refine OA.pure (dst := (some 7)) (v := (.bool (decide (m < 65536)))) rfl rfl rfl (r_bin rfl rfl rfl (b_lss rfl)) ?_
  refine OA.pure (dst := (some 8)) (v := (.bool (decide (m < 65536)))) rfl rfl rfl rfl ?_
  refine OA.pure (dst := (some 2)) (v := (.bool (decide (m < 65536)))) rfl rfl rfl rfl ?_
  refine OA.nil ?_
  intro _
  refine RA.ret env_ok ?_
  refine ⟨.inr rfl, [(.bool (decide (m < 65536)))], (resL_cons rfl resL_nil), (congrArg Value.bool (decide_eq_decide.2 (by omega))), (fun i hi => by cases hi)⟩
 ·
  refine OA.pure (dst := (some 4)) (v := (.bool false)) rfl rfl rfl (Eq.trans (r_bin rfl rfl rfl (b_geq rfl)) (by first | (rw [decide_eq_false hc1]; done) | (rw [decide_eq_false hc1]; rfl))) ?_
  refine OA.pure (dst := (some 5)) (v := (.bool false)) rfl rfl rfl rfl ?_
  refine OA.off (dst := (some 6)) rfl rfl rfl ?_
  refine OA.off (dst := (some 7)) rfl rfl rfl ?_
  refine OA.pure (dst := (some 8)) (v := (.bool false)) rfl rfl rfl rfl ?_
  refine OA.pure (dst := (some 2)) (v := (.bool false)) rfl rfl rfl rfl ?_
  refine OA.nil ?_
  intro _
  refine RA.ret env_ok ?_
  refine ⟨.inr rfl, [(.bool false)], (resL_cons rfl resL_nil), (congrArg Value.bool (decide_eq_false (by omega)).symm), (fun i hi => by cases hi)⟩

theorem s48 {σ : Store} (m : Int)   : PS Try.prog noDen 48 [(.int .i64 m)] σ (.bool (decide (0 ≤ m ∧ m < 65536))) := by
 refine PS.body (E := env) env_ok rfl rfl (by show _ ≤ _; exact of_decide_eq_true (by kernel_rfl)) (fun n hd => ?_)
 refine RA.seq hd ?_
 refine RA.region env_ok ?_
 refine OA.pure (dst := (some 2)) (v := (.bool false)) rfl rfl rfl rfl ?_
 refine OA.nil ?_
 intro _
 refine RA.seq hd ?_
 refine RA.region env_ok ?_
 refine OA.pure (dst := (some 3)) (v := (.int .i64 m)) rfl rfl rfl rfl ?_
 by_cases hc1 : 0 ≤ m
 ·
  refine OA.pure (dst := (some 4)) (v := (.bool true)) rfl rfl rfl (Eq.trans (r_bin rfl rfl rfl (b_geq rfl)) (by first | (rw [decide_eq_true hc1]; done) | (rw [decide_eq_true hc1]; rfl))) ?_
  refine OA.pure (dst := (some 5)) (v := (.bool true)) rfl rfl rfl rfl ?_
  refine OA.pure (dst := (some 6)) (v := (.int .i64 m)) rfl rfl rfl rfl ?_
  refine OA.pure (dst := (some 7)) (v := (.bool (decide (m ≤ 65535)))) rfl rfl rfl (r_bin rfl rfl rfl (b_leq rfl)) ?_
  refine OA.pure (dst := (some 8)) (v := (.bool (decide (m ≤ 65535)))) rfl rfl rfl rfl ?_
  refine OA.pure (dst := (some 2)) (v := (.bool (decide (m ≤ 65535)))) rfl rfl rfl rfl ?_
  refine OA.nil ?_
  intro _
  refine RA.ret env_ok ?_
  refine ⟨.inr rfl, [(.bool (decide (m ≤ 65535)))], (resL_cons rfl resL_nil), (congrArg Value.bool (decide_eq_decide.2 (by omega))), (fun i hi => by cases hi)⟩
 ·
  refine OA.pure (dst := (some 4)) (v := (.bool false)) rfl rfl rfl (Eq.trans (r_bin rfl rfl rfl (b_geq rfl)) (by first | (rw [decide_eq_false hc1]; done) | (rw [decide_eq_false hc1]; rfl))) ?_
  refine OA.pure (dst := (some 5)) (v := (.bool false)) rfl rfl rfl rfl ?_
  refine OA.off (dst := (some 6)) rfl rfl rfl ?_
  refine OA.off (dst := (some 7)) rfl rfl rfl ?_
  refine OA.pure (dst := (some 8)) (v := (.bool false)) rfl rfl rfl rfl ?_
  refine OA.pure (dst := (some 2)) (v := (.bool false)) rfl rfl rfl rfl ?_
  refine OA.nil ?_
  intro _
  refine RA.ret env_ok ?_
  refine ⟨.inr rfl, [(.bool false)], (resL_cons rfl resL_nil), (congrArg Value.bool (decide_eq_false (by omega)).symm), (fun i hi => by cases hi)⟩

theorem s27 {σ : Store} (c : CkI) [Decidable (MayI c)]   : PS Try.prog noDen 27 [(.agg ⟨[(.int .i64 c.made), (W c.mine), (W c.yours), (W c.mt), (W c.yt), (W c.peer), (W c.loc), (.int .i64 c.pp), (.int .i64 c.mp), (W c.rwnd), (.int .i64 c.ou), (.int .i64 c.inn), (W c.tm), (W c.ty), (.string c.mr), (.string c.rn)]⟩)] σ (.bool (decide (MayI c))) := by
 refine PS.body (E := env) env_ok rfl rfl (by show _ ≤ _; exact of_decide_eq_true (by kernel_rfl)) (fun n hd => ?_)
 refine RA.seq hd ?_
 refine RA.region env_ok ?_
 refine OA.op1 (dst := (some 1)) (v := (Pt n 0 0)) (n1 := (n + 1)) (w := (n, some ⟨[(xCk12 c)], 16, 35, true⟩)) rfl rfl rfl rfl (by omega) ?_
 refine OA.pure (dst := (some 2)) (v := (.bool false)) rfl rfl rfl rfl ?_
 refine OA.nil ?_
 intro _
 refine RA.seq hd ?_
 refine RA.region env_ok ?_
 refine OA.pure (dst := (some 3)) (v := (Pt n 0 0)) rfl rfl rfl rfl ?_
 refine OA.pure (dst := (some 4)) (v := (.int .i64 c.made)) rfl rfl rfl (r_load1 rfl rfl rfl rfl rfl get_here rfl rfl) ?_
 by_cases hc1 : 0 ≤ c.made
 ·
  refine OA.pure (dst := (some 5)) (v := (.bool true)) rfl rfl rfl (Eq.trans (r_bin rfl rfl rfl (b_geq rfl)) (by first | (rw [decide_eq_true hc1]; done) | (rw [decide_eq_true hc1]; rfl))) ?_
  refine OA.pure (dst := (some 6)) (v := (.bool true)) rfl rfl rfl rfl ?_
  refine OA.pure (dst := (some 7)) (v := (Pt n 0 1)) rfl rfl rfl rfl ?_
  refine OA.pure (dst := (some 8)) (v := (W c.mine)) rfl rfl rfl (r_load1 rfl rfl rfl rfl rfl get_here rfl rfl) ?_
  by_cases hc2 : (c.mine.toNat : Int) ≠ 0
  ·
   refine OA.pure (dst := (some 9)) (v := (.bool true)) rfl rfl rfl (Eq.trans (r_bin rfl rfl rfl (b_neq rfl)) (by first | (rw [decide_eq_true hc2]; done) | (rw [decide_eq_true hc2]; rfl))) ?_
   refine OA.pure (dst := (some 10)) (v := (.bool true)) rfl rfl rfl rfl ?_
   refine OA.pure (dst := (some 11)) (v := (.bool true)) rfl rfl rfl rfl ?_
   refine OA.pure (dst := (some 12)) (v := (Pt n 0 2)) rfl rfl rfl rfl ?_
   refine OA.pure (dst := (some 13)) (v := (W c.yours)) rfl rfl rfl (r_load1 rfl rfl rfl rfl rfl get_here rfl rfl) ?_
   by_cases hc3 : (c.yours.toNat : Int) ≠ 0
   ·
    refine OA.pure (dst := (some 14)) (v := (.bool true)) rfl rfl rfl (Eq.trans (r_bin rfl rfl rfl (b_neq rfl)) (by first | (rw [decide_eq_true hc3]; done) | (rw [decide_eq_true hc3]; rfl))) ?_
    refine OA.pure (dst := (some 15)) (v := (.bool true)) rfl rfl rfl rfl ?_
    refine OA.pure (dst := (some 16)) (v := (.bool true)) rfl rfl rfl rfl ?_
    refine OA.pure (dst := (some 17)) (v := (Pt n 0 7)) rfl rfl rfl rfl ?_
    refine OA.pure (dst := (some 18)) (v := (.int .i64 c.pp)) rfl rfl rfl (r_load1 rfl rfl rfl rfl rfl get_here rfl rfl) ?_
    by_cases hc4 : 0 ≤ c.pp ∧ c.pp < 65536
    ·
     refine OA.callP (dst := (some 19)) (all := [(.int .i64 c.pp)]) (v := (.bool true)) (hd.of (by omega) (kb1 (by omega))) rfl rfl rfl rfl rfl rfl rfl rfl (PS.to (s46 c.pp) (show (.bool (decide (0 ≤ c.pp ∧ c.pp < 65536))) = ((.bool true) : Value) from (by first | (rw [decide_eq_true hc4]; done) | (rw [decide_eq_true hc4]; rfl)))) ?_
     intro n1 hn1
     refine OA.pure (dst := (some 20)) (v := (.bool true)) rfl rfl rfl rfl ?_
     refine OA.pure (dst := (some 21)) (v := (.bool true)) rfl rfl rfl rfl ?_
     refine OA.pure (dst := (some 22)) (v := (Pt n 0 8)) rfl rfl rfl rfl ?_
     refine OA.pure (dst := (some 23)) (v := (.int .i64 c.mp)) rfl rfl rfl (r_load1 rfl rfl rfl rfl rfl get_here rfl rfl) ?_
     by_cases hc5 : 0 ≤ c.mp ∧ c.mp < 65536
     ·
      refine OA.callP (dst := (some 24)) (all := [(.int .i64 c.mp)]) (v := (.bool true)) (hd.of (by omega) (kb1 (by omega))) rfl rfl rfl rfl rfl rfl rfl rfl (PS.to (s46 c.mp) (show (.bool (decide (0 ≤ c.mp ∧ c.mp < 65536))) = ((.bool true) : Value) from (by first | (rw [decide_eq_true hc5]; done) | (rw [decide_eq_true hc5]; rfl)))) ?_
      intro n2 hn2
      refine OA.pure (dst := (some 25)) (v := (.bool true)) rfl rfl rfl rfl ?_
      refine OA.pure (dst := (some 26)) (v := (.bool true)) rfl rfl rfl rfl ?_
      refine OA.pure (dst := (some 27)) (v := (Pt n 0 10)) rfl rfl rfl rfl ?_
      refine OA.pure (dst := (some 28)) (v := (.int .i64 c.ou)) rfl rfl rfl (r_load1 rfl rfl rfl rfl rfl get_here rfl rfl) ?_
      by_cases hc6 : 0 ≤ c.ou ∧ c.ou < 65536
      ·
       refine OA.callP (dst := (some 29)) (all := [(.int .i64 c.ou)]) (v := (.bool true)) (hd.of (by omega) (kb1 (by omega))) rfl rfl rfl rfl rfl rfl rfl rfl (PS.to (s46 c.ou) (show (.bool (decide (0 ≤ c.ou ∧ c.ou < 65536))) = ((.bool true) : Value) from (by first | (rw [decide_eq_true hc6]; done) | (rw [decide_eq_true hc6]; rfl)))) ?_
       intro n3 hn3
       refine OA.pure (dst := (some 30)) (v := (.bool true)) rfl rfl rfl rfl ?_
       refine OA.pure (dst := (some 31)) (v := (.bool true)) rfl rfl rfl rfl ?_
       refine OA.pure (dst := (some 32)) (v := (Pt n 0 11)) rfl rfl rfl rfl ?_
       refine OA.pure (dst := (some 33)) (v := (.int .i64 c.inn)) rfl rfl rfl (r_load1 rfl rfl rfl rfl rfl get_here rfl rfl) ?_
       by_cases hc7 : 0 ≤ c.inn ∧ c.inn < 65536
       ·
        refine OA.callP (dst := (some 34)) (all := [(.int .i64 c.inn)]) (v := (.bool true)) (hd.of (by omega) (kb1 (by omega))) rfl rfl rfl rfl rfl rfl rfl rfl (PS.to (s46 c.inn) (show (.bool (decide (0 ≤ c.inn ∧ c.inn < 65536))) = ((.bool true) : Value) from (by first | (rw [decide_eq_true hc7]; done) | (rw [decide_eq_true hc7]; rfl)))) ?_
        intro n4 hn4
        refine OA.pure (dst := (some 35)) (v := (.bool true)) rfl rfl rfl rfl ?_
        refine OA.pure (dst := (some 36)) (v := (.bool true)) rfl rfl rfl rfl ?_
        refine OA.pure (dst := (some 37)) (v := (Pt n 0 14)) rfl rfl rfl rfl ?_
        refine OA.pure (dst := (some 38)) (v := (.string c.mr)) rfl rfl rfl (r_load1 rfl rfl rfl rfl rfl get_here rfl rfl) ?_
        refine OA.pure (dst := (some 39)) (v := (.int .i64 ((c.mr.size : Nat) : Int))) rfl rfl rfl rfl ?_
        by_cases hc8 : ((c.mr.size : Nat) : Int) = 16
        ·
         refine OA.pure (dst := (some 40)) (v := (.bool true)) rfl rfl rfl (Eq.trans (r_bin rfl rfl rfl (b_eql rfl)) (by first | (rw [decide_eq_true hc8]; done) | (rw [decide_eq_true hc8]; rfl))) ?_
         refine OA.pure (dst := (some 41)) (v := (.bool true)) rfl rfl rfl rfl ?_
         refine OA.pure (dst := (some 42)) (v := (.bool true)) rfl rfl rfl rfl ?_
         refine OA.pure (dst := (some 43)) (v := (Pt n 0 15)) rfl rfl rfl rfl ?_
         refine OA.pure (dst := (some 44)) (v := (.string c.rn)) rfl rfl rfl (r_load1 rfl rfl rfl rfl rfl get_here rfl rfl) ?_
         refine OA.pure (dst := (some 45)) (v := (.int .i64 ((c.rn.size : Nat) : Int))) rfl rfl rfl rfl ?_
         refine OA.pure (dst := (some 46)) (v := (.bool (decide (((c.rn.size : Nat) : Int) = 16)))) rfl rfl rfl (r_bin rfl rfl rfl (b_eql rfl)) ?_
         refine OA.pure (dst := (some 47)) (v := (.bool (decide (((c.rn.size : Nat) : Int) = 16)))) rfl rfl rfl rfl ?_
         refine OA.pure (dst := (some 2)) (v := (.bool (decide (((c.rn.size : Nat) : Int) = 16)))) rfl rfl rfl rfl ?_
         refine OA.nil ?_
         intro _
         refine RA.rebase [(0, (.agg ⟨(xCk12 c)⟩)), (1, (Pt n 0 0)), (2, (.bool (decide (((c.rn.size : Nat) : Int) = 16))))] ⟨rfl, rfl, rfl, trivial⟩ (fun τr5 => ?_)
         refine RA.ret env_ok ?_
         refine ⟨.inr rfl, [(.bool (decide (((c.rn.size : Nat) : Int) = 16)))], (resL_cons rfl resL_nil), (congrArg Value.bool (decide_eq_decide.2 (by unfold MayI; omega))), (kc1 (by omega))⟩
        ·
         refine OA.pure (dst := (some 40)) (v := (.bool false)) rfl rfl rfl (Eq.trans (r_bin rfl rfl rfl (b_eql rfl)) (by first | (rw [decide_eq_false hc8]; done) | (rw [decide_eq_false hc8]; rfl))) ?_
         refine OA.pure (dst := (some 41)) (v := (.bool false)) rfl rfl rfl rfl ?_
         refine OA.pure (dst := (some 42)) (v := (.bool false)) rfl rfl rfl rfl ?_
         refine OA.off (dst := (some 43)) rfl rfl rfl ?_
         refine OA.off (dst := (some 44)) rfl rfl rfl ?_
         refine OA.off (dst := (some 45)) rfl rfl rfl ?_
         refine OA.off (dst := (some 46)) rfl rfl rfl ?_
         refine OA.pure (dst := (some 47)) (v := (.bool false)) rfl rfl rfl rfl ?_
         refine OA.pure (dst := (some 2)) (v := (.bool false)) rfl rfl rfl rfl ?_
         refine OA.nil ?_
         intro _
         refine RA.rebase [(0, (.agg ⟨(xCk12 c)⟩)), (1, (Pt n 0 0)), (2, (.bool false))] ⟨rfl, rfl, rfl, trivial⟩ (fun τr6 => ?_)
         refine RA.ret env_ok ?_
         refine ⟨.inr rfl, [(.bool false)], (resL_cons rfl resL_nil), (congrArg Value.bool (decide_eq_false (by unfold MayI; omega)).symm), (kc1 (by omega))⟩
       ·
        refine OA.callP (dst := (some 34)) (all := [(.int .i64 c.inn)]) (v := (.bool false)) (hd.of (by omega) (kb1 (by omega))) rfl rfl rfl rfl rfl rfl rfl rfl (PS.to (s46 c.inn) (show (.bool (decide (0 ≤ c.inn ∧ c.inn < 65536))) = ((.bool false) : Value) from (by first | (rw [decide_eq_false hc7]; done) | (rw [decide_eq_false hc7]; rfl)))) ?_
        intro n7 hn7
        refine OA.pure (dst := (some 35)) (v := (.bool false)) rfl rfl rfl rfl ?_
        refine OA.pure (dst := (some 36)) (v := (.bool false)) rfl rfl rfl rfl ?_
        refine OA.off (dst := (some 37)) rfl rfl rfl ?_
        refine OA.off (dst := (some 38)) rfl rfl rfl ?_
        refine OA.off (dst := (some 39)) rfl rfl rfl ?_
        refine OA.off (dst := (some 40)) rfl rfl rfl ?_
        refine OA.pure (dst := (some 41)) (v := (.bool false)) rfl rfl rfl rfl ?_
        refine OA.pure (dst := (some 42)) (v := (.bool false)) rfl rfl rfl rfl ?_
        refine OA.off (dst := (some 43)) rfl rfl rfl ?_
        refine OA.off (dst := (some 44)) rfl rfl rfl ?_
        refine OA.off (dst := (some 45)) rfl rfl rfl ?_
        refine OA.off (dst := (some 46)) rfl rfl rfl ?_
        refine OA.pure (dst := (some 47)) (v := (.bool false)) rfl rfl rfl rfl ?_
        refine OA.pure (dst := (some 2)) (v := (.bool false)) rfl rfl rfl rfl ?_
        refine OA.nil ?_
        intro _
        refine RA.rebase [(0, (.agg ⟨(xCk12 c)⟩)), (1, (Pt n 0 0)), (2, (.bool false))] ⟨rfl, rfl, rfl, trivial⟩ (fun τr8 => ?_)
        refine RA.ret env_ok ?_
        refine ⟨.inr rfl, [(.bool false)], (resL_cons rfl resL_nil), (congrArg Value.bool (decide_eq_false (by unfold MayI; omega)).symm), (kc1 (by omega))⟩
      ·
       refine OA.callP (dst := (some 29)) (all := [(.int .i64 c.ou)]) (v := (.bool false)) (hd.of (by omega) (kb1 (by omega))) rfl rfl rfl rfl rfl rfl rfl rfl (PS.to (s46 c.ou) (show (.bool (decide (0 ≤ c.ou ∧ c.ou < 65536))) = ((.bool false) : Value) from (by first | (rw [decide_eq_false hc6]; done) | (rw [decide_eq_false hc6]; rfl)))) ?_
       intro n9 hn9
       refine OA.pure (dst := (some 30)) (v := (.bool false)) rfl rfl rfl rfl ?_
       refine OA.pure (dst := (some 31)) (v := (.bool false)) rfl rfl rfl rfl ?_
       refine OA.off (dst := (some 32)) rfl rfl rfl ?_
       refine OA.off (dst := (some 33)) rfl rfl rfl ?_
       refine OA.off (dst := (some 34)) rfl rfl rfl ?_
       refine OA.pure (dst := (some 35)) (v := (.bool false)) rfl rfl rfl rfl ?_
       refine OA.pure (dst := (some 36)) (v := (.bool false)) rfl rfl rfl rfl ?_
       refine OA.off (dst := (some 37)) rfl rfl rfl ?_
       refine OA.off (dst := (some 38)) rfl rfl rfl ?_
       refine OA.off (dst := (some 39)) rfl rfl rfl ?_
       refine OA.off (dst := (some 40)) rfl rfl rfl ?_
       refine OA.pure (dst := (some 41)) (v := (.bool false)) rfl rfl rfl rfl ?_
       refine OA.pure (dst := (some 42)) (v := (.bool false)) rfl rfl rfl rfl ?_
       refine OA.off (dst := (some 43)) rfl rfl rfl ?_
       refine OA.off (dst := (some 44)) rfl rfl rfl ?_
       refine OA.off (dst := (some 45)) rfl rfl rfl ?_
       refine OA.off (dst := (some 46)) rfl rfl rfl ?_
       refine OA.pure (dst := (some 47)) (v := (.bool false)) rfl rfl rfl rfl ?_
       refine OA.pure (dst := (some 2)) (v := (.bool false)) rfl rfl rfl rfl ?_
       refine OA.nil ?_
       intro _
       refine RA.rebase [(0, (.agg ⟨(xCk12 c)⟩)), (1, (Pt n 0 0)), (2, (.bool false))] ⟨rfl, rfl, rfl, trivial⟩ (fun τr10 => ?_)
       refine RA.ret env_ok ?_
       refine ⟨.inr rfl, [(.bool false)], (resL_cons rfl resL_nil), (congrArg Value.bool (decide_eq_false (by unfold MayI; omega)).symm), (kc1 (by omega))⟩
     ·
      refine OA.callP (dst := (some 24)) (all := [(.int .i64 c.mp)]) (v := (.bool false)) (hd.of (by omega) (kb1 (by omega))) rfl rfl rfl rfl rfl rfl rfl rfl (PS.to (s46 c.mp) (show (.bool (decide (0 ≤ c.mp ∧ c.mp < 65536))) = ((.bool false) : Value) from (by first | (rw [decide_eq_false hc5]; done) | (rw [decide_eq_false hc5]; rfl)))) ?_
      intro n11 hn11
      refine OA.pure (dst := (some 25)) (v := (.bool false)) rfl rfl rfl rfl ?_
      refine OA.pure (dst := (some 26)) (v := (.bool false)) rfl rfl rfl rfl ?_
      refine OA.off (dst := (some 27)) rfl rfl rfl ?_
      refine OA.off (dst := (some 28)) rfl rfl rfl ?_
      refine OA.off (dst := (some 29)) rfl rfl rfl ?_
      refine OA.pure (dst := (some 30)) (v := (.bool false)) rfl rfl rfl rfl ?_
      refine OA.pure (dst := (some 31)) (v := (.bool false)) rfl rfl rfl rfl ?_
      refine OA.off (dst := (some 32)) rfl rfl rfl ?_
      refine OA.off (dst := (some 33)) rfl rfl rfl ?_
      refine OA.off (dst := (some 34)) rfl rfl rfl ?_
      refine OA.pure (dst := (some 35)) (v := (.bool false)) rfl rfl rfl rfl ?_
      refine OA.pure (dst := (some 36)) (v := (.bool false)) rfl rfl rfl rfl ?_
      refine OA.off (dst := (some 37)) rfl rfl rfl ?_
      refine OA.off (dst := (some 38)) rfl rfl rfl ?_
      refine OA.off (dst := (some 39)) rfl rfl rfl ?_
      refine OA.off (dst := (some 40)) rfl rfl rfl ?_
      refine OA.pure (dst := (some 41)) (v := (.bool false)) rfl rfl rfl rfl ?_
      refine OA.pure (dst := (some 42)) (v := (.bool false)) rfl rfl rfl rfl ?_
      refine OA.off (dst := (some 43)) rfl rfl rfl ?_
      refine OA.off (dst := (some 44)) rfl rfl rfl ?_
      refine OA.off (dst := (some 45)) rfl rfl rfl ?_
      refine OA.off (dst := (some 46)) rfl rfl rfl ?_
      refine OA.pure (dst := (some 47)) (v := (.bool false)) rfl rfl rfl rfl ?_
      refine OA.pure (dst := (some 2)) (v := (.bool false)) rfl rfl rfl rfl ?_
      refine OA.nil ?_
      intro _
      refine RA.rebase [(0, (.agg ⟨(xCk12 c)⟩)), (1, (Pt n 0 0)), (2, (.bool false))] ⟨rfl, rfl, rfl, trivial⟩ (fun τr12 => ?_)
      refine RA.ret env_ok ?_
      refine ⟨.inr rfl, [(.bool false)], (resL_cons rfl resL_nil), (congrArg Value.bool (decide_eq_false (by unfold MayI; omega)).symm), (kc1 (by omega))⟩
    ·
     refine OA.callP (dst := (some 19)) (all := [(.int .i64 c.pp)]) (v := (.bool false)) (hd.of (by omega) (kb1 (by omega))) rfl rfl rfl rfl rfl rfl rfl rfl (PS.to (s46 c.pp) (show (.bool (decide (0 ≤ c.pp ∧ c.pp < 65536))) = ((.bool false) : Value) from (by first | (rw [decide_eq_false hc4]; done) | (rw [decide_eq_false hc4]; rfl)))) ?_
     intro n13 hn13
     refine OA.pure (dst := (some 20)) (v := (.bool false)) rfl rfl rfl rfl ?_
     refine OA.pure (dst := (some 21)) (v := (.bool false)) rfl rfl rfl rfl ?_
     refine OA.off (dst := (some 22)) rfl rfl rfl ?_
     refine OA.off (dst := (some 23)) rfl rfl rfl ?_
     refine OA.off (dst := (some 24)) rfl rfl rfl ?_
     refine OA.pure (dst := (some 25)) (v := (.bool false)) rfl rfl rfl rfl ?_
     refine OA.pure (dst := (some 26)) (v := (.bool false)) rfl rfl rfl rfl ?_
     refine OA.off (dst := (some 27)) rfl rfl rfl ?_
     refine OA.off (dst := (some 28)) rfl rfl rfl ?_
     refine OA.off (dst := (some 29)) rfl rfl rfl ?_
     refine OA.pure (dst := (some 30)) (v := (.bool false)) rfl rfl rfl rfl ?_
     refine OA.pure (dst := (some 31)) (v := (.bool false)) rfl rfl rfl rfl ?_
     refine OA.off (dst := (some 32)) rfl rfl rfl ?_
     refine OA.off (dst := (some 33)) rfl rfl rfl ?_
     refine OA.off (dst := (some 34)) rfl rfl rfl ?_
     refine OA.pure (dst := (some 35)) (v := (.bool false)) rfl rfl rfl rfl ?_
     refine OA.pure (dst := (some 36)) (v := (.bool false)) rfl rfl rfl rfl ?_
     refine OA.off (dst := (some 37)) rfl rfl rfl ?_
     refine OA.off (dst := (some 38)) rfl rfl rfl ?_
     refine OA.off (dst := (some 39)) rfl rfl rfl ?_
     refine OA.off (dst := (some 40)) rfl rfl rfl ?_
     refine OA.pure (dst := (some 41)) (v := (.bool false)) rfl rfl rfl rfl ?_
     refine OA.pure (dst := (some 42)) (v := (.bool false)) rfl rfl rfl rfl ?_
     refine OA.off (dst := (some 43)) rfl rfl rfl ?_
     refine OA.off (dst := (some 44)) rfl rfl rfl ?_
     refine OA.off (dst := (some 45)) rfl rfl rfl ?_
     refine OA.off (dst := (some 46)) rfl rfl rfl ?_
     refine OA.pure (dst := (some 47)) (v := (.bool false)) rfl rfl rfl rfl ?_
     refine OA.pure (dst := (some 2)) (v := (.bool false)) rfl rfl rfl rfl ?_
     refine OA.nil ?_
     intro _
     refine RA.rebase [(0, (.agg ⟨(xCk12 c)⟩)), (1, (Pt n 0 0)), (2, (.bool false))] ⟨rfl, rfl, rfl, trivial⟩ (fun τr14 => ?_)
     refine RA.ret env_ok ?_
     refine ⟨.inr rfl, [(.bool false)], (resL_cons rfl resL_nil), (congrArg Value.bool (decide_eq_false (by unfold MayI; omega)).symm), (kc1 (by omega))⟩
   ·
    refine OA.pure (dst := (some 14)) (v := (.bool false)) rfl rfl rfl (Eq.trans (r_bin rfl rfl rfl (b_neq rfl)) (by first | (rw [decide_eq_false hc3]; done) | (rw [decide_eq_false hc3]; rfl))) ?_
    refine OA.pure (dst := (some 15)) (v := (.bool false)) rfl rfl rfl rfl ?_
    refine OA.pure (dst := (some 16)) (v := (.bool false)) rfl rfl rfl rfl ?_
    refine OA.off (dst := (some 17)) rfl rfl rfl ?_
    refine OA.off (dst := (some 18)) rfl rfl rfl ?_
    refine OA.off (dst := (some 19)) rfl rfl rfl ?_
    refine OA.pure (dst := (some 20)) (v := (.bool false)) rfl rfl rfl rfl ?_
    refine OA.pure (dst := (some 21)) (v := (.bool false)) rfl rfl rfl rfl ?_
    refine OA.off (dst := (some 22)) rfl rfl rfl ?_
    refine OA.off (dst := (some 23)) rfl rfl rfl ?_
    refine OA.off (dst := (some 24)) rfl rfl rfl ?_
    refine OA.pure (dst := (some 25)) (v := (.bool false)) rfl rfl rfl rfl ?_
    refine OA.pure (dst := (some 26)) (v := (.bool false)) rfl rfl rfl rfl ?_
    refine OA.off (dst := (some 27)) rfl rfl rfl ?_
    refine OA.off (dst := (some 28)) rfl rfl rfl ?_
    refine OA.off (dst := (some 29)) rfl rfl rfl ?_
    refine OA.pure (dst := (some 30)) (v := (.bool false)) rfl rfl rfl rfl ?_
    refine OA.pure (dst := (some 31)) (v := (.bool false)) rfl rfl rfl rfl ?_
    refine OA.off (dst := (some 32)) rfl rfl rfl ?_
    refine OA.off (dst := (some 33)) rfl rfl rfl ?_
    refine OA.off (dst := (some 34)) rfl rfl rfl ?_
    refine OA.pure (dst := (some 35)) (v := (.bool false)) rfl rfl rfl rfl ?_
    refine OA.pure (dst := (some 36)) (v := (.bool false)) rfl rfl rfl rfl ?_
    refine OA.off (dst := (some 37)) rfl rfl rfl ?_
    refine OA.off (dst := (some 38)) rfl rfl rfl ?_
    refine OA.off (dst := (some 39)) rfl rfl rfl ?_
    refine OA.off (dst := (some 40)) rfl rfl rfl ?_
    refine OA.pure (dst := (some 41)) (v := (.bool false)) rfl rfl rfl rfl ?_
    refine OA.pure (dst := (some 42)) (v := (.bool false)) rfl rfl rfl rfl ?_
    refine OA.off (dst := (some 43)) rfl rfl rfl ?_
    refine OA.off (dst := (some 44)) rfl rfl rfl ?_
    refine OA.off (dst := (some 45)) rfl rfl rfl ?_
    refine OA.off (dst := (some 46)) rfl rfl rfl ?_
    refine OA.pure (dst := (some 47)) (v := (.bool false)) rfl rfl rfl rfl ?_
    refine OA.pure (dst := (some 2)) (v := (.bool false)) rfl rfl rfl rfl ?_
    refine OA.nil ?_
    intro _
    refine RA.rebase [(0, (.agg ⟨(xCk12 c)⟩)), (1, (Pt n 0 0)), (2, (.bool false))] ⟨rfl, rfl, rfl, trivial⟩ (fun τr15 => ?_)
    refine RA.ret env_ok ?_
    refine ⟨.inr rfl, [(.bool false)], (resL_cons rfl resL_nil), (congrArg Value.bool (decide_eq_false (by unfold MayI; omega)).symm), (kc1 (by omega))⟩
  ·
   refine OA.pure (dst := (some 9)) (v := (.bool false)) rfl rfl rfl (Eq.trans (r_bin rfl rfl rfl (b_neq rfl)) (by first | (rw [decide_eq_false hc2]; done) | (rw [decide_eq_false hc2]; rfl))) ?_
   refine OA.pure (dst := (some 10)) (v := (.bool false)) rfl rfl rfl rfl ?_
   refine OA.pure (dst := (some 11)) (v := (.bool false)) rfl rfl rfl rfl ?_
   refine OA.off (dst := (some 12)) rfl rfl rfl ?_
   refine OA.off (dst := (some 13)) rfl rfl rfl ?_
   refine OA.off (dst := (some 14)) rfl rfl rfl ?_
   refine OA.pure (dst := (some 15)) (v := (.bool false)) rfl rfl rfl rfl ?_
   refine OA.pure (dst := (some 16)) (v := (.bool false)) rfl rfl rfl rfl ?_
   refine OA.off (dst := (some 17)) rfl rfl rfl ?_
   refine OA.off (dst := (some 18)) rfl rfl rfl ?_
   refine OA.off (dst := (some 19)) rfl rfl rfl ?_
   refine OA.pure (dst := (some 20)) (v := (.bool false)) rfl rfl rfl rfl ?_
   refine OA.pure (dst := (some 21)) (v := (.bool false)) rfl rfl rfl rfl ?_
   refine OA.off (dst := (some 22)) rfl rfl rfl ?_
   refine OA.off (dst := (some 23)) rfl rfl rfl ?_
   refine OA.off (dst := (some 24)) rfl rfl rfl ?_
   refine OA.pure (dst := (some 25)) (v := (.bool false)) rfl rfl rfl rfl ?_
   refine OA.pure (dst := (some 26)) (v := (.bool false)) rfl rfl rfl rfl ?_
   refine OA.off (dst := (some 27)) rfl rfl rfl ?_
   refine OA.off (dst := (some 28)) rfl rfl rfl ?_
   refine OA.off (dst := (some 29)) rfl rfl rfl ?_
   refine OA.pure (dst := (some 30)) (v := (.bool false)) rfl rfl rfl rfl ?_
   refine OA.pure (dst := (some 31)) (v := (.bool false)) rfl rfl rfl rfl ?_
   refine OA.off (dst := (some 32)) rfl rfl rfl ?_
   refine OA.off (dst := (some 33)) rfl rfl rfl ?_
   refine OA.off (dst := (some 34)) rfl rfl rfl ?_
   refine OA.pure (dst := (some 35)) (v := (.bool false)) rfl rfl rfl rfl ?_
   refine OA.pure (dst := (some 36)) (v := (.bool false)) rfl rfl rfl rfl ?_
   refine OA.off (dst := (some 37)) rfl rfl rfl ?_
   refine OA.off (dst := (some 38)) rfl rfl rfl ?_
   refine OA.off (dst := (some 39)) rfl rfl rfl ?_
   refine OA.off (dst := (some 40)) rfl rfl rfl ?_
   refine OA.pure (dst := (some 41)) (v := (.bool false)) rfl rfl rfl rfl ?_
   refine OA.pure (dst := (some 42)) (v := (.bool false)) rfl rfl rfl rfl ?_
   refine OA.off (dst := (some 43)) rfl rfl rfl ?_
   refine OA.off (dst := (some 44)) rfl rfl rfl ?_
   refine OA.off (dst := (some 45)) rfl rfl rfl ?_
   refine OA.off (dst := (some 46)) rfl rfl rfl ?_
   refine OA.pure (dst := (some 47)) (v := (.bool false)) rfl rfl rfl rfl ?_
   refine OA.pure (dst := (some 2)) (v := (.bool false)) rfl rfl rfl rfl ?_
   refine OA.nil ?_
   intro _
   refine RA.rebase [(0, (.agg ⟨(xCk12 c)⟩)), (1, (Pt n 0 0)), (2, (.bool false))] ⟨rfl, rfl, rfl, trivial⟩ (fun τr16 => ?_)
   refine RA.ret env_ok ?_
   refine ⟨.inr rfl, [(.bool false)], (resL_cons rfl resL_nil), (congrArg Value.bool (decide_eq_false (by unfold MayI; omega)).symm), (kc1 (by omega))⟩
 ·
  refine OA.pure (dst := (some 5)) (v := (.bool false)) rfl rfl rfl (Eq.trans (r_bin rfl rfl rfl (b_geq rfl)) (by first | (rw [decide_eq_false hc1]; done) | (rw [decide_eq_false hc1]; rfl))) ?_
  refine OA.pure (dst := (some 6)) (v := (.bool false)) rfl rfl rfl rfl ?_
  refine OA.off (dst := (some 7)) rfl rfl rfl ?_
  refine OA.off (dst := (some 8)) rfl rfl rfl ?_
  refine OA.off (dst := (some 9)) rfl rfl rfl ?_
  refine OA.pure (dst := (some 10)) (v := (.bool false)) rfl rfl rfl rfl ?_
  refine OA.pure (dst := (some 11)) (v := (.bool false)) rfl rfl rfl rfl ?_
  refine OA.off (dst := (some 12)) rfl rfl rfl ?_
  refine OA.off (dst := (some 13)) rfl rfl rfl ?_
  refine OA.off (dst := (some 14)) rfl rfl rfl ?_
  refine OA.pure (dst := (some 15)) (v := (.bool false)) rfl rfl rfl rfl ?_
  refine OA.pure (dst := (some 16)) (v := (.bool false)) rfl rfl rfl rfl ?_
  refine OA.off (dst := (some 17)) rfl rfl rfl ?_
  refine OA.off (dst := (some 18)) rfl rfl rfl ?_
  refine OA.off (dst := (some 19)) rfl rfl rfl ?_
  refine OA.pure (dst := (some 20)) (v := (.bool false)) rfl rfl rfl rfl ?_
  refine OA.pure (dst := (some 21)) (v := (.bool false)) rfl rfl rfl rfl ?_
  refine OA.off (dst := (some 22)) rfl rfl rfl ?_
  refine OA.off (dst := (some 23)) rfl rfl rfl ?_
  refine OA.off (dst := (some 24)) rfl rfl rfl ?_
  refine OA.pure (dst := (some 25)) (v := (.bool false)) rfl rfl rfl rfl ?_
  refine OA.pure (dst := (some 26)) (v := (.bool false)) rfl rfl rfl rfl ?_
  refine OA.off (dst := (some 27)) rfl rfl rfl ?_
  refine OA.off (dst := (some 28)) rfl rfl rfl ?_
  refine OA.off (dst := (some 29)) rfl rfl rfl ?_
  refine OA.pure (dst := (some 30)) (v := (.bool false)) rfl rfl rfl rfl ?_
  refine OA.pure (dst := (some 31)) (v := (.bool false)) rfl rfl rfl rfl ?_
  refine OA.off (dst := (some 32)) rfl rfl rfl ?_
  refine OA.off (dst := (some 33)) rfl rfl rfl ?_
  refine OA.off (dst := (some 34)) rfl rfl rfl ?_
  refine OA.pure (dst := (some 35)) (v := (.bool false)) rfl rfl rfl rfl ?_
  refine OA.pure (dst := (some 36)) (v := (.bool false)) rfl rfl rfl rfl ?_
  refine OA.off (dst := (some 37)) rfl rfl rfl ?_
  refine OA.off (dst := (some 38)) rfl rfl rfl ?_
  refine OA.off (dst := (some 39)) rfl rfl rfl ?_
  refine OA.off (dst := (some 40)) rfl rfl rfl ?_
  refine OA.pure (dst := (some 41)) (v := (.bool false)) rfl rfl rfl rfl ?_
  refine OA.pure (dst := (some 42)) (v := (.bool false)) rfl rfl rfl rfl ?_
  refine OA.off (dst := (some 43)) rfl rfl rfl ?_
  refine OA.off (dst := (some 44)) rfl rfl rfl ?_
  refine OA.off (dst := (some 45)) rfl rfl rfl ?_
  refine OA.off (dst := (some 46)) rfl rfl rfl ?_
  refine OA.pure (dst := (some 47)) (v := (.bool false)) rfl rfl rfl rfl ?_
  refine OA.pure (dst := (some 2)) (v := (.bool false)) rfl rfl rfl rfl ?_
  refine OA.nil ?_
  intro _
  refine RA.rebase [(0, (.agg ⟨(xCk12 c)⟩)), (1, (Pt n 0 0)), (2, (.bool false))] ⟨rfl, rfl, rfl, trivial⟩ (fun τr17 => ?_)
  refine RA.ret env_ok ?_
  refine ⟨.inr rfl, [(.bool false)], (resL_cons rfl resL_nil), (congrArg Value.bool (decide_eq_false (by unfold MayI; omega)).symm), (kc1 (by omega))⟩

theorem s29 {σ : Store} (c : CkI) [Decidable (MayI c)]   : PS Try.prog noDen 29 [(.agg ⟨[(.int .i64 c.made), (W c.mine), (W c.yours), (W c.mt), (W c.yt), (W c.peer), (W c.loc), (.int .i64 c.pp), (.int .i64 c.mp), (W c.rwnd), (.int .i64 c.ou), (.int .i64 c.inn), (W c.tm), (W c.ty), (.string c.mr), (.string c.rn)]⟩)] σ (.bool (decide (MayI c))) := by
 refine PS.body (E := env) env_ok rfl rfl (by show _ ≤ _; exact of_decide_eq_true (by kernel_rfl)) (fun n hd => ?_)
 refine RA.seq hd ?_
 refine RA.region env_ok ?_
 refine OA.op1 (dst := (some 1)) (v := (Pt n 0 0)) (n1 := (n + 1)) (w := (n, some ⟨[(xCk12 c)], 16, 35, true⟩)) rfl rfl rfl rfl (by omega) ?_
 refine OA.pure (dst := (some 2)) (v := (.bool false)) rfl rfl rfl rfl ?_
 refine OA.nil ?_
 intro _
 refine RA.seq hd ?_
 refine RA.region env_ok ?_
 refine OA.pure (dst := (some 3)) (v := (Pt n 0 0)) rfl rfl rfl rfl ?_
 refine OA.pure (dst := (some 4)) (v := (.int .i64 c.made)) rfl rfl rfl (r_load1 rfl rfl rfl rfl rfl get_here rfl rfl) ?_
 by_cases hc1 : 0 ≤ c.made
 ·
  refine OA.pure (dst := (some 5)) (v := (.bool true)) rfl rfl rfl (Eq.trans (r_bin rfl rfl rfl (b_geq rfl)) (by first | (rw [decide_eq_true hc1]; done) | (rw [decide_eq_true hc1]; rfl))) ?_
  refine OA.pure (dst := (some 6)) (v := (.bool true)) rfl rfl rfl rfl ?_
  refine OA.pure (dst := (some 7)) (v := (Pt n 0 1)) rfl rfl rfl rfl ?_
  refine OA.pure (dst := (some 8)) (v := (W c.mine)) rfl rfl rfl (r_load1 rfl rfl rfl rfl rfl get_here rfl rfl) ?_
  by_cases hc2 : (c.mine.toNat : Int) ≠ 0
  ·
   refine OA.pure (dst := (some 9)) (v := (.bool true)) rfl rfl rfl (Eq.trans (r_bin rfl rfl rfl (b_neq rfl)) (by first | (rw [decide_eq_true hc2]; done) | (rw [decide_eq_true hc2]; rfl))) ?_
   refine OA.pure (dst := (some 10)) (v := (.bool true)) rfl rfl rfl rfl ?_
   refine OA.pure (dst := (some 11)) (v := (.bool true)) rfl rfl rfl rfl ?_
   refine OA.pure (dst := (some 12)) (v := (Pt n 0 2)) rfl rfl rfl rfl ?_
   refine OA.pure (dst := (some 13)) (v := (W c.yours)) rfl rfl rfl (r_load1 rfl rfl rfl rfl rfl get_here rfl rfl) ?_
   by_cases hc3 : (c.yours.toNat : Int) ≠ 0
   ·
    refine OA.pure (dst := (some 14)) (v := (.bool true)) rfl rfl rfl (Eq.trans (r_bin rfl rfl rfl (b_neq rfl)) (by first | (rw [decide_eq_true hc3]; done) | (rw [decide_eq_true hc3]; rfl))) ?_
    refine OA.pure (dst := (some 15)) (v := (.bool true)) rfl rfl rfl rfl ?_
    refine OA.pure (dst := (some 16)) (v := (.bool true)) rfl rfl rfl rfl ?_
    refine OA.pure (dst := (some 17)) (v := (Pt n 0 7)) rfl rfl rfl rfl ?_
    refine OA.pure (dst := (some 18)) (v := (.int .i64 c.pp)) rfl rfl rfl (r_load1 rfl rfl rfl rfl rfl get_here rfl rfl) ?_
    by_cases hc4 : 0 ≤ c.pp ∧ c.pp < 65536
    ·
     refine OA.callP (dst := (some 19)) (all := [(.int .i64 c.pp)]) (v := (.bool true)) (hd.of (by omega) (kb1 (by omega))) rfl rfl rfl rfl rfl rfl rfl rfl (PS.to (s48 c.pp) (show (.bool (decide (0 ≤ c.pp ∧ c.pp < 65536))) = ((.bool true) : Value) from (by first | (rw [decide_eq_true hc4]; done) | (rw [decide_eq_true hc4]; rfl)))) ?_
     intro n1 hn1
     refine OA.pure (dst := (some 20)) (v := (.bool true)) rfl rfl rfl rfl ?_
     refine OA.pure (dst := (some 21)) (v := (.bool true)) rfl rfl rfl rfl ?_
     refine OA.pure (dst := (some 22)) (v := (Pt n 0 8)) rfl rfl rfl rfl ?_
     refine OA.pure (dst := (some 23)) (v := (.int .i64 c.mp)) rfl rfl rfl (r_load1 rfl rfl rfl rfl rfl get_here rfl rfl) ?_
     by_cases hc5 : 0 ≤ c.mp ∧ c.mp < 65536
     ·
      refine OA.callP (dst := (some 24)) (all := [(.int .i64 c.mp)]) (v := (.bool true)) (hd.of (by omega) (kb1 (by omega))) rfl rfl rfl rfl rfl rfl rfl rfl (PS.to (s48 c.mp) (show (.bool (decide (0 ≤ c.mp ∧ c.mp < 65536))) = ((.bool true) : Value) from (by first | (rw [decide_eq_true hc5]; done) | (rw [decide_eq_true hc5]; rfl)))) ?_
      intro n2 hn2
      refine OA.pure (dst := (some 25)) (v := (.bool true)) rfl rfl rfl rfl ?_
      refine OA.pure (dst := (some 26)) (v := (.bool true)) rfl rfl rfl rfl ?_
      refine OA.pure (dst := (some 27)) (v := (Pt n 0 10)) rfl rfl rfl rfl ?_
      refine OA.pure (dst := (some 28)) (v := (.int .i64 c.ou)) rfl rfl rfl (r_load1 rfl rfl rfl rfl rfl get_here rfl rfl) ?_
      by_cases hc6 : 0 ≤ c.ou ∧ c.ou < 65536
      ·
       refine OA.callP (dst := (some 29)) (all := [(.int .i64 c.ou)]) (v := (.bool true)) (hd.of (by omega) (kb1 (by omega))) rfl rfl rfl rfl rfl rfl rfl rfl (PS.to (s48 c.ou) (show (.bool (decide (0 ≤ c.ou ∧ c.ou < 65536))) = ((.bool true) : Value) from (by first | (rw [decide_eq_true hc6]; done) | (rw [decide_eq_true hc6]; rfl)))) ?_
       intro n3 hn3
       refine OA.pure (dst := (some 30)) (v := (.bool true)) rfl rfl rfl rfl ?_
       refine OA.pure (dst := (some 31)) (v := (.bool true)) rfl rfl rfl rfl ?_
       refine OA.pure (dst := (some 32)) (v := (Pt n 0 11)) rfl rfl rfl rfl ?_
       refine OA.pure (dst := (some 33)) (v := (.int .i64 c.inn)) rfl rfl rfl (r_load1 rfl rfl rfl rfl rfl get_here rfl rfl) ?_
       by_cases hc7 : 0 ≤ c.inn ∧ c.inn < 65536
       ·
        refine OA.callP (dst := (some 34)) (all := [(.int .i64 c.inn)]) (v := (.bool true)) (hd.of (by omega) (kb1 (by omega))) rfl rfl rfl rfl rfl rfl rfl rfl (PS.to (s48 c.inn) (show (.bool (decide (0 ≤ c.inn ∧ c.inn < 65536))) = ((.bool true) : Value) from (by first | (rw [decide_eq_true hc7]; done) | (rw [decide_eq_true hc7]; rfl)))) ?_
        intro n4 hn4
        refine OA.pure (dst := (some 35)) (v := (.bool true)) rfl rfl rfl rfl ?_
        refine OA.pure (dst := (some 36)) (v := (.bool true)) rfl rfl rfl rfl ?_
        refine OA.pure (dst := (some 37)) (v := (Pt n 0 14)) rfl rfl rfl rfl ?_
        refine OA.pure (dst := (some 38)) (v := (.string c.mr)) rfl rfl rfl (r_load1 rfl rfl rfl rfl rfl get_here rfl rfl) ?_
        refine OA.pure (dst := (some 39)) (v := (.int .i64 ((c.mr.size : Nat) : Int))) rfl rfl rfl rfl ?_
        by_cases hc8 : ((c.mr.size : Nat) : Int) = 16
        ·
         refine OA.pure (dst := (some 40)) (v := (.bool true)) rfl rfl rfl (Eq.trans (r_bin rfl rfl rfl (b_eql rfl)) (by first | (rw [decide_eq_true hc8]; done) | (rw [decide_eq_true hc8]; rfl))) ?_
         refine OA.pure (dst := (some 41)) (v := (.bool true)) rfl rfl rfl rfl ?_
         refine OA.pure (dst := (some 42)) (v := (.bool true)) rfl rfl rfl rfl ?_
         refine OA.pure (dst := (some 43)) (v := (Pt n 0 15)) rfl rfl rfl rfl ?_
         refine OA.pure (dst := (some 44)) (v := (.string c.rn)) rfl rfl rfl (r_load1 rfl rfl rfl rfl rfl get_here rfl rfl) ?_
         refine OA.pure (dst := (some 45)) (v := (.int .i64 ((c.rn.size : Nat) : Int))) rfl rfl rfl rfl ?_
         refine OA.pure (dst := (some 46)) (v := (.bool (decide (((c.rn.size : Nat) : Int) = 16)))) rfl rfl rfl (r_bin rfl rfl rfl (b_eql rfl)) ?_
         refine OA.pure (dst := (some 47)) (v := (.bool (decide (((c.rn.size : Nat) : Int) = 16)))) rfl rfl rfl rfl ?_
         refine OA.pure (dst := (some 2)) (v := (.bool (decide (((c.rn.size : Nat) : Int) = 16)))) rfl rfl rfl rfl ?_
         refine OA.nil ?_
         intro _
         refine RA.rebase [(0, (.agg ⟨(xCk12 c)⟩)), (1, (Pt n 0 0)), (2, (.bool (decide (((c.rn.size : Nat) : Int) = 16))))] ⟨rfl, rfl, rfl, trivial⟩ (fun τr5 => ?_)
         refine RA.ret env_ok ?_
         refine ⟨.inr rfl, [(.bool (decide (((c.rn.size : Nat) : Int) = 16)))], (resL_cons rfl resL_nil), (congrArg Value.bool (decide_eq_decide.2 (by unfold MayI; omega))), (kc1 (by omega))⟩
        ·
         refine OA.pure (dst := (some 40)) (v := (.bool false)) rfl rfl rfl (Eq.trans (r_bin rfl rfl rfl (b_eql rfl)) (by first | (rw [decide_eq_false hc8]; done) | (rw [decide_eq_false hc8]; rfl))) ?_
         refine OA.pure (dst := (some 41)) (v := (.bool false)) rfl rfl rfl rfl ?_
         refine OA.pure (dst := (some 42)) (v := (.bool false)) rfl rfl rfl rfl ?_
         refine OA.off (dst := (some 43)) rfl rfl rfl ?_
         refine OA.off (dst := (some 44)) rfl rfl rfl ?_
         refine OA.off (dst := (some 45)) rfl rfl rfl ?_
         refine OA.off (dst := (some 46)) rfl rfl rfl ?_
         refine OA.pure (dst := (some 47)) (v := (.bool false)) rfl rfl rfl rfl ?_
         refine OA.pure (dst := (some 2)) (v := (.bool false)) rfl rfl rfl rfl ?_
         refine OA.nil ?_
         intro _
         refine RA.rebase [(0, (.agg ⟨(xCk12 c)⟩)), (1, (Pt n 0 0)), (2, (.bool false))] ⟨rfl, rfl, rfl, trivial⟩ (fun τr6 => ?_)
         refine RA.ret env_ok ?_
         refine ⟨.inr rfl, [(.bool false)], (resL_cons rfl resL_nil), (congrArg Value.bool (decide_eq_false (by unfold MayI; omega)).symm), (kc1 (by omega))⟩
       ·
        refine OA.callP (dst := (some 34)) (all := [(.int .i64 c.inn)]) (v := (.bool false)) (hd.of (by omega) (kb1 (by omega))) rfl rfl rfl rfl rfl rfl rfl rfl (PS.to (s48 c.inn) (show (.bool (decide (0 ≤ c.inn ∧ c.inn < 65536))) = ((.bool false) : Value) from (by first | (rw [decide_eq_false hc7]; done) | (rw [decide_eq_false hc7]; rfl)))) ?_
        intro n7 hn7
        refine OA.pure (dst := (some 35)) (v := (.bool false)) rfl rfl rfl rfl ?_
        refine OA.pure (dst := (some 36)) (v := (.bool false)) rfl rfl rfl rfl ?_
        refine OA.off (dst := (some 37)) rfl rfl rfl ?_
        refine OA.off (dst := (some 38)) rfl rfl rfl ?_
        refine OA.off (dst := (some 39)) rfl rfl rfl ?_
        refine OA.off (dst := (some 40)) rfl rfl rfl ?_
        refine OA.pure (dst := (some 41)) (v := (.bool false)) rfl rfl rfl rfl ?_
        refine OA.pure (dst := (some 42)) (v := (.bool false)) rfl rfl rfl rfl ?_
        refine OA.off (dst := (some 43)) rfl rfl rfl ?_
        refine OA.off (dst := (some 44)) rfl rfl rfl ?_
        refine OA.off (dst := (some 45)) rfl rfl rfl ?_
        refine OA.off (dst := (some 46)) rfl rfl rfl ?_
        refine OA.pure (dst := (some 47)) (v := (.bool false)) rfl rfl rfl rfl ?_
        refine OA.pure (dst := (some 2)) (v := (.bool false)) rfl rfl rfl rfl ?_
        refine OA.nil ?_
        intro _
        refine RA.rebase [(0, (.agg ⟨(xCk12 c)⟩)), (1, (Pt n 0 0)), (2, (.bool false))] ⟨rfl, rfl, rfl, trivial⟩ (fun τr8 => ?_)
        refine RA.ret env_ok ?_
        refine ⟨.inr rfl, [(.bool false)], (resL_cons rfl resL_nil), (congrArg Value.bool (decide_eq_false (by unfold MayI; omega)).symm), (kc1 (by omega))⟩
      ·
       refine OA.callP (dst := (some 29)) (all := [(.int .i64 c.ou)]) (v := (.bool false)) (hd.of (by omega) (kb1 (by omega))) rfl rfl rfl rfl rfl rfl rfl rfl (PS.to (s48 c.ou) (show (.bool (decide (0 ≤ c.ou ∧ c.ou < 65536))) = ((.bool false) : Value) from (by first | (rw [decide_eq_false hc6]; done) | (rw [decide_eq_false hc6]; rfl)))) ?_
       intro n9 hn9
       refine OA.pure (dst := (some 30)) (v := (.bool false)) rfl rfl rfl rfl ?_
       refine OA.pure (dst := (some 31)) (v := (.bool false)) rfl rfl rfl rfl ?_
       refine OA.off (dst := (some 32)) rfl rfl rfl ?_
       refine OA.off (dst := (some 33)) rfl rfl rfl ?_
       refine OA.off (dst := (some 34)) rfl rfl rfl ?_
       refine OA.pure (dst := (some 35)) (v := (.bool false)) rfl rfl rfl rfl ?_
       refine OA.pure (dst := (some 36)) (v := (.bool false)) rfl rfl rfl rfl ?_
       refine OA.off (dst := (some 37)) rfl rfl rfl ?_
       refine OA.off (dst := (some 38)) rfl rfl rfl ?_
       refine OA.off (dst := (some 39)) rfl rfl rfl ?_
       refine OA.off (dst := (some 40)) rfl rfl rfl ?_
       refine OA.pure (dst := (some 41)) (v := (.bool false)) rfl rfl rfl rfl ?_
       refine OA.pure (dst := (some 42)) (v := (.bool false)) rfl rfl rfl rfl ?_
       refine OA.off (dst := (some 43)) rfl rfl rfl ?_
       refine OA.off (dst := (some 44)) rfl rfl rfl ?_
       refine OA.off (dst := (some 45)) rfl rfl rfl ?_
       refine OA.off (dst := (some 46)) rfl rfl rfl ?_
       refine OA.pure (dst := (some 47)) (v := (.bool false)) rfl rfl rfl rfl ?_
       refine OA.pure (dst := (some 2)) (v := (.bool false)) rfl rfl rfl rfl ?_
       refine OA.nil ?_
       intro _
       refine RA.rebase [(0, (.agg ⟨(xCk12 c)⟩)), (1, (Pt n 0 0)), (2, (.bool false))] ⟨rfl, rfl, rfl, trivial⟩ (fun τr10 => ?_)
       refine RA.ret env_ok ?_
       refine ⟨.inr rfl, [(.bool false)], (resL_cons rfl resL_nil), (congrArg Value.bool (decide_eq_false (by unfold MayI; omega)).symm), (kc1 (by omega))⟩
     ·
      refine OA.callP (dst := (some 24)) (all := [(.int .i64 c.mp)]) (v := (.bool false)) (hd.of (by omega) (kb1 (by omega))) rfl rfl rfl rfl rfl rfl rfl rfl (PS.to (s48 c.mp) (show (.bool (decide (0 ≤ c.mp ∧ c.mp < 65536))) = ((.bool false) : Value) from (by first | (rw [decide_eq_false hc5]; done) | (rw [decide_eq_false hc5]; rfl)))) ?_
      intro n11 hn11
      refine OA.pure (dst := (some 25)) (v := (.bool false)) rfl rfl rfl rfl ?_
      refine OA.pure (dst := (some 26)) (v := (.bool false)) rfl rfl rfl rfl ?_
      refine OA.off (dst := (some 27)) rfl rfl rfl ?_
      refine OA.off (dst := (some 28)) rfl rfl rfl ?_
      refine OA.off (dst := (some 29)) rfl rfl rfl ?_
      refine OA.pure (dst := (some 30)) (v := (.bool false)) rfl rfl rfl rfl ?_
      refine OA.pure (dst := (some 31)) (v := (.bool false)) rfl rfl rfl rfl ?_
      refine OA.off (dst := (some 32)) rfl rfl rfl ?_
      refine OA.off (dst := (some 33)) rfl rfl rfl ?_
      refine OA.off (dst := (some 34)) rfl rfl rfl ?_
      refine OA.pure (dst := (some 35)) (v := (.bool false)) rfl rfl rfl rfl ?_
      refine OA.pure (dst := (some 36)) (v := (.bool false)) rfl rfl rfl rfl ?_
      refine OA.off (dst := (some 37)) rfl rfl rfl ?_
      refine OA.off (dst := (some 38)) rfl rfl rfl ?_
      refine OA.off (dst := (some 39)) rfl rfl rfl ?_
      refine OA.off (dst := (some 40)) rfl rfl rfl ?_
      refine OA.pure (dst := (some 41)) (v := (.bool false)) rfl rfl rfl rfl ?_
      refine OA.pure (dst := (some 42)) (v := (.bool false)) rfl rfl rfl rfl ?_
      refine OA.off (dst := (some 43)) rfl rfl rfl ?_
      refine OA.off (dst := (some 44)) rfl rfl rfl ?_
      refine OA.off (dst := (some 45)) rfl rfl rfl ?_
      refine OA.off (dst := (some 46)) rfl rfl rfl ?_
      refine OA.pure (dst := (some 47)) (v := (.bool false)) rfl rfl rfl rfl ?_
      refine OA.pure (dst := (some 2)) (v := (.bool false)) rfl rfl rfl rfl ?_
      refine OA.nil ?_
      intro _
      refine RA.rebase [(0, (.agg ⟨(xCk12 c)⟩)), (1, (Pt n 0 0)), (2, (.bool false))] ⟨rfl, rfl, rfl, trivial⟩ (fun τr12 => ?_)
      refine RA.ret env_ok ?_
      refine ⟨.inr rfl, [(.bool false)], (resL_cons rfl resL_nil), (congrArg Value.bool (decide_eq_false (by unfold MayI; omega)).symm), (kc1 (by omega))⟩
    ·
     refine OA.callP (dst := (some 19)) (all := [(.int .i64 c.pp)]) (v := (.bool false)) (hd.of (by omega) (kb1 (by omega))) rfl rfl rfl rfl rfl rfl rfl rfl (PS.to (s48 c.pp) (show (.bool (decide (0 ≤ c.pp ∧ c.pp < 65536))) = ((.bool false) : Value) from (by first | (rw [decide_eq_false hc4]; done) | (rw [decide_eq_false hc4]; rfl)))) ?_
     intro n13 hn13
     refine OA.pure (dst := (some 20)) (v := (.bool false)) rfl rfl rfl rfl ?_
     refine OA.pure (dst := (some 21)) (v := (.bool false)) rfl rfl rfl rfl ?_
     refine OA.off (dst := (some 22)) rfl rfl rfl ?_
     refine OA.off (dst := (some 23)) rfl rfl rfl ?_
     refine OA.off (dst := (some 24)) rfl rfl rfl ?_
     refine OA.pure (dst := (some 25)) (v := (.bool false)) rfl rfl rfl rfl ?_
     refine OA.pure (dst := (some 26)) (v := (.bool false)) rfl rfl rfl rfl ?_
     refine OA.off (dst := (some 27)) rfl rfl rfl ?_
     refine OA.off (dst := (some 28)) rfl rfl rfl ?_
     refine OA.off (dst := (some 29)) rfl rfl rfl ?_
     refine OA.pure (dst := (some 30)) (v := (.bool false)) rfl rfl rfl rfl ?_
     refine OA.pure (dst := (some 31)) (v := (.bool false)) rfl rfl rfl rfl ?_
     refine OA.off (dst := (some 32)) rfl rfl rfl ?_
     refine OA.off (dst := (some 33)) rfl rfl rfl ?_
     refine OA.off (dst := (some 34)) rfl rfl rfl ?_
     refine OA.pure (dst := (some 35)) (v := (.bool false)) rfl rfl rfl rfl ?_
     refine OA.pure (dst := (some 36)) (v := (.bool false)) rfl rfl rfl rfl ?_
     refine OA.off (dst := (some 37)) rfl rfl rfl ?_
     refine OA.off (dst := (some 38)) rfl rfl rfl ?_
     refine OA.off (dst := (some 39)) rfl rfl rfl ?_
     refine OA.off (dst := (some 40)) rfl rfl rfl ?_
     refine OA.pure (dst := (some 41)) (v := (.bool false)) rfl rfl rfl rfl ?_
     refine OA.pure (dst := (some 42)) (v := (.bool false)) rfl rfl rfl rfl ?_
     refine OA.off (dst := (some 43)) rfl rfl rfl ?_
     refine OA.off (dst := (some 44)) rfl rfl rfl ?_
     refine OA.off (dst := (some 45)) rfl rfl rfl ?_
     refine OA.off (dst := (some 46)) rfl rfl rfl ?_
     refine OA.pure (dst := (some 47)) (v := (.bool false)) rfl rfl rfl rfl ?_
     refine OA.pure (dst := (some 2)) (v := (.bool false)) rfl rfl rfl rfl ?_
     refine OA.nil ?_
     intro _
     refine RA.rebase [(0, (.agg ⟨(xCk12 c)⟩)), (1, (Pt n 0 0)), (2, (.bool false))] ⟨rfl, rfl, rfl, trivial⟩ (fun τr14 => ?_)
     refine RA.ret env_ok ?_
     refine ⟨.inr rfl, [(.bool false)], (resL_cons rfl resL_nil), (congrArg Value.bool (decide_eq_false (by unfold MayI; omega)).symm), (kc1 (by omega))⟩
   ·
    refine OA.pure (dst := (some 14)) (v := (.bool false)) rfl rfl rfl (Eq.trans (r_bin rfl rfl rfl (b_neq rfl)) (by first | (rw [decide_eq_false hc3]; done) | (rw [decide_eq_false hc3]; rfl))) ?_
    refine OA.pure (dst := (some 15)) (v := (.bool false)) rfl rfl rfl rfl ?_
    refine OA.pure (dst := (some 16)) (v := (.bool false)) rfl rfl rfl rfl ?_
    refine OA.off (dst := (some 17)) rfl rfl rfl ?_
    refine OA.off (dst := (some 18)) rfl rfl rfl ?_
    refine OA.off (dst := (some 19)) rfl rfl rfl ?_
    refine OA.pure (dst := (some 20)) (v := (.bool false)) rfl rfl rfl rfl ?_
    refine OA.pure (dst := (some 21)) (v := (.bool false)) rfl rfl rfl rfl ?_
    refine OA.off (dst := (some 22)) rfl rfl rfl ?_
    refine OA.off (dst := (some 23)) rfl rfl rfl ?_
    refine OA.off (dst := (some 24)) rfl rfl rfl ?_
    refine OA.pure (dst := (some 25)) (v := (.bool false)) rfl rfl rfl rfl ?_
    refine OA.pure (dst := (some 26)) (v := (.bool false)) rfl rfl rfl rfl ?_
    refine OA.off (dst := (some 27)) rfl rfl rfl ?_
    refine OA.off (dst := (some 28)) rfl rfl rfl ?_
    refine OA.off (dst := (some 29)) rfl rfl rfl ?_
    refine OA.pure (dst := (some 30)) (v := (.bool false)) rfl rfl rfl rfl ?_
    refine OA.pure (dst := (some 31)) (v := (.bool false)) rfl rfl rfl rfl ?_
    refine OA.off (dst := (some 32)) rfl rfl rfl ?_
    refine OA.off (dst := (some 33)) rfl rfl rfl ?_
    refine OA.off (dst := (some 34)) rfl rfl rfl ?_
    refine OA.pure (dst := (some 35)) (v := (.bool false)) rfl rfl rfl rfl ?_
    refine OA.pure (dst := (some 36)) (v := (.bool false)) rfl rfl rfl rfl ?_
    refine OA.off (dst := (some 37)) rfl rfl rfl ?_
    refine OA.off (dst := (some 38)) rfl rfl rfl ?_
    refine OA.off (dst := (some 39)) rfl rfl rfl ?_
    refine OA.off (dst := (some 40)) rfl rfl rfl ?_
    refine OA.pure (dst := (some 41)) (v := (.bool false)) rfl rfl rfl rfl ?_
    refine OA.pure (dst := (some 42)) (v := (.bool false)) rfl rfl rfl rfl ?_
    refine OA.off (dst := (some 43)) rfl rfl rfl ?_
    refine OA.off (dst := (some 44)) rfl rfl rfl ?_
    refine OA.off (dst := (some 45)) rfl rfl rfl ?_
    refine OA.off (dst := (some 46)) rfl rfl rfl ?_
    refine OA.pure (dst := (some 47)) (v := (.bool false)) rfl rfl rfl rfl ?_
    refine OA.pure (dst := (some 2)) (v := (.bool false)) rfl rfl rfl rfl ?_
    refine OA.nil ?_
    intro _
    refine RA.rebase [(0, (.agg ⟨(xCk12 c)⟩)), (1, (Pt n 0 0)), (2, (.bool false))] ⟨rfl, rfl, rfl, trivial⟩ (fun τr15 => ?_)
    refine RA.ret env_ok ?_
    refine ⟨.inr rfl, [(.bool false)], (resL_cons rfl resL_nil), (congrArg Value.bool (decide_eq_false (by unfold MayI; omega)).symm), (kc1 (by omega))⟩
  ·
   refine OA.pure (dst := (some 9)) (v := (.bool false)) rfl rfl rfl (Eq.trans (r_bin rfl rfl rfl (b_neq rfl)) (by first | (rw [decide_eq_false hc2]; done) | (rw [decide_eq_false hc2]; rfl))) ?_
   refine OA.pure (dst := (some 10)) (v := (.bool false)) rfl rfl rfl rfl ?_
   refine OA.pure (dst := (some 11)) (v := (.bool false)) rfl rfl rfl rfl ?_
   refine OA.off (dst := (some 12)) rfl rfl rfl ?_
   refine OA.off (dst := (some 13)) rfl rfl rfl ?_
   refine OA.off (dst := (some 14)) rfl rfl rfl ?_
   refine OA.pure (dst := (some 15)) (v := (.bool false)) rfl rfl rfl rfl ?_
   refine OA.pure (dst := (some 16)) (v := (.bool false)) rfl rfl rfl rfl ?_
   refine OA.off (dst := (some 17)) rfl rfl rfl ?_
   refine OA.off (dst := (some 18)) rfl rfl rfl ?_
   refine OA.off (dst := (some 19)) rfl rfl rfl ?_
   refine OA.pure (dst := (some 20)) (v := (.bool false)) rfl rfl rfl rfl ?_
   refine OA.pure (dst := (some 21)) (v := (.bool false)) rfl rfl rfl rfl ?_
   refine OA.off (dst := (some 22)) rfl rfl rfl ?_
   refine OA.off (dst := (some 23)) rfl rfl rfl ?_
   refine OA.off (dst := (some 24)) rfl rfl rfl ?_
   refine OA.pure (dst := (some 25)) (v := (.bool false)) rfl rfl rfl rfl ?_
   refine OA.pure (dst := (some 26)) (v := (.bool false)) rfl rfl rfl rfl ?_
   refine OA.off (dst := (some 27)) rfl rfl rfl ?_
   refine OA.off (dst := (some 28)) rfl rfl rfl ?_
   refine OA.off (dst := (some 29)) rfl rfl rfl ?_
   refine OA.pure (dst := (some 30)) (v := (.bool false)) rfl rfl rfl rfl ?_
   refine OA.pure (dst := (some 31)) (v := (.bool false)) rfl rfl rfl rfl ?_
   refine OA.off (dst := (some 32)) rfl rfl rfl ?_
   refine OA.off (dst := (some 33)) rfl rfl rfl ?_
   refine OA.off (dst := (some 34)) rfl rfl rfl ?_
   refine OA.pure (dst := (some 35)) (v := (.bool false)) rfl rfl rfl rfl ?_
   refine OA.pure (dst := (some 36)) (v := (.bool false)) rfl rfl rfl rfl ?_
   refine OA.off (dst := (some 37)) rfl rfl rfl ?_
   refine OA.off (dst := (some 38)) rfl rfl rfl ?_
   refine OA.off (dst := (some 39)) rfl rfl rfl ?_
   refine OA.off (dst := (some 40)) rfl rfl rfl ?_
   refine OA.pure (dst := (some 41)) (v := (.bool false)) rfl rfl rfl rfl ?_
   refine OA.pure (dst := (some 42)) (v := (.bool false)) rfl rfl rfl rfl ?_
   refine OA.off (dst := (some 43)) rfl rfl rfl ?_
   refine OA.off (dst := (some 44)) rfl rfl rfl ?_
   refine OA.off (dst := (some 45)) rfl rfl rfl ?_
   refine OA.off (dst := (some 46)) rfl rfl rfl ?_
   refine OA.pure (dst := (some 47)) (v := (.bool false)) rfl rfl rfl rfl ?_
   refine OA.pure (dst := (some 2)) (v := (.bool false)) rfl rfl rfl rfl ?_
   refine OA.nil ?_
   intro _
   refine RA.rebase [(0, (.agg ⟨(xCk12 c)⟩)), (1, (Pt n 0 0)), (2, (.bool false))] ⟨rfl, rfl, rfl, trivial⟩ (fun τr16 => ?_)
   refine RA.ret env_ok ?_
   refine ⟨.inr rfl, [(.bool false)], (resL_cons rfl resL_nil), (congrArg Value.bool (decide_eq_false (by unfold MayI; omega)).symm), (kc1 (by omega))⟩
 ·
  refine OA.pure (dst := (some 5)) (v := (.bool false)) rfl rfl rfl (Eq.trans (r_bin rfl rfl rfl (b_geq rfl)) (by first | (rw [decide_eq_false hc1]; done) | (rw [decide_eq_false hc1]; rfl))) ?_
  refine OA.pure (dst := (some 6)) (v := (.bool false)) rfl rfl rfl rfl ?_
  refine OA.off (dst := (some 7)) rfl rfl rfl ?_
  refine OA.off (dst := (some 8)) rfl rfl rfl ?_
  refine OA.off (dst := (some 9)) rfl rfl rfl ?_
  refine OA.pure (dst := (some 10)) (v := (.bool false)) rfl rfl rfl rfl ?_
  refine OA.pure (dst := (some 11)) (v := (.bool false)) rfl rfl rfl rfl ?_
  refine OA.off (dst := (some 12)) rfl rfl rfl ?_
  refine OA.off (dst := (some 13)) rfl rfl rfl ?_
  refine OA.off (dst := (some 14)) rfl rfl rfl ?_
  refine OA.pure (dst := (some 15)) (v := (.bool false)) rfl rfl rfl rfl ?_
  refine OA.pure (dst := (some 16)) (v := (.bool false)) rfl rfl rfl rfl ?_
  refine OA.off (dst := (some 17)) rfl rfl rfl ?_
  refine OA.off (dst := (some 18)) rfl rfl rfl ?_
  refine OA.off (dst := (some 19)) rfl rfl rfl ?_
  refine OA.pure (dst := (some 20)) (v := (.bool false)) rfl rfl rfl rfl ?_
  refine OA.pure (dst := (some 21)) (v := (.bool false)) rfl rfl rfl rfl ?_
  refine OA.off (dst := (some 22)) rfl rfl rfl ?_
  refine OA.off (dst := (some 23)) rfl rfl rfl ?_
  refine OA.off (dst := (some 24)) rfl rfl rfl ?_
  refine OA.pure (dst := (some 25)) (v := (.bool false)) rfl rfl rfl rfl ?_
  refine OA.pure (dst := (some 26)) (v := (.bool false)) rfl rfl rfl rfl ?_
  refine OA.off (dst := (some 27)) rfl rfl rfl ?_
  refine OA.off (dst := (some 28)) rfl rfl rfl ?_
  refine OA.off (dst := (some 29)) rfl rfl rfl ?_
  refine OA.pure (dst := (some 30)) (v := (.bool false)) rfl rfl rfl rfl ?_
  refine OA.pure (dst := (some 31)) (v := (.bool false)) rfl rfl rfl rfl ?_
  refine OA.off (dst := (some 32)) rfl rfl rfl ?_
  refine OA.off (dst := (some 33)) rfl rfl rfl ?_
  refine OA.off (dst := (some 34)) rfl rfl rfl ?_
  refine OA.pure (dst := (some 35)) (v := (.bool false)) rfl rfl rfl rfl ?_
  refine OA.pure (dst := (some 36)) (v := (.bool false)) rfl rfl rfl rfl ?_
  refine OA.off (dst := (some 37)) rfl rfl rfl ?_
  refine OA.off (dst := (some 38)) rfl rfl rfl ?_
  refine OA.off (dst := (some 39)) rfl rfl rfl ?_
  refine OA.off (dst := (some 40)) rfl rfl rfl ?_
  refine OA.pure (dst := (some 41)) (v := (.bool false)) rfl rfl rfl rfl ?_
  refine OA.pure (dst := (some 42)) (v := (.bool false)) rfl rfl rfl rfl ?_
  refine OA.off (dst := (some 43)) rfl rfl rfl ?_
  refine OA.off (dst := (some 44)) rfl rfl rfl ?_
  refine OA.off (dst := (some 45)) rfl rfl rfl ?_
  refine OA.off (dst := (some 46)) rfl rfl rfl ?_
  refine OA.pure (dst := (some 47)) (v := (.bool false)) rfl rfl rfl rfl ?_
  refine OA.pure (dst := (some 2)) (v := (.bool false)) rfl rfl rfl rfl ?_
  refine OA.nil ?_
  intro _
  refine RA.rebase [(0, (.agg ⟨(xCk12 c)⟩)), (1, (Pt n 0 0)), (2, (.bool false))] ⟨rfl, rfl, rfl, trivial⟩ (fun τr17 => ?_)
  refine RA.ret env_ok ?_
  refine ⟨.inr rfl, [(.bool false)], (resL_cons rfl resL_nil), (congrArg Value.bool (decide_eq_false (by unfold MayI; omega)).symm), (kc1 (by omega))⟩

theorem s27N {σ : Store} (c : Ck) (h : MayN c) : PS Try.prog noDen 27 [(.agg ⟨[(.int .i64 ((c.made : Nat) : Int)), (W c.mine), (W c.yours), (W c.mt), (W c.yt), (W c.peer), (W c.loc), (.int .i64 ((c.pp : Nat) : Int)), (.int .i64 ((c.mp : Nat) : Int)), (W c.rwnd), (.int .i64 ((c.ou : Nat) : Int)), (.int .i64 ((c.inn : Nat) : Int)), (W c.tm), (W c.ty), (.string c.mr), (.string c.rn)]⟩)] σ (.bool true) := by
  haveI := Classical.propDecidable (MayI ⟨(c.made : Int), c.mine, c.yours, c.mt, c.yt, c.peer, c.loc, (c.pp : Int), (c.mp : Int), c.rwnd, (c.ou : Int), (c.inn : Int), c.tm, c.ty, c.mr, c.rn⟩)
  have h1 := s27 (σ := σ) ⟨(c.made : Int), c.mine, c.yours, c.mt, c.yt, c.peer, c.loc, (c.pp : Int), (c.mp : Int), c.rwnd, (c.ou : Int), (c.inn : Int), c.tm, c.ty, c.mr, c.rn⟩
  rwa [decide_eq_true (show MayI ⟨(c.made : Int), c.mine, c.yours, c.mt, c.yt, c.peer, c.loc, (c.pp : Int), (c.mp : Int), c.rwnd, (c.ou : Int), (c.inn : Int), c.tm, c.ty, c.mr, c.rn⟩ from by unfold MayN at h; unfold MayI; simp only; omega)] at h1
theorem s27Z {σ : Store} (c : CkI) (h : ¬ MayI c) : PS Try.prog noDen 27 [(.agg ⟨[(.int .i64 c.made), (W c.mine), (W c.yours), (W c.mt), (W c.yt), (W c.peer), (W c.loc), (.int .i64 c.pp), (.int .i64 c.mp), (W c.rwnd), (.int .i64 c.ou), (.int .i64 c.inn), (W c.tm), (W c.ty), (.string c.mr), (.string c.rn)]⟩)] σ (.bool false) := by
  haveI := Classical.propDecidable (MayI c)
  have h1 := s27 (σ := σ) c
  rwa [decide_eq_false h] at h1
theorem s27M {σ : Store} (c : Ck) (h : ¬ MayN c) : PS Try.prog noDen 27 [(.agg ⟨[(.int .i64 ((c.made : Nat) : Int)), (W c.mine), (W c.yours), (W c.mt), (W c.yt), (W c.peer), (W c.loc), (.int .i64 ((c.pp : Nat) : Int)), (.int .i64 ((c.mp : Nat) : Int)), (W c.rwnd), (.int .i64 ((c.ou : Nat) : Int)), (.int .i64 ((c.inn : Nat) : Int)), (W c.tm), (W c.ty), (.string c.mr), (.string c.rn)]⟩)] σ (.bool false) := by
  refine s27Z ⟨(c.made : Int), c.mine, c.yours, c.mt, c.yt, c.peer, c.loc, (c.pp : Int), (c.mp : Int), c.rwnd, (c.ou : Int), (c.inn : Int), c.tm, c.ty, c.mr, c.rn⟩ (fun q => h ?_)
  unfold MayI at q; unfold MayN; simp only at q; omega

theorem s29N {σ : Store} (c : Ck) (h : MayN c) : PS Try.prog noDen 29 [(.agg ⟨[(.int .i64 ((c.made : Nat) : Int)), (W c.mine), (W c.yours), (W c.mt), (W c.yt), (W c.peer), (W c.loc), (.int .i64 ((c.pp : Nat) : Int)), (.int .i64 ((c.mp : Nat) : Int)), (W c.rwnd), (.int .i64 ((c.ou : Nat) : Int)), (.int .i64 ((c.inn : Nat) : Int)), (W c.tm), (W c.ty), (.string c.mr), (.string c.rn)]⟩)] σ (.bool true) := by
  haveI := Classical.propDecidable (MayI ⟨(c.made : Int), c.mine, c.yours, c.mt, c.yt, c.peer, c.loc, (c.pp : Int), (c.mp : Int), c.rwnd, (c.ou : Int), (c.inn : Int), c.tm, c.ty, c.mr, c.rn⟩)
  have h1 := s29 (σ := σ) ⟨(c.made : Int), c.mine, c.yours, c.mt, c.yt, c.peer, c.loc, (c.pp : Int), (c.mp : Int), c.rwnd, (c.ou : Int), (c.inn : Int), c.tm, c.ty, c.mr, c.rn⟩
  rwa [decide_eq_true (show MayI ⟨(c.made : Int), c.mine, c.yours, c.mt, c.yt, c.peer, c.loc, (c.pp : Int), (c.mp : Int), c.rwnd, (c.ou : Int), (c.inn : Int), c.tm, c.ty, c.mr, c.rn⟩ from by unfold MayN at h; unfold MayI; simp only; omega)] at h1
theorem s29Z {σ : Store} (c : CkI) (h : ¬ MayI c) : PS Try.prog noDen 29 [(.agg ⟨[(.int .i64 c.made), (W c.mine), (W c.yours), (W c.mt), (W c.yt), (W c.peer), (W c.loc), (.int .i64 c.pp), (.int .i64 c.mp), (W c.rwnd), (.int .i64 c.ou), (.int .i64 c.inn), (W c.tm), (W c.ty), (.string c.mr), (.string c.rn)]⟩)] σ (.bool false) := by
  haveI := Classical.propDecidable (MayI c)
  have h1 := s29 (σ := σ) c
  rwa [decide_eq_false h] at h1
theorem s29M {σ : Store} (c : Ck) (h : ¬ MayN c) : PS Try.prog noDen 29 [(.agg ⟨[(.int .i64 ((c.made : Nat) : Int)), (W c.mine), (W c.yours), (W c.mt), (W c.yt), (W c.peer), (W c.loc), (.int .i64 ((c.pp : Nat) : Int)), (.int .i64 ((c.mp : Nat) : Int)), (W c.rwnd), (.int .i64 ((c.ou : Nat) : Int)), (.int .i64 ((c.inn : Nat) : Int)), (W c.tm), (W c.ty), (.string c.mr), (.string c.rn)]⟩)] σ (.bool false) := by
  refine s29Z ⟨(c.made : Int), c.mine, c.yours, c.mt, c.yt, c.peer, c.loc, (c.pp : Int), (c.mp : Int), c.rwnd, (c.ou : Int), (c.inn : Int), c.tm, c.ty, c.mr, c.rn⟩ (fun q => h ?_)
  unfold MayI at q; unfold MayN; simp only at q; omega

theorem s45 {σ : Store} (m : Nat) (hm : m < 65536)   : PS Try.prog noDen 45 [(.int .i64 ((m : Nat) : Int))] σ (.string (bstr (be2 m))) := by
 refine PS.body (E := env) env_ok rfl rfl (by show _ ≤ _; exact of_decide_eq_true (by kernel_rfl)) (fun n hd => ?_)
 refine RA.seq hd ?_
 refine RA.region env_ok ?_
 refine OA.pure (dst := (some 2)) (v := (.string (ByteArray.mk #[]))) rfl rfl rfl rfl ?_
 refine OA.nil ?_
 intro _
 refine RA.seq hd ?_
 refine RA.region env_ok ?_
 refine OA.pure (dst := (some 3)) (v := (.int .i64 ((m : Nat) : Int))) rfl rfl rfl rfl ?_
 refine OA.pure (dst := (some 4)) (v := (.int .i64 (((m / 256) : Nat) : Int))) rfl rfl rfl (r_bin rfl rfl rfl (b_shrN (a := m) (c := 8) (D := 256) (by decide))) ?_
 refine OA.pure (dst := (some 5)) (v := (.int .u8 (((UInt8.ofNat (m / 256)).toNat : Nat) : Int))) rfl rfl rfl (r_cvt rfl rfl rfl rfl rfl ⟨_, rfl⟩ (wrap_u8n _)) ?_
 refine OA.pure (dst := (some 6)) (v := (.int .i64 ((m : Nat) : Int))) rfl rfl rfl rfl ?_
 refine OA.pure (dst := (some 7)) (v := (.int .u8 (((UInt8.ofNat m).toNat : Nat) : Int))) rfl rfl rfl (r_cvt rfl rfl rfl rfl rfl ⟨_, rfl⟩ (wrap_u8n _)) ?_
 refine OA.op1 (dst := (some 8)) (v := (.slice (some ⟨n, 0, none⟩) 2 0)) (n1 := (n + 1)) (w := (n, some ⟨(bc [(UInt8.ofNat (m / 256)), (UInt8.ofNat m)]), 1, 5, true⟩)) rfl rfl rfl (by kernel_rfl) (by omega) ?_
 refine OA.pure (dst := (some 9)) (v := (.string (bstr (([(UInt8.ofNat (m / 256)), (UInt8.ofNat m)].drop 0).take 2)))) rfl rfl rfl (r_b2s rfl rfl rfl rfl rfl rfl rfl rfl get_here (by rw [show ([(UInt8.ofNat (m / 256)), (UInt8.ofNat m)] : List UInt8).length = 2 from rfl]; omega)) ?_
 refine OA.pure (dst := (some 2)) (v := (.string (bstr (([(UInt8.ofNat (m / 256)), (UInt8.ofNat m)].drop 0).take 2)))) rfl rfl rfl rfl ?_
 refine OA.nil ?_
 intro _
 refine RA.ret env_ok ?_
 refine ⟨.inr rfl, [(.string (bstr (([(UInt8.ofNat (m / 256)), (UInt8.ofNat m)].drop 0).take 2)))], (resL_cons rfl resL_nil), rfl, (kc1 (by omega))⟩

theorem s25 {σ : Store} (c : Ck) (h : MayN c) (hm : c.made < 9223372036854775808)   : PS Try.prog noDen 25 [(.agg ⟨[(.int .i64 ((c.made : Nat) : Int)), (W c.mine), (W c.yours), (W c.mt), (W c.yt), (W c.peer), (W c.loc), (.int .i64 ((c.pp : Nat) : Int)), (.int .i64 ((c.mp : Nat) : Int)), (W c.rwnd), (.int .i64 ((c.ou : Nat) : Int)), (.int .i64 ((c.inn : Nat) : Int)), (W c.tm), (W c.ty), (.string c.mr), (.string c.rn)]⟩)] σ (.string (bstr (ckB c))) := by
 have hmr : c.mr.size = 16 := by unfold MayN at h; omega
 have hrn : c.rn.size = 16 := by unfold MayN at h; omega
 refine PS.body (E := env) env_ok rfl rfl (by show _ ≤ _; exact of_decide_eq_true (by kernel_rfl)) (fun n hd => ?_)
 refine RA.seq hd ?_
 refine RA.region env_ok ?_
 refine OA.op1 (dst := (some 1)) (v := (Pt n 0 0)) (n1 := (n + 1)) (w := (n, some ⟨[(xCk11 c)], 16, 35, true⟩)) rfl rfl rfl rfl (by omega) ?_
 refine OA.pure (dst := (some 2)) (v := (.string (ByteArray.mk #[]))) rfl rfl rfl rfl ?_
 refine OA.nil ?_
 intro _
 refine RA.seq hd ?_
 refine RA.seq hd ?_
 refine RA.region env_ok ?_
 refine OA.pure (dst := (some 4)) (v := (.agg ⟨(xCk11 c)⟩)) rfl rfl rfl (r_loadA rfl rfl rfl rfl get_here rfl rfl rfl) ?_
 refine OA.callP (dst := (some 5)) (all := [(.agg ⟨(xCk11 c)⟩)]) (v := (.bool true)) (hd.of (by omega) (kb1 (by omega))) rfl rfl rfl rfl rfl rfl rfl rfl (s27N c h) ?_
 intro n1 hn1
 refine OA.pure (dst := (some 6)) (v := (.bool false)) rfl rfl rfl rfl ?_
 refine OA.nil ?_
 intro _
 refine RA.cond (t := false) rfl (fun hc => ?_) (fun hc => ?_)
 · cases hc
 ·
  refine RA.skip env_ok ?_
  intro _
  refine RA.seq hd ?_
  refine RA.par (md := [some [], some [n], some [], some [], some [], some [n], some [], some [], some [], some [n], some [], some [], some [], some [n], some [], some [], some [], some [n], some [], some [], some []]) env_ok (hd.of (by omega) (kb1 (by omega))) (by kernel_rfl) ?_
  refine PQ.pure (dst := (some 7)) (v := (Pt n 0 0)) rfl rfl rfl noStore (none_ok _ _) rfl ?_
  refine PQ.pure (dst := (some 8)) (v := (.int .i64 ((c.made : Nat) : Int))) rfl rfl rfl (app [(n, some ⟨[(xCk11 c)], 16, 35, true⟩)] noStore) (seen_one (V := []) (D := [(n, some ⟨[(xCk11 c)], 16, 35, true⟩)]) (by kernel_rfl) get_here) (r_load1 rfl rfl rfl rfl rfl get_here rfl rfl) ?_
  refine PQ.pure (dst := (some 9)) (v := (.int .u64 ((c.made : Nat) : Int))) rfl rfl rfl noStore (none_ok _ _) (r_cvt rfl rfl rfl rfl rfl ⟨_, rfl⟩ (u64_eq (by omega))) ?_
  refine PQ.callP (dst := (some 10)) (all := [(.int .u64 ((c.made : Nat) : Int))]) (v := (.string (bstr (be8 c.made)))) noStore (dom_none _) rfl rfl rfl rfl rfl rfl rfl rfl (none_ok _ _) (s38 c.made (by omega)) ?_
  intro n2 hn2
  refine PQ.pure (dst := (some 11)) (v := (Pt n 0 1)) rfl rfl rfl noStore (none_ok _ _) rfl ?_
  refine PQ.pure (dst := (some 12)) (v := (W c.mine)) rfl rfl rfl (app [(n, some ⟨[(xCk11 c)], 16, 35, true⟩)] noStore) (seen_one (V := []) (D := [(n, some ⟨[(xCk11 c)], 16, 35, true⟩)]) (by kernel_rfl) get_here) (r_load1 rfl rfl rfl rfl rfl get_here rfl rfl) ?_
  refine PQ.callP (dst := (some 13)) (all := [(W c.mine)]) (v := (.string (bstr (be4 c.mine)))) noStore (dom_none _) rfl rfl rfl rfl rfl rfl rfl rfl (none_ok _ _) (s40 _) ?_
  intro n3 hn3
  refine PQ.pure (dst := (some 14)) (v := (.string ((bstr (be8 c.made)) ++ (bstr (be4 c.mine))))) rfl rfl rfl noStore (none_ok _ _) (r_cat rfl rfl rfl (by (try simp only [ByteArray.size_append, bstr_size, size_lit, List.size_toArray, List.length_cons, List.length_nil, List.length_take, List.length_drop, List.length_replicate, be8_len, be4_len, be2_len, putL_len, hmr, hrn]); try omega)) ?_
  refine PQ.pure (dst := (some 15)) (v := (Pt n 0 2)) rfl rfl rfl noStore (none_ok _ _) rfl ?_
  refine PQ.pure (dst := (some 16)) (v := (W c.yours)) rfl rfl rfl (app [(n, some ⟨[(xCk11 c)], 16, 35, true⟩)] noStore) (seen_one (V := []) (D := [(n, some ⟨[(xCk11 c)], 16, 35, true⟩)]) (by kernel_rfl) get_here) (r_load1 rfl rfl rfl rfl rfl get_here rfl rfl) ?_
  refine PQ.callP (dst := (some 17)) (all := [(W c.yours)]) (v := (.string (bstr (be4 c.yours)))) noStore (dom_none _) rfl rfl rfl rfl rfl rfl rfl rfl (none_ok _ _) (s40 _) ?_
  intro n4 hn4
  refine PQ.pure (dst := (some 18)) (v := (.string (((bstr (be8 c.made)) ++ (bstr (be4 c.mine))) ++ (bstr (be4 c.yours))))) rfl rfl rfl noStore (none_ok _ _) (r_cat rfl rfl rfl (by (try simp only [ByteArray.size_append, bstr_size, size_lit, List.size_toArray, List.length_cons, List.length_nil, List.length_take, List.length_drop, List.length_replicate, be8_len, be4_len, be2_len, putL_len, hmr, hrn]); try omega)) ?_
  refine PQ.pure (dst := (some 19)) (v := (Pt n 0 3)) rfl rfl rfl noStore (none_ok _ _) rfl ?_
  refine PQ.pure (dst := (some 20)) (v := (W c.mt)) rfl rfl rfl (app [(n, some ⟨[(xCk11 c)], 16, 35, true⟩)] noStore) (seen_one (V := []) (D := [(n, some ⟨[(xCk11 c)], 16, 35, true⟩)]) (by kernel_rfl) get_here) (r_load1 rfl rfl rfl rfl rfl get_here rfl rfl) ?_
  refine PQ.callP (dst := (some 21)) (all := [(W c.mt)]) (v := (.string (bstr (be4 c.mt)))) noStore (dom_none _) rfl rfl rfl rfl rfl rfl rfl rfl (none_ok _ _) (s40 _) ?_
  intro n5 hn5
  refine PQ.pure (dst := (some 22)) (v := (.string ((((bstr (be8 c.made)) ++ (bstr (be4 c.mine))) ++ (bstr (be4 c.yours))) ++ (bstr (be4 c.mt))))) rfl rfl rfl noStore (none_ok _ _) (r_cat rfl rfl rfl (by (try simp only [ByteArray.size_append, bstr_size, size_lit, List.size_toArray, List.length_cons, List.length_nil, List.length_take, List.length_drop, List.length_replicate, be8_len, be4_len, be2_len, putL_len, hmr, hrn]); try omega)) ?_
  refine PQ.pure (dst := (some 23)) (v := (Pt n 0 4)) rfl rfl rfl noStore (none_ok _ _) rfl ?_
  refine PQ.pure (dst := (some 24)) (v := (W c.yt)) rfl rfl rfl (app [(n, some ⟨[(xCk11 c)], 16, 35, true⟩)] noStore) (seen_one (V := []) (D := [(n, some ⟨[(xCk11 c)], 16, 35, true⟩)]) (by kernel_rfl) get_here) (r_load1 rfl rfl rfl rfl rfl get_here rfl rfl) ?_
  refine PQ.callP (dst := (some 25)) (all := [(W c.yt)]) (v := (.string (bstr (be4 c.yt)))) noStore (dom_none _) rfl rfl rfl rfl rfl rfl rfl rfl (none_ok _ _) (s40 _) ?_
  intro n6 hn6
  refine PQ.pure (dst := (some 26)) (v := (.string (((((bstr (be8 c.made)) ++ (bstr (be4 c.mine))) ++ (bstr (be4 c.yours))) ++ (bstr (be4 c.mt))) ++ (bstr (be4 c.yt))))) rfl rfl rfl noStore (none_ok _ _) (r_cat rfl rfl rfl (by (try simp only [ByteArray.size_append, bstr_size, size_lit, List.size_toArray, List.length_cons, List.length_nil, List.length_take, List.length_drop, List.length_replicate, be8_len, be4_len, be2_len, putL_len, hmr, hrn]); try omega)) ?_
  refine PQ.pure (dst := (some 3)) (v := (.string (((((bstr (be8 c.made)) ++ (bstr (be4 c.mine))) ++ (bstr (be4 c.yours))) ++ (bstr (be4 c.mt))) ++ (bstr (be4 c.yt))))) rfl rfl rfl noStore (none_ok _ _) rfl ?_
  refine PQ.done (d := []) (by kernel_rfl) ?_
  intro _
  refine RA.rebase [(0, (.agg ⟨(xCk11 c)⟩)), (1, (Pt n 0 0)), (2, (.string (ByteArray.mk #[]))), (3, (.string (((((bstr (be8 c.made)) ++ (bstr (be4 c.mine))) ++ (bstr (be4 c.yours))) ++ (bstr (be4 c.mt))) ++ (bstr (be4 c.yt))))), (6, (.bool false))] ⟨rfl, rfl, rfl, rfl, rfl, trivial⟩ (fun τr7 => ?_)
  refine RA.seq hd ?_
  refine RA.par (md := [some [], some [], some [n], some [], some [], some [n], some [], some [], some [], some [n], some [], some [], some [], some [n], some [], some [], some [], some [n], some [], some [], some [], some []]) env_ok (hd.of (by omega) (kb1 (by omega))) (by kernel_rfl) ?_
  refine PQ.pure (dst := (some 27)) (v := (.string (((((bstr (be8 c.made)) ++ (bstr (be4 c.mine))) ++ (bstr (be4 c.yours))) ++ (bstr (be4 c.mt))) ++ (bstr (be4 c.yt))))) rfl rfl rfl noStore (none_ok _ _) rfl ?_
  refine PQ.pure (dst := (some 28)) (v := (Pt n 0 5)) rfl rfl rfl noStore (none_ok _ _) rfl ?_
  refine PQ.pure (dst := (some 29)) (v := (W c.peer)) rfl rfl rfl (app [(n, some ⟨[(xCk11 c)], 16, 35, true⟩)] noStore) (seen_one (V := []) (D := [(n, some ⟨[(xCk11 c)], 16, 35, true⟩)]) (by kernel_rfl) get_here) (r_load1 rfl rfl rfl rfl rfl get_here rfl rfl) ?_
  refine PQ.callP (dst := (some 30)) (all := [(W c.peer)]) (v := (.string (bstr (be4 c.peer)))) noStore (dom_none _) rfl rfl rfl rfl rfl rfl rfl rfl (none_ok _ _) (s40 _) ?_
  intro n8 hn8
  refine PQ.pure (dst := (some 31)) (v := (Pt n 0 6)) rfl rfl rfl noStore (none_ok _ _) rfl ?_
  refine PQ.pure (dst := (some 32)) (v := (W c.loc)) rfl rfl rfl (app [(n, some ⟨[(xCk11 c)], 16, 35, true⟩)] noStore) (seen_one (V := []) (D := [(n, some ⟨[(xCk11 c)], 16, 35, true⟩)]) (by kernel_rfl) get_here) (r_load1 rfl rfl rfl rfl rfl get_here rfl rfl) ?_
  refine PQ.callP (dst := (some 33)) (all := [(W c.loc)]) (v := (.string (bstr (be4 c.loc)))) noStore (dom_none _) rfl rfl rfl rfl rfl rfl rfl rfl (none_ok _ _) (s40 _) ?_
  intro n9 hn9
  refine PQ.pure (dst := (some 34)) (v := (.string ((bstr (be4 c.peer)) ++ (bstr (be4 c.loc))))) rfl rfl rfl noStore (none_ok _ _) (r_cat rfl rfl rfl (by (try simp only [ByteArray.size_append, bstr_size, size_lit, List.size_toArray, List.length_cons, List.length_nil, List.length_take, List.length_drop, List.length_replicate, be8_len, be4_len, be2_len, putL_len, hmr, hrn]); try omega)) ?_
  refine PQ.pure (dst := (some 35)) (v := (Pt n 0 7)) rfl rfl rfl noStore (none_ok _ _) rfl ?_
  refine PQ.pure (dst := (some 36)) (v := (.int .i64 ((c.pp : Nat) : Int))) rfl rfl rfl (app [(n, some ⟨[(xCk11 c)], 16, 35, true⟩)] noStore) (seen_one (V := []) (D := [(n, some ⟨[(xCk11 c)], 16, 35, true⟩)]) (by kernel_rfl) get_here) (r_load1 rfl rfl rfl rfl rfl get_here rfl rfl) ?_
  refine PQ.callP (dst := (some 37)) (all := [(.int .i64 ((c.pp : Nat) : Int))]) (v := (.string (bstr (be2 c.pp)))) noStore (dom_none _) rfl rfl rfl rfl rfl rfl rfl rfl (none_ok _ _) (s45 c.pp (by unfold MayN at h; omega)) ?_
  intro n10 hn10
  refine PQ.pure (dst := (some 38)) (v := (.string (((bstr (be4 c.peer)) ++ (bstr (be4 c.loc))) ++ (bstr (be2 c.pp))))) rfl rfl rfl noStore (none_ok _ _) (r_cat rfl rfl rfl (by (try simp only [ByteArray.size_append, bstr_size, size_lit, List.size_toArray, List.length_cons, List.length_nil, List.length_take, List.length_drop, List.length_replicate, be8_len, be4_len, be2_len, putL_len, hmr, hrn]); try omega)) ?_
  refine PQ.pure (dst := (some 39)) (v := (Pt n 0 8)) rfl rfl rfl noStore (none_ok _ _) rfl ?_
  refine PQ.pure (dst := (some 40)) (v := (.int .i64 ((c.mp : Nat) : Int))) rfl rfl rfl (app [(n, some ⟨[(xCk11 c)], 16, 35, true⟩)] noStore) (seen_one (V := []) (D := [(n, some ⟨[(xCk11 c)], 16, 35, true⟩)]) (by kernel_rfl) get_here) (r_load1 rfl rfl rfl rfl rfl get_here rfl rfl) ?_
  refine PQ.callP (dst := (some 41)) (all := [(.int .i64 ((c.mp : Nat) : Int))]) (v := (.string (bstr (be2 c.mp)))) noStore (dom_none _) rfl rfl rfl rfl rfl rfl rfl rfl (none_ok _ _) (s45 c.mp (by unfold MayN at h; omega)) ?_
  intro n11 hn11
  refine PQ.pure (dst := (some 42)) (v := (.string ((((bstr (be4 c.peer)) ++ (bstr (be4 c.loc))) ++ (bstr (be2 c.pp))) ++ (bstr (be2 c.mp))))) rfl rfl rfl noStore (none_ok _ _) (r_cat rfl rfl rfl (by (try simp only [ByteArray.size_append, bstr_size, size_lit, List.size_toArray, List.length_cons, List.length_nil, List.length_take, List.length_drop, List.length_replicate, be8_len, be4_len, be2_len, putL_len, hmr, hrn]); try omega)) ?_
  refine PQ.pure (dst := (some 43)) (v := (Pt n 0 9)) rfl rfl rfl noStore (none_ok _ _) rfl ?_
  refine PQ.pure (dst := (some 44)) (v := (W c.rwnd)) rfl rfl rfl (app [(n, some ⟨[(xCk11 c)], 16, 35, true⟩)] noStore) (seen_one (V := []) (D := [(n, some ⟨[(xCk11 c)], 16, 35, true⟩)]) (by kernel_rfl) get_here) (r_load1 rfl rfl rfl rfl rfl get_here rfl rfl) ?_
  refine PQ.callP (dst := (some 45)) (all := [(W c.rwnd)]) (v := (.string (bstr (be4 c.rwnd)))) noStore (dom_none _) rfl rfl rfl rfl rfl rfl rfl rfl (none_ok _ _) (s40 _) ?_
  intro n12 hn12
  refine PQ.pure (dst := (some 46)) (v := (.string (((((bstr (be4 c.peer)) ++ (bstr (be4 c.loc))) ++ (bstr (be2 c.pp))) ++ (bstr (be2 c.mp))) ++ (bstr (be4 c.rwnd))))) rfl rfl rfl noStore (none_ok _ _) (r_cat rfl rfl rfl (by (try simp only [ByteArray.size_append, bstr_size, size_lit, List.size_toArray, List.length_cons, List.length_nil, List.length_take, List.length_drop, List.length_replicate, be8_len, be4_len, be2_len, putL_len, hmr, hrn]); try omega)) ?_
  refine PQ.pure (dst := (some 47)) (v := (.string ((((((bstr (be8 c.made)) ++ (bstr (be4 c.mine))) ++ (bstr (be4 c.yours))) ++ (bstr (be4 c.mt))) ++ (bstr (be4 c.yt))) ++ (((((bstr (be4 c.peer)) ++ (bstr (be4 c.loc))) ++ (bstr (be2 c.pp))) ++ (bstr (be2 c.mp))) ++ (bstr (be4 c.rwnd)))))) rfl rfl rfl noStore (none_ok _ _) (r_cat rfl rfl rfl (by (try simp only [ByteArray.size_append, bstr_size, size_lit, List.size_toArray, List.length_cons, List.length_nil, List.length_take, List.length_drop, List.length_replicate, be8_len, be4_len, be2_len, putL_len, hmr, hrn]); try omega)) ?_
  refine PQ.pure (dst := (some 3)) (v := (.string ((((((bstr (be8 c.made)) ++ (bstr (be4 c.mine))) ++ (bstr (be4 c.yours))) ++ (bstr (be4 c.mt))) ++ (bstr (be4 c.yt))) ++ (((((bstr (be4 c.peer)) ++ (bstr (be4 c.loc))) ++ (bstr (be2 c.pp))) ++ (bstr (be2 c.mp))) ++ (bstr (be4 c.rwnd)))))) rfl rfl rfl noStore (none_ok _ _) rfl ?_
  refine PQ.done (d := []) (by kernel_rfl) ?_
  intro _
  refine RA.seq hd ?_
  refine RA.par (md := [some [], some [], some [n], some [], some [], some [], some [n], some [], some [], some [], some [n], some [], some [], some [], some [n], some [], some [], some [], some [n], some [], some [], some [n], some [], some []]) env_ok (hd.of (by omega) (kb1 (by omega))) (by kernel_rfl) ?_
  refine PQ.pure (dst := (some 48)) (v := (.string ((((((bstr (be8 c.made)) ++ (bstr (be4 c.mine))) ++ (bstr (be4 c.yours))) ++ (bstr (be4 c.mt))) ++ (bstr (be4 c.yt))) ++ (((((bstr (be4 c.peer)) ++ (bstr (be4 c.loc))) ++ (bstr (be2 c.pp))) ++ (bstr (be2 c.mp))) ++ (bstr (be4 c.rwnd)))))) rfl rfl rfl noStore (none_ok _ _) rfl ?_
  refine PQ.pure (dst := (some 49)) (v := (Pt n 0 10)) rfl rfl rfl noStore (none_ok _ _) rfl ?_
  refine PQ.pure (dst := (some 50)) (v := (.int .i64 ((c.ou : Nat) : Int))) rfl rfl rfl (app [(n, some ⟨[(xCk11 c)], 16, 35, true⟩)] noStore) (seen_one (V := []) (D := [(n, some ⟨[(xCk11 c)], 16, 35, true⟩)]) (by kernel_rfl) get_here) (r_load1 rfl rfl rfl rfl rfl get_here rfl rfl) ?_
  refine PQ.callP (dst := (some 51)) (all := [(.int .i64 ((c.ou : Nat) : Int))]) (v := (.string (bstr (be2 c.ou)))) noStore (dom_none _) rfl rfl rfl rfl rfl rfl rfl rfl (none_ok _ _) (s45 c.ou (by unfold MayN at h; omega)) ?_
  intro n13 hn13
  refine PQ.pure (dst := (some 52)) (v := (.string (((((((bstr (be8 c.made)) ++ (bstr (be4 c.mine))) ++ (bstr (be4 c.yours))) ++ (bstr (be4 c.mt))) ++ (bstr (be4 c.yt))) ++ (((((bstr (be4 c.peer)) ++ (bstr (be4 c.loc))) ++ (bstr (be2 c.pp))) ++ (bstr (be2 c.mp))) ++ (bstr (be4 c.rwnd)))) ++ (bstr (be2 c.ou))))) rfl rfl rfl noStore (none_ok _ _) (r_cat rfl rfl rfl (by (try simp only [ByteArray.size_append, bstr_size, size_lit, List.size_toArray, List.length_cons, List.length_nil, List.length_take, List.length_drop, List.length_replicate, be8_len, be4_len, be2_len, putL_len, hmr, hrn]); try omega)) ?_
  refine PQ.pure (dst := (some 53)) (v := (Pt n 0 11)) rfl rfl rfl noStore (none_ok _ _) rfl ?_
  refine PQ.pure (dst := (some 54)) (v := (.int .i64 ((c.inn : Nat) : Int))) rfl rfl rfl (app [(n, some ⟨[(xCk11 c)], 16, 35, true⟩)] noStore) (seen_one (V := []) (D := [(n, some ⟨[(xCk11 c)], 16, 35, true⟩)]) (by kernel_rfl) get_here) (r_load1 rfl rfl rfl rfl rfl get_here rfl rfl) ?_
  refine PQ.callP (dst := (some 55)) (all := [(.int .i64 ((c.inn : Nat) : Int))]) (v := (.string (bstr (be2 c.inn)))) noStore (dom_none _) rfl rfl rfl rfl rfl rfl rfl rfl (none_ok _ _) (s45 c.inn (by unfold MayN at h; omega)) ?_
  intro n14 hn14
  refine PQ.pure (dst := (some 56)) (v := (.string ((((((((bstr (be8 c.made)) ++ (bstr (be4 c.mine))) ++ (bstr (be4 c.yours))) ++ (bstr (be4 c.mt))) ++ (bstr (be4 c.yt))) ++ (((((bstr (be4 c.peer)) ++ (bstr (be4 c.loc))) ++ (bstr (be2 c.pp))) ++ (bstr (be2 c.mp))) ++ (bstr (be4 c.rwnd)))) ++ (bstr (be2 c.ou))) ++ (bstr (be2 c.inn))))) rfl rfl rfl noStore (none_ok _ _) (r_cat rfl rfl rfl (by (try simp only [ByteArray.size_append, bstr_size, size_lit, List.size_toArray, List.length_cons, List.length_nil, List.length_take, List.length_drop, List.length_replicate, be8_len, be4_len, be2_len, putL_len, hmr, hrn]); try omega)) ?_
  refine PQ.pure (dst := (some 57)) (v := (Pt n 0 12)) rfl rfl rfl noStore (none_ok _ _) rfl ?_
  refine PQ.pure (dst := (some 58)) (v := (W c.tm)) rfl rfl rfl (app [(n, some ⟨[(xCk11 c)], 16, 35, true⟩)] noStore) (seen_one (V := []) (D := [(n, some ⟨[(xCk11 c)], 16, 35, true⟩)]) (by kernel_rfl) get_here) (r_load1 rfl rfl rfl rfl rfl get_here rfl rfl) ?_
  refine PQ.callP (dst := (some 59)) (all := [(W c.tm)]) (v := (.string (bstr (be4 c.tm)))) noStore (dom_none _) rfl rfl rfl rfl rfl rfl rfl rfl (none_ok _ _) (s40 _) ?_
  intro n15 hn15
  refine PQ.pure (dst := (some 60)) (v := (.string (((((((((bstr (be8 c.made)) ++ (bstr (be4 c.mine))) ++ (bstr (be4 c.yours))) ++ (bstr (be4 c.mt))) ++ (bstr (be4 c.yt))) ++ (((((bstr (be4 c.peer)) ++ (bstr (be4 c.loc))) ++ (bstr (be2 c.pp))) ++ (bstr (be2 c.mp))) ++ (bstr (be4 c.rwnd)))) ++ (bstr (be2 c.ou))) ++ (bstr (be2 c.inn))) ++ (bstr (be4 c.tm))))) rfl rfl rfl noStore (none_ok _ _) (r_cat rfl rfl rfl (by (try simp only [ByteArray.size_append, bstr_size, size_lit, List.size_toArray, List.length_cons, List.length_nil, List.length_take, List.length_drop, List.length_replicate, be8_len, be4_len, be2_len, putL_len, hmr, hrn]); try omega)) ?_
  refine PQ.pure (dst := (some 61)) (v := (Pt n 0 13)) rfl rfl rfl noStore (none_ok _ _) rfl ?_
  refine PQ.pure (dst := (some 62)) (v := (W c.ty)) rfl rfl rfl (app [(n, some ⟨[(xCk11 c)], 16, 35, true⟩)] noStore) (seen_one (V := []) (D := [(n, some ⟨[(xCk11 c)], 16, 35, true⟩)]) (by kernel_rfl) get_here) (r_load1 rfl rfl rfl rfl rfl get_here rfl rfl) ?_
  refine PQ.callP (dst := (some 63)) (all := [(W c.ty)]) (v := (.string (bstr (be4 c.ty)))) noStore (dom_none _) rfl rfl rfl rfl rfl rfl rfl rfl (none_ok _ _) (s40 _) ?_
  intro n16 hn16
  refine PQ.pure (dst := (some 64)) (v := (.string ((((((((((bstr (be8 c.made)) ++ (bstr (be4 c.mine))) ++ (bstr (be4 c.yours))) ++ (bstr (be4 c.mt))) ++ (bstr (be4 c.yt))) ++ (((((bstr (be4 c.peer)) ++ (bstr (be4 c.loc))) ++ (bstr (be2 c.pp))) ++ (bstr (be2 c.mp))) ++ (bstr (be4 c.rwnd)))) ++ (bstr (be2 c.ou))) ++ (bstr (be2 c.inn))) ++ (bstr (be4 c.tm))) ++ (bstr (be4 c.ty))))) rfl rfl rfl noStore (none_ok _ _) (r_cat rfl rfl rfl (by (try simp only [ByteArray.size_append, bstr_size, size_lit, List.size_toArray, List.length_cons, List.length_nil, List.length_take, List.length_drop, List.length_replicate, be8_len, be4_len, be2_len, putL_len, hmr, hrn]); try omega)) ?_
  refine PQ.pure (dst := (some 65)) (v := (Pt n 0 14)) rfl rfl rfl noStore (none_ok _ _) rfl ?_
  refine PQ.pure (dst := (some 66)) (v := (.string c.mr)) rfl rfl rfl (app [(n, some ⟨[(xCk11 c)], 16, 35, true⟩)] noStore) (seen_one (V := []) (D := [(n, some ⟨[(xCk11 c)], 16, 35, true⟩)]) (by kernel_rfl) get_here) (r_load1 rfl rfl rfl rfl rfl get_here rfl rfl) ?_
  refine PQ.pure (dst := (some 67)) (v := (.string (((((((((((bstr (be8 c.made)) ++ (bstr (be4 c.mine))) ++ (bstr (be4 c.yours))) ++ (bstr (be4 c.mt))) ++ (bstr (be4 c.yt))) ++ (((((bstr (be4 c.peer)) ++ (bstr (be4 c.loc))) ++ (bstr (be2 c.pp))) ++ (bstr (be2 c.mp))) ++ (bstr (be4 c.rwnd)))) ++ (bstr (be2 c.ou))) ++ (bstr (be2 c.inn))) ++ (bstr (be4 c.tm))) ++ (bstr (be4 c.ty))) ++ c.mr))) rfl rfl rfl noStore (none_ok _ _) (r_cat rfl rfl rfl (by (try simp only [ByteArray.size_append, bstr_size, size_lit, List.size_toArray, List.length_cons, List.length_nil, List.length_take, List.length_drop, List.length_replicate, be8_len, be4_len, be2_len, putL_len, hmr, hrn]); try omega)) ?_
  refine PQ.pure (dst := (some 68)) (v := (Pt n 0 15)) rfl rfl rfl noStore (none_ok _ _) rfl ?_
  refine PQ.pure (dst := (some 69)) (v := (.string c.rn)) rfl rfl rfl (app [(n, some ⟨[(xCk11 c)], 16, 35, true⟩)] noStore) (seen_one (V := []) (D := [(n, some ⟨[(xCk11 c)], 16, 35, true⟩)]) (by kernel_rfl) get_here) (r_load1 rfl rfl rfl rfl rfl get_here rfl rfl) ?_
  refine PQ.pure (dst := (some 70)) (v := (.string ((((((((((((bstr (be8 c.made)) ++ (bstr (be4 c.mine))) ++ (bstr (be4 c.yours))) ++ (bstr (be4 c.mt))) ++ (bstr (be4 c.yt))) ++ (((((bstr (be4 c.peer)) ++ (bstr (be4 c.loc))) ++ (bstr (be2 c.pp))) ++ (bstr (be2 c.mp))) ++ (bstr (be4 c.rwnd)))) ++ (bstr (be2 c.ou))) ++ (bstr (be2 c.inn))) ++ (bstr (be4 c.tm))) ++ (bstr (be4 c.ty))) ++ c.mr) ++ c.rn))) rfl rfl rfl noStore (none_ok _ _) (r_cat rfl rfl rfl (by (try simp only [ByteArray.size_append, bstr_size, size_lit, List.size_toArray, List.length_cons, List.length_nil, List.length_take, List.length_drop, List.length_replicate, be8_len, be4_len, be2_len, putL_len, hmr, hrn]); try omega)) ?_
  refine PQ.pure (dst := (some 2)) (v := (.string ((((((((((((bstr (be8 c.made)) ++ (bstr (be4 c.mine))) ++ (bstr (be4 c.yours))) ++ (bstr (be4 c.mt))) ++ (bstr (be4 c.yt))) ++ (((((bstr (be4 c.peer)) ++ (bstr (be4 c.loc))) ++ (bstr (be2 c.pp))) ++ (bstr (be2 c.mp))) ++ (bstr (be4 c.rwnd)))) ++ (bstr (be2 c.ou))) ++ (bstr (be2 c.inn))) ++ (bstr (be4 c.tm))) ++ (bstr (be4 c.ty))) ++ c.mr) ++ c.rn))) rfl rfl rfl noStore (none_ok _ _) rfl ?_
  refine PQ.done (d := []) (by kernel_rfl) ?_
  intro _
  refine RA.rebase [(0, (.agg ⟨(xCk11 c)⟩)), (1, (Pt n 0 0)), (2, (.string ((((((((((((bstr (be8 c.made)) ++ (bstr (be4 c.mine))) ++ (bstr (be4 c.yours))) ++ (bstr (be4 c.mt))) ++ (bstr (be4 c.yt))) ++ (((((bstr (be4 c.peer)) ++ (bstr (be4 c.loc))) ++ (bstr (be2 c.pp))) ++ (bstr (be2 c.mp))) ++ (bstr (be4 c.rwnd)))) ++ (bstr (be2 c.ou))) ++ (bstr (be2 c.inn))) ++ (bstr (be4 c.tm))) ++ (bstr (be4 c.ty))) ++ c.mr) ++ c.rn))), (3, (.string ((((((bstr (be8 c.made)) ++ (bstr (be4 c.mine))) ++ (bstr (be4 c.yours))) ++ (bstr (be4 c.mt))) ++ (bstr (be4 c.yt))) ++ (((((bstr (be4 c.peer)) ++ (bstr (be4 c.loc))) ++ (bstr (be2 c.pp))) ++ (bstr (be2 c.mp))) ++ (bstr (be4 c.rwnd)))))), (6, (.bool false))] ⟨rfl, rfl, rfl, rfl, rfl, trivial⟩ (fun τr17 => ?_)
  refine RA.ret env_ok ?_
  refine ⟨.inr rfl, [(.string ((((((((((((bstr (be8 c.made)) ++ (bstr (be4 c.mine))) ++ (bstr (be4 c.yours))) ++ (bstr (be4 c.mt))) ++ (bstr (be4 c.yt))) ++ (((((bstr (be4 c.peer)) ++ (bstr (be4 c.loc))) ++ (bstr (be2 c.pp))) ++ (bstr (be2 c.mp))) ++ (bstr (be4 c.rwnd)))) ++ (bstr (be2 c.ou))) ++ (bstr (be2 c.inn))) ++ (bstr (be4 c.tm))) ++ (bstr (be4 c.ty))) ++ c.mr) ++ c.rn))], (resL_cons rfl resL_nil), (by rw [one]; refine congrArg Value.string (L_ext ?_); simp only [L_append, L_bstr, ckB, List.append_assoc]), (kc1 (by omega))⟩

theorem s26 {σ : Store} (c : Ck) (h : MayN c) (hm : c.made < 9223372036854775808)   : PS Try.prog noDen 26 [(.agg ⟨[(.int .i64 ((c.made : Nat) : Int)), (W c.mine), (W c.yours), (W c.mt), (W c.yt), (W c.peer), (W c.loc), (.int .i64 ((c.pp : Nat) : Int)), (.int .i64 ((c.mp : Nat) : Int)), (W c.rwnd), (.int .i64 ((c.ou : Nat) : Int)), (.int .i64 ((c.inn : Nat) : Int)), (W c.tm), (W c.ty), (.string c.mr), (.string c.rn)]⟩)] σ (.string (bstr (ckB c))) := by
 have hmr : c.mr.size = 16 := by unfold MayN at h; omega
 have hrn : c.rn.size = 16 := by unfold MayN at h; omega
 have hp2 : c.pp < 65536 ∧ c.mp < 65536 ∧ c.ou < 65536 ∧ c.inn < 65536 := by unfold MayN at h; omega
 refine PS.body (E := env) env_ok rfl rfl (by show _ ≤ _; exact of_decide_eq_true (by kernel_rfl)) (fun n hd => ?_)
 refine RA.seq hd ?_
 refine RA.region env_ok ?_
 refine OA.op1 (dst := (some 1)) (v := (Pt n 0 0)) (n1 := (n + 1)) (w := (n, some ⟨[(xCk11 c)], 16, 35, true⟩)) rfl rfl rfl rfl (by omega) ?_
 refine OA.pure (dst := (some 2)) (v := (.string (ByteArray.mk #[]))) rfl rfl rfl rfl ?_
 refine OA.nil ?_
 intro _
 refine RA.seq hd ?_
 refine RA.seq hd ?_
 refine RA.region env_ok ?_
 refine OA.pure (dst := (some 6)) (v := (.agg ⟨(xCk11 c)⟩)) rfl rfl rfl (r_loadA rfl rfl rfl rfl get_here rfl rfl rfl) ?_
 refine OA.callP (dst := (some 7)) (all := [(.agg ⟨(xCk11 c)⟩)]) (v := (.bool true)) (hd.of (by omega) (kb1 (by omega))) rfl rfl rfl rfl rfl rfl rfl rfl (s29N c h) ?_
 intro n1 hn1
 refine OA.pure (dst := (some 8)) (v := (.bool false)) rfl rfl rfl rfl ?_
 refine OA.nil ?_
 intro _
 refine RA.cond (t := false) rfl (fun hc => ?_) (fun hc => ?_)
 · cases hc
 ·
  refine RA.skip env_ok ?_
  intro _
  refine RA.seq hd ?_
  refine RA.region env_ok ?_
  refine OA.pure (dst := (some 9)) (v := (Pt n 0 0)) rfl rfl rfl rfl ?_
  refine OA.pure (dst := (some 10)) (v := (.int .i64 ((c.made : Nat) : Int))) rfl rfl rfl (r_load1 rfl rfl rfl rfl rfl get_here rfl rfl) ?_
  refine OA.pure (dst := (some 11)) (v := (.int .u64 ((c.made : Nat) : Int))) rfl rfl rfl (r_cvt rfl rfl rfl rfl rfl ⟨_, rfl⟩ (u64_eq (by omega))) ?_
  refine OA.callP (dst := (some 12)) (all := [(.int .u64 ((c.made : Nat) : Int)), (.int .i64 8)]) (v := (.string (bstr (putL c.made 8)))) (hd.of (by omega) (kb1 (by omega))) rfl rfl rfl rfl rfl rfl rfl rfl (s41 8 c.made (by first | omega | (unfold MayN at h; omega)) (by decide)) ?_
  intro n2 hn2
  refine OA.pure (dst := (some 3)) (v := (.string (bstr (putL c.made 8)))) rfl rfl rfl rfl ?_
  refine OA.nil ?_
  intro _
  refine RA.seq hd ?_
  refine RA.region env_ok ?_
  refine OA.pure (dst := (some 13)) (v := (Pt n 0 1)) rfl rfl rfl rfl ?_
  refine OA.pure (dst := (some 14)) (v := (W c.mine)) rfl rfl rfl (r_load1 rfl rfl rfl rfl rfl get_here rfl rfl) ?_
  refine OA.pure (dst := (some 15)) (v := (Pt n 0 2)) rfl rfl rfl rfl ?_
  refine OA.pure (dst := (some 16)) (v := (W c.yours)) rfl rfl rfl (r_load1 rfl rfl rfl rfl rfl get_here rfl rfl) ?_
  refine OA.pure (dst := (some 17)) (v := (Pt n 0 3)) rfl rfl rfl rfl ?_
  refine OA.pure (dst := (some 18)) (v := (W c.mt)) rfl rfl rfl (r_load1 rfl rfl rfl rfl rfl get_here rfl rfl) ?_
  refine OA.pure (dst := (some 19)) (v := (Pt n 0 4)) rfl rfl rfl rfl ?_
  refine OA.pure (dst := (some 20)) (v := (W c.yt)) rfl rfl rfl (r_load1 rfl rfl rfl rfl rfl get_here rfl rfl) ?_
  refine OA.pure (dst := (some 21)) (v := (Pt n 0 5)) rfl rfl rfl rfl ?_
  refine OA.pure (dst := (some 22)) (v := (W c.peer)) rfl rfl rfl (r_load1 rfl rfl rfl rfl rfl get_here rfl rfl) ?_
  refine OA.pure (dst := (some 23)) (v := (Pt n 0 6)) rfl rfl rfl rfl ?_
  refine OA.pure (dst := (some 24)) (v := (W c.loc)) rfl rfl rfl (r_load1 rfl rfl rfl rfl rfl get_here rfl rfl) ?_
  refine OA.op1 (dst := (some 25)) (v := (.slice (some ⟨n2, 0, none⟩) 6 0)) (n1 := (n2 + 1)) (w := (n2, some ⟨[[(W c.mine)], [(W c.yours)], [(W c.mt)], [(W c.yt)], [(W c.peer)], [(W c.loc)]], 1, 32, true⟩)) rfl rfl rfl (by kernel_rfl) (by omega) ?_
  refine OA.pure (dst := (some 4)) (v := (.slice (some ⟨n2, 0, none⟩) 6 0)) rfl rfl rfl rfl ?_
  refine OA.nil ?_
  intro _
  refine RA.seq hd ?_
  refine RA.seq hd ?_
  refine RA.region env_ok ?_
  refine OA.pure (dst := (some 5)) (v := (.int .i64 0)) rfl rfl rfl rfl ?_
  refine OA.nil ?_
  intro _
  refine RA.rebase [(0, (.agg ⟨(xCk11 c)⟩)), (1, (Pt n 0 0)), (2, (.string (ByteArray.mk #[]))), (3, (.string (bstr (putL c.made 8)))), (4, (.slice (some ⟨n2, 0, none⟩) 6 0)), (5, (.int .i64 0)), (8, (.bool false))] ⟨rfl, rfl, rfl, rfl, rfl, rfl, rfl, trivial⟩ (fun τr3 => ?_)
  refine RA.block ?_
  refine RA.unroll hd ?_
  refine RA.seq hd ?_
  refine RA.seq hd ?_
  refine RA.region env_ok ?_
  refine OA.pure (dst := (some 26)) (v := (.int .i64 0)) rfl rfl rfl rfl ?_
  refine OA.pure (dst := (some 27)) (v := (.slice (some ⟨n2, 0, none⟩) 6 0)) rfl rfl rfl rfl ?_
  refine OA.pure (dst := (some 28)) (v := (.int .i64 6)) rfl rfl rfl rfl ?_
  refine OA.pure (dst := (some 29)) (v := (.bool true)) rfl rfl rfl (r_bin rfl rfl rfl (b_lss rfl)) ?_
  refine OA.nil ?_
  intro _
  refine RA.cond (t := true) rfl (fun hc => ?_) (fun hc => ?_)
  ·
   refine RA.skip env_ok ?_
   intro _
   refine RA.seq hd ?_
   refine RA.block ?_
   refine RA.region env_ok ?_
   refine OA.pure (dst := (some 32)) (v := (.string (bstr (putL c.made 8)))) rfl rfl rfl rfl ?_
   refine OA.pure (dst := (some 33)) (v := (.slice (some ⟨n2, 0, none⟩) 6 0)) rfl rfl rfl rfl ?_
   refine OA.pure (dst := (some 34)) (v := (.int .i64 0)) rfl rfl rfl rfl ?_
   refine OA.pure (dst := (some 35)) (v := (Pt n2 0 0)) rfl rfl rfl (r_iaS (l := 0) rfl rfl rfl rfl rfl rfl (by omega) (by omega) get_here rfl (by omega)) ?_
   refine OA.pure (dst := (some 36)) (v := (W c.mine)) rfl rfl rfl (r_load1 rfl rfl rfl rfl rfl get_here rfl rfl) ?_
   refine OA.pure (dst := (some 37)) (v := (.int .u64 ((c.mine.toNat : Nat) : Int))) rfl rfl rfl (r_cvt rfl rfl rfl rfl rfl ⟨_, rfl⟩ (u64_eq (by have := (c.mine).isLt; omega))) ?_
   refine OA.callP (dst := (some 38)) (all := [(.int .u64 ((c.mine.toNat : Nat) : Int)), (.int .i64 4)]) (v := (.string (bstr (putL c.mine.toNat 4)))) (hd.of (by omega) (kb2 (by omega))) rfl rfl rfl rfl rfl rfl rfl rfl (s41 4 c.mine.toNat (by have := (c.mine).isLt; omega) (by decide)) ?_
   intro n4 hn4
   refine OA.pure (dst := (some 39)) (v := (.string ((bstr (putL c.made 8)) ++ (bstr (putL c.mine.toNat 4))))) rfl rfl rfl (r_cat rfl rfl rfl (by (try simp only [ByteArray.size_append, bstr_size, size_lit, List.size_toArray, List.length_cons, List.length_nil, List.length_take, List.length_drop, List.length_replicate, be8_len, be4_len, be2_len, putL_len, hmr, hrn]); try omega)) ?_
   refine OA.pure (dst := (some 3)) (v := (.string ((bstr (putL c.made 8)) ++ (bstr (putL c.mine.toNat 4))))) rfl rfl rfl rfl ?_
   refine OA.nil ?_
   intro _
   refine RA.region env_ok ?_
   refine OA.pure (dst := (some 30)) (v := (.int .i64 0)) rfl rfl rfl rfl ?_
   refine OA.pure (dst := (some 31)) (v := (.int .i64 1)) rfl rfl rfl (r_bin rfl rfl rfl (b_add (i64_eq (by omega)))) ?_
   refine OA.pure (dst := (some 5)) (v := (.int .i64 1)) rfl rfl rfl rfl ?_
   refine OA.nil ?_
   intro _
   refine RA.unroll hd ?_
   refine RA.seq hd ?_
   refine RA.seq hd ?_
   refine RA.region env_ok ?_
   refine OA.pure (dst := (some 26)) (v := (.int .i64 1)) rfl rfl rfl rfl ?_
   refine OA.pure (dst := (some 27)) (v := (.slice (some ⟨n2, 0, none⟩) 6 0)) rfl rfl rfl rfl ?_
   refine OA.pure (dst := (some 28)) (v := (.int .i64 6)) rfl rfl rfl rfl ?_
   refine OA.pure (dst := (some 29)) (v := (.bool true)) rfl rfl rfl (r_bin rfl rfl rfl (b_lss rfl)) ?_
   refine OA.nil ?_
   intro _
   refine RA.cond (t := true) rfl (fun hc => ?_) (fun hc => ?_)
   ·
    refine RA.skip env_ok ?_
    intro _
    refine RA.seq hd ?_
    refine RA.block ?_
    refine RA.region env_ok ?_
    refine OA.pure (dst := (some 32)) (v := (.string ((bstr (putL c.made 8)) ++ (bstr (putL c.mine.toNat 4))))) rfl rfl rfl rfl ?_
    refine OA.pure (dst := (some 33)) (v := (.slice (some ⟨n2, 0, none⟩) 6 0)) rfl rfl rfl rfl ?_
    refine OA.pure (dst := (some 34)) (v := (.int .i64 1)) rfl rfl rfl rfl ?_
    refine OA.pure (dst := (some 35)) (v := (Pt n2 1 0)) rfl rfl rfl (r_iaS (l := 1) rfl rfl rfl rfl rfl rfl (by omega) (by omega) get_here rfl (by omega)) ?_
    refine OA.pure (dst := (some 36)) (v := (W c.yours)) rfl rfl rfl (r_load1 rfl rfl rfl rfl rfl get_here rfl rfl) ?_
    refine OA.pure (dst := (some 37)) (v := (.int .u64 ((c.yours.toNat : Nat) : Int))) rfl rfl rfl (r_cvt rfl rfl rfl rfl rfl ⟨_, rfl⟩ (u64_eq (by have := (c.yours).isLt; omega))) ?_
    refine OA.callP (dst := (some 38)) (all := [(.int .u64 ((c.yours.toNat : Nat) : Int)), (.int .i64 4)]) (v := (.string (bstr (putL c.yours.toNat 4)))) (hd.of (by omega) (kb2 (by omega))) rfl rfl rfl rfl rfl rfl rfl rfl (s41 4 c.yours.toNat (by have := (c.yours).isLt; omega) (by decide)) ?_
    intro n5 hn5
    refine OA.pure (dst := (some 39)) (v := (.string (((bstr (putL c.made 8)) ++ (bstr (putL c.mine.toNat 4))) ++ (bstr (putL c.yours.toNat 4))))) rfl rfl rfl (r_cat rfl rfl rfl (by (try simp only [ByteArray.size_append, bstr_size, size_lit, List.size_toArray, List.length_cons, List.length_nil, List.length_take, List.length_drop, List.length_replicate, be8_len, be4_len, be2_len, putL_len, hmr, hrn]); try omega)) ?_
    refine OA.pure (dst := (some 3)) (v := (.string (((bstr (putL c.made 8)) ++ (bstr (putL c.mine.toNat 4))) ++ (bstr (putL c.yours.toNat 4))))) rfl rfl rfl rfl ?_
    refine OA.nil ?_
    intro _
    refine RA.rebase [(0, (.agg ⟨(xCk11 c)⟩)), (1, (Pt n 0 0)), (2, (.string (ByteArray.mk #[]))), (3, (.string (((bstr (putL c.made 8)) ++ (bstr (putL c.mine.toNat 4))) ++ (bstr (putL c.yours.toNat 4))))), (4, (.slice (some ⟨n2, 0, none⟩) 6 0)), (5, (.int .i64 1)), (8, (.bool false)), (29, (.bool true))] ⟨rfl, rfl, rfl, rfl, rfl, rfl, rfl, rfl, trivial⟩ (fun τr6 => ?_)
    refine RA.region env_ok ?_
    refine OA.pure (dst := (some 30)) (v := (.int .i64 1)) rfl rfl rfl rfl ?_
    refine OA.pure (dst := (some 31)) (v := (.int .i64 2)) rfl rfl rfl (r_bin rfl rfl rfl (b_add (i64_eq (by omega)))) ?_
    refine OA.pure (dst := (some 5)) (v := (.int .i64 2)) rfl rfl rfl rfl ?_
    refine OA.nil ?_
    intro _
    refine RA.unroll hd ?_
    refine RA.seq hd ?_
    refine RA.seq hd ?_
    refine RA.region env_ok ?_
    refine OA.pure (dst := (some 26)) (v := (.int .i64 2)) rfl rfl rfl rfl ?_
    refine OA.pure (dst := (some 27)) (v := (.slice (some ⟨n2, 0, none⟩) 6 0)) rfl rfl rfl rfl ?_
    refine OA.pure (dst := (some 28)) (v := (.int .i64 6)) rfl rfl rfl rfl ?_
    refine OA.pure (dst := (some 29)) (v := (.bool true)) rfl rfl rfl (r_bin rfl rfl rfl (b_lss rfl)) ?_
    refine OA.nil ?_
    intro _
    refine RA.cond (t := true) rfl (fun hc => ?_) (fun hc => ?_)
    ·
     refine RA.skip env_ok ?_
     intro _
     refine RA.seq hd ?_
     refine RA.block ?_
     refine RA.region env_ok ?_
     refine OA.pure (dst := (some 32)) (v := (.string (((bstr (putL c.made 8)) ++ (bstr (putL c.mine.toNat 4))) ++ (bstr (putL c.yours.toNat 4))))) rfl rfl rfl rfl ?_
     refine OA.pure (dst := (some 33)) (v := (.slice (some ⟨n2, 0, none⟩) 6 0)) rfl rfl rfl rfl ?_
     refine OA.pure (dst := (some 34)) (v := (.int .i64 2)) rfl rfl rfl rfl ?_
     refine OA.pure (dst := (some 35)) (v := (Pt n2 2 0)) rfl rfl rfl (r_iaS (l := 2) rfl rfl rfl rfl rfl rfl (by omega) (by omega) get_here rfl (by omega)) ?_
     refine OA.pure (dst := (some 36)) (v := (W c.mt)) rfl rfl rfl (r_load1 rfl rfl rfl rfl rfl get_here rfl rfl) ?_
     refine OA.pure (dst := (some 37)) (v := (.int .u64 ((c.mt.toNat : Nat) : Int))) rfl rfl rfl (r_cvt rfl rfl rfl rfl rfl ⟨_, rfl⟩ (u64_eq (by have := (c.mt).isLt; omega))) ?_
     refine OA.callP (dst := (some 38)) (all := [(.int .u64 ((c.mt.toNat : Nat) : Int)), (.int .i64 4)]) (v := (.string (bstr (putL c.mt.toNat 4)))) (hd.of (by omega) (kb2 (by omega))) rfl rfl rfl rfl rfl rfl rfl rfl (s41 4 c.mt.toNat (by have := (c.mt).isLt; omega) (by decide)) ?_
     intro n7 hn7
     refine OA.pure (dst := (some 39)) (v := (.string ((((bstr (putL c.made 8)) ++ (bstr (putL c.mine.toNat 4))) ++ (bstr (putL c.yours.toNat 4))) ++ (bstr (putL c.mt.toNat 4))))) rfl rfl rfl (r_cat rfl rfl rfl (by (try simp only [ByteArray.size_append, bstr_size, size_lit, List.size_toArray, List.length_cons, List.length_nil, List.length_take, List.length_drop, List.length_replicate, be8_len, be4_len, be2_len, putL_len, hmr, hrn]); try omega)) ?_
     refine OA.pure (dst := (some 3)) (v := (.string ((((bstr (putL c.made 8)) ++ (bstr (putL c.mine.toNat 4))) ++ (bstr (putL c.yours.toNat 4))) ++ (bstr (putL c.mt.toNat 4))))) rfl rfl rfl rfl ?_
     refine OA.nil ?_
     intro _
     refine RA.region env_ok ?_
     refine OA.pure (dst := (some 30)) (v := (.int .i64 2)) rfl rfl rfl rfl ?_
     refine OA.pure (dst := (some 31)) (v := (.int .i64 3)) rfl rfl rfl (r_bin rfl rfl rfl (b_add (i64_eq (by omega)))) ?_
     refine OA.pure (dst := (some 5)) (v := (.int .i64 3)) rfl rfl rfl rfl ?_
     refine OA.nil ?_
     intro _
     refine RA.unroll hd ?_
     refine RA.seq hd ?_
     refine RA.seq hd ?_
     refine RA.region env_ok ?_
     refine OA.pure (dst := (some 26)) (v := (.int .i64 3)) rfl rfl rfl rfl ?_
     refine OA.pure (dst := (some 27)) (v := (.slice (some ⟨n2, 0, none⟩) 6 0)) rfl rfl rfl rfl ?_
     refine OA.pure (dst := (some 28)) (v := (.int .i64 6)) rfl rfl rfl rfl ?_
     refine OA.pure (dst := (some 29)) (v := (.bool true)) rfl rfl rfl (r_bin rfl rfl rfl (b_lss rfl)) ?_
     refine OA.nil ?_
     intro _
     refine RA.cond (t := true) rfl (fun hc => ?_) (fun hc => ?_)
     ·
      refine RA.skip env_ok ?_
      intro _
      refine RA.seq hd ?_
      refine RA.block ?_
      refine RA.region env_ok ?_
      refine OA.pure (dst := (some 32)) (v := (.string ((((bstr (putL c.made 8)) ++ (bstr (putL c.mine.toNat 4))) ++ (bstr (putL c.yours.toNat 4))) ++ (bstr (putL c.mt.toNat 4))))) rfl rfl rfl rfl ?_
      refine OA.pure (dst := (some 33)) (v := (.slice (some ⟨n2, 0, none⟩) 6 0)) rfl rfl rfl rfl ?_
      refine OA.pure (dst := (some 34)) (v := (.int .i64 3)) rfl rfl rfl rfl ?_
      refine OA.pure (dst := (some 35)) (v := (Pt n2 3 0)) rfl rfl rfl (r_iaS (l := 3) rfl rfl rfl rfl rfl rfl (by omega) (by omega) get_here rfl (by omega)) ?_
      refine OA.pure (dst := (some 36)) (v := (W c.yt)) rfl rfl rfl (r_load1 rfl rfl rfl rfl rfl get_here rfl rfl) ?_
      refine OA.pure (dst := (some 37)) (v := (.int .u64 ((c.yt.toNat : Nat) : Int))) rfl rfl rfl (r_cvt rfl rfl rfl rfl rfl ⟨_, rfl⟩ (u64_eq (by have := (c.yt).isLt; omega))) ?_
      refine OA.callP (dst := (some 38)) (all := [(.int .u64 ((c.yt.toNat : Nat) : Int)), (.int .i64 4)]) (v := (.string (bstr (putL c.yt.toNat 4)))) (hd.of (by omega) (kb2 (by omega))) rfl rfl rfl rfl rfl rfl rfl rfl (s41 4 c.yt.toNat (by have := (c.yt).isLt; omega) (by decide)) ?_
      intro n8 hn8
      refine OA.pure (dst := (some 39)) (v := (.string (((((bstr (putL c.made 8)) ++ (bstr (putL c.mine.toNat 4))) ++ (bstr (putL c.yours.toNat 4))) ++ (bstr (putL c.mt.toNat 4))) ++ (bstr (putL c.yt.toNat 4))))) rfl rfl rfl (r_cat rfl rfl rfl (by (try simp only [ByteArray.size_append, bstr_size, size_lit, List.size_toArray, List.length_cons, List.length_nil, List.length_take, List.length_drop, List.length_replicate, be8_len, be4_len, be2_len, putL_len, hmr, hrn]); try omega)) ?_
      refine OA.pure (dst := (some 3)) (v := (.string (((((bstr (putL c.made 8)) ++ (bstr (putL c.mine.toNat 4))) ++ (bstr (putL c.yours.toNat 4))) ++ (bstr (putL c.mt.toNat 4))) ++ (bstr (putL c.yt.toNat 4))))) rfl rfl rfl rfl ?_
      refine OA.nil ?_
      intro _
      refine RA.rebase [(0, (.agg ⟨(xCk11 c)⟩)), (1, (Pt n 0 0)), (2, (.string (ByteArray.mk #[]))), (3, (.string (((((bstr (putL c.made 8)) ++ (bstr (putL c.mine.toNat 4))) ++ (bstr (putL c.yours.toNat 4))) ++ (bstr (putL c.mt.toNat 4))) ++ (bstr (putL c.yt.toNat 4))))), (4, (.slice (some ⟨n2, 0, none⟩) 6 0)), (5, (.int .i64 3)), (8, (.bool false)), (29, (.bool true))] ⟨rfl, rfl, rfl, rfl, rfl, rfl, rfl, rfl, trivial⟩ (fun τr9 => ?_)
      refine RA.region env_ok ?_
      refine OA.pure (dst := (some 30)) (v := (.int .i64 3)) rfl rfl rfl rfl ?_
      refine OA.pure (dst := (some 31)) (v := (.int .i64 4)) rfl rfl rfl (r_bin rfl rfl rfl (b_add (i64_eq (by omega)))) ?_
      refine OA.pure (dst := (some 5)) (v := (.int .i64 4)) rfl rfl rfl rfl ?_
      refine OA.nil ?_
      intro _
      refine RA.unroll hd ?_
      refine RA.seq hd ?_
      refine RA.seq hd ?_
      refine RA.region env_ok ?_
      refine OA.pure (dst := (some 26)) (v := (.int .i64 4)) rfl rfl rfl rfl ?_
      refine OA.pure (dst := (some 27)) (v := (.slice (some ⟨n2, 0, none⟩) 6 0)) rfl rfl rfl rfl ?_
      refine OA.pure (dst := (some 28)) (v := (.int .i64 6)) rfl rfl rfl rfl ?_
      refine OA.pure (dst := (some 29)) (v := (.bool true)) rfl rfl rfl (r_bin rfl rfl rfl (b_lss rfl)) ?_
      refine OA.nil ?_
      intro _
      refine RA.cond (t := true) rfl (fun hc => ?_) (fun hc => ?_)
      ·
       refine RA.skip env_ok ?_
       intro _
       refine RA.seq hd ?_
       refine RA.block ?_
       refine RA.region env_ok ?_
       refine OA.pure (dst := (some 32)) (v := (.string (((((bstr (putL c.made 8)) ++ (bstr (putL c.mine.toNat 4))) ++ (bstr (putL c.yours.toNat 4))) ++ (bstr (putL c.mt.toNat 4))) ++ (bstr (putL c.yt.toNat 4))))) rfl rfl rfl rfl ?_
       refine OA.pure (dst := (some 33)) (v := (.slice (some ⟨n2, 0, none⟩) 6 0)) rfl rfl rfl rfl ?_
       refine OA.pure (dst := (some 34)) (v := (.int .i64 4)) rfl rfl rfl rfl ?_
       refine OA.pure (dst := (some 35)) (v := (Pt n2 4 0)) rfl rfl rfl (r_iaS (l := 4) rfl rfl rfl rfl rfl rfl (by omega) (by omega) get_here rfl (by omega)) ?_
       refine OA.pure (dst := (some 36)) (v := (W c.peer)) rfl rfl rfl (r_load1 rfl rfl rfl rfl rfl get_here rfl rfl) ?_
       refine OA.pure (dst := (some 37)) (v := (.int .u64 ((c.peer.toNat : Nat) : Int))) rfl rfl rfl (r_cvt rfl rfl rfl rfl rfl ⟨_, rfl⟩ (u64_eq (by have := (c.peer).isLt; omega))) ?_
       refine OA.callP (dst := (some 38)) (all := [(.int .u64 ((c.peer.toNat : Nat) : Int)), (.int .i64 4)]) (v := (.string (bstr (putL c.peer.toNat 4)))) (hd.of (by omega) (kb2 (by omega))) rfl rfl rfl rfl rfl rfl rfl rfl (s41 4 c.peer.toNat (by have := (c.peer).isLt; omega) (by decide)) ?_
       intro n10 hn10
       refine OA.pure (dst := (some 39)) (v := (.string ((((((bstr (putL c.made 8)) ++ (bstr (putL c.mine.toNat 4))) ++ (bstr (putL c.yours.toNat 4))) ++ (bstr (putL c.mt.toNat 4))) ++ (bstr (putL c.yt.toNat 4))) ++ (bstr (putL c.peer.toNat 4))))) rfl rfl rfl (r_cat rfl rfl rfl (by (try simp only [ByteArray.size_append, bstr_size, size_lit, List.size_toArray, List.length_cons, List.length_nil, List.length_take, List.length_drop, List.length_replicate, be8_len, be4_len, be2_len, putL_len, hmr, hrn]); try omega)) ?_
       refine OA.pure (dst := (some 3)) (v := (.string ((((((bstr (putL c.made 8)) ++ (bstr (putL c.mine.toNat 4))) ++ (bstr (putL c.yours.toNat 4))) ++ (bstr (putL c.mt.toNat 4))) ++ (bstr (putL c.yt.toNat 4))) ++ (bstr (putL c.peer.toNat 4))))) rfl rfl rfl rfl ?_
       refine OA.nil ?_
       intro _
       refine RA.region env_ok ?_
       refine OA.pure (dst := (some 30)) (v := (.int .i64 4)) rfl rfl rfl rfl ?_
       refine OA.pure (dst := (some 31)) (v := (.int .i64 5)) rfl rfl rfl (r_bin rfl rfl rfl (b_add (i64_eq (by omega)))) ?_
       refine OA.pure (dst := (some 5)) (v := (.int .i64 5)) rfl rfl rfl rfl ?_
       refine OA.nil ?_
       intro _
       refine RA.unroll hd ?_
       refine RA.seq hd ?_
       refine RA.seq hd ?_
       refine RA.region env_ok ?_
       refine OA.pure (dst := (some 26)) (v := (.int .i64 5)) rfl rfl rfl rfl ?_
       refine OA.pure (dst := (some 27)) (v := (.slice (some ⟨n2, 0, none⟩) 6 0)) rfl rfl rfl rfl ?_
       refine OA.pure (dst := (some 28)) (v := (.int .i64 6)) rfl rfl rfl rfl ?_
       refine OA.pure (dst := (some 29)) (v := (.bool true)) rfl rfl rfl (r_bin rfl rfl rfl (b_lss rfl)) ?_
       refine OA.nil ?_
       intro _
       refine RA.cond (t := true) rfl (fun hc => ?_) (fun hc => ?_)
       ·
        refine RA.skip env_ok ?_
        intro _
        refine RA.seq hd ?_
        refine RA.block ?_
        refine RA.region env_ok ?_
        refine OA.pure (dst := (some 32)) (v := (.string ((((((bstr (putL c.made 8)) ++ (bstr (putL c.mine.toNat 4))) ++ (bstr (putL c.yours.toNat 4))) ++ (bstr (putL c.mt.toNat 4))) ++ (bstr (putL c.yt.toNat 4))) ++ (bstr (putL c.peer.toNat 4))))) rfl rfl rfl rfl ?_
        refine OA.pure (dst := (some 33)) (v := (.slice (some ⟨n2, 0, none⟩) 6 0)) rfl rfl rfl rfl ?_
        refine OA.pure (dst := (some 34)) (v := (.int .i64 5)) rfl rfl rfl rfl ?_
        refine OA.pure (dst := (some 35)) (v := (Pt n2 5 0)) rfl rfl rfl (r_iaS (l := 5) rfl rfl rfl rfl rfl rfl (by omega) (by omega) get_here rfl (by omega)) ?_
        refine OA.pure (dst := (some 36)) (v := (W c.loc)) rfl rfl rfl (r_load1 rfl rfl rfl rfl rfl get_here rfl rfl) ?_
        refine OA.pure (dst := (some 37)) (v := (.int .u64 ((c.loc.toNat : Nat) : Int))) rfl rfl rfl (r_cvt rfl rfl rfl rfl rfl ⟨_, rfl⟩ (u64_eq (by have := (c.loc).isLt; omega))) ?_
        refine OA.callP (dst := (some 38)) (all := [(.int .u64 ((c.loc.toNat : Nat) : Int)), (.int .i64 4)]) (v := (.string (bstr (putL c.loc.toNat 4)))) (hd.of (by omega) (kb2 (by omega))) rfl rfl rfl rfl rfl rfl rfl rfl (s41 4 c.loc.toNat (by have := (c.loc).isLt; omega) (by decide)) ?_
        intro n11 hn11
        refine OA.pure (dst := (some 39)) (v := (.string (((((((bstr (putL c.made 8)) ++ (bstr (putL c.mine.toNat 4))) ++ (bstr (putL c.yours.toNat 4))) ++ (bstr (putL c.mt.toNat 4))) ++ (bstr (putL c.yt.toNat 4))) ++ (bstr (putL c.peer.toNat 4))) ++ (bstr (putL c.loc.toNat 4))))) rfl rfl rfl (r_cat rfl rfl rfl (by (try simp only [ByteArray.size_append, bstr_size, size_lit, List.size_toArray, List.length_cons, List.length_nil, List.length_take, List.length_drop, List.length_replicate, be8_len, be4_len, be2_len, putL_len, hmr, hrn]); try omega)) ?_
        refine OA.pure (dst := (some 3)) (v := (.string (((((((bstr (putL c.made 8)) ++ (bstr (putL c.mine.toNat 4))) ++ (bstr (putL c.yours.toNat 4))) ++ (bstr (putL c.mt.toNat 4))) ++ (bstr (putL c.yt.toNat 4))) ++ (bstr (putL c.peer.toNat 4))) ++ (bstr (putL c.loc.toNat 4))))) rfl rfl rfl rfl ?_
        refine OA.nil ?_
        intro _
        refine RA.rebase [(0, (.agg ⟨(xCk11 c)⟩)), (1, (Pt n 0 0)), (2, (.string (ByteArray.mk #[]))), (3, (.string (((((((bstr (putL c.made 8)) ++ (bstr (putL c.mine.toNat 4))) ++ (bstr (putL c.yours.toNat 4))) ++ (bstr (putL c.mt.toNat 4))) ++ (bstr (putL c.yt.toNat 4))) ++ (bstr (putL c.peer.toNat 4))) ++ (bstr (putL c.loc.toNat 4))))), (4, (.slice (some ⟨n2, 0, none⟩) 6 0)), (5, (.int .i64 5)), (8, (.bool false)), (29, (.bool true))] ⟨rfl, rfl, rfl, rfl, rfl, rfl, rfl, rfl, trivial⟩ (fun τr12 => ?_)
        refine RA.region env_ok ?_
        refine OA.pure (dst := (some 30)) (v := (.int .i64 5)) rfl rfl rfl rfl ?_
        refine OA.pure (dst := (some 31)) (v := (.int .i64 6)) rfl rfl rfl (r_bin rfl rfl rfl (b_add (i64_eq (by omega)))) ?_
        refine OA.pure (dst := (some 5)) (v := (.int .i64 6)) rfl rfl rfl rfl ?_
        refine OA.nil ?_
        intro _
        refine RA.unroll hd ?_
        refine RA.seq hd ?_
        refine RA.seq hd ?_
        refine RA.region env_ok ?_
        refine OA.pure (dst := (some 26)) (v := (.int .i64 6)) rfl rfl rfl rfl ?_
        refine OA.pure (dst := (some 27)) (v := (.slice (some ⟨n2, 0, none⟩) 6 0)) rfl rfl rfl rfl ?_
        refine OA.pure (dst := (some 28)) (v := (.int .i64 6)) rfl rfl rfl rfl ?_
        refine OA.pure (dst := (some 29)) (v := (.bool false)) rfl rfl rfl (r_bin rfl rfl rfl (b_lss rfl)) ?_
        refine OA.nil ?_
        intro _
        refine RA.cond (t := false) rfl (fun hc => ?_) (fun hc => ?_)
        · cases hc
        ·
         refine RA.exit env_ok ?_
         intro _
         refine RA.seq hd ?_
         refine RA.par (md := [some [], some [], some [n], some [], some [], some [], some [n], some [], some [], some [], some [], some [n], some [], some [], some [], some [], some [n], some [], some [], some [], some [], some [n], some [], some [], some [], some [], some []]) env_ok (hd.of (by omega) (kb2 (by omega))) (by kernel_rfl) ?_
         refine PQ.pure (dst := (some 40)) (v := (.string (((((((bstr (putL c.made 8)) ++ (bstr (putL c.mine.toNat 4))) ++ (bstr (putL c.yours.toNat 4))) ++ (bstr (putL c.mt.toNat 4))) ++ (bstr (putL c.yt.toNat 4))) ++ (bstr (putL c.peer.toNat 4))) ++ (bstr (putL c.loc.toNat 4))))) rfl rfl rfl noStore (none_ok _ _) rfl ?_
         refine PQ.pure (dst := (some 41)) (v := (Pt n 0 7)) rfl rfl rfl noStore (none_ok _ _) rfl ?_
         refine PQ.pure (dst := (some 42)) (v := (.int .i64 ((c.pp : Nat) : Int))) rfl rfl rfl (app [(n, some ⟨[(xCk11 c)], 16, 35, true⟩)] noStore) (seen_one (V := []) (D := [(n2, some ⟨[[(W c.mine)], [(W c.yours)], [(W c.mt)], [(W c.yt)], [(W c.peer)], [(W c.loc)]], 1, 32, true⟩), (n, some ⟨[(xCk11 c)], 16, 35, true⟩)]) (by kernel_rfl) (get_there (by omega) get_here)) (r_load1 rfl rfl rfl rfl rfl get_here rfl rfl) ?_
         refine PQ.pure (dst := (some 43)) (v := (.int .u64 ((c.pp : Nat) : Int))) rfl rfl rfl noStore (none_ok _ _) (r_cvt rfl rfl rfl rfl rfl ⟨_, rfl⟩ (u64_eq (by omega))) ?_
         refine PQ.callP (dst := (some 44)) (all := [(.int .u64 ((c.pp : Nat) : Int)), (.int .i64 2)]) (v := (.string (bstr (putL c.pp 2)))) noStore (dom_none _) rfl rfl rfl rfl rfl rfl rfl rfl (none_ok _ _) (s41 2 c.pp (by first | omega | (unfold MayN at h; omega)) (by decide)) ?_
         intro n13 hn13
         refine PQ.pure (dst := (some 45)) (v := (Pt n 0 8)) rfl rfl rfl noStore (none_ok _ _) rfl ?_
         refine PQ.pure (dst := (some 46)) (v := (.int .i64 ((c.mp : Nat) : Int))) rfl rfl rfl (app [(n, some ⟨[(xCk11 c)], 16, 35, true⟩)] noStore) (seen_one (V := []) (D := [(n2, some ⟨[[(W c.mine)], [(W c.yours)], [(W c.mt)], [(W c.yt)], [(W c.peer)], [(W c.loc)]], 1, 32, true⟩), (n, some ⟨[(xCk11 c)], 16, 35, true⟩)]) (by kernel_rfl) (get_there (by omega) get_here)) (r_load1 rfl rfl rfl rfl rfl get_here rfl rfl) ?_
         refine PQ.pure (dst := (some 47)) (v := (.int .u64 ((c.mp : Nat) : Int))) rfl rfl rfl noStore (none_ok _ _) (r_cvt rfl rfl rfl rfl rfl ⟨_, rfl⟩ (u64_eq (by omega))) ?_
         refine PQ.callP (dst := (some 48)) (all := [(.int .u64 ((c.mp : Nat) : Int)), (.int .i64 2)]) (v := (.string (bstr (putL c.mp 2)))) noStore (dom_none _) rfl rfl rfl rfl rfl rfl rfl rfl (none_ok _ _) (s41 2 c.mp (by first | omega | (unfold MayN at h; omega)) (by decide)) ?_
         intro n14 hn14
         refine PQ.pure (dst := (some 49)) (v := (.string ((bstr (putL c.pp 2)) ++ (bstr (putL c.mp 2))))) rfl rfl rfl noStore (none_ok _ _) (r_cat rfl rfl rfl (by (try simp only [ByteArray.size_append, bstr_size, size_lit, List.size_toArray, List.length_cons, List.length_nil, List.length_take, List.length_drop, List.length_replicate, be8_len, be4_len, be2_len, putL_len, hmr, hrn]); try omega)) ?_
         refine PQ.pure (dst := (some 50)) (v := (Pt n 0 9)) rfl rfl rfl noStore (none_ok _ _) rfl ?_
         refine PQ.pure (dst := (some 51)) (v := (W c.rwnd)) rfl rfl rfl (app [(n, some ⟨[(xCk11 c)], 16, 35, true⟩)] noStore) (seen_one (V := []) (D := [(n2, some ⟨[[(W c.mine)], [(W c.yours)], [(W c.mt)], [(W c.yt)], [(W c.peer)], [(W c.loc)]], 1, 32, true⟩), (n, some ⟨[(xCk11 c)], 16, 35, true⟩)]) (by kernel_rfl) (get_there (by omega) get_here)) (r_load1 rfl rfl rfl rfl rfl get_here rfl rfl) ?_
         refine PQ.pure (dst := (some 52)) (v := (.int .u64 ((c.rwnd.toNat : Nat) : Int))) rfl rfl rfl noStore (none_ok _ _) (r_cvt rfl rfl rfl rfl rfl ⟨_, rfl⟩ (u64_eq (by have := (c.rwnd).isLt; omega))) ?_
         refine PQ.callP (dst := (some 53)) (all := [(.int .u64 ((c.rwnd.toNat : Nat) : Int)), (.int .i64 4)]) (v := (.string (bstr (putL c.rwnd.toNat 4)))) noStore (dom_none _) rfl rfl rfl rfl rfl rfl rfl rfl (none_ok _ _) (s41 4 c.rwnd.toNat (by have := (c.rwnd).isLt; omega) (by decide)) ?_
         intro n15 hn15
         refine PQ.pure (dst := (some 54)) (v := (.string (((bstr (putL c.pp 2)) ++ (bstr (putL c.mp 2))) ++ (bstr (putL c.rwnd.toNat 4))))) rfl rfl rfl noStore (none_ok _ _) (r_cat rfl rfl rfl (by (try simp only [ByteArray.size_append, bstr_size, size_lit, List.size_toArray, List.length_cons, List.length_nil, List.length_take, List.length_drop, List.length_replicate, be8_len, be4_len, be2_len, putL_len, hmr, hrn]); try omega)) ?_
         refine PQ.pure (dst := (some 55)) (v := (Pt n 0 10)) rfl rfl rfl noStore (none_ok _ _) rfl ?_
         refine PQ.pure (dst := (some 56)) (v := (.int .i64 ((c.ou : Nat) : Int))) rfl rfl rfl (app [(n, some ⟨[(xCk11 c)], 16, 35, true⟩)] noStore) (seen_one (V := []) (D := [(n2, some ⟨[[(W c.mine)], [(W c.yours)], [(W c.mt)], [(W c.yt)], [(W c.peer)], [(W c.loc)]], 1, 32, true⟩), (n, some ⟨[(xCk11 c)], 16, 35, true⟩)]) (by kernel_rfl) (get_there (by omega) get_here)) (r_load1 rfl rfl rfl rfl rfl get_here rfl rfl) ?_
         refine PQ.pure (dst := (some 57)) (v := (.int .u64 ((c.ou : Nat) : Int))) rfl rfl rfl noStore (none_ok _ _) (r_cvt rfl rfl rfl rfl rfl ⟨_, rfl⟩ (u64_eq (by omega))) ?_
         refine PQ.callP (dst := (some 58)) (all := [(.int .u64 ((c.ou : Nat) : Int)), (.int .i64 2)]) (v := (.string (bstr (putL c.ou 2)))) noStore (dom_none _) rfl rfl rfl rfl rfl rfl rfl rfl (none_ok _ _) (s41 2 c.ou (by first | omega | (unfold MayN at h; omega)) (by decide)) ?_
         intro n16 hn16
         refine PQ.pure (dst := (some 59)) (v := (.string ((((bstr (putL c.pp 2)) ++ (bstr (putL c.mp 2))) ++ (bstr (putL c.rwnd.toNat 4))) ++ (bstr (putL c.ou 2))))) rfl rfl rfl noStore (none_ok _ _) (r_cat rfl rfl rfl (by (try simp only [ByteArray.size_append, bstr_size, size_lit, List.size_toArray, List.length_cons, List.length_nil, List.length_take, List.length_drop, List.length_replicate, be8_len, be4_len, be2_len, putL_len, hmr, hrn]); try omega)) ?_
         refine PQ.pure (dst := (some 60)) (v := (Pt n 0 11)) rfl rfl rfl noStore (none_ok _ _) rfl ?_
         refine PQ.pure (dst := (some 61)) (v := (.int .i64 ((c.inn : Nat) : Int))) rfl rfl rfl (app [(n, some ⟨[(xCk11 c)], 16, 35, true⟩)] noStore) (seen_one (V := []) (D := [(n2, some ⟨[[(W c.mine)], [(W c.yours)], [(W c.mt)], [(W c.yt)], [(W c.peer)], [(W c.loc)]], 1, 32, true⟩), (n, some ⟨[(xCk11 c)], 16, 35, true⟩)]) (by kernel_rfl) (get_there (by omega) get_here)) (r_load1 rfl rfl rfl rfl rfl get_here rfl rfl) ?_
         refine PQ.pure (dst := (some 62)) (v := (.int .u64 ((c.inn : Nat) : Int))) rfl rfl rfl noStore (none_ok _ _) (r_cvt rfl rfl rfl rfl rfl ⟨_, rfl⟩ (u64_eq (by omega))) ?_
         refine PQ.callP (dst := (some 63)) (all := [(.int .u64 ((c.inn : Nat) : Int)), (.int .i64 2)]) (v := (.string (bstr (putL c.inn 2)))) noStore (dom_none _) rfl rfl rfl rfl rfl rfl rfl rfl (none_ok _ _) (s41 2 c.inn (by first | omega | (unfold MayN at h; omega)) (by decide)) ?_
         intro n17 hn17
         refine PQ.pure (dst := (some 64)) (v := (.string (((((bstr (putL c.pp 2)) ++ (bstr (putL c.mp 2))) ++ (bstr (putL c.rwnd.toNat 4))) ++ (bstr (putL c.ou 2))) ++ (bstr (putL c.inn 2))))) rfl rfl rfl noStore (none_ok _ _) (r_cat rfl rfl rfl (by (try simp only [ByteArray.size_append, bstr_size, size_lit, List.size_toArray, List.length_cons, List.length_nil, List.length_take, List.length_drop, List.length_replicate, be8_len, be4_len, be2_len, putL_len, hmr, hrn]); try omega)) ?_
         refine PQ.pure (dst := (some 65)) (v := (.string ((((((((bstr (putL c.made 8)) ++ (bstr (putL c.mine.toNat 4))) ++ (bstr (putL c.yours.toNat 4))) ++ (bstr (putL c.mt.toNat 4))) ++ (bstr (putL c.yt.toNat 4))) ++ (bstr (putL c.peer.toNat 4))) ++ (bstr (putL c.loc.toNat 4))) ++ (((((bstr (putL c.pp 2)) ++ (bstr (putL c.mp 2))) ++ (bstr (putL c.rwnd.toNat 4))) ++ (bstr (putL c.ou 2))) ++ (bstr (putL c.inn 2)))))) rfl rfl rfl noStore (none_ok _ _) (r_cat rfl rfl rfl (by (try simp only [ByteArray.size_append, bstr_size, size_lit, List.size_toArray, List.length_cons, List.length_nil, List.length_take, List.length_drop, List.length_replicate, be8_len, be4_len, be2_len, putL_len, hmr, hrn]); try omega)) ?_
         refine PQ.pure (dst := (some 3)) (v := (.string ((((((((bstr (putL c.made 8)) ++ (bstr (putL c.mine.toNat 4))) ++ (bstr (putL c.yours.toNat 4))) ++ (bstr (putL c.mt.toNat 4))) ++ (bstr (putL c.yt.toNat 4))) ++ (bstr (putL c.peer.toNat 4))) ++ (bstr (putL c.loc.toNat 4))) ++ (((((bstr (putL c.pp 2)) ++ (bstr (putL c.mp 2))) ++ (bstr (putL c.rwnd.toNat 4))) ++ (bstr (putL c.ou 2))) ++ (bstr (putL c.inn 2)))))) rfl rfl rfl noStore (none_ok _ _) rfl ?_
         refine PQ.done (d := []) (by kernel_rfl) ?_
         intro _
         refine RA.rebase [(0, (.agg ⟨(xCk11 c)⟩)), (1, (Pt n 0 0)), (2, (.string (ByteArray.mk #[]))), (3, (.string ((((((((bstr (putL c.made 8)) ++ (bstr (putL c.mine.toNat 4))) ++ (bstr (putL c.yours.toNat 4))) ++ (bstr (putL c.mt.toNat 4))) ++ (bstr (putL c.yt.toNat 4))) ++ (bstr (putL c.peer.toNat 4))) ++ (bstr (putL c.loc.toNat 4))) ++ (((((bstr (putL c.pp 2)) ++ (bstr (putL c.mp 2))) ++ (bstr (putL c.rwnd.toNat 4))) ++ (bstr (putL c.ou 2))) ++ (bstr (putL c.inn 2)))))), (4, (.slice (some ⟨n2, 0, none⟩) 6 0)), (5, (.int .i64 6)), (8, (.bool false)), (29, (.bool false))] ⟨rfl, rfl, rfl, rfl, rfl, rfl, rfl, rfl, trivial⟩ (fun τr18 => ?_)
         refine RA.seq hd ?_
         refine RA.par (md := [some [], some [], some [n], some [], some [], some [], some [], some [n], some [], some [], some [], some [], some [n], some [], some [], some [n], some [], some []]) env_ok (hd.of (by omega) (kb2 (by omega))) (by kernel_rfl) ?_
         refine PQ.pure (dst := (some 66)) (v := (.string ((((((((bstr (putL c.made 8)) ++ (bstr (putL c.mine.toNat 4))) ++ (bstr (putL c.yours.toNat 4))) ++ (bstr (putL c.mt.toNat 4))) ++ (bstr (putL c.yt.toNat 4))) ++ (bstr (putL c.peer.toNat 4))) ++ (bstr (putL c.loc.toNat 4))) ++ (((((bstr (putL c.pp 2)) ++ (bstr (putL c.mp 2))) ++ (bstr (putL c.rwnd.toNat 4))) ++ (bstr (putL c.ou 2))) ++ (bstr (putL c.inn 2)))))) rfl rfl rfl noStore (none_ok _ _) rfl ?_
         refine PQ.pure (dst := (some 67)) (v := (Pt n 0 12)) rfl rfl rfl noStore (none_ok _ _) rfl ?_
         refine PQ.pure (dst := (some 68)) (v := (W c.tm)) rfl rfl rfl (app [(n, some ⟨[(xCk11 c)], 16, 35, true⟩)] noStore) (seen_one (V := []) (D := [(n2, some ⟨[[(W c.mine)], [(W c.yours)], [(W c.mt)], [(W c.yt)], [(W c.peer)], [(W c.loc)]], 1, 32, true⟩), (n, some ⟨[(xCk11 c)], 16, 35, true⟩)]) (by kernel_rfl) (get_there (by omega) get_here)) (r_load1 rfl rfl rfl rfl rfl get_here rfl rfl) ?_
         refine PQ.pure (dst := (some 69)) (v := (.int .u64 ((c.tm.toNat : Nat) : Int))) rfl rfl rfl noStore (none_ok _ _) (r_cvt rfl rfl rfl rfl rfl ⟨_, rfl⟩ (u64_eq (by have := (c.tm).isLt; omega))) ?_
         refine PQ.callP (dst := (some 70)) (all := [(.int .u64 ((c.tm.toNat : Nat) : Int)), (.int .i64 4)]) (v := (.string (bstr (putL c.tm.toNat 4)))) noStore (dom_none _) rfl rfl rfl rfl rfl rfl rfl rfl (none_ok _ _) (s41 4 c.tm.toNat (by have := (c.tm).isLt; omega) (by decide)) ?_
         intro n19 hn19
         refine PQ.pure (dst := (some 71)) (v := (.string (((((((((bstr (putL c.made 8)) ++ (bstr (putL c.mine.toNat 4))) ++ (bstr (putL c.yours.toNat 4))) ++ (bstr (putL c.mt.toNat 4))) ++ (bstr (putL c.yt.toNat 4))) ++ (bstr (putL c.peer.toNat 4))) ++ (bstr (putL c.loc.toNat 4))) ++ (((((bstr (putL c.pp 2)) ++ (bstr (putL c.mp 2))) ++ (bstr (putL c.rwnd.toNat 4))) ++ (bstr (putL c.ou 2))) ++ (bstr (putL c.inn 2)))) ++ (bstr (putL c.tm.toNat 4))))) rfl rfl rfl noStore (none_ok _ _) (r_cat rfl rfl rfl (by (try simp only [ByteArray.size_append, bstr_size, size_lit, List.size_toArray, List.length_cons, List.length_nil, List.length_take, List.length_drop, List.length_replicate, be8_len, be4_len, be2_len, putL_len, hmr, hrn]); try omega)) ?_
         refine PQ.pure (dst := (some 72)) (v := (Pt n 0 13)) rfl rfl rfl noStore (none_ok _ _) rfl ?_
         refine PQ.pure (dst := (some 73)) (v := (W c.ty)) rfl rfl rfl (app [(n, some ⟨[(xCk11 c)], 16, 35, true⟩)] noStore) (seen_one (V := []) (D := [(n2, some ⟨[[(W c.mine)], [(W c.yours)], [(W c.mt)], [(W c.yt)], [(W c.peer)], [(W c.loc)]], 1, 32, true⟩), (n, some ⟨[(xCk11 c)], 16, 35, true⟩)]) (by kernel_rfl) (get_there (by omega) get_here)) (r_load1 rfl rfl rfl rfl rfl get_here rfl rfl) ?_
         refine PQ.pure (dst := (some 74)) (v := (.int .u64 ((c.ty.toNat : Nat) : Int))) rfl rfl rfl noStore (none_ok _ _) (r_cvt rfl rfl rfl rfl rfl ⟨_, rfl⟩ (u64_eq (by have := (c.ty).isLt; omega))) ?_
         refine PQ.callP (dst := (some 75)) (all := [(.int .u64 ((c.ty.toNat : Nat) : Int)), (.int .i64 4)]) (v := (.string (bstr (putL c.ty.toNat 4)))) noStore (dom_none _) rfl rfl rfl rfl rfl rfl rfl rfl (none_ok _ _) (s41 4 c.ty.toNat (by have := (c.ty).isLt; omega) (by decide)) ?_
         intro n20 hn20
         refine PQ.pure (dst := (some 76)) (v := (.string ((((((((((bstr (putL c.made 8)) ++ (bstr (putL c.mine.toNat 4))) ++ (bstr (putL c.yours.toNat 4))) ++ (bstr (putL c.mt.toNat 4))) ++ (bstr (putL c.yt.toNat 4))) ++ (bstr (putL c.peer.toNat 4))) ++ (bstr (putL c.loc.toNat 4))) ++ (((((bstr (putL c.pp 2)) ++ (bstr (putL c.mp 2))) ++ (bstr (putL c.rwnd.toNat 4))) ++ (bstr (putL c.ou 2))) ++ (bstr (putL c.inn 2)))) ++ (bstr (putL c.tm.toNat 4))) ++ (bstr (putL c.ty.toNat 4))))) rfl rfl rfl noStore (none_ok _ _) (r_cat rfl rfl rfl (by (try simp only [ByteArray.size_append, bstr_size, size_lit, List.size_toArray, List.length_cons, List.length_nil, List.length_take, List.length_drop, List.length_replicate, be8_len, be4_len, be2_len, putL_len, hmr, hrn]); try omega)) ?_
         refine PQ.pure (dst := (some 77)) (v := (Pt n 0 14)) rfl rfl rfl noStore (none_ok _ _) rfl ?_
         refine PQ.pure (dst := (some 78)) (v := (.string c.mr)) rfl rfl rfl (app [(n, some ⟨[(xCk11 c)], 16, 35, true⟩)] noStore) (seen_one (V := []) (D := [(n2, some ⟨[[(W c.mine)], [(W c.yours)], [(W c.mt)], [(W c.yt)], [(W c.peer)], [(W c.loc)]], 1, 32, true⟩), (n, some ⟨[(xCk11 c)], 16, 35, true⟩)]) (by kernel_rfl) (get_there (by omega) get_here)) (r_load1 rfl rfl rfl rfl rfl get_here rfl rfl) ?_
         refine PQ.pure (dst := (some 79)) (v := (.string (((((((((((bstr (putL c.made 8)) ++ (bstr (putL c.mine.toNat 4))) ++ (bstr (putL c.yours.toNat 4))) ++ (bstr (putL c.mt.toNat 4))) ++ (bstr (putL c.yt.toNat 4))) ++ (bstr (putL c.peer.toNat 4))) ++ (bstr (putL c.loc.toNat 4))) ++ (((((bstr (putL c.pp 2)) ++ (bstr (putL c.mp 2))) ++ (bstr (putL c.rwnd.toNat 4))) ++ (bstr (putL c.ou 2))) ++ (bstr (putL c.inn 2)))) ++ (bstr (putL c.tm.toNat 4))) ++ (bstr (putL c.ty.toNat 4))) ++ c.mr))) rfl rfl rfl noStore (none_ok _ _) (r_cat rfl rfl rfl (by (try simp only [ByteArray.size_append, bstr_size, size_lit, List.size_toArray, List.length_cons, List.length_nil, List.length_take, List.length_drop, List.length_replicate, be8_len, be4_len, be2_len, putL_len, hmr, hrn]); try omega)) ?_
         refine PQ.pure (dst := (some 80)) (v := (Pt n 0 15)) rfl rfl rfl noStore (none_ok _ _) rfl ?_
         refine PQ.pure (dst := (some 81)) (v := (.string c.rn)) rfl rfl rfl (app [(n, some ⟨[(xCk11 c)], 16, 35, true⟩)] noStore) (seen_one (V := []) (D := [(n2, some ⟨[[(W c.mine)], [(W c.yours)], [(W c.mt)], [(W c.yt)], [(W c.peer)], [(W c.loc)]], 1, 32, true⟩), (n, some ⟨[(xCk11 c)], 16, 35, true⟩)]) (by kernel_rfl) (get_there (by omega) get_here)) (r_load1 rfl rfl rfl rfl rfl get_here rfl rfl) ?_
         refine PQ.pure (dst := (some 82)) (v := (.string ((((((((((((bstr (putL c.made 8)) ++ (bstr (putL c.mine.toNat 4))) ++ (bstr (putL c.yours.toNat 4))) ++ (bstr (putL c.mt.toNat 4))) ++ (bstr (putL c.yt.toNat 4))) ++ (bstr (putL c.peer.toNat 4))) ++ (bstr (putL c.loc.toNat 4))) ++ (((((bstr (putL c.pp 2)) ++ (bstr (putL c.mp 2))) ++ (bstr (putL c.rwnd.toNat 4))) ++ (bstr (putL c.ou 2))) ++ (bstr (putL c.inn 2)))) ++ (bstr (putL c.tm.toNat 4))) ++ (bstr (putL c.ty.toNat 4))) ++ c.mr) ++ c.rn))) rfl rfl rfl noStore (none_ok _ _) (r_cat rfl rfl rfl (by (try simp only [ByteArray.size_append, bstr_size, size_lit, List.size_toArray, List.length_cons, List.length_nil, List.length_take, List.length_drop, List.length_replicate, be8_len, be4_len, be2_len, putL_len, hmr, hrn]); try omega)) ?_
         refine PQ.pure (dst := (some 2)) (v := (.string ((((((((((((bstr (putL c.made 8)) ++ (bstr (putL c.mine.toNat 4))) ++ (bstr (putL c.yours.toNat 4))) ++ (bstr (putL c.mt.toNat 4))) ++ (bstr (putL c.yt.toNat 4))) ++ (bstr (putL c.peer.toNat 4))) ++ (bstr (putL c.loc.toNat 4))) ++ (((((bstr (putL c.pp 2)) ++ (bstr (putL c.mp 2))) ++ (bstr (putL c.rwnd.toNat 4))) ++ (bstr (putL c.ou 2))) ++ (bstr (putL c.inn 2)))) ++ (bstr (putL c.tm.toNat 4))) ++ (bstr (putL c.ty.toNat 4))) ++ c.mr) ++ c.rn))) rfl rfl rfl noStore (none_ok _ _) rfl ?_
         refine PQ.done (d := []) (by kernel_rfl) ?_
         intro _
         refine RA.ret env_ok ?_
         refine ⟨.inr rfl, [(.string ((((((((((((bstr (putL c.made 8)) ++ (bstr (putL c.mine.toNat 4))) ++ (bstr (putL c.yours.toNat 4))) ++ (bstr (putL c.mt.toNat 4))) ++ (bstr (putL c.yt.toNat 4))) ++ (bstr (putL c.peer.toNat 4))) ++ (bstr (putL c.loc.toNat 4))) ++ (((((bstr (putL c.pp 2)) ++ (bstr (putL c.mp 2))) ++ (bstr (putL c.rwnd.toNat 4))) ++ (bstr (putL c.ou 2))) ++ (bstr (putL c.inn 2)))) ++ (bstr (putL c.tm.toNat 4))) ++ (bstr (putL c.ty.toNat 4))) ++ c.mr) ++ c.rn))], (resL_cons rfl resL_nil), (by rw [one]; refine congrArg Value.string (L_ext ?_); simp only [L_append, L_bstr, ckB, List.append_assoc, putL_8, putL_4, putL_2, ofNat_toNat32]), (kc2 (by omega))⟩
       · cases hc
      · cases hc
     · cases hc
    · cases hc
   · cases hc
  · cases hc

theorem s25Z {σ : Store} (c : CkI) (h : ¬ MayI c)   : PS Try.prog noDen 25 [(.agg ⟨[(.int .i64 c.made), (W c.mine), (W c.yours), (W c.mt), (W c.yt), (W c.peer), (W c.loc), (.int .i64 c.pp), (.int .i64 c.mp), (W c.rwnd), (.int .i64 c.ou), (.int .i64 c.inn), (W c.tm), (W c.ty), (.string c.mr), (.string c.rn)]⟩)] σ (.string (ByteArray.mk #[])) := by
 refine PS.body (E := env) env_ok rfl rfl (by show _ ≤ _; exact of_decide_eq_true (by kernel_rfl)) (fun n hd => ?_)
 refine RA.seq hd ?_
 refine RA.region env_ok ?_
 refine OA.op1 (dst := (some 1)) (v := (Pt n 0 0)) (n1 := (n + 1)) (w := (n, some ⟨[(xCk12 c)], 16, 35, true⟩)) rfl rfl rfl rfl (by omega) ?_
 refine OA.pure (dst := (some 2)) (v := (.string (ByteArray.mk #[]))) rfl rfl rfl rfl ?_
 refine OA.nil ?_
 intro _
 refine RA.seq hd ?_
 refine RA.seq hd ?_
 refine RA.region env_ok ?_
 refine OA.pure (dst := (some 4)) (v := (.agg ⟨(xCk12 c)⟩)) rfl rfl rfl (r_loadA rfl rfl rfl rfl get_here rfl rfl rfl) ?_
 refine OA.callP (dst := (some 5)) (all := [(.agg ⟨(xCk12 c)⟩)]) (v := (.bool false)) (hd.of (by omega) (kb1 (by omega))) rfl rfl rfl rfl rfl rfl rfl rfl (s27Z c h) ?_
 intro n1 hn1
 refine OA.pure (dst := (some 6)) (v := (.bool true)) rfl rfl rfl rfl ?_
 refine OA.nil ?_
 intro _
 refine RA.cond (t := true) rfl (fun hc => ?_) (fun hc => ?_)
 ·
  refine RA.seq hd ?_
  refine RA.region env_ok ?_
  refine OA.pure (dst := (some 2)) (v := (.string (ByteArray.mk #[]))) rfl rfl rfl rfl ?_
  refine OA.nil ?_
  intro _
  refine RA.ret env_ok ?_
  refine ⟨.inr rfl, [(.string (ByteArray.mk #[]))], (resL_cons rfl resL_nil), rfl, (kc1 (by omega))⟩
 · cases hc

theorem s26Z {σ : Store} (c : CkI) (h : ¬ MayI c)   : PS Try.prog noDen 26 [(.agg ⟨[(.int .i64 c.made), (W c.mine), (W c.yours), (W c.mt), (W c.yt), (W c.peer), (W c.loc), (.int .i64 c.pp), (.int .i64 c.mp), (W c.rwnd), (.int .i64 c.ou), (.int .i64 c.inn), (W c.tm), (W c.ty), (.string c.mr), (.string c.rn)]⟩)] σ (.string (ByteArray.mk #[])) := by
 refine PS.body (E := env) env_ok rfl rfl (by show _ ≤ _; exact of_decide_eq_true (by kernel_rfl)) (fun n hd => ?_)
 refine RA.seq hd ?_
 refine RA.region env_ok ?_
 refine OA.op1 (dst := (some 1)) (v := (Pt n 0 0)) (n1 := (n + 1)) (w := (n, some ⟨[(xCk12 c)], 16, 35, true⟩)) rfl rfl rfl rfl (by omega) ?_
 refine OA.pure (dst := (some 2)) (v := (.string (ByteArray.mk #[]))) rfl rfl rfl rfl ?_
 refine OA.nil ?_
 intro _
 refine RA.seq hd ?_
 refine RA.seq hd ?_
 refine RA.region env_ok ?_
 refine OA.pure (dst := (some 6)) (v := (.agg ⟨(xCk12 c)⟩)) rfl rfl rfl (r_loadA rfl rfl rfl rfl get_here rfl rfl rfl) ?_
 refine OA.callP (dst := (some 7)) (all := [(.agg ⟨(xCk12 c)⟩)]) (v := (.bool false)) (hd.of (by omega) (kb1 (by omega))) rfl rfl rfl rfl rfl rfl rfl rfl (s29Z c h) ?_
 intro n1 hn1
 refine OA.pure (dst := (some 8)) (v := (.bool true)) rfl rfl rfl rfl ?_
 refine OA.nil ?_
 intro _
 refine RA.cond (t := true) rfl (fun hc => ?_) (fun hc => ?_)
 ·
  refine RA.seq hd ?_
  refine RA.region env_ok ?_
  refine OA.pure (dst := (some 2)) (v := (.string (ByteArray.mk #[]))) rfl rfl rfl rfl ?_
  refine OA.nil ?_
  intro _
  refine RA.ret env_ok ?_
  refine ⟨.inr rfl, [(.string (ByteArray.mk #[]))], (resL_cons rfl resL_nil), rfl, (kc1 (by omega))⟩
 · cases hc
end Go.Proofs.Ytdnkhdkflemkeaa.Vt
