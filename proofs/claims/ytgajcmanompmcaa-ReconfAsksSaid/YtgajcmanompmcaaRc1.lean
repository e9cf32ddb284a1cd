/- Rc1: walks through functions of the program, by the calculus; written by a program of this workplace. -/
import Derived.Test.YtgajcmanompmcaaRp
import Derived.Test.YtgajcmanompmcaaVm5
namespace Go.Proofs.Ytgajcmanompmcaa.Vt
open Go Go.Proofs Go.Proofs.YtgajcmanompmcaaV
set_option maxRecDepth 100000
set_option linter.unusedVariables false
set_option linter.unusedSimpArgs false
structure I1 where
  z : Int
deriving DecidableEq
def dI1 : I1 := ⟨0⟩
abbrev cI1 (e : I1) : List Value := [(.int .i64 e.z)]
abbrev oI1 (l : List I1) : AObj := ⟨l.map cI1, 1, 3, true⟩
theorem w_ne (x : BitVec 32) : ¬ ((x.toNat : Int) = ((x - 1#32).toNat : Int)) := by
  intro h
  rw [BitVec.toNat_sub] at h
  have := x.isLt
  simp at h
  omega
theorem w_eq {x y : BitVec 32} (h : (x.toNat : Int) = (y.toNat : Int)) : x = y := BitVec.eq_of_toNat_eq (by omega)
theorem res_eq (a b : BitVec 32) : bstr (putL a.toNat 4) ++ bstr (putL b.toNat 4) = resV a b := by
  have h : ∀ x : BitVec 32, putL x.toNat 4 = be4 x := fun x => by
    have h1 := beN_putL 4 x.toNat x.isLt
    exact beN_inj 4 _ _ (putL_len 4 _) rfl (h1.trans (beN_be4 x).symm)
  rw [h, h]; rfl
theorem more_eq (a : BitVec 32) (m : Nat) (hm : m < 65536) : bstr (putL a.toNat 4) ++ bstr (putL m 2) ++ ByteArray.mk #[0, 0] = moreV a m := by
  have h : putL a.toNat 4 = be4 a := beN_inj 4 _ _ (putL_len 4 _) rfl ((beN_putL 4 a.toNat a.isLt).trans (beN_be4 a).symm)
  have h2 : putL m 2 = be2 m := beN_inj 2 _ _ (putL_len 2 _) rfl ((beN_putL 2 m hm).trans (beN_be2 m hm).symm)
  rw [h, h2]
  unfold moreV
  apply L_ext
  simp only [L_append, L_bstr]
  rfl
abbrev xRc11 (id : BitVec 32) (in5 : Nat) : List Value := [(.int .i64 130), (.int .i64 0), (W id), (.int .i64 0), (.int .i64 0), (.int .u32 0), (.string ByteArray.empty), (.int .u32 0), (.int .u32 0), (.int .i64 0), (.int .i64 0), (.slice (some ⟨in5, 0, none⟩) 1 0), (.slice none 0 0), (.slice none 0 0), (.slice none 0 0)]
abbrev xRc12 (id : BitVec 32) (in4 : Nat) : List Value := [(.int .i64 130), (.int .i64 0), (W id), (.int .i64 0), (.int .i64 0), (.int .u32 0), (.string ByteArray.empty), (.int .u32 0), (.int .u32 0), (.int .i64 0), (.int .i64 0), (.slice (some ⟨in4, 0, none⟩) 1 0), (.slice none 0 0), (.slice none 0 0), (.slice none 0 0)]
abbrev xRc13 (id : BitVec 32) (k1 : Nat) : List Value := [(.int .i64 130), (.int .i64 0), (W id), (.int .i64 0), (.int .i64 0), (.int .u32 0), (.string ByteArray.empty), (.int .u32 0), (.int .u32 0), (.int .i64 0), (.int .i64 0), (.slice (some ⟨k1, 0, none⟩) 1 0), (.slice none 0 0), (.slice none 0 0), (.slice none 0 0)]
abbrev xRc14 (id : BitVec 32) (k2 : Nat) : List Value := [(.int .i64 130), (.int .i64 0), (W id), (.int .i64 0), (.int .i64 0), (.int .u32 0), (.string ByteArray.empty), (.int .u32 0), (.int .u32 0), (.int .i64 0), (.int .i64 0), (.slice (some ⟨k2, 0, none⟩) 1 0), (.slice none 0 0), (.slice none 0 0), (.slice none 0 0)]
abbrev xRc15 (id : BitVec 32) (n1 : Nat) : List Value := [(.int .i64 130), (.int .i64 0), (W id), (.int .i64 0), (.int .i64 0), (.int .u32 0), (.string ByteArray.empty), (.int .u32 0), (.int .u32 0), (.int .i64 0), (.int .i64 0), (.slice (some ⟨n1, 0, none⟩) 1 0), (.slice none 0 0), (.slice none 0 0), (.slice none 0 0)]
abbrev xRc16 (id : BitVec 32) (k : Nat) : List Value := [(.int .i64 130), (.int .i64 0), (W id), (.int .i64 0), (.int .i64 0), (.int .u32 0), (.string ByteArray.empty), (.int .u32 0), (.int .u32 0), (.int .i64 0), (.int .i64 0), (.slice (some ⟨k, 0, none⟩) 1 0), (.slice none 0 0), (.slice none 0 0), (.slice none 0 0)]
abbrev xRc17 : List Value := [(.int .i64 0), (.int .i64 0), (.int .u32 0), (.int .i64 0), (.int .i64 0), (.int .u32 0), (.string ByteArray.empty), (.int .u32 0), (.int .u32 0), (.int .i64 0), (.int .i64 0), (.slice none 0 0), (.slice none 0 0), (.slice none 0 0), (.slice none 0 0)]
abbrev xRc18 (wa : Int) (nx : BitVec 32) (at_ : Int) (mn : Int) (pe : BitVec 32) (la : Nat) : List Value := [(.int .i64 wa), (W nx), (.int .i64 at_), (.int .i64 mn), (W pe), (.int .i64 ((la : Nat) : Int))]
abbrev xRc19 (wa : Int) (nx : BitVec 32) (at_ : Int) (mn : Int) (id : BitVec 32) : List Value := [(.int .i64 wa), (W nx), (.int .i64 at_), (.int .i64 mn), (W (id + (1#32))), (.int .i64 1)]
abbrev xRc110 (wa : Int) (nx : BitVec 32) (at_ : Int) (mn : Int) (id : BitVec 32) : List Value := [(.int .i64 wa), (W nx), (.int .i64 at_), (.int .i64 mn), (W (id + (1#32))), (.int .i64 2)]
theorem cNew {n : Nat} {σ : Store} (hd : Dom n σ) (a b : BitVec 32)   : CQ Try.prog noDen 24 [(W a), (W b)] n σ (fun v n' d => ∃ i, n ≤ i ∧ i < n' ∧ v = .pointer (some ⟨i, 0, some 0⟩) ∧ d = [(i, some ⟨[[(.int .i64 0), (W a), (.int .i64 0), (.int .i64 0), (W b), (.int .i64 0)]], 6, 94, true⟩)]) := by
 refine CQ.body (E := env) env_ok hd rfl rfl (by show _ ≤ _; exact of_decide_eq_true (by kernel_rfl)) ?_
 refine RA.seq hd ?_
 refine RA.region env_ok ?_
 refine OA.p (some 4) (.pointer none) rfl rfl rfl rfl ?_
 refine OA.nil ?_
 intro _
 refine RA.seq hd ?_
 refine RA.region env_ok ?_
 refine OA.p (some 5) (W a) rfl rfl rfl rfl ?_
 refine OA.p (some 6) (W b) rfl rfl rfl rfl ?_
 refine OA.p (some 7) (.agg ⟨[(.int .i64 0), (W a), (.int .i64 0), (.int .i64 0), (W b), (.int .i64 0)]⟩) rfl rfl rfl (by kernel_rfl) ?_
 refine OA.op1 (dst := (some 8)) (v := (Pt n 0 0)) (n1 := (n + 1)) (w := (n, some ⟨[[(.int .i64 0), (W a), (.int .i64 0), (.int .i64 0), (W b), (.int .i64 0)]], 6, 94, true⟩)) rfl rfl rfl rfl (by omega) ?_
 refine OA.p (some 4) (Pt n 0 0) rfl rfl rfl rfl ?_
 refine OA.nil ?_
 intro _
 refine RA.ret env_ok ?_
 refine ⟨.inr rfl, [(Pt n 0 0)], (resL_cons rfl resL_nil), [(n, some ⟨[[(.int .i64 0), (W a), (.int .i64 0), (.int .i64 0), (W b), (.int .i64 0)]], 6, 94, true⟩)], (Less.refl _ _ _), ⟨n, by omega, by omega, rfl, rfl⟩⟩

theorem cFind16 {σ : Store} (k : Nat) (v : ByteArray) (hk : σ k = some ⟨[[(.int .i64 16), (.string v)]], 2, 35, true⟩)  : PS Try.prog noDen 63 [(.slice (some ⟨k, 0, none⟩) 1 0), (.int .i64 16)] σ (.tuple #[.agg ⟨[.int .i64 16, .string v]⟩, .bool true]) := by
 refine PS.body (E := env) env_ok rfl rfl (by show _ ≤ _; exact of_decide_eq_true (by kernel_rfl)) (fun n hd => ?_)
 have lhk := hd.lt hk
 refine RA.seq hd ?_
 refine RA.region env_ok ?_
 refine OA.op1 (dst := (some 4)) (v := (Pt n 0 0)) (n1 := (n + 1)) (w := (n, some ⟨[[(.int .i64 0), (.string ByteArray.empty)]], 2, 35, true⟩)) rfl rfl rfl rfl (by omega) ?_
 refine OA.p (some 5) (.bool false) rfl rfl rfl rfl ?_
 refine OA.nil ?_
 intro _
 refine RA.seq hd ?_
 refine RA.seq hd ?_
 refine RA.region env_ok ?_
 refine OA.p (some 8) (.slice (some ⟨k, 0, none⟩) 1 0) rfl rfl rfl rfl ?_
 refine OA.p (some 9) (.int .i64 1) rfl rfl rfl rfl ?_
 refine OA.p (some 10) (.int .i64 0) rfl rfl rfl rfl ?_
 refine OA.nil ?_
 intro _
 refine RA.block ?_
 refine RA.unroll hd ?_
 refine RA.seq hd ?_
 refine RA.region env_ok ?_
 refine OA.p (some 11) (.bool true) rfl rfl rfl (r_bin rfl rfl rfl (b_lss rfl)) ?_
 refine OA.nil ?_
 intro _
 refine RA.seq hd ?_
 refine RA.condT rfl ?_
 refine RA.skip env_ok ?_
 intro _
 refine RA.seq hd ?_
 refine RA.block ?_
 refine RA.seq hd ?_
 refine RA.region env_ok ?_
 refine OA.p (some 12) (Pt k 0 0) rfl rfl rfl (r_iaS (l := 0) rfl rfl rfl rfl rfl rfl (by omega) (by omega) (get_there (by omega) hk) rfl (by omega)) ?_
 refine OA.p (some 13) (.agg ⟨[(.int .i64 16), (.string v)]⟩) rfl rfl rfl (r_loadA rfl rfl rfl rfl (get_there (by omega) hk) rfl rfl rfl) ?_
 refine OA.op1 (dst := (some 7)) (v := (.pointer (some ⟨(n + 1), 0, some 0⟩))) (n1 := (n + 2)) (w := ((n + 1), some ⟨[[(.int .i64 0), (.string ByteArray.empty)]], 2, 35, true⟩)) rfl rfl rfl rfl (by omega) ?_
 refine OA.op1 (dst := none) (v := (.tuple #[])) (n1 := (n + 2)) (w := ((n + 1), some ⟨[[(.int .i64 16), (.string v)]], 2, 35, true⟩)) rfl rfl rfl (r_store rfl rfl rfl rfl rfl rfl rfl get_here rfl rfl (Nat.le_of_ble_eq_true rfl) rfl) (by omega) ?_
 refine OA.nil ?_
 intro _
 refine RA.seq hd ?_
 refine RA.region env_ok ?_
 refine OA.p (some 14) (.pointer (some ⟨(n + 1), 0, some 0⟩)) rfl rfl rfl rfl ?_
 refine OA.p (some 15) (.int .i64 16) rfl rfl rfl (r_load1 rfl rfl rfl rfl rfl get_here rfl rfl) ?_
 refine OA.p (some 16) (.int .i64 16) rfl rfl rfl rfl ?_
 refine OA.p (some 17) (.bool true) rfl rfl rfl (r_bin rfl rfl rfl (b_eql rfl)) ?_
 refine OA.nil ?_
 intro _
 refine RA.condT rfl ?_
 refine RA.seq hd ?_
 refine RA.region env_ok ?_
 refine OA.p (some 18) (.agg ⟨[(.int .i64 16), (.string v)]⟩) rfl rfl rfl (r_loadA rfl rfl rfl rfl get_here rfl rfl rfl) ?_
 refine OA.op1 (dst := none) (v := (.tuple #[])) (n1 := (n + 2)) (w := (n, some ⟨[[(.int .i64 16), (.string v)]], 2, 35, true⟩)) rfl rfl rfl (r_store rfl rfl rfl rfl rfl rfl rfl (gt2 (by omega) get_here) rfl rfl (Nat.le_of_ble_eq_true rfl) rfl) (by omega) ?_
 refine OA.p (some 5) (.bool true) rfl rfl rfl rfl ?_
 refine OA.nil ?_
 intro _
 refine RA.ret env_ok ?_
 refine ⟨.inr rfl, [(.agg ⟨[(.int .i64 16), (.string v)]⟩), (.bool true)], (resL_cons (res_cellA rfl rfl rfl get_here rfl rfl rfl) (resL_cons rfl resL_nil)), rfl, (kc4 (by omega))⟩

theorem cFind17 {σ : Store} (k : Nat) (v : ByteArray) (hk : σ k = some ⟨[[(.int .i64 17), (.string v)]], 2, 35, true⟩)  : PS Try.prog noDen 63 [(.slice (some ⟨k, 0, none⟩) 1 0), (.int .i64 17)] σ (.tuple #[.agg ⟨[.int .i64 17, .string v]⟩, .bool true]) := by
 refine PS.body (E := env) env_ok rfl rfl (by show _ ≤ _; exact of_decide_eq_true (by kernel_rfl)) (fun n hd => ?_)
 have lhk := hd.lt hk
 refine RA.seq hd ?_
 refine RA.region env_ok ?_
 refine OA.op1 (dst := (some 4)) (v := (Pt n 0 0)) (n1 := (n + 1)) (w := (n, some ⟨[[(.int .i64 0), (.string ByteArray.empty)]], 2, 35, true⟩)) rfl rfl rfl rfl (by omega) ?_
 refine OA.p (some 5) (.bool false) rfl rfl rfl rfl ?_
 refine OA.nil ?_
 intro _
 refine RA.seq hd ?_
 refine RA.seq hd ?_
 refine RA.region env_ok ?_
 refine OA.p (some 8) (.slice (some ⟨k, 0, none⟩) 1 0) rfl rfl rfl rfl ?_
 refine OA.p (some 9) (.int .i64 1) rfl rfl rfl rfl ?_
 refine OA.p (some 10) (.int .i64 0) rfl rfl rfl rfl ?_
 refine OA.nil ?_
 intro _
 refine RA.block ?_
 refine RA.unroll hd ?_
 refine RA.seq hd ?_
 refine RA.region env_ok ?_
 refine OA.p (some 11) (.bool true) rfl rfl rfl (r_bin rfl rfl rfl (b_lss rfl)) ?_
 refine OA.nil ?_
 intro _
 refine RA.seq hd ?_
 refine RA.condT rfl ?_
 refine RA.skip env_ok ?_
 intro _
 refine RA.seq hd ?_
 refine RA.block ?_
 refine RA.seq hd ?_
 refine RA.region env_ok ?_
 refine OA.p (some 12) (Pt k 0 0) rfl rfl rfl (r_iaS (l := 0) rfl rfl rfl rfl rfl rfl (by omega) (by omega) (get_there (by omega) hk) rfl (by omega)) ?_
 refine OA.p (some 13) (.agg ⟨[(.int .i64 17), (.string v)]⟩) rfl rfl rfl (r_loadA rfl rfl rfl rfl (get_there (by omega) hk) rfl rfl rfl) ?_
 refine OA.op1 (dst := (some 7)) (v := (.pointer (some ⟨(n + 1), 0, some 0⟩))) (n1 := (n + 2)) (w := ((n + 1), some ⟨[[(.int .i64 0), (.string ByteArray.empty)]], 2, 35, true⟩)) rfl rfl rfl rfl (by omega) ?_
 refine OA.op1 (dst := none) (v := (.tuple #[])) (n1 := (n + 2)) (w := ((n + 1), some ⟨[[(.int .i64 17), (.string v)]], 2, 35, true⟩)) rfl rfl rfl (r_store rfl rfl rfl rfl rfl rfl rfl get_here rfl rfl (Nat.le_of_ble_eq_true rfl) rfl) (by omega) ?_
 refine OA.nil ?_
 intro _
 refine RA.seq hd ?_
 refine RA.region env_ok ?_
 refine OA.p (some 14) (.pointer (some ⟨(n + 1), 0, some 0⟩)) rfl rfl rfl rfl ?_
 refine OA.p (some 15) (.int .i64 17) rfl rfl rfl (r_load1 rfl rfl rfl rfl rfl get_here rfl rfl) ?_
 refine OA.p (some 16) (.int .i64 17) rfl rfl rfl rfl ?_
 refine OA.p (some 17) (.bool true) rfl rfl rfl (r_bin rfl rfl rfl (b_eql rfl)) ?_
 refine OA.nil ?_
 intro _
 refine RA.condT rfl ?_
 refine RA.seq hd ?_
 refine RA.region env_ok ?_
 refine OA.p (some 18) (.agg ⟨[(.int .i64 17), (.string v)]⟩) rfl rfl rfl (r_loadA rfl rfl rfl rfl get_here rfl rfl rfl) ?_
 refine OA.op1 (dst := none) (v := (.tuple #[])) (n1 := (n + 2)) (w := (n, some ⟨[[(.int .i64 17), (.string v)]], 2, 35, true⟩)) rfl rfl rfl (r_store rfl rfl rfl rfl rfl rfl rfl (gt2 (by omega) get_here) rfl rfl (Nat.le_of_ble_eq_true rfl) rfl) (by omega) ?_
 refine OA.p (some 5) (.bool true) rfl rfl rfl rfl ?_
 refine OA.nil ?_
 intro _
 refine RA.ret env_ok ?_
 refine ⟨.inr rfl, [(.agg ⟨[(.int .i64 17), (.string v)]⟩), (.bool true)], (resL_cons (res_cellA rfl rfl rfl get_here rfl rfl rfl) (resL_cons rfl resL_nil)), rfl, (kc4 (by omega))⟩

theorem cSame {σ : Store} (k1 k2 : Nat) (id : BitVec 32) (t : Int) (u : ByteArray) (hk1 : σ k1 = some ⟨[[(.int .i64 t), (.string u)]], 2, 35, true⟩) (hk2 : σ k2 = some ⟨[[(.int .i64 t), (.string u)]], 2, 35, true⟩)  : PS Try.prog noDen 26 [(.agg ⟨[(.int .i64 130), (.int .i64 0), (W id), (.int .i64 0), (.int .i64 0), (.int .u32 0), (.string ByteArray.empty), (.int .u32 0), (.int .u32 0), (.int .i64 0), (.int .i64 0), (.slice (some ⟨k1, 0, none⟩) 1 0), (.slice none 0 0), (.slice none 0 0), (.slice none 0 0)]⟩), (.agg ⟨[(.int .i64 130), (.int .i64 0), (W id), (.int .i64 0), (.int .i64 0), (.int .u32 0), (.string ByteArray.empty), (.int .u32 0), (.int .u32 0), (.int .i64 0), (.int .i64 0), (.slice (some ⟨k2, 0, none⟩) 1 0), (.slice none 0 0), (.slice none 0 0), (.slice none 0 0)]⟩)] σ (.bool true) := by
 refine PS.body (E := env) env_ok rfl rfl (by show _ ≤ _; exact of_decide_eq_true (by kernel_rfl)) (fun n hd => ?_)
 have lhk1 := hd.lt hk1
 have lhk2 := hd.lt hk2
 refine RA.seq hd ?_
 refine RA.region env_ok ?_
 refine OA.op1 (dst := (some 2)) (v := (Pt n 0 0)) (n1 := (n + 1)) (w := (n, some ⟨[(xRc13 id k1)], 15, 53, true⟩)) rfl rfl rfl rfl (by omega) ?_
 refine OA.op1 (dst := (some 3)) (v := (.pointer (some ⟨(n + 1), 0, some 0⟩))) (n1 := (n + 2)) (w := ((n + 1), some ⟨[(xRc14 id k2)], 15, 53, true⟩)) rfl rfl rfl rfl (by omega) ?_
 refine OA.p (some 4) (.bool false) rfl rfl rfl rfl ?_
 refine OA.nil ?_
 intro _
 refine RA.seq hd ?_
 refine RA.seq hd ?_
 refine RA.region env_ok ?_
 refine OA.p (some 9) (Pt n 0 0) rfl rfl rfl rfl ?_
 refine OA.p (some 10) (.int .i64 130) rfl rfl rfl (r_load1 rfl rfl rfl rfl rfl (get_there (by omega) get_here) rfl rfl) ?_
 refine OA.p (some 11) (.pointer (some ⟨(n + 1), 0, some 0⟩)) rfl rfl rfl rfl ?_
 refine OA.p (some 12) (.int .i64 130) rfl rfl rfl (r_load1 rfl rfl rfl rfl rfl get_here rfl rfl) ?_
 refine OA.p (some 13) (.bool false) rfl rfl rfl (r_bin rfl rfl rfl (b_neq rfl)) ?_
 refine OA.p (some 14) (.bool false) rfl rfl rfl rfl ?_
 refine OA.p (some 15) (Pt n 0 1) rfl rfl rfl rfl ?_
 refine OA.p (some 16) (.int .i64 0) rfl rfl rfl (r_load1 rfl rfl rfl rfl rfl (get_there (by omega) get_here) rfl rfl) ?_
 refine OA.p (some 17) (.pointer (some ⟨(n + 1), 0, some 1⟩)) rfl rfl rfl rfl ?_
 refine OA.p (some 18) (.int .i64 0) rfl rfl rfl (r_load1 rfl rfl rfl rfl rfl get_here rfl rfl) ?_
 refine OA.p (some 19) (.bool false) rfl rfl rfl (r_bin rfl rfl rfl (b_neq rfl)) ?_
 refine OA.p (some 20) (.bool false) rfl rfl rfl rfl ?_
 refine OA.p (some 21) (.bool false) rfl rfl rfl rfl ?_
 refine OA.p (some 22) (Pt n 0 2) rfl rfl rfl rfl ?_
 refine OA.p (some 23) (W id) rfl rfl rfl (r_load1 rfl rfl rfl rfl rfl (get_there (by omega) get_here) rfl rfl) ?_
 refine OA.p (some 24) (.pointer (some ⟨(n + 1), 0, some 2⟩)) rfl rfl rfl rfl ?_
 refine OA.p (some 25) (W id) rfl rfl rfl (r_load1 rfl rfl rfl rfl rfl get_here rfl rfl) ?_
 refine OA.p (some 26) (.bool false) rfl rfl rfl (r_bin rfl rfl rfl (b_neq (decide_eq_false (fun h => h rfl)))) ?_
 refine OA.p (some 27) (.bool false) rfl rfl rfl rfl ?_
 refine OA.p (some 28) (.bool false) rfl rfl rfl rfl ?_
 refine OA.p (some 29) (Pt n 0 3) rfl rfl rfl rfl ?_
 refine OA.p (some 30) (.int .i64 0) rfl rfl rfl (r_load1 rfl rfl rfl rfl rfl (get_there (by omega) get_here) rfl rfl) ?_
 refine OA.p (some 31) (.pointer (some ⟨(n + 1), 0, some 3⟩)) rfl rfl rfl rfl ?_
 refine OA.p (some 32) (.int .i64 0) rfl rfl rfl (r_load1 rfl rfl rfl rfl rfl get_here rfl rfl) ?_
 refine OA.p (some 33) (.bool false) rfl rfl rfl (r_bin rfl rfl rfl (b_neq rfl)) ?_
 refine OA.p (some 34) (.bool false) rfl rfl rfl rfl ?_
 refine OA.p (some 35) (.bool false) rfl rfl rfl rfl ?_
 refine OA.p (some 36) (Pt n 0 4) rfl rfl rfl rfl ?_
 refine OA.p (some 37) (.int .i64 0) rfl rfl rfl (r_load1 rfl rfl rfl rfl rfl (get_there (by omega) get_here) rfl rfl) ?_
 refine OA.p (some 38) (.pointer (some ⟨(n + 1), 0, some 4⟩)) rfl rfl rfl rfl ?_
 refine OA.p (some 39) (.int .i64 0) rfl rfl rfl (r_load1 rfl rfl rfl rfl rfl get_here rfl rfl) ?_
 refine OA.p (some 40) (.bool false) rfl rfl rfl (r_bin rfl rfl rfl (b_neq rfl)) ?_
 refine OA.p (some 41) (.bool false) rfl rfl rfl rfl ?_
 refine OA.p (some 42) (.bool false) rfl rfl rfl rfl ?_
 refine OA.p (some 43) (Pt n 0 5) rfl rfl rfl rfl ?_
 refine OA.p (some 44) (.int .u32 0) rfl rfl rfl (r_load1 rfl rfl rfl rfl rfl (get_there (by omega) get_here) rfl rfl) ?_
 refine OA.p (some 45) (.pointer (some ⟨(n + 1), 0, some 5⟩)) rfl rfl rfl rfl ?_
 refine OA.p (some 46) (.int .u32 0) rfl rfl rfl (r_load1 rfl rfl rfl rfl rfl get_here rfl rfl) ?_
 refine OA.p (some 47) (.bool false) rfl rfl rfl (r_bin rfl rfl rfl (b_neq rfl)) ?_
 refine OA.p (some 48) (.bool false) rfl rfl rfl rfl ?_
 refine OA.p (some 49) (.bool false) rfl rfl rfl rfl ?_
 refine OA.p (some 50) (Pt n 0 6) rfl rfl rfl rfl ?_
 refine OA.p (some 51) (.string ByteArray.empty) rfl rfl rfl (r_load1 rfl rfl rfl rfl rfl (get_there (by omega) get_here) rfl rfl) ?_
 refine OA.p (some 52) (.pointer (some ⟨(n + 1), 0, some 6⟩)) rfl rfl rfl rfl ?_
 refine OA.p (some 53) (.string ByteArray.empty) rfl rfl rfl (r_load1 rfl rfl rfl rfl rfl get_here rfl rfl) ?_
 refine OA.p (some 54) (.bool false) rfl rfl rfl (Eq.trans (r_neqS rfl rfl rfl) (by rw [decide_eq_true rfl] <;> rfl)) ?_
 refine OA.p (some 55) (.bool false) rfl rfl rfl rfl ?_
 refine OA.p (some 56) (.bool false) rfl rfl rfl rfl ?_
 refine OA.p (some 57) (Pt n 0 7) rfl rfl rfl rfl ?_
 refine OA.p (some 58) (.int .u32 0) rfl rfl rfl (r_load1 rfl rfl rfl rfl rfl (get_there (by omega) get_here) rfl rfl) ?_
 refine OA.p (some 59) (.pointer (some ⟨(n + 1), 0, some 7⟩)) rfl rfl rfl rfl ?_
 refine OA.p (some 60) (.int .u32 0) rfl rfl rfl (r_load1 rfl rfl rfl rfl rfl get_here rfl rfl) ?_
 refine OA.p (some 61) (.bool false) rfl rfl rfl (r_bin rfl rfl rfl (b_neq rfl)) ?_
 refine OA.p (some 62) (.bool false) rfl rfl rfl rfl ?_
 refine OA.p (some 63) (.bool false) rfl rfl rfl rfl ?_
 refine OA.p (some 64) (Pt n 0 8) rfl rfl rfl rfl ?_
 refine OA.p (some 65) (.int .u32 0) rfl rfl rfl (r_load1 rfl rfl rfl rfl rfl (get_there (by omega) get_here) rfl rfl) ?_
 refine OA.p (some 66) (.pointer (some ⟨(n + 1), 0, some 8⟩)) rfl rfl rfl rfl ?_
 refine OA.p (some 67) (.int .u32 0) rfl rfl rfl (r_load1 rfl rfl rfl rfl rfl get_here rfl rfl) ?_
 refine OA.p (some 68) (.bool false) rfl rfl rfl (r_bin rfl rfl rfl (b_neq rfl)) ?_
 refine OA.p (some 69) (.bool false) rfl rfl rfl rfl ?_
 refine OA.p (some 70) (.bool false) rfl rfl rfl rfl ?_
 refine OA.p (some 71) (Pt n 0 9) rfl rfl rfl rfl ?_
 refine OA.p (some 72) (.int .i64 0) rfl rfl rfl (r_load1 rfl rfl rfl rfl rfl (get_there (by omega) get_here) rfl rfl) ?_
 refine OA.p (some 73) (.pointer (some ⟨(n + 1), 0, some 9⟩)) rfl rfl rfl rfl ?_
 refine OA.p (some 74) (.int .i64 0) rfl rfl rfl (r_load1 rfl rfl rfl rfl rfl get_here rfl rfl) ?_
 refine OA.p (some 75) (.bool false) rfl rfl rfl (r_bin rfl rfl rfl (b_neq rfl)) ?_
 refine OA.p (some 76) (.bool false) rfl rfl rfl rfl ?_
 refine OA.p (some 77) (.bool false) rfl rfl rfl rfl ?_
 refine OA.p (some 78) (Pt n 0 10) rfl rfl rfl rfl ?_
 refine OA.p (some 79) (.int .i64 0) rfl rfl rfl (r_load1 rfl rfl rfl rfl rfl (get_there (by omega) get_here) rfl rfl) ?_
 refine OA.p (some 80) (.pointer (some ⟨(n + 1), 0, some 10⟩)) rfl rfl rfl rfl ?_
 refine OA.p (some 81) (.int .i64 0) rfl rfl rfl (r_load1 rfl rfl rfl rfl rfl get_here rfl rfl) ?_
 refine OA.p (some 82) (.bool false) rfl rfl rfl (r_bin rfl rfl rfl (b_neq rfl)) ?_
 refine OA.p (some 83) (.bool false) rfl rfl rfl rfl ?_
 refine OA.p (some 84) (.bool false) rfl rfl rfl rfl ?_
 refine OA.p (some 85) (Pt n 0 11) rfl rfl rfl rfl ?_
 refine OA.p (some 86) (.slice (some ⟨k1, 0, none⟩) 1 0) rfl rfl rfl (r_load1 rfl rfl rfl rfl rfl (get_there (by omega) get_here) rfl rfl) ?_
 refine OA.p (some 87) (.int .i64 1) rfl rfl rfl rfl ?_
 refine OA.p (some 88) (.pointer (some ⟨(n + 1), 0, some 11⟩)) rfl rfl rfl rfl ?_
 refine OA.p (some 89) (.slice (some ⟨k2, 0, none⟩) 1 0) rfl rfl rfl (r_load1 rfl rfl rfl rfl rfl get_here rfl rfl) ?_
 refine OA.p (some 90) (.int .i64 1) rfl rfl rfl rfl ?_
 refine OA.p (some 91) (.bool false) rfl rfl rfl (r_bin rfl rfl rfl (b_neq rfl)) ?_
 refine OA.p (some 92) (.bool false) rfl rfl rfl rfl ?_
 refine OA.p (some 93) (.bool false) rfl rfl rfl rfl ?_
 refine OA.p (some 94) (Pt n 0 12) rfl rfl rfl rfl ?_
 refine OA.p (some 95) (.slice none 0 0) rfl rfl rfl (r_load1 rfl rfl rfl rfl rfl (get_there (by omega) get_here) rfl rfl) ?_
 refine OA.p (some 96) (.int .i64 0) rfl rfl rfl rfl ?_
 refine OA.p (some 97) (.pointer (some ⟨(n + 1), 0, some 12⟩)) rfl rfl rfl rfl ?_
 refine OA.p (some 98) (.slice none 0 0) rfl rfl rfl (r_load1 rfl rfl rfl rfl rfl get_here rfl rfl) ?_
 refine OA.p (some 99) (.int .i64 0) rfl rfl rfl rfl ?_
 refine OA.p (some 100) (.bool false) rfl rfl rfl (r_bin rfl rfl rfl (b_neq rfl)) ?_
 refine OA.p (some 101) (.bool false) rfl rfl rfl rfl ?_
 refine OA.p (some 102) (.bool false) rfl rfl rfl rfl ?_
 refine OA.p (some 103) (Pt n 0 13) rfl rfl rfl rfl ?_
 refine OA.p (some 104) (.slice none 0 0) rfl rfl rfl (r_load1 rfl rfl rfl rfl rfl (get_there (by omega) get_here) rfl rfl) ?_
 refine OA.p (some 105) (.int .i64 0) rfl rfl rfl rfl ?_
 refine OA.p (some 106) (.pointer (some ⟨(n + 1), 0, some 13⟩)) rfl rfl rfl rfl ?_
 refine OA.p (some 107) (.slice none 0 0) rfl rfl rfl (r_load1 rfl rfl rfl rfl rfl get_here rfl rfl) ?_
 refine OA.p (some 108) (.int .i64 0) rfl rfl rfl rfl ?_
 refine OA.p (some 109) (.bool false) rfl rfl rfl (r_bin rfl rfl rfl (b_neq rfl)) ?_
 refine OA.p (some 110) (.bool false) rfl rfl rfl rfl ?_
 refine OA.p (some 111) (.bool false) rfl rfl rfl rfl ?_
 refine OA.p (some 112) (Pt n 0 14) rfl rfl rfl rfl ?_
 refine OA.p (some 113) (.slice none 0 0) rfl rfl rfl (r_load1 rfl rfl rfl rfl rfl (get_there (by omega) get_here) rfl rfl) ?_
 refine OA.p (some 114) (.int .i64 0) rfl rfl rfl rfl ?_
 refine OA.p (some 115) (.pointer (some ⟨(n + 1), 0, some 14⟩)) rfl rfl rfl rfl ?_
 refine OA.p (some 116) (.slice none 0 0) rfl rfl rfl (r_load1 rfl rfl rfl rfl rfl get_here rfl rfl) ?_
 refine OA.p (some 117) (.int .i64 0) rfl rfl rfl rfl ?_
 refine OA.p (some 118) (.bool false) rfl rfl rfl (r_bin rfl rfl rfl (b_neq rfl)) ?_
 refine OA.p (some 119) (.bool false) rfl rfl rfl rfl ?_
 refine OA.nil ?_
 intro _
 refine RA.rebase [(0, (.agg ⟨(xRc13 id k1)⟩)), (1, (.agg ⟨(xRc14 id k2)⟩)), (2, (Pt n 0 0)), (3, (.pointer (some ⟨(n + 1), 0, some 0⟩))), (4, (.bool false)), (119, (.bool false))] ⟨rfl, rfl, rfl, rfl, rfl, rfl, trivial⟩ (fun τr1 => ?_)
 refine RA.condF rfl ?_
 refine RA.skip env_ok ?_
 intro _
 refine RA.seq hd ?_
 refine RA.seq hd ?_
 refine RA.region env_ok ?_
 refine OA.p (some 5) (.int .i64 0) rfl rfl rfl rfl ?_
 refine OA.nil ?_
 intro _
 refine RA.block ?_
 refine RA.unroll hd ?_
 refine RA.seq hd ?_
 refine RA.seq hd ?_
 refine RA.region env_ok ?_
 refine OA.p (some 120) (.int .i64 0) rfl rfl rfl rfl ?_
 refine OA.p (some 121) (Pt n 0 11) rfl rfl rfl rfl ?_
 refine OA.p (some 122) (.slice (some ⟨k1, 0, none⟩) 1 0) rfl rfl rfl (r_load1 rfl rfl rfl rfl rfl (get_there (by omega) get_here) rfl rfl) ?_
 refine OA.p (some 123) (.int .i64 1) rfl rfl rfl rfl ?_
 refine OA.p (some 124) (.bool true) rfl rfl rfl (r_bin rfl rfl rfl (b_lss rfl)) ?_
 refine OA.nil ?_
 intro _
 refine RA.condT rfl ?_
 refine RA.skip env_ok ?_
 intro _
 refine RA.seq hd ?_
 refine RA.block ?_
 refine RA.seq hd ?_
 refine RA.par (md := [some [], some [n], some [], none, none, some [], some [(n + 1)], some [], none, none, some []]) env_ok (hd.of (by omega) (kb2 (by omega))) (by kernel_rfl) ?_
 refine PQ.pure (dst := (some 127)) (v := (Pt n 0 11)) rfl rfl rfl noStore (none_ok _ _) rfl ?_
 refine PQ.pure (dst := (some 128)) (v := (.slice (some ⟨k1, 0, none⟩) 1 0)) rfl rfl rfl (app [(n, some ⟨[(xRc13 id k1)], 15, 53, true⟩)] noStore) (seen_one (V := []) (D := [((n + 1), some ⟨[(xRc14 id k2)], 15, 53, true⟩), (n, some ⟨[(xRc13 id k1)], 15, 53, true⟩)]) (by kernel_rfl) (get_there (by omega) get_here)) (r_load1 rfl rfl rfl rfl rfl get_here rfl rfl) ?_
 refine PQ.pure (dst := (some 129)) (v := (.int .i64 0)) rfl rfl rfl noStore (none_ok _ _) rfl ?_
 refine PQ.pure (dst := (some 130)) (v := (Pt k1 0 0)) rfl rfl rfl _ (seen_any (V := []) (D := [((n + 1), some ⟨[(xRc14 id k2)], 15, 53, true⟩), (n, some ⟨[(xRc13 id k1)], 15, 53, true⟩)]) (by kernel_rfl)) (r_iaS (l := 0) rfl rfl rfl rfl rfl rfl (by omega) (by omega) (gt2 (by omega) hk1) rfl (by omega)) ?_
 refine PQ.pure (dst := (some 131)) (v := (.agg ⟨[(.int .i64 t), (.string u)]⟩)) rfl rfl rfl _ (seen_any (V := []) (D := [((n + 1), some ⟨[(xRc14 id k2)], 15, 53, true⟩), (n, some ⟨[(xRc13 id k1)], 15, 53, true⟩)]) (by kernel_rfl)) (r_loadA rfl rfl rfl rfl (gt2 (by omega) hk1) rfl rfl rfl) ?_
 refine PQ.pure (dst := (some 132)) (v := (.pointer (some ⟨(n + 1), 0, some 11⟩))) rfl rfl rfl noStore (none_ok _ _) rfl ?_
 refine PQ.pure (dst := (some 133)) (v := (.slice (some ⟨k2, 0, none⟩) 1 0)) rfl rfl rfl (app [((n + 1), some ⟨[(xRc14 id k2)], 15, 53, true⟩)] noStore) (seen_one (V := []) (D := [((n + 1), some ⟨[(xRc14 id k2)], 15, 53, true⟩), (n, some ⟨[(xRc13 id k1)], 15, 53, true⟩)]) (by kernel_rfl) get_here) (r_load1 rfl rfl rfl rfl rfl get_here rfl rfl) ?_
 refine PQ.pure (dst := (some 134)) (v := (.int .i64 0)) rfl rfl rfl noStore (none_ok _ _) rfl ?_
 refine PQ.pure (dst := (some 135)) (v := (Pt k2 0 0)) rfl rfl rfl _ (seen_any (V := []) (D := [((n + 1), some ⟨[(xRc14 id k2)], 15, 53, true⟩), (n, some ⟨[(xRc13 id k1)], 15, 53, true⟩)]) (by kernel_rfl)) (r_iaS (l := 0) rfl rfl rfl rfl rfl rfl (by omega) (by omega) (gt2 (by omega) hk2) rfl (by omega)) ?_
 refine PQ.pure (dst := (some 136)) (v := (.agg ⟨[(.int .i64 t), (.string u)]⟩)) rfl rfl rfl _ (seen_any (V := []) (D := [((n + 1), some ⟨[(xRc14 id k2)], 15, 53, true⟩), (n, some ⟨[(xRc13 id k1)], 15, 53, true⟩)]) (by kernel_rfl)) (r_loadA rfl rfl rfl rfl (gt2 (by omega) hk2) rfl rfl rfl) ?_
 refine PQ.pure (dst := (some 137)) (v := (.bool false)) rfl rfl rfl noStore (none_ok _ _) (r_neqA (r := true) rfl rfl rfl (by kernel_rfl) (aeq_self _ _ _ (by kernel_rfl))) ?_
 refine PQ.done (d := []) (by kernel_rfl) ?_
 intro _
 refine RA.condF rfl ?_
 refine RA.skip env_ok ?_
 intro _
 refine RA.region env_ok ?_
 refine OA.p (some 125) (.int .i64 0) rfl rfl rfl rfl ?_
 refine OA.p (some 126) (.int .i64 1) rfl rfl rfl (r_bin rfl rfl rfl (b_add (i64_eq (by omega)))) ?_
 refine OA.p (some 5) (.int .i64 1) rfl rfl rfl rfl ?_
 refine OA.nil ?_
 intro _
 refine RA.unroll hd ?_
 refine RA.seq hd ?_
 refine RA.seq hd ?_
 refine RA.region env_ok ?_
 refine OA.p (some 120) (.int .i64 1) rfl rfl rfl rfl ?_
 refine OA.p (some 121) (Pt n 0 11) rfl rfl rfl rfl ?_
 refine OA.p (some 122) (.slice (some ⟨k1, 0, none⟩) 1 0) rfl rfl rfl (r_load1 rfl rfl rfl rfl rfl (get_there (by omega) get_here) rfl rfl) ?_
 refine OA.p (some 123) (.int .i64 1) rfl rfl rfl rfl ?_
 refine OA.p (some 124) (.bool false) rfl rfl rfl (r_bin rfl rfl rfl (b_lss rfl)) ?_
 refine OA.nil ?_
 intro _
 refine RA.rebase [(0, (.agg ⟨(xRc13 id k1)⟩)), (1, (.agg ⟨(xRc14 id k2)⟩)), (2, (Pt n 0 0)), (3, (.pointer (some ⟨(n + 1), 0, some 0⟩))), (4, (.bool false)), (5, (.int .i64 1)), (119, (.bool false)), (124, (.bool false)), (137, (.bool false))] ⟨rfl, rfl, rfl, rfl, rfl, rfl, rfl, rfl, rfl, trivial⟩ (fun τr2 => ?_)
 refine RA.condF rfl ?_
 refine RA.exit env_ok ?_
 intro _
 refine RA.seq hd ?_
 refine RA.seq hd ?_
 refine RA.region env_ok ?_
 refine OA.p (some 6) (.int .i64 0) rfl rfl rfl rfl ?_
 refine OA.nil ?_
 intro _
 refine RA.block ?_
 refine RA.unroll hd ?_
 refine RA.seq hd ?_
 refine RA.seq hd ?_
 refine RA.region env_ok ?_
 refine OA.p (some 138) (.int .i64 0) rfl rfl rfl rfl ?_
 refine OA.p (some 139) (Pt n 0 12) rfl rfl rfl rfl ?_
 refine OA.p (some 140) (.slice none 0 0) rfl rfl rfl (r_load1 rfl rfl rfl rfl rfl (get_there (by omega) get_here) rfl rfl) ?_
 refine OA.p (some 141) (.int .i64 0) rfl rfl rfl rfl ?_
 refine OA.p (some 142) (.bool false) rfl rfl rfl (r_bin rfl rfl rfl (b_lss rfl)) ?_
 refine OA.nil ?_
 intro _
 refine RA.condF rfl ?_
 refine RA.exit env_ok ?_
 intro _
 refine RA.seq hd ?_
 refine RA.seq hd ?_
 refine RA.region env_ok ?_
 refine OA.p (some 7) (.int .i64 0) rfl rfl rfl rfl ?_
 refine OA.nil ?_
 intro _
 refine RA.block ?_
 refine RA.unroll hd ?_
 refine RA.seq hd ?_
 refine RA.seq hd ?_
 refine RA.region env_ok ?_
 refine OA.p (some 156) (.int .i64 0) rfl rfl rfl rfl ?_
 refine OA.p (some 157) (Pt n 0 13) rfl rfl rfl rfl ?_
 refine OA.p (some 158) (.slice none 0 0) rfl rfl rfl (r_load1 rfl rfl rfl rfl rfl (get_there (by omega) get_here) rfl rfl) ?_
 refine OA.p (some 159) (.int .i64 0) rfl rfl rfl rfl ?_
 refine OA.p (some 160) (.bool false) rfl rfl rfl (r_bin rfl rfl rfl (b_lss rfl)) ?_
 refine OA.nil ?_
 intro _
 refine RA.condF rfl ?_
 refine RA.exit env_ok ?_
 intro _
 refine RA.seq hd ?_
 refine RA.seq hd ?_
 refine RA.region env_ok ?_
 refine OA.p (some 8) (.int .i64 0) rfl rfl rfl rfl ?_
 refine OA.nil ?_
 intro _
 refine RA.block ?_
 refine RA.unroll hd ?_
 refine RA.seq hd ?_
 refine RA.seq hd ?_
 refine RA.region env_ok ?_
 refine OA.p (some 174) (.int .i64 0) rfl rfl rfl rfl ?_
 refine OA.p (some 175) (Pt n 0 14) rfl rfl rfl rfl ?_
 refine OA.p (some 176) (.slice none 0 0) rfl rfl rfl (r_load1 rfl rfl rfl rfl rfl (get_there (by omega) get_here) rfl rfl) ?_
 refine OA.p (some 177) (.int .i64 0) rfl rfl rfl rfl ?_
 refine OA.p (some 178) (.bool false) rfl rfl rfl (r_bin rfl rfl rfl (b_lss rfl)) ?_
 refine OA.nil ?_
 intro _
 refine RA.condF rfl ?_
 refine RA.exit env_ok ?_
 intro _
 refine RA.seq hd ?_
 refine RA.region env_ok ?_
 refine OA.p (some 4) (.bool true) rfl rfl rfl rfl ?_
 refine OA.nil ?_
 intro _
 refine RA.ret env_ok ?_
 refine ⟨.inr rfl, [(.bool true)], (resL_cons rfl resL_nil), rfl, (kc2 (by omega))⟩

theorem cBack {n : Nat} {σ : Store} (hd : Dom n σ) (p4 p11 k : Nat) (id : BitVec 32) (w : Nat) (hw : w ≤ 2) (h1 : p4 ≠ p11) (hp4 : σ p4 = some ⟨[[(.int .i64 130), (.int .i64 0), (W id), (.int .i64 0), (.int .i64 0), (.int .u32 0), (.string ByteArray.empty), (.int .u32 0), (.int .u32 0), (.int .i64 0), (.int .i64 0), (.slice (some ⟨k, 0, none⟩) 1 0), (.slice none 0 0), (.slice none 0 0), (.slice none 0 0)]], 15, 53, true⟩) (hp11 : σ p11 = some ⟨[[(W id)]], 1, 36, true⟩)  : CQ Try.prog noDen 64 [(.int .i64 ((w : Nat) : Int)), (Pt p4 0 0), (Pt p11 0 0)] n σ (fun v n' d => ∃ i, n ≤ i ∧ i < n' ∧ v = (.agg ⟨[(.int .i64 130), (.int .i64 0), (W id), (.int .i64 0), (.int .i64 0), (.int .u32 0), (.string ByteArray.empty), (.int .u32 0), (.int .u32 0), (.int .i64 0), (.int .i64 0), (.slice (some ⟨i, 0, none⟩) 1 0), (.slice none 0 0), (.slice none 0 0), (.slice none 0 0)]⟩) ∧ d = [(i, some ⟨[[(.int .i64 16), (.string (resV id (BitVec.ofNat 32 w)))]], 2, 35, true⟩)]) := by
 have lhp4 := hd.lt hp4
 have lhp11 := hd.lt hp11
 refine CQ.body (E := env) env_ok hd rfl rfl (by show _ ≤ _; exact of_decide_eq_true (by kernel_rfl)) ?_
 refine RA.seq hd ?_
 refine RA.region env_ok ?_
 refine OA.op1 (dst := (some 4)) (v := (Pt n 0 0)) (n1 := (n + 1)) (w := (n, some ⟨[xRc17], 15, 53, true⟩)) rfl rfl rfl rfl (by omega) ?_
 refine OA.nil ?_
 intro _
 refine RA.seq hd ?_
 refine RA.par (md := [some [], some [p4], some [p11], some [], some [], some [], some [], none]) env_ok (hd.of (by omega) (kb1 (by omega))) (by kernel_rfl) ?_
 refine PQ.pure (dst := (some 5)) (v := (Pt p4 0 2)) rfl rfl rfl noStore (none_ok _ _) rfl ?_
 refine PQ.pure (dst := (some 6)) (v := (W id)) rfl rfl rfl (app [(p4, some ⟨[(xRc16 id k)], 15, 53, true⟩)] noStore) (seen_one (V := []) (D := [(n, some ⟨[xRc17], 15, 53, true⟩)]) (by kernel_rfl) (get_there (by omega) hp4)) (r_load1 rfl rfl rfl rfl rfl get_here rfl rfl) ?_
 refine PQ.pure (dst := (some 7)) (v := (W id)) rfl rfl rfl (app [(p11, some ⟨[[(W id)]], 1, 36, true⟩)] noStore) (seen_one (V := []) (D := [(n, some ⟨[xRc17], 15, 53, true⟩)]) (by kernel_rfl) (get_there (by omega) hp11)) (r_load1 rfl rfl rfl rfl rfl get_here rfl rfl) ?_
 refine PQ.pure (dst := (some 8)) (v := (.int .i64 ((w : Nat) : Int))) rfl rfl rfl noStore (none_ok _ _) rfl ?_
 refine PQ.callP (dst := (some 9)) (all := [(W id), (.int .i64 ((w : Nat) : Int))]) (v := (.agg ⟨[(.int .i64 16), (.string (resV id (BitVec.ofNat 32 w)))]⟩)) noStore (dom_none _) rfl rfl rfl rfl rfl rfl rfl rfl (none_ok _ _) (sRes id w (by omega)) ?_
 intro n1 hn1
 refine PQ.op (dst := (some 10)) (v := (.slice (some ⟨n1, 0, none⟩) 1 0)) (n1 := (n1 + 1)) (d1 := [(n1, some ⟨[[(.int .i64 16), (.string (resV id (BitVec.ofNat 32 w)))]], 2, 35, true⟩)]) rfl rfl rfl noStore (none_ok _ _) (by kernel_rfl) (by omega) (kp1 (wr_new (by omega) (by omega))) ?_
 refine PQ.pure (dst := (some 11)) (v := (.agg ⟨(xRc15 id n1)⟩)) rfl rfl rfl noStore (none_ok _ _) (by kernel_rfl) ?_
 refine PQ.op (dst := none) (v := (.tuple #[])) (n1 := (n1 + 1)) (d1 := [(n, some ⟨[(xRc15 id n1)], 15, 53, true⟩)]) rfl rfl rfl _ (seen_any (V := [(n1, some ⟨[[(.int .i64 16), (.string (resV id (BitVec.ofNat 32 w)))]], 2, 35, true⟩)]) (D := [(n, some ⟨[xRc17], 15, 53, true⟩)]) (by kernel_rfl)) (r_store rfl rfl rfl rfl rfl rfl rfl (get_there (by omega) get_here) rfl rfl (Nat.le_of_ble_eq_true rfl) rfl) (by omega) (kp1 (wr_tight (by kernel_rfl) (by omega))) ?_
 refine PQ.done (d := [(n, some ⟨[(xRc15 id n1)], 15, 53, true⟩), (n1, some ⟨[[(.int .i64 16), (.string (resV id (BitVec.ofNat 32 w)))]], 2, 35, true⟩)]) (by kernel_rfl) ?_
 intro _
 refine RA.weaken (D' := [(n, some ⟨[(xRc15 id n1)], 15, 53, true⟩), (n1, some ⟨[[(.int .i64 16), (.string (resV id (BitVec.ofNat 32 w)))]], 2, 35, true⟩)]) hd (Less.of (fac (mm (fun _ => get_here) (fun _ => get_here)) (fac (mm (fun _ => (get_there (by omega) get_here)) (fun _ => (get_there (by omega) get_here))) fan)) (gone_of (by simp only [goneP, memP, List.cons_append, List.nil_append, true_or, or_true, true_and, and_true, or_false] <;> omega))) ?_
 refine RA.ret env_ok ?_
 refine ⟨.inr rfl, [(.agg ⟨(xRc15 id n1)⟩)], (resL_cons (res_cellA rfl rfl rfl get_here rfl rfl rfl) resL_nil), [(n1, some ⟨[[(.int .i64 16), (.string (resV id (BitVec.ofNat 32 w)))]], 2, 35, true⟩)], (Less.of (fac (mm (fun _ => get_here) (fun _ => (get_there (by omega) get_here))) fan) (gone_of (by simp only [goneP, memP, List.cons_append, List.nil_append, true_or, or_true, true_and, and_true, or_false] <;> omega))), ⟨n1, by omega, by omega, rfl, rfl⟩⟩

theorem cAskA {n : Nat} {σ : Store} (hd : Dom n σ) (b k : Nat) (hbk : b ≠ k) (wa at_ mn : Int) (nx id : BitVec 32) (m have_ : Nat) (hm : 1 ≤ m ∧ m ≤ 8) (hh : have_ ≤ 16) (la : Int) (hlt : ¬ ((((16 - have_) : Nat) : Int) < ((m : Nat) : Int))) (hb : σ b = some ⟨[[(.int .i64 wa), (W nx), (.int .i64 at_), (.int .i64 mn), (W id), (.int .i64 la)]], 6, 94, true⟩) (hk : σ k = some ⟨[[(.int .i64 17), (.string (moreV id m))]], 2, 35, true⟩)  : CQ Try.prog noDen 25 [(Pt b 0 0), (.agg ⟨[(.int .i64 130), (.int .i64 0), (W id), (.int .i64 0), (.int .i64 0), (.int .u32 0), (.string ByteArray.empty), (.int .u32 0), (.int .u32 0), (.int .i64 0), (.int .i64 0), (.slice (some ⟨k, 0, none⟩) 1 0), (.slice none 0 0), (.slice none 0 0), (.slice none 0 0)]⟩), (.int .i64 ((have_ : Nat) : Int))] n σ (fun v n' d => ∃ i, n ≤ i ∧ i < n' ∧ v = (.tuple ⟨[(.int .i64 ((m : Nat) : Int)), (.agg ⟨[(.int .i64 130), (.int .i64 0), (W id), (.int .i64 0), (.int .i64 0), (.int .u32 0), (.string ByteArray.empty), (.int .u32 0), (.int .u32 0), (.int .i64 0), (.int .i64 0), (.slice (some ⟨i, 0, none⟩) 1 0), (.slice none 0 0), (.slice none 0 0), (.slice none 0 0)]⟩), (.bool true)]⟩) ∧ d = [(b, some ⟨[[(.int .i64 wa), (W nx), (.int .i64 at_), (.int .i64 mn), (W (id + 1#32)), (.int .i64 1)]], 6, 94, true⟩), (i, some ⟨[[(.int .i64 16), (.string (resV id (BitVec.ofNat 32 1)))]], 2, 35, true⟩)]) := by
 have lhb := hd.lt hb
 have lhk := hd.lt hk
 have hne := w_ne id
 refine CQ.body (E := env) env_ok hd rfl rfl (by show _ ≤ _; exact of_decide_eq_true (by kernel_rfl)) ?_
 refine RA.seq hd ?_
 refine RA.region env_ok ?_
 refine OA.op1 (dst := (some 4)) (v := (Pt n 0 0)) (n1 := (n + 1)) (w := (n, some ⟨[(xRc16 id k)], 15, 53, true⟩)) rfl rfl rfl rfl (by omega) ?_
 refine OA.p (some 6) (.int .i64 0) rfl rfl rfl rfl ?_
 refine OA.op1 (dst := (some 7)) (v := (.pointer (some ⟨(n + 1), 0, some 0⟩))) (n1 := (n + 2)) (w := ((n + 1), some ⟨[xRc17], 15, 53, true⟩)) rfl rfl rfl rfl (by omega) ?_
 refine OA.p (some 8) (.bool false) rfl rfl rfl rfl ?_
 refine OA.nil ?_
 intro _
 refine RA.seq hd ?_
 refine RA.region env_ok ?_
 refine OA.p (some 16) (Pt n 0 11) rfl rfl rfl rfl ?_
 refine OA.p (some 17) (.slice (some ⟨k, 0, none⟩) 1 0) rfl rfl rfl (r_load1 rfl rfl rfl rfl rfl (get_there (by omega) get_here) rfl rfl) ?_
 refine OA.callP (dst := (some 18)) (all := [(.slice (some ⟨k, 0, none⟩) 1 0), (.int .i64 17)]) (v := (.tuple ⟨[(.agg ⟨[(.int .i64 17), (.string (moreV id m))]⟩), (.bool true)]⟩)) (hd.of (by omega) (kb2 (by omega))) rfl rfl rfl rfl rfl rfl rfl rfl (cFind17 k (moreV id m) (gt2 (by omega) hk)) ?_
 intro n1 hn1
 refine OA.p (some 15) (.tuple ⟨[(.agg ⟨[(.int .i64 17), (.string (moreV id m))]⟩), (.bool true)]⟩) rfl rfl rfl rfl ?_
 refine OA.p (some 19) (.agg ⟨[(.int .i64 17), (.string (moreV id m))]⟩) rfl rfl rfl rfl ?_
 refine OA.p (some 20) (.bool true) rfl rfl rfl rfl ?_
 refine OA.op1 (dst := (some 9)) (v := (Pt n1 0 0)) (n1 := (n1 + 1)) (w := (n1, some ⟨[[(.int .i64 0), (.string ByteArray.empty)]], 2, 35, true⟩)) rfl rfl rfl rfl (by omega) ?_
 refine OA.op1 (dst := none) (v := (.tuple #[])) (n1 := (n1 + 1)) (w := (n1, some ⟨[[(.int .i64 17), (.string (moreV id m))]], 2, 35, true⟩)) rfl rfl rfl (r_store rfl rfl rfl rfl rfl rfl rfl get_here rfl rfl (Nat.le_of_ble_eq_true rfl) rfl) (by omega) ?_
 refine OA.p (some 10) (.bool true) rfl rfl rfl rfl ?_
 refine OA.nil ?_
 intro _
 refine RA.weaken (D' := [(n1, some ⟨[[(.int .i64 17), (.string (moreV id m))]], 2, 35, true⟩), ((n + 1), some ⟨[xRc17], 15, 53, true⟩), (n, some ⟨[(xRc16 id k)], 15, 53, true⟩)]) hd (Less.of (fac (mm (fun _ => get_here) (fun _ => get_here)) (fac (mm (fun _ => (get_there (by omega) get_here)) (fun _ => (gt2 (by omega) get_here))) (fac (mm (fun _ => (gt2 (by omega) get_here)) (fun _ => (gt3 (by omega) get_here))) fan))) (gone_of (by simp only [goneP, memP, List.cons_append, List.nil_append, true_or, or_true, true_and, and_true, or_false] <;> omega))) ?_
 refine RA.seq hd ?_
 refine RA.region env_ok ?_
 refine OA.p (some 22) (.agg ⟨[(.int .i64 17), (.string (moreV id m))]⟩) rfl rfl rfl (r_loadA rfl rfl rfl rfl get_here rfl rfl rfl) ?_
 refine OA.callP (dst := (some 23)) (all := [(.agg ⟨[(.int .i64 17), (.string (moreV id m))]⟩)]) (v := (.tuple ⟨[(W id), (.int .i64 ((m : Nat) : Int)), (.bool true)]⟩)) (hd.of (by omega) (kb3 (by omega))) rfl rfl rfl rfl rfl rfl rfl rfl (sMM1 id m (by omega) (by omega)) ?_
 intro n2 hn2
 refine OA.p (some 21) (.tuple ⟨[(W id), (.int .i64 ((m : Nat) : Int)), (.bool true)]⟩) rfl rfl rfl rfl ?_
 refine OA.p (some 24) (W id) rfl rfl rfl rfl ?_
 refine OA.p (some 25) (.int .i64 ((m : Nat) : Int)) rfl rfl rfl rfl ?_
 refine OA.p (some 26) (.bool true) rfl rfl rfl rfl ?_
 refine OA.op1 (dst := (some 11)) (v := (Pt n2 0 0)) (n1 := (n2 + 1)) (w := (n2, some ⟨[[(.int .u32 0)]], 1, 36, true⟩)) rfl rfl rfl rfl (by omega) ?_
 refine OA.op1 (dst := none) (v := (.tuple #[])) (n1 := (n2 + 1)) (w := (n2, some ⟨[[(W id)]], 1, 36, true⟩)) rfl rfl rfl (r_store rfl rfl rfl rfl rfl rfl rfl get_here rfl rfl (Nat.le_of_ble_eq_true rfl) rfl) (by omega) ?_
 refine OA.p (some 12) (.int .i64 ((m : Nat) : Int)) rfl rfl rfl rfl ?_
 refine OA.p (some 13) (.bool true) rfl rfl rfl rfl ?_
 refine OA.nil ?_
 intro _
 refine RA.weaken (D' := [(n2, some ⟨[[(W id)]], 1, 36, true⟩), (n1, some ⟨[[(.int .i64 17), (.string (moreV id m))]], 2, 35, true⟩), ((n + 1), some ⟨[xRc17], 15, 53, true⟩), (n, some ⟨[(xRc16 id k)], 15, 53, true⟩)]) hd (Less.of (fac (mm (fun _ => get_here) (fun _ => get_here)) (fac (mm (fun _ => (get_there (by omega) get_here)) (fun _ => (gt2 (by omega) get_here))) (fac (mm (fun _ => (gt2 (by omega) get_here)) (fun _ => (gt3 (by omega) get_here))) (fac (mm (fun _ => (gt3 (by omega) get_here)) (fun _ => (gt4 (by omega) get_here))) fan)))) (gone_of (by simp only [goneP, memP, List.cons_append, List.nil_append, true_or, or_true, true_and, and_true, or_false] <;> omega))) ?_
 refine RA.seq hd ?_
 refine RA.seq hd ?_
 refine RA.region env_ok ?_
 refine OA.p (some 27) (Pt b 0 0) rfl rfl rfl rfl ?_
 refine OA.p (some 28) (.bool false) rfl rfl rfl rfl ?_
 refine OA.p (some 29) (.bool false) rfl rfl rfl rfl ?_
 refine OA.p (some 30) (Pt n 0 0) rfl rfl rfl rfl ?_
 refine OA.p (some 31) (.int .i64 130) rfl rfl rfl (r_load1 rfl rfl rfl rfl rfl (gt3 (by omega) get_here) rfl rfl) ?_
 refine OA.p (some 32) (.bool false) rfl rfl rfl (r_bin rfl rfl rfl (b_neq rfl)) ?_
 refine OA.p (some 33) (.bool false) rfl rfl rfl rfl ?_
 refine OA.p (some 34) (.bool false) rfl rfl rfl rfl ?_
 refine OA.p (some 35) (.bool true) rfl rfl rfl rfl ?_
 refine OA.p (some 36) (.bool false) rfl rfl rfl rfl ?_
 refine OA.p (some 37) (.bool false) rfl rfl rfl rfl ?_
 refine OA.nil ?_
 intro _
 refine RA.rebase [(0, (Pt b 0 0)), (1, (.agg ⟨(xRc16 id k)⟩)), (2, (.int .i64 ((have_ : Nat) : Int))), (4, (Pt n 0 0)), (6, (.int .i64 0)), (7, (.pointer (some ⟨(n + 1), 0, some 0⟩))), (8, (.bool false)), (9, (Pt n1 0 0)), (11, (Pt n2 0 0)), (12, (.int .i64 ((m : Nat) : Int))), (13, (.bool true)), (37, (.bool false))] ⟨rfl, rfl, rfl, rfl, rfl, rfl, rfl, rfl, rfl, rfl, rfl, rfl, trivial⟩ (fun τr3 => ?_)
 refine RA.condF rfl ?_
 refine RA.skip env_ok ?_
 intro _
 refine RA.seq hd ?_
 refine RA.region env_ok ?_
 refine OA.p (some 39) (.func (.func 64) ⟨[]⟩ ⟨[(Pt n 0 0), (Pt n2 0 0)]⟩) rfl rfl rfl rfl ?_
 refine OA.p (some 14) (.func (.func 64) ⟨[]⟩ ⟨[(Pt n 0 0), (Pt n2 0 0)]⟩) rfl rfl rfl rfl ?_
 refine OA.nil ?_
 intro _
 refine RA.seq hd ?_
 refine RA.block ?_
 refine RA.seq hd ?_
 refine RA.par (md := [some [n2], some [], some [], some [], some [b], some [], some [], some [], some [], some [], some [], some [b], some [], some [], some []]) env_ok (hd.of (by omega) (kb4 (by omega))) (by kernel_rfl) ?_
 refine PQ.pure (dst := (some 41)) (v := (W id)) rfl rfl rfl (app [(n2, some ⟨[[(W id)]], 1, 36, true⟩)] noStore) (seen_one (V := []) (D := [(n2, some ⟨[[(W id)]], 1, 36, true⟩), (n1, some ⟨[[(.int .i64 17), (.string (moreV id m))]], 2, 35, true⟩), ((n + 1), some ⟨[xRc17], 15, 53, true⟩), (n, some ⟨[(xRc16 id k)], 15, 53, true⟩)]) (by kernel_rfl) get_here) (r_load1 rfl rfl rfl rfl rfl get_here rfl rfl) ?_
 refine PQ.pure (dst := (some 42)) (v := (Pt b 0 0)) rfl rfl rfl noStore (none_ok _ _) rfl ?_
 refine PQ.pure (dst := (some 43)) (v := (Pt b 0 0)) rfl rfl rfl noStore (none_ok _ _) rfl ?_
 refine PQ.pure (dst := (some 44)) (v := (Pt b 0 4)) rfl rfl rfl noStore (none_ok _ _) rfl ?_
 refine PQ.pure (dst := (some 45)) (v := (W id)) rfl rfl rfl (app [(b, some ⟨[[(.int .i64 wa), (W nx), (.int .i64 at_), (.int .i64 mn), (W id), (.int .i64 la)]], 6, 94, true⟩)] noStore) (seen_one (V := []) (D := [(n2, some ⟨[[(W id)]], 1, 36, true⟩), (n1, some ⟨[[(.int .i64 17), (.string (moreV id m))]], 2, 35, true⟩), ((n + 1), some ⟨[xRc17], 15, 53, true⟩), (n, some ⟨[(xRc16 id k)], 15, 53, true⟩)]) (by kernel_rfl) (gt4 (by omega) hb)) (r_load1 rfl rfl rfl rfl rfl get_here rfl rfl) ?_
 refine PQ.pure (dst := (some 46)) (v := (W (id - (1#32)))) rfl rfl rfl noStore (none_ok _ _) (r_bin rfl rfl rfl (b_subW id (1#32))) ?_
 have hc1 : ¬ ((id.toNat : Int) = ((id - (1#32)).toNat : Int)) := fun hdd => by exfalso; first | omega | (exact hne hdd) | (exact hdd rfl) | (exact hnn hdd)
 refine PQ.pure (dst := (some 47)) (v := (.bool false)) rfl rfl rfl noStore (none_ok _ _) (Eq.trans (r_bin rfl rfl rfl (b_eql rfl)) (dF hc1)) ?_
 refine PQ.pure (dst := (some 48)) (v := (.bool false)) rfl rfl rfl noStore (none_ok _ _) rfl ?_
 refine PQ.off (dst := (some 49)) rfl rfl rfl ?_
 refine PQ.off (dst := (some 50)) rfl rfl rfl ?_
 refine PQ.off (dst := (some 51)) rfl rfl rfl ?_
 refine PQ.off (dst := (some 52)) rfl rfl rfl ?_
 refine PQ.off (dst := (some 53)) rfl rfl rfl ?_
 refine PQ.pure (dst := (some 54)) (v := (.bool false)) rfl rfl rfl noStore (none_ok _ _) rfl ?_
 refine PQ.pure (dst := (some 40)) (v := (.bool false)) rfl rfl rfl noStore (none_ok _ _) rfl ?_
 refine PQ.done (d := []) (by kernel_rfl) ?_
 intro _
 refine RA.condF rfl ?_
 refine RA.seq hd ?_
 refine RA.par (md := [some [n2], some [], some [], some [], some [b], some [], some []]) env_ok (hd.of (by omega) (kb4 (by omega))) (by kernel_rfl) ?_
 refine PQ.pure (dst := (some 62)) (v := (W id)) rfl rfl rfl (app [(n2, some ⟨[[(W id)]], 1, 36, true⟩)] noStore) (seen_one (V := []) (D := [(n2, some ⟨[[(W id)]], 1, 36, true⟩), (n1, some ⟨[[(.int .i64 17), (.string (moreV id m))]], 2, 35, true⟩), ((n + 1), some ⟨[xRc17], 15, 53, true⟩), (n, some ⟨[(xRc16 id k)], 15, 53, true⟩)]) (by kernel_rfl) get_here) (r_load1 rfl rfl rfl rfl rfl get_here rfl rfl) ?_
 refine PQ.pure (dst := (some 63)) (v := (Pt b 0 0)) rfl rfl rfl noStore (none_ok _ _) rfl ?_
 refine PQ.pure (dst := (some 64)) (v := (Pt b 0 0)) rfl rfl rfl noStore (none_ok _ _) rfl ?_
 refine PQ.pure (dst := (some 65)) (v := (Pt b 0 4)) rfl rfl rfl noStore (none_ok _ _) rfl ?_
 refine PQ.pure (dst := (some 66)) (v := (W id)) rfl rfl rfl (app [(b, some ⟨[[(.int .i64 wa), (W nx), (.int .i64 at_), (.int .i64 mn), (W id), (.int .i64 la)]], 6, 94, true⟩)] noStore) (seen_one (V := []) (D := [(n2, some ⟨[[(W id)]], 1, 36, true⟩), (n1, some ⟨[[(.int .i64 17), (.string (moreV id m))]], 2, 35, true⟩), ((n + 1), some ⟨[xRc17], 15, 53, true⟩), (n, some ⟨[(xRc16 id k)], 15, 53, true⟩)]) (by kernel_rfl) (gt4 (by omega) hb)) (r_load1 rfl rfl rfl rfl rfl get_here rfl rfl) ?_
 refine PQ.pure (dst := (some 67)) (v := (.bool false)) rfl rfl rfl noStore (none_ok _ _) (r_bin rfl rfl rfl (b_neq (decide_eq_false (fun h => h rfl)))) ?_
 refine PQ.pure (dst := (some 61)) (v := (.bool false)) rfl rfl rfl noStore (none_ok _ _) rfl ?_
 refine PQ.done (d := []) (by kernel_rfl) ?_
 intro _
 refine RA.condF rfl ?_
 refine RA.skip env_ok ?_
 intro _
 refine RA.seq hd ?_
 refine RA.region env_ok ?_
 refine OA.p (some 69) (Pt b 0 0) rfl rfl rfl rfl ?_
 refine OA.p (some 70) (Pt b 0 0) rfl rfl rfl rfl ?_
 refine OA.p (some 71) (Pt b 0 4) rfl rfl rfl rfl ?_
 refine OA.p (some 72) (W id) rfl rfl rfl (r_load1 rfl rfl rfl rfl rfl (gt4 (by omega) hb) rfl rfl) ?_
 refine OA.p (some 73) (W (id + (1#32))) rfl rfl rfl (r_bin rfl rfl rfl (b_addW id (1#32))) ?_
 refine OA.p (some 74) (Pt b 0 0) rfl rfl rfl rfl ?_
 refine OA.p (some 75) (Pt b 0 4) rfl rfl rfl rfl ?_
 refine OA.op1 (dst := none) (v := (.tuple #[])) (n1 := (n2 + 1)) (w := (b, some ⟨[[(.int .i64 wa), (W nx), (.int .i64 at_), (.int .i64 mn), (W (id + (1#32))), (.int .i64 la)]], 6, 94, true⟩)) rfl rfl rfl (r_store rfl rfl rfl rfl rfl rfl rfl (gt4 (by omega) hb) rfl rfl (Nat.le_of_ble_eq_true rfl) rfl) (by omega) ?_
 refine OA.nil ?_
 intro _
 refine RA.rebase [(0, (Pt b 0 0)), (1, (.agg ⟨(xRc16 id k)⟩)), (2, (.int .i64 ((have_ : Nat) : Int))), (4, (Pt n 0 0)), (6, (.int .i64 0)), (7, (.pointer (some ⟨(n + 1), 0, some 0⟩))), (8, (.bool false)), (9, (Pt n1 0 0)), (11, (Pt n2 0 0)), (12, (.int .i64 ((m : Nat) : Int))), (13, (.bool true)), (14, (.func (.func 64) ⟨[]⟩ ⟨[(Pt n 0 0), (Pt n2 0 0)]⟩)), (37, (.bool false)), (40, (.bool false)), (61, (.bool false))] ⟨rfl, rfl, rfl, rfl, rfl, rfl, rfl, rfl, rfl, rfl, rfl, rfl, rfl, rfl, rfl, trivial⟩ (fun τr4 => ?_)
 refine RA.seq hd ?_
 refine RA.seq hd ?_
 refine RA.region env_ok ?_
 refine OA.p (some 76) (Pt b 0 0) rfl rfl rfl rfl ?_
 refine OA.p (some 77) (Pt b 0 0) rfl rfl rfl rfl ?_
 refine OA.p (some 78) (Pt b 0 5) rfl rfl rfl rfl ?_
 refine OA.op1 (dst := none) (v := (.tuple #[])) (n1 := (n2 + 1)) (w := (b, some ⟨[(xRc19 wa nx at_ mn id)], 6, 94, true⟩)) rfl rfl rfl (r_store rfl rfl rfl rfl rfl rfl rfl get_here rfl rfl (Nat.le_of_ble_eq_true rfl) rfl) (by omega) ?_
 refine OA.nil ?_
 intro _
 refine RA.weaken (D' := [(b, some ⟨[(xRc19 wa nx at_ mn id)], 6, 94, true⟩), (n2, some ⟨[[(W id)]], 1, 36, true⟩), (n1, some ⟨[[(.int .i64 17), (.string (moreV id m))]], 2, 35, true⟩), ((n + 1), some ⟨[xRc17], 15, 53, true⟩), (n, some ⟨[(xRc16 id k)], 15, 53, true⟩)]) hd (Less.of (fac (mm (fun _ => get_here) (fun _ => get_here)) (fac (mm (fun _ => (get_there (by omega) get_here)) (fun _ => (gt2 (by omega) get_here))) (fac (mm (fun _ => (gt2 (by omega) get_here)) (fun _ => (gt3 (by omega) get_here))) (fac (mm (fun _ => (gt3 (by omega) get_here)) (fun _ => (gt4 (by omega) get_here))) (fac (mm (fun _ => (gt4 (by omega) get_here)) (fun _ => (gt5 (by omega) get_here))) fan))))) (gone_of (by simp only [goneP, memP, List.cons_append, List.nil_append, true_or, or_true, true_and, and_true, or_false] <;> omega))) ?_
 refine RA.seq hd ?_
 refine RA.region env_ok ?_
 refine OA.p (some 79) (.int .i64 ((m : Nat) : Int)) rfl rfl rfl rfl ?_
 refine OA.p (some 80) (.int .i64 ((have_ : Nat) : Int)) rfl rfl rfl rfl ?_
 refine OA.p (some 81) (.int .i64 (((16 - have_) : Nat) : Int)) rfl rfl rfl (r_bin rfl rfl rfl (b_sub (i64_eq (by omega)))) ?_
 have hc2 : ¬ ((((16 - have_) : Nat) : Int) < ((m : Nat) : Int)) := fun hdd => by exfalso; first | omega | (exact hne hdd) | (exact hdd rfl) | (exact hnn hdd)
 refine OA.p (some 82) (.bool false) rfl rfl rfl (Eq.trans (r_bin rfl rfl rfl (b_gtr rfl)) (dF hc2)) ?_
 refine OA.nil ?_
 intro _
 refine RA.condF rfl ?_
 refine RA.skip env_ok ?_
 intro _
 refine RA.seq hd ?_
 refine RA.region env_ok ?_
 refine OA.p (some 86) (.int .i64 ((m : Nat) : Int)) rfl rfl rfl rfl ?_
 refine OA.p (some 87) (.func (.func 64) ⟨[]⟩ ⟨[(Pt n 0 0), (Pt n2 0 0)]⟩) rfl rfl rfl rfl ?_
 refine OA.p (some 88) (Pt b 0 0) rfl rfl rfl rfl ?_
 refine OA.p (some 89) (Pt b 0 0) rfl rfl rfl rfl ?_
 refine OA.p (some 90) (Pt b 0 5) rfl rfl rfl rfl ?_
 refine OA.p (some 91) (.int .i64 1) rfl rfl rfl (r_load1 rfl rfl rfl rfl rfl get_here rfl rfl) ?_
 refine OA.call (dst := (some 92)) (all := [(.int .i64 1), (Pt n 0 0), (Pt n2 0 0)]) rfl rfl rfl rfl rfl rfl rfl rfl (CQ.imp (cBack (hd.of (by omega) (kb5 (by omega))) n n2 k id 1 (by omega) (by omega) (gt4 (by omega) get_here) (get_there (by omega) get_here)) ?_)
 rintro _ n5 _ ⟨in5, hin5a, hin5b, rfl, rfl⟩ hn5
 refine OA.app1 ?_
 refine OA.p (some 6) (.int .i64 ((m : Nat) : Int)) rfl rfl rfl rfl ?_
 refine OA.op1 (dst := none) (v := (.tuple #[])) (n1 := n5) (w := ((n + 1), some ⟨[(xRc11 id in5)], 15, 53, true⟩)) rfl rfl rfl (r_store rfl rfl rfl rfl rfl rfl rfl (gt4 (by omega) get_here) rfl rfl (Nat.le_of_ble_eq_true rfl) rfl) (by omega) ?_
 refine OA.p (some 8) (.bool true) rfl rfl rfl rfl ?_
 refine OA.nil ?_
 intro _
 refine RA.weaken (D' := [((n + 1), some ⟨[(xRc11 id in5)], 15, 53, true⟩), (in5, some ⟨[[(.int .i64 16), (.string (resV id (BitVec.ofNat 32 1)))]], 2, 35, true⟩), (b, some ⟨[(xRc19 wa nx at_ mn id)], 6, 94, true⟩), (n2, some ⟨[[(W id)]], 1, 36, true⟩), (n1, some ⟨[[(.int .i64 17), (.string (moreV id m))]], 2, 35, true⟩), (n, some ⟨[(xRc16 id k)], 15, 53, true⟩)]) hd (Less.of (fac (mm (fun _ => get_here) (fun _ => get_here)) (fac (mm (fun _ => (get_there (by omega) get_here)) (fun _ => (get_there (by omega) get_here))) (fac (mm (fun _ => (gt2 (by omega) get_here)) (fun _ => (gt2 (by omega) get_here))) (fac (mm (fun _ => (gt3 (by omega) get_here)) (fun _ => (gt3 (by omega) get_here))) (fac (mm (fun _ => (gt4 (by omega) get_here)) (fun _ => (gt4 (by omega) get_here))) (fac (mm (fun _ => (gt5 (by omega) get_here)) (fun _ => (gt6 (by omega) get_here))) fan)))))) (gone_of (by simp only [goneP, memP, List.cons_append, List.nil_append, true_or, or_true, true_and, and_true, or_false] <;> omega))) ?_
 refine RA.ret env_ok ?_
 refine ⟨.inr rfl, [(.int .i64 ((m : Nat) : Int)), (.agg ⟨(xRc11 id in5)⟩), (.bool true)], (resL_cons rfl (resL_cons (res_cellA rfl rfl rfl get_here rfl rfl rfl) (resL_cons rfl resL_nil))), [(b, some ⟨[(xRc19 wa nx at_ mn id)], 6, 94, true⟩), (in5, some ⟨[[(.int .i64 16), (.string (resV id (BitVec.ofNat 32 1)))]], 2, 35, true⟩)], (Less.of (fac (mm (fun _ => get_here) (fun _ => (gt2 (by omega) get_here))) (fac (mm (fun _ => (get_there (by omega) get_here)) (fun _ => (get_there (by omega) get_here))) fan)) (gone_of (by simp only [goneP, memP, List.cons_append, List.nil_append, true_or, or_true, true_and, and_true, or_false] <;> omega))), ⟨in5, by omega, by omega, rfl, rfl⟩⟩

theorem cAskB {n : Nat} {σ : Store} (hd : Dom n σ) (b k : Nat) (hbk : b ≠ k) (wa at_ mn : Int) (nx id : BitVec 32) (m have_ : Nat) (hm : 1 ≤ m ∧ m ≤ 8) (hh : have_ ≤ 16) (la : Int) (hlt : (((16 - have_) : Nat) : Int) < ((m : Nat) : Int)) (hb : σ b = some ⟨[[(.int .i64 wa), (W nx), (.int .i64 at_), (.int .i64 mn), (W id), (.int .i64 la)]], 6, 94, true⟩) (hk : σ k = some ⟨[[(.int .i64 17), (.string (moreV id m))]], 2, 35, true⟩)  : CQ Try.prog noDen 25 [(Pt b 0 0), (.agg ⟨[(.int .i64 130), (.int .i64 0), (W id), (.int .i64 0), (.int .i64 0), (.int .u32 0), (.string ByteArray.empty), (.int .u32 0), (.int .u32 0), (.int .i64 0), (.int .i64 0), (.slice (some ⟨k, 0, none⟩) 1 0), (.slice none 0 0), (.slice none 0 0), (.slice none 0 0)]⟩), (.int .i64 ((have_ : Nat) : Int))] n σ (fun v n' d => ∃ i, n ≤ i ∧ i < n' ∧ v = (.tuple ⟨[(.int .i64 0), (.agg ⟨[(.int .i64 130), (.int .i64 0), (W id), (.int .i64 0), (.int .i64 0), (.int .u32 0), (.string ByteArray.empty), (.int .u32 0), (.int .u32 0), (.int .i64 0), (.int .i64 0), (.slice (some ⟨i, 0, none⟩) 1 0), (.slice none 0 0), (.slice none 0 0), (.slice none 0 0)]⟩), (.bool true)]⟩) ∧ d = [(b, some ⟨[[(.int .i64 wa), (W nx), (.int .i64 at_), (.int .i64 mn), (W (id + 1#32)), (.int .i64 2)]], 6, 94, true⟩), (i, some ⟨[[(.int .i64 16), (.string (resV id (BitVec.ofNat 32 2)))]], 2, 35, true⟩)]) := by
 have lhb := hd.lt hb
 have lhk := hd.lt hk
 have hne := w_ne id
 refine CQ.body (E := env) env_ok hd rfl rfl (by show _ ≤ _; exact of_decide_eq_true (by kernel_rfl)) ?_
 refine RA.seq hd ?_
 refine RA.region env_ok ?_
 refine OA.op1 (dst := (some 4)) (v := (Pt n 0 0)) (n1 := (n + 1)) (w := (n, some ⟨[(xRc16 id k)], 15, 53, true⟩)) rfl rfl rfl rfl (by omega) ?_
 refine OA.p (some 6) (.int .i64 0) rfl rfl rfl rfl ?_
 refine OA.op1 (dst := (some 7)) (v := (.pointer (some ⟨(n + 1), 0, some 0⟩))) (n1 := (n + 2)) (w := ((n + 1), some ⟨[xRc17], 15, 53, true⟩)) rfl rfl rfl rfl (by omega) ?_
 refine OA.p (some 8) (.bool false) rfl rfl rfl rfl ?_
 refine OA.nil ?_
 intro _
 refine RA.seq hd ?_
 refine RA.region env_ok ?_
 refine OA.p (some 16) (Pt n 0 11) rfl rfl rfl rfl ?_
 refine OA.p (some 17) (.slice (some ⟨k, 0, none⟩) 1 0) rfl rfl rfl (r_load1 rfl rfl rfl rfl rfl (get_there (by omega) get_here) rfl rfl) ?_
 refine OA.callP (dst := (some 18)) (all := [(.slice (some ⟨k, 0, none⟩) 1 0), (.int .i64 17)]) (v := (.tuple ⟨[(.agg ⟨[(.int .i64 17), (.string (moreV id m))]⟩), (.bool true)]⟩)) (hd.of (by omega) (kb2 (by omega))) rfl rfl rfl rfl rfl rfl rfl rfl (cFind17 k (moreV id m) (gt2 (by omega) hk)) ?_
 intro n1 hn1
 refine OA.p (some 15) (.tuple ⟨[(.agg ⟨[(.int .i64 17), (.string (moreV id m))]⟩), (.bool true)]⟩) rfl rfl rfl rfl ?_
 refine OA.p (some 19) (.agg ⟨[(.int .i64 17), (.string (moreV id m))]⟩) rfl rfl rfl rfl ?_
 refine OA.p (some 20) (.bool true) rfl rfl rfl rfl ?_
 refine OA.op1 (dst := (some 9)) (v := (Pt n1 0 0)) (n1 := (n1 + 1)) (w := (n1, some ⟨[[(.int .i64 0), (.string ByteArray.empty)]], 2, 35, true⟩)) rfl rfl rfl rfl (by omega) ?_
 refine OA.op1 (dst := none) (v := (.tuple #[])) (n1 := (n1 + 1)) (w := (n1, some ⟨[[(.int .i64 17), (.string (moreV id m))]], 2, 35, true⟩)) rfl rfl rfl (r_store rfl rfl rfl rfl rfl rfl rfl get_here rfl rfl (Nat.le_of_ble_eq_true rfl) rfl) (by omega) ?_
 refine OA.p (some 10) (.bool true) rfl rfl rfl rfl ?_
 refine OA.nil ?_
 intro _
 refine RA.weaken (D' := [(n1, some ⟨[[(.int .i64 17), (.string (moreV id m))]], 2, 35, true⟩), ((n + 1), some ⟨[xRc17], 15, 53, true⟩), (n, some ⟨[(xRc16 id k)], 15, 53, true⟩)]) hd (Less.of (fac (mm (fun _ => get_here) (fun _ => get_here)) (fac (mm (fun _ => (get_there (by omega) get_here)) (fun _ => (gt2 (by omega) get_here))) (fac (mm (fun _ => (gt2 (by omega) get_here)) (fun _ => (gt3 (by omega) get_here))) fan))) (gone_of (by simp only [goneP, memP, List.cons_append, List.nil_append, true_or, or_true, true_and, and_true, or_false] <;> omega))) ?_
 refine RA.seq hd ?_
 refine RA.region env_ok ?_
 refine OA.p (some 22) (.agg ⟨[(.int .i64 17), (.string (moreV id m))]⟩) rfl rfl rfl (r_loadA rfl rfl rfl rfl get_here rfl rfl rfl) ?_
 refine OA.callP (dst := (some 23)) (all := [(.agg ⟨[(.int .i64 17), (.string (moreV id m))]⟩)]) (v := (.tuple ⟨[(W id), (.int .i64 ((m : Nat) : Int)), (.bool true)]⟩)) (hd.of (by omega) (kb3 (by omega))) rfl rfl rfl rfl rfl rfl rfl rfl (sMM1 id m (by omega) (by omega)) ?_
 intro n2 hn2
 refine OA.p (some 21) (.tuple ⟨[(W id), (.int .i64 ((m : Nat) : Int)), (.bool true)]⟩) rfl rfl rfl rfl ?_
 refine OA.p (some 24) (W id) rfl rfl rfl rfl ?_
 refine OA.p (some 25) (.int .i64 ((m : Nat) : Int)) rfl rfl rfl rfl ?_
 refine OA.p (some 26) (.bool true) rfl rfl rfl rfl ?_
 refine OA.op1 (dst := (some 11)) (v := (Pt n2 0 0)) (n1 := (n2 + 1)) (w := (n2, some ⟨[[(.int .u32 0)]], 1, 36, true⟩)) rfl rfl rfl rfl (by omega) ?_
 refine OA.op1 (dst := none) (v := (.tuple #[])) (n1 := (n2 + 1)) (w := (n2, some ⟨[[(W id)]], 1, 36, true⟩)) rfl rfl rfl (r_store rfl rfl rfl rfl rfl rfl rfl get_here rfl rfl (Nat.le_of_ble_eq_true rfl) rfl) (by omega) ?_
 refine OA.p (some 12) (.int .i64 ((m : Nat) : Int)) rfl rfl rfl rfl ?_
 refine OA.p (some 13) (.bool true) rfl rfl rfl rfl ?_
 refine OA.nil ?_
 intro _
 refine RA.weaken (D' := [(n2, some ⟨[[(W id)]], 1, 36, true⟩), (n1, some ⟨[[(.int .i64 17), (.string (moreV id m))]], 2, 35, true⟩), ((n + 1), some ⟨[xRc17], 15, 53, true⟩), (n, some ⟨[(xRc16 id k)], 15, 53, true⟩)]) hd (Less.of (fac (mm (fun _ => get_here) (fun _ => get_here)) (fac (mm (fun _ => (get_there (by omega) get_here)) (fun _ => (gt2 (by omega) get_here))) (fac (mm (fun _ => (gt2 (by omega) get_here)) (fun _ => (gt3 (by omega) get_here))) (fac (mm (fun _ => (gt3 (by omega) get_here)) (fun _ => (gt4 (by omega) get_here))) fan)))) (gone_of (by simp only [goneP, memP, List.cons_append, List.nil_append, true_or, or_true, true_and, and_true, or_false] <;> omega))) ?_
 refine RA.seq hd ?_
 refine RA.seq hd ?_
 refine RA.region env_ok ?_
 refine OA.p (some 27) (Pt b 0 0) rfl rfl rfl rfl ?_
 refine OA.p (some 28) (.bool false) rfl rfl rfl rfl ?_
 refine OA.p (some 29) (.bool false) rfl rfl rfl rfl ?_
 refine OA.p (some 30) (Pt n 0 0) rfl rfl rfl rfl ?_
 refine OA.p (some 31) (.int .i64 130) rfl rfl rfl (r_load1 rfl rfl rfl rfl rfl (gt3 (by omega) get_here) rfl rfl) ?_
 refine OA.p (some 32) (.bool false) rfl rfl rfl (r_bin rfl rfl rfl (b_neq rfl)) ?_
 refine OA.p (some 33) (.bool false) rfl rfl rfl rfl ?_
 refine OA.p (some 34) (.bool false) rfl rfl rfl rfl ?_
 refine OA.p (some 35) (.bool true) rfl rfl rfl rfl ?_
 refine OA.p (some 36) (.bool false) rfl rfl rfl rfl ?_
 refine OA.p (some 37) (.bool false) rfl rfl rfl rfl ?_
 refine OA.nil ?_
 intro _
 refine RA.rebase [(0, (Pt b 0 0)), (1, (.agg ⟨(xRc16 id k)⟩)), (2, (.int .i64 ((have_ : Nat) : Int))), (4, (Pt n 0 0)), (6, (.int .i64 0)), (7, (.pointer (some ⟨(n + 1), 0, some 0⟩))), (8, (.bool false)), (9, (Pt n1 0 0)), (11, (Pt n2 0 0)), (12, (.int .i64 ((m : Nat) : Int))), (13, (.bool true)), (37, (.bool false))] ⟨rfl, rfl, rfl, rfl, rfl, rfl, rfl, rfl, rfl, rfl, rfl, rfl, trivial⟩ (fun τr3 => ?_)
 refine RA.condF rfl ?_
 refine RA.skip env_ok ?_
 intro _
 refine RA.seq hd ?_
 refine RA.region env_ok ?_
 refine OA.p (some 39) (.func (.func 64) ⟨[]⟩ ⟨[(Pt n 0 0), (Pt n2 0 0)]⟩) rfl rfl rfl rfl ?_
 refine OA.p (some 14) (.func (.func 64) ⟨[]⟩ ⟨[(Pt n 0 0), (Pt n2 0 0)]⟩) rfl rfl rfl rfl ?_
 refine OA.nil ?_
 intro _
 refine RA.seq hd ?_
 refine RA.block ?_
 refine RA.seq hd ?_
 refine RA.par (md := [some [n2], some [], some [], some [], some [b], some [], some [], some [], some [], some [], some [], some [b], some [], some [], some []]) env_ok (hd.of (by omega) (kb4 (by omega))) (by kernel_rfl) ?_
 refine PQ.pure (dst := (some 41)) (v := (W id)) rfl rfl rfl (app [(n2, some ⟨[[(W id)]], 1, 36, true⟩)] noStore) (seen_one (V := []) (D := [(n2, some ⟨[[(W id)]], 1, 36, true⟩), (n1, some ⟨[[(.int .i64 17), (.string (moreV id m))]], 2, 35, true⟩), ((n + 1), some ⟨[xRc17], 15, 53, true⟩), (n, some ⟨[(xRc16 id k)], 15, 53, true⟩)]) (by kernel_rfl) get_here) (r_load1 rfl rfl rfl rfl rfl get_here rfl rfl) ?_
 refine PQ.pure (dst := (some 42)) (v := (Pt b 0 0)) rfl rfl rfl noStore (none_ok _ _) rfl ?_
 refine PQ.pure (dst := (some 43)) (v := (Pt b 0 0)) rfl rfl rfl noStore (none_ok _ _) rfl ?_
 refine PQ.pure (dst := (some 44)) (v := (Pt b 0 4)) rfl rfl rfl noStore (none_ok _ _) rfl ?_
 refine PQ.pure (dst := (some 45)) (v := (W id)) rfl rfl rfl (app [(b, some ⟨[[(.int .i64 wa), (W nx), (.int .i64 at_), (.int .i64 mn), (W id), (.int .i64 la)]], 6, 94, true⟩)] noStore) (seen_one (V := []) (D := [(n2, some ⟨[[(W id)]], 1, 36, true⟩), (n1, some ⟨[[(.int .i64 17), (.string (moreV id m))]], 2, 35, true⟩), ((n + 1), some ⟨[xRc17], 15, 53, true⟩), (n, some ⟨[(xRc16 id k)], 15, 53, true⟩)]) (by kernel_rfl) (gt4 (by omega) hb)) (r_load1 rfl rfl rfl rfl rfl get_here rfl rfl) ?_
 refine PQ.pure (dst := (some 46)) (v := (W (id - (1#32)))) rfl rfl rfl noStore (none_ok _ _) (r_bin rfl rfl rfl (b_subW id (1#32))) ?_
 have hc1 : ¬ ((id.toNat : Int) = ((id - (1#32)).toNat : Int)) := fun hdd => by exfalso; first | omega | (exact hne hdd) | (exact hdd rfl) | (exact hnn hdd)
 refine PQ.pure (dst := (some 47)) (v := (.bool false)) rfl rfl rfl noStore (none_ok _ _) (Eq.trans (r_bin rfl rfl rfl (b_eql rfl)) (dF hc1)) ?_
 refine PQ.pure (dst := (some 48)) (v := (.bool false)) rfl rfl rfl noStore (none_ok _ _) rfl ?_
 refine PQ.off (dst := (some 49)) rfl rfl rfl ?_
 refine PQ.off (dst := (some 50)) rfl rfl rfl ?_
 refine PQ.off (dst := (some 51)) rfl rfl rfl ?_
 refine PQ.off (dst := (some 52)) rfl rfl rfl ?_
 refine PQ.off (dst := (some 53)) rfl rfl rfl ?_
 refine PQ.pure (dst := (some 54)) (v := (.bool false)) rfl rfl rfl noStore (none_ok _ _) rfl ?_
 refine PQ.pure (dst := (some 40)) (v := (.bool false)) rfl rfl rfl noStore (none_ok _ _) rfl ?_
 refine PQ.done (d := []) (by kernel_rfl) ?_
 intro _
 refine RA.condF rfl ?_
 refine RA.seq hd ?_
 refine RA.par (md := [some [n2], some [], some [], some [], some [b], some [], some []]) env_ok (hd.of (by omega) (kb4 (by omega))) (by kernel_rfl) ?_
 refine PQ.pure (dst := (some 62)) (v := (W id)) rfl rfl rfl (app [(n2, some ⟨[[(W id)]], 1, 36, true⟩)] noStore) (seen_one (V := []) (D := [(n2, some ⟨[[(W id)]], 1, 36, true⟩), (n1, some ⟨[[(.int .i64 17), (.string (moreV id m))]], 2, 35, true⟩), ((n + 1), some ⟨[xRc17], 15, 53, true⟩), (n, some ⟨[(xRc16 id k)], 15, 53, true⟩)]) (by kernel_rfl) get_here) (r_load1 rfl rfl rfl rfl rfl get_here rfl rfl) ?_
 refine PQ.pure (dst := (some 63)) (v := (Pt b 0 0)) rfl rfl rfl noStore (none_ok _ _) rfl ?_
 refine PQ.pure (dst := (some 64)) (v := (Pt b 0 0)) rfl rfl rfl noStore (none_ok _ _) rfl ?_
 refine PQ.pure (dst := (some 65)) (v := (Pt b 0 4)) rfl rfl rfl noStore (none_ok _ _) rfl ?_
 refine PQ.pure (dst := (some 66)) (v := (W id)) rfl rfl rfl (app [(b, some ⟨[[(.int .i64 wa), (W nx), (.int .i64 at_), (.int .i64 mn), (W id), (.int .i64 la)]], 6, 94, true⟩)] noStore) (seen_one (V := []) (D := [(n2, some ⟨[[(W id)]], 1, 36, true⟩), (n1, some ⟨[[(.int .i64 17), (.string (moreV id m))]], 2, 35, true⟩), ((n + 1), some ⟨[xRc17], 15, 53, true⟩), (n, some ⟨[(xRc16 id k)], 15, 53, true⟩)]) (by kernel_rfl) (gt4 (by omega) hb)) (r_load1 rfl rfl rfl rfl rfl get_here rfl rfl) ?_
 refine PQ.pure (dst := (some 67)) (v := (.bool false)) rfl rfl rfl noStore (none_ok _ _) (r_bin rfl rfl rfl (b_neq (decide_eq_false (fun h => h rfl)))) ?_
 refine PQ.pure (dst := (some 61)) (v := (.bool false)) rfl rfl rfl noStore (none_ok _ _) rfl ?_
 refine PQ.done (d := []) (by kernel_rfl) ?_
 intro _
 refine RA.condF rfl ?_
 refine RA.skip env_ok ?_
 intro _
 refine RA.seq hd ?_
 refine RA.region env_ok ?_
 refine OA.p (some 69) (Pt b 0 0) rfl rfl rfl rfl ?_
 refine OA.p (some 70) (Pt b 0 0) rfl rfl rfl rfl ?_
 refine OA.p (some 71) (Pt b 0 4) rfl rfl rfl rfl ?_
 refine OA.p (some 72) (W id) rfl rfl rfl (r_load1 rfl rfl rfl rfl rfl (gt4 (by omega) hb) rfl rfl) ?_
 refine OA.p (some 73) (W (id + (1#32))) rfl rfl rfl (r_bin rfl rfl rfl (b_addW id (1#32))) ?_
 refine OA.p (some 74) (Pt b 0 0) rfl rfl rfl rfl ?_
 refine OA.p (some 75) (Pt b 0 4) rfl rfl rfl rfl ?_
 refine OA.op1 (dst := none) (v := (.tuple #[])) (n1 := (n2 + 1)) (w := (b, some ⟨[[(.int .i64 wa), (W nx), (.int .i64 at_), (.int .i64 mn), (W (id + (1#32))), (.int .i64 la)]], 6, 94, true⟩)) rfl rfl rfl (r_store rfl rfl rfl rfl rfl rfl rfl (gt4 (by omega) hb) rfl rfl (Nat.le_of_ble_eq_true rfl) rfl) (by omega) ?_
 refine OA.nil ?_
 intro _
 refine RA.rebase [(0, (Pt b 0 0)), (1, (.agg ⟨(xRc16 id k)⟩)), (2, (.int .i64 ((have_ : Nat) : Int))), (4, (Pt n 0 0)), (6, (.int .i64 0)), (7, (.pointer (some ⟨(n + 1), 0, some 0⟩))), (8, (.bool false)), (9, (Pt n1 0 0)), (11, (Pt n2 0 0)), (12, (.int .i64 ((m : Nat) : Int))), (13, (.bool true)), (14, (.func (.func 64) ⟨[]⟩ ⟨[(Pt n 0 0), (Pt n2 0 0)]⟩)), (37, (.bool false)), (40, (.bool false)), (61, (.bool false))] ⟨rfl, rfl, rfl, rfl, rfl, rfl, rfl, rfl, rfl, rfl, rfl, rfl, rfl, rfl, rfl, trivial⟩ (fun τr4 => ?_)
 refine RA.seq hd ?_
 refine RA.seq hd ?_
 refine RA.region env_ok ?_
 refine OA.p (some 76) (Pt b 0 0) rfl rfl rfl rfl ?_
 refine OA.p (some 77) (Pt b 0 0) rfl rfl rfl rfl ?_
 refine OA.p (some 78) (Pt b 0 5) rfl rfl rfl rfl ?_
 refine OA.op1 (dst := none) (v := (.tuple #[])) (n1 := (n2 + 1)) (w := (b, some ⟨[(xRc19 wa nx at_ mn id)], 6, 94, true⟩)) rfl rfl rfl (r_store rfl rfl rfl rfl rfl rfl rfl get_here rfl rfl (Nat.le_of_ble_eq_true rfl) rfl) (by omega) ?_
 refine OA.nil ?_
 intro _
 refine RA.weaken (D' := [(b, some ⟨[(xRc19 wa nx at_ mn id)], 6, 94, true⟩), (n2, some ⟨[[(W id)]], 1, 36, true⟩), (n1, some ⟨[[(.int .i64 17), (.string (moreV id m))]], 2, 35, true⟩), ((n + 1), some ⟨[xRc17], 15, 53, true⟩), (n, some ⟨[(xRc16 id k)], 15, 53, true⟩)]) hd (Less.of (fac (mm (fun _ => get_here) (fun _ => get_here)) (fac (mm (fun _ => (get_there (by omega) get_here)) (fun _ => (gt2 (by omega) get_here))) (fac (mm (fun _ => (gt2 (by omega) get_here)) (fun _ => (gt3 (by omega) get_here))) (fac (mm (fun _ => (gt3 (by omega) get_here)) (fun _ => (gt4 (by omega) get_here))) (fac (mm (fun _ => (gt4 (by omega) get_here)) (fun _ => (gt5 (by omega) get_here))) fan))))) (gone_of (by simp only [goneP, memP, List.cons_append, List.nil_append, true_or, or_true, true_and, and_true, or_false] <;> omega))) ?_
 refine RA.seq hd ?_
 refine RA.region env_ok ?_
 refine OA.p (some 79) (.int .i64 ((m : Nat) : Int)) rfl rfl rfl rfl ?_
 refine OA.p (some 80) (.int .i64 ((have_ : Nat) : Int)) rfl rfl rfl rfl ?_
 refine OA.p (some 81) (.int .i64 (((16 - have_) : Nat) : Int)) rfl rfl rfl (r_bin rfl rfl rfl (b_sub (i64_eq (by omega)))) ?_
 have hc2 : (((16 - have_) : Nat) : Int) < ((m : Nat) : Int) := Classical.byContradiction (fun hdd => by exfalso; first | omega | (exact hne hdd) | (exact hdd rfl) | (exact hnn hdd))
 refine OA.p (some 82) (.bool true) rfl rfl rfl (Eq.trans (r_bin rfl rfl rfl (b_gtr rfl)) (dT hc2)) ?_
 refine OA.nil ?_
 intro _
 refine RA.condT rfl ?_
 refine RA.region env_ok ?_
 refine OA.p (some 83) (Pt b 0 0) rfl rfl rfl rfl ?_
 refine OA.p (some 84) (Pt b 0 0) rfl rfl rfl rfl ?_
 refine OA.p (some 85) (Pt b 0 5) rfl rfl rfl rfl ?_
 refine OA.op1 (dst := none) (v := (.tuple #[])) (n1 := (n2 + 1)) (w := (b, some ⟨[(xRc110 wa nx at_ mn id)], 6, 94, true⟩)) rfl rfl rfl (r_store rfl rfl rfl rfl rfl rfl rfl get_here rfl rfl (Nat.le_of_ble_eq_true rfl) rfl) (by omega) ?_
 refine OA.p (some 12) (.int .i64 0) rfl rfl rfl rfl ?_
 refine OA.nil ?_
 intro _
 refine RA.weaken (D' := [(b, some ⟨[(xRc110 wa nx at_ mn id)], 6, 94, true⟩), (n2, some ⟨[[(W id)]], 1, 36, true⟩), (n1, some ⟨[[(.int .i64 17), (.string (moreV id m))]], 2, 35, true⟩), ((n + 1), some ⟨[xRc17], 15, 53, true⟩), (n, some ⟨[(xRc16 id k)], 15, 53, true⟩)]) hd (Less.of (fac (mm (fun _ => get_here) (fun _ => get_here)) (fac (mm (fun _ => (get_there (by omega) get_here)) (fun _ => (gt2 (by omega) get_here))) (fac (mm (fun _ => (gt2 (by omega) get_here)) (fun _ => (gt3 (by omega) get_here))) (fac (mm (fun _ => (gt3 (by omega) get_here)) (fun _ => (gt4 (by omega) get_here))) (fac (mm (fun _ => (gt4 (by omega) get_here)) (fun _ => (gt5 (by omega) get_here))) fan))))) (gone_of (by simp only [goneP, memP, List.cons_append, List.nil_append, true_or, or_true, true_and, and_true, or_false] <;> omega))) ?_
 refine RA.seq hd ?_
 refine RA.region env_ok ?_
 refine OA.p (some 86) (.int .i64 0) rfl rfl rfl rfl ?_
 refine OA.p (some 87) (.func (.func 64) ⟨[]⟩ ⟨[(Pt n 0 0), (Pt n2 0 0)]⟩) rfl rfl rfl rfl ?_
 refine OA.p (some 88) (Pt b 0 0) rfl rfl rfl rfl ?_
 refine OA.p (some 89) (Pt b 0 0) rfl rfl rfl rfl ?_
 refine OA.p (some 90) (Pt b 0 5) rfl rfl rfl rfl ?_
 refine OA.p (some 91) (.int .i64 2) rfl rfl rfl (r_load1 rfl rfl rfl rfl rfl get_here rfl rfl) ?_
 refine OA.call (dst := (some 92)) (all := [(.int .i64 2), (Pt n 0 0), (Pt n2 0 0)]) rfl rfl rfl rfl rfl rfl rfl rfl (CQ.imp (cBack (hd.of (by omega) (kb5 (by omega))) n n2 k id 2 (by omega) (by omega) (gt4 (by omega) get_here) (get_there (by omega) get_here)) ?_)
 rintro _ n5 _ ⟨in5, hin5a, hin5b, rfl, rfl⟩ hn5
 refine OA.app1 ?_
 refine OA.p (some 6) (.int .i64 0) rfl rfl rfl rfl ?_
 refine OA.op1 (dst := none) (v := (.tuple #[])) (n1 := n5) (w := ((n + 1), some ⟨[(xRc11 id in5)], 15, 53, true⟩)) rfl rfl rfl (r_store rfl rfl rfl rfl rfl rfl rfl (gt4 (by omega) get_here) rfl rfl (Nat.le_of_ble_eq_true rfl) rfl) (by omega) ?_
 refine OA.p (some 8) (.bool true) rfl rfl rfl rfl ?_
 refine OA.nil ?_
 intro _
 refine RA.weaken (D' := [((n + 1), some ⟨[(xRc11 id in5)], 15, 53, true⟩), (in5, some ⟨[[(.int .i64 16), (.string (resV id (BitVec.ofNat 32 2)))]], 2, 35, true⟩), (b, some ⟨[(xRc110 wa nx at_ mn id)], 6, 94, true⟩), (n2, some ⟨[[(W id)]], 1, 36, true⟩), (n1, some ⟨[[(.int .i64 17), (.string (moreV id m))]], 2, 35, true⟩), (n, some ⟨[(xRc16 id k)], 15, 53, true⟩)]) hd (Less.of (fac (mm (fun _ => get_here) (fun _ => get_here)) (fac (mm (fun _ => (get_there (by omega) get_here)) (fun _ => (get_there (by omega) get_here))) (fac (mm (fun _ => (gt2 (by omega) get_here)) (fun _ => (gt2 (by omega) get_here))) (fac (mm (fun _ => (gt3 (by omega) get_here)) (fun _ => (gt3 (by omega) get_here))) (fac (mm (fun _ => (gt4 (by omega) get_here)) (fun _ => (gt4 (by omega) get_here))) (fac (mm (fun _ => (gt5 (by omega) get_here)) (fun _ => (gt6 (by omega) get_here))) fan)))))) (gone_of (by simp only [goneP, memP, List.cons_append, List.nil_append, true_or, or_true, true_and, and_true, or_false] <;> omega))) ?_
 refine RA.ret env_ok ?_
 refine ⟨.inr rfl, [(.int .i64 0), (.agg ⟨(xRc11 id in5)⟩), (.bool true)], (resL_cons rfl (resL_cons (res_cellA rfl rfl rfl get_here rfl rfl rfl) (resL_cons rfl resL_nil))), [(b, some ⟨[(xRc110 wa nx at_ mn id)], 6, 94, true⟩), (in5, some ⟨[[(.int .i64 16), (.string (resV id (BitVec.ofNat 32 2)))]], 2, 35, true⟩)], (Less.of (fac (mm (fun _ => get_here) (fun _ => (gt2 (by omega) get_here))) (fac (mm (fun _ => (get_there (by omega) get_here)) (fun _ => (get_there (by omega) get_here))) fan)) (gone_of (by simp only [goneP, memP, List.cons_append, List.nil_append, true_or, or_true, true_and, and_true, or_false] <;> omega))), ⟨in5, by omega, by omega, rfl, rfl⟩⟩

theorem cAskO {n : Nat} {σ : Store} (hd : Dom n σ) (b k : Nat) (hbk : b ≠ k) (wa at_ mn : Int) (nx id : BitVec 32) (m have_ : Nat) (hm : 1 ≤ m ∧ m ≤ 8) (hh : have_ ≤ 16) (pe : BitVec 32) (la : Nat) (hla : la ≤ 2) (hl0 : ¬ ((la : Nat) : Int) = 0) (hid : (id.toNat : Int) = ((pe - 1#32).toNat : Int)) (hb : σ b = some ⟨[[(.int .i64 wa), (W nx), (.int .i64 at_), (.int .i64 mn), (W pe), (.int .i64 ((la : Nat) : Int))]], 6, 94, true⟩) (hk : σ k = some ⟨[[(.int .i64 17), (.string (moreV id m))]], 2, 35, true⟩)  : CQ Try.prog noDen 25 [(Pt b 0 0), (.agg ⟨[(.int .i64 130), (.int .i64 0), (W id), (.int .i64 0), (.int .i64 0), (.int .u32 0), (.string ByteArray.empty), (.int .u32 0), (.int .u32 0), (.int .i64 0), (.int .i64 0), (.slice (some ⟨k, 0, none⟩) 1 0), (.slice none 0 0), (.slice none 0 0), (.slice none 0 0)]⟩), (.int .i64 ((have_ : Nat) : Int))] n σ (fun v n' d => ∃ i, n ≤ i ∧ i < n' ∧ v = (.tuple ⟨[(.int .i64 0), (.agg ⟨[(.int .i64 130), (.int .i64 0), (W id), (.int .i64 0), (.int .i64 0), (.int .u32 0), (.string ByteArray.empty), (.int .u32 0), (.int .u32 0), (.int .i64 0), (.int .i64 0), (.slice (some ⟨i, 0, none⟩) 1 0), (.slice none 0 0), (.slice none 0 0), (.slice none 0 0)]⟩), (.bool true)]⟩) ∧ d = [(i, some ⟨[[(.int .i64 16), (.string (resV id (BitVec.ofNat 32 la)))]], 2, 35, true⟩)]) := by
 have lhb := hd.lt hb
 have lhk := hd.lt hk
 refine CQ.body (E := env) env_ok hd rfl rfl (by show _ ≤ _; exact of_decide_eq_true (by kernel_rfl)) ?_
 refine RA.seq hd ?_
 refine RA.region env_ok ?_
 refine OA.op1 (dst := (some 4)) (v := (Pt n 0 0)) (n1 := (n + 1)) (w := (n, some ⟨[(xRc16 id k)], 15, 53, true⟩)) rfl rfl rfl rfl (by omega) ?_
 refine OA.p (some 6) (.int .i64 0) rfl rfl rfl rfl ?_
 refine OA.op1 (dst := (some 7)) (v := (.pointer (some ⟨(n + 1), 0, some 0⟩))) (n1 := (n + 2)) (w := ((n + 1), some ⟨[xRc17], 15, 53, true⟩)) rfl rfl rfl rfl (by omega) ?_
 refine OA.p (some 8) (.bool false) rfl rfl rfl rfl ?_
 refine OA.nil ?_
 intro _
 refine RA.seq hd ?_
 refine RA.region env_ok ?_
 refine OA.p (some 16) (Pt n 0 11) rfl rfl rfl rfl ?_
 refine OA.p (some 17) (.slice (some ⟨k, 0, none⟩) 1 0) rfl rfl rfl (r_load1 rfl rfl rfl rfl rfl (get_there (by omega) get_here) rfl rfl) ?_
 refine OA.callP (dst := (some 18)) (all := [(.slice (some ⟨k, 0, none⟩) 1 0), (.int .i64 17)]) (v := (.tuple ⟨[(.agg ⟨[(.int .i64 17), (.string (moreV id m))]⟩), (.bool true)]⟩)) (hd.of (by omega) (kb2 (by omega))) rfl rfl rfl rfl rfl rfl rfl rfl (cFind17 k (moreV id m) (gt2 (by omega) hk)) ?_
 intro n1 hn1
 refine OA.p (some 15) (.tuple ⟨[(.agg ⟨[(.int .i64 17), (.string (moreV id m))]⟩), (.bool true)]⟩) rfl rfl rfl rfl ?_
 refine OA.p (some 19) (.agg ⟨[(.int .i64 17), (.string (moreV id m))]⟩) rfl rfl rfl rfl ?_
 refine OA.p (some 20) (.bool true) rfl rfl rfl rfl ?_
 refine OA.op1 (dst := (some 9)) (v := (Pt n1 0 0)) (n1 := (n1 + 1)) (w := (n1, some ⟨[[(.int .i64 0), (.string ByteArray.empty)]], 2, 35, true⟩)) rfl rfl rfl rfl (by omega) ?_
 refine OA.op1 (dst := none) (v := (.tuple #[])) (n1 := (n1 + 1)) (w := (n1, some ⟨[[(.int .i64 17), (.string (moreV id m))]], 2, 35, true⟩)) rfl rfl rfl (r_store rfl rfl rfl rfl rfl rfl rfl get_here rfl rfl (Nat.le_of_ble_eq_true rfl) rfl) (by omega) ?_
 refine OA.p (some 10) (.bool true) rfl rfl rfl rfl ?_
 refine OA.nil ?_
 intro _
 refine RA.weaken (D' := [(n1, some ⟨[[(.int .i64 17), (.string (moreV id m))]], 2, 35, true⟩), ((n + 1), some ⟨[xRc17], 15, 53, true⟩), (n, some ⟨[(xRc16 id k)], 15, 53, true⟩)]) hd (Less.of (fac (mm (fun _ => get_here) (fun _ => get_here)) (fac (mm (fun _ => (get_there (by omega) get_here)) (fun _ => (gt2 (by omega) get_here))) (fac (mm (fun _ => (gt2 (by omega) get_here)) (fun _ => (gt3 (by omega) get_here))) fan))) (gone_of (by simp only [goneP, memP, List.cons_append, List.nil_append, true_or, or_true, true_and, and_true, or_false] <;> omega))) ?_
 refine RA.seq hd ?_
 refine RA.region env_ok ?_
 refine OA.p (some 22) (.agg ⟨[(.int .i64 17), (.string (moreV id m))]⟩) rfl rfl rfl (r_loadA rfl rfl rfl rfl get_here rfl rfl rfl) ?_
 refine OA.callP (dst := (some 23)) (all := [(.agg ⟨[(.int .i64 17), (.string (moreV id m))]⟩)]) (v := (.tuple ⟨[(W id), (.int .i64 ((m : Nat) : Int)), (.bool true)]⟩)) (hd.of (by omega) (kb3 (by omega))) rfl rfl rfl rfl rfl rfl rfl rfl (sMM1 id m (by omega) (by omega)) ?_
 intro n2 hn2
 refine OA.p (some 21) (.tuple ⟨[(W id), (.int .i64 ((m : Nat) : Int)), (.bool true)]⟩) rfl rfl rfl rfl ?_
 refine OA.p (some 24) (W id) rfl rfl rfl rfl ?_
 refine OA.p (some 25) (.int .i64 ((m : Nat) : Int)) rfl rfl rfl rfl ?_
 refine OA.p (some 26) (.bool true) rfl rfl rfl rfl ?_
 refine OA.op1 (dst := (some 11)) (v := (Pt n2 0 0)) (n1 := (n2 + 1)) (w := (n2, some ⟨[[(.int .u32 0)]], 1, 36, true⟩)) rfl rfl rfl rfl (by omega) ?_
 refine OA.op1 (dst := none) (v := (.tuple #[])) (n1 := (n2 + 1)) (w := (n2, some ⟨[[(W id)]], 1, 36, true⟩)) rfl rfl rfl (r_store rfl rfl rfl rfl rfl rfl rfl get_here rfl rfl (Nat.le_of_ble_eq_true rfl) rfl) (by omega) ?_
 refine OA.p (some 12) (.int .i64 ((m : Nat) : Int)) rfl rfl rfl rfl ?_
 refine OA.p (some 13) (.bool true) rfl rfl rfl rfl ?_
 refine OA.nil ?_
 intro _
 refine RA.weaken (D' := [(n2, some ⟨[[(W id)]], 1, 36, true⟩), (n1, some ⟨[[(.int .i64 17), (.string (moreV id m))]], 2, 35, true⟩), ((n + 1), some ⟨[xRc17], 15, 53, true⟩), (n, some ⟨[(xRc16 id k)], 15, 53, true⟩)]) hd (Less.of (fac (mm (fun _ => get_here) (fun _ => get_here)) (fac (mm (fun _ => (get_there (by omega) get_here)) (fun _ => (gt2 (by omega) get_here))) (fac (mm (fun _ => (gt2 (by omega) get_here)) (fun _ => (gt3 (by omega) get_here))) (fac (mm (fun _ => (gt3 (by omega) get_here)) (fun _ => (gt4 (by omega) get_here))) fan)))) (gone_of (by simp only [goneP, memP, List.cons_append, List.nil_append, true_or, or_true, true_and, and_true, or_false] <;> omega))) ?_
 refine RA.seq hd ?_
 refine RA.seq hd ?_
 refine RA.region env_ok ?_
 refine OA.p (some 27) (Pt b 0 0) rfl rfl rfl rfl ?_
 refine OA.p (some 28) (.bool false) rfl rfl rfl rfl ?_
 refine OA.p (some 29) (.bool false) rfl rfl rfl rfl ?_
 refine OA.p (some 30) (Pt n 0 0) rfl rfl rfl rfl ?_
 refine OA.p (some 31) (.int .i64 130) rfl rfl rfl (r_load1 rfl rfl rfl rfl rfl (gt3 (by omega) get_here) rfl rfl) ?_
 refine OA.p (some 32) (.bool false) rfl rfl rfl (r_bin rfl rfl rfl (b_neq rfl)) ?_
 refine OA.p (some 33) (.bool false) rfl rfl rfl rfl ?_
 refine OA.p (some 34) (.bool false) rfl rfl rfl rfl ?_
 refine OA.p (some 35) (.bool true) rfl rfl rfl rfl ?_
 refine OA.p (some 36) (.bool false) rfl rfl rfl rfl ?_
 refine OA.p (some 37) (.bool false) rfl rfl rfl rfl ?_
 refine OA.nil ?_
 intro _
 refine RA.rebase [(0, (Pt b 0 0)), (1, (.agg ⟨(xRc16 id k)⟩)), (2, (.int .i64 ((have_ : Nat) : Int))), (4, (Pt n 0 0)), (6, (.int .i64 0)), (7, (.pointer (some ⟨(n + 1), 0, some 0⟩))), (8, (.bool false)), (9, (Pt n1 0 0)), (11, (Pt n2 0 0)), (12, (.int .i64 ((m : Nat) : Int))), (13, (.bool true)), (37, (.bool false))] ⟨rfl, rfl, rfl, rfl, rfl, rfl, rfl, rfl, rfl, rfl, rfl, rfl, trivial⟩ (fun τr3 => ?_)
 refine RA.condF rfl ?_
 refine RA.skip env_ok ?_
 intro _
 refine RA.seq hd ?_
 refine RA.region env_ok ?_
 refine OA.p (some 39) (.func (.func 64) ⟨[]⟩ ⟨[(Pt n 0 0), (Pt n2 0 0)]⟩) rfl rfl rfl rfl ?_
 refine OA.p (some 14) (.func (.func 64) ⟨[]⟩ ⟨[(Pt n 0 0), (Pt n2 0 0)]⟩) rfl rfl rfl rfl ?_
 refine OA.nil ?_
 intro _
 refine RA.seq hd ?_
 refine RA.block ?_
 refine RA.seq hd ?_
 refine RA.par (md := [some [n2], some [], some [], some [], some [b], some [], some [], some [], some [], some [], some [], some [b], some [], some [], some []]) env_ok (hd.of (by omega) (kb4 (by omega))) (by kernel_rfl) ?_
 refine PQ.pure (dst := (some 41)) (v := (W id)) rfl rfl rfl (app [(n2, some ⟨[[(W id)]], 1, 36, true⟩)] noStore) (seen_one (V := []) (D := [(n2, some ⟨[[(W id)]], 1, 36, true⟩), (n1, some ⟨[[(.int .i64 17), (.string (moreV id m))]], 2, 35, true⟩), ((n + 1), some ⟨[xRc17], 15, 53, true⟩), (n, some ⟨[(xRc16 id k)], 15, 53, true⟩)]) (by kernel_rfl) get_here) (r_load1 rfl rfl rfl rfl rfl get_here rfl rfl) ?_
 refine PQ.pure (dst := (some 42)) (v := (Pt b 0 0)) rfl rfl rfl noStore (none_ok _ _) rfl ?_
 refine PQ.pure (dst := (some 43)) (v := (Pt b 0 0)) rfl rfl rfl noStore (none_ok _ _) rfl ?_
 refine PQ.pure (dst := (some 44)) (v := (Pt b 0 4)) rfl rfl rfl noStore (none_ok _ _) rfl ?_
 refine PQ.pure (dst := (some 45)) (v := (W pe)) rfl rfl rfl (app [(b, some ⟨[(xRc18 wa nx at_ mn pe la)], 6, 94, true⟩)] noStore) (seen_one (V := []) (D := [(n2, some ⟨[[(W id)]], 1, 36, true⟩), (n1, some ⟨[[(.int .i64 17), (.string (moreV id m))]], 2, 35, true⟩), ((n + 1), some ⟨[xRc17], 15, 53, true⟩), (n, some ⟨[(xRc16 id k)], 15, 53, true⟩)]) (by kernel_rfl) (gt4 (by omega) hb)) (r_load1 rfl rfl rfl rfl rfl get_here rfl rfl) ?_
 refine PQ.pure (dst := (some 46)) (v := (W (pe - (1#32)))) rfl rfl rfl noStore (none_ok _ _) (r_bin rfl rfl rfl (b_subW pe (1#32))) ?_
 have hc1 : (id.toNat : Int) = ((pe - (1#32)).toNat : Int) := Classical.byContradiction (fun hdd => by exfalso; first | omega | (exact hne hdd) | (exact hdd rfl) | (exact hnn hdd))
 refine PQ.pure (dst := (some 47)) (v := (.bool true)) rfl rfl rfl noStore (none_ok _ _) (Eq.trans (r_bin rfl rfl rfl (b_eql rfl)) (dT hc1)) ?_
 refine PQ.pure (dst := (some 48)) (v := (.bool true)) rfl rfl rfl noStore (none_ok _ _) rfl ?_
 refine PQ.pure (dst := (some 49)) (v := (Pt b 0 0)) rfl rfl rfl noStore (none_ok _ _) rfl ?_
 refine PQ.pure (dst := (some 50)) (v := (Pt b 0 0)) rfl rfl rfl noStore (none_ok _ _) rfl ?_
 refine PQ.pure (dst := (some 51)) (v := (Pt b 0 5)) rfl rfl rfl noStore (none_ok _ _) rfl ?_
 refine PQ.pure (dst := (some 52)) (v := (.int .i64 ((la : Nat) : Int))) rfl rfl rfl (app [(b, some ⟨[(xRc18 wa nx at_ mn pe la)], 6, 94, true⟩)] noStore) (seen_one (V := []) (D := [(n2, some ⟨[[(W id)]], 1, 36, true⟩), (n1, some ⟨[[(.int .i64 17), (.string (moreV id m))]], 2, 35, true⟩), ((n + 1), some ⟨[xRc17], 15, 53, true⟩), (n, some ⟨[(xRc16 id k)], 15, 53, true⟩)]) (by kernel_rfl) (gt4 (by omega) hb)) (r_load1 rfl rfl rfl rfl rfl get_here rfl rfl) ?_
 have hc2 : ((la : Nat) : Int) ≠ 0 := Classical.byContradiction (fun hdd => by exfalso; first | omega | (exact hne hdd) | (exact hdd rfl) | (exact hnn hdd))
 refine PQ.pure (dst := (some 53)) (v := (.bool true)) rfl rfl rfl noStore (none_ok _ _) (Eq.trans (r_bin rfl rfl rfl (b_neq rfl)) (dT hc2)) ?_
 refine PQ.pure (dst := (some 54)) (v := (.bool true)) rfl rfl rfl noStore (none_ok _ _) rfl ?_
 refine PQ.pure (dst := (some 40)) (v := (.bool true)) rfl rfl rfl noStore (none_ok _ _) rfl ?_
 refine PQ.done (d := []) (by kernel_rfl) ?_
 intro _
 refine RA.condT rfl ?_
 refine RA.seq hd ?_
 refine RA.region env_ok ?_
 refine OA.p (some 55) (.func (.func 64) ⟨[]⟩ ⟨[(Pt n 0 0), (Pt n2 0 0)]⟩) rfl rfl rfl rfl ?_
 refine OA.p (some 56) (Pt b 0 0) rfl rfl rfl rfl ?_
 refine OA.p (some 57) (Pt b 0 0) rfl rfl rfl rfl ?_
 refine OA.p (some 58) (Pt b 0 5) rfl rfl rfl rfl ?_
 refine OA.p (some 59) (.int .i64 ((la : Nat) : Int)) rfl rfl rfl (r_load1 rfl rfl rfl rfl rfl (gt4 (by omega) hb) rfl rfl) ?_
 refine OA.call (dst := (some 60)) (all := [(.int .i64 ((la : Nat) : Int)), (Pt n 0 0), (Pt n2 0 0)]) rfl rfl rfl rfl rfl rfl rfl rfl (CQ.imp (cBack (hd.of (by omega) (kb4 (by omega))) n n2 k id la (by omega) (by omega) (gt3 (by omega) get_here) get_here) ?_)
 rintro _ n4 _ ⟨in4, hin4a, hin4b, rfl, rfl⟩ hn4
 refine OA.app1 ?_
 refine OA.p (some 6) (.int .i64 0) rfl rfl rfl rfl ?_
 refine OA.op1 (dst := none) (v := (.tuple #[])) (n1 := n4) (w := ((n + 1), some ⟨[(xRc12 id in4)], 15, 53, true⟩)) rfl rfl rfl (r_store rfl rfl rfl rfl rfl rfl rfl (gt3 (by omega) get_here) rfl rfl (Nat.le_of_ble_eq_true rfl) rfl) (by omega) ?_
 refine OA.p (some 8) (.bool true) rfl rfl rfl rfl ?_
 refine OA.nil ?_
 intro _
 refine RA.weaken (D' := [((n + 1), some ⟨[(xRc12 id in4)], 15, 53, true⟩), (in4, some ⟨[[(.int .i64 16), (.string (resV id (BitVec.ofNat 32 la)))]], 2, 35, true⟩), (n2, some ⟨[[(W id)]], 1, 36, true⟩), (n1, some ⟨[[(.int .i64 17), (.string (moreV id m))]], 2, 35, true⟩), (n, some ⟨[(xRc16 id k)], 15, 53, true⟩)]) hd (Less.of (fac (mm (fun _ => get_here) (fun _ => get_here)) (fac (mm (fun _ => (get_there (by omega) get_here)) (fun _ => (get_there (by omega) get_here))) (fac (mm (fun _ => (gt2 (by omega) get_here)) (fun _ => (gt2 (by omega) get_here))) (fac (mm (fun _ => (gt3 (by omega) get_here)) (fun _ => (gt3 (by omega) get_here))) (fac (mm (fun _ => (gt4 (by omega) get_here)) (fun _ => (gt5 (by omega) get_here))) fan))))) (gone_of (by simp only [goneP, memP, List.cons_append, List.nil_append, true_or, or_true, true_and, and_true, or_false] <;> omega))) ?_
 refine RA.rebase [(0, (Pt b 0 0)), (1, (.agg ⟨(xRc16 id k)⟩)), (2, (.int .i64 ((have_ : Nat) : Int))), (4, (Pt n 0 0)), (6, (.int .i64 0)), (7, (.pointer (some ⟨(n + 1), 0, some 0⟩))), (8, (.bool true)), (9, (Pt n1 0 0)), (11, (Pt n2 0 0)), (12, (.int .i64 ((m : Nat) : Int))), (13, (.bool true)), (14, (.func (.func 64) ⟨[]⟩ ⟨[(Pt n 0 0), (Pt n2 0 0)]⟩)), (37, (.bool false)), (40, (.bool true))] ⟨rfl, rfl, rfl, rfl, rfl, rfl, rfl, rfl, rfl, rfl, rfl, rfl, rfl, rfl, trivial⟩ (fun τr5 => ?_)
 refine RA.ret env_ok ?_
 refine ⟨.inr rfl, [(.int .i64 0), (.agg ⟨(xRc12 id in4)⟩), (.bool true)], (resL_cons rfl (resL_cons (res_cellA rfl rfl rfl get_here rfl rfl rfl) (resL_cons rfl resL_nil))), [(in4, some ⟨[[(.int .i64 16), (.string (resV id (BitVec.ofNat 32 la)))]], 2, 35, true⟩)], (Less.of (fac (mm (fun _ => get_here) (fun _ => (get_there (by omega) get_here))) fan) (gone_of (by simp only [goneP, memP, List.cons_append, List.nil_append, true_or, or_true, true_and, and_true, or_false] <;> omega))), ⟨in4, by omega, by omega, rfl, rfl⟩⟩

theorem cAskN {n : Nat} {σ : Store} (hd : Dom n σ) (b k : Nat) (hbk : b ≠ k) (wa at_ mn : Int) (nx id : BitVec 32) (m have_ : Nat) (hm : 1 ≤ m ∧ m ≤ 8) (hh : have_ ≤ 16) (pe : BitVec 32) (la : Nat) (hid : ¬ (id.toNat : Int) = (pe.toNat : Int)) (hid2 : ¬ ((id.toNat : Int) = ((pe - 1#32).toNat : Int) ∧ ((la : Nat) : Int) ≠ 0)) (hb : σ b = some ⟨[[(.int .i64 wa), (W nx), (.int .i64 at_), (.int .i64 mn), (W pe), (.int .i64 ((la : Nat) : Int))]], 6, 94, true⟩) (hk : σ k = some ⟨[[(.int .i64 17), (.string (moreV id m))]], 2, 35, true⟩)  : CQ Try.prog noDen 25 [(Pt b 0 0), (.agg ⟨[(.int .i64 130), (.int .i64 0), (W id), (.int .i64 0), (.int .i64 0), (.int .u32 0), (.string ByteArray.empty), (.int .u32 0), (.int .u32 0), (.int .i64 0), (.int .i64 0), (.slice (some ⟨k, 0, none⟩) 1 0), (.slice none 0 0), (.slice none 0 0), (.slice none 0 0)]⟩), (.int .i64 ((have_ : Nat) : Int))] n σ (fun v n' d => v = (.tuple ⟨[(.int .i64 0), (.agg ⟨[(.int .i64 0), (.int .i64 0), (.int .u32 0), (.int .i64 0), (.int .i64 0), (.int .u32 0), (.string ByteArray.empty), (.int .u32 0), (.int .u32 0), (.int .i64 0), (.int .i64 0), (.slice none 0 0), (.slice none 0 0), (.slice none 0 0), (.slice none 0 0)]⟩), (.bool false)]⟩) ∧ d = []) := by
 have lhb := hd.lt hb
 have lhk := hd.lt hk
 refine CQ.body (E := env) env_ok hd rfl rfl (by show _ ≤ _; exact of_decide_eq_true (by kernel_rfl)) ?_
 refine RA.seq hd ?_
 refine RA.region env_ok ?_
 refine OA.op1 (dst := (some 4)) (v := (Pt n 0 0)) (n1 := (n + 1)) (w := (n, some ⟨[(xRc16 id k)], 15, 53, true⟩)) rfl rfl rfl rfl (by omega) ?_
 refine OA.p (some 6) (.int .i64 0) rfl rfl rfl rfl ?_
 refine OA.op1 (dst := (some 7)) (v := (.pointer (some ⟨(n + 1), 0, some 0⟩))) (n1 := (n + 2)) (w := ((n + 1), some ⟨[xRc17], 15, 53, true⟩)) rfl rfl rfl rfl (by omega) ?_
 refine OA.p (some 8) (.bool false) rfl rfl rfl rfl ?_
 refine OA.nil ?_
 intro _
 refine RA.seq hd ?_
 refine RA.region env_ok ?_
 refine OA.p (some 16) (Pt n 0 11) rfl rfl rfl rfl ?_
 refine OA.p (some 17) (.slice (some ⟨k, 0, none⟩) 1 0) rfl rfl rfl (r_load1 rfl rfl rfl rfl rfl (get_there (by omega) get_here) rfl rfl) ?_
 refine OA.callP (dst := (some 18)) (all := [(.slice (some ⟨k, 0, none⟩) 1 0), (.int .i64 17)]) (v := (.tuple ⟨[(.agg ⟨[(.int .i64 17), (.string (moreV id m))]⟩), (.bool true)]⟩)) (hd.of (by omega) (kb2 (by omega))) rfl rfl rfl rfl rfl rfl rfl rfl (cFind17 k (moreV id m) (gt2 (by omega) hk)) ?_
 intro n1 hn1
 refine OA.p (some 15) (.tuple ⟨[(.agg ⟨[(.int .i64 17), (.string (moreV id m))]⟩), (.bool true)]⟩) rfl rfl rfl rfl ?_
 refine OA.p (some 19) (.agg ⟨[(.int .i64 17), (.string (moreV id m))]⟩) rfl rfl rfl rfl ?_
 refine OA.p (some 20) (.bool true) rfl rfl rfl rfl ?_
 refine OA.op1 (dst := (some 9)) (v := (Pt n1 0 0)) (n1 := (n1 + 1)) (w := (n1, some ⟨[[(.int .i64 0), (.string ByteArray.empty)]], 2, 35, true⟩)) rfl rfl rfl rfl (by omega) ?_
 refine OA.op1 (dst := none) (v := (.tuple #[])) (n1 := (n1 + 1)) (w := (n1, some ⟨[[(.int .i64 17), (.string (moreV id m))]], 2, 35, true⟩)) rfl rfl rfl (r_store rfl rfl rfl rfl rfl rfl rfl get_here rfl rfl (Nat.le_of_ble_eq_true rfl) rfl) (by omega) ?_
 refine OA.p (some 10) (.bool true) rfl rfl rfl rfl ?_
 refine OA.nil ?_
 intro _
 refine RA.weaken (D' := [(n1, some ⟨[[(.int .i64 17), (.string (moreV id m))]], 2, 35, true⟩), ((n + 1), some ⟨[xRc17], 15, 53, true⟩), (n, some ⟨[(xRc16 id k)], 15, 53, true⟩)]) hd (Less.of (fac (mm (fun _ => get_here) (fun _ => get_here)) (fac (mm (fun _ => (get_there (by omega) get_here)) (fun _ => (gt2 (by omega) get_here))) (fac (mm (fun _ => (gt2 (by omega) get_here)) (fun _ => (gt3 (by omega) get_here))) fan))) (gone_of (by simp only [goneP, memP, List.cons_append, List.nil_append, true_or, or_true, true_and, and_true, or_false] <;> omega))) ?_
 refine RA.seq hd ?_
 refine RA.region env_ok ?_
 refine OA.p (some 22) (.agg ⟨[(.int .i64 17), (.string (moreV id m))]⟩) rfl rfl rfl (r_loadA rfl rfl rfl rfl get_here rfl rfl rfl) ?_
 refine OA.callP (dst := (some 23)) (all := [(.agg ⟨[(.int .i64 17), (.string (moreV id m))]⟩)]) (v := (.tuple ⟨[(W id), (.int .i64 ((m : Nat) : Int)), (.bool true)]⟩)) (hd.of (by omega) (kb3 (by omega))) rfl rfl rfl rfl rfl rfl rfl rfl (sMM1 id m (by omega) (by omega)) ?_
 intro n2 hn2
 refine OA.p (some 21) (.tuple ⟨[(W id), (.int .i64 ((m : Nat) : Int)), (.bool true)]⟩) rfl rfl rfl rfl ?_
 refine OA.p (some 24) (W id) rfl rfl rfl rfl ?_
 refine OA.p (some 25) (.int .i64 ((m : Nat) : Int)) rfl rfl rfl rfl ?_
 refine OA.p (some 26) (.bool true) rfl rfl rfl rfl ?_
 refine OA.op1 (dst := (some 11)) (v := (Pt n2 0 0)) (n1 := (n2 + 1)) (w := (n2, some ⟨[[(.int .u32 0)]], 1, 36, true⟩)) rfl rfl rfl rfl (by omega) ?_
 refine OA.op1 (dst := none) (v := (.tuple #[])) (n1 := (n2 + 1)) (w := (n2, some ⟨[[(W id)]], 1, 36, true⟩)) rfl rfl rfl (r_store rfl rfl rfl rfl rfl rfl rfl get_here rfl rfl (Nat.le_of_ble_eq_true rfl) rfl) (by omega) ?_
 refine OA.p (some 12) (.int .i64 ((m : Nat) : Int)) rfl rfl rfl rfl ?_
 refine OA.p (some 13) (.bool true) rfl rfl rfl rfl ?_
 refine OA.nil ?_
 intro _
 refine RA.weaken (D' := [(n2, some ⟨[[(W id)]], 1, 36, true⟩), (n1, some ⟨[[(.int .i64 17), (.string (moreV id m))]], 2, 35, true⟩), ((n + 1), some ⟨[xRc17], 15, 53, true⟩), (n, some ⟨[(xRc16 id k)], 15, 53, true⟩)]) hd (Less.of (fac (mm (fun _ => get_here) (fun _ => get_here)) (fac (mm (fun _ => (get_there (by omega) get_here)) (fun _ => (gt2 (by omega) get_here))) (fac (mm (fun _ => (gt2 (by omega) get_here)) (fun _ => (gt3 (by omega) get_here))) (fac (mm (fun _ => (gt3 (by omega) get_here)) (fun _ => (gt4 (by omega) get_here))) fan)))) (gone_of (by simp only [goneP, memP, List.cons_append, List.nil_append, true_or, or_true, true_and, and_true, or_false] <;> omega))) ?_
 refine RA.seq hd ?_
 refine RA.seq hd ?_
 refine RA.region env_ok ?_
 refine OA.p (some 27) (Pt b 0 0) rfl rfl rfl rfl ?_
 refine OA.p (some 28) (.bool false) rfl rfl rfl rfl ?_
 refine OA.p (some 29) (.bool false) rfl rfl rfl rfl ?_
 refine OA.p (some 30) (Pt n 0 0) rfl rfl rfl rfl ?_
 refine OA.p (some 31) (.int .i64 130) rfl rfl rfl (r_load1 rfl rfl rfl rfl rfl (gt3 (by omega) get_here) rfl rfl) ?_
 refine OA.p (some 32) (.bool false) rfl rfl rfl (r_bin rfl rfl rfl (b_neq rfl)) ?_
 refine OA.p (some 33) (.bool false) rfl rfl rfl rfl ?_
 refine OA.p (some 34) (.bool false) rfl rfl rfl rfl ?_
 refine OA.p (some 35) (.bool true) rfl rfl rfl rfl ?_
 refine OA.p (some 36) (.bool false) rfl rfl rfl rfl ?_
 refine OA.p (some 37) (.bool false) rfl rfl rfl rfl ?_
 refine OA.nil ?_
 intro _
 refine RA.rebase [(0, (Pt b 0 0)), (1, (.agg ⟨(xRc16 id k)⟩)), (2, (.int .i64 ((have_ : Nat) : Int))), (4, (Pt n 0 0)), (6, (.int .i64 0)), (7, (.pointer (some ⟨(n + 1), 0, some 0⟩))), (8, (.bool false)), (9, (Pt n1 0 0)), (11, (Pt n2 0 0)), (12, (.int .i64 ((m : Nat) : Int))), (13, (.bool true)), (37, (.bool false))] ⟨rfl, rfl, rfl, rfl, rfl, rfl, rfl, rfl, rfl, rfl, rfl, rfl, trivial⟩ (fun τr3 => ?_)
 refine RA.condF rfl ?_
 refine RA.skip env_ok ?_
 intro _
 refine RA.seq hd ?_
 refine RA.region env_ok ?_
 refine OA.p (some 39) (.func (.func 64) ⟨[]⟩ ⟨[(Pt n 0 0), (Pt n2 0 0)]⟩) rfl rfl rfl rfl ?_
 refine OA.p (some 14) (.func (.func 64) ⟨[]⟩ ⟨[(Pt n 0 0), (Pt n2 0 0)]⟩) rfl rfl rfl rfl ?_
 refine OA.nil ?_
 intro _
 refine RA.seq hd ?_
 refine RA.block ?_
 refine RA.seq hd ?_
 refine RA.par (md := [some [n2], some [], some [], some [], some [b], some [], some [], some [], some [], some [], some [], some [b], some [], some [], some []]) env_ok (hd.of (by omega) (kb4 (by omega))) (by kernel_rfl) ?_
 refine PQ.pure (dst := (some 41)) (v := (W id)) rfl rfl rfl (app [(n2, some ⟨[[(W id)]], 1, 36, true⟩)] noStore) (seen_one (V := []) (D := [(n2, some ⟨[[(W id)]], 1, 36, true⟩), (n1, some ⟨[[(.int .i64 17), (.string (moreV id m))]], 2, 35, true⟩), ((n + 1), some ⟨[xRc17], 15, 53, true⟩), (n, some ⟨[(xRc16 id k)], 15, 53, true⟩)]) (by kernel_rfl) get_here) (r_load1 rfl rfl rfl rfl rfl get_here rfl rfl) ?_
 refine PQ.pure (dst := (some 42)) (v := (Pt b 0 0)) rfl rfl rfl noStore (none_ok _ _) rfl ?_
 refine PQ.pure (dst := (some 43)) (v := (Pt b 0 0)) rfl rfl rfl noStore (none_ok _ _) rfl ?_
 refine PQ.pure (dst := (some 44)) (v := (Pt b 0 4)) rfl rfl rfl noStore (none_ok _ _) rfl ?_
 refine PQ.pure (dst := (some 45)) (v := (W pe)) rfl rfl rfl (app [(b, some ⟨[(xRc18 wa nx at_ mn pe la)], 6, 94, true⟩)] noStore) (seen_one (V := []) (D := [(n2, some ⟨[[(W id)]], 1, 36, true⟩), (n1, some ⟨[[(.int .i64 17), (.string (moreV id m))]], 2, 35, true⟩), ((n + 1), some ⟨[xRc17], 15, 53, true⟩), (n, some ⟨[(xRc16 id k)], 15, 53, true⟩)]) (by kernel_rfl) (gt4 (by omega) hb)) (r_load1 rfl rfl rfl rfl rfl get_here rfl rfl) ?_
 refine PQ.pure (dst := (some 46)) (v := (W (pe - (1#32)))) rfl rfl rfl noStore (none_ok _ _) (r_bin rfl rfl rfl (b_subW pe (1#32))) ?_
 by_cases hc1 : (id.toNat : Int) = ((pe - (1#32)).toNat : Int)
 ·
  refine PQ.pure (dst := (some 47)) (v := (.bool true)) rfl rfl rfl noStore (none_ok _ _) (Eq.trans (r_bin rfl rfl rfl (b_eql rfl)) (dT hc1)) ?_
  refine PQ.pure (dst := (some 48)) (v := (.bool true)) rfl rfl rfl noStore (none_ok _ _) rfl ?_
  refine PQ.pure (dst := (some 49)) (v := (Pt b 0 0)) rfl rfl rfl noStore (none_ok _ _) rfl ?_
  refine PQ.pure (dst := (some 50)) (v := (Pt b 0 0)) rfl rfl rfl noStore (none_ok _ _) rfl ?_
  refine PQ.pure (dst := (some 51)) (v := (Pt b 0 5)) rfl rfl rfl noStore (none_ok _ _) rfl ?_
  refine PQ.pure (dst := (some 52)) (v := (.int .i64 ((la : Nat) : Int))) rfl rfl rfl (app [(b, some ⟨[(xRc18 wa nx at_ mn pe la)], 6, 94, true⟩)] noStore) (seen_one (V := []) (D := [(n2, some ⟨[[(W id)]], 1, 36, true⟩), (n1, some ⟨[[(.int .i64 17), (.string (moreV id m))]], 2, 35, true⟩), ((n + 1), some ⟨[xRc17], 15, 53, true⟩), (n, some ⟨[(xRc16 id k)], 15, 53, true⟩)]) (by kernel_rfl) (gt4 (by omega) hb)) (r_load1 rfl rfl rfl rfl rfl get_here rfl rfl) ?_
  by_cases hc2 : ((la : Nat) : Int) ≠ 0
  ·
   refine PQ.pure (dst := (some 53)) (v := (.bool true)) rfl rfl rfl noStore (none_ok _ _) (Eq.trans (r_bin rfl rfl rfl (b_neq rfl)) (dT hc2)) ?_
   refine PQ.pure (dst := (some 54)) (v := (.bool true)) rfl rfl rfl noStore (none_ok _ _) rfl ?_
   refine PQ.pure (dst := (some 40)) (v := (.bool true)) rfl rfl rfl noStore (none_ok _ _) rfl ?_
   refine PQ.done (d := []) (by kernel_rfl) ?_
   intro _
   refine RA.condT rfl ?_
   refine RA.seq hd ?_
   refine RA.region env_ok ?_
   refine OA.p (some 55) (.func (.func 64) ⟨[]⟩ ⟨[(Pt n 0 0), (Pt n2 0 0)]⟩) rfl rfl rfl rfl ?_
   refine OA.p (some 56) (Pt b 0 0) rfl rfl rfl rfl ?_
   refine OA.p (some 57) (Pt b 0 0) rfl rfl rfl rfl ?_
   refine OA.p (some 58) (Pt b 0 5) rfl rfl rfl rfl ?_
   refine OA.p (some 59) (.int .i64 ((la : Nat) : Int)) rfl rfl rfl (r_load1 rfl rfl rfl rfl rfl (gt4 (by omega) hb) rfl rfl) ?_
   refine OA.call (dst := (some 60)) (all := [(.int .i64 ((la : Nat) : Int)), (Pt n 0 0), (Pt n2 0 0)]) rfl rfl rfl rfl rfl rfl rfl rfl (CQ.imp (cBack (hd.of (by omega) (kb4 (by omega))) n n2 k id la (by omega) (by omega) (gt3 (by omega) get_here) get_here) ?_)
   rintro _ n4 _ ⟨in4, hin4a, hin4b, rfl, rfl⟩ hn4
   refine OA.app1 ?_
   refine OA.p (some 6) (.int .i64 0) rfl rfl rfl rfl ?_
   refine OA.op1 (dst := none) (v := (.tuple #[])) (n1 := n4) (w := ((n + 1), some ⟨[(xRc12 id in4)], 15, 53, true⟩)) rfl rfl rfl (r_store rfl rfl rfl rfl rfl rfl rfl (gt3 (by omega) get_here) rfl rfl (Nat.le_of_ble_eq_true rfl) rfl) (by omega) ?_
   refine OA.p (some 8) (.bool true) rfl rfl rfl rfl ?_
   refine OA.nil ?_
   intro _
   refine RA.weaken (D' := [((n + 1), some ⟨[(xRc12 id in4)], 15, 53, true⟩), (in4, some ⟨[[(.int .i64 16), (.string (resV id (BitVec.ofNat 32 la)))]], 2, 35, true⟩), (n2, some ⟨[[(W id)]], 1, 36, true⟩), (n1, some ⟨[[(.int .i64 17), (.string (moreV id m))]], 2, 35, true⟩), (n, some ⟨[(xRc16 id k)], 15, 53, true⟩)]) hd (Less.of (fac (mm (fun _ => get_here) (fun _ => get_here)) (fac (mm (fun _ => (get_there (by omega) get_here)) (fun _ => (get_there (by omega) get_here))) (fac (mm (fun _ => (gt2 (by omega) get_here)) (fun _ => (gt2 (by omega) get_here))) (fac (mm (fun _ => (gt3 (by omega) get_here)) (fun _ => (gt3 (by omega) get_here))) (fac (mm (fun _ => (gt4 (by omega) get_here)) (fun _ => (gt5 (by omega) get_here))) fan))))) (gone_of (by simp only [goneP, memP, List.cons_append, List.nil_append, true_or, or_true, true_and, and_true, or_false] <;> omega))) ?_
   refine RA.rebase [(0, (Pt b 0 0)), (1, (.agg ⟨(xRc16 id k)⟩)), (2, (.int .i64 ((have_ : Nat) : Int))), (4, (Pt n 0 0)), (6, (.int .i64 0)), (7, (.pointer (some ⟨(n + 1), 0, some 0⟩))), (8, (.bool true)), (9, (Pt n1 0 0)), (11, (Pt n2 0 0)), (12, (.int .i64 ((m : Nat) : Int))), (13, (.bool true)), (14, (.func (.func 64) ⟨[]⟩ ⟨[(Pt n 0 0), (Pt n2 0 0)]⟩)), (37, (.bool false)), (40, (.bool true))] ⟨rfl, rfl, rfl, rfl, rfl, rfl, rfl, rfl, rfl, rfl, rfl, rfl, rfl, rfl, trivial⟩ (fun τr5 => ?_)
   refine RA.ret env_ok ?_
   refine ⟨.inr rfl, [(.int .i64 0), (.agg ⟨(xRc12 id in4)⟩), (.bool true)], (resL_cons rfl (resL_cons (res_cellA rfl rfl rfl get_here rfl rfl rfl) (resL_cons rfl resL_nil))), [], (Less.of (fun p hp => by simp at hp) (gone_of (by simp only [goneP, memP, List.cons_append, List.nil_append, true_or, or_true, true_and, and_true, or_false] <;> omega))), (by exfalso; omega)⟩
  ·
   refine PQ.pure (dst := (some 53)) (v := (.bool false)) rfl rfl rfl noStore (none_ok _ _) (Eq.trans (r_bin rfl rfl rfl (b_neq rfl)) (dF hc2)) ?_
   refine PQ.pure (dst := (some 54)) (v := (.bool false)) rfl rfl rfl noStore (none_ok _ _) rfl ?_
   refine PQ.pure (dst := (some 40)) (v := (.bool false)) rfl rfl rfl noStore (none_ok _ _) rfl ?_
   refine PQ.done (d := []) (by kernel_rfl) ?_
   intro _
   refine RA.condF rfl ?_
   refine RA.seq hd ?_
   refine RA.par (md := [some [n2], some [], some [], some [], some [b], some [], some []]) env_ok (hd.of (by omega) (kb4 (by omega))) (by kernel_rfl) ?_
   refine PQ.pure (dst := (some 62)) (v := (W id)) rfl rfl rfl (app [(n2, some ⟨[[(W id)]], 1, 36, true⟩)] noStore) (seen_one (V := []) (D := [(n2, some ⟨[[(W id)]], 1, 36, true⟩), (n1, some ⟨[[(.int .i64 17), (.string (moreV id m))]], 2, 35, true⟩), ((n + 1), some ⟨[xRc17], 15, 53, true⟩), (n, some ⟨[(xRc16 id k)], 15, 53, true⟩)]) (by kernel_rfl) get_here) (r_load1 rfl rfl rfl rfl rfl get_here rfl rfl) ?_
   refine PQ.pure (dst := (some 63)) (v := (Pt b 0 0)) rfl rfl rfl noStore (none_ok _ _) rfl ?_
   refine PQ.pure (dst := (some 64)) (v := (Pt b 0 0)) rfl rfl rfl noStore (none_ok _ _) rfl ?_
   refine PQ.pure (dst := (some 65)) (v := (Pt b 0 4)) rfl rfl rfl noStore (none_ok _ _) rfl ?_
   refine PQ.pure (dst := (some 66)) (v := (W pe)) rfl rfl rfl (app [(b, some ⟨[(xRc18 wa nx at_ mn pe la)], 6, 94, true⟩)] noStore) (seen_one (V := []) (D := [(n2, some ⟨[[(W id)]], 1, 36, true⟩), (n1, some ⟨[[(.int .i64 17), (.string (moreV id m))]], 2, 35, true⟩), ((n + 1), some ⟨[xRc17], 15, 53, true⟩), (n, some ⟨[(xRc16 id k)], 15, 53, true⟩)]) (by kernel_rfl) (gt4 (by omega) hb)) (r_load1 rfl rfl rfl rfl rfl get_here rfl rfl) ?_
   have hc3 : (id.toNat : Int) ≠ (pe.toNat : Int) := Classical.byContradiction (fun hdd => by exfalso; first | omega | (exact hne hdd) | (exact hdd rfl) | (exact hnn hdd))
   refine PQ.pure (dst := (some 67)) (v := (.bool true)) rfl rfl rfl noStore (none_ok _ _) (Eq.trans (r_bin rfl rfl rfl (b_neq rfl)) (dT hc3)) ?_
   refine PQ.pure (dst := (some 61)) (v := (.bool true)) rfl rfl rfl noStore (none_ok _ _) rfl ?_
   refine PQ.done (d := []) (by kernel_rfl) ?_
   intro _
   refine RA.condT rfl ?_
   refine RA.seq hd ?_
   refine RA.region env_ok ?_
   refine OA.p (some 68) (.agg ⟨xRc17⟩) rfl rfl rfl (by kernel_rfl) ?_
   refine OA.p (some 6) (.int .i64 0) rfl rfl rfl rfl ?_
   refine OA.op1 (dst := none) (v := (.tuple #[])) (n1 := (n2 + 1)) (w := ((n + 1), some ⟨[xRc17], 15, 53, true⟩)) rfl rfl rfl (r_store rfl rfl rfl rfl rfl rfl rfl (gt2 (by omega) get_here) rfl rfl (Nat.le_of_ble_eq_true rfl) rfl) (by omega) ?_
   refine OA.p (some 8) (.bool false) rfl rfl rfl rfl ?_
   refine OA.nil ?_
   intro _
   refine RA.weaken (D' := [((n + 1), some ⟨[xRc17], 15, 53, true⟩), (n2, some ⟨[[(W id)]], 1, 36, true⟩), (n1, some ⟨[[(.int .i64 17), (.string (moreV id m))]], 2, 35, true⟩), (n, some ⟨[(xRc16 id k)], 15, 53, true⟩)]) hd (Less.of (fac (mm (fun _ => get_here) (fun _ => get_here)) (fac (mm (fun _ => (get_there (by omega) get_here)) (fun _ => (get_there (by omega) get_here))) (fac (mm (fun _ => (gt2 (by omega) get_here)) (fun _ => (gt2 (by omega) get_here))) (fac (mm (fun _ => (gt3 (by omega) get_here)) (fun _ => (gt4 (by omega) get_here))) fan)))) (gone_of (by simp only [goneP, memP, List.cons_append, List.nil_append, true_or, or_true, true_and, and_true, or_false] <;> omega))) ?_
   refine RA.rebase [(0, (Pt b 0 0)), (1, (.agg ⟨(xRc16 id k)⟩)), (2, (.int .i64 ((have_ : Nat) : Int))), (4, (Pt n 0 0)), (6, (.int .i64 0)), (7, (.pointer (some ⟨(n + 1), 0, some 0⟩))), (8, (.bool false)), (9, (Pt n1 0 0)), (11, (Pt n2 0 0)), (12, (.int .i64 ((m : Nat) : Int))), (13, (.bool true)), (14, (.func (.func 64) ⟨[]⟩ ⟨[(Pt n 0 0), (Pt n2 0 0)]⟩)), (37, (.bool false)), (40, (.bool false)), (61, (.bool true))] ⟨rfl, rfl, rfl, rfl, rfl, rfl, rfl, rfl, rfl, rfl, rfl, rfl, rfl, rfl, rfl, trivial⟩ (fun τr6 => ?_)
   refine RA.ret env_ok ?_
   refine ⟨.inr rfl, [(.int .i64 0), (.agg ⟨xRc17⟩), (.bool false)], (resL_cons rfl (resL_cons (res_cellA rfl rfl rfl get_here rfl rfl rfl) (resL_cons rfl resL_nil))), [], (Less.of (fun p hp => by simp at hp) (gone_of (by simp only [goneP, memP, List.cons_append, List.nil_append, true_or, or_true, true_and, and_true, or_false] <;> omega))), ⟨rfl, rfl⟩⟩
 ·
  refine PQ.pure (dst := (some 47)) (v := (.bool false)) rfl rfl rfl noStore (none_ok _ _) (Eq.trans (r_bin rfl rfl rfl (b_eql rfl)) (dF hc1)) ?_
  refine PQ.pure (dst := (some 48)) (v := (.bool false)) rfl rfl rfl noStore (none_ok _ _) rfl ?_
  refine PQ.off (dst := (some 49)) rfl rfl rfl ?_
  refine PQ.off (dst := (some 50)) rfl rfl rfl ?_
  refine PQ.off (dst := (some 51)) rfl rfl rfl ?_
  refine PQ.off (dst := (some 52)) rfl rfl rfl ?_
  refine PQ.off (dst := (some 53)) rfl rfl rfl ?_
  refine PQ.pure (dst := (some 54)) (v := (.bool false)) rfl rfl rfl noStore (none_ok _ _) rfl ?_
  refine PQ.pure (dst := (some 40)) (v := (.bool false)) rfl rfl rfl noStore (none_ok _ _) rfl ?_
  refine PQ.done (d := []) (by kernel_rfl) ?_
  intro _
  refine RA.condF rfl ?_
  refine RA.seq hd ?_
  refine RA.par (md := [some [n2], some [], some [], some [], some [b], some [], some []]) env_ok (hd.of (by omega) (kb4 (by omega))) (by kernel_rfl) ?_
  refine PQ.pure (dst := (some 62)) (v := (W id)) rfl rfl rfl (app [(n2, some ⟨[[(W id)]], 1, 36, true⟩)] noStore) (seen_one (V := []) (D := [(n2, some ⟨[[(W id)]], 1, 36, true⟩), (n1, some ⟨[[(.int .i64 17), (.string (moreV id m))]], 2, 35, true⟩), ((n + 1), some ⟨[xRc17], 15, 53, true⟩), (n, some ⟨[(xRc16 id k)], 15, 53, true⟩)]) (by kernel_rfl) get_here) (r_load1 rfl rfl rfl rfl rfl get_here rfl rfl) ?_
  refine PQ.pure (dst := (some 63)) (v := (Pt b 0 0)) rfl rfl rfl noStore (none_ok _ _) rfl ?_
  refine PQ.pure (dst := (some 64)) (v := (Pt b 0 0)) rfl rfl rfl noStore (none_ok _ _) rfl ?_
  refine PQ.pure (dst := (some 65)) (v := (Pt b 0 4)) rfl rfl rfl noStore (none_ok _ _) rfl ?_
  refine PQ.pure (dst := (some 66)) (v := (W pe)) rfl rfl rfl (app [(b, some ⟨[(xRc18 wa nx at_ mn pe la)], 6, 94, true⟩)] noStore) (seen_one (V := []) (D := [(n2, some ⟨[[(W id)]], 1, 36, true⟩), (n1, some ⟨[[(.int .i64 17), (.string (moreV id m))]], 2, 35, true⟩), ((n + 1), some ⟨[xRc17], 15, 53, true⟩), (n, some ⟨[(xRc16 id k)], 15, 53, true⟩)]) (by kernel_rfl) (gt4 (by omega) hb)) (r_load1 rfl rfl rfl rfl rfl get_here rfl rfl) ?_
  have hc4 : (id.toNat : Int) ≠ (pe.toNat : Int) := Classical.byContradiction (fun hdd => by exfalso; first | omega | (exact hne hdd) | (exact hdd rfl) | (exact hnn hdd))
  refine PQ.pure (dst := (some 67)) (v := (.bool true)) rfl rfl rfl noStore (none_ok _ _) (Eq.trans (r_bin rfl rfl rfl (b_neq rfl)) (dT hc4)) ?_
  refine PQ.pure (dst := (some 61)) (v := (.bool true)) rfl rfl rfl noStore (none_ok _ _) rfl ?_
  refine PQ.done (d := []) (by kernel_rfl) ?_
  intro _
  refine RA.condT rfl ?_
  refine RA.seq hd ?_
  refine RA.region env_ok ?_
  refine OA.p (some 68) (.agg ⟨xRc17⟩) rfl rfl rfl (by kernel_rfl) ?_
  refine OA.p (some 6) (.int .i64 0) rfl rfl rfl rfl ?_
  refine OA.op1 (dst := none) (v := (.tuple #[])) (n1 := (n2 + 1)) (w := ((n + 1), some ⟨[xRc17], 15, 53, true⟩)) rfl rfl rfl (r_store rfl rfl rfl rfl rfl rfl rfl (gt2 (by omega) get_here) rfl rfl (Nat.le_of_ble_eq_true rfl) rfl) (by omega) ?_
  refine OA.p (some 8) (.bool false) rfl rfl rfl rfl ?_
  refine OA.nil ?_
  intro _
  refine RA.weaken (D' := [((n + 1), some ⟨[xRc17], 15, 53, true⟩), (n2, some ⟨[[(W id)]], 1, 36, true⟩), (n1, some ⟨[[(.int .i64 17), (.string (moreV id m))]], 2, 35, true⟩), (n, some ⟨[(xRc16 id k)], 15, 53, true⟩)]) hd (Less.of (fac (mm (fun _ => get_here) (fun _ => get_here)) (fac (mm (fun _ => (get_there (by omega) get_here)) (fun _ => (get_there (by omega) get_here))) (fac (mm (fun _ => (gt2 (by omega) get_here)) (fun _ => (gt2 (by omega) get_here))) (fac (mm (fun _ => (gt3 (by omega) get_here)) (fun _ => (gt4 (by omega) get_here))) fan)))) (gone_of (by simp only [goneP, memP, List.cons_append, List.nil_append, true_or, or_true, true_and, and_true, or_false] <;> omega))) ?_
  refine RA.rebase [(0, (Pt b 0 0)), (1, (.agg ⟨(xRc16 id k)⟩)), (2, (.int .i64 ((have_ : Nat) : Int))), (4, (Pt n 0 0)), (6, (.int .i64 0)), (7, (.pointer (some ⟨(n + 1), 0, some 0⟩))), (8, (.bool false)), (9, (Pt n1 0 0)), (11, (Pt n2 0 0)), (12, (.int .i64 ((m : Nat) : Int))), (13, (.bool true)), (14, (.func (.func 64) ⟨[]⟩ ⟨[(Pt n 0 0), (Pt n2 0 0)]⟩)), (37, (.bool false)), (40, (.bool false)), (61, (.bool true))] ⟨rfl, rfl, rfl, rfl, rfl, rfl, rfl, rfl, rfl, rfl, rfl, rfl, rfl, rfl, rfl, trivial⟩ (fun τr7 => ?_)
  refine RA.ret env_ok ?_
  refine ⟨.inr rfl, [(.int .i64 0), (.agg ⟨xRc17⟩), (.bool false)], (resL_cons rfl (resL_cons (res_cellA rfl rfl rfl get_here rfl rfl rfl) (resL_cons rfl resL_nil))), [], (Less.of (fun p hp => by simp at hp) (gone_of (by simp only [goneP, memP, List.cons_append, List.nil_append, true_or, or_true, true_and, and_true, or_false] <;> omega))), ⟨rfl, rfl⟩⟩
end Go.Proofs.Ytgajcmanompmcaa.Vt
