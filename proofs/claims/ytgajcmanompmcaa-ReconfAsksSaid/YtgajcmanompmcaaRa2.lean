/- Ra2: walks through functions of the program, by the calculus; written by a program of this workplace. -/
import Derived.Test.YtgajcmanompmcaaRa1
import Derived.Test.YtgajcmanompmcaaVm5
namespace Go.Proofs.Ytgajcmanompmcaa.Vt
open Go Go.Proofs Go.Proofs.YtgajcmanompmcaaV
set_option maxRecDepth 100000
set_option linter.unusedVariables false
set_option linter.unusedSimpArgs false
abbrev xRa21 (b : Nat) (nx : BitVec 32) (n70 : Nat) : List Value := [(.pointer (some ⟨b, 0, some 0⟩)), (.agg ⟨[(.int .i64 130), (.int .i64 0), (W (nx + (1#32))), (.int .i64 0), (.int .i64 0), (.int .u32 0), (.string ByteArray.empty), (.int .u32 0), (.int .u32 0), (.int .i64 0), (.int .i64 0), (.slice (some ⟨n70, 0, none⟩) 1 0), (.slice none 0 0), (.slice none 0 0), (.slice none 0 0)]⟩)]
abbrev xRa22 (b : Nat) (nx : BitVec 32) (n97 : Nat) : List Value := [(.pointer (some ⟨b, 0, some 0⟩)), (.agg ⟨[(.int .i64 130), (.int .i64 0), (W nx), (.int .i64 0), (.int .i64 0), (.int .u32 0), (.string ByteArray.empty), (.int .u32 0), (.int .u32 0), (.int .i64 0), (.int .i64 0), (.slice (some ⟨n97, 0, none⟩) 1 0), (.slice none 0 0), (.slice none 0 0), (.slice none 0 0)]⟩)]
abbrev xRa23 (nx : BitVec 32) (n70 : Nat) : List Value := [(.int .i64 130), (.int .i64 0), (W (nx + (1#32))), (.int .i64 0), (.int .i64 0), (.int .u32 0), (.string ByteArray.empty), (.int .u32 0), (.int .u32 0), (.int .i64 0), (.int .i64 0), (.slice (some ⟨n70, 0, none⟩) 1 0), (.slice none 0 0), (.slice none 0 0), (.slice none 0 0)]
abbrev xRa24 (nx : BitVec 32) (in41 : Nat) : List Value := [(.int .i64 130), (.int .i64 0), (W nx), (.int .i64 0), (.int .i64 0), (.int .u32 0), (.string ByteArray.empty), (.int .u32 0), (.int .u32 0), (.int .i64 0), (.int .i64 0), (.slice (some ⟨in41, 0, none⟩) 1 0), (.slice none 0 0), (.slice none 0 0), (.slice none 0 0)]
abbrev xRa25 (nx : BitVec 32) (n97 : Nat) : List Value := [(.int .i64 130), (.int .i64 0), (W nx), (.int .i64 0), (.int .i64 0), (.int .u32 0), (.string ByteArray.empty), (.int .u32 0), (.int .u32 0), (.int .i64 0), (.int .i64 0), (.slice (some ⟨n97, 0, none⟩) 1 0), (.slice none 0 0), (.slice none 0 0), (.slice none 0 0)]
abbrev xRa26 : List Value := [(.int .i64 0), (.int .i64 0), (.int .u32 0), (.int .i64 0), (.int .i64 0), (.int .u32 0), (.string ByteArray.empty), (.int .u32 0), (.int .u32 0), (.int .i64 0), (.int .i64 0), (.slice none 0 0), (.slice none 0 0), (.slice none 0 0), (.slice none 0 0)]
abbrev xRa27 (want : Nat) (nx : BitVec 32) (i : Nat) (mn : Nat) : List Value := [(.int .i64 ((want : Nat) : Int)), (W nx), (.int .i64 ((i : Nat) : Int)), (.int .i64 (((mn + 1) : Nat) : Int)), (W 0#32), (.int .i64 0)]
abbrev xRa28 (want : Nat) (nx : BitVec 32) (at_ : Int) (mn : Nat) : List Value := [(.int .i64 ((want : Nat) : Int)), (W nx), (.int .i64 at_), (.int .i64 ((mn : Nat) : Int)), (W 0#32), (.int .i64 0)]
abbrev xRa29 (nx : BitVec 32) (want : Nat) : List Value := [(.int .i64 17), (.string (((bstr (putL (nx).toNat 4)) ++ (bstr (putL want 2))) ++ (ByteArray.mk #[0, 0])))]
set_option maxHeartbeats 4000000 in
theorem aAsks {σ : Store} (x : BitVec 32) (lv : Value) (ls : List I1) (hr : RowP σ 3 1 lv (ls.map cI1)) (hbz : ∀ q ∈ ls, -9223372036854775808 ≤ q.z ∧ q.z ≤ 9223372036854775807)   : PS Try.prog noDen 7 [(W x), lv] σ (.bool true) := by
 refine PS.body (E := env) env_ok rfl rfl (by show _ ≤ _; exact of_decide_eq_true (by kernel_rfl)) (fun n hd => ?_)
 refine RA.seq hd ?_
 refine RA.region env_ok ?_
 refine OA.p (some 4) (.bool false) rfl rfl rfl rfl ?_
 refine OA.nil ?_
 intro _
 refine RA.seq hd ?_
 refine RA.region env_ok ?_
 refine OA.p (some 21) (W x) rfl rfl rfl rfl ?_
 refine OA.call (dst := (some 22)) (all := [(W x), (.int .u32 0)]) rfl rfl rfl rfl rfl rfl rfl rfl (CQ.imp (cNew (hd.up (by omega)) x 0#32) ?_)
 rintro _ n1 _ ⟨b, hba, hbb, rfl, rfl⟩ hn1
 refine OA.app1 ?_
 refine OA.p (some 23) (W x) rfl rfl rfl rfl ?_
 refine OA.p (some 5) (Pt b 0 0) rfl rfl rfl rfl ?_
 refine OA.p (some 6) (W x) rfl rfl rfl rfl ?_
 refine OA.p (some 7) (.int .i64 0) rfl rfl rfl rfl ?_
 refine OA.p (some 8) (.int .i64 0) rfl rfl rfl rfl ?_
 refine OA.nil ?_
 intro _
 refine RA.seq hd ?_
 refine RA.seq hd ?_
 refine RA.region env_ok ?_
 refine OA.callP (dst := (some 24)) (all := []) (v := (.bool true)) (hd.of (by omega) (kb1 (by omega))) rfl rfl rfl rfl rfl rfl rfl rfl awake ?_
 intro n2 hn2
 refine OA.p (some 25) (.bool false) rfl rfl rfl rfl ?_
 refine OA.nil ?_
 intro _
 refine RA.condF rfl ?_
 refine RA.skip env_ok ?_
 intro _
 refine RA.seq hd ?_
 refine RA.seq hd ?_
 refine RA.region env_ok ?_
 refine OA.p (some 9) (.int .i64 0) rfl rfl rfl rfl ?_
 refine OA.nil ?_
 intro _
 refine RA.block ?_
 refine RA.loop hd (fun kk_ τ n' D => (∃ i : Nat, ∃ nx : BitVec 32, ∃ want : Nat, ∃ times : Nat, ∃ mn : Nat, ∃ at_ : Int, kk_ = (ls.length - i) ∧ n2 ≤ n' ∧ Has τ [(1, lv), (5, (Pt b 0 0)), (6, (W nx)), (7, (.int .i64 ((want : Nat) : Int))), (8, (.int .i64 ((times : Nat) : Int))), (9, (.int .i64 ((i : Nat) : Int)))] ∧ D = [(b, some ⟨[(xRa28 want nx at_ mn)], 6, 94, true⟩)] ∧ (∀ i ∈ keys D, i < n') ∧ i ≤ ls.length ∧ want ≤ 16 ∧ times ≤ i ∧ mn ≤ i ∧ (want = 0 → times = 0) ∧ (want ≠ 0 → times = mn))) ((ls.length - 0)) (⟨0, x, 0, 0, 0, 0, rfl, by omega, ⟨rfl, rfl, rfl, rfl, rfl, rfl, trivial⟩, rfl, (kb1 (by omega)), ⟨by omega, by omega, by omega, by omega, by omega, by omega⟩⟩) ?_
 rintro kn3 τ3 n3 _ ⟨i, nx, want, times, mn, at_, rfl, hn3, hHn3, rfl, hKn3, hIn3⟩
 rw [Has.eq hHn3]
 have hKn3_0 : b < n3 := hKn3 _ (by simp only [keys, List.map_cons, List.map_nil, List.mem_cons, true_or, or_true])
 clear hKn3
 obtain ⟨hil, hwt, htm, hmn, hw0, hw1⟩ := hIn3
 have hne := w_ne1 nx
 refine RA.seq hd ?_
 refine RA.seq hd ?_
 refine RA.region env_ok ?_
 refine OA.p (some 26) (.int .i64 ((i : Nat) : Int)) rfl rfl rfl rfl ?_
 refine OA.p (some 27) lv rfl rfl rfl rfl ?_
 refine OA.p (some 28) (.int .i64 ((ls.length : Nat) : Int)) rfl rfl rfl (r_lenP (c := cI1) rfl rfl rfl rfl rfl rfl hr rfl) ?_
 by_cases hc1 : ((i : Nat) : Int) < ((ls.length : Nat) : Int)
 ·
  obtain ⟨rest, hat⟩ := hr.get (m := i) (by omega)
  have lathat := hd.lt hat
  obtain ⟨z, hz⟩ : ∃ z, z = (ls.getD i dI1).z := ⟨_, rfl⟩
  have hzb := t4_bounds (z := z) (by rw [hz]; exact hbz _ (mem_getD (by omega)))
  obtain ⟨y, hy⟩ : ∃ y, y = z.tdiv 4 := ⟨_, rfl⟩
  rw [← hy] at hzb
  refine OA.p (some 29) (.bool true) rfl rfl rfl (Eq.trans (r_bin rfl rfl rfl (b_lss rfl)) (dT hc1)) ?_
  refine OA.p (some 30) (.bool true) rfl rfl rfl rfl ?_
  refine OA.p (some 31) (.int .i64 ((i : Nat) : Int)) rfl rfl rfl rfl ?_
  by_cases hc2 : ((i : Nat) : Int) < 50
  ·
   refine OA.p (some 32) (.bool true) rfl rfl rfl (Eq.trans (r_bin rfl rfl rfl (b_lss rfl)) (dT hc2)) ?_
   refine OA.p (some 33) (.bool true) rfl rfl rfl rfl ?_
   refine OA.nil ?_
   intro _
   refine RA.condT rfl ?_
   refine RA.skip env_ok ?_
   intro _
   refine RA.seq hd ?_
   refine RA.block ?_
   refine RA.seq hd ?_
   refine RA.region env_ok ?_
   refine OA.p (some 36) lv rfl rfl rfl rfl ?_
   refine OA.p (some 37) (.int .i64 ((i : Nat) : Int)) rfl rfl rfl rfl ?_
   refine OA.p (some 38) (.pointer (some ⟨(rk lv), i, some 0⟩)) rfl rfl rfl (r_iaP (c := cI1) (m := i) rfl rfl rfl rfl rfl rfl hr rfl (by omega) (get_there (by omega) hat) rfl) ?_
   refine OA.p (some 39) (.int .i64 z) rfl rfl rfl (by rw [hz]; exact r_load1 (e := cI1 (ls.getD i dI1)) rfl rfl rfl rfl rfl (get_there (by omega) hat) (mp_getA (by omega)) rfl) ?_
   refine OA.p (some 40) (.int .i64 y) rfl rfl rfl (by rw [hy]; exact r_bin rfl rfl rfl (b_quo (by decide) (i64_eq (by omega)))) ?_
   refine OA.p (some 10) (.int .i64 y) rfl rfl rfl rfl ?_
   refine OA.nil ?_
   intro _
   refine RA.seq hd ?_
   refine RA.seq hd ?_
   refine RA.region env_ok ?_
   refine OA.p (some 41) lv rfl rfl rfl rfl ?_
   refine OA.p (some 42) (.int .i64 ((i : Nat) : Int)) rfl rfl rfl rfl ?_
   refine OA.p (some 43) (.pointer (some ⟨(rk lv), i, some 0⟩)) rfl rfl rfl (r_iaP (c := cI1) (m := i) rfl rfl rfl rfl rfl rfl hr rfl (by omega) (get_there (by omega) hat) rfl) ?_
   refine OA.p (some 44) (.int .i64 z) rfl rfl rfl (by rw [hz]; exact r_load1 (e := cI1 (ls.getD i dI1)) rfl rfl rfl rfl rfl (get_there (by omega) hat) (mp_getA (by omega)) rfl) ?_
   have hm4 := andN_le z 3 (by decide)
   refine OA.p (some 45) (.int .i64 (((andN z 3) : Nat) : Int)) rfl rfl rfl (r_bin rfl rfl rfl (b_andN z 3 (by decide))) ?_
   refine OA.nil ?_
   intro _
   refine RA.block ?_
   refine RA.seq hd ?_
   refine RA.region env_ok ?_
   by_cases hc3 : (((andN z 3) : Nat) : Int) = 0
   ·
    refine OA.p (some 97) (.bool true) rfl rfl rfl (Eq.trans (r_bin rfl rfl rfl (b_eql rfl)) (dT hc3)) ?_
    refine OA.p (some 96) (.bool true) rfl rfl rfl rfl ?_
    refine OA.nil ?_
    intro _
    refine RA.condT rfl ?_
    refine RA.seq hd ?_
    refine RA.region env_ok ?_
    refine OA.p (some 98) (Pt b 0 0) rfl rfl rfl rfl ?_
    refine OA.p (some 99) (.int .i64 y) rfl rfl rfl rfl ?_
    by_cases hc4 : y < 1
    ·
     refine OA.call (dst := (some 100)) (all := [(Pt b 0 0), (.int .i64 y)]) rfl rfl rfl rfl rfl rfl rfl rfl (CQ.imp (aAskX (hd.of (by omega) (kb1 (by omega))) b want mn nx at_ y (.inl hc4) get_here) ?_)
     rintro _ n5 _ ⟨rfl, rfl⟩ hn5
     refine OA.app0 ?_
     refine OA.p (some 11) (.int .i64 1) rfl rfl rfl rfl ?_
     refine OA.nil ?_
     intro _
     refine RA.rebase [(1, lv), (5, (Pt b 0 0)), (6, (W nx)), (7, (.int .i64 ((want : Nat) : Int))), (8, (.int .i64 ((times : Nat) : Int))), (9, (.int .i64 ((i : Nat) : Int))), (10, (.int .i64 y)), (11, (.int .i64 1)), (33, (.bool true)), (45, (.int .i64 (((andN z 3) : Nat) : Int))), (96, (.bool true))] ⟨rfl, rfl, rfl, rfl, rfl, rfl, rfl, rfl, rfl, rfl, rfl, trivial⟩ (fun τr6 => ?_)
     refine RA.block ?_
     refine RA.seq hd ?_
     refine RA.region env_ok ?_
     refine OA.p (some 105) (.int .i64 y) rfl rfl rfl rfl ?_
     refine OA.p (some 106) (.bool true) rfl rfl rfl (Eq.trans (r_bin rfl rfl rfl (b_lss rfl)) (dT hc4)) ?_
     refine OA.p (some 107) (.bool true) rfl rfl rfl rfl ?_
     refine OA.off (dst := (some 108)) rfl rfl rfl ?_
     refine OA.off (dst := (some 109)) rfl rfl rfl ?_
     refine OA.p (some 110) (.bool true) rfl rfl rfl rfl ?_
     refine OA.p (some 104) (.bool true) rfl rfl rfl rfl ?_
     refine OA.nil ?_
     intro _
     refine RA.condT rfl ?_
     refine RA.seq hd ?_
     refine RA.region env_ok ?_
     refine OA.p (some 111) (.int .i64 1) rfl rfl rfl rfl ?_
     refine OA.p (some 112) (.bool false) rfl rfl rfl (r_bin rfl rfl rfl (b_neq rfl)) ?_
     refine OA.nil ?_
     intro _
     refine RA.condF rfl ?_
     refine RA.skip env_ok ?_
     intro _
     refine RA.seq hd ?_
     refine RA.region env_ok ?_
     refine OA.p (some 154) (Pt b 0 0) rfl rfl rfl rfl ?_
     by_cases hc5 : 0 < ((times : Nat) : Int)
     ·
      refine OA.callP (dst := (some 155)) (all := [(Pt b 0 0)]) (v := (.tuple ⟨[(.int .i64 at_), (.bool true)]⟩)) (hd.of (by omega) (kb1 (by omega))) rfl rfl rfl rfl rfl rfl rfl rfl (aAt1 b want mn nx at_ times (by omega) (by omega) (by omega) get_here) ?_
      intro n7 hn7
      refine OA.p (some 153) (.tuple ⟨[(.int .i64 at_), (.bool true)]⟩) rfl rfl rfl rfl ?_
      refine OA.p (some 156) (.int .i64 at_) rfl rfl rfl rfl ?_
      refine OA.p (some 157) (.bool true) rfl rfl rfl rfl ?_
      refine OA.p (some 19) (.int .i64 at_) rfl rfl rfl rfl ?_
      refine OA.p (some 20) (.bool true) rfl rfl rfl rfl ?_
      refine OA.nil ?_
      intro _
      refine RA.seq hd ?_
      refine RA.region env_ok ?_
      refine OA.p (some 158) (Pt b 0 0) rfl rfl rfl rfl ?_
      refine OA.callP (dst := (some 159)) (all := [(Pt b 0 0)]) (v := (.int .i64 ((want : Nat) : Int))) (hd.of (by omega) (kb1 (by omega))) rfl rfl rfl rfl rfl rfl rfl rfl (PS.to (aWant b want mn nx at_ get_here) (show Value.int .i64 _ = (.int .i64 ((want : Nat) : Int)) from congrArg (Value.int .i64) (by omega))) ?_
      intro n8 hn8
      refine OA.p (some 160) (.int .i64 ((want : Nat) : Int)) rfl rfl rfl rfl ?_
      refine OA.p (some 161) (.bool false) rfl rfl rfl (r_bin rfl rfl rfl (b_neq (decide_eq_false (fun h => h rfl)))) ?_
      refine OA.p (some 162) (.bool false) rfl rfl rfl rfl ?_
      refine OA.p (some 163) (Pt b 0 0) rfl rfl rfl rfl ?_
      refine OA.callP (dst := (some 164)) (all := [(Pt b 0 0)]) (v := (.int .i64 ((times : Nat) : Int))) (hd.of (by omega) (kb1 (by omega))) rfl rfl rfl rfl rfl rfl rfl rfl (aTimes b want mn nx at_ times (by omega) (by omega) get_here) ?_
      intro n9 hn9
      refine OA.p (some 165) (.int .i64 ((times : Nat) : Int)) rfl rfl rfl rfl ?_
      refine OA.p (some 166) (.bool false) rfl rfl rfl (r_bin rfl rfl rfl (b_neq (decide_eq_false (fun h => h rfl)))) ?_
      refine OA.p (some 167) (.bool false) rfl rfl rfl rfl ?_
      refine OA.p (some 168) (.bool false) rfl rfl rfl rfl ?_
      refine OA.p (some 169) (.bool true) rfl rfl rfl rfl ?_
      refine OA.p (some 170) (.int .i64 ((times : Nat) : Int)) rfl rfl rfl rfl ?_
      refine OA.p (some 171) (.bool true) rfl rfl rfl (Eq.trans (r_bin rfl rfl rfl (b_gtr rfl)) (dT hc5)) ?_
      refine OA.p (some 172) (.bool false) rfl rfl rfl rfl ?_
      refine OA.p (some 173) (.bool false) rfl rfl rfl rfl ?_
      refine OA.nil ?_
      intro _
      refine RA.rebase [(1, lv), (5, (Pt b 0 0)), (6, (W nx)), (7, (.int .i64 ((want : Nat) : Int))), (8, (.int .i64 ((times : Nat) : Int))), (9, (.int .i64 ((i : Nat) : Int))), (10, (.int .i64 y)), (11, (.int .i64 1)), (20, (.bool true)), (33, (.bool true)), (45, (.int .i64 (((andN z 3) : Nat) : Int))), (96, (.bool true)), (104, (.bool true)), (112, (.bool false)), (173, (.bool false))] ⟨rfl, rfl, rfl, rfl, rfl, rfl, rfl, rfl, rfl, rfl, rfl, rfl, rfl, rfl, rfl, trivial⟩ (fun τr10 => ?_)
      refine RA.condF rfl ?_
      refine RA.skip env_ok ?_
      intro _
      refine RA.region env_ok ?_
      refine OA.p (some 34) (.int .i64 ((i : Nat) : Int)) rfl rfl rfl rfl ?_
      refine OA.p (some 35) (.int .i64 (((i + 1) : Nat) : Int)) rfl rfl rfl (r_bin rfl rfl rfl (b_add (i64_eq (by omega)))) ?_
      refine OA.p (some 9) (.int .i64 (((i + 1) : Nat) : Int)) rfl rfl rfl rfl ?_
      refine OA.nil ?_
      refine ⟨(ls.length - (i + 1)), by omega, [(b, some ⟨[(xRa28 want nx at_ mn)], 6, 94, true⟩)], (Less.refl _ _ _), ⟨(i + 1), nx, want, times, mn, at_, rfl, by omega, ⟨rfl, rfl, rfl, rfl, rfl, rfl, trivial⟩, rfl, (kb1 (by omega)), ⟨by omega, by omega, by omega, by omega, by omega, by omega⟩⟩⟩
     ·
      refine OA.callP (dst := (some 155)) (all := [(Pt b 0 0)]) (v := (.tuple ⟨[(.int .i64 0), (.bool false)]⟩)) (hd.of (by omega) (kb1 (by omega))) rfl rfl rfl rfl rfl rfl rfl rfl (aAt0 b want mn nx at_ times (by omega) (by omega) (by omega) get_here) ?_
      intro n11 hn11
      refine OA.p (some 153) (.tuple ⟨[(.int .i64 0), (.bool false)]⟩) rfl rfl rfl rfl ?_
      refine OA.p (some 156) (.int .i64 0) rfl rfl rfl rfl ?_
      refine OA.p (some 157) (.bool false) rfl rfl rfl rfl ?_
      refine OA.p (some 19) (.int .i64 0) rfl rfl rfl rfl ?_
      refine OA.p (some 20) (.bool false) rfl rfl rfl rfl ?_
      refine OA.nil ?_
      intro _
      refine RA.seq hd ?_
      refine RA.region env_ok ?_
      refine OA.p (some 158) (Pt b 0 0) rfl rfl rfl rfl ?_
      refine OA.callP (dst := (some 159)) (all := [(Pt b 0 0)]) (v := (.int .i64 ((want : Nat) : Int))) (hd.of (by omega) (kb1 (by omega))) rfl rfl rfl rfl rfl rfl rfl rfl (PS.to (aWant b want mn nx at_ get_here) (show Value.int .i64 _ = (.int .i64 ((want : Nat) : Int)) from congrArg (Value.int .i64) (by omega))) ?_
      intro n12 hn12
      refine OA.p (some 160) (.int .i64 ((want : Nat) : Int)) rfl rfl rfl rfl ?_
      refine OA.p (some 161) (.bool false) rfl rfl rfl (r_bin rfl rfl rfl (b_neq (decide_eq_false (fun h => h rfl)))) ?_
      refine OA.p (some 162) (.bool false) rfl rfl rfl rfl ?_
      refine OA.p (some 163) (Pt b 0 0) rfl rfl rfl rfl ?_
      refine OA.callP (dst := (some 164)) (all := [(Pt b 0 0)]) (v := (.int .i64 ((times : Nat) : Int))) (hd.of (by omega) (kb1 (by omega))) rfl rfl rfl rfl rfl rfl rfl rfl (aTimes b want mn nx at_ times (by omega) (by omega) get_here) ?_
      intro n13 hn13
      refine OA.p (some 165) (.int .i64 ((times : Nat) : Int)) rfl rfl rfl rfl ?_
      refine OA.p (some 166) (.bool false) rfl rfl rfl (r_bin rfl rfl rfl (b_neq (decide_eq_false (fun h => h rfl)))) ?_
      refine OA.p (some 167) (.bool false) rfl rfl rfl rfl ?_
      refine OA.p (some 168) (.bool false) rfl rfl rfl rfl ?_
      refine OA.p (some 169) (.bool false) rfl rfl rfl rfl ?_
      refine OA.p (some 170) (.int .i64 ((times : Nat) : Int)) rfl rfl rfl rfl ?_
      refine OA.p (some 171) (.bool false) rfl rfl rfl (Eq.trans (r_bin rfl rfl rfl (b_gtr rfl)) (dF hc5)) ?_
      refine OA.p (some 172) (.bool false) rfl rfl rfl rfl ?_
      refine OA.p (some 173) (.bool false) rfl rfl rfl rfl ?_
      refine OA.nil ?_
      intro _
      refine RA.rebase [(1, lv), (5, (Pt b 0 0)), (6, (W nx)), (7, (.int .i64 ((want : Nat) : Int))), (8, (.int .i64 ((times : Nat) : Int))), (9, (.int .i64 ((i : Nat) : Int))), (10, (.int .i64 y)), (11, (.int .i64 1)), (20, (.bool false)), (33, (.bool true)), (45, (.int .i64 (((andN z 3) : Nat) : Int))), (96, (.bool true)), (104, (.bool true)), (112, (.bool false)), (173, (.bool false))] ⟨rfl, rfl, rfl, rfl, rfl, rfl, rfl, rfl, rfl, rfl, rfl, rfl, rfl, rfl, rfl, trivial⟩ (fun τr14 => ?_)
      refine RA.condF rfl ?_
      refine RA.skip env_ok ?_
      intro _
      refine RA.region env_ok ?_
      refine OA.p (some 34) (.int .i64 ((i : Nat) : Int)) rfl rfl rfl rfl ?_
      refine OA.p (some 35) (.int .i64 (((i + 1) : Nat) : Int)) rfl rfl rfl (r_bin rfl rfl rfl (b_add (i64_eq (by omega)))) ?_
      refine OA.p (some 9) (.int .i64 (((i + 1) : Nat) : Int)) rfl rfl rfl rfl ?_
      refine OA.nil ?_
      refine ⟨(ls.length - (i + 1)), by omega, [(b, some ⟨[(xRa28 want nx at_ mn)], 6, 94, true⟩)], (Less.refl _ _ _), ⟨(i + 1), nx, want, times, mn, at_, rfl, by omega, ⟨rfl, rfl, rfl, rfl, rfl, rfl, trivial⟩, rfl, (kb1 (by omega)), ⟨by omega, by omega, by omega, by omega, by omega, by omega⟩⟩⟩
    ·
     by_cases hc6 : 16 < y
     ·
      refine OA.call (dst := (some 100)) (all := [(Pt b 0 0), (.int .i64 y)]) rfl rfl rfl rfl rfl rfl rfl rfl (CQ.imp (aAskX (hd.of (by omega) (kb1 (by omega))) b want mn nx at_ y (.inr hc6) get_here) ?_)
      rintro _ n15 _ ⟨rfl, rfl⟩ hn15
      refine OA.app0 ?_
      refine OA.p (some 11) (.int .i64 1) rfl rfl rfl rfl ?_
      refine OA.nil ?_
      intro _
      refine RA.rebase [(1, lv), (5, (Pt b 0 0)), (6, (W nx)), (7, (.int .i64 ((want : Nat) : Int))), (8, (.int .i64 ((times : Nat) : Int))), (9, (.int .i64 ((i : Nat) : Int))), (10, (.int .i64 y)), (11, (.int .i64 1)), (33, (.bool true)), (45, (.int .i64 (((andN z 3) : Nat) : Int))), (96, (.bool true))] ⟨rfl, rfl, rfl, rfl, rfl, rfl, rfl, rfl, rfl, rfl, rfl, trivial⟩ (fun τr16 => ?_)
      refine RA.block ?_
      refine RA.seq hd ?_
      refine RA.region env_ok ?_
      refine OA.p (some 105) (.int .i64 y) rfl rfl rfl rfl ?_
      refine OA.p (some 106) (.bool false) rfl rfl rfl (Eq.trans (r_bin rfl rfl rfl (b_lss rfl)) (dF hc4)) ?_
      refine OA.p (some 107) (.bool false) rfl rfl rfl rfl ?_
      refine OA.p (some 108) (.int .i64 y) rfl rfl rfl rfl ?_
      refine OA.p (some 109) (.bool true) rfl rfl rfl (Eq.trans (r_bin rfl rfl rfl (b_gtr rfl)) (dT hc6)) ?_
      refine OA.p (some 110) (.bool true) rfl rfl rfl rfl ?_
      refine OA.p (some 104) (.bool true) rfl rfl rfl rfl ?_
      refine OA.nil ?_
      intro _
      refine RA.condT rfl ?_
      refine RA.seq hd ?_
      refine RA.region env_ok ?_
      refine OA.p (some 111) (.int .i64 1) rfl rfl rfl rfl ?_
      refine OA.p (some 112) (.bool false) rfl rfl rfl (r_bin rfl rfl rfl (b_neq rfl)) ?_
      refine OA.nil ?_
      intro _
      refine RA.condF rfl ?_
      refine RA.skip env_ok ?_
      intro _
      refine RA.seq hd ?_
      refine RA.region env_ok ?_
      refine OA.p (some 154) (Pt b 0 0) rfl rfl rfl rfl ?_
      by_cases hc7 : 0 < ((times : Nat) : Int)
      ·
       refine OA.callP (dst := (some 155)) (all := [(Pt b 0 0)]) (v := (.tuple ⟨[(.int .i64 at_), (.bool true)]⟩)) (hd.of (by omega) (kb1 (by omega))) rfl rfl rfl rfl rfl rfl rfl rfl (aAt1 b want mn nx at_ times (by omega) (by omega) (by omega) get_here) ?_
       intro n17 hn17
       refine OA.p (some 153) (.tuple ⟨[(.int .i64 at_), (.bool true)]⟩) rfl rfl rfl rfl ?_
       refine OA.p (some 156) (.int .i64 at_) rfl rfl rfl rfl ?_
       refine OA.p (some 157) (.bool true) rfl rfl rfl rfl ?_
       refine OA.p (some 19) (.int .i64 at_) rfl rfl rfl rfl ?_
       refine OA.p (some 20) (.bool true) rfl rfl rfl rfl ?_
       refine OA.nil ?_
       intro _
       refine RA.seq hd ?_
       refine RA.region env_ok ?_
       refine OA.p (some 158) (Pt b 0 0) rfl rfl rfl rfl ?_
       refine OA.callP (dst := (some 159)) (all := [(Pt b 0 0)]) (v := (.int .i64 ((want : Nat) : Int))) (hd.of (by omega) (kb1 (by omega))) rfl rfl rfl rfl rfl rfl rfl rfl (PS.to (aWant b want mn nx at_ get_here) (show Value.int .i64 _ = (.int .i64 ((want : Nat) : Int)) from congrArg (Value.int .i64) (by omega))) ?_
       intro n18 hn18
       refine OA.p (some 160) (.int .i64 ((want : Nat) : Int)) rfl rfl rfl rfl ?_
       refine OA.p (some 161) (.bool false) rfl rfl rfl (r_bin rfl rfl rfl (b_neq (decide_eq_false (fun h => h rfl)))) ?_
       refine OA.p (some 162) (.bool false) rfl rfl rfl rfl ?_
       refine OA.p (some 163) (Pt b 0 0) rfl rfl rfl rfl ?_
       refine OA.callP (dst := (some 164)) (all := [(Pt b 0 0)]) (v := (.int .i64 ((times : Nat) : Int))) (hd.of (by omega) (kb1 (by omega))) rfl rfl rfl rfl rfl rfl rfl rfl (aTimes b want mn nx at_ times (by omega) (by omega) get_here) ?_
       intro n19 hn19
       refine OA.p (some 165) (.int .i64 ((times : Nat) : Int)) rfl rfl rfl rfl ?_
       refine OA.p (some 166) (.bool false) rfl rfl rfl (r_bin rfl rfl rfl (b_neq (decide_eq_false (fun h => h rfl)))) ?_
       refine OA.p (some 167) (.bool false) rfl rfl rfl rfl ?_
       refine OA.p (some 168) (.bool false) rfl rfl rfl rfl ?_
       refine OA.p (some 169) (.bool true) rfl rfl rfl rfl ?_
       refine OA.p (some 170) (.int .i64 ((times : Nat) : Int)) rfl rfl rfl rfl ?_
       refine OA.p (some 171) (.bool true) rfl rfl rfl (Eq.trans (r_bin rfl rfl rfl (b_gtr rfl)) (dT hc7)) ?_
       refine OA.p (some 172) (.bool false) rfl rfl rfl rfl ?_
       refine OA.p (some 173) (.bool false) rfl rfl rfl rfl ?_
       refine OA.nil ?_
       intro _
       refine RA.rebase [(1, lv), (5, (Pt b 0 0)), (6, (W nx)), (7, (.int .i64 ((want : Nat) : Int))), (8, (.int .i64 ((times : Nat) : Int))), (9, (.int .i64 ((i : Nat) : Int))), (10, (.int .i64 y)), (11, (.int .i64 1)), (20, (.bool true)), (33, (.bool true)), (45, (.int .i64 (((andN z 3) : Nat) : Int))), (96, (.bool true)), (104, (.bool true)), (112, (.bool false)), (173, (.bool false))] ⟨rfl, rfl, rfl, rfl, rfl, rfl, rfl, rfl, rfl, rfl, rfl, rfl, rfl, rfl, rfl, trivial⟩ (fun τr20 => ?_)
       refine RA.condF rfl ?_
       refine RA.skip env_ok ?_
       intro _
       refine RA.region env_ok ?_
       refine OA.p (some 34) (.int .i64 ((i : Nat) : Int)) rfl rfl rfl rfl ?_
       refine OA.p (some 35) (.int .i64 (((i + 1) : Nat) : Int)) rfl rfl rfl (r_bin rfl rfl rfl (b_add (i64_eq (by omega)))) ?_
       refine OA.p (some 9) (.int .i64 (((i + 1) : Nat) : Int)) rfl rfl rfl rfl ?_
       refine OA.nil ?_
       refine ⟨(ls.length - (i + 1)), by omega, [(b, some ⟨[(xRa28 want nx at_ mn)], 6, 94, true⟩)], (Less.refl _ _ _), ⟨(i + 1), nx, want, times, mn, at_, rfl, by omega, ⟨rfl, rfl, rfl, rfl, rfl, rfl, trivial⟩, rfl, (kb1 (by omega)), ⟨by omega, by omega, by omega, by omega, by omega, by omega⟩⟩⟩
      ·
       refine OA.callP (dst := (some 155)) (all := [(Pt b 0 0)]) (v := (.tuple ⟨[(.int .i64 0), (.bool false)]⟩)) (hd.of (by omega) (kb1 (by omega))) rfl rfl rfl rfl rfl rfl rfl rfl (aAt0 b want mn nx at_ times (by omega) (by omega) (by omega) get_here) ?_
       intro n21 hn21
       refine OA.p (some 153) (.tuple ⟨[(.int .i64 0), (.bool false)]⟩) rfl rfl rfl rfl ?_
       refine OA.p (some 156) (.int .i64 0) rfl rfl rfl rfl ?_
       refine OA.p (some 157) (.bool false) rfl rfl rfl rfl ?_
       refine OA.p (some 19) (.int .i64 0) rfl rfl rfl rfl ?_
       refine OA.p (some 20) (.bool false) rfl rfl rfl rfl ?_
       refine OA.nil ?_
       intro _
       refine RA.seq hd ?_
       refine RA.region env_ok ?_
       refine OA.p (some 158) (Pt b 0 0) rfl rfl rfl rfl ?_
       refine OA.callP (dst := (some 159)) (all := [(Pt b 0 0)]) (v := (.int .i64 ((want : Nat) : Int))) (hd.of (by omega) (kb1 (by omega))) rfl rfl rfl rfl rfl rfl rfl rfl (PS.to (aWant b want mn nx at_ get_here) (show Value.int .i64 _ = (.int .i64 ((want : Nat) : Int)) from congrArg (Value.int .i64) (by omega))) ?_
       intro n22 hn22
       refine OA.p (some 160) (.int .i64 ((want : Nat) : Int)) rfl rfl rfl rfl ?_
       refine OA.p (some 161) (.bool false) rfl rfl rfl (r_bin rfl rfl rfl (b_neq (decide_eq_false (fun h => h rfl)))) ?_
       refine OA.p (some 162) (.bool false) rfl rfl rfl rfl ?_
       refine OA.p (some 163) (Pt b 0 0) rfl rfl rfl rfl ?_
       refine OA.callP (dst := (some 164)) (all := [(Pt b 0 0)]) (v := (.int .i64 ((times : Nat) : Int))) (hd.of (by omega) (kb1 (by omega))) rfl rfl rfl rfl rfl rfl rfl rfl (aTimes b want mn nx at_ times (by omega) (by omega) get_here) ?_
       intro n23 hn23
       refine OA.p (some 165) (.int .i64 ((times : Nat) : Int)) rfl rfl rfl rfl ?_
       refine OA.p (some 166) (.bool false) rfl rfl rfl (r_bin rfl rfl rfl (b_neq (decide_eq_false (fun h => h rfl)))) ?_
       refine OA.p (some 167) (.bool false) rfl rfl rfl rfl ?_
       refine OA.p (some 168) (.bool false) rfl rfl rfl rfl ?_
       refine OA.p (some 169) (.bool false) rfl rfl rfl rfl ?_
       refine OA.p (some 170) (.int .i64 ((times : Nat) : Int)) rfl rfl rfl rfl ?_
       refine OA.p (some 171) (.bool false) rfl rfl rfl (Eq.trans (r_bin rfl rfl rfl (b_gtr rfl)) (dF hc7)) ?_
       refine OA.p (some 172) (.bool false) rfl rfl rfl rfl ?_
       refine OA.p (some 173) (.bool false) rfl rfl rfl rfl ?_
       refine OA.nil ?_
       intro _
       refine RA.rebase [(1, lv), (5, (Pt b 0 0)), (6, (W nx)), (7, (.int .i64 ((want : Nat) : Int))), (8, (.int .i64 ((times : Nat) : Int))), (9, (.int .i64 ((i : Nat) : Int))), (10, (.int .i64 y)), (11, (.int .i64 1)), (20, (.bool false)), (33, (.bool true)), (45, (.int .i64 (((andN z 3) : Nat) : Int))), (96, (.bool true)), (104, (.bool true)), (112, (.bool false)), (173, (.bool false))] ⟨rfl, rfl, rfl, rfl, rfl, rfl, rfl, rfl, rfl, rfl, rfl, rfl, rfl, rfl, rfl, trivial⟩ (fun τr24 => ?_)
       refine RA.condF rfl ?_
       refine RA.skip env_ok ?_
       intro _
       refine RA.region env_ok ?_
       refine OA.p (some 34) (.int .i64 ((i : Nat) : Int)) rfl rfl rfl rfl ?_
       refine OA.p (some 35) (.int .i64 (((i + 1) : Nat) : Int)) rfl rfl rfl (r_bin rfl rfl rfl (b_add (i64_eq (by omega)))) ?_
       refine OA.p (some 9) (.int .i64 (((i + 1) : Nat) : Int)) rfl rfl rfl rfl ?_
       refine OA.nil ?_
       refine ⟨(ls.length - (i + 1)), by omega, [(b, some ⟨[(xRa28 want nx at_ mn)], 6, 94, true⟩)], (Less.refl _ _ _), ⟨(i + 1), nx, want, times, mn, at_, rfl, by omega, ⟨rfl, rfl, rfl, rfl, rfl, rfl, trivial⟩, rfl, (kb1 (by omega)), ⟨by omega, by omega, by omega, by omega, by omega, by omega⟩⟩⟩
     ·
      by_cases hc8 : 0 < ((want : Nat) : Int)
      ·
       refine OA.call (dst := (some 100)) (all := [(Pt b 0 0), (.int .i64 y)]) rfl rfl rfl rfl rfl rfl rfl rfl (CQ.imp (aAskF (hd.of (by omega) (kb1 (by omega))) b want mn nx at_ y hc4 hc6 (by omega) get_here) ?_)
       rintro _ n25 _ ⟨rfl, rfl⟩ hn25
       refine OA.app0 ?_
       refine OA.p (some 11) (.int .i64 6) rfl rfl rfl rfl ?_
       refine OA.nil ?_
       intro _
       refine RA.rebase [(1, lv), (5, (Pt b 0 0)), (6, (W nx)), (7, (.int .i64 ((want : Nat) : Int))), (8, (.int .i64 ((times : Nat) : Int))), (9, (.int .i64 ((i : Nat) : Int))), (10, (.int .i64 y)), (11, (.int .i64 6)), (33, (.bool true)), (45, (.int .i64 (((andN z 3) : Nat) : Int))), (96, (.bool true))] ⟨rfl, rfl, rfl, rfl, rfl, rfl, rfl, rfl, rfl, rfl, rfl, trivial⟩ (fun τr26 => ?_)
       refine RA.block ?_
       refine RA.seq hd ?_
       refine RA.region env_ok ?_
       refine OA.p (some 105) (.int .i64 y) rfl rfl rfl rfl ?_
       refine OA.p (some 106) (.bool false) rfl rfl rfl (Eq.trans (r_bin rfl rfl rfl (b_lss rfl)) (dF hc4)) ?_
       refine OA.p (some 107) (.bool false) rfl rfl rfl rfl ?_
       refine OA.p (some 108) (.int .i64 y) rfl rfl rfl rfl ?_
       refine OA.p (some 109) (.bool false) rfl rfl rfl (Eq.trans (r_bin rfl rfl rfl (b_gtr rfl)) (dF hc6)) ?_
       refine OA.p (some 110) (.bool false) rfl rfl rfl rfl ?_
       refine OA.p (some 104) (.bool false) rfl rfl rfl rfl ?_
       refine OA.nil ?_
       intro _
       refine RA.condF rfl ?_
       refine RA.seq hd ?_
       refine RA.region env_ok ?_
       refine OA.p (some 114) (.int .i64 ((want : Nat) : Int)) rfl rfl rfl rfl ?_
       refine OA.p (some 115) (.bool true) rfl rfl rfl (Eq.trans (r_bin rfl rfl rfl (b_gtr rfl)) (dT hc8)) ?_
       refine OA.p (some 113) (.bool true) rfl rfl rfl rfl ?_
       refine OA.nil ?_
       intro _
       refine RA.condT rfl ?_
       refine RA.seq hd ?_
       refine RA.region env_ok ?_
       refine OA.p (some 116) (.int .i64 6) rfl rfl rfl rfl ?_
       refine OA.p (some 117) (.bool false) rfl rfl rfl (r_bin rfl rfl rfl (b_neq rfl)) ?_
       refine OA.nil ?_
       intro _
       refine RA.condF rfl ?_
       refine RA.skip env_ok ?_
       intro _
       refine RA.seq hd ?_
       refine RA.region env_ok ?_
       refine OA.p (some 154) (Pt b 0 0) rfl rfl rfl rfl ?_
       by_cases hc9 : 0 < ((times : Nat) : Int)
       ·
        refine OA.callP (dst := (some 155)) (all := [(Pt b 0 0)]) (v := (.tuple ⟨[(.int .i64 at_), (.bool true)]⟩)) (hd.of (by omega) (kb1 (by omega))) rfl rfl rfl rfl rfl rfl rfl rfl (aAt1 b want mn nx at_ times (by omega) (by omega) (by omega) get_here) ?_
        intro n27 hn27
        refine OA.p (some 153) (.tuple ⟨[(.int .i64 at_), (.bool true)]⟩) rfl rfl rfl rfl ?_
        refine OA.p (some 156) (.int .i64 at_) rfl rfl rfl rfl ?_
        refine OA.p (some 157) (.bool true) rfl rfl rfl rfl ?_
        refine OA.p (some 19) (.int .i64 at_) rfl rfl rfl rfl ?_
        refine OA.p (some 20) (.bool true) rfl rfl rfl rfl ?_
        refine OA.nil ?_
        intro _
        refine RA.seq hd ?_
        refine RA.region env_ok ?_
        refine OA.p (some 158) (Pt b 0 0) rfl rfl rfl rfl ?_
        refine OA.callP (dst := (some 159)) (all := [(Pt b 0 0)]) (v := (.int .i64 ((want : Nat) : Int))) (hd.of (by omega) (kb1 (by omega))) rfl rfl rfl rfl rfl rfl rfl rfl (PS.to (aWant b want mn nx at_ get_here) (show Value.int .i64 _ = (.int .i64 ((want : Nat) : Int)) from congrArg (Value.int .i64) (by omega))) ?_
        intro n28 hn28
        refine OA.p (some 160) (.int .i64 ((want : Nat) : Int)) rfl rfl rfl rfl ?_
        refine OA.p (some 161) (.bool false) rfl rfl rfl (r_bin rfl rfl rfl (b_neq (decide_eq_false (fun h => h rfl)))) ?_
        refine OA.p (some 162) (.bool false) rfl rfl rfl rfl ?_
        refine OA.p (some 163) (Pt b 0 0) rfl rfl rfl rfl ?_
        refine OA.callP (dst := (some 164)) (all := [(Pt b 0 0)]) (v := (.int .i64 ((times : Nat) : Int))) (hd.of (by omega) (kb1 (by omega))) rfl rfl rfl rfl rfl rfl rfl rfl (aTimes b want mn nx at_ times (by omega) (by omega) get_here) ?_
        intro n29 hn29
        refine OA.p (some 165) (.int .i64 ((times : Nat) : Int)) rfl rfl rfl rfl ?_
        refine OA.p (some 166) (.bool false) rfl rfl rfl (r_bin rfl rfl rfl (b_neq (decide_eq_false (fun h => h rfl)))) ?_
        refine OA.p (some 167) (.bool false) rfl rfl rfl rfl ?_
        refine OA.p (some 168) (.bool false) rfl rfl rfl rfl ?_
        refine OA.p (some 169) (.bool true) rfl rfl rfl rfl ?_
        refine OA.p (some 170) (.int .i64 ((times : Nat) : Int)) rfl rfl rfl rfl ?_
        refine OA.p (some 171) (.bool true) rfl rfl rfl (Eq.trans (r_bin rfl rfl rfl (b_gtr rfl)) (dT hc9)) ?_
        refine OA.p (some 172) (.bool false) rfl rfl rfl rfl ?_
        refine OA.p (some 173) (.bool false) rfl rfl rfl rfl ?_
        refine OA.nil ?_
        intro _
        refine RA.rebase [(1, lv), (5, (Pt b 0 0)), (6, (W nx)), (7, (.int .i64 ((want : Nat) : Int))), (8, (.int .i64 ((times : Nat) : Int))), (9, (.int .i64 ((i : Nat) : Int))), (10, (.int .i64 y)), (11, (.int .i64 6)), (20, (.bool true)), (33, (.bool true)), (45, (.int .i64 (((andN z 3) : Nat) : Int))), (96, (.bool true)), (104, (.bool false)), (113, (.bool true)), (117, (.bool false)), (173, (.bool false))] ⟨rfl, rfl, rfl, rfl, rfl, rfl, rfl, rfl, rfl, rfl, rfl, rfl, rfl, rfl, rfl, rfl, trivial⟩ (fun τr30 => ?_)
        refine RA.condF rfl ?_
        refine RA.skip env_ok ?_
        intro _
        refine RA.region env_ok ?_
        refine OA.p (some 34) (.int .i64 ((i : Nat) : Int)) rfl rfl rfl rfl ?_
        refine OA.p (some 35) (.int .i64 (((i + 1) : Nat) : Int)) rfl rfl rfl (r_bin rfl rfl rfl (b_add (i64_eq (by omega)))) ?_
        refine OA.p (some 9) (.int .i64 (((i + 1) : Nat) : Int)) rfl rfl rfl rfl ?_
        refine OA.nil ?_
        refine ⟨(ls.length - (i + 1)), by omega, [(b, some ⟨[(xRa28 want nx at_ mn)], 6, 94, true⟩)], (Less.refl _ _ _), ⟨(i + 1), nx, want, times, mn, at_, rfl, by omega, ⟨rfl, rfl, rfl, rfl, rfl, rfl, trivial⟩, rfl, (kb1 (by omega)), ⟨by omega, by omega, by omega, by omega, by omega, by omega⟩⟩⟩
       ·
        refine OA.callP (dst := (some 155)) (all := [(Pt b 0 0)]) (v := (.tuple ⟨[(.int .i64 0), (.bool false)]⟩)) (hd.of (by omega) (kb1 (by omega))) rfl rfl rfl rfl rfl rfl rfl rfl (aAt0 b want mn nx at_ times (by omega) (by omega) (by omega) get_here) ?_
        intro n31 hn31
        refine OA.p (some 153) (.tuple ⟨[(.int .i64 0), (.bool false)]⟩) rfl rfl rfl rfl ?_
        refine OA.p (some 156) (.int .i64 0) rfl rfl rfl rfl ?_
        refine OA.p (some 157) (.bool false) rfl rfl rfl rfl ?_
        refine OA.p (some 19) (.int .i64 0) rfl rfl rfl rfl ?_
        refine OA.p (some 20) (.bool false) rfl rfl rfl rfl ?_
        refine OA.nil ?_
        intro _
        refine RA.seq hd ?_
        refine RA.region env_ok ?_
        refine OA.p (some 158) (Pt b 0 0) rfl rfl rfl rfl ?_
        refine OA.callP (dst := (some 159)) (all := [(Pt b 0 0)]) (v := (.int .i64 ((want : Nat) : Int))) (hd.of (by omega) (kb1 (by omega))) rfl rfl rfl rfl rfl rfl rfl rfl (PS.to (aWant b want mn nx at_ get_here) (show Value.int .i64 _ = (.int .i64 ((want : Nat) : Int)) from congrArg (Value.int .i64) (by omega))) ?_
        intro n32 hn32
        refine OA.p (some 160) (.int .i64 ((want : Nat) : Int)) rfl rfl rfl rfl ?_
        refine OA.p (some 161) (.bool false) rfl rfl rfl (r_bin rfl rfl rfl (b_neq (decide_eq_false (fun h => h rfl)))) ?_
        refine OA.p (some 162) (.bool false) rfl rfl rfl rfl ?_
        refine OA.p (some 163) (Pt b 0 0) rfl rfl rfl rfl ?_
        refine OA.callP (dst := (some 164)) (all := [(Pt b 0 0)]) (v := (.int .i64 ((times : Nat) : Int))) (hd.of (by omega) (kb1 (by omega))) rfl rfl rfl rfl rfl rfl rfl rfl (aTimes b want mn nx at_ times (by omega) (by omega) get_here) ?_
        intro n33 hn33
        refine OA.p (some 165) (.int .i64 ((times : Nat) : Int)) rfl rfl rfl rfl ?_
        refine OA.p (some 166) (.bool false) rfl rfl rfl (r_bin rfl rfl rfl (b_neq (decide_eq_false (fun h => h rfl)))) ?_
        refine OA.p (some 167) (.bool false) rfl rfl rfl rfl ?_
        refine OA.p (some 168) (.bool false) rfl rfl rfl rfl ?_
        refine OA.p (some 169) (.bool false) rfl rfl rfl rfl ?_
        refine OA.p (some 170) (.int .i64 ((times : Nat) : Int)) rfl rfl rfl rfl ?_
        refine OA.p (some 171) (.bool false) rfl rfl rfl (Eq.trans (r_bin rfl rfl rfl (b_gtr rfl)) (dF hc9)) ?_
        refine OA.p (some 172) (.bool false) rfl rfl rfl rfl ?_
        refine OA.p (some 173) (.bool false) rfl rfl rfl rfl ?_
        refine OA.nil ?_
        intro _
        refine RA.rebase [(1, lv), (5, (Pt b 0 0)), (6, (W nx)), (7, (.int .i64 ((want : Nat) : Int))), (8, (.int .i64 ((times : Nat) : Int))), (9, (.int .i64 ((i : Nat) : Int))), (10, (.int .i64 y)), (11, (.int .i64 6)), (20, (.bool false)), (33, (.bool true)), (45, (.int .i64 (((andN z 3) : Nat) : Int))), (96, (.bool true)), (104, (.bool false)), (113, (.bool true)), (117, (.bool false)), (173, (.bool false))] ⟨rfl, rfl, rfl, rfl, rfl, rfl, rfl, rfl, rfl, rfl, rfl, rfl, rfl, rfl, rfl, rfl, trivial⟩ (fun τr34 => ?_)
        refine RA.condF rfl ?_
        refine RA.skip env_ok ?_
        intro _
        refine RA.region env_ok ?_
        refine OA.p (some 34) (.int .i64 ((i : Nat) : Int)) rfl rfl rfl rfl ?_
        refine OA.p (some 35) (.int .i64 (((i + 1) : Nat) : Int)) rfl rfl rfl (r_bin rfl rfl rfl (b_add (i64_eq (by omega)))) ?_
        refine OA.p (some 9) (.int .i64 (((i + 1) : Nat) : Int)) rfl rfl rfl rfl ?_
        refine OA.nil ?_
        refine ⟨(ls.length - (i + 1)), by omega, [(b, some ⟨[(xRa28 want nx at_ mn)], 6, 94, true⟩)], (Less.refl _ _ _), ⟨(i + 1), nx, want, times, mn, at_, rfl, by omega, ⟨rfl, rfl, rfl, rfl, rfl, rfl, trivial⟩, rfl, (kb1 (by omega)), ⟨by omega, by omega, by omega, by omega, by omega, by omega⟩⟩⟩
      ·
       refine OA.call (dst := (some 100)) (all := [(Pt b 0 0), (.int .i64 y)]) rfl rfl rfl rfl rfl rfl rfl rfl (CQ.imp (aAsk (hd.of (by omega) (kb1 (by omega))) b want mn nx at_ y y.toNat (by omega) (by omega) (by omega) get_here) ?_)
       rintro _ n35 _ ⟨rfl, rfl⟩ hn35
       refine OA.app1 ?_
       refine OA.p (some 11) (.int .i64 0) rfl rfl rfl rfl ?_
       refine OA.nil ?_
       intro _
       refine RA.rebase [(1, lv), (5, (Pt b 0 0)), (6, (W nx)), (7, (.int .i64 ((want : Nat) : Int))), (8, (.int .i64 ((times : Nat) : Int))), (9, (.int .i64 ((i : Nat) : Int))), (10, (.int .i64 y)), (11, (.int .i64 0)), (33, (.bool true)), (45, (.int .i64 (((andN z 3) : Nat) : Int))), (96, (.bool true))] ⟨rfl, rfl, rfl, rfl, rfl, rfl, rfl, rfl, rfl, rfl, rfl, trivial⟩ (fun τr36 => ?_)
       refine RA.block ?_
       refine RA.seq hd ?_
       refine RA.region env_ok ?_
       refine OA.p (some 105) (.int .i64 y) rfl rfl rfl rfl ?_
       refine OA.p (some 106) (.bool false) rfl rfl rfl (Eq.trans (r_bin rfl rfl rfl (b_lss rfl)) (dF hc4)) ?_
       refine OA.p (some 107) (.bool false) rfl rfl rfl rfl ?_
       refine OA.p (some 108) (.int .i64 y) rfl rfl rfl rfl ?_
       refine OA.p (some 109) (.bool false) rfl rfl rfl (Eq.trans (r_bin rfl rfl rfl (b_gtr rfl)) (dF hc6)) ?_
       refine OA.p (some 110) (.bool false) rfl rfl rfl rfl ?_
       refine OA.p (some 104) (.bool false) rfl rfl rfl rfl ?_
       refine OA.nil ?_
       intro _
       refine RA.condF rfl ?_
       refine RA.seq hd ?_
       refine RA.region env_ok ?_
       refine OA.p (some 114) (.int .i64 ((want : Nat) : Int)) rfl rfl rfl rfl ?_
       refine OA.p (some 115) (.bool false) rfl rfl rfl (Eq.trans (r_bin rfl rfl rfl (b_gtr rfl)) (dF hc8)) ?_
       refine OA.p (some 113) (.bool false) rfl rfl rfl rfl ?_
       refine OA.nil ?_
       intro _
       refine RA.condF rfl ?_
       refine RA.seq hd ?_
       refine RA.seq hd ?_
       refine RA.region env_ok ?_
       refine OA.p (some 101) (.int .i64 0) rfl rfl rfl rfl ?_
       refine OA.p (some 102) (.bool false) rfl rfl rfl (r_bin rfl rfl rfl (b_neq rfl)) ?_
       refine OA.nil ?_
       intro _
       refine RA.condF rfl ?_
       refine RA.skip env_ok ?_
       intro _
       refine RA.region env_ok ?_
       refine OA.p (some 103) (.int .i64 y) rfl rfl rfl rfl ?_
       refine OA.p (some 7) (.int .i64 y) rfl rfl rfl rfl ?_
       refine OA.p (some 8) (.int .i64 0) rfl rfl rfl rfl ?_
       refine OA.nil ?_
       intro _
       refine RA.seq hd ?_
       refine RA.region env_ok ?_
       refine OA.p (some 154) (Pt b 0 0) rfl rfl rfl rfl ?_
       refine OA.callP (dst := (some 155)) (all := [(Pt b 0 0)]) (v := (.tuple ⟨[(.int .i64 0), (.bool false)]⟩)) (hd.of (by omega) (kb2 (by omega))) rfl rfl rfl rfl rfl rfl rfl rfl (aAt0 b y.toNat 0 nx at_ 0 (by omega) (by omega) (by omega) get_here) ?_
       intro n37 hn37
       refine OA.p (some 153) (.tuple ⟨[(.int .i64 0), (.bool false)]⟩) rfl rfl rfl rfl ?_
       refine OA.p (some 156) (.int .i64 0) rfl rfl rfl rfl ?_
       refine OA.p (some 157) (.bool false) rfl rfl rfl rfl ?_
       refine OA.p (some 19) (.int .i64 0) rfl rfl rfl rfl ?_
       refine OA.p (some 20) (.bool false) rfl rfl rfl rfl ?_
       refine OA.nil ?_
       intro _
       refine RA.seq hd ?_
       refine RA.region env_ok ?_
       refine OA.p (some 158) (Pt b 0 0) rfl rfl rfl rfl ?_
       refine OA.callP (dst := (some 159)) (all := [(Pt b 0 0)]) (v := (.int .i64 y)) (hd.of (by omega) (kb2 (by omega))) rfl rfl rfl rfl rfl rfl rfl rfl (PS.to (aWant b y.toNat 0 nx at_ get_here) (show Value.int .i64 _ = (.int .i64 y) from congrArg (Value.int .i64) (by omega))) ?_
       intro n38 hn38
       refine OA.p (some 160) (.int .i64 y) rfl rfl rfl rfl ?_
       refine OA.p (some 161) (.bool false) rfl rfl rfl (r_bin rfl rfl rfl (b_neq (decide_eq_false (fun h => h rfl)))) ?_
       refine OA.p (some 162) (.bool false) rfl rfl rfl rfl ?_
       refine OA.p (some 163) (Pt b 0 0) rfl rfl rfl rfl ?_
       refine OA.callP (dst := (some 164)) (all := [(Pt b 0 0)]) (v := (.int .i64 0)) (hd.of (by omega) (kb2 (by omega))) rfl rfl rfl rfl rfl rfl rfl rfl (aTimes b y.toNat 0 nx at_ 0 (by omega) (by omega) get_here) ?_
       intro n39 hn39
       refine OA.p (some 165) (.int .i64 0) rfl rfl rfl rfl ?_
       refine OA.p (some 166) (.bool false) rfl rfl rfl (r_bin rfl rfl rfl (b_neq rfl)) ?_
       refine OA.p (some 167) (.bool false) rfl rfl rfl rfl ?_
       refine OA.p (some 168) (.bool false) rfl rfl rfl rfl ?_
       refine OA.p (some 169) (.bool false) rfl rfl rfl rfl ?_
       refine OA.p (some 170) (.int .i64 0) rfl rfl rfl rfl ?_
       refine OA.p (some 171) (.bool false) rfl rfl rfl (r_bin rfl rfl rfl (b_gtr rfl)) ?_
       refine OA.p (some 172) (.bool false) rfl rfl rfl rfl ?_
       refine OA.p (some 173) (.bool false) rfl rfl rfl rfl ?_
       refine OA.nil ?_
       intro _
       refine RA.rebase [(1, lv), (5, (Pt b 0 0)), (6, (W nx)), (7, (.int .i64 y)), (8, (.int .i64 0)), (9, (.int .i64 ((i : Nat) : Int))), (10, (.int .i64 y)), (11, (.int .i64 0)), (20, (.bool false)), (33, (.bool true)), (45, (.int .i64 (((andN z 3) : Nat) : Int))), (96, (.bool true)), (102, (.bool false)), (104, (.bool false)), (113, (.bool false)), (173, (.bool false))] ⟨rfl, rfl, rfl, rfl, rfl, rfl, rfl, rfl, rfl, rfl, rfl, rfl, rfl, rfl, rfl, rfl, trivial⟩ (fun τr40 => ?_)
       refine RA.condF rfl ?_
       refine RA.skip env_ok ?_
       intro _
       refine RA.region env_ok ?_
       refine OA.p (some 34) (.int .i64 ((i : Nat) : Int)) rfl rfl rfl rfl ?_
       refine OA.p (some 35) (.int .i64 (((i + 1) : Nat) : Int)) rfl rfl rfl (r_bin rfl rfl rfl (b_add (i64_eq (by omega)))) ?_
       refine OA.p (some 9) (.int .i64 (((i + 1) : Nat) : Int)) rfl rfl rfl rfl ?_
       refine OA.nil ?_
       refine ⟨(ls.length - (i + 1)), by omega, [(b, some ⟨[[(.int .i64 ((y.toNat : Nat) : Int)), (W nx), (.int .i64 at_), (.int .i64 0), (W 0#32), (.int .i64 0)]], 6, 94, true⟩)], (Less.of (fac (mm (fun _ => get_here) (fun _ => get_here)) fan) (gone_of (by simp only [goneP, memP, List.cons_append, List.nil_append, true_or, or_true, true_and, and_true, or_false] <;> omega))), ⟨(i + 1), nx, y.toNat, 0, 0, at_, rfl, by omega, ⟨rfl, rfl, rfl, (congrArg (Value.int .i64) (by omega)), rfl, rfl, trivial⟩, rfl, (kb1 (by omega)), ⟨by omega, by omega, by omega, by omega, by omega, by omega⟩⟩⟩
   ·
    refine OA.p (some 97) (.bool false) rfl rfl rfl (Eq.trans (r_bin rfl rfl rfl (b_eql rfl)) (dF hc3)) ?_
    refine OA.p (some 96) (.bool false) rfl rfl rfl rfl ?_
    refine OA.nil ?_
    intro _
    refine RA.condF rfl ?_
    refine RA.seq hd ?_
    refine RA.region env_ok ?_
    by_cases hc10 : (((andN z 3) : Nat) : Int) = 1
    ·
     refine OA.p (some 119) (.bool true) rfl rfl rfl (Eq.trans (r_bin rfl rfl rfl (b_eql rfl)) (dT hc10)) ?_
     refine OA.p (some 118) (.bool true) rfl rfl rfl rfl ?_
     refine OA.nil ?_
     intro _
     refine RA.condT rfl ?_
     refine RA.seq hd ?_
     refine RA.region env_ok ?_
     refine OA.p (some 121) (Pt b 0 0) rfl rfl rfl rfl ?_
     refine OA.p (some 122) (.int .i64 ((i : Nat) : Int)) rfl rfl rfl rfl ?_
     by_cases hc11 : 0 < ((want : Nat) : Int)
     ·
      refine OA.call (dst := (some 123)) (all := [(Pt b 0 0), (.int .i64 ((i : Nat) : Int))]) rfl rfl rfl rfl rfl rfl rfl rfl (CQ.imp (aSend (hd.of (by omega) (kb1 (by omega))) b want mn nx at_ ((i : Nat) : Int) (by omega) (by omega) (by omega) get_here) ?_)
      rintro _ n41 _ ⟨in41, hin41a, hin41b, rfl, rfl⟩ hn41
      refine OA.app2 ?_
      refine OA.p (some 120) (.tuple ⟨[(.agg ⟨(xRa24 nx in41)⟩), (.bool true)]⟩) rfl rfl rfl rfl ?_
      refine OA.p (some 124) (.agg ⟨(xRa24 nx in41)⟩) rfl rfl rfl rfl ?_
      refine OA.p (some 125) (.bool true) rfl rfl rfl rfl ?_
      refine OA.op1 (dst := (some 12)) (v := (Pt n41 0 0)) (n1 := (n41 + 1)) (w := (n41, some ⟨[xRa26], 15, 53, true⟩)) rfl rfl rfl rfl (by omega) ?_
      refine OA.op1 (dst := none) (v := (.tuple #[])) (n1 := (n41 + 1)) (w := (n41, some ⟨[(xRa24 nx in41)], 15, 53, true⟩)) rfl rfl rfl (r_store rfl rfl rfl rfl rfl rfl rfl get_here rfl rfl (Nat.le_of_ble_eq_true rfl) rfl) (by omega) ?_
      refine OA.p (some 13) (.bool true) rfl rfl rfl rfl ?_
      refine OA.nil ?_
      intro _
      refine RA.weaken (D' := [(n41, some ⟨[(xRa24 nx in41)], 15, 53, true⟩), (b, some ⟨[(xRa27 want nx i mn)], 6, 94, true⟩), (in41, some ⟨[[(.int .i64 17), (.string (moreV nx want))]], 2, 35, true⟩)]) hd (Less.of (fac (mm (fun _ => get_here) (fun _ => get_here)) (fac (mm (fun _ => (get_there (by omega) get_here)) (fun _ => (gt2 (by omega) get_here))) (fac (mm (fun _ => (gt2 (by omega) get_here)) (fun _ => (gt3 (by omega) get_here))) fan))) (gone_of (by simp only [goneP, memP, List.cons_append, List.nil_append, true_or, or_true, true_and, and_true, or_false] <;> omega))) ?_
      refine RA.rebase [(1, lv), (5, (Pt b 0 0)), (6, (W nx)), (7, (.int .i64 ((want : Nat) : Int))), (8, (.int .i64 ((times : Nat) : Int))), (9, (.int .i64 ((i : Nat) : Int))), (10, (.int .i64 y)), (12, (Pt n41 0 0)), (13, (.bool true)), (33, (.bool true)), (45, (.int .i64 (((andN z 3) : Nat) : Int))), (96, (.bool false)), (118, (.bool true))] ⟨rfl, rfl, rfl, rfl, rfl, rfl, rfl, rfl, rfl, rfl, rfl, rfl, rfl, trivial⟩ (fun τr42 => ?_)
      refine RA.seq hd ?_
      refine RA.region env_ok ?_
      refine OA.p (some 126) (W nx) rfl rfl rfl rfl ?_
      refine OA.callP (dst := (some 127)) (all := [(W nx)]) (v := (.string (bstr (putL (nx).toNat 4)))) (hd.of (by omega) (kb3 (by omega))) rfl rfl rfl rfl rfl rfl rfl rfl (sFour nx) ?_
      intro n43 hn43
      refine OA.p (some 128) (.int .i64 ((want : Nat) : Int)) rfl rfl rfl rfl ?_
      refine OA.p (some 129) (.int .u64 ((want : Nat) : Int)) rfl rfl rfl (r_cvt rfl rfl rfl rfl rfl ⟨_, rfl⟩ (u64_eq (by omega))) ?_
      refine OA.callP (dst := (some 130)) (all := [(.int .u64 ((want : Nat) : Int)), (.int .i64 2)]) (v := (.string (bstr (putL want 2)))) (hd.of (by omega) (kb3 (by omega))) rfl rfl rfl rfl rfl rfl rfl rfl (sPut 2 want (by omega) (by decide)) ?_
      intro n44 hn44
      refine OA.p (some 131) (.string ((bstr (putL (nx).toNat 4)) ++ (bstr (putL want 2)))) rfl rfl rfl (r_cat rfl rfl rfl (by (try simp only [ByteArray.size_append, bstr_size, size_lit, List.size_toArray, List.length_cons, List.length_nil, List.length_take, List.length_drop, List.length_replicate, putL_len]); try omega)) ?_
      refine OA.p (some 132) (.string (((bstr (putL (nx).toNat 4)) ++ (bstr (putL want 2))) ++ (ByteArray.mk #[0, 0]))) rfl rfl rfl (r_cat rfl rfl rfl (by (try simp only [ByteArray.size_append, bstr_size, size_lit, List.size_toArray, List.length_cons, List.length_nil, List.length_take, List.length_drop, List.length_replicate, putL_len]); try omega)) ?_
      refine OA.p (some 133) (.agg ⟨(xRa29 nx want)⟩) rfl rfl rfl (by kernel_rfl) ?_
      refine OA.op1 (dst := (some 14)) (v := (Pt n44 0 0)) (n1 := (n44 + 1)) (w := (n44, some ⟨[[(.int .i64 0), (.string ByteArray.empty)]], 2, 35, true⟩)) rfl rfl rfl rfl (by omega) ?_
      refine OA.op1 (dst := none) (v := (.tuple #[])) (n1 := (n44 + 1)) (w := (n44, some ⟨[(xRa29 nx want)], 2, 35, true⟩)) rfl rfl rfl (r_store rfl rfl rfl rfl rfl rfl rfl get_here rfl rfl (Nat.le_of_ble_eq_true rfl) rfl) (by omega) ?_
      refine OA.nil ?_
      intro _
      refine RA.weaken (D' := [(n44, some ⟨[(xRa29 nx want)], 2, 35, true⟩), (n41, some ⟨[(xRa24 nx in41)], 15, 53, true⟩), (b, some ⟨[(xRa27 want nx i mn)], 6, 94, true⟩), (in41, some ⟨[[(.int .i64 17), (.string (moreV nx want))]], 2, 35, true⟩)]) hd (Less.of (fac (mm (fun _ => get_here) (fun _ => get_here)) (fac (mm (fun _ => (get_there (by omega) get_here)) (fun _ => (gt2 (by omega) get_here))) (fac (mm (fun _ => (gt2 (by omega) get_here)) (fun _ => (gt3 (by omega) get_here))) (fac (mm (fun _ => (gt3 (by omega) get_here)) (fun _ => (gt4 (by omega) get_here))) fan)))) (gone_of (by simp only [goneP, memP, List.cons_append, List.nil_append, true_or, or_true, true_and, and_true, or_false] <;> omega))) ?_
      refine RA.seq hd ?_
      refine RA.seq hd ?_
      refine RA.region env_ok ?_
      refine OA.p (some 134) (.bool true) rfl rfl rfl rfl ?_
      refine OA.p (some 135) (.int .i64 ((want : Nat) : Int)) rfl rfl rfl rfl ?_
      refine OA.p (some 136) (.bool true) rfl rfl rfl (Eq.trans (r_bin rfl rfl rfl (b_gtr rfl)) (dT hc11)) ?_
      refine OA.p (some 137) (.bool false) rfl rfl rfl rfl ?_
      refine OA.p (some 138) (.bool false) rfl rfl rfl rfl ?_
      refine OA.p (some 139) (.bool true) rfl rfl rfl rfl ?_
      refine OA.p (some 140) (.bool true) rfl rfl rfl rfl ?_
      refine OA.p (some 141) (.agg ⟨(xRa24 nx in41)⟩) rfl rfl rfl (r_loadA rfl rfl rfl rfl (get_there (by omega) get_here) rfl rfl rfl) ?_
      refine OA.p (some 142) (W nx) rfl rfl rfl rfl ?_
      refine OA.p (some 143) (.agg ⟨(xRa29 nx want)⟩) rfl rfl rfl (r_loadA rfl rfl rfl rfl get_here rfl rfl rfl) ?_
      refine OA.op1 (dst := (some 144)) (v := (.slice (some ⟨(n44 + 1), 0, none⟩) 1 0)) (n1 := (n44 + 2)) (w := ((n44 + 1), some ⟨[(xRa29 nx want)], 2, 35, true⟩)) rfl rfl rfl (by kernel_rfl) (by omega) ?_
      refine OA.p (some 145) (.agg ⟨[(.int .i64 130), (.int .i64 0), (W nx), (.int .i64 0), (.int .i64 0), (.int .u32 0), (.string ByteArray.empty), (.int .u32 0), (.int .u32 0), (.int .i64 0), (.int .i64 0), (.slice (some ⟨(n44 + 1), 0, none⟩) 1 0), (.slice none 0 0), (.slice none 0 0), (.slice none 0 0)]⟩) rfl rfl rfl (by kernel_rfl) ?_
      refine OA.callP (dst := (some 146)) (all := [(.agg ⟨(xRa24 nx in41)⟩), (.agg ⟨[(.int .i64 130), (.int .i64 0), (W nx), (.int .i64 0), (.int .i64 0), (.int .u32 0), (.string ByteArray.empty), (.int .u32 0), (.int .u32 0), (.int .i64 0), (.int .i64 0), (.slice (some ⟨(n44 + 1), 0, none⟩) 1 0), (.slice none 0 0), (.slice none 0 0), (.slice none 0 0)]⟩)]) (v := (.bool true)) (hd.of (by omega) (kb5 (by omega))) rfl rfl rfl rfl rfl rfl rfl rfl (cSame in41 (n44 + 1) _ 17 (moreV nx want) (gt4 (by omega) get_here) (by rw [← more_eq _ _ (by omega)]; exact get_here)) ?_
      intro n45 hn45
      refine OA.p (some 147) (.bool false) rfl rfl rfl rfl ?_
      refine OA.p (some 148) (.bool false) rfl rfl rfl rfl ?_
      refine OA.p (some 149) (.bool false) rfl rfl rfl rfl ?_
      refine OA.nil ?_
      intro _
      refine RA.rebase [(1, lv), (5, (Pt b 0 0)), (6, (W nx)), (7, (.int .i64 ((want : Nat) : Int))), (8, (.int .i64 ((times : Nat) : Int))), (9, (.int .i64 ((i : Nat) : Int))), (10, (.int .i64 y)), (12, (Pt n41 0 0)), (13, (.bool true)), (14, (Pt n44 0 0)), (33, (.bool true)), (45, (.int .i64 (((andN z 3) : Nat) : Int))), (96, (.bool false)), (118, (.bool true)), (149, (.bool false))] ⟨rfl, rfl, rfl, rfl, rfl, rfl, rfl, rfl, rfl, rfl, rfl, rfl, rfl, rfl, rfl, trivial⟩ (fun τr46 => ?_)
      refine RA.condF rfl ?_
      refine RA.skip env_ok ?_
      intro _
      refine RA.seq hd ?_
      refine RA.region env_ok ?_
      refine OA.p (some 150) (.bool true) rfl rfl rfl rfl ?_
      refine OA.nil ?_
      intro _
      refine RA.condT rfl ?_
      refine RA.region env_ok ?_
      refine OA.p (some 151) (.int .i64 ((times : Nat) : Int)) rfl rfl rfl rfl ?_
      refine OA.p (some 152) (.int .i64 (((times + 1) : Nat) : Int)) rfl rfl rfl (r_bin rfl rfl rfl (b_add (i64_eq (by omega)))) ?_
      refine OA.p (some 8) (.int .i64 (((times + 1) : Nat) : Int)) rfl rfl rfl rfl ?_
      refine OA.nil ?_
      intro _
      refine RA.seq hd ?_
      refine RA.region env_ok ?_
      refine OA.p (some 154) (Pt b 0 0) rfl rfl rfl rfl ?_
      by_cases hc12 : 0 < (((times + 1) : Nat) : Int)
      ·
       refine OA.callP (dst := (some 155)) (all := [(Pt b 0 0)]) (v := (.tuple ⟨[(.int .i64 ((i : Nat) : Int)), (.bool true)]⟩)) (hd.of (by omega) (kb5 (by omega))) rfl rfl rfl rfl rfl rfl rfl rfl (aAt1 b want (mn + 1) nx ((i : Nat) : Int) (times + 1) (by omega) (by omega) (by omega) (gt3 (by omega) get_here)) ?_
       intro n47 hn47
       refine OA.p (some 153) (.tuple ⟨[(.int .i64 ((i : Nat) : Int)), (.bool true)]⟩) rfl rfl rfl rfl ?_
       refine OA.p (some 156) (.int .i64 ((i : Nat) : Int)) rfl rfl rfl rfl ?_
       refine OA.p (some 157) (.bool true) rfl rfl rfl rfl ?_
       refine OA.p (some 19) (.int .i64 ((i : Nat) : Int)) rfl rfl rfl rfl ?_
       refine OA.p (some 20) (.bool true) rfl rfl rfl rfl ?_
       refine OA.nil ?_
       intro _
       refine RA.seq hd ?_
       refine RA.region env_ok ?_
       refine OA.p (some 158) (Pt b 0 0) rfl rfl rfl rfl ?_
       refine OA.callP (dst := (some 159)) (all := [(Pt b 0 0)]) (v := (.int .i64 ((want : Nat) : Int))) (hd.of (by omega) (kb5 (by omega))) rfl rfl rfl rfl rfl rfl rfl rfl (PS.to (aWant b want (mn + 1) nx ((i : Nat) : Int) (gt3 (by omega) get_here)) (show Value.int .i64 _ = (.int .i64 ((want : Nat) : Int)) from congrArg (Value.int .i64) (by omega))) ?_
       intro n48 hn48
       refine OA.p (some 160) (.int .i64 ((want : Nat) : Int)) rfl rfl rfl rfl ?_
       refine OA.p (some 161) (.bool false) rfl rfl rfl (r_bin rfl rfl rfl (b_neq (decide_eq_false (fun h => h rfl)))) ?_
       refine OA.p (some 162) (.bool false) rfl rfl rfl rfl ?_
       refine OA.p (some 163) (Pt b 0 0) rfl rfl rfl rfl ?_
       refine OA.callP (dst := (some 164)) (all := [(Pt b 0 0)]) (v := (.int .i64 (((times + 1) : Nat) : Int))) (hd.of (by omega) (kb5 (by omega))) rfl rfl rfl rfl rfl rfl rfl rfl (aTimes b want (mn + 1) nx ((i : Nat) : Int) (times + 1) (by omega) (by omega) (gt3 (by omega) get_here)) ?_
       intro n49 hn49
       refine OA.p (some 165) (.int .i64 (((times + 1) : Nat) : Int)) rfl rfl rfl rfl ?_
       refine OA.p (some 166) (.bool false) rfl rfl rfl (r_bin rfl rfl rfl (b_neq (decide_eq_false (fun h => h rfl)))) ?_
       refine OA.p (some 167) (.bool false) rfl rfl rfl rfl ?_
       refine OA.p (some 168) (.bool false) rfl rfl rfl rfl ?_
       refine OA.p (some 169) (.bool true) rfl rfl rfl rfl ?_
       refine OA.p (some 170) (.int .i64 (((times + 1) : Nat) : Int)) rfl rfl rfl rfl ?_
       refine OA.p (some 171) (.bool true) rfl rfl rfl (Eq.trans (r_bin rfl rfl rfl (b_gtr rfl)) (dT hc12)) ?_
       refine OA.p (some 172) (.bool false) rfl rfl rfl rfl ?_
       refine OA.p (some 173) (.bool false) rfl rfl rfl rfl ?_
       refine OA.nil ?_
       intro _
       refine RA.rebase [(1, lv), (5, (Pt b 0 0)), (6, (W nx)), (7, (.int .i64 ((want : Nat) : Int))), (8, (.int .i64 (((times + 1) : Nat) : Int))), (9, (.int .i64 ((i : Nat) : Int))), (10, (.int .i64 y)), (12, (Pt n41 0 0)), (13, (.bool true)), (14, (Pt n44 0 0)), (20, (.bool true)), (33, (.bool true)), (45, (.int .i64 (((andN z 3) : Nat) : Int))), (96, (.bool false)), (118, (.bool true)), (149, (.bool false)), (150, (.bool true)), (173, (.bool false))] ⟨rfl, rfl, rfl, rfl, rfl, rfl, rfl, rfl, rfl, rfl, rfl, rfl, rfl, rfl, rfl, rfl, rfl, rfl, trivial⟩ (fun τr50 => ?_)
       refine RA.condF rfl ?_
       refine RA.skip env_ok ?_
       intro _
       refine RA.region env_ok ?_
       refine OA.p (some 34) (.int .i64 ((i : Nat) : Int)) rfl rfl rfl rfl ?_
       refine OA.p (some 35) (.int .i64 (((i + 1) : Nat) : Int)) rfl rfl rfl (r_bin rfl rfl rfl (b_add (i64_eq (by omega)))) ?_
       refine OA.p (some 9) (.int .i64 (((i + 1) : Nat) : Int)) rfl rfl rfl rfl ?_
       refine OA.nil ?_
       refine ⟨(ls.length - (i + 1)), by omega, [(b, some ⟨[(xRa27 want nx i mn)], 6, 94, true⟩)], (Less.of (fac (mm (fun _ => get_here) (fun _ => (gt3 (by omega) get_here))) fan) (gone_of (by simp only [goneP, memP, List.cons_append, List.nil_append, true_or, or_true, true_and, and_true, or_false] <;> omega))), ⟨(i + 1), nx, want, (times + 1), (mn + 1), ((i : Nat) : Int), rfl, by omega, ⟨rfl, rfl, rfl, rfl, rfl, rfl, trivial⟩, rfl, (kb1 (by omega)), ⟨by omega, by omega, by omega, by omega, by omega, by omega⟩⟩⟩
      ·
       refine OA.callP (dst := (some 155)) (all := [(Pt b 0 0)]) (v := (.tuple ⟨[(.int .i64 0), (.bool false)]⟩)) (hd.of (by omega) (kb5 (by omega))) rfl rfl rfl rfl rfl rfl rfl rfl (aAt0 b want (mn + 1) nx ((i : Nat) : Int) (times + 1) (by omega) (by omega) (by omega) (gt3 (by omega) get_here)) ?_
       intro n51 hn51
       refine OA.p (some 153) (.tuple ⟨[(.int .i64 0), (.bool false)]⟩) rfl rfl rfl rfl ?_
       refine OA.p (some 156) (.int .i64 0) rfl rfl rfl rfl ?_
       refine OA.p (some 157) (.bool false) rfl rfl rfl rfl ?_
       refine OA.p (some 19) (.int .i64 0) rfl rfl rfl rfl ?_
       refine OA.p (some 20) (.bool false) rfl rfl rfl rfl ?_
       refine OA.nil ?_
       intro _
       refine RA.seq hd ?_
       refine RA.region env_ok ?_
       refine OA.p (some 158) (Pt b 0 0) rfl rfl rfl rfl ?_
       refine OA.callP (dst := (some 159)) (all := [(Pt b 0 0)]) (v := (.int .i64 ((want : Nat) : Int))) (hd.of (by omega) (kb5 (by omega))) rfl rfl rfl rfl rfl rfl rfl rfl (PS.to (aWant b want (mn + 1) nx ((i : Nat) : Int) (gt3 (by omega) get_here)) (show Value.int .i64 _ = (.int .i64 ((want : Nat) : Int)) from congrArg (Value.int .i64) (by omega))) ?_
       intro n52 hn52
       refine OA.p (some 160) (.int .i64 ((want : Nat) : Int)) rfl rfl rfl rfl ?_
       refine OA.p (some 161) (.bool false) rfl rfl rfl (r_bin rfl rfl rfl (b_neq (decide_eq_false (fun h => h rfl)))) ?_
       refine OA.p (some 162) (.bool false) rfl rfl rfl rfl ?_
       refine OA.p (some 163) (Pt b 0 0) rfl rfl rfl rfl ?_
       refine OA.callP (dst := (some 164)) (all := [(Pt b 0 0)]) (v := (.int .i64 (((times + 1) : Nat) : Int))) (hd.of (by omega) (kb5 (by omega))) rfl rfl rfl rfl rfl rfl rfl rfl (aTimes b want (mn + 1) nx ((i : Nat) : Int) (times + 1) (by omega) (by omega) (gt3 (by omega) get_here)) ?_
       intro n53 hn53
       refine OA.p (some 165) (.int .i64 (((times + 1) : Nat) : Int)) rfl rfl rfl rfl ?_
       refine OA.p (some 166) (.bool false) rfl rfl rfl (r_bin rfl rfl rfl (b_neq (decide_eq_false (fun h => h rfl)))) ?_
       refine OA.p (some 167) (.bool false) rfl rfl rfl rfl ?_
       refine OA.p (some 168) (.bool false) rfl rfl rfl rfl ?_
       refine OA.p (some 169) (.bool false) rfl rfl rfl rfl ?_
       refine OA.p (some 170) (.int .i64 (((times + 1) : Nat) : Int)) rfl rfl rfl rfl ?_
       refine OA.p (some 171) (.bool false) rfl rfl rfl (Eq.trans (r_bin rfl rfl rfl (b_gtr rfl)) (dF hc12)) ?_
       refine OA.p (some 172) (.bool false) rfl rfl rfl rfl ?_
       refine OA.p (some 173) (.bool false) rfl rfl rfl rfl ?_
       refine OA.nil ?_
       intro _
       refine RA.rebase [(1, lv), (5, (Pt b 0 0)), (6, (W nx)), (7, (.int .i64 ((want : Nat) : Int))), (8, (.int .i64 (((times + 1) : Nat) : Int))), (9, (.int .i64 ((i : Nat) : Int))), (10, (.int .i64 y)), (12, (Pt n41 0 0)), (13, (.bool true)), (14, (Pt n44 0 0)), (20, (.bool false)), (33, (.bool true)), (45, (.int .i64 (((andN z 3) : Nat) : Int))), (96, (.bool false)), (118, (.bool true)), (149, (.bool false)), (150, (.bool true)), (173, (.bool false))] ⟨rfl, rfl, rfl, rfl, rfl, rfl, rfl, rfl, rfl, rfl, rfl, rfl, rfl, rfl, rfl, rfl, rfl, rfl, trivial⟩ (fun τr54 => ?_)
       refine RA.condF rfl ?_
       refine RA.skip env_ok ?_
       intro _
       refine RA.region env_ok ?_
       refine OA.p (some 34) (.int .i64 ((i : Nat) : Int)) rfl rfl rfl rfl ?_
       refine OA.p (some 35) (.int .i64 (((i + 1) : Nat) : Int)) rfl rfl rfl (r_bin rfl rfl rfl (b_add (i64_eq (by omega)))) ?_
       refine OA.p (some 9) (.int .i64 (((i + 1) : Nat) : Int)) rfl rfl rfl rfl ?_
       refine OA.nil ?_
       refine ⟨(ls.length - (i + 1)), by omega, [(b, some ⟨[(xRa27 want nx i mn)], 6, 94, true⟩)], (Less.of (fac (mm (fun _ => get_here) (fun _ => (gt3 (by omega) get_here))) fan) (gone_of (by simp only [goneP, memP, List.cons_append, List.nil_append, true_or, or_true, true_and, and_true, or_false] <;> omega))), ⟨(i + 1), nx, want, (times + 1), (mn + 1), ((i : Nat) : Int), rfl, by omega, ⟨rfl, rfl, rfl, rfl, rfl, rfl, trivial⟩, rfl, (kb1 (by omega)), ⟨by omega, by omega, by omega, by omega, by omega, by omega⟩⟩⟩
     ·
      refine OA.call (dst := (some 123)) (all := [(Pt b 0 0), (.int .i64 ((i : Nat) : Int))]) rfl rfl rfl rfl rfl rfl rfl rfl (CQ.imp (aSend0 (hd.of (by omega) (kb1 (by omega))) b want mn nx at_ ((i : Nat) : Int) (by omega) get_here) ?_)
      rintro _ n55 _ ⟨rfl, rfl⟩ hn55
      refine OA.app0 ?_
      refine OA.p (some 120) (.tuple ⟨[(.agg ⟨xRa26⟩), (.bool false)]⟩) rfl rfl rfl rfl ?_
      refine OA.p (some 124) (.agg ⟨xRa26⟩) rfl rfl rfl rfl ?_
      refine OA.p (some 125) (.bool false) rfl rfl rfl rfl ?_
      refine OA.op1 (dst := (some 12)) (v := (Pt n55 0 0)) (n1 := (n55 + 1)) (w := (n55, some ⟨[xRa26], 15, 53, true⟩)) rfl rfl rfl rfl (by omega) ?_
      refine OA.op1 (dst := none) (v := (.tuple #[])) (n1 := (n55 + 1)) (w := (n55, some ⟨[xRa26], 15, 53, true⟩)) rfl rfl rfl (r_store rfl rfl rfl rfl rfl rfl rfl get_here rfl rfl (Nat.le_of_ble_eq_true rfl) rfl) (by omega) ?_
      refine OA.p (some 13) (.bool false) rfl rfl rfl rfl ?_
      refine OA.nil ?_
      intro _
      refine RA.weaken (D' := [(n55, some ⟨[xRa26], 15, 53, true⟩), (b, some ⟨[(xRa28 want nx at_ mn)], 6, 94, true⟩)]) hd (Less.of (fac (mm (fun _ => get_here) (fun _ => get_here)) (fac (mm (fun _ => (get_there (by omega) get_here)) (fun _ => (gt2 (by omega) get_here))) fan)) (gone_of (by simp only [goneP, memP, List.cons_append, List.nil_append, true_or, or_true, true_and, and_true, or_false] <;> omega))) ?_
      refine RA.rebase [(1, lv), (5, (Pt b 0 0)), (6, (W nx)), (7, (.int .i64 ((want : Nat) : Int))), (8, (.int .i64 ((times : Nat) : Int))), (9, (.int .i64 ((i : Nat) : Int))), (10, (.int .i64 y)), (12, (Pt n55 0 0)), (13, (.bool false)), (33, (.bool true)), (45, (.int .i64 (((andN z 3) : Nat) : Int))), (96, (.bool false)), (118, (.bool true))] ⟨rfl, rfl, rfl, rfl, rfl, rfl, rfl, rfl, rfl, rfl, rfl, rfl, rfl, trivial⟩ (fun τr56 => ?_)
      refine RA.seq hd ?_
      refine RA.region env_ok ?_
      refine OA.p (some 126) (W nx) rfl rfl rfl rfl ?_
      refine OA.callP (dst := (some 127)) (all := [(W nx)]) (v := (.string (bstr (putL (nx).toNat 4)))) (hd.of (by omega) (kb2 (by omega))) rfl rfl rfl rfl rfl rfl rfl rfl (sFour nx) ?_
      intro n57 hn57
      refine OA.p (some 128) (.int .i64 ((want : Nat) : Int)) rfl rfl rfl rfl ?_
      refine OA.p (some 129) (.int .u64 ((want : Nat) : Int)) rfl rfl rfl (r_cvt rfl rfl rfl rfl rfl ⟨_, rfl⟩ (u64_eq (by omega))) ?_
      refine OA.callP (dst := (some 130)) (all := [(.int .u64 ((want : Nat) : Int)), (.int .i64 2)]) (v := (.string (bstr (putL want 2)))) (hd.of (by omega) (kb2 (by omega))) rfl rfl rfl rfl rfl rfl rfl rfl (sPut 2 want (by omega) (by decide)) ?_
      intro n58 hn58
      refine OA.p (some 131) (.string ((bstr (putL (nx).toNat 4)) ++ (bstr (putL want 2)))) rfl rfl rfl (r_cat rfl rfl rfl (by (try simp only [ByteArray.size_append, bstr_size, size_lit, List.size_toArray, List.length_cons, List.length_nil, List.length_take, List.length_drop, List.length_replicate, putL_len]); try omega)) ?_
      refine OA.p (some 132) (.string (((bstr (putL (nx).toNat 4)) ++ (bstr (putL want 2))) ++ (ByteArray.mk #[0, 0]))) rfl rfl rfl (r_cat rfl rfl rfl (by (try simp only [ByteArray.size_append, bstr_size, size_lit, List.size_toArray, List.length_cons, List.length_nil, List.length_take, List.length_drop, List.length_replicate, putL_len]); try omega)) ?_
      refine OA.p (some 133) (.agg ⟨(xRa29 nx want)⟩) rfl rfl rfl (by kernel_rfl) ?_
      refine OA.op1 (dst := (some 14)) (v := (Pt n58 0 0)) (n1 := (n58 + 1)) (w := (n58, some ⟨[[(.int .i64 0), (.string ByteArray.empty)]], 2, 35, true⟩)) rfl rfl rfl rfl (by omega) ?_
      refine OA.op1 (dst := none) (v := (.tuple #[])) (n1 := (n58 + 1)) (w := (n58, some ⟨[(xRa29 nx want)], 2, 35, true⟩)) rfl rfl rfl (r_store rfl rfl rfl rfl rfl rfl rfl get_here rfl rfl (Nat.le_of_ble_eq_true rfl) rfl) (by omega) ?_
      refine OA.nil ?_
      intro _
      refine RA.weaken (D' := [(n58, some ⟨[(xRa29 nx want)], 2, 35, true⟩), (n55, some ⟨[xRa26], 15, 53, true⟩), (b, some ⟨[(xRa28 want nx at_ mn)], 6, 94, true⟩)]) hd (Less.of (fac (mm (fun _ => get_here) (fun _ => get_here)) (fac (mm (fun _ => (get_there (by omega) get_here)) (fun _ => (gt2 (by omega) get_here))) (fac (mm (fun _ => (gt2 (by omega) get_here)) (fun _ => (gt3 (by omega) get_here))) fan))) (gone_of (by simp only [goneP, memP, List.cons_append, List.nil_append, true_or, or_true, true_and, and_true, or_false] <;> omega))) ?_
      refine RA.seq hd ?_
      refine RA.seq hd ?_
      refine RA.region env_ok ?_
      refine OA.p (some 134) (.bool false) rfl rfl rfl rfl ?_
      refine OA.p (some 135) (.int .i64 ((want : Nat) : Int)) rfl rfl rfl rfl ?_
      refine OA.p (some 136) (.bool false) rfl rfl rfl (Eq.trans (r_bin rfl rfl rfl (b_gtr rfl)) (dF hc11)) ?_
      refine OA.p (some 137) (.bool false) rfl rfl rfl rfl ?_
      refine OA.p (some 138) (.bool false) rfl rfl rfl rfl ?_
      refine OA.p (some 139) (.bool false) rfl rfl rfl rfl ?_
      refine OA.p (some 140) (.bool false) rfl rfl rfl rfl ?_
      refine OA.off (dst := (some 141)) rfl rfl rfl ?_
      refine OA.off (dst := (some 142)) rfl rfl rfl ?_
      refine OA.off (dst := (some 143)) rfl rfl rfl ?_
      refine OA.off (dst := (some 144)) rfl rfl rfl ?_
      refine OA.off (dst := (some 145)) rfl rfl rfl ?_
      refine OA.off (dst := (some 146)) rfl rfl rfl ?_
      refine OA.off (dst := (some 147)) rfl rfl rfl ?_
      refine OA.p (some 148) (.bool false) rfl rfl rfl rfl ?_
      refine OA.p (some 149) (.bool false) rfl rfl rfl rfl ?_
      refine OA.nil ?_
      intro _
      refine RA.rebase [(1, lv), (5, (Pt b 0 0)), (6, (W nx)), (7, (.int .i64 ((want : Nat) : Int))), (8, (.int .i64 ((times : Nat) : Int))), (9, (.int .i64 ((i : Nat) : Int))), (10, (.int .i64 y)), (12, (Pt n55 0 0)), (13, (.bool false)), (14, (Pt n58 0 0)), (33, (.bool true)), (45, (.int .i64 (((andN z 3) : Nat) : Int))), (96, (.bool false)), (118, (.bool true)), (149, (.bool false))] ⟨rfl, rfl, rfl, rfl, rfl, rfl, rfl, rfl, rfl, rfl, rfl, rfl, rfl, rfl, rfl, trivial⟩ (fun τr59 => ?_)
      refine RA.condF rfl ?_
      refine RA.skip env_ok ?_
      intro _
      refine RA.seq hd ?_
      refine RA.region env_ok ?_
      refine OA.p (some 150) (.bool false) rfl rfl rfl rfl ?_
      refine OA.nil ?_
      intro _
      refine RA.condF rfl ?_
      refine RA.skip env_ok ?_
      intro _
      refine RA.seq hd ?_
      refine RA.region env_ok ?_
      refine OA.p (some 154) (Pt b 0 0) rfl rfl rfl rfl ?_
      by_cases hc13 : 0 < ((times : Nat) : Int)
      ·
       refine OA.callP (dst := (some 155)) (all := [(Pt b 0 0)]) (v := (.tuple ⟨[(.int .i64 at_), (.bool true)]⟩)) (hd.of (by omega) (kb3 (by omega))) rfl rfl rfl rfl rfl rfl rfl rfl (aAt1 b want mn nx at_ times (by omega) (by omega) (by omega) (gt2 (by omega) get_here)) ?_
       intro n60 hn60
       refine OA.p (some 153) (.tuple ⟨[(.int .i64 at_), (.bool true)]⟩) rfl rfl rfl rfl ?_
       refine OA.p (some 156) (.int .i64 at_) rfl rfl rfl rfl ?_
       refine OA.p (some 157) (.bool true) rfl rfl rfl rfl ?_
       refine OA.p (some 19) (.int .i64 at_) rfl rfl rfl rfl ?_
       refine OA.p (some 20) (.bool true) rfl rfl rfl rfl ?_
       refine OA.nil ?_
       intro _
       refine RA.seq hd ?_
       refine RA.region env_ok ?_
       refine OA.p (some 158) (Pt b 0 0) rfl rfl rfl rfl ?_
       refine OA.callP (dst := (some 159)) (all := [(Pt b 0 0)]) (v := (.int .i64 ((want : Nat) : Int))) (hd.of (by omega) (kb3 (by omega))) rfl rfl rfl rfl rfl rfl rfl rfl (PS.to (aWant b want mn nx at_ (gt2 (by omega) get_here)) (show Value.int .i64 _ = (.int .i64 ((want : Nat) : Int)) from congrArg (Value.int .i64) (by omega))) ?_
       intro n61 hn61
       refine OA.p (some 160) (.int .i64 ((want : Nat) : Int)) rfl rfl rfl rfl ?_
       refine OA.p (some 161) (.bool false) rfl rfl rfl (r_bin rfl rfl rfl (b_neq (decide_eq_false (fun h => h rfl)))) ?_
       refine OA.p (some 162) (.bool false) rfl rfl rfl rfl ?_
       refine OA.p (some 163) (Pt b 0 0) rfl rfl rfl rfl ?_
       refine OA.callP (dst := (some 164)) (all := [(Pt b 0 0)]) (v := (.int .i64 ((times : Nat) : Int))) (hd.of (by omega) (kb3 (by omega))) rfl rfl rfl rfl rfl rfl rfl rfl (aTimes b want mn nx at_ times (by omega) (by omega) (gt2 (by omega) get_here)) ?_
       intro n62 hn62
       refine OA.p (some 165) (.int .i64 ((times : Nat) : Int)) rfl rfl rfl rfl ?_
       refine OA.p (some 166) (.bool false) rfl rfl rfl (r_bin rfl rfl rfl (b_neq (decide_eq_false (fun h => h rfl)))) ?_
       refine OA.p (some 167) (.bool false) rfl rfl rfl rfl ?_
       refine OA.p (some 168) (.bool false) rfl rfl rfl rfl ?_
       refine OA.p (some 169) (.bool true) rfl rfl rfl rfl ?_
       refine OA.p (some 170) (.int .i64 ((times : Nat) : Int)) rfl rfl rfl rfl ?_
       refine OA.p (some 171) (.bool true) rfl rfl rfl (Eq.trans (r_bin rfl rfl rfl (b_gtr rfl)) (dT hc13)) ?_
       refine OA.p (some 172) (.bool false) rfl rfl rfl rfl ?_
       refine OA.p (some 173) (.bool false) rfl rfl rfl rfl ?_
       refine OA.nil ?_
       intro _
       refine RA.condF rfl ?_
       refine RA.skip env_ok ?_
       intro _
       refine RA.region env_ok ?_
       refine OA.p (some 34) (.int .i64 ((i : Nat) : Int)) rfl rfl rfl rfl ?_
       refine OA.p (some 35) (.int .i64 (((i + 1) : Nat) : Int)) rfl rfl rfl (r_bin rfl rfl rfl (b_add (i64_eq (by omega)))) ?_
       refine OA.p (some 9) (.int .i64 (((i + 1) : Nat) : Int)) rfl rfl rfl rfl ?_
       refine OA.nil ?_
       refine ⟨(ls.length - (i + 1)), by omega, [(b, some ⟨[(xRa28 want nx at_ mn)], 6, 94, true⟩)], (Less.of (fac (mm (fun _ => get_here) (fun _ => (gt2 (by omega) get_here))) fan) (gone_of (by simp only [goneP, memP, List.cons_append, List.nil_append, true_or, or_true, true_and, and_true, or_false] <;> omega))), ⟨(i + 1), nx, want, times, mn, at_, rfl, by omega, ⟨rfl, rfl, rfl, rfl, rfl, rfl, trivial⟩, rfl, (kb1 (by omega)), ⟨by omega, by omega, by omega, by omega, by omega, by omega⟩⟩⟩
      ·
       refine OA.callP (dst := (some 155)) (all := [(Pt b 0 0)]) (v := (.tuple ⟨[(.int .i64 0), (.bool false)]⟩)) (hd.of (by omega) (kb3 (by omega))) rfl rfl rfl rfl rfl rfl rfl rfl (aAt0 b want mn nx at_ times (by omega) (by omega) (by omega) (gt2 (by omega) get_here)) ?_
       intro n63 hn63
       refine OA.p (some 153) (.tuple ⟨[(.int .i64 0), (.bool false)]⟩) rfl rfl rfl rfl ?_
       refine OA.p (some 156) (.int .i64 0) rfl rfl rfl rfl ?_
       refine OA.p (some 157) (.bool false) rfl rfl rfl rfl ?_
       refine OA.p (some 19) (.int .i64 0) rfl rfl rfl rfl ?_
       refine OA.p (some 20) (.bool false) rfl rfl rfl rfl ?_
       refine OA.nil ?_
       intro _
       refine RA.seq hd ?_
       refine RA.region env_ok ?_
       refine OA.p (some 158) (Pt b 0 0) rfl rfl rfl rfl ?_
       refine OA.callP (dst := (some 159)) (all := [(Pt b 0 0)]) (v := (.int .i64 ((want : Nat) : Int))) (hd.of (by omega) (kb3 (by omega))) rfl rfl rfl rfl rfl rfl rfl rfl (PS.to (aWant b want mn nx at_ (gt2 (by omega) get_here)) (show Value.int .i64 _ = (.int .i64 ((want : Nat) : Int)) from congrArg (Value.int .i64) (by omega))) ?_
       intro n64 hn64
       refine OA.p (some 160) (.int .i64 ((want : Nat) : Int)) rfl rfl rfl rfl ?_
       refine OA.p (some 161) (.bool false) rfl rfl rfl (r_bin rfl rfl rfl (b_neq (decide_eq_false (fun h => h rfl)))) ?_
       refine OA.p (some 162) (.bool false) rfl rfl rfl rfl ?_
       refine OA.p (some 163) (Pt b 0 0) rfl rfl rfl rfl ?_
       refine OA.callP (dst := (some 164)) (all := [(Pt b 0 0)]) (v := (.int .i64 ((times : Nat) : Int))) (hd.of (by omega) (kb3 (by omega))) rfl rfl rfl rfl rfl rfl rfl rfl (aTimes b want mn nx at_ times (by omega) (by omega) (gt2 (by omega) get_here)) ?_
       intro n65 hn65
       refine OA.p (some 165) (.int .i64 ((times : Nat) : Int)) rfl rfl rfl rfl ?_
       refine OA.p (some 166) (.bool false) rfl rfl rfl (r_bin rfl rfl rfl (b_neq (decide_eq_false (fun h => h rfl)))) ?_
       refine OA.p (some 167) (.bool false) rfl rfl rfl rfl ?_
       refine OA.p (some 168) (.bool false) rfl rfl rfl rfl ?_
       refine OA.p (some 169) (.bool false) rfl rfl rfl rfl ?_
       refine OA.p (some 170) (.int .i64 ((times : Nat) : Int)) rfl rfl rfl rfl ?_
       refine OA.p (some 171) (.bool false) rfl rfl rfl (Eq.trans (r_bin rfl rfl rfl (b_gtr rfl)) (dF hc13)) ?_
       refine OA.p (some 172) (.bool false) rfl rfl rfl rfl ?_
       refine OA.p (some 173) (.bool false) rfl rfl rfl rfl ?_
       refine OA.nil ?_
       intro _
       refine RA.condF rfl ?_
       refine RA.skip env_ok ?_
       intro _
       refine RA.region env_ok ?_
       refine OA.p (some 34) (.int .i64 ((i : Nat) : Int)) rfl rfl rfl rfl ?_
       refine OA.p (some 35) (.int .i64 (((i + 1) : Nat) : Int)) rfl rfl rfl (r_bin rfl rfl rfl (b_add (i64_eq (by omega)))) ?_
       refine OA.p (some 9) (.int .i64 (((i + 1) : Nat) : Int)) rfl rfl rfl rfl ?_
       refine OA.nil ?_
       refine ⟨(ls.length - (i + 1)), by omega, [(b, some ⟨[(xRa28 want nx at_ mn)], 6, 94, true⟩)], (Less.of (fac (mm (fun _ => get_here) (fun _ => (gt2 (by omega) get_here))) fan) (gone_of (by simp only [goneP, memP, List.cons_append, List.nil_append, true_or, or_true, true_and, and_true, or_false] <;> omega))), ⟨(i + 1), nx, want, times, mn, at_, rfl, by omega, ⟨rfl, rfl, rfl, rfl, rfl, rfl, trivial⟩, rfl, (kb1 (by omega)), ⟨by omega, by omega, by omega, by omega, by omega, by omega⟩⟩⟩
    ·
     refine OA.p (some 119) (.bool false) rfl rfl rfl (Eq.trans (r_bin rfl rfl rfl (b_eql rfl)) (dF hc10)) ?_
     refine OA.p (some 118) (.bool false) rfl rfl rfl rfl ?_
     refine OA.nil ?_
     intro _
     refine RA.condF rfl ?_
     refine RA.seq hd ?_
     refine RA.region env_ok ?_
     refine OA.p (some 46) (W nx) rfl rfl rfl rfl ?_
     refine OA.p (some 15) (W nx) rfl rfl rfl rfl ?_
     refine OA.nil ?_
     intro _
     refine RA.rebase [(1, lv), (5, (Pt b 0 0)), (6, (W nx)), (7, (.int .i64 ((want : Nat) : Int))), (8, (.int .i64 ((times : Nat) : Int))), (9, (.int .i64 ((i : Nat) : Int))), (10, (.int .i64 y)), (15, (W nx)), (33, (.bool true)), (45, (.int .i64 (((andN z 3) : Nat) : Int))), (96, (.bool false)), (118, (.bool false))] ⟨rfl, rfl, rfl, rfl, rfl, rfl, rfl, rfl, rfl, rfl, rfl, rfl, trivial⟩ (fun τr66 => ?_)
     refine RA.seq hd ?_
     refine RA.seq hd ?_
     refine RA.region env_ok ?_
     refine OA.p (some 47) lv rfl rfl rfl rfl ?_
     refine OA.p (some 48) (.int .i64 ((i : Nat) : Int)) rfl rfl rfl rfl ?_
     refine OA.p (some 49) (.pointer (some ⟨(rk lv), i, some 0⟩)) rfl rfl rfl (r_iaP (c := cI1) (m := i) rfl rfl rfl rfl rfl rfl hr rfl (by omega) (get_there (by omega) hat) rfl) ?_
     refine OA.p (some 50) (.int .i64 z) rfl rfl rfl (by rw [hz]; exact r_load1 (e := cI1 (ls.getD i dI1)) rfl rfl rfl rfl rfl (get_there (by omega) hat) (mp_getA (by omega)) rfl) ?_
     have hm67 := andN_le z 3 (by decide)
     refine OA.p (some 51) (.int .i64 (((andN z 3) : Nat) : Int)) rfl rfl rfl (r_bin rfl rfl rfl (b_andN z 3 (by decide))) ?_
     by_cases hc14 : (((andN z 3) : Nat) : Int) = 3
     ·
      refine OA.p (some 52) (.bool true) rfl rfl rfl (Eq.trans (r_bin rfl rfl rfl (b_eql rfl)) (dT hc14)) ?_
      refine OA.nil ?_
      intro _
      refine RA.condT rfl ?_
      refine RA.region env_ok ?_
      refine OA.p (some 53) (W nx) rfl rfl rfl rfl ?_
      refine OA.p (some 54) (W (nx + (1#32))) rfl rfl rfl (r_bin rfl rfl rfl (b_addW nx (1#32))) ?_
      refine OA.p (some 15) (W (nx + (1#32))) rfl rfl rfl rfl ?_
      refine OA.nil ?_
      intro _
      refine RA.seq hd ?_
      refine RA.region env_ok ?_
      refine OA.p (some 55) (.int .i64 y) rfl rfl rfl rfl ?_
      have hm68 := andN_le y 1 (by decide)
      refine OA.p (some 56) (.int .i64 (((andN y 1) : Nat) : Int)) rfl rfl rfl (r_bin rfl rfl rfl (b_andN y 1 (by decide))) ?_
      refine OA.p (some 57) (.int .i64 (((1 + (andN y 1)) : Nat) : Int)) rfl rfl rfl (r_bin rfl rfl rfl (b_add (i64_eq (by omega)))) ?_
      refine OA.p (some 16) (.int .i64 (((1 + (andN y 1)) : Nat) : Int)) rfl rfl rfl rfl ?_
      refine OA.nil ?_
      intro _
      refine RA.seq hd ?_
      refine RA.region env_ok ?_
      refine OA.p (some 59) (Pt b 0 0) rfl rfl rfl rfl ?_
      refine OA.p (some 60) (W (nx + (1#32))) rfl rfl rfl rfl ?_
      refine OA.p (some 61) (W (nx + (1#32))) rfl rfl rfl rfl ?_
      refine OA.callP (dst := (some 62)) (all := [(W (nx + (1#32)))]) (v := (.string (bstr (putL ((nx + (1#32))).toNat 4)))) (hd.of (by omega) (kb1 (by omega))) rfl rfl rfl rfl rfl rfl rfl rfl (sFour (nx + (1#32))) ?_
      intro n69 hn69
      refine OA.p (some 63) (.int .i64 (((1 + (andN y 1)) : Nat) : Int)) rfl rfl rfl rfl ?_
      refine OA.p (some 64) (W (BitVec.ofNat 32 (1 + (andN y 1)))) rfl rfl rfl (r_cvt rfl rfl rfl rfl rfl ⟨_, rfl⟩ (wrap_ofNat32 _)) ?_
      refine OA.callP (dst := (some 65)) (all := [(W (BitVec.ofNat 32 (1 + (andN y 1))))]) (v := (.string (bstr (putL ((BitVec.ofNat 32 (1 + (andN y 1)))).toNat 4)))) (hd.of (by omega) (kb1 (by omega))) rfl rfl rfl rfl rfl rfl rfl rfl (sFour (BitVec.ofNat 32 (1 + (andN y 1)))) ?_
      intro n70 hn70
      refine OA.p (some 66) (.string ((bstr (putL ((nx + (1#32))).toNat 4)) ++ (bstr (putL ((BitVec.ofNat 32 (1 + (andN y 1)))).toNat 4)))) rfl rfl rfl (r_cat rfl rfl rfl (by (try simp only [ByteArray.size_append, bstr_size, size_lit, List.size_toArray, List.length_cons, List.length_nil, List.length_take, List.length_drop, List.length_replicate, putL_len]); try omega)) ?_
      refine OA.p (some 67) (.agg ⟨[(.int .i64 16), (.string ((bstr (putL ((nx + (1#32))).toNat 4)) ++ (bstr (putL ((BitVec.ofNat 32 (1 + (andN y 1)))).toNat 4))))]⟩) rfl rfl rfl (by kernel_rfl) ?_
      refine OA.op1 (dst := (some 68)) (v := (.slice (some ⟨n70, 0, none⟩) 1 0)) (n1 := (n70 + 1)) (w := (n70, some ⟨[[(.int .i64 16), (.string ((bstr (putL ((nx + (1#32))).toNat 4)) ++ (bstr (putL ((BitVec.ofNat 32 (1 + (andN y 1)))).toNat 4))))]], 2, 35, true⟩)) rfl rfl rfl (by kernel_rfl) (by omega) ?_
      refine OA.p (some 69) (.agg ⟨(xRa23 nx n70)⟩) rfl rfl rfl (by kernel_rfl) ?_
      by_cases hc15 : 0 < ((times : Nat) : Int)
      ·
       by_cases hc16 : (andN y 1) = 0
       ·
        refine OA.call (dst := (some 70)) (all := (xRa21 b nx n70)) rfl rfl rfl rfl rfl rfl rfl rfl (CQ.imp (aAnsN (hd.of (by omega) (kb2 (by omega))) b want mn nx at_ n70 (by omega) (nx + (1#32)) (1 + (andN y 1)) (by omega) times hw0 hw1 (.inr (w_ne1 nx)) (get_there (by omega) get_here) (by rw [← res_eq]; exact get_here)) ?_)
        rintro _ n71 _ ⟨rfl, rfl⟩ hn71
        refine OA.app0 ?_
        refine OA.p (some 58) (.tuple ⟨[(.int .i64 0), (.bool false)]⟩) rfl rfl rfl rfl ?_
        refine OA.p (some 71) (.int .i64 0) rfl rfl rfl rfl ?_
        refine OA.p (some 72) (.bool false) rfl rfl rfl rfl ?_
        refine OA.p (some 17) (.int .i64 0) rfl rfl rfl rfl ?_
        refine OA.p (some 18) (.bool false) rfl rfl rfl rfl ?_
        refine OA.nil ?_
        intro _
        refine RA.rebase [(1, lv), (5, (Pt b 0 0)), (6, (W nx)), (7, (.int .i64 ((want : Nat) : Int))), (8, (.int .i64 ((times : Nat) : Int))), (9, (.int .i64 ((i : Nat) : Int))), (10, (.int .i64 y)), (15, (W (nx + (1#32)))), (16, (.int .i64 (((1 + (andN y 1)) : Nat) : Int))), (17, (.int .i64 0)), (18, (.bool false)), (33, (.bool true)), (45, (.int .i64 (((andN z 3) : Nat) : Int))), (52, (.bool true)), (96, (.bool false)), (118, (.bool false))] ⟨rfl, rfl, rfl, rfl, rfl, rfl, rfl, rfl, rfl, rfl, rfl, rfl, rfl, rfl, rfl, rfl, trivial⟩ (fun τr72 => ?_)
        refine RA.seq hd ?_
        refine RA.seq hd ?_
        refine RA.region env_ok ?_
        refine OA.p (some 73) (.bool false) rfl rfl rfl rfl ?_
        refine OA.p (some 74) (.int .i64 ((times : Nat) : Int)) rfl rfl rfl rfl ?_
        refine OA.p (some 75) (.bool true) rfl rfl rfl (Eq.trans (r_bin rfl rfl rfl (b_gtr rfl)) (dT hc15)) ?_
        refine OA.p (some 76) (.bool true) rfl rfl rfl rfl ?_
        refine OA.p (some 77) (W (nx + (1#32))) rfl rfl rfl rfl ?_
        refine OA.p (some 78) (W nx) rfl rfl rfl rfl ?_
        have hc17 : ¬ (((nx + (1#32)).toNat : Int) = (nx.toNat : Int)) := fun hdd => by exfalso; first | omega | (exact hne hdd)
        refine OA.p (some 79) (.bool false) rfl rfl rfl (Eq.trans (r_bin rfl rfl rfl (b_eql rfl)) (dF hc17)) ?_
        refine OA.p (some 80) (.bool false) rfl rfl rfl rfl ?_
        refine OA.p (some 81) (.bool false) rfl rfl rfl rfl ?_
        refine OA.p (some 82) (.bool false) rfl rfl rfl rfl ?_
        refine OA.p (some 83) (.bool false) rfl rfl rfl rfl ?_
        refine OA.p (some 84) (.bool false) rfl rfl rfl rfl ?_
        refine OA.off (dst := (some 85)) rfl rfl rfl ?_
        refine OA.off (dst := (some 86)) rfl rfl rfl ?_
        refine OA.off (dst := (some 87)) rfl rfl rfl ?_
        refine OA.off (dst := (some 88)) rfl rfl rfl ?_
        refine OA.off (dst := (some 89)) rfl rfl rfl ?_
        refine OA.off (dst := (some 90)) rfl rfl rfl ?_
        refine OA.p (some 91) (.bool false) rfl rfl rfl rfl ?_
        refine OA.p (some 92) (.bool false) rfl rfl rfl rfl ?_
        refine OA.nil ?_
        intro _
        refine RA.condF rfl ?_
        refine RA.skip env_ok ?_
        intro _
        refine RA.seq hd ?_
        refine RA.region env_ok ?_
        refine OA.p (some 93) (.bool false) rfl rfl rfl rfl ?_
        refine OA.nil ?_
        intro _
        refine RA.condF rfl ?_
        refine RA.skip env_ok ?_
        intro _
        refine RA.seq hd ?_
        refine RA.region env_ok ?_
        refine OA.p (some 154) (Pt b 0 0) rfl rfl rfl rfl ?_
        refine OA.callP (dst := (some 155)) (all := [(Pt b 0 0)]) (v := (.tuple ⟨[(.int .i64 at_), (.bool true)]⟩)) (hd.of (by omega) (kb2 (by omega))) rfl rfl rfl rfl rfl rfl rfl rfl (aAt1 b want mn nx at_ times (by omega) (by omega) (by omega) (get_there (by omega) get_here)) ?_
        intro n73 hn73
        refine OA.p (some 153) (.tuple ⟨[(.int .i64 at_), (.bool true)]⟩) rfl rfl rfl rfl ?_
        refine OA.p (some 156) (.int .i64 at_) rfl rfl rfl rfl ?_
        refine OA.p (some 157) (.bool true) rfl rfl rfl rfl ?_
        refine OA.p (some 19) (.int .i64 at_) rfl rfl rfl rfl ?_
        refine OA.p (some 20) (.bool true) rfl rfl rfl rfl ?_
        refine OA.nil ?_
        intro _
        refine RA.rebase [(1, lv), (5, (Pt b 0 0)), (6, (W nx)), (7, (.int .i64 ((want : Nat) : Int))), (8, (.int .i64 ((times : Nat) : Int))), (9, (.int .i64 ((i : Nat) : Int))), (10, (.int .i64 y)), (15, (W (nx + (1#32)))), (16, (.int .i64 (((1 + (andN y 1)) : Nat) : Int))), (17, (.int .i64 0)), (18, (.bool false)), (20, (.bool true)), (33, (.bool true)), (45, (.int .i64 (((andN z 3) : Nat) : Int))), (52, (.bool true)), (92, (.bool false)), (93, (.bool false)), (96, (.bool false)), (118, (.bool false))] ⟨rfl, rfl, rfl, rfl, rfl, rfl, rfl, rfl, rfl, rfl, rfl, rfl, rfl, rfl, rfl, rfl, rfl, rfl, rfl, trivial⟩ (fun τr74 => ?_)
        refine RA.seq hd ?_
        refine RA.region env_ok ?_
        refine OA.p (some 158) (Pt b 0 0) rfl rfl rfl rfl ?_
        refine OA.callP (dst := (some 159)) (all := [(Pt b 0 0)]) (v := (.int .i64 ((want : Nat) : Int))) (hd.of (by omega) (kb2 (by omega))) rfl rfl rfl rfl rfl rfl rfl rfl (PS.to (aWant b want mn nx at_ (get_there (by omega) get_here)) (show Value.int .i64 _ = (.int .i64 ((want : Nat) : Int)) from congrArg (Value.int .i64) (by omega))) ?_
        intro n75 hn75
        refine OA.p (some 160) (.int .i64 ((want : Nat) : Int)) rfl rfl rfl rfl ?_
        refine OA.p (some 161) (.bool false) rfl rfl rfl (r_bin rfl rfl rfl (b_neq (decide_eq_false (fun h => h rfl)))) ?_
        refine OA.p (some 162) (.bool false) rfl rfl rfl rfl ?_
        refine OA.p (some 163) (Pt b 0 0) rfl rfl rfl rfl ?_
        refine OA.callP (dst := (some 164)) (all := [(Pt b 0 0)]) (v := (.int .i64 ((times : Nat) : Int))) (hd.of (by omega) (kb2 (by omega))) rfl rfl rfl rfl rfl rfl rfl rfl (aTimes b want mn nx at_ times (by omega) (by omega) (get_there (by omega) get_here)) ?_
        intro n76 hn76
        refine OA.p (some 165) (.int .i64 ((times : Nat) : Int)) rfl rfl rfl rfl ?_
        refine OA.p (some 166) (.bool false) rfl rfl rfl (r_bin rfl rfl rfl (b_neq (decide_eq_false (fun h => h rfl)))) ?_
        refine OA.p (some 167) (.bool false) rfl rfl rfl rfl ?_
        refine OA.p (some 168) (.bool false) rfl rfl rfl rfl ?_
        refine OA.p (some 169) (.bool true) rfl rfl rfl rfl ?_
        refine OA.p (some 170) (.int .i64 ((times : Nat) : Int)) rfl rfl rfl rfl ?_
        refine OA.p (some 171) (.bool true) rfl rfl rfl (Eq.trans (r_bin rfl rfl rfl (b_gtr rfl)) (dT hc15)) ?_
        refine OA.p (some 172) (.bool false) rfl rfl rfl rfl ?_
        refine OA.p (some 173) (.bool false) rfl rfl rfl rfl ?_
        refine OA.nil ?_
        intro _
        refine RA.condF rfl ?_
        refine RA.skip env_ok ?_
        intro _
        refine RA.region env_ok ?_
        refine OA.p (some 34) (.int .i64 ((i : Nat) : Int)) rfl rfl rfl rfl ?_
        refine OA.p (some 35) (.int .i64 (((i + 1) : Nat) : Int)) rfl rfl rfl (r_bin rfl rfl rfl (b_add (i64_eq (by omega)))) ?_
        refine OA.p (some 9) (.int .i64 (((i + 1) : Nat) : Int)) rfl rfl rfl rfl ?_
        refine OA.nil ?_
        refine ⟨(ls.length - (i + 1)), by omega, [(b, some ⟨[(xRa28 want nx at_ mn)], 6, 94, true⟩)], (Less.of (fac (mm (fun _ => get_here) (fun _ => (get_there (by omega) get_here))) fan) (gone_of (by simp only [goneP, memP, List.cons_append, List.nil_append, true_or, or_true, true_and, and_true, or_false] <;> omega))), ⟨(i + 1), nx, want, times, mn, at_, rfl, by omega, ⟨rfl, rfl, rfl, rfl, rfl, rfl, trivial⟩, rfl, (kb1 (by omega)), ⟨by omega, by omega, by omega, by omega, by omega, by omega⟩⟩⟩
       ·
        refine OA.call (dst := (some 70)) (all := (xRa21 b nx n70)) rfl rfl rfl rfl rfl rfl rfl rfl (CQ.imp (aAnsN (hd.of (by omega) (kb2 (by omega))) b want mn nx at_ n70 (by omega) (nx + (1#32)) (1 + (andN y 1)) (by omega) times hw0 hw1 (.inr (w_ne1 nx)) (get_there (by omega) get_here) (by rw [← res_eq]; exact get_here)) ?_)
        rintro _ n77 _ ⟨rfl, rfl⟩ hn77
        refine OA.app0 ?_
        refine OA.p (some 58) (.tuple ⟨[(.int .i64 0), (.bool false)]⟩) rfl rfl rfl rfl ?_
        refine OA.p (some 71) (.int .i64 0) rfl rfl rfl rfl ?_
        refine OA.p (some 72) (.bool false) rfl rfl rfl rfl ?_
        refine OA.p (some 17) (.int .i64 0) rfl rfl rfl rfl ?_
        refine OA.p (some 18) (.bool false) rfl rfl rfl rfl ?_
        refine OA.nil ?_
        intro _
        refine RA.rebase [(1, lv), (5, (Pt b 0 0)), (6, (W nx)), (7, (.int .i64 ((want : Nat) : Int))), (8, (.int .i64 ((times : Nat) : Int))), (9, (.int .i64 ((i : Nat) : Int))), (10, (.int .i64 y)), (15, (W (nx + (1#32)))), (16, (.int .i64 (((1 + (andN y 1)) : Nat) : Int))), (17, (.int .i64 0)), (18, (.bool false)), (33, (.bool true)), (45, (.int .i64 (((andN z 3) : Nat) : Int))), (52, (.bool true)), (96, (.bool false)), (118, (.bool false))] ⟨rfl, rfl, rfl, rfl, rfl, rfl, rfl, rfl, rfl, rfl, rfl, rfl, rfl, rfl, rfl, rfl, trivial⟩ (fun τr78 => ?_)
        refine RA.seq hd ?_
        refine RA.seq hd ?_
        refine RA.region env_ok ?_
        refine OA.p (some 73) (.bool false) rfl rfl rfl rfl ?_
        refine OA.p (some 74) (.int .i64 ((times : Nat) : Int)) rfl rfl rfl rfl ?_
        refine OA.p (some 75) (.bool true) rfl rfl rfl (Eq.trans (r_bin rfl rfl rfl (b_gtr rfl)) (dT hc15)) ?_
        refine OA.p (some 76) (.bool true) rfl rfl rfl rfl ?_
        refine OA.p (some 77) (W (nx + (1#32))) rfl rfl rfl rfl ?_
        refine OA.p (some 78) (W nx) rfl rfl rfl rfl ?_
        have hc18 : ¬ (((nx + (1#32)).toNat : Int) = (nx.toNat : Int)) := fun hdd => by exfalso; first | omega | (exact hne hdd)
        refine OA.p (some 79) (.bool false) rfl rfl rfl (Eq.trans (r_bin rfl rfl rfl (b_eql rfl)) (dF hc18)) ?_
        refine OA.p (some 80) (.bool false) rfl rfl rfl rfl ?_
        refine OA.p (some 81) (.bool false) rfl rfl rfl rfl ?_
        refine OA.p (some 82) (.bool false) rfl rfl rfl rfl ?_
        refine OA.p (some 83) (.bool false) rfl rfl rfl rfl ?_
        refine OA.p (some 84) (.bool false) rfl rfl rfl rfl ?_
        refine OA.off (dst := (some 85)) rfl rfl rfl ?_
        refine OA.off (dst := (some 86)) rfl rfl rfl ?_
        refine OA.off (dst := (some 87)) rfl rfl rfl ?_
        refine OA.off (dst := (some 88)) rfl rfl rfl ?_
        refine OA.off (dst := (some 89)) rfl rfl rfl ?_
        refine OA.off (dst := (some 90)) rfl rfl rfl ?_
        refine OA.p (some 91) (.bool false) rfl rfl rfl rfl ?_
        refine OA.p (some 92) (.bool false) rfl rfl rfl rfl ?_
        refine OA.nil ?_
        intro _
        refine RA.condF rfl ?_
        refine RA.skip env_ok ?_
        intro _
        refine RA.seq hd ?_
        refine RA.region env_ok ?_
        refine OA.p (some 93) (.bool false) rfl rfl rfl rfl ?_
        refine OA.nil ?_
        intro _
        refine RA.condF rfl ?_
        refine RA.skip env_ok ?_
        intro _
        refine RA.seq hd ?_
        refine RA.region env_ok ?_
        refine OA.p (some 154) (Pt b 0 0) rfl rfl rfl rfl ?_
        refine OA.callP (dst := (some 155)) (all := [(Pt b 0 0)]) (v := (.tuple ⟨[(.int .i64 at_), (.bool true)]⟩)) (hd.of (by omega) (kb2 (by omega))) rfl rfl rfl rfl rfl rfl rfl rfl (aAt1 b want mn nx at_ times (by omega) (by omega) (by omega) (get_there (by omega) get_here)) ?_
        intro n79 hn79
        refine OA.p (some 153) (.tuple ⟨[(.int .i64 at_), (.bool true)]⟩) rfl rfl rfl rfl ?_
        refine OA.p (some 156) (.int .i64 at_) rfl rfl rfl rfl ?_
        refine OA.p (some 157) (.bool true) rfl rfl rfl rfl ?_
        refine OA.p (some 19) (.int .i64 at_) rfl rfl rfl rfl ?_
        refine OA.p (some 20) (.bool true) rfl rfl rfl rfl ?_
        refine OA.nil ?_
        intro _
        refine RA.rebase [(1, lv), (5, (Pt b 0 0)), (6, (W nx)), (7, (.int .i64 ((want : Nat) : Int))), (8, (.int .i64 ((times : Nat) : Int))), (9, (.int .i64 ((i : Nat) : Int))), (10, (.int .i64 y)), (15, (W (nx + (1#32)))), (16, (.int .i64 (((1 + (andN y 1)) : Nat) : Int))), (17, (.int .i64 0)), (18, (.bool false)), (20, (.bool true)), (33, (.bool true)), (45, (.int .i64 (((andN z 3) : Nat) : Int))), (52, (.bool true)), (92, (.bool false)), (93, (.bool false)), (96, (.bool false)), (118, (.bool false))] ⟨rfl, rfl, rfl, rfl, rfl, rfl, rfl, rfl, rfl, rfl, rfl, rfl, rfl, rfl, rfl, rfl, rfl, rfl, rfl, trivial⟩ (fun τr80 => ?_)
        refine RA.seq hd ?_
        refine RA.region env_ok ?_
        refine OA.p (some 158) (Pt b 0 0) rfl rfl rfl rfl ?_
        refine OA.callP (dst := (some 159)) (all := [(Pt b 0 0)]) (v := (.int .i64 ((want : Nat) : Int))) (hd.of (by omega) (kb2 (by omega))) rfl rfl rfl rfl rfl rfl rfl rfl (PS.to (aWant b want mn nx at_ (get_there (by omega) get_here)) (show Value.int .i64 _ = (.int .i64 ((want : Nat) : Int)) from congrArg (Value.int .i64) (by omega))) ?_
        intro n81 hn81
        refine OA.p (some 160) (.int .i64 ((want : Nat) : Int)) rfl rfl rfl rfl ?_
        refine OA.p (some 161) (.bool false) rfl rfl rfl (r_bin rfl rfl rfl (b_neq (decide_eq_false (fun h => h rfl)))) ?_
        refine OA.p (some 162) (.bool false) rfl rfl rfl rfl ?_
        refine OA.p (some 163) (Pt b 0 0) rfl rfl rfl rfl ?_
        refine OA.callP (dst := (some 164)) (all := [(Pt b 0 0)]) (v := (.int .i64 ((times : Nat) : Int))) (hd.of (by omega) (kb2 (by omega))) rfl rfl rfl rfl rfl rfl rfl rfl (aTimes b want mn nx at_ times (by omega) (by omega) (get_there (by omega) get_here)) ?_
        intro n82 hn82
        refine OA.p (some 165) (.int .i64 ((times : Nat) : Int)) rfl rfl rfl rfl ?_
        refine OA.p (some 166) (.bool false) rfl rfl rfl (r_bin rfl rfl rfl (b_neq (decide_eq_false (fun h => h rfl)))) ?_
        refine OA.p (some 167) (.bool false) rfl rfl rfl rfl ?_
        refine OA.p (some 168) (.bool false) rfl rfl rfl rfl ?_
        refine OA.p (some 169) (.bool true) rfl rfl rfl rfl ?_
        refine OA.p (some 170) (.int .i64 ((times : Nat) : Int)) rfl rfl rfl rfl ?_
        refine OA.p (some 171) (.bool true) rfl rfl rfl (Eq.trans (r_bin rfl rfl rfl (b_gtr rfl)) (dT hc15)) ?_
        refine OA.p (some 172) (.bool false) rfl rfl rfl rfl ?_
        refine OA.p (some 173) (.bool false) rfl rfl rfl rfl ?_
        refine OA.nil ?_
        intro _
        refine RA.condF rfl ?_
        refine RA.skip env_ok ?_
        intro _
        refine RA.region env_ok ?_
        refine OA.p (some 34) (.int .i64 ((i : Nat) : Int)) rfl rfl rfl rfl ?_
        refine OA.p (some 35) (.int .i64 (((i + 1) : Nat) : Int)) rfl rfl rfl (r_bin rfl rfl rfl (b_add (i64_eq (by omega)))) ?_
        refine OA.p (some 9) (.int .i64 (((i + 1) : Nat) : Int)) rfl rfl rfl rfl ?_
        refine OA.nil ?_
        refine ⟨(ls.length - (i + 1)), by omega, [(b, some ⟨[(xRa28 want nx at_ mn)], 6, 94, true⟩)], (Less.of (fac (mm (fun _ => get_here) (fun _ => (get_there (by omega) get_here))) fan) (gone_of (by simp only [goneP, memP, List.cons_append, List.nil_append, true_or, or_true, true_and, and_true, or_false] <;> omega))), ⟨(i + 1), nx, want, times, mn, at_, rfl, by omega, ⟨rfl, rfl, rfl, rfl, rfl, rfl, trivial⟩, rfl, (kb1 (by omega)), ⟨by omega, by omega, by omega, by omega, by omega, by omega⟩⟩⟩
      ·
       by_cases hc19 : (andN y 1) = 0
       ·
        refine OA.call (dst := (some 70)) (all := (xRa21 b nx n70)) rfl rfl rfl rfl rfl rfl rfl rfl (CQ.imp (aAnsN (hd.of (by omega) (kb2 (by omega))) b want mn nx at_ n70 (by omega) (nx + (1#32)) (1 + (andN y 1)) (by omega) times hw0 hw1 (.inl (by omega)) (get_there (by omega) get_here) (by rw [← res_eq]; exact get_here)) ?_)
        rintro _ n83 _ ⟨rfl, rfl⟩ hn83
        refine OA.app0 ?_
        refine OA.p (some 58) (.tuple ⟨[(.int .i64 0), (.bool false)]⟩) rfl rfl rfl rfl ?_
        refine OA.p (some 71) (.int .i64 0) rfl rfl rfl rfl ?_
        refine OA.p (some 72) (.bool false) rfl rfl rfl rfl ?_
        refine OA.p (some 17) (.int .i64 0) rfl rfl rfl rfl ?_
        refine OA.p (some 18) (.bool false) rfl rfl rfl rfl ?_
        refine OA.nil ?_
        intro _
        refine RA.rebase [(1, lv), (5, (Pt b 0 0)), (6, (W nx)), (7, (.int .i64 ((want : Nat) : Int))), (8, (.int .i64 ((times : Nat) : Int))), (9, (.int .i64 ((i : Nat) : Int))), (10, (.int .i64 y)), (15, (W (nx + (1#32)))), (16, (.int .i64 (((1 + (andN y 1)) : Nat) : Int))), (17, (.int .i64 0)), (18, (.bool false)), (33, (.bool true)), (45, (.int .i64 (((andN z 3) : Nat) : Int))), (52, (.bool true)), (96, (.bool false)), (118, (.bool false))] ⟨rfl, rfl, rfl, rfl, rfl, rfl, rfl, rfl, rfl, rfl, rfl, rfl, rfl, rfl, rfl, rfl, trivial⟩ (fun τr84 => ?_)
        refine RA.seq hd ?_
        refine RA.seq hd ?_
        refine RA.region env_ok ?_
        refine OA.p (some 73) (.bool false) rfl rfl rfl rfl ?_
        refine OA.p (some 74) (.int .i64 ((times : Nat) : Int)) rfl rfl rfl rfl ?_
        refine OA.p (some 75) (.bool false) rfl rfl rfl (Eq.trans (r_bin rfl rfl rfl (b_gtr rfl)) (dF hc15)) ?_
        refine OA.p (some 76) (.bool false) rfl rfl rfl rfl ?_
        refine OA.off (dst := (some 77)) rfl rfl rfl ?_
        refine OA.off (dst := (some 78)) rfl rfl rfl ?_
        refine OA.off (dst := (some 79)) rfl rfl rfl ?_
        refine OA.p (some 80) (.bool false) rfl rfl rfl rfl ?_
        refine OA.p (some 81) (.bool false) rfl rfl rfl rfl ?_
        refine OA.p (some 82) (.bool false) rfl rfl rfl rfl ?_
        refine OA.p (some 83) (.bool false) rfl rfl rfl rfl ?_
        refine OA.p (some 84) (.bool false) rfl rfl rfl rfl ?_
        refine OA.off (dst := (some 85)) rfl rfl rfl ?_
        refine OA.off (dst := (some 86)) rfl rfl rfl ?_
        refine OA.off (dst := (some 87)) rfl rfl rfl ?_
        refine OA.off (dst := (some 88)) rfl rfl rfl ?_
        refine OA.off (dst := (some 89)) rfl rfl rfl ?_
        refine OA.off (dst := (some 90)) rfl rfl rfl ?_
        refine OA.p (some 91) (.bool false) rfl rfl rfl rfl ?_
        refine OA.p (some 92) (.bool false) rfl rfl rfl rfl ?_
        refine OA.nil ?_
        intro _
        refine RA.condF rfl ?_
        refine RA.skip env_ok ?_
        intro _
        refine RA.seq hd ?_
        refine RA.region env_ok ?_
        refine OA.p (some 93) (.bool false) rfl rfl rfl rfl ?_
        refine OA.nil ?_
        intro _
        refine RA.condF rfl ?_
        refine RA.skip env_ok ?_
        intro _
        refine RA.seq hd ?_
        refine RA.region env_ok ?_
        refine OA.p (some 154) (Pt b 0 0) rfl rfl rfl rfl ?_
        refine OA.callP (dst := (some 155)) (all := [(Pt b 0 0)]) (v := (.tuple ⟨[(.int .i64 0), (.bool false)]⟩)) (hd.of (by omega) (kb2 (by omega))) rfl rfl rfl rfl rfl rfl rfl rfl (aAt0 b want mn nx at_ times (by omega) (by omega) (by omega) (get_there (by omega) get_here)) ?_
        intro n85 hn85
        refine OA.p (some 153) (.tuple ⟨[(.int .i64 0), (.bool false)]⟩) rfl rfl rfl rfl ?_
        refine OA.p (some 156) (.int .i64 0) rfl rfl rfl rfl ?_
        refine OA.p (some 157) (.bool false) rfl rfl rfl rfl ?_
        refine OA.p (some 19) (.int .i64 0) rfl rfl rfl rfl ?_
        refine OA.p (some 20) (.bool false) rfl rfl rfl rfl ?_
        refine OA.nil ?_
        intro _
        refine RA.rebase [(1, lv), (5, (Pt b 0 0)), (6, (W nx)), (7, (.int .i64 ((want : Nat) : Int))), (8, (.int .i64 ((times : Nat) : Int))), (9, (.int .i64 ((i : Nat) : Int))), (10, (.int .i64 y)), (15, (W (nx + (1#32)))), (16, (.int .i64 (((1 + (andN y 1)) : Nat) : Int))), (17, (.int .i64 0)), (18, (.bool false)), (20, (.bool false)), (33, (.bool true)), (45, (.int .i64 (((andN z 3) : Nat) : Int))), (52, (.bool true)), (92, (.bool false)), (93, (.bool false)), (96, (.bool false)), (118, (.bool false))] ⟨rfl, rfl, rfl, rfl, rfl, rfl, rfl, rfl, rfl, rfl, rfl, rfl, rfl, rfl, rfl, rfl, rfl, rfl, rfl, trivial⟩ (fun τr86 => ?_)
        refine RA.seq hd ?_
        refine RA.region env_ok ?_
        refine OA.p (some 158) (Pt b 0 0) rfl rfl rfl rfl ?_
        refine OA.callP (dst := (some 159)) (all := [(Pt b 0 0)]) (v := (.int .i64 ((want : Nat) : Int))) (hd.of (by omega) (kb2 (by omega))) rfl rfl rfl rfl rfl rfl rfl rfl (PS.to (aWant b want mn nx at_ (get_there (by omega) get_here)) (show Value.int .i64 _ = (.int .i64 ((want : Nat) : Int)) from congrArg (Value.int .i64) (by omega))) ?_
        intro n87 hn87
        refine OA.p (some 160) (.int .i64 ((want : Nat) : Int)) rfl rfl rfl rfl ?_
        refine OA.p (some 161) (.bool false) rfl rfl rfl (r_bin rfl rfl rfl (b_neq (decide_eq_false (fun h => h rfl)))) ?_
        refine OA.p (some 162) (.bool false) rfl rfl rfl rfl ?_
        refine OA.p (some 163) (Pt b 0 0) rfl rfl rfl rfl ?_
        refine OA.callP (dst := (some 164)) (all := [(Pt b 0 0)]) (v := (.int .i64 ((times : Nat) : Int))) (hd.of (by omega) (kb2 (by omega))) rfl rfl rfl rfl rfl rfl rfl rfl (aTimes b want mn nx at_ times (by omega) (by omega) (get_there (by omega) get_here)) ?_
        intro n88 hn88
        refine OA.p (some 165) (.int .i64 ((times : Nat) : Int)) rfl rfl rfl rfl ?_
        refine OA.p (some 166) (.bool false) rfl rfl rfl (r_bin rfl rfl rfl (b_neq (decide_eq_false (fun h => h rfl)))) ?_
        refine OA.p (some 167) (.bool false) rfl rfl rfl rfl ?_
        refine OA.p (some 168) (.bool false) rfl rfl rfl rfl ?_
        refine OA.p (some 169) (.bool false) rfl rfl rfl rfl ?_
        refine OA.p (some 170) (.int .i64 ((times : Nat) : Int)) rfl rfl rfl rfl ?_
        refine OA.p (some 171) (.bool false) rfl rfl rfl (Eq.trans (r_bin rfl rfl rfl (b_gtr rfl)) (dF hc15)) ?_
        refine OA.p (some 172) (.bool false) rfl rfl rfl rfl ?_
        refine OA.p (some 173) (.bool false) rfl rfl rfl rfl ?_
        refine OA.nil ?_
        intro _
        refine RA.condF rfl ?_
        refine RA.skip env_ok ?_
        intro _
        refine RA.region env_ok ?_
        refine OA.p (some 34) (.int .i64 ((i : Nat) : Int)) rfl rfl rfl rfl ?_
        refine OA.p (some 35) (.int .i64 (((i + 1) : Nat) : Int)) rfl rfl rfl (r_bin rfl rfl rfl (b_add (i64_eq (by omega)))) ?_
        refine OA.p (some 9) (.int .i64 (((i + 1) : Nat) : Int)) rfl rfl rfl rfl ?_
        refine OA.nil ?_
        refine ⟨(ls.length - (i + 1)), by omega, [(b, some ⟨[(xRa28 want nx at_ mn)], 6, 94, true⟩)], (Less.of (fac (mm (fun _ => get_here) (fun _ => (get_there (by omega) get_here))) fan) (gone_of (by simp only [goneP, memP, List.cons_append, List.nil_append, true_or, or_true, true_and, and_true, or_false] <;> omega))), ⟨(i + 1), nx, want, times, mn, at_, rfl, by omega, ⟨rfl, rfl, rfl, rfl, rfl, rfl, trivial⟩, rfl, (kb1 (by omega)), ⟨by omega, by omega, by omega, by omega, by omega, by omega⟩⟩⟩
       ·
        refine OA.call (dst := (some 70)) (all := (xRa21 b nx n70)) rfl rfl rfl rfl rfl rfl rfl rfl (CQ.imp (aAnsN (hd.of (by omega) (kb2 (by omega))) b want mn nx at_ n70 (by omega) (nx + (1#32)) (1 + (andN y 1)) (by omega) times hw0 hw1 (.inl (by omega)) (get_there (by omega) get_here) (by rw [← res_eq]; exact get_here)) ?_)
        rintro _ n89 _ ⟨rfl, rfl⟩ hn89
        refine OA.app0 ?_
        refine OA.p (some 58) (.tuple ⟨[(.int .i64 0), (.bool false)]⟩) rfl rfl rfl rfl ?_
        refine OA.p (some 71) (.int .i64 0) rfl rfl rfl rfl ?_
        refine OA.p (some 72) (.bool false) rfl rfl rfl rfl ?_
        refine OA.p (some 17) (.int .i64 0) rfl rfl rfl rfl ?_
        refine OA.p (some 18) (.bool false) rfl rfl rfl rfl ?_
        refine OA.nil ?_
        intro _
        refine RA.rebase [(1, lv), (5, (Pt b 0 0)), (6, (W nx)), (7, (.int .i64 ((want : Nat) : Int))), (8, (.int .i64 ((times : Nat) : Int))), (9, (.int .i64 ((i : Nat) : Int))), (10, (.int .i64 y)), (15, (W (nx + (1#32)))), (16, (.int .i64 (((1 + (andN y 1)) : Nat) : Int))), (17, (.int .i64 0)), (18, (.bool false)), (33, (.bool true)), (45, (.int .i64 (((andN z 3) : Nat) : Int))), (52, (.bool true)), (96, (.bool false)), (118, (.bool false))] ⟨rfl, rfl, rfl, rfl, rfl, rfl, rfl, rfl, rfl, rfl, rfl, rfl, rfl, rfl, rfl, rfl, trivial⟩ (fun τr90 => ?_)
        refine RA.seq hd ?_
        refine RA.seq hd ?_
        refine RA.region env_ok ?_
        refine OA.p (some 73) (.bool false) rfl rfl rfl rfl ?_
        refine OA.p (some 74) (.int .i64 ((times : Nat) : Int)) rfl rfl rfl rfl ?_
        refine OA.p (some 75) (.bool false) rfl rfl rfl (Eq.trans (r_bin rfl rfl rfl (b_gtr rfl)) (dF hc15)) ?_
        refine OA.p (some 76) (.bool false) rfl rfl rfl rfl ?_
        refine OA.off (dst := (some 77)) rfl rfl rfl ?_
        refine OA.off (dst := (some 78)) rfl rfl rfl ?_
        refine OA.off (dst := (some 79)) rfl rfl rfl ?_
        refine OA.p (some 80) (.bool false) rfl rfl rfl rfl ?_
        refine OA.p (some 81) (.bool false) rfl rfl rfl rfl ?_
        refine OA.p (some 82) (.bool false) rfl rfl rfl rfl ?_
        refine OA.p (some 83) (.bool false) rfl rfl rfl rfl ?_
        refine OA.p (some 84) (.bool false) rfl rfl rfl rfl ?_
        refine OA.off (dst := (some 85)) rfl rfl rfl ?_
        refine OA.off (dst := (some 86)) rfl rfl rfl ?_
        refine OA.off (dst := (some 87)) rfl rfl rfl ?_
        refine OA.off (dst := (some 88)) rfl rfl rfl ?_
        refine OA.off (dst := (some 89)) rfl rfl rfl ?_
        refine OA.off (dst := (some 90)) rfl rfl rfl ?_
        refine OA.p (some 91) (.bool false) rfl rfl rfl rfl ?_
        refine OA.p (some 92) (.bool false) rfl rfl rfl rfl ?_
        refine OA.nil ?_
        intro _
        refine RA.condF rfl ?_
        refine RA.skip env_ok ?_
        intro _
        refine RA.seq hd ?_
        refine RA.region env_ok ?_
        refine OA.p (some 93) (.bool false) rfl rfl rfl rfl ?_
        refine OA.nil ?_
        intro _
        refine RA.condF rfl ?_
        refine RA.skip env_ok ?_
        intro _
        refine RA.seq hd ?_
        refine RA.region env_ok ?_
        refine OA.p (some 154) (Pt b 0 0) rfl rfl rfl rfl ?_
        refine OA.callP (dst := (some 155)) (all := [(Pt b 0 0)]) (v := (.tuple ⟨[(.int .i64 0), (.bool false)]⟩)) (hd.of (by omega) (kb2 (by omega))) rfl rfl rfl rfl rfl rfl rfl rfl (aAt0 b want mn nx at_ times (by omega) (by omega) (by omega) (get_there (by omega) get_here)) ?_
        intro n91 hn91
        refine OA.p (some 153) (.tuple ⟨[(.int .i64 0), (.bool false)]⟩) rfl rfl rfl rfl ?_
        refine OA.p (some 156) (.int .i64 0) rfl rfl rfl rfl ?_
        refine OA.p (some 157) (.bool false) rfl rfl rfl rfl ?_
        refine OA.p (some 19) (.int .i64 0) rfl rfl rfl rfl ?_
        refine OA.p (some 20) (.bool false) rfl rfl rfl rfl ?_
        refine OA.nil ?_
        intro _
        refine RA.rebase [(1, lv), (5, (Pt b 0 0)), (6, (W nx)), (7, (.int .i64 ((want : Nat) : Int))), (8, (.int .i64 ((times : Nat) : Int))), (9, (.int .i64 ((i : Nat) : Int))), (10, (.int .i64 y)), (15, (W (nx + (1#32)))), (16, (.int .i64 (((1 + (andN y 1)) : Nat) : Int))), (17, (.int .i64 0)), (18, (.bool false)), (20, (.bool false)), (33, (.bool true)), (45, (.int .i64 (((andN z 3) : Nat) : Int))), (52, (.bool true)), (92, (.bool false)), (93, (.bool false)), (96, (.bool false)), (118, (.bool false))] ⟨rfl, rfl, rfl, rfl, rfl, rfl, rfl, rfl, rfl, rfl, rfl, rfl, rfl, rfl, rfl, rfl, rfl, rfl, rfl, trivial⟩ (fun τr92 => ?_)
        refine RA.seq hd ?_
        refine RA.region env_ok ?_
        refine OA.p (some 158) (Pt b 0 0) rfl rfl rfl rfl ?_
        refine OA.callP (dst := (some 159)) (all := [(Pt b 0 0)]) (v := (.int .i64 ((want : Nat) : Int))) (hd.of (by omega) (kb2 (by omega))) rfl rfl rfl rfl rfl rfl rfl rfl (PS.to (aWant b want mn nx at_ (get_there (by omega) get_here)) (show Value.int .i64 _ = (.int .i64 ((want : Nat) : Int)) from congrArg (Value.int .i64) (by omega))) ?_
        intro n93 hn93
        refine OA.p (some 160) (.int .i64 ((want : Nat) : Int)) rfl rfl rfl rfl ?_
        refine OA.p (some 161) (.bool false) rfl rfl rfl (r_bin rfl rfl rfl (b_neq (decide_eq_false (fun h => h rfl)))) ?_
        refine OA.p (some 162) (.bool false) rfl rfl rfl rfl ?_
        refine OA.p (some 163) (Pt b 0 0) rfl rfl rfl rfl ?_
        refine OA.callP (dst := (some 164)) (all := [(Pt b 0 0)]) (v := (.int .i64 ((times : Nat) : Int))) (hd.of (by omega) (kb2 (by omega))) rfl rfl rfl rfl rfl rfl rfl rfl (aTimes b want mn nx at_ times (by omega) (by omega) (get_there (by omega) get_here)) ?_
        intro n94 hn94
        refine OA.p (some 165) (.int .i64 ((times : Nat) : Int)) rfl rfl rfl rfl ?_
        refine OA.p (some 166) (.bool false) rfl rfl rfl (r_bin rfl rfl rfl (b_neq (decide_eq_false (fun h => h rfl)))) ?_
        refine OA.p (some 167) (.bool false) rfl rfl rfl rfl ?_
        refine OA.p (some 168) (.bool false) rfl rfl rfl rfl ?_
        refine OA.p (some 169) (.bool false) rfl rfl rfl rfl ?_
        refine OA.p (some 170) (.int .i64 ((times : Nat) : Int)) rfl rfl rfl rfl ?_
        refine OA.p (some 171) (.bool false) rfl rfl rfl (Eq.trans (r_bin rfl rfl rfl (b_gtr rfl)) (dF hc15)) ?_
        refine OA.p (some 172) (.bool false) rfl rfl rfl rfl ?_
        refine OA.p (some 173) (.bool false) rfl rfl rfl rfl ?_
        refine OA.nil ?_
        intro _
        refine RA.condF rfl ?_
        refine RA.skip env_ok ?_
        intro _
        refine RA.region env_ok ?_
        refine OA.p (some 34) (.int .i64 ((i : Nat) : Int)) rfl rfl rfl rfl ?_
        refine OA.p (some 35) (.int .i64 (((i + 1) : Nat) : Int)) rfl rfl rfl (r_bin rfl rfl rfl (b_add (i64_eq (by omega)))) ?_
        refine OA.p (some 9) (.int .i64 (((i + 1) : Nat) : Int)) rfl rfl rfl rfl ?_
        refine OA.nil ?_
        refine ⟨(ls.length - (i + 1)), by omega, [(b, some ⟨[(xRa28 want nx at_ mn)], 6, 94, true⟩)], (Less.of (fac (mm (fun _ => get_here) (fun _ => (get_there (by omega) get_here))) fan) (gone_of (by simp only [goneP, memP, List.cons_append, List.nil_append, true_or, or_true, true_and, and_true, or_false] <;> omega))), ⟨(i + 1), nx, want, times, mn, at_, rfl, by omega, ⟨rfl, rfl, rfl, rfl, rfl, rfl, trivial⟩, rfl, (kb1 (by omega)), ⟨by omega, by omega, by omega, by omega, by omega, by omega⟩⟩⟩
     ·
      refine OA.p (some 52) (.bool false) rfl rfl rfl (Eq.trans (r_bin rfl rfl rfl (b_eql rfl)) (dF hc14)) ?_
      refine OA.nil ?_
      intro _
      refine RA.condF rfl ?_
      refine RA.skip env_ok ?_
      intro _
      refine RA.seq hd ?_
      refine RA.region env_ok ?_
      refine OA.p (some 55) (.int .i64 y) rfl rfl rfl rfl ?_
      have hm95 := andN_le y 1 (by decide)
      refine OA.p (some 56) (.int .i64 (((andN y 1) : Nat) : Int)) rfl rfl rfl (r_bin rfl rfl rfl (b_andN y 1 (by decide))) ?_
      refine OA.p (some 57) (.int .i64 (((1 + (andN y 1)) : Nat) : Int)) rfl rfl rfl (r_bin rfl rfl rfl (b_add (i64_eq (by omega)))) ?_
      refine OA.p (some 16) (.int .i64 (((1 + (andN y 1)) : Nat) : Int)) rfl rfl rfl rfl ?_
      refine OA.nil ?_
      intro _
      refine RA.seq hd ?_
      refine RA.region env_ok ?_
      refine OA.p (some 59) (Pt b 0 0) rfl rfl rfl rfl ?_
      refine OA.p (some 60) (W nx) rfl rfl rfl rfl ?_
      refine OA.p (some 61) (W nx) rfl rfl rfl rfl ?_
      refine OA.callP (dst := (some 62)) (all := [(W nx)]) (v := (.string (bstr (putL (nx).toNat 4)))) (hd.of (by omega) (kb1 (by omega))) rfl rfl rfl rfl rfl rfl rfl rfl (sFour nx) ?_
      intro n96 hn96
      refine OA.p (some 63) (.int .i64 (((1 + (andN y 1)) : Nat) : Int)) rfl rfl rfl rfl ?_
      refine OA.p (some 64) (W (BitVec.ofNat 32 (1 + (andN y 1)))) rfl rfl rfl (r_cvt rfl rfl rfl rfl rfl ⟨_, rfl⟩ (wrap_ofNat32 _)) ?_
      refine OA.callP (dst := (some 65)) (all := [(W (BitVec.ofNat 32 (1 + (andN y 1))))]) (v := (.string (bstr (putL ((BitVec.ofNat 32 (1 + (andN y 1)))).toNat 4)))) (hd.of (by omega) (kb1 (by omega))) rfl rfl rfl rfl rfl rfl rfl rfl (sFour (BitVec.ofNat 32 (1 + (andN y 1)))) ?_
      intro n97 hn97
      refine OA.p (some 66) (.string ((bstr (putL (nx).toNat 4)) ++ (bstr (putL ((BitVec.ofNat 32 (1 + (andN y 1)))).toNat 4)))) rfl rfl rfl (r_cat rfl rfl rfl (by (try simp only [ByteArray.size_append, bstr_size, size_lit, List.size_toArray, List.length_cons, List.length_nil, List.length_take, List.length_drop, List.length_replicate, putL_len]); try omega)) ?_
      refine OA.p (some 67) (.agg ⟨[(.int .i64 16), (.string ((bstr (putL (nx).toNat 4)) ++ (bstr (putL ((BitVec.ofNat 32 (1 + (andN y 1)))).toNat 4))))]⟩) rfl rfl rfl (by kernel_rfl) ?_
      refine OA.op1 (dst := (some 68)) (v := (.slice (some ⟨n97, 0, none⟩) 1 0)) (n1 := (n97 + 1)) (w := (n97, some ⟨[[(.int .i64 16), (.string ((bstr (putL (nx).toNat 4)) ++ (bstr (putL ((BitVec.ofNat 32 (1 + (andN y 1)))).toNat 4))))]], 2, 35, true⟩)) rfl rfl rfl (by kernel_rfl) (by omega) ?_
      refine OA.p (some 69) (.agg ⟨(xRa25 nx n97)⟩) rfl rfl rfl (by kernel_rfl) ?_
      by_cases hc20 : 0 < ((times : Nat) : Int)
      ·
       by_cases hc21 : (andN y 1) = 0
       ·
        refine OA.call (dst := (some 70)) (all := (xRa22 b nx n97)) rfl rfl rfl rfl rfl rfl rfl rfl (CQ.imp (aAns1 (hd.of (by omega) (kb2 (by omega))) b want mn nx at_ n97 (by omega) nx (1 + (andN y 1)) (by omega) times hw0 hw1 rfl (by omega) (by omega) (get_there (by omega) get_here) (by rw [← res_eq]; exact get_here)) ?_)
        rintro _ n98 _ ⟨rfl, rfl⟩ hn98
        refine OA.app1 ?_
        refine OA.p (some 58) (.tuple ⟨[(.int .i64 ((want : Nat) : Int)), (.bool true)]⟩) rfl rfl rfl rfl ?_
        refine OA.p (some 71) (.int .i64 ((want : Nat) : Int)) rfl rfl rfl rfl ?_
        refine OA.p (some 72) (.bool true) rfl rfl rfl rfl ?_
        refine OA.p (some 17) (.int .i64 ((want : Nat) : Int)) rfl rfl rfl rfl ?_
        refine OA.p (some 18) (.bool true) rfl rfl rfl rfl ?_
        refine OA.nil ?_
        intro _
        refine RA.rebase [(1, lv), (5, (Pt b 0 0)), (6, (W nx)), (7, (.int .i64 ((want : Nat) : Int))), (8, (.int .i64 ((times : Nat) : Int))), (9, (.int .i64 ((i : Nat) : Int))), (10, (.int .i64 y)), (15, (W nx)), (16, (.int .i64 (((1 + (andN y 1)) : Nat) : Int))), (17, (.int .i64 ((want : Nat) : Int))), (18, (.bool true)), (33, (.bool true)), (45, (.int .i64 (((andN z 3) : Nat) : Int))), (52, (.bool false)), (96, (.bool false)), (118, (.bool false))] ⟨rfl, rfl, rfl, rfl, rfl, rfl, rfl, rfl, rfl, rfl, rfl, rfl, rfl, rfl, rfl, rfl, trivial⟩ (fun τr99 => ?_)
        refine RA.seq hd ?_
        refine RA.seq hd ?_
        refine RA.region env_ok ?_
        refine OA.p (some 73) (.bool true) rfl rfl rfl rfl ?_
        refine OA.p (some 74) (.int .i64 ((times : Nat) : Int)) rfl rfl rfl rfl ?_
        refine OA.p (some 75) (.bool true) rfl rfl rfl (Eq.trans (r_bin rfl rfl rfl (b_gtr rfl)) (dT hc20)) ?_
        refine OA.p (some 76) (.bool true) rfl rfl rfl rfl ?_
        refine OA.p (some 77) (W nx) rfl rfl rfl rfl ?_
        refine OA.p (some 78) (W nx) rfl rfl rfl rfl ?_
        refine OA.p (some 79) (.bool true) rfl rfl rfl (r_bin rfl rfl rfl (b_eql (decide_eq_true rfl))) ?_
        refine OA.p (some 80) (.bool true) rfl rfl rfl rfl ?_
        refine OA.p (some 81) (.bool false) rfl rfl rfl rfl ?_
        refine OA.p (some 82) (.bool false) rfl rfl rfl rfl ?_
        refine OA.p (some 83) (.bool true) rfl rfl rfl rfl ?_
        refine OA.p (some 84) (.bool true) rfl rfl rfl rfl ?_
        refine OA.p (some 85) (.int .i64 ((want : Nat) : Int)) rfl rfl rfl rfl ?_
        refine OA.p (some 86) (.int .i64 ((want : Nat) : Int)) rfl rfl rfl rfl ?_
        refine OA.p (some 87) (.int .i64 (((1 + (andN y 1)) : Nat) : Int)) rfl rfl rfl rfl ?_
        refine OA.p (some 88) (.int .i64 (((2 - (1 + (andN y 1))) : Nat) : Int)) rfl rfl rfl (r_bin rfl rfl rfl (b_sub (i64_eq (by omega)))) ?_
        refine OA.p (some 89) (.int .i64 ((want : Nat) : Int)) rfl rfl rfl (r_bin rfl rfl rfl (b_mul (i64_eq (by rw [show ((2 - (1 + (andN y 1))) : Nat) = 1 from by omega]; omega)))) ?_
        refine OA.p (some 90) (.bool false) rfl rfl rfl (r_bin rfl rfl rfl (b_neq (decide_eq_false (fun h => h rfl)))) ?_
        refine OA.p (some 91) (.bool false) rfl rfl rfl rfl ?_
        refine OA.p (some 92) (.bool false) rfl rfl rfl rfl ?_
        refine OA.nil ?_
        intro _
        refine RA.condF rfl ?_
        refine RA.skip env_ok ?_
        intro _
        refine RA.seq hd ?_
        refine RA.region env_ok ?_
        refine OA.p (some 93) (.bool true) rfl rfl rfl rfl ?_
        refine OA.nil ?_
        intro _
        refine RA.condT rfl ?_
        refine RA.seq hd ?_
        refine RA.region env_ok ?_
        refine OA.p (some 7) (.int .i64 0) rfl rfl rfl rfl ?_
        refine OA.p (some 8) (.int .i64 0) rfl rfl rfl rfl ?_
        refine OA.nil ?_
        intro _
        refine RA.region env_ok ?_
        refine OA.p (some 94) (W nx) rfl rfl rfl rfl ?_
        refine OA.p (some 95) (W (nx + (1#32))) rfl rfl rfl (r_bin rfl rfl rfl (b_addW nx (1#32))) ?_
        refine OA.p (some 6) (W (nx + (1#32))) rfl rfl rfl rfl ?_
        refine OA.nil ?_
        intro _
        refine RA.rebase [(1, lv), (5, (Pt b 0 0)), (6, (W (nx + (1#32)))), (7, (.int .i64 0)), (8, (.int .i64 0)), (9, (.int .i64 ((i : Nat) : Int))), (10, (.int .i64 y)), (15, (W nx)), (16, (.int .i64 (((1 + (andN y 1)) : Nat) : Int))), (17, (.int .i64 ((want : Nat) : Int))), (18, (.bool true)), (33, (.bool true)), (45, (.int .i64 (((andN z 3) : Nat) : Int))), (52, (.bool false)), (92, (.bool false)), (93, (.bool true)), (96, (.bool false)), (118, (.bool false))] ⟨rfl, rfl, rfl, rfl, rfl, rfl, rfl, rfl, rfl, rfl, rfl, rfl, rfl, rfl, rfl, rfl, rfl, rfl, trivial⟩ (fun τr100 => ?_)
        refine RA.seq hd ?_
        refine RA.region env_ok ?_
        refine OA.p (some 154) (Pt b 0 0) rfl rfl rfl rfl ?_
        refine OA.callP (dst := (some 155)) (all := [(Pt b 0 0)]) (v := (.tuple ⟨[(.int .i64 0), (.bool false)]⟩)) (hd.of (by omega) (kb3 (by omega))) rfl rfl rfl rfl rfl rfl rfl rfl (aAt0 b 0 mn (nx + 1#32) at_ 0 (by omega) (by omega) (by omega) get_here) ?_
        intro n101 hn101
        refine OA.p (some 153) (.tuple ⟨[(.int .i64 0), (.bool false)]⟩) rfl rfl rfl rfl ?_
        refine OA.p (some 156) (.int .i64 0) rfl rfl rfl rfl ?_
        refine OA.p (some 157) (.bool false) rfl rfl rfl rfl ?_
        refine OA.p (some 19) (.int .i64 0) rfl rfl rfl rfl ?_
        refine OA.p (some 20) (.bool false) rfl rfl rfl rfl ?_
        refine OA.nil ?_
        intro _
        refine RA.seq hd ?_
        refine RA.region env_ok ?_
        refine OA.p (some 158) (Pt b 0 0) rfl rfl rfl rfl ?_
        refine OA.callP (dst := (some 159)) (all := [(Pt b 0 0)]) (v := (.int .i64 0)) (hd.of (by omega) (kb3 (by omega))) rfl rfl rfl rfl rfl rfl rfl rfl (PS.to (aWant b 0 mn (nx + 1#32) at_ get_here) (show Value.int .i64 _ = (.int .i64 0) from congrArg (Value.int .i64) (by omega))) ?_
        intro n102 hn102
        refine OA.p (some 160) (.int .i64 0) rfl rfl rfl rfl ?_
        refine OA.p (some 161) (.bool false) rfl rfl rfl (r_bin rfl rfl rfl (b_neq rfl)) ?_
        refine OA.p (some 162) (.bool false) rfl rfl rfl rfl ?_
        refine OA.p (some 163) (Pt b 0 0) rfl rfl rfl rfl ?_
        refine OA.callP (dst := (some 164)) (all := [(Pt b 0 0)]) (v := (.int .i64 0)) (hd.of (by omega) (kb3 (by omega))) rfl rfl rfl rfl rfl rfl rfl rfl (aTimes b 0 mn (nx + 1#32) at_ 0 (by omega) (by omega) get_here) ?_
        intro n103 hn103
        refine OA.p (some 165) (.int .i64 0) rfl rfl rfl rfl ?_
        refine OA.p (some 166) (.bool false) rfl rfl rfl (r_bin rfl rfl rfl (b_neq rfl)) ?_
        refine OA.p (some 167) (.bool false) rfl rfl rfl rfl ?_
        refine OA.p (some 168) (.bool false) rfl rfl rfl rfl ?_
        refine OA.p (some 169) (.bool false) rfl rfl rfl rfl ?_
        refine OA.p (some 170) (.int .i64 0) rfl rfl rfl rfl ?_
        refine OA.p (some 171) (.bool false) rfl rfl rfl (r_bin rfl rfl rfl (b_gtr rfl)) ?_
        refine OA.p (some 172) (.bool false) rfl rfl rfl rfl ?_
        refine OA.p (some 173) (.bool false) rfl rfl rfl rfl ?_
        refine OA.nil ?_
        intro _
        refine RA.condF rfl ?_
        refine RA.skip env_ok ?_
        intro _
        refine RA.region env_ok ?_
        refine OA.p (some 34) (.int .i64 ((i : Nat) : Int)) rfl rfl rfl rfl ?_
        refine OA.p (some 35) (.int .i64 (((i + 1) : Nat) : Int)) rfl rfl rfl (r_bin rfl rfl rfl (b_add (i64_eq (by omega)))) ?_
        refine OA.p (some 9) (.int .i64 (((i + 1) : Nat) : Int)) rfl rfl rfl rfl ?_
        refine OA.nil ?_
        refine ⟨(ls.length - (i + 1)), by omega, [(b, some ⟨[[(.int .i64 0), (W (nx + 1#32)), (.int .i64 at_), (.int .i64 ((mn : Nat) : Int)), (W 0#32), (.int .i64 0)]], 6, 94, true⟩)], (Less.of (fac (mm (fun _ => get_here) (fun _ => get_here)) fan) (gone_of (by simp only [goneP, memP, List.cons_append, List.nil_append, true_or, or_true, true_and, and_true, or_false] <;> omega))), ⟨(i + 1), (nx + 1#32), 0, 0, mn, at_, rfl, by omega, ⟨rfl, rfl, rfl, rfl, rfl, rfl, trivial⟩, rfl, (kb1 (by omega)), ⟨by omega, by omega, by omega, by omega, by omega, by omega⟩⟩⟩
       ·
        refine OA.call (dst := (some 70)) (all := (xRa22 b nx n97)) rfl rfl rfl rfl rfl rfl rfl rfl (CQ.imp (aAns2 (hd.of (by omega) (kb2 (by omega))) b want mn nx at_ n97 (by omega) nx (1 + (andN y 1)) (by omega) times hw0 hw1 rfl (by omega) (by omega) (get_there (by omega) get_here) (by rw [← res_eq]; exact get_here)) ?_)
        rintro _ n104 _ ⟨rfl, rfl⟩ hn104
        refine OA.app1 ?_
        refine OA.p (some 58) (.tuple ⟨[(.int .i64 0), (.bool true)]⟩) rfl rfl rfl rfl ?_
        refine OA.p (some 71) (.int .i64 0) rfl rfl rfl rfl ?_
        refine OA.p (some 72) (.bool true) rfl rfl rfl rfl ?_
        refine OA.p (some 17) (.int .i64 0) rfl rfl rfl rfl ?_
        refine OA.p (some 18) (.bool true) rfl rfl rfl rfl ?_
        refine OA.nil ?_
        intro _
        refine RA.rebase [(1, lv), (5, (Pt b 0 0)), (6, (W nx)), (7, (.int .i64 ((want : Nat) : Int))), (8, (.int .i64 ((times : Nat) : Int))), (9, (.int .i64 ((i : Nat) : Int))), (10, (.int .i64 y)), (15, (W nx)), (16, (.int .i64 (((1 + (andN y 1)) : Nat) : Int))), (17, (.int .i64 0)), (18, (.bool true)), (33, (.bool true)), (45, (.int .i64 (((andN z 3) : Nat) : Int))), (52, (.bool false)), (96, (.bool false)), (118, (.bool false))] ⟨rfl, rfl, rfl, rfl, rfl, rfl, rfl, rfl, rfl, rfl, rfl, rfl, rfl, rfl, rfl, rfl, trivial⟩ (fun τr105 => ?_)
        refine RA.seq hd ?_
        refine RA.seq hd ?_
        refine RA.region env_ok ?_
        refine OA.p (some 73) (.bool true) rfl rfl rfl rfl ?_
        refine OA.p (some 74) (.int .i64 ((times : Nat) : Int)) rfl rfl rfl rfl ?_
        refine OA.p (some 75) (.bool true) rfl rfl rfl (Eq.trans (r_bin rfl rfl rfl (b_gtr rfl)) (dT hc20)) ?_
        refine OA.p (some 76) (.bool true) rfl rfl rfl rfl ?_
        refine OA.p (some 77) (W nx) rfl rfl rfl rfl ?_
        refine OA.p (some 78) (W nx) rfl rfl rfl rfl ?_
        refine OA.p (some 79) (.bool true) rfl rfl rfl (r_bin rfl rfl rfl (b_eql (decide_eq_true rfl))) ?_
        refine OA.p (some 80) (.bool true) rfl rfl rfl rfl ?_
        refine OA.p (some 81) (.bool false) rfl rfl rfl rfl ?_
        refine OA.p (some 82) (.bool false) rfl rfl rfl rfl ?_
        refine OA.p (some 83) (.bool true) rfl rfl rfl rfl ?_
        refine OA.p (some 84) (.bool true) rfl rfl rfl rfl ?_
        refine OA.p (some 85) (.int .i64 0) rfl rfl rfl rfl ?_
        refine OA.p (some 86) (.int .i64 ((want : Nat) : Int)) rfl rfl rfl rfl ?_
        refine OA.p (some 87) (.int .i64 (((1 + (andN y 1)) : Nat) : Int)) rfl rfl rfl rfl ?_
        refine OA.p (some 88) (.int .i64 (((2 - (1 + (andN y 1))) : Nat) : Int)) rfl rfl rfl (r_bin rfl rfl rfl (b_sub (i64_eq (by omega)))) ?_
        refine OA.p (some 89) (.int .i64 0) rfl rfl rfl (r_bin rfl rfl rfl (b_mul (i64_eq (by rw [show ((2 - (1 + (andN y 1))) : Nat) = 0 from by omega]; omega)))) ?_
        refine OA.p (some 90) (.bool false) rfl rfl rfl (r_bin rfl rfl rfl (b_neq rfl)) ?_
        refine OA.p (some 91) (.bool false) rfl rfl rfl rfl ?_
        refine OA.p (some 92) (.bool false) rfl rfl rfl rfl ?_
        refine OA.nil ?_
        intro _
        refine RA.condF rfl ?_
        refine RA.skip env_ok ?_
        intro _
        refine RA.seq hd ?_
        refine RA.region env_ok ?_
        refine OA.p (some 93) (.bool true) rfl rfl rfl rfl ?_
        refine OA.nil ?_
        intro _
        refine RA.condT rfl ?_
        refine RA.seq hd ?_
        refine RA.region env_ok ?_
        refine OA.p (some 7) (.int .i64 0) rfl rfl rfl rfl ?_
        refine OA.p (some 8) (.int .i64 0) rfl rfl rfl rfl ?_
        refine OA.nil ?_
        intro _
        refine RA.region env_ok ?_
        refine OA.p (some 94) (W nx) rfl rfl rfl rfl ?_
        refine OA.p (some 95) (W (nx + (1#32))) rfl rfl rfl (r_bin rfl rfl rfl (b_addW nx (1#32))) ?_
        refine OA.p (some 6) (W (nx + (1#32))) rfl rfl rfl rfl ?_
        refine OA.nil ?_
        intro _
        refine RA.rebase [(1, lv), (5, (Pt b 0 0)), (6, (W (nx + (1#32)))), (7, (.int .i64 0)), (8, (.int .i64 0)), (9, (.int .i64 ((i : Nat) : Int))), (10, (.int .i64 y)), (15, (W nx)), (16, (.int .i64 (((1 + (andN y 1)) : Nat) : Int))), (17, (.int .i64 0)), (18, (.bool true)), (33, (.bool true)), (45, (.int .i64 (((andN z 3) : Nat) : Int))), (52, (.bool false)), (92, (.bool false)), (93, (.bool true)), (96, (.bool false)), (118, (.bool false))] ⟨rfl, rfl, rfl, rfl, rfl, rfl, rfl, rfl, rfl, rfl, rfl, rfl, rfl, rfl, rfl, rfl, rfl, rfl, trivial⟩ (fun τr106 => ?_)
        refine RA.seq hd ?_
        refine RA.region env_ok ?_
        refine OA.p (some 154) (Pt b 0 0) rfl rfl rfl rfl ?_
        refine OA.callP (dst := (some 155)) (all := [(Pt b 0 0)]) (v := (.tuple ⟨[(.int .i64 0), (.bool false)]⟩)) (hd.of (by omega) (kb3 (by omega))) rfl rfl rfl rfl rfl rfl rfl rfl (aAt0 b 0 mn (nx + 1#32) at_ 0 (by omega) (by omega) (by omega) get_here) ?_
        intro n107 hn107
        refine OA.p (some 153) (.tuple ⟨[(.int .i64 0), (.bool false)]⟩) rfl rfl rfl rfl ?_
        refine OA.p (some 156) (.int .i64 0) rfl rfl rfl rfl ?_
        refine OA.p (some 157) (.bool false) rfl rfl rfl rfl ?_
        refine OA.p (some 19) (.int .i64 0) rfl rfl rfl rfl ?_
        refine OA.p (some 20) (.bool false) rfl rfl rfl rfl ?_
        refine OA.nil ?_
        intro _
        refine RA.seq hd ?_
        refine RA.region env_ok ?_
        refine OA.p (some 158) (Pt b 0 0) rfl rfl rfl rfl ?_
        refine OA.callP (dst := (some 159)) (all := [(Pt b 0 0)]) (v := (.int .i64 0)) (hd.of (by omega) (kb3 (by omega))) rfl rfl rfl rfl rfl rfl rfl rfl (PS.to (aWant b 0 mn (nx + 1#32) at_ get_here) (show Value.int .i64 _ = (.int .i64 0) from congrArg (Value.int .i64) (by omega))) ?_
        intro n108 hn108
        refine OA.p (some 160) (.int .i64 0) rfl rfl rfl rfl ?_
        refine OA.p (some 161) (.bool false) rfl rfl rfl (r_bin rfl rfl rfl (b_neq rfl)) ?_
        refine OA.p (some 162) (.bool false) rfl rfl rfl rfl ?_
        refine OA.p (some 163) (Pt b 0 0) rfl rfl rfl rfl ?_
        refine OA.callP (dst := (some 164)) (all := [(Pt b 0 0)]) (v := (.int .i64 0)) (hd.of (by omega) (kb3 (by omega))) rfl rfl rfl rfl rfl rfl rfl rfl (aTimes b 0 mn (nx + 1#32) at_ 0 (by omega) (by omega) get_here) ?_
        intro n109 hn109
        refine OA.p (some 165) (.int .i64 0) rfl rfl rfl rfl ?_
        refine OA.p (some 166) (.bool false) rfl rfl rfl (r_bin rfl rfl rfl (b_neq rfl)) ?_
        refine OA.p (some 167) (.bool false) rfl rfl rfl rfl ?_
        refine OA.p (some 168) (.bool false) rfl rfl rfl rfl ?_
        refine OA.p (some 169) (.bool false) rfl rfl rfl rfl ?_
        refine OA.p (some 170) (.int .i64 0) rfl rfl rfl rfl ?_
        refine OA.p (some 171) (.bool false) rfl rfl rfl (r_bin rfl rfl rfl (b_gtr rfl)) ?_
        refine OA.p (some 172) (.bool false) rfl rfl rfl rfl ?_
        refine OA.p (some 173) (.bool false) rfl rfl rfl rfl ?_
        refine OA.nil ?_
        intro _
        refine RA.condF rfl ?_
        refine RA.skip env_ok ?_
        intro _
        refine RA.region env_ok ?_
        refine OA.p (some 34) (.int .i64 ((i : Nat) : Int)) rfl rfl rfl rfl ?_
        refine OA.p (some 35) (.int .i64 (((i + 1) : Nat) : Int)) rfl rfl rfl (r_bin rfl rfl rfl (b_add (i64_eq (by omega)))) ?_
        refine OA.p (some 9) (.int .i64 (((i + 1) : Nat) : Int)) rfl rfl rfl rfl ?_
        refine OA.nil ?_
        refine ⟨(ls.length - (i + 1)), by omega, [(b, some ⟨[[(.int .i64 0), (W (nx + 1#32)), (.int .i64 at_), (.int .i64 ((mn : Nat) : Int)), (W 0#32), (.int .i64 0)]], 6, 94, true⟩)], (Less.of (fac (mm (fun _ => get_here) (fun _ => get_here)) fan) (gone_of (by simp only [goneP, memP, List.cons_append, List.nil_append, true_or, or_true, true_and, and_true, or_false] <;> omega))), ⟨(i + 1), (nx + 1#32), 0, 0, mn, at_, rfl, by omega, ⟨rfl, rfl, rfl, rfl, rfl, rfl, trivial⟩, rfl, (kb1 (by omega)), ⟨by omega, by omega, by omega, by omega, by omega, by omega⟩⟩⟩
      ·
       by_cases hc22 : (andN y 1) = 0
       ·
        refine OA.call (dst := (some 70)) (all := (xRa22 b nx n97)) rfl rfl rfl rfl rfl rfl rfl rfl (CQ.imp (aAnsN (hd.of (by omega) (kb2 (by omega))) b want mn nx at_ n97 (by omega) nx (1 + (andN y 1)) (by omega) times hw0 hw1 (.inl (by omega)) (get_there (by omega) get_here) (by rw [← res_eq]; exact get_here)) ?_)
        rintro _ n110 _ ⟨rfl, rfl⟩ hn110
        refine OA.app0 ?_
        refine OA.p (some 58) (.tuple ⟨[(.int .i64 0), (.bool false)]⟩) rfl rfl rfl rfl ?_
        refine OA.p (some 71) (.int .i64 0) rfl rfl rfl rfl ?_
        refine OA.p (some 72) (.bool false) rfl rfl rfl rfl ?_
        refine OA.p (some 17) (.int .i64 0) rfl rfl rfl rfl ?_
        refine OA.p (some 18) (.bool false) rfl rfl rfl rfl ?_
        refine OA.nil ?_
        intro _
        refine RA.rebase [(1, lv), (5, (Pt b 0 0)), (6, (W nx)), (7, (.int .i64 ((want : Nat) : Int))), (8, (.int .i64 ((times : Nat) : Int))), (9, (.int .i64 ((i : Nat) : Int))), (10, (.int .i64 y)), (15, (W nx)), (16, (.int .i64 (((1 + (andN y 1)) : Nat) : Int))), (17, (.int .i64 0)), (18, (.bool false)), (33, (.bool true)), (45, (.int .i64 (((andN z 3) : Nat) : Int))), (52, (.bool false)), (96, (.bool false)), (118, (.bool false))] ⟨rfl, rfl, rfl, rfl, rfl, rfl, rfl, rfl, rfl, rfl, rfl, rfl, rfl, rfl, rfl, rfl, trivial⟩ (fun τr111 => ?_)
        refine RA.seq hd ?_
        refine RA.seq hd ?_
        refine RA.region env_ok ?_
        refine OA.p (some 73) (.bool false) rfl rfl rfl rfl ?_
        refine OA.p (some 74) (.int .i64 ((times : Nat) : Int)) rfl rfl rfl rfl ?_
        refine OA.p (some 75) (.bool false) rfl rfl rfl (Eq.trans (r_bin rfl rfl rfl (b_gtr rfl)) (dF hc20)) ?_
        refine OA.p (some 76) (.bool false) rfl rfl rfl rfl ?_
        refine OA.off (dst := (some 77)) rfl rfl rfl ?_
        refine OA.off (dst := (some 78)) rfl rfl rfl ?_
        refine OA.off (dst := (some 79)) rfl rfl rfl ?_
        refine OA.p (some 80) (.bool false) rfl rfl rfl rfl ?_
        refine OA.p (some 81) (.bool false) rfl rfl rfl rfl ?_
        refine OA.p (some 82) (.bool false) rfl rfl rfl rfl ?_
        refine OA.p (some 83) (.bool false) rfl rfl rfl rfl ?_
        refine OA.p (some 84) (.bool false) rfl rfl rfl rfl ?_
        refine OA.off (dst := (some 85)) rfl rfl rfl ?_
        refine OA.off (dst := (some 86)) rfl rfl rfl ?_
        refine OA.off (dst := (some 87)) rfl rfl rfl ?_
        refine OA.off (dst := (some 88)) rfl rfl rfl ?_
        refine OA.off (dst := (some 89)) rfl rfl rfl ?_
        refine OA.off (dst := (some 90)) rfl rfl rfl ?_
        refine OA.p (some 91) (.bool false) rfl rfl rfl rfl ?_
        refine OA.p (some 92) (.bool false) rfl rfl rfl rfl ?_
        refine OA.nil ?_
        intro _
        refine RA.condF rfl ?_
        refine RA.skip env_ok ?_
        intro _
        refine RA.seq hd ?_
        refine RA.region env_ok ?_
        refine OA.p (some 93) (.bool false) rfl rfl rfl rfl ?_
        refine OA.nil ?_
        intro _
        refine RA.condF rfl ?_
        refine RA.skip env_ok ?_
        intro _
        refine RA.seq hd ?_
        refine RA.region env_ok ?_
        refine OA.p (some 154) (Pt b 0 0) rfl rfl rfl rfl ?_
        refine OA.callP (dst := (some 155)) (all := [(Pt b 0 0)]) (v := (.tuple ⟨[(.int .i64 0), (.bool false)]⟩)) (hd.of (by omega) (kb2 (by omega))) rfl rfl rfl rfl rfl rfl rfl rfl (aAt0 b want mn nx at_ times (by omega) (by omega) (by omega) (get_there (by omega) get_here)) ?_
        intro n112 hn112
        refine OA.p (some 153) (.tuple ⟨[(.int .i64 0), (.bool false)]⟩) rfl rfl rfl rfl ?_
        refine OA.p (some 156) (.int .i64 0) rfl rfl rfl rfl ?_
        refine OA.p (some 157) (.bool false) rfl rfl rfl rfl ?_
        refine OA.p (some 19) (.int .i64 0) rfl rfl rfl rfl ?_
        refine OA.p (some 20) (.bool false) rfl rfl rfl rfl ?_
        refine OA.nil ?_
        intro _
        refine RA.rebase [(1, lv), (5, (Pt b 0 0)), (6, (W nx)), (7, (.int .i64 ((want : Nat) : Int))), (8, (.int .i64 ((times : Nat) : Int))), (9, (.int .i64 ((i : Nat) : Int))), (10, (.int .i64 y)), (15, (W nx)), (16, (.int .i64 (((1 + (andN y 1)) : Nat) : Int))), (17, (.int .i64 0)), (18, (.bool false)), (20, (.bool false)), (33, (.bool true)), (45, (.int .i64 (((andN z 3) : Nat) : Int))), (52, (.bool false)), (92, (.bool false)), (93, (.bool false)), (96, (.bool false)), (118, (.bool false))] ⟨rfl, rfl, rfl, rfl, rfl, rfl, rfl, rfl, rfl, rfl, rfl, rfl, rfl, rfl, rfl, rfl, rfl, rfl, rfl, trivial⟩ (fun τr113 => ?_)
        refine RA.seq hd ?_
        refine RA.region env_ok ?_
        refine OA.p (some 158) (Pt b 0 0) rfl rfl rfl rfl ?_
        refine OA.callP (dst := (some 159)) (all := [(Pt b 0 0)]) (v := (.int .i64 ((want : Nat) : Int))) (hd.of (by omega) (kb2 (by omega))) rfl rfl rfl rfl rfl rfl rfl rfl (PS.to (aWant b want mn nx at_ (get_there (by omega) get_here)) (show Value.int .i64 _ = (.int .i64 ((want : Nat) : Int)) from congrArg (Value.int .i64) (by omega))) ?_
        intro n114 hn114
        refine OA.p (some 160) (.int .i64 ((want : Nat) : Int)) rfl rfl rfl rfl ?_
        refine OA.p (some 161) (.bool false) rfl rfl rfl (r_bin rfl rfl rfl (b_neq (decide_eq_false (fun h => h rfl)))) ?_
        refine OA.p (some 162) (.bool false) rfl rfl rfl rfl ?_
        refine OA.p (some 163) (Pt b 0 0) rfl rfl rfl rfl ?_
        refine OA.callP (dst := (some 164)) (all := [(Pt b 0 0)]) (v := (.int .i64 ((times : Nat) : Int))) (hd.of (by omega) (kb2 (by omega))) rfl rfl rfl rfl rfl rfl rfl rfl (aTimes b want mn nx at_ times (by omega) (by omega) (get_there (by omega) get_here)) ?_
        intro n115 hn115
        refine OA.p (some 165) (.int .i64 ((times : Nat) : Int)) rfl rfl rfl rfl ?_
        refine OA.p (some 166) (.bool false) rfl rfl rfl (r_bin rfl rfl rfl (b_neq (decide_eq_false (fun h => h rfl)))) ?_
        refine OA.p (some 167) (.bool false) rfl rfl rfl rfl ?_
        refine OA.p (some 168) (.bool false) rfl rfl rfl rfl ?_
        refine OA.p (some 169) (.bool false) rfl rfl rfl rfl ?_
        refine OA.p (some 170) (.int .i64 ((times : Nat) : Int)) rfl rfl rfl rfl ?_
        refine OA.p (some 171) (.bool false) rfl rfl rfl (Eq.trans (r_bin rfl rfl rfl (b_gtr rfl)) (dF hc20)) ?_
        refine OA.p (some 172) (.bool false) rfl rfl rfl rfl ?_
        refine OA.p (some 173) (.bool false) rfl rfl rfl rfl ?_
        refine OA.nil ?_
        intro _
        refine RA.condF rfl ?_
        refine RA.skip env_ok ?_
        intro _
        refine RA.region env_ok ?_
        refine OA.p (some 34) (.int .i64 ((i : Nat) : Int)) rfl rfl rfl rfl ?_
        refine OA.p (some 35) (.int .i64 (((i + 1) : Nat) : Int)) rfl rfl rfl (r_bin rfl rfl rfl (b_add (i64_eq (by omega)))) ?_
        refine OA.p (some 9) (.int .i64 (((i + 1) : Nat) : Int)) rfl rfl rfl rfl ?_
        refine OA.nil ?_
        refine ⟨(ls.length - (i + 1)), by omega, [(b, some ⟨[(xRa28 want nx at_ mn)], 6, 94, true⟩)], (Less.of (fac (mm (fun _ => get_here) (fun _ => (get_there (by omega) get_here))) fan) (gone_of (by simp only [goneP, memP, List.cons_append, List.nil_append, true_or, or_true, true_and, and_true, or_false] <;> omega))), ⟨(i + 1), nx, want, times, mn, at_, rfl, by omega, ⟨rfl, rfl, rfl, rfl, rfl, rfl, trivial⟩, rfl, (kb1 (by omega)), ⟨by omega, by omega, by omega, by omega, by omega, by omega⟩⟩⟩
       ·
        refine OA.call (dst := (some 70)) (all := (xRa22 b nx n97)) rfl rfl rfl rfl rfl rfl rfl rfl (CQ.imp (aAnsN (hd.of (by omega) (kb2 (by omega))) b want mn nx at_ n97 (by omega) nx (1 + (andN y 1)) (by omega) times hw0 hw1 (.inl (by omega)) (get_there (by omega) get_here) (by rw [← res_eq]; exact get_here)) ?_)
        rintro _ n116 _ ⟨rfl, rfl⟩ hn116
        refine OA.app0 ?_
        refine OA.p (some 58) (.tuple ⟨[(.int .i64 0), (.bool false)]⟩) rfl rfl rfl rfl ?_
        refine OA.p (some 71) (.int .i64 0) rfl rfl rfl rfl ?_
        refine OA.p (some 72) (.bool false) rfl rfl rfl rfl ?_
        refine OA.p (some 17) (.int .i64 0) rfl rfl rfl rfl ?_
        refine OA.p (some 18) (.bool false) rfl rfl rfl rfl ?_
        refine OA.nil ?_
        intro _
        refine RA.rebase [(1, lv), (5, (Pt b 0 0)), (6, (W nx)), (7, (.int .i64 ((want : Nat) : Int))), (8, (.int .i64 ((times : Nat) : Int))), (9, (.int .i64 ((i : Nat) : Int))), (10, (.int .i64 y)), (15, (W nx)), (16, (.int .i64 (((1 + (andN y 1)) : Nat) : Int))), (17, (.int .i64 0)), (18, (.bool false)), (33, (.bool true)), (45, (.int .i64 (((andN z 3) : Nat) : Int))), (52, (.bool false)), (96, (.bool false)), (118, (.bool false))] ⟨rfl, rfl, rfl, rfl, rfl, rfl, rfl, rfl, rfl, rfl, rfl, rfl, rfl, rfl, rfl, rfl, trivial⟩ (fun τr117 => ?_)
        refine RA.seq hd ?_
        refine RA.seq hd ?_
        refine RA.region env_ok ?_
        refine OA.p (some 73) (.bool false) rfl rfl rfl rfl ?_
        refine OA.p (some 74) (.int .i64 ((times : Nat) : Int)) rfl rfl rfl rfl ?_
        refine OA.p (some 75) (.bool false) rfl rfl rfl (Eq.trans (r_bin rfl rfl rfl (b_gtr rfl)) (dF hc20)) ?_
        refine OA.p (some 76) (.bool false) rfl rfl rfl rfl ?_
        refine OA.off (dst := (some 77)) rfl rfl rfl ?_
        refine OA.off (dst := (some 78)) rfl rfl rfl ?_
        refine OA.off (dst := (some 79)) rfl rfl rfl ?_
        refine OA.p (some 80) (.bool false) rfl rfl rfl rfl ?_
        refine OA.p (some 81) (.bool false) rfl rfl rfl rfl ?_
        refine OA.p (some 82) (.bool false) rfl rfl rfl rfl ?_
        refine OA.p (some 83) (.bool false) rfl rfl rfl rfl ?_
        refine OA.p (some 84) (.bool false) rfl rfl rfl rfl ?_
        refine OA.off (dst := (some 85)) rfl rfl rfl ?_
        refine OA.off (dst := (some 86)) rfl rfl rfl ?_
        refine OA.off (dst := (some 87)) rfl rfl rfl ?_
        refine OA.off (dst := (some 88)) rfl rfl rfl ?_
        refine OA.off (dst := (some 89)) rfl rfl rfl ?_
        refine OA.off (dst := (some 90)) rfl rfl rfl ?_
        refine OA.p (some 91) (.bool false) rfl rfl rfl rfl ?_
        refine OA.p (some 92) (.bool false) rfl rfl rfl rfl ?_
        refine OA.nil ?_
        intro _
        refine RA.condF rfl ?_
        refine RA.skip env_ok ?_
        intro _
        refine RA.seq hd ?_
        refine RA.region env_ok ?_
        refine OA.p (some 93) (.bool false) rfl rfl rfl rfl ?_
        refine OA.nil ?_
        intro _
        refine RA.condF rfl ?_
        refine RA.skip env_ok ?_
        intro _
        refine RA.seq hd ?_
        refine RA.region env_ok ?_
        refine OA.p (some 154) (Pt b 0 0) rfl rfl rfl rfl ?_
        refine OA.callP (dst := (some 155)) (all := [(Pt b 0 0)]) (v := (.tuple ⟨[(.int .i64 0), (.bool false)]⟩)) (hd.of (by omega) (kb2 (by omega))) rfl rfl rfl rfl rfl rfl rfl rfl (aAt0 b want mn nx at_ times (by omega) (by omega) (by omega) (get_there (by omega) get_here)) ?_
        intro n118 hn118
        refine OA.p (some 153) (.tuple ⟨[(.int .i64 0), (.bool false)]⟩) rfl rfl rfl rfl ?_
        refine OA.p (some 156) (.int .i64 0) rfl rfl rfl rfl ?_
        refine OA.p (some 157) (.bool false) rfl rfl rfl rfl ?_
        refine OA.p (some 19) (.int .i64 0) rfl rfl rfl rfl ?_
        refine OA.p (some 20) (.bool false) rfl rfl rfl rfl ?_
        refine OA.nil ?_
        intro _
        refine RA.rebase [(1, lv), (5, (Pt b 0 0)), (6, (W nx)), (7, (.int .i64 ((want : Nat) : Int))), (8, (.int .i64 ((times : Nat) : Int))), (9, (.int .i64 ((i : Nat) : Int))), (10, (.int .i64 y)), (15, (W nx)), (16, (.int .i64 (((1 + (andN y 1)) : Nat) : Int))), (17, (.int .i64 0)), (18, (.bool false)), (20, (.bool false)), (33, (.bool true)), (45, (.int .i64 (((andN z 3) : Nat) : Int))), (52, (.bool false)), (92, (.bool false)), (93, (.bool false)), (96, (.bool false)), (118, (.bool false))] ⟨rfl, rfl, rfl, rfl, rfl, rfl, rfl, rfl, rfl, rfl, rfl, rfl, rfl, rfl, rfl, rfl, rfl, rfl, rfl, trivial⟩ (fun τr119 => ?_)
        refine RA.seq hd ?_
        refine RA.region env_ok ?_
        refine OA.p (some 158) (Pt b 0 0) rfl rfl rfl rfl ?_
        refine OA.callP (dst := (some 159)) (all := [(Pt b 0 0)]) (v := (.int .i64 ((want : Nat) : Int))) (hd.of (by omega) (kb2 (by omega))) rfl rfl rfl rfl rfl rfl rfl rfl (PS.to (aWant b want mn nx at_ (get_there (by omega) get_here)) (show Value.int .i64 _ = (.int .i64 ((want : Nat) : Int)) from congrArg (Value.int .i64) (by omega))) ?_
        intro n120 hn120
        refine OA.p (some 160) (.int .i64 ((want : Nat) : Int)) rfl rfl rfl rfl ?_
        refine OA.p (some 161) (.bool false) rfl rfl rfl (r_bin rfl rfl rfl (b_neq (decide_eq_false (fun h => h rfl)))) ?_
        refine OA.p (some 162) (.bool false) rfl rfl rfl rfl ?_
        refine OA.p (some 163) (Pt b 0 0) rfl rfl rfl rfl ?_
        refine OA.callP (dst := (some 164)) (all := [(Pt b 0 0)]) (v := (.int .i64 ((times : Nat) : Int))) (hd.of (by omega) (kb2 (by omega))) rfl rfl rfl rfl rfl rfl rfl rfl (aTimes b want mn nx at_ times (by omega) (by omega) (get_there (by omega) get_here)) ?_
        intro n121 hn121
        refine OA.p (some 165) (.int .i64 ((times : Nat) : Int)) rfl rfl rfl rfl ?_
        refine OA.p (some 166) (.bool false) rfl rfl rfl (r_bin rfl rfl rfl (b_neq (decide_eq_false (fun h => h rfl)))) ?_
        refine OA.p (some 167) (.bool false) rfl rfl rfl rfl ?_
        refine OA.p (some 168) (.bool false) rfl rfl rfl rfl ?_
        refine OA.p (some 169) (.bool false) rfl rfl rfl rfl ?_
        refine OA.p (some 170) (.int .i64 ((times : Nat) : Int)) rfl rfl rfl rfl ?_
        refine OA.p (some 171) (.bool false) rfl rfl rfl (Eq.trans (r_bin rfl rfl rfl (b_gtr rfl)) (dF hc20)) ?_
        refine OA.p (some 172) (.bool false) rfl rfl rfl rfl ?_
        refine OA.p (some 173) (.bool false) rfl rfl rfl rfl ?_
        refine OA.nil ?_
        intro _
        refine RA.condF rfl ?_
        refine RA.skip env_ok ?_
        intro _
        refine RA.region env_ok ?_
        refine OA.p (some 34) (.int .i64 ((i : Nat) : Int)) rfl rfl rfl rfl ?_
        refine OA.p (some 35) (.int .i64 (((i + 1) : Nat) : Int)) rfl rfl rfl (r_bin rfl rfl rfl (b_add (i64_eq (by omega)))) ?_
        refine OA.p (some 9) (.int .i64 (((i + 1) : Nat) : Int)) rfl rfl rfl rfl ?_
        refine OA.nil ?_
        refine ⟨(ls.length - (i + 1)), by omega, [(b, some ⟨[(xRa28 want nx at_ mn)], 6, 94, true⟩)], (Less.of (fac (mm (fun _ => get_here) (fun _ => (get_there (by omega) get_here))) fan) (gone_of (by simp only [goneP, memP, List.cons_append, List.nil_append, true_or, or_true, true_and, and_true, or_false] <;> omega))), ⟨(i + 1), nx, want, times, mn, at_, rfl, by omega, ⟨rfl, rfl, rfl, rfl, rfl, rfl, trivial⟩, rfl, (kb1 (by omega)), ⟨by omega, by omega, by omega, by omega, by omega, by omega⟩⟩⟩
  ·
   refine OA.p (some 32) (.bool false) rfl rfl rfl (Eq.trans (r_bin rfl rfl rfl (b_lss rfl)) (dF hc2)) ?_
   refine OA.p (some 33) (.bool false) rfl rfl rfl rfl ?_
   refine OA.nil ?_
   intro _
   refine RA.condF rfl ?_
   refine RA.exit env_ok ?_
   intro _
   refine RA.seq hd ?_
   refine RA.region env_ok ?_
   refine OA.p (some 4) (.bool true) rfl rfl rfl rfl ?_
   refine OA.nil ?_
   intro _
   refine RA.ret env_ok ?_
   refine ⟨.inr rfl, [(.bool true)], (resL_cons rfl resL_nil), rfl, (kc1 (by omega))⟩
 ·
  refine OA.p (some 29) (.bool false) rfl rfl rfl (Eq.trans (r_bin rfl rfl rfl (b_lss rfl)) (dF hc1)) ?_
  refine OA.p (some 30) (.bool false) rfl rfl rfl rfl ?_
  refine OA.off (dst := (some 31)) rfl rfl rfl ?_
  refine OA.off (dst := (some 32)) rfl rfl rfl ?_
  refine OA.p (some 33) (.bool false) rfl rfl rfl rfl ?_
  refine OA.nil ?_
  intro _
  refine RA.condF rfl ?_
  refine RA.exit env_ok ?_
  intro _
  refine RA.seq hd ?_
  refine RA.region env_ok ?_
  refine OA.p (some 4) (.bool true) rfl rfl rfl rfl ?_
  refine OA.nil ?_
  intro _
  refine RA.ret env_ok ?_
  refine ⟨.inr rfl, [(.bool true)], (resL_cons rfl resL_nil), rfl, (kc1 (by omega))⟩
end Go.Proofs.Ytgajcmanompmcaa.Vt
