/- Gp6: walks through functions of the program, by the calculus; written by a program of this workplace. -/
import Derived.Test.YtmepflkodjdgdaaGp5
import Derived.Test.YtmepflkodjdgdaaVm6
namespace Go.Proofs.Ytmepflkodjdgdaa.Vt
open Go Go.Proofs Go.Proofs.YtmepflkodjdgdaaV
set_option maxRecDepth 100000
set_option linter.unusedVariables false
set_option linter.unusedSimpArgs false
theorem cong2 {α β γ : Type} (f : α → β → γ) {a a2 : α} {b b2 : β} (h1 : a = a2) (h2 : b = b2) : f a b = f a2 b2 := by subst h1; subst h2; rfl
def fsA (cum : BitVec 32) (fs : List Inn) (tsn : BitVec 32) : List Inn := if lookR cum fs tsn = 1 then fs ++ [Inn.mk (((tsn - cum).toNat : Nat) : Int)] else fs
def dupA (cum : BitVec 32) (fs : List Inn) (ds : List Wx) (tsn : BitVec 32) : List Wx := if lookR cum fs tsn = 2 then (if ds.length < 16 then ds ++ [Wx.mk tsn] else ds) else ds
def kok (cum : BitVec 32) (fs : List Inn) (tsn : BitVec 32) (k : Nat) : Prop := if lookR cum fs tsn = 1 then (∀ j, j < k → inF 1 (iterF j (fsA cum fs tsn)) = true) ∧ (1000 < k ∨ ¬ inF 1 (iterF k (fsA cum fs tsn)) = true) else k = 0
theorem it_all {fs : List Inn} {k : Nat} (h : ∀ j, j < k → inF 1 (iterF j fs) = true) (h1 : inF 1 (iterF k fs) = true) : ∀ j, j < k + 1 → inF 1 (iterF j fs) = true := by
  intro j hj
  rcases Nat.lt_or_ge j k with g | g
  · exact h j g
  · rw [show j = k by omega]; exact h1
theorem nil_of {α : Type} {l : List α} {m : Nat} (h : l.length = m) (h0 : m = 0) : l = [] := List.length_eq_zero_iff.1 (by omega)
theorem fsA_len {cum : BitVec 32} {fs : List Inn} {tsn : BitVec 32} : (fsA cum fs tsn).length ≤ fs.length + 1 := by
  unfold fsA; split
  · rw [List.length_append]; exact Nat.le_refl _
  · omega
theorem look_diff {cum : BitVec 32} {fs : List Inn} {tsn : BitVec 32} (h : lookR cum fs tsn = 1) : (1 : Int) ≤ ((tsn - cum).toNat : Int) ∧ ((tsn - cum).toNat : Int) ≤ 1000 := by
  unfold lookR at h
  split at h
  · omega
  · split at h
    · omega
    · split at h
      · omega
      · exact ⟨by omega, by omega⟩
theorem far_bnd {cum : BitVec 32} {fs : List Inn} {tsn : BitVec 32} (hb : ∀ e ∈ fs, 1 ≤ e.z ∧ e.z ≤ 1000) (h : lookR cum fs tsn = 1) : ∀ e ∈ fs ++ [(Inn.mk (((tsn - cum).toNat : Nat) : Int))], 1 ≤ e.z ∧ e.z ≤ 1000 := by
  intro e he
  rcases List.mem_append.1 he with he | he
  · exact hb e he
  · rw [List.mem_singleton] at he; subst he; exact look_diff h
abbrev xGp61 (cum : BitVec 32) (k : Nat) (jq : Nat) (F' : Nat) (n : Nat) (M : Nat) : List Value := [(W ((cum + (BitVec.ofNat 32 k)) + (1#32))), (.slice (some ⟨jq, 0, none⟩) F' 2), (.slice (some ⟨(n + 3), 0, none⟩) M 2)]
abbrev xGp62 (cum : BitVec 32) (k : Nat) (jo : Nat) (M2 : Nat) (n : Nat) (M : Nat) : List Value := [(W ((cum + (BitVec.ofNat 32 k)) + (1#32))), (.slice (some ⟨jo, 0, none⟩) M2 2), (.slice (some ⟨(n + 3), 0, none⟩) M 2)]
abbrev xGp63 (cum : BitVec 32) (k : Nat) (jq : Nat) (F' : Nat) (n : Nat) (M : Nat) : List Value := [(W (cum + (BitVec.ofNat 32 k))), (.slice (some ⟨jq, 0, none⟩) F' 2), (.slice (some ⟨(n + 3), 0, none⟩) M 2)]
abbrev xGp64 (k : Nat) (fs : List Inn) (tsn : BitVec 32) (cum : BitVec 32) (i : Nat) : List Value := [(.int .i64 (((iterF k (fs ++ [(Inn.mk (((tsn - cum).toNat : Nat) : Int))])).getD i dInn).z - 1))]
abbrev xGp65 (cum : BitVec 32) (n : Nat) (F : Nat) (n1 : Nat) (M : Nat) : List Value := [(W cum), (.slice (some ⟨(n + 2), 0, none⟩) F 2), (.slice (some ⟨(n1 + 3), 0, none⟩) (M + 1) 0)]
abbrev xGp66 (cum : BitVec 32) (n : Nat) (F : Nat) (n1 : Nat) (M : Nat) : List Value := [(W cum), (.slice (some ⟨(n + 2), 0, none⟩) F 2), (.slice (some ⟨(n1 + 3), 0, none⟩) (M + 1) 2)]
abbrev xGp67 (cum : BitVec 32) (n1 : Nat) (F : Nat) (n : Nat) (M : Nat) : List Value := [(W cum), (.slice (some ⟨(n1 + 3), 0, none⟩) (F + 1) 0), (.slice (some ⟨(n + 3), 0, none⟩) M 2)]
abbrev xGp68 (cum : BitVec 32) (n1 : Nat) (F : Nat) (n : Nat) (M : Nat) : List Value := [(W cum), (.slice (some ⟨(n1 + 3), 0, none⟩) (F + 1) 2), (.slice (some ⟨(n + 3), 0, none⟩) M 2)]
abbrev xGp69 (k : Nat) (fs : List Inn) (tsn : BitVec 32) (cum : BitVec 32) (i : Nat) : Inn := (Inn.mk (((iterF k (fs ++ [(Inn.mk (((tsn - cum).toNat : Nat) : Int))])).getD i dInn).z - 1))
abbrev xGp610 (cum : BitVec 32) (n : Nat) (F : Nat) (n1 : Nat) : List Value := [(W cum), (.slice (some ⟨(n + 2), 0, none⟩) F 2), (.slice (some ⟨(n1 + 2), 0, none⟩) 1 0)]
abbrev xGp611 (cum : BitVec 32) (n : Nat) (F : Nat) (n1 : Nat) : List Value := [(W cum), (.slice (some ⟨(n + 2), 0, none⟩) F 2), (.slice (some ⟨(n1 + 2), 0, none⟩) 1 2)]
abbrev xGp612 (cum : BitVec 32) (n1 : Nat) (n : Nat) (M : Nat) : List Value := [(W cum), (.slice (some ⟨(n1 + 2), 0, none⟩) 1 0), (.slice (some ⟨(n + 3), 0, none⟩) M 2)]
abbrev xGp613 (cum : BitVec 32) (n1 : Nat) (n : Nat) (M : Nat) : List Value := [(W cum), (.slice (some ⟨(n1 + 2), 0, none⟩) 1 2), (.slice (some ⟨(n + 3), 0, none⟩) M 2)]
set_option maxHeartbeats 4000000 in
theorem rAdd {n : Nat} {σ : Store} (hd : Dom n σ) (jf jx F M : Nat) (cum : BitVec 32) (fs : List Inn) (ds : List Wx) (hfs : fs.length = F) (hds : ds.length = M) (hF : F ≤ 900) (hM : M ≤ 16) (hfb : ∀ e ∈ fs, 1 ≤ e.z ∧ e.z ≤ 1000) (hjj : jf ≠ jx) (tsn : BitVec 32) (hjf : σ jf = some (oInn fs)) (hjx : σ jx = some (oWx ds))  : CQ Try.prog noDen 43 [(.agg ⟨[(W cum), (.slice (some ⟨jf, 0, none⟩) F 2), (.slice (some ⟨jx, 0, none⟩) M 2)]⟩), (W tsn)] n σ (fun v n' d => ∃ k jq je, n ≤ jq ∧ jq < n' ∧ n ≤ je ∧ je < n' ∧ jq ≠ je ∧ ∃ F' M', (iterF k (fsA cum fs tsn)).length = F' ∧ (dupA cum fs ds tsn).length = M' ∧ F' ≤ F + 1 ∧ M' ≤ 16 ∧ kok cum fs tsn k ∧ v = (.tuple ⟨[(.agg ⟨[(W (cum + (BitVec.ofNat 32 k))), (.slice (some ⟨jq, 0, none⟩) F' 2), (.slice (some ⟨je, 0, none⟩) M' 2)]⟩), (.int .i64 (lookR cum fs tsn))]⟩) ∧ d = [(jq, some (oInn (iterF k (fsA cum fs tsn)))), (je, some (oWx (dupA cum fs ds tsn))), (jf, none), (jx, none)]) := by
 have lhjf := hd.lt hjf
 have lhjx := hd.lt hjx
 refine CQ.body (E := env) env_ok hd rfl rfl (by show _ ≤ _; exact of_decide_eq_true (by kernel_rfl)) ?_
 refine RA.seq hd ?_
 refine RA.region env_ok ?_
 refine OA.op1 (dst := (some 2)) (v := (Pt n 0 0)) (n1 := (n + 1)) (w := (n, some ⟨[[(W cum), (.slice (some ⟨jf, 0, none⟩) F 2), (.slice (some ⟨jx, 0, none⟩) M 2)]], 3, 86, true⟩)) rfl rfl rfl rfl (by omega) ?_
 refine OA.op1 (dst := (some 4)) (v := (.pointer (some ⟨(n + 1), 0, some 0⟩))) (n1 := (n + 2)) (w := ((n + 1), some ⟨[[(.int .u32 0), (.slice none 0 0), (.slice none 0 0)]], 3, 86, true⟩)) rfl rfl rfl rfl (by omega) ?_
 refine OA.p (some 5) (.int .i64 0) rfl rfl rfl rfl ?_
 refine OA.nil ?_
 intro _
 refine RA.reoff (idx := 1) (get_there (by omega) get_here) (gt2 (by omega) hjf) (by omega) rfl (cs' := [(W cum), (.slice (some ⟨(n + 2), 0, none⟩) F 2), (.slice (some ⟨jx, 0, none⟩) M 2)]) rfl (ob' := (oInn fs)) (ro0) ?_
 refine RA.reoff (idx := 2) get_here (gt5 (by omega) hjx) (by omega) rfl (cs' := [(W cum), (.slice (some ⟨(n + 2), 0, none⟩) F 2), (.slice (some ⟨(n + 3), 0, none⟩) M 2)]) rfl (ob' := (oWx ds)) (ro0) ?_
 refine RA.seq hd ?_
 refine RA.region env_ok ?_
 refine OA.p (some 10) (.agg ⟨[(W cum), (.slice (some ⟨(n + 2), 0, none⟩) F 2), (.slice (some ⟨(n + 3), 0, none⟩) M 2)]⟩) rfl rfl rfl (r_loadA rfl rfl rfl rfl get_here rfl rfl rfl) ?_
 refine OA.p (some 11) (W tsn) rfl rfl rfl rfl ?_
 refine OA.callP (dst := (some 12)) (all := [(.agg ⟨[(W cum), (.slice (some ⟨(n + 2), 0, none⟩) F 2), (.slice (some ⟨(n + 3), 0, none⟩) M 2)]⟩), (W tsn)]) (v := (.int .i64 (lookR cum fs tsn))) (hd.of (by omega) (kb8 (by omega))) rfl rfl rfl rfl rfl rfl rfl rfl (rLook (n + 2) (n + 3) F M cum fs (by rw [hfs]) (by omega) tsn (gt4 (by omega) get_here)) ?_
 intro n1 hn1
 refine OA.p (some 6) (.int .i64 (lookR cum fs tsn)) rfl rfl rfl rfl ?_
 refine OA.nil ?_
 intro _
 refine RA.seq hd ?_
 refine RA.seq hd ?_
 refine RA.region env_ok ?_
 refine OA.p (some 13) (.int .i64 (lookR cum fs tsn)) rfl rfl rfl rfl ?_
 by_cases hc1 : (lookR cum fs tsn) = 2
 ·
  refine OA.p (some 14) (.bool true) rfl rfl rfl (Eq.trans (r_bin rfl rfl rfl (b_eql rfl)) (dT hc1)) ?_
  refine OA.p (some 15) (.bool true) rfl rfl rfl rfl ?_
  refine OA.p (some 16) (Pt n 0 2) rfl rfl rfl rfl ?_
  refine OA.p (some 17) (.slice (some ⟨(n + 3), 0, none⟩) M 2) rfl rfl rfl (r_load1 rfl rfl rfl rfl rfl get_here rfl rfl) ?_
  refine OA.p (some 18) (.int .i64 ((M : Nat) : Int)) rfl rfl rfl rfl ?_
  by_cases hc2 : ((M : Nat) : Int) < 16
  ·
   refine OA.p (some 19) (.bool true) rfl rfl rfl (Eq.trans (r_bin rfl rfl rfl (b_lss rfl)) (dT hc2)) ?_
   refine OA.p (some 20) (.bool true) rfl rfl rfl rfl ?_
   refine OA.nil ?_
   intro _
   refine RA.condT rfl ?_
   refine RA.region env_ok ?_
   refine OA.op1 (dst := (some 21)) (v := (.slice (some ⟨n1, 0, none⟩) 0 0)) (n1 := (n1 + 1)) (w := (n1, some (oWx ([] : List Wx)))) rfl rfl rfl (by kernel_rfl) (by omega) ?_
   refine OA.p (some 22) (Pt n 0 2) rfl rfl rfl rfl ?_
   refine OA.p (some 23) (.slice (some ⟨(n + 3), 0, none⟩) M 2) rfl rfl rfl (r_load1 rfl rfl rfl rfl rfl (get_there (by omega) get_here) rfl rfl) ?_
   by_cases hc3 : M = 0
   ·
    refine OA.p (some 24) (.slice (some ⟨n1, 0, none⟩) 0 0) rfl rfl rfl (r_appendZ rfl rfl rfl rfl (.inl ⟨_, _, _, rfl, by decide⟩) rfl rfl rfl rfl rfl (by decide) (by omega)) ?_
    refine OA.p (some 25) (W tsn) rfl rfl rfl rfl ?_
    refine OA.op1 (dst := (some 26)) (v := (.slice (some ⟨(n1 + 1), 0, none⟩) 1 0)) (n1 := (n1 + 2)) (w := ((n1 + 1), some ⟨[[(W tsn)]], 1, 27, true⟩)) rfl rfl rfl (by kernel_rfl) (by omega) ?_
    refine OA.op (dst := (some 27)) (v := (.slice (some ⟨(n1 + 2), 0, none⟩) 1 0)) (n1 := (n1 + 3)) (d1 := [((n1 + 2), some (oWx [(Wx.mk tsn)])), (n1, none)]) (D' := [((n1 + 2), some (oWx [(Wx.mk tsn)])), (n1, none), ((n1 + 1), some ⟨[[(W tsn)]], 1, 27, true⟩), (n1, some (oWx ([] : List Wx))), (n, some ⟨[[(W cum), (.slice (some ⟨(n + 2), 0, none⟩) F 2), (.slice (some ⟨(n + 3), 0, none⟩) M 2)]], 3, 86, true⟩), ((n + 3), some (oWx ds)), (jx, none), (n, some ⟨[[(W cum), (.slice (some ⟨(n + 2), 0, none⟩) F 2), (.slice (some ⟨jx, 0, none⟩) M 2)]], 3, 86, true⟩), ((n + 2), some (oInn fs)), (jf, none), ((n + 1), some ⟨[[(.int .u32 0), (.slice none 0 0), (.slice none 0 0)]], 3, 86, true⟩), (n, some ⟨[[(W cum), (.slice (some ⟨jf, 0, none⟩) F 2), (.slice (some ⟨jx, 0, none⟩) M 2)]], 3, 86, true⟩)]) rfl rfl rfl (r_appendR (c := cWx) (l' := [(Wx.mk tsn)]) rfl rfl rfl rfl rfl rfl rfl rfl rfl rfl (by decide) (get_there (by omega) get_here) get_here (by rw [show ([] : List Wx).length = 0 from rfl]) rfl (by omega) (of_decide_eq_true (by kernel_rfl)) (by omega)) (by omega) rfl ?_
    refine OA.p (some 28) (Pt n 0 2) rfl rfl rfl rfl ?_
    refine OA.op1 (dst := none) (v := (.tuple #[])) (n1 := (n1 + 3)) (w := (n, some ⟨[(xGp610 cum n F n1)], 3, 86, true⟩)) rfl rfl rfl (r_store rfl rfl rfl rfl rfl rfl rfl (gt4 (by omega) get_here) rfl rfl (Nat.le_of_ble_eq_true rfl) rfl) (by omega) ?_
    refine OA.nil ?_
    intro _
    refine RA.weaken (D' := [(n, some ⟨[(xGp610 cum n F n1)], 3, 86, true⟩), ((n1 + 2), some (oWx [(Wx.mk tsn)])), (n1, none), ((n1 + 1), some ⟨[[(W tsn)]], 1, 27, true⟩), ((n + 3), some (oWx ds)), (jx, none), ((n + 2), some (oInn fs)), (jf, none), ((n + 1), some ⟨[[(.int .u32 0), (.slice none 0 0), (.slice none 0 0)]], 3, 86, true⟩)]) hd (Less.of (fac (mm (fun _ => get_here) (fun _ => get_here)) (fac (mm (fun _ => (get_there (by omega) get_here)) (fun _ => (get_there (by omega) get_here))) (fac (mm (fun _ => (gt2 (by omega) get_here)) (fun _ => (gt2 (by omega) get_here))) (fac (mm (fun _ => (gt3 (by omega) get_here)) (fun _ => (gt3 (by omega) get_here))) (fac (mm (fun _ => (gt4 (by omega) get_here)) (fun _ => (gt6 (by omega) get_here))) (fac (mm (fun _ => (gt5 (by omega) get_here)) (fun _ => (gt7 (by omega) get_here))) (fac (mm (fun _ => (gt6 (by omega) get_here)) (fun _ => (gt9 (by omega) get_here))) (fac (mm (fun _ => (gt7 (by omega) get_here)) (fun _ => (gt10 (by omega) get_here))) (fac (mm (fun _ => (gt8 (by omega) get_here)) (fun _ => (gt11 (by omega) get_here))) fan))))))))) (gone_of (by simp only [goneP, memP, List.cons_append, List.nil_append, true_or, or_true, true_and, and_true, or_false] <;> omega))) ?_
    refine RA.seq hd ?_
    refine RA.seq hd ?_
    refine RA.le (ob := ⟨[(xGp610 cum n F n1)], 3, 86, true⟩) (ob' := ⟨[(xGp611 cum n F n1)], 3, 86, true⟩) get_here (OLe.one (cs := (xGp610 cum n F n1)) (cs' := (xGp611 cum n F n1)) ⟨VLe.refl _, VLe.refl _, (vle_row _ _ _), trivial⟩ rfl) ?_
    refine RA.region env_ok ?_
    refine OA.p (some 29) (.int .i64 (lookR cum fs tsn)) rfl rfl rfl rfl ?_
    have hc4 : (lookR cum fs tsn) ≠ 1 := Classical.byContradiction (fun hdd => by exfalso; omega)
    refine OA.p (some 30) (.bool true) rfl rfl rfl (Eq.trans (r_bin rfl rfl rfl (b_neq rfl)) (dT hc4)) ?_
    refine OA.nil ?_
    intro _
    refine RA.rebase [(0, (.agg ⟨[(W cum), (.slice (some ⟨jf, 0, none⟩) F 2), (.slice (some ⟨jx, 0, none⟩) M 2)]⟩)), (1, (W tsn)), (2, (Pt n 0 0)), (4, (.pointer (some ⟨(n + 1), 0, some 0⟩))), (5, (.int .i64 0)), (6, (.int .i64 (lookR cum fs tsn))), (20, (.bool true)), (30, (.bool true))] ⟨rfl, rfl, rfl, rfl, rfl, rfl, rfl, rfl, trivial⟩ (fun τr2 => ?_)
    refine RA.condT rfl ?_
    refine RA.seq hd ?_
    refine RA.region env_ok ?_
    refine OA.p (some 31) (.agg ⟨(xGp611 cum n F n1)⟩) rfl rfl rfl (r_loadA rfl rfl rfl rfl get_here rfl rfl rfl) ?_
    refine OA.p (some 32) (.int .i64 (lookR cum fs tsn)) rfl rfl rfl rfl ?_
    refine OA.op1 (dst := none) (v := (.tuple #[])) (n1 := (n1 + 3)) (w := ((n + 1), some ⟨[(xGp611 cum n F n1)], 3, 86, true⟩)) rfl rfl rfl (r_store rfl rfl rfl rfl rfl rfl rfl (gt9 (by omega) get_here) rfl rfl (Nat.le_of_ble_eq_true rfl) rfl) (by omega) ?_
    refine OA.p (some 5) (.int .i64 (lookR cum fs tsn)) rfl rfl rfl rfl ?_
    refine OA.nil ?_
    intro _
    refine RA.weaken (D' := [((n + 1), some ⟨[(xGp611 cum n F n1)], 3, 86, true⟩), (n, some ⟨[(xGp611 cum n F n1)], 3, 86, true⟩), ((n1 + 2), some (oWx [(Wx.mk tsn)])), (n1, none), ((n1 + 1), some ⟨[[(W tsn)]], 1, 27, true⟩), ((n + 3), some (oWx ds)), (jx, none), ((n + 2), some (oInn fs)), (jf, none)]) hd (Less.of (fac (mm (fun _ => get_here) (fun _ => get_here)) (fac (mm (fun _ => (get_there (by omega) get_here)) (fun _ => (get_there (by omega) get_here))) (fac (mm (fun _ => (gt2 (by omega) get_here)) (fun _ => (gt3 (by omega) get_here))) (fac (mm (fun _ => (gt3 (by omega) get_here)) (fun _ => (gt4 (by omega) get_here))) (fac (mm (fun _ => (gt4 (by omega) get_here)) (fun _ => (gt5 (by omega) get_here))) (fac (mm (fun _ => (gt5 (by omega) get_here)) (fun _ => (gt6 (by omega) get_here))) (fac (mm (fun _ => (gt6 (by omega) get_here)) (fun _ => (gt7 (by omega) get_here))) (fac (mm (fun _ => (gt7 (by omega) get_here)) (fun _ => (gt8 (by omega) get_here))) (fac (mm (fun _ => (gt8 (by omega) get_here)) (fun _ => (gt9 (by omega) get_here))) fan))))))))) (gone_of (by simp only [goneP, memP, List.cons_append, List.nil_append, true_or, or_true, true_and, and_true, or_false] <;> omega))) ?_
    refine RA.ret env_ok ?_
    refine ⟨.inr rfl, [(.agg ⟨(xGp611 cum n F n1)⟩), (.int .i64 (lookR cum fs tsn))], (resL_cons (res_cellA rfl rfl rfl get_here rfl rfl rfl) (resL_cons rfl resL_nil)), [((n + 2), some (oInn fs)), ((n1 + 2), some (oWx [(Wx.mk tsn)])), (jf, none), (jx, none)], (Less.of (fac (mm (fun _ => get_here) (fun _ => (gt7 (by omega) get_here))) (fac (mm (fun _ => (get_there (by omega) get_here)) (fun _ => (gt2 (by omega) get_here))) (fac (mm (fun _ => (gt2 (by omega) get_here)) (fun _ => (gt8 (by omega) get_here))) (fac (mm (fun _ => (gt3 (by omega) get_here)) (fun _ => (gt6 (by omega) get_here))) fan)))) (gone_of (by simp only [goneP, memP, List.cons_append, List.nil_append, true_or, or_true, true_and, and_true, or_false] <;> omega))), ⟨0, (n + 2), (n1 + 2), by omega, by omega, by omega, by omega, by omega, F, 1, by rw [show iterF 0 (fsA cum fs tsn) = fsA cum fs tsn from rfl, (show fsA cum fs tsn = fs from if_neg hc4)]; exact (show _ = _ from by rw [hfs]), by rw [(show dupA cum fs ds tsn = [(Wx.mk tsn)] from (if_pos hc1).trans ((if_pos (by omega)).trans (by rw [nil_of hds (by omega)]; rfl)))]; exact (show [(Wx.mk tsn)].length = 1 from rfl), by omega, by omega, (by unfold kok; rw [if_neg hc4]), by rw [show cum + BitVec.ofNat 32 0 = cum from by simp]; rfl, by rw [show iterF 0 (fsA cum fs tsn) = fsA cum fs tsn from rfl, (show fsA cum fs tsn = fs from if_neg hc4), (show dupA cum fs ds tsn = [(Wx.mk tsn)] from (if_pos hc1).trans ((if_pos (by omega)).trans (by rw [nil_of hds (by omega)]; rfl)))]⟩⟩
   ·
    refine OA.op (dst := (some 24)) (v := (.slice (some ⟨(n1 + 1), 0, none⟩) M 0)) (n1 := (n1 + 2)) (d1 := [((n1 + 1), some (oWx ds)), (n1, none)]) (D' := [((n1 + 1), some (oWx ds)), (n1, none), (n1, some (oWx ([] : List Wx))), (n, some ⟨[[(W cum), (.slice (some ⟨(n + 2), 0, none⟩) F 2), (.slice (some ⟨(n + 3), 0, none⟩) M 2)]], 3, 86, true⟩), ((n + 3), some (oWx ds)), (jx, none), (n, some ⟨[[(W cum), (.slice (some ⟨(n + 2), 0, none⟩) F 2), (.slice (some ⟨jx, 0, none⟩) M 2)]], 3, 86, true⟩), ((n + 2), some (oInn fs)), (jf, none), ((n + 1), some ⟨[[(.int .u32 0), (.slice none 0 0), (.slice none 0 0)]], 3, 86, true⟩), (n, some ⟨[[(W cum), (.slice (some ⟨jf, 0, none⟩) F 2), (.slice (some ⟨jx, 0, none⟩) M 2)]], 3, 86, true⟩)]) rfl rfl rfl (r_appendL (c := cWx) (l' := ds) rfl rfl rfl rfl rfl rfl rfl rfl rfl rfl (by decide) get_here (gt2 (by omega) get_here) (by rw [show ([] : List Wx).length = 0 from rfl]) (by omega) (by rw [hds]; omega) (by rw [List.nil_append]; exact take_all' (by rw [hds])) (by omega) (of_decide_eq_true (by kernel_rfl)) (by omega)) (by omega) rfl ?_
    refine OA.p (some 25) (W tsn) rfl rfl rfl rfl ?_
    refine OA.op1 (dst := (some 26)) (v := (.slice (some ⟨(n1 + 2), 0, none⟩) 1 0)) (n1 := (n1 + 3)) (w := ((n1 + 2), some ⟨[[(W tsn)]], 1, 27, true⟩)) rfl rfl rfl (by kernel_rfl) (by omega) ?_
    refine OA.op (dst := (some 27)) (v := (.slice (some ⟨(n1 + 3), 0, none⟩) (M + 1) 0)) (n1 := (n1 + 4)) (d1 := [((n1 + 3), some (oWx (ds ++ [(Wx.mk tsn)]))), ((n1 + 1), none)]) (D' := [((n1 + 3), some (oWx (ds ++ [(Wx.mk tsn)]))), ((n1 + 1), none), ((n1 + 2), some ⟨[[(W tsn)]], 1, 27, true⟩), ((n1 + 1), some (oWx ds)), (n1, none), (n1, some (oWx ([] : List Wx))), (n, some ⟨[[(W cum), (.slice (some ⟨(n + 2), 0, none⟩) F 2), (.slice (some ⟨(n + 3), 0, none⟩) M 2)]], 3, 86, true⟩), ((n + 3), some (oWx ds)), (jx, none), (n, some ⟨[[(W cum), (.slice (some ⟨(n + 2), 0, none⟩) F 2), (.slice (some ⟨jx, 0, none⟩) M 2)]], 3, 86, true⟩), ((n + 2), some (oInn fs)), (jf, none), ((n + 1), some ⟨[[(.int .u32 0), (.slice none 0 0), (.slice none 0 0)]], 3, 86, true⟩), (n, some ⟨[[(W cum), (.slice (some ⟨jf, 0, none⟩) F 2), (.slice (some ⟨jx, 0, none⟩) M 2)]], 3, 86, true⟩)]) rfl rfl rfl (r_appendR (c := cWx) (l' := (ds ++ [(Wx.mk tsn)])) rfl rfl rfl rfl rfl rfl rfl rfl rfl rfl (by decide) (get_there (by omega) get_here) get_here (by rw [hds]) (mp_snoc (c := cWx) (x := (Wx.mk tsn))) (by omega) (of_decide_eq_true (by kernel_rfl)) (by omega)) (by omega) rfl ?_
    refine OA.p (some 28) (Pt n 0 2) rfl rfl rfl rfl ?_
    refine OA.op1 (dst := none) (v := (.tuple #[])) (n1 := (n1 + 4)) (w := (n, some ⟨[(xGp65 cum n F n1 M)], 3, 86, true⟩)) rfl rfl rfl (r_store rfl rfl rfl rfl rfl rfl rfl (gt6 (by omega) get_here) rfl rfl (Nat.le_of_ble_eq_true rfl) rfl) (by omega) ?_
    refine OA.nil ?_
    intro _
    refine RA.weaken (D' := [(n, some ⟨[(xGp65 cum n F n1 M)], 3, 86, true⟩), ((n1 + 3), some (oWx (ds ++ [(Wx.mk tsn)]))), ((n1 + 1), none), ((n1 + 2), some ⟨[[(W tsn)]], 1, 27, true⟩), (n1, none), ((n + 3), some (oWx ds)), (jx, none), ((n + 2), some (oInn fs)), (jf, none), ((n + 1), some ⟨[[(.int .u32 0), (.slice none 0 0), (.slice none 0 0)]], 3, 86, true⟩)]) hd (Less.of (fac (mm (fun _ => get_here) (fun _ => get_here)) (fac (mm (fun _ => (get_there (by omega) get_here)) (fun _ => (get_there (by omega) get_here))) (fac (mm (fun _ => (gt2 (by omega) get_here)) (fun _ => (gt2 (by omega) get_here))) (fac (mm (fun _ => (gt3 (by omega) get_here)) (fun _ => (gt3 (by omega) get_here))) (fac (mm (fun _ => (gt4 (by omega) get_here)) (fun _ => (gt5 (by omega) get_here))) (fac (mm (fun _ => (gt5 (by omega) get_here)) (fun _ => (gt8 (by omega) get_here))) (fac (mm (fun _ => (gt6 (by omega) get_here)) (fun _ => (gt9 (by omega) get_here))) (fac (mm (fun _ => (gt7 (by omega) get_here)) (fun _ => (gt11 (by omega) get_here))) (fac (mm (fun _ => (gt8 (by omega) get_here)) (fun _ => (gt12 (by omega) get_here))) (fac (mm (fun _ => (gt9 (by omega) get_here)) (fun _ => (gt13 (by omega) get_here))) fan)))))))))) (gone_of (by simp only [goneP, memP, List.cons_append, List.nil_append, true_or, or_true, true_and, and_true, or_false] <;> omega))) ?_
    refine RA.seq hd ?_
    refine RA.seq hd ?_
    refine RA.le (ob := ⟨[(xGp65 cum n F n1 M)], 3, 86, true⟩) (ob' := ⟨[(xGp66 cum n F n1 M)], 3, 86, true⟩) get_here (OLe.one (cs := (xGp65 cum n F n1 M)) (cs' := (xGp66 cum n F n1 M)) ⟨VLe.refl _, VLe.refl _, (vle_row _ _ _), trivial⟩ rfl) ?_
    refine RA.region env_ok ?_
    refine OA.p (some 29) (.int .i64 (lookR cum fs tsn)) rfl rfl rfl rfl ?_
    have hc5 : (lookR cum fs tsn) ≠ 1 := Classical.byContradiction (fun hdd => by exfalso; omega)
    refine OA.p (some 30) (.bool true) rfl rfl rfl (Eq.trans (r_bin rfl rfl rfl (b_neq rfl)) (dT hc5)) ?_
    refine OA.nil ?_
    intro _
    refine RA.rebase [(0, (.agg ⟨[(W cum), (.slice (some ⟨jf, 0, none⟩) F 2), (.slice (some ⟨jx, 0, none⟩) M 2)]⟩)), (1, (W tsn)), (2, (Pt n 0 0)), (4, (.pointer (some ⟨(n + 1), 0, some 0⟩))), (5, (.int .i64 0)), (6, (.int .i64 (lookR cum fs tsn))), (20, (.bool true)), (30, (.bool true))] ⟨rfl, rfl, rfl, rfl, rfl, rfl, rfl, rfl, trivial⟩ (fun τr3 => ?_)
    refine RA.condT rfl ?_
    refine RA.seq hd ?_
    refine RA.region env_ok ?_
    refine OA.p (some 31) (.agg ⟨(xGp66 cum n F n1 M)⟩) rfl rfl rfl (r_loadA rfl rfl rfl rfl get_here rfl rfl rfl) ?_
    refine OA.p (some 32) (.int .i64 (lookR cum fs tsn)) rfl rfl rfl rfl ?_
    refine OA.op1 (dst := none) (v := (.tuple #[])) (n1 := (n1 + 4)) (w := ((n + 1), some ⟨[(xGp66 cum n F n1 M)], 3, 86, true⟩)) rfl rfl rfl (r_store rfl rfl rfl rfl rfl rfl rfl (gt10 (by omega) get_here) rfl rfl (Nat.le_of_ble_eq_true rfl) rfl) (by omega) ?_
    refine OA.p (some 5) (.int .i64 (lookR cum fs tsn)) rfl rfl rfl rfl ?_
    refine OA.nil ?_
    intro _
    refine RA.weaken (D' := [((n + 1), some ⟨[(xGp66 cum n F n1 M)], 3, 86, true⟩), (n, some ⟨[(xGp66 cum n F n1 M)], 3, 86, true⟩), ((n1 + 3), some (oWx (ds ++ [(Wx.mk tsn)]))), ((n1 + 1), none), ((n1 + 2), some ⟨[[(W tsn)]], 1, 27, true⟩), (n1, none), ((n + 3), some (oWx ds)), (jx, none), ((n + 2), some (oInn fs)), (jf, none)]) hd (Less.of (fac (mm (fun _ => get_here) (fun _ => get_here)) (fac (mm (fun _ => (get_there (by omega) get_here)) (fun _ => (get_there (by omega) get_here))) (fac (mm (fun _ => (gt2 (by omega) get_here)) (fun _ => (gt3 (by omega) get_here))) (fac (mm (fun _ => (gt3 (by omega) get_here)) (fun _ => (gt4 (by omega) get_here))) (fac (mm (fun _ => (gt4 (by omega) get_here)) (fun _ => (gt5 (by omega) get_here))) (fac (mm (fun _ => (gt5 (by omega) get_here)) (fun _ => (gt6 (by omega) get_here))) (fac (mm (fun _ => (gt6 (by omega) get_here)) (fun _ => (gt7 (by omega) get_here))) (fac (mm (fun _ => (gt7 (by omega) get_here)) (fun _ => (gt8 (by omega) get_here))) (fac (mm (fun _ => (gt8 (by omega) get_here)) (fun _ => (gt9 (by omega) get_here))) (fac (mm (fun _ => (gt9 (by omega) get_here)) (fun _ => (gt10 (by omega) get_here))) fan)))))))))) (gone_of (by simp only [goneP, memP, List.cons_append, List.nil_append, true_or, or_true, true_and, and_true, or_false] <;> omega))) ?_
    refine RA.ret env_ok ?_
    refine ⟨.inr rfl, [(.agg ⟨(xGp66 cum n F n1 M)⟩), (.int .i64 (lookR cum fs tsn))], (resL_cons (res_cellA rfl rfl rfl get_here rfl rfl rfl) (resL_cons rfl resL_nil)), [((n + 2), some (oInn fs)), ((n1 + 3), some (oWx (ds ++ [(Wx.mk tsn)]))), (jf, none), (jx, none)], (Less.of (fac (mm (fun _ => get_here) (fun _ => (gt8 (by omega) get_here))) (fac (mm (fun _ => (get_there (by omega) get_here)) (fun _ => (gt2 (by omega) get_here))) (fac (mm (fun _ => (gt2 (by omega) get_here)) (fun _ => (gt9 (by omega) get_here))) (fac (mm (fun _ => (gt3 (by omega) get_here)) (fun _ => (gt7 (by omega) get_here))) fan)))) (gone_of (by simp only [goneP, memP, List.cons_append, List.nil_append, true_or, or_true, true_and, and_true, or_false] <;> omega))), ⟨0, (n + 2), (n1 + 3), by omega, by omega, by omega, by omega, by omega, F, (M + 1), by rw [show iterF 0 (fsA cum fs tsn) = fsA cum fs tsn from rfl, (show fsA cum fs tsn = fs from if_neg hc5)]; exact (show _ = _ from by rw [hfs]), by rw [(show dupA cum fs ds tsn = (ds ++ [(Wx.mk tsn)]) from (if_pos hc1).trans ((if_pos (by omega)).trans rfl))]; exact (show _ = _ from by rw [List.length_append, List.length_singleton, hds]), by omega, by omega, (by unfold kok; rw [if_neg hc5]), by rw [show cum + BitVec.ofNat 32 0 = cum from by simp]; rfl, by rw [show iterF 0 (fsA cum fs tsn) = fsA cum fs tsn from rfl, (show fsA cum fs tsn = fs from if_neg hc5), (show dupA cum fs ds tsn = (ds ++ [(Wx.mk tsn)]) from (if_pos hc1).trans ((if_pos (by omega)).trans rfl))]⟩⟩
  ·
   refine OA.p (some 19) (.bool false) rfl rfl rfl (Eq.trans (r_bin rfl rfl rfl (b_lss rfl)) (dF hc2)) ?_
   refine OA.p (some 20) (.bool false) rfl rfl rfl rfl ?_
   refine OA.nil ?_
   intro _
   refine RA.condF rfl ?_
   refine RA.skip env_ok ?_
   intro _
   refine RA.seq hd ?_
   refine RA.seq hd ?_
   refine RA.region env_ok ?_
   refine OA.p (some 29) (.int .i64 (lookR cum fs tsn)) rfl rfl rfl rfl ?_
   have hc6 : (lookR cum fs tsn) ≠ 1 := Classical.byContradiction (fun hdd => by exfalso; omega)
   refine OA.p (some 30) (.bool true) rfl rfl rfl (Eq.trans (r_bin rfl rfl rfl (b_neq rfl)) (dT hc6)) ?_
   refine OA.nil ?_
   intro _
   refine RA.condT rfl ?_
   refine RA.seq hd ?_
   refine RA.region env_ok ?_
   refine OA.p (some 31) (.agg ⟨[(W cum), (.slice (some ⟨(n + 2), 0, none⟩) F 2), (.slice (some ⟨(n + 3), 0, none⟩) M 2)]⟩) rfl rfl rfl (r_loadA rfl rfl rfl rfl get_here rfl rfl rfl) ?_
   refine OA.p (some 32) (.int .i64 (lookR cum fs tsn)) rfl rfl rfl rfl ?_
   refine OA.op1 (dst := none) (v := (.tuple #[])) (n1 := n1) (w := ((n + 1), some ⟨[[(W cum), (.slice (some ⟨(n + 2), 0, none⟩) F 2), (.slice (some ⟨(n + 3), 0, none⟩) M 2)]], 3, 86, true⟩)) rfl rfl rfl (r_store rfl rfl rfl rfl rfl rfl rfl (gt6 (by omega) get_here) rfl rfl (Nat.le_of_ble_eq_true rfl) rfl) (by omega) ?_
   refine OA.p (some 5) (.int .i64 (lookR cum fs tsn)) rfl rfl rfl rfl ?_
   refine OA.nil ?_
   intro _
   refine RA.weaken (D' := [((n + 1), some ⟨[[(W cum), (.slice (some ⟨(n + 2), 0, none⟩) F 2), (.slice (some ⟨(n + 3), 0, none⟩) M 2)]], 3, 86, true⟩), (n, some ⟨[[(W cum), (.slice (some ⟨(n + 2), 0, none⟩) F 2), (.slice (some ⟨(n + 3), 0, none⟩) M 2)]], 3, 86, true⟩), ((n + 3), some (oWx ds)), (jx, none), ((n + 2), some (oInn fs)), (jf, none)]) hd (Less.of (fac (mm (fun _ => get_here) (fun _ => get_here)) (fac (mm (fun _ => (get_there (by omega) get_here)) (fun _ => (get_there (by omega) get_here))) (fac (mm (fun _ => (gt2 (by omega) get_here)) (fun _ => (gt2 (by omega) get_here))) (fac (mm (fun _ => (gt3 (by omega) get_here)) (fun _ => (gt3 (by omega) get_here))) (fac (mm (fun _ => (gt4 (by omega) get_here)) (fun _ => (gt5 (by omega) get_here))) (fac (mm (fun _ => (gt5 (by omega) get_here)) (fun _ => (gt6 (by omega) get_here))) fan)))))) (gone_of (by simp only [goneP, memP, List.cons_append, List.nil_append, true_or, or_true, true_and, and_true, or_false] <;> omega))) ?_
   refine RA.ret env_ok ?_
   refine ⟨.inr rfl, [(.agg ⟨[(W cum), (.slice (some ⟨(n + 2), 0, none⟩) F 2), (.slice (some ⟨(n + 3), 0, none⟩) M 2)]⟩), (.int .i64 (lookR cum fs tsn))], (resL_cons (res_cellA rfl rfl rfl get_here rfl rfl rfl) (resL_cons rfl resL_nil)), [((n + 2), some (oInn fs)), ((n + 3), some (oWx ds)), (jf, none), (jx, none)], (Less.of (fac (mm (fun _ => get_here) (fun _ => (gt4 (by omega) get_here))) (fac (mm (fun _ => (get_there (by omega) get_here)) (fun _ => (gt2 (by omega) get_here))) (fac (mm (fun _ => (gt2 (by omega) get_here)) (fun _ => (gt5 (by omega) get_here))) (fac (mm (fun _ => (gt3 (by omega) get_here)) (fun _ => (gt3 (by omega) get_here))) fan)))) (gone_of (by simp only [goneP, memP, List.cons_append, List.nil_append, true_or, or_true, true_and, and_true, or_false] <;> omega))), ⟨0, (n + 2), (n + 3), by omega, by omega, by omega, by omega, by omega, F, M, by rw [show iterF 0 (fsA cum fs tsn) = fsA cum fs tsn from rfl, (show fsA cum fs tsn = fs from if_neg hc6)]; exact (show _ = _ from by rw [hfs]), by rw [(show dupA cum fs ds tsn = ds from (if_pos hc1).trans (if_neg (by omega)))]; exact (show _ = _ from by rw [hds]), by omega, by omega, (by unfold kok; rw [if_neg hc6]), by rw [show cum + BitVec.ofNat 32 0 = cum from by simp]; rfl, by rw [show iterF 0 (fsA cum fs tsn) = fsA cum fs tsn from rfl, (show fsA cum fs tsn = fs from if_neg hc6), (show dupA cum fs ds tsn = ds from (if_pos hc1).trans (if_neg (by omega)))]⟩⟩
 ·
  refine OA.p (some 14) (.bool false) rfl rfl rfl (Eq.trans (r_bin rfl rfl rfl (b_eql rfl)) (dF hc1)) ?_
  refine OA.p (some 15) (.bool false) rfl rfl rfl rfl ?_
  refine OA.off (dst := (some 16)) rfl rfl rfl ?_
  refine OA.off (dst := (some 17)) rfl rfl rfl ?_
  refine OA.off (dst := (some 18)) rfl rfl rfl ?_
  refine OA.off (dst := (some 19)) rfl rfl rfl ?_
  refine OA.p (some 20) (.bool false) rfl rfl rfl rfl ?_
  refine OA.nil ?_
  intro _
  refine RA.condF rfl ?_
  refine RA.skip env_ok ?_
  intro _
  refine RA.seq hd ?_
  refine RA.seq hd ?_
  refine RA.region env_ok ?_
  refine OA.p (some 29) (.int .i64 (lookR cum fs tsn)) rfl rfl rfl rfl ?_
  by_cases hc7 : (lookR cum fs tsn) ≠ 1
  ·
   refine OA.p (some 30) (.bool true) rfl rfl rfl (Eq.trans (r_bin rfl rfl rfl (b_neq rfl)) (dT hc7)) ?_
   refine OA.nil ?_
   intro _
   refine RA.condT rfl ?_
   refine RA.seq hd ?_
   refine RA.region env_ok ?_
   refine OA.p (some 31) (.agg ⟨[(W cum), (.slice (some ⟨(n + 2), 0, none⟩) F 2), (.slice (some ⟨(n + 3), 0, none⟩) M 2)]⟩) rfl rfl rfl (r_loadA rfl rfl rfl rfl get_here rfl rfl rfl) ?_
   refine OA.p (some 32) (.int .i64 (lookR cum fs tsn)) rfl rfl rfl rfl ?_
   refine OA.op1 (dst := none) (v := (.tuple #[])) (n1 := n1) (w := ((n + 1), some ⟨[[(W cum), (.slice (some ⟨(n + 2), 0, none⟩) F 2), (.slice (some ⟨(n + 3), 0, none⟩) M 2)]], 3, 86, true⟩)) rfl rfl rfl (r_store rfl rfl rfl rfl rfl rfl rfl (gt6 (by omega) get_here) rfl rfl (Nat.le_of_ble_eq_true rfl) rfl) (by omega) ?_
   refine OA.p (some 5) (.int .i64 (lookR cum fs tsn)) rfl rfl rfl rfl ?_
   refine OA.nil ?_
   intro _
   refine RA.weaken (D' := [((n + 1), some ⟨[[(W cum), (.slice (some ⟨(n + 2), 0, none⟩) F 2), (.slice (some ⟨(n + 3), 0, none⟩) M 2)]], 3, 86, true⟩), (n, some ⟨[[(W cum), (.slice (some ⟨(n + 2), 0, none⟩) F 2), (.slice (some ⟨(n + 3), 0, none⟩) M 2)]], 3, 86, true⟩), ((n + 3), some (oWx ds)), (jx, none), ((n + 2), some (oInn fs)), (jf, none)]) hd (Less.of (fac (mm (fun _ => get_here) (fun _ => get_here)) (fac (mm (fun _ => (get_there (by omega) get_here)) (fun _ => (get_there (by omega) get_here))) (fac (mm (fun _ => (gt2 (by omega) get_here)) (fun _ => (gt2 (by omega) get_here))) (fac (mm (fun _ => (gt3 (by omega) get_here)) (fun _ => (gt3 (by omega) get_here))) (fac (mm (fun _ => (gt4 (by omega) get_here)) (fun _ => (gt5 (by omega) get_here))) (fac (mm (fun _ => (gt5 (by omega) get_here)) (fun _ => (gt6 (by omega) get_here))) fan)))))) (gone_of (by simp only [goneP, memP, List.cons_append, List.nil_append, true_or, or_true, true_and, and_true, or_false] <;> omega))) ?_
   refine RA.ret env_ok ?_
   refine ⟨.inr rfl, [(.agg ⟨[(W cum), (.slice (some ⟨(n + 2), 0, none⟩) F 2), (.slice (some ⟨(n + 3), 0, none⟩) M 2)]⟩), (.int .i64 (lookR cum fs tsn))], (resL_cons (res_cellA rfl rfl rfl get_here rfl rfl rfl) (resL_cons rfl resL_nil)), [((n + 2), some (oInn fs)), ((n + 3), some (oWx ds)), (jf, none), (jx, none)], (Less.of (fac (mm (fun _ => get_here) (fun _ => (gt4 (by omega) get_here))) (fac (mm (fun _ => (get_there (by omega) get_here)) (fun _ => (gt2 (by omega) get_here))) (fac (mm (fun _ => (gt2 (by omega) get_here)) (fun _ => (gt5 (by omega) get_here))) (fac (mm (fun _ => (gt3 (by omega) get_here)) (fun _ => (gt3 (by omega) get_here))) fan)))) (gone_of (by simp only [goneP, memP, List.cons_append, List.nil_append, true_or, or_true, true_and, and_true, or_false] <;> omega))), ⟨0, (n + 2), (n + 3), by omega, by omega, by omega, by omega, by omega, F, M, by rw [show iterF 0 (fsA cum fs tsn) = fsA cum fs tsn from rfl, (show fsA cum fs tsn = fs from if_neg hc7)]; exact (show _ = _ from by rw [hfs]), by rw [(show dupA cum fs ds tsn = ds from if_neg hc1)]; exact (show _ = _ from by rw [hds]), by omega, by omega, (by unfold kok; rw [if_neg hc7]), by rw [show cum + BitVec.ofNat 32 0 = cum from by simp]; rfl, by rw [show iterF 0 (fsA cum fs tsn) = fsA cum fs tsn from rfl, (show fsA cum fs tsn = fs from if_neg hc7), (show dupA cum fs ds tsn = ds from if_neg hc1)]⟩⟩
  ·
   have hl1 : lookR cum fs tsn = 1 := Classical.not_not.1 hc7
   refine OA.p (some 30) (.bool false) rfl rfl rfl (Eq.trans (r_bin rfl rfl rfl (b_neq rfl)) (dF hc7)) ?_
   refine OA.nil ?_
   intro _
   refine RA.condF rfl ?_
   refine RA.skip env_ok ?_
   intro _
   refine RA.seq hd ?_
   refine RA.par (md := [some [], some [], some [n], none, some [], some [], some [n], some [], some [], some [], none, some [], none]) env_ok (hd.of (by omega) (kb8 (by omega))) (by kernel_rfl) ?_
   refine PQ.op (dst := (some 33)) (v := (.slice (some ⟨n1, 0, none⟩) 0 0)) (n1 := (n1 + 1)) (d1 := [(n1, some (oInn ([] : List Inn)))]) rfl rfl rfl noStore (none_ok _ _) (by kernel_rfl) (by omega) (kp1 (wr_new (by omega) (by omega))) ?_
   refine PQ.pure (dst := (some 34)) (v := (Pt n 0 1)) rfl rfl rfl noStore (none_ok _ _) rfl ?_
   refine PQ.pure (dst := (some 35)) (v := (.slice (some ⟨(n + 2), 0, none⟩) F 2)) rfl rfl rfl (app [(n, some ⟨[[(W cum), (.slice (some ⟨(n + 2), 0, none⟩) F 2), (.slice (some ⟨(n + 3), 0, none⟩) M 2)]], 3, 86, true⟩)] noStore) (seen_one (V := []) (D := [(n, some ⟨[[(W cum), (.slice (some ⟨(n + 2), 0, none⟩) F 2), (.slice (some ⟨(n + 3), 0, none⟩) M 2)]], 3, 86, true⟩), ((n + 3), some (oWx ds)), (jx, none), (n, some ⟨[[(W cum), (.slice (some ⟨(n + 2), 0, none⟩) F 2), (.slice (some ⟨jx, 0, none⟩) M 2)]], 3, 86, true⟩), ((n + 2), some (oInn fs)), (jf, none), ((n + 1), some ⟨[[(.int .u32 0), (.slice none 0 0), (.slice none 0 0)]], 3, 86, true⟩), (n, some ⟨[[(W cum), (.slice (some ⟨jf, 0, none⟩) F 2), (.slice (some ⟨jx, 0, none⟩) M 2)]], 3, 86, true⟩)]) (by kernel_rfl) get_here) (r_load1 rfl rfl rfl rfl rfl get_here rfl rfl) ?_
   by_cases hc8 : F = 0
   ·
    refine PQ.pure (dst := (some 36)) (v := (.slice (some ⟨n1, 0, none⟩) 0 0)) rfl rfl rfl _ (seen_any (V := [(n1, some (oInn ([] : List Inn)))]) (D := [(n, some ⟨[[(W cum), (.slice (some ⟨(n + 2), 0, none⟩) F 2), (.slice (some ⟨(n + 3), 0, none⟩) M 2)]], 3, 86, true⟩), ((n + 3), some (oWx ds)), (jx, none), (n, some ⟨[[(W cum), (.slice (some ⟨(n + 2), 0, none⟩) F 2), (.slice (some ⟨jx, 0, none⟩) M 2)]], 3, 86, true⟩), ((n + 2), some (oInn fs)), (jf, none), ((n + 1), some ⟨[[(.int .u32 0), (.slice none 0 0), (.slice none 0 0)]], 3, 86, true⟩), (n, some ⟨[[(W cum), (.slice (some ⟨jf, 0, none⟩) F 2), (.slice (some ⟨jx, 0, none⟩) M 2)]], 3, 86, true⟩)]) (by kernel_rfl)) (r_appendZ rfl rfl rfl rfl (.inl ⟨_, _, _, rfl, by decide⟩) rfl rfl rfl rfl rfl (by decide) (by omega)) ?_
    refine PQ.pure (dst := (some 37)) (v := (W tsn)) rfl rfl rfl noStore (none_ok _ _) rfl ?_
    refine PQ.pure (dst := (some 38)) (v := (Pt n 0 0)) rfl rfl rfl noStore (none_ok _ _) rfl ?_
    refine PQ.pure (dst := (some 39)) (v := (W cum)) rfl rfl rfl (app [(n, some ⟨[[(W cum), (.slice (some ⟨(n + 2), 0, none⟩) F 2), (.slice (some ⟨(n + 3), 0, none⟩) M 2)]], 3, 86, true⟩)] noStore) (seen_one (V := []) (D := [(n, some ⟨[[(W cum), (.slice (some ⟨(n + 2), 0, none⟩) F 2), (.slice (some ⟨(n + 3), 0, none⟩) M 2)]], 3, 86, true⟩), ((n + 3), some (oWx ds)), (jx, none), (n, some ⟨[[(W cum), (.slice (some ⟨(n + 2), 0, none⟩) F 2), (.slice (some ⟨jx, 0, none⟩) M 2)]], 3, 86, true⟩), ((n + 2), some (oInn fs)), (jf, none), ((n + 1), some ⟨[[(.int .u32 0), (.slice none 0 0), (.slice none 0 0)]], 3, 86, true⟩), (n, some ⟨[[(W cum), (.slice (some ⟨jf, 0, none⟩) F 2), (.slice (some ⟨jx, 0, none⟩) M 2)]], 3, 86, true⟩)]) (by kernel_rfl) get_here) (r_load1 rfl rfl rfl rfl rfl get_here rfl rfl) ?_
    refine PQ.pure (dst := (some 40)) (v := (W (tsn - cum))) rfl rfl rfl noStore (none_ok _ _) (r_bin rfl rfl rfl (b_subW tsn cum)) ?_
    refine PQ.pure (dst := (some 41)) (v := (.int .i64 (((tsn - cum).toNat : Nat) : Int))) rfl rfl rfl noStore (none_ok _ _) (r_cvt rfl rfl rfl rfl rfl ⟨_, rfl⟩ (i64_eq (by have := ((tsn - cum)).isLt; omega))) ?_
    refine PQ.op (dst := (some 42)) (v := (.slice (some ⟨(n1 + 1), 0, none⟩) 1 0)) (n1 := (n1 + 2)) (d1 := [((n1 + 1), some ⟨[[(.int .i64 (((tsn - cum).toNat : Nat) : Int))]], 1, 3, true⟩)]) rfl rfl rfl noStore (none_ok _ _) (by kernel_rfl) (by omega) (kp1 (wr_new (by omega) (by omega))) ?_
    refine PQ.op (dst := (some 43)) (v := (.slice (some ⟨(n1 + 2), 0, none⟩) 1 0)) (n1 := (n1 + 3)) (d1 := [((n1 + 2), some (oInn [(Inn.mk (((tsn - cum).toNat : Nat) : Int))])), (n1, none)]) rfl rfl rfl _ (seen_any (V := [((n1 + 1), some ⟨[[(.int .i64 (((tsn - cum).toNat : Nat) : Int))]], 1, 3, true⟩), (n1, some (oInn ([] : List Inn)))]) (D := [(n, some ⟨[[(W cum), (.slice (some ⟨(n + 2), 0, none⟩) F 2), (.slice (some ⟨(n + 3), 0, none⟩) M 2)]], 3, 86, true⟩), ((n + 3), some (oWx ds)), (jx, none), (n, some ⟨[[(W cum), (.slice (some ⟨(n + 2), 0, none⟩) F 2), (.slice (some ⟨jx, 0, none⟩) M 2)]], 3, 86, true⟩), ((n + 2), some (oInn fs)), (jf, none), ((n + 1), some ⟨[[(.int .u32 0), (.slice none 0 0), (.slice none 0 0)]], 3, 86, true⟩), (n, some ⟨[[(W cum), (.slice (some ⟨jf, 0, none⟩) F 2), (.slice (some ⟨jx, 0, none⟩) M 2)]], 3, 86, true⟩)]) (by kernel_rfl)) (r_appendR (c := cInn) (l' := [(Inn.mk (((tsn - cum).toNat : Nat) : Int))]) rfl rfl rfl rfl rfl rfl rfl rfl rfl rfl (by decide) (get_there (by omega) get_here) get_here (by rw [show ([] : List Inn).length = 0 from rfl]) rfl (by omega) (of_decide_eq_true (by kernel_rfl)) (by omega)) (by omega) (kp2 (wr_new (by omega) (by omega)) (wr_tight (by kernel_rfl) (by omega))) ?_
    refine PQ.pure (dst := (some 44)) (v := (Pt n 0 1)) rfl rfl rfl noStore (none_ok _ _) rfl ?_
    refine PQ.op (dst := none) (v := (.tuple #[])) (n1 := (n1 + 3)) (d1 := [(n, some ⟨[(xGp612 cum n1 n M)], 3, 86, true⟩)]) rfl rfl rfl _ (seen_any (V := [((n1 + 2), some (oInn [(Inn.mk (((tsn - cum).toNat : Nat) : Int))])), (n1, none), ((n1 + 1), some ⟨[[(.int .i64 (((tsn - cum).toNat : Nat) : Int))]], 1, 3, true⟩), (n1, some (oInn ([] : List Inn)))]) (D := [(n, some ⟨[[(W cum), (.slice (some ⟨(n + 2), 0, none⟩) F 2), (.slice (some ⟨(n + 3), 0, none⟩) M 2)]], 3, 86, true⟩), ((n + 3), some (oWx ds)), (jx, none), (n, some ⟨[[(W cum), (.slice (some ⟨(n + 2), 0, none⟩) F 2), (.slice (some ⟨jx, 0, none⟩) M 2)]], 3, 86, true⟩), ((n + 2), some (oInn fs)), (jf, none), ((n + 1), some ⟨[[(.int .u32 0), (.slice none 0 0), (.slice none 0 0)]], 3, 86, true⟩), (n, some ⟨[[(W cum), (.slice (some ⟨jf, 0, none⟩) F 2), (.slice (some ⟨jx, 0, none⟩) M 2)]], 3, 86, true⟩)]) (by kernel_rfl)) (r_store rfl rfl rfl rfl rfl rfl rfl (gt4 (by omega) get_here) rfl rfl (Nat.le_of_ble_eq_true rfl) rfl) (by omega) (kp1 (wr_tight (by kernel_rfl) (by omega))) ?_
    refine PQ.done (d := [(n, some ⟨[(xGp612 cum n1 n M)], 3, 86, true⟩), ((n1 + 2), some (oInn [(Inn.mk (((tsn - cum).toNat : Nat) : Int))])), (n1, none), ((n1 + 1), some ⟨[[(.int .i64 (((tsn - cum).toNat : Nat) : Int))]], 1, 3, true⟩), (n1, some (oInn ([] : List Inn)))]) (by kernel_rfl) ?_
    intro _
    refine RA.weaken (D' := [(n, some ⟨[(xGp612 cum n1 n M)], 3, 86, true⟩), ((n1 + 2), some (oInn [(Inn.mk (((tsn - cum).toNat : Nat) : Int))])), (n1, none), ((n1 + 1), some ⟨[[(.int .i64 (((tsn - cum).toNat : Nat) : Int))]], 1, 3, true⟩), ((n + 3), some (oWx ds)), (jx, none), ((n + 2), some (oInn fs)), (jf, none), ((n + 1), some ⟨[[(.int .u32 0), (.slice none 0 0), (.slice none 0 0)]], 3, 86, true⟩)]) hd (Less.of (fac (mm (fun _ => get_here) (fun _ => get_here)) (fac (mm (fun _ => (get_there (by omega) get_here)) (fun _ => (get_there (by omega) get_here))) (fac (mm (fun _ => (gt2 (by omega) get_here)) (fun _ => (gt2 (by omega) get_here))) (fac (mm (fun _ => (gt3 (by omega) get_here)) (fun _ => (gt3 (by omega) get_here))) (fac (mm (fun _ => (gt4 (by omega) get_here)) (fun _ => (gt6 (by omega) get_here))) (fac (mm (fun _ => (gt5 (by omega) get_here)) (fun _ => (gt7 (by omega) get_here))) (fac (mm (fun _ => (gt6 (by omega) get_here)) (fun _ => (gt9 (by omega) get_here))) (fac (mm (fun _ => (gt7 (by omega) get_here)) (fun _ => (gt10 (by omega) get_here))) (fac (mm (fun _ => (gt8 (by omega) get_here)) (fun _ => (gt11 (by omega) get_here))) fan))))))))) (gone_of (by simp only [goneP, memP, List.cons_append, List.nil_append, true_or, or_true, true_and, and_true, or_false] <;> omega))) ?_
    refine RA.rebase [(0, (.agg ⟨[(W cum), (.slice (some ⟨jf, 0, none⟩) F 2), (.slice (some ⟨jx, 0, none⟩) M 2)]⟩)), (1, (W tsn)), (2, (Pt n 0 0)), (4, (.pointer (some ⟨(n + 1), 0, some 0⟩))), (5, (.int .i64 0)), (6, (.int .i64 (lookR cum fs tsn))), (20, (.bool false)), (30, (.bool false))] ⟨rfl, rfl, rfl, rfl, rfl, rfl, rfl, rfl, trivial⟩ (fun τr4 => ?_)
    refine RA.seq hd ?_
    refine RA.seq hd ?_
    refine RA.region env_ok ?_
    refine OA.p (some 7) (.int .i64 0) rfl rfl rfl rfl ?_
    refine OA.nil ?_
    intro _
    refine RA.block ?_
    refine RA.le (ob := ⟨[(xGp612 cum n1 n M)], 3, 86, true⟩) (ob' := ⟨[(xGp613 cum n1 n M)], 3, 86, true⟩) get_here (OLe.one (cs := (xGp612 cum n1 n M)) (cs' := (xGp613 cum n1 n M)) ⟨VLe.refl _, (vle_row _ _ _), VLe.refl _, trivial⟩ rfl) ?_
    refine RA.weaken (D' := [(n, some ⟨[(xGp613 cum n1 n M)], 3, 86, true⟩), ((n1 + 2), some (oInn [(Inn.mk (((tsn - cum).toNat : Nat) : Int))])), ((n + 3), some (oWx ds)), ((n + 1), some ⟨[[(.int .u32 0), (.slice none 0 0), (.slice none 0 0)]], 3, 86, true⟩), (jf, none), (jx, none)]) hd (Less.of (fac (mm (fun _ => get_here) (fun _ => get_here)) (fac (mm (fun _ => (get_there (by omega) get_here)) (fun _ => (gt2 (by omega) get_here))) (fac (mm (fun _ => (gt2 (by omega) get_here)) (fun _ => (gt5 (by omega) get_here))) (fac (mm (fun _ => (gt3 (by omega) get_here)) (fun _ => (gt9 (by omega) get_here))) (fac (mm (fun _ => (gt4 (by omega) get_here)) (fun _ => (gt8 (by omega) get_here))) (fac (mm (fun _ => (gt5 (by omega) get_here)) (fun _ => (gt6 (by omega) get_here))) fan)))))) (gone_of (by simp only [goneP, memP, List.cons_append, List.nil_append, true_or, or_true, true_and, and_true, or_false] <;> omega))) ?_
    refine RA.loop hd (fun kk_ τ n' D => (∃ k : Nat, ∃ jq : Nat, ∃ F' : Nat, kk_ = 1001 - k ∧ (n1 + 3) ≤ n' ∧ Has τ [(1, (W tsn)), (2, (Pt n 0 0)), (4, (.pointer (some ⟨(n + 1), 0, some 0⟩))), (7, (.int .i64 ((k : Nat) : Int)))] ∧ D = [(n, some ⟨[(xGp63 cum k jq F' n M)], 3, 86, true⟩), (jq, some (oInn (iterF k (fs ++ [(Inn.mk (((tsn - cum).toNat : Nat) : Int))])))), ((n + 3), some (oWx ds)), ((n + 1), some ⟨[[(.int .u32 0), (.slice none 0 0), (.slice none 0 0)]], 3, 86, true⟩), (jf, none), (jx, none)] ∧ (∀ i ∈ keys D, i < n') ∧ k ≤ 1001 ∧ (∀ j, j < k → inF 1 (iterF j (fs ++ [(Inn.mk (((tsn - cum).toNat : Nat) : Int))])) = true) ∧ (iterF k (fs ++ [(Inn.mk (((tsn - cum).toNat : Nat) : Int))])).length = F' ∧ F' ≤ F + 1 ∧ (n + 3) < jq)) (1001 - 0) (⟨0, (n1 + 2), 1, rfl, by omega, ⟨rfl, rfl, rfl, rfl, trivial⟩, (cong2 (fun (c' : BitVec 32) (l' : List Inn) => ([(n, some ⟨[[(W c'), (.slice (some ⟨(n1 + 2), 0, none⟩) 1 2), (.slice (some ⟨(n + 3), 0, none⟩) M 2)]], 3, 86, true⟩), ((n1 + 2), some (oInn l')), ((n + 3), some (oWx ds)), ((n + 1), some ⟨[[(.int .u32 0), (.slice none 0 0), (.slice none 0 0)]], 3, 86, true⟩), (jf, none), (jx, none)] : Delta)) (show cum = cum + BitVec.ofNat 32 0 from by simp) (show ([(Inn.mk (((tsn - cum).toNat : Nat) : Int))] : List Inn) = iterF 0 (fs ++ [(Inn.mk (((tsn - cum).toNat : Nat) : Int))]) from (by rw [nil_of hfs (by omega)]; rfl))), (kb6 (by omega)), ⟨by omega, fun j hj => absurd hj (by omega), (show ((fs ++ [(Inn.mk (((tsn - cum).toNat : Nat) : Int))]) : List Inn).length = 1 from (congrArg List.length (show ([(Inn.mk (((tsn - cum).toNat : Nat) : Int))] : List Inn) = (fs ++ [(Inn.mk (((tsn - cum).toNat : Nat) : Int))]) from (by rw [nil_of hfs (by omega)]; rfl))).symm.trans (show [(Inn.mk (((tsn - cum).toNat : Nat) : Int))].length = 1 from rfl)), by omega, by omega⟩⟩) ?_
    rintro kn5 τ5 n5 _ ⟨k, jq, F', rfl, hn5, hHn5, rfl, hKn5, hIn5⟩
    rw [Has.eq hHn5]
    have hKn5_0 : n < n5 := hKn5 _ (by simp only [keys, List.map_cons, List.map_nil, List.mem_cons, true_or, or_true])
    have hKn5_1 : jq < n5 := hKn5 _ (by simp only [keys, List.map_cons, List.map_nil, List.mem_cons, true_or, or_true])
    have hKn5_2 : (n + 3) < n5 := hKn5 _ (by simp only [keys, List.map_cons, List.map_nil, List.mem_cons, true_or, or_true])
    have hKn5_3 : (n + 1) < n5 := hKn5 _ (by simp only [keys, List.map_cons, List.map_nil, List.mem_cons, true_or, or_true])
    have hKn5_4 : jf < n5 := hKn5 _ (by simp only [keys, List.map_cons, List.map_nil, List.mem_cons, true_or, or_true])
    have hKn5_5 : jx < n5 := hKn5 _ (by simp only [keys, List.map_cons, List.map_nil, List.mem_cons, true_or, or_true])
    clear hKn5
    obtain ⟨hk1, hall, hq2, hq3, hq4⟩ := hIn5
    refine RA.seq hd ?_
    refine RA.seq hd ?_
    refine RA.region env_ok ?_
    refine OA.p (some 45) (.int .i64 ((k : Nat) : Int)) rfl rfl rfl rfl ?_
    by_cases hc9 : ((k : Nat) : Int) ≤ 1000
    ·
     refine OA.p (some 46) (.bool true) rfl rfl rfl (Eq.trans (r_bin rfl rfl rfl (b_leq rfl)) (dT hc9)) ?_
     refine OA.p (some 47) (.bool true) rfl rfl rfl rfl ?_
     refine OA.p (some 48) (.agg ⟨(xGp63 cum k jq F' n M)⟩) rfl rfl rfl (r_loadA rfl rfl rfl rfl get_here rfl rfl rfl) ?_
     by_cases hc10 : (inF 1 (iterF k (fs ++ [(Inn.mk (((tsn - cum).toNat : Nat) : Int))]))) = true
     ·
      refine OA.callP (dst := (some 49)) (all := [(.agg ⟨(xGp63 cum k jq F' n M)⟩), (.int .i64 1)]) (v := (.bool true)) (hd.of (by omega) (kb6 (by omega))) rfl rfl rfl rfl rfl rfl rfl rfl (PS.to (rHas jq (n + 3) F' M (cum + (BitVec.ofNat 32 k)) (iterF k (fs ++ [(Inn.mk (((tsn - cum).toNat : Nat) : Int))])) (by rw [hq2]) (by omega) 1 (get_there (by omega) get_here)) (show (.bool (inF 1 (iterF k (fs ++ [(Inn.mk (((tsn - cum).toNat : Nat) : Int))])))) = ((.bool true) : Value) from (by first | (rw [hc10]; done) | (rw [hc10]; rfl)))) ?_
      intro n6 hn6
      refine OA.p (some 50) (.bool true) rfl rfl rfl rfl ?_
      refine OA.nil ?_
      intro _
      refine RA.condT rfl ?_
      refine RA.skip env_ok ?_
      intro _
      refine RA.seq hd ?_
      refine RA.block ?_
      refine RA.seq hd ?_
      refine RA.region env_ok ?_
      refine OA.p (some 53) (Pt n 0 0) rfl rfl rfl rfl ?_
      refine OA.p (some 54) (W (cum + (BitVec.ofNat 32 k))) rfl rfl rfl (r_load1 rfl rfl rfl rfl rfl get_here rfl rfl) ?_
      refine OA.p (some 55) (W ((cum + (BitVec.ofNat 32 k)) + (1#32))) rfl rfl rfl (r_bin rfl rfl rfl (b_addW (cum + (BitVec.ofNat 32 k)) (1#32))) ?_
      refine OA.p (some 56) (Pt n 0 0) rfl rfl rfl rfl ?_
      refine OA.op1 (dst := none) (v := (.tuple #[])) (n1 := n6) (w := (n, some ⟨[(xGp61 cum k jq F' n M)], 3, 86, true⟩)) rfl rfl rfl (r_store rfl rfl rfl rfl rfl rfl rfl get_here rfl rfl (Nat.le_of_ble_eq_true rfl) rfl) (by omega) ?_
      refine OA.nil ?_
      intro _
      refine RA.seq hd ?_
      refine RA.region env_ok ?_
      refine OA.op1 (dst := (some 57)) (v := (.slice (some ⟨n6, 0, none⟩) 0 0)) (n1 := (n6 + 1)) (w := (n6, some (oInn ([] : List Inn)))) rfl rfl rfl (by kernel_rfl) (by omega) ?_
      refine OA.p (some 8) (.slice (some ⟨n6, 0, none⟩) 0 0) rfl rfl rfl rfl ?_
      refine OA.nil ?_
      intro _
      refine RA.seq hd ?_
      refine RA.seq hd ?_
      refine RA.region env_ok ?_
      refine OA.p (some 9) (.int .i64 0) rfl rfl rfl rfl ?_
      refine OA.nil ?_
      intro _
      refine RA.block ?_
      refine RA.leT (t := 8) (v := (.slice (some ⟨n6, 0, none⟩) 0 0)) (v' := (.slice (some ⟨n6, 0, none⟩) 0 2)) rfl (vle_row _ _ _) ?_
      have w_has := hc10
      refine RA.weaken (D' := [(n, some ⟨[(xGp61 cum k jq F' n M)], 3, 86, true⟩), (jq, some (oInn (iterF k (fs ++ [(Inn.mk (((tsn - cum).toNat : Nat) : Int))])))), (n6, some (oInn ([] : List Inn))), ((n + 3), some (oWx ds)), ((n + 1), some ⟨[[(.int .u32 0), (.slice none 0 0), (.slice none 0 0)]], 3, 86, true⟩), (jf, none), (jx, none)]) hd (Less.of (fac (mm (fun _ => get_here) (fun _ => (get_there (by omega) get_here))) (fac (mm (fun _ => (get_there (by omega) get_here)) (fun _ => (gt3 (by omega) get_here))) (fac (mm (fun _ => (gt2 (by omega) get_here)) (fun _ => get_here)) (fac (mm (fun _ => (gt3 (by omega) get_here)) (fun _ => (gt4 (by omega) get_here))) (fac (mm (fun _ => (gt4 (by omega) get_here)) (fun _ => (gt5 (by omega) get_here))) (fac (mm (fun _ => (gt5 (by omega) get_here)) (fun _ => (gt6 (by omega) get_here))) (fac (mm (fun _ => (gt6 (by omega) get_here)) (fun _ => (gt7 (by omega) get_here))) fan))))))) (gone_of (by simp only [goneP, memP, List.cons_append, List.nil_append, true_or, or_true, true_and, and_true, or_false] <;> omega))) ?_
      refine RA.loop hd (fun kk_ τ n' D => (∃ i : Nat, ∃ jo : Nat, ∃ M2 : Nat, kk_ = F' - i ∧ (n6 + 1) ≤ n' ∧ Has τ [(1, (W tsn)), (2, (Pt n 0 0)), (4, (.pointer (some ⟨(n + 1), 0, some 0⟩))), (7, (.int .i64 ((k : Nat) : Int))), (8, (.slice (some ⟨jo, 0, none⟩) M2 2)), (9, (.int .i64 ((i : Nat) : Int)))] ∧ D = [(n, some ⟨[(xGp61 cum k jq F' n M)], 3, 86, true⟩), (jq, some (oInn (iterF k (fs ++ [(Inn.mk (((tsn - cum).toNat : Nat) : Int))])))), (jo, some (oInn (decF ((iterF k (fs ++ [(Inn.mk (((tsn - cum).toNat : Nat) : Int))])).take i)))), ((n + 3), some (oWx ds)), ((n + 1), some ⟨[[(.int .u32 0), (.slice none 0 0), (.slice none 0 0)]], 3, 86, true⟩), (jf, none), (jx, none)] ∧ (∀ i ∈ keys D, i < n') ∧ i ≤ F' ∧ (decF ((iterF k (fs ++ [(Inn.mk (((tsn - cum).toNat : Nat) : Int))])).take i)).length = M2 ∧ M2 ≤ i ∧ jq < jo)) (F' - 0) (⟨0, n6, 0, rfl, by omega, ⟨rfl, rfl, rfl, rfl, rfl, rfl, trivial⟩, (by rfl), (kb7 (by omega)), ⟨by omega, rfl, by omega, by omega⟩⟩) ?_
      rintro kn7 τ7 n7 _ ⟨i, jo, M2, rfl, hn7, hHn7, rfl, hKn7, hIn7⟩
      rw [Has.eq hHn7]
      have hKn7_0 : n < n7 := hKn7 _ (by simp only [keys, List.map_cons, List.map_nil, List.mem_cons, true_or, or_true])
      have hKn7_1 : jq < n7 := hKn7 _ (by simp only [keys, List.map_cons, List.map_nil, List.mem_cons, true_or, or_true])
      have hKn7_2 : jo < n7 := hKn7 _ (by simp only [keys, List.map_cons, List.map_nil, List.mem_cons, true_or, or_true])
      have hKn7_3 : (n + 3) < n7 := hKn7 _ (by simp only [keys, List.map_cons, List.map_nil, List.mem_cons, true_or, or_true])
      have hKn7_4 : (n + 1) < n7 := hKn7 _ (by simp only [keys, List.map_cons, List.map_nil, List.mem_cons, true_or, or_true])
      have hKn7_5 : jf < n7 := hKn7 _ (by simp only [keys, List.map_cons, List.map_nil, List.mem_cons, true_or, or_true])
      have hKn7_6 : jx < n7 := hKn7 _ (by simp only [keys, List.map_cons, List.map_nil, List.mem_cons, true_or, or_true])
      clear hKn7
      obtain ⟨hi1, hm2, hm3, hm4⟩ := hIn7
      refine RA.seq hd ?_
      refine RA.seq hd ?_
      refine RA.region env_ok ?_
      refine OA.p (some 58) (.int .i64 ((i : Nat) : Int)) rfl rfl rfl rfl ?_
      refine OA.p (some 59) (Pt n 0 1) rfl rfl rfl rfl ?_
      refine OA.p (some 60) (.slice (some ⟨jq, 0, none⟩) F' 2) rfl rfl rfl (r_load1 rfl rfl rfl rfl rfl get_here rfl rfl) ?_
      refine OA.p (some 61) (.int .i64 ((F' : Nat) : Int)) rfl rfl rfl rfl ?_
      by_cases hc11 : ((i : Nat) : Int) < ((F' : Nat) : Int)
      ·
       refine OA.p (some 62) (.bool true) rfl rfl rfl (Eq.trans (r_bin rfl rfl rfl (b_lss rfl)) (dT hc11)) ?_
       refine OA.nil ?_
       intro _
       refine RA.condT rfl ?_
       refine RA.skip env_ok ?_
       intro _
       refine RA.seq hd ?_
       refine RA.block ?_
       refine RA.seq hd ?_
       refine RA.region env_ok ?_
       refine OA.p (some 65) (Pt n 0 1) rfl rfl rfl rfl ?_
       refine OA.p (some 66) (.slice (some ⟨jq, 0, none⟩) F' 2) rfl rfl rfl (r_load1 rfl rfl rfl rfl rfl get_here rfl rfl) ?_
       refine OA.p (some 67) (.int .i64 ((i : Nat) : Int)) rfl rfl rfl rfl ?_
       refine OA.p (some 68) (Pt jq i 0) rfl rfl rfl (r_iaS (l := i) rfl rfl rfl rfl rfl rfl (by omega) (by omega) (get_there (by omega) get_here) rfl (by omega)) ?_
       have hz7 := inF_bnd (iter_bnd (far_bnd hfb hl1) (k := k)) (i := i)
       refine OA.p (some 69) (.int .i64 ((iterF k (fs ++ [(Inn.mk (((tsn - cum).toNat : Nat) : Int))])).getD i dInn).z) rfl rfl rfl (r_loadF (c := cInn) dInn rfl rfl rfl rfl rfl (get_there (by omega) get_here) (by rw [hq2]; omega) rfl) ?_
       by_cases hc12 : 1 < ((iterF k (fs ++ [(Inn.mk (((tsn - cum).toNat : Nat) : Int))])).getD i dInn).z
       ·
        refine OA.p (some 70) (.bool true) rfl rfl rfl (Eq.trans (r_bin rfl rfl rfl (b_gtr rfl)) (dT hc12)) ?_
        refine OA.nil ?_
        intro _
        refine RA.condT rfl ?_
        refine RA.region env_ok ?_
        refine OA.p (some 71) (.slice (some ⟨jo, 0, none⟩) M2 2) rfl rfl rfl rfl ?_
        refine OA.p (some 72) (Pt n 0 1) rfl rfl rfl rfl ?_
        refine OA.p (some 73) (.slice (some ⟨jq, 0, none⟩) F' 2) rfl rfl rfl (r_load1 rfl rfl rfl rfl rfl get_here rfl rfl) ?_
        refine OA.p (some 74) (.int .i64 ((i : Nat) : Int)) rfl rfl rfl rfl ?_
        refine OA.p (some 75) (Pt jq i 0) rfl rfl rfl (r_iaS (l := i) rfl rfl rfl rfl rfl rfl (by omega) (by omega) (get_there (by omega) get_here) rfl (by omega)) ?_
        have hz8 := inF_bnd (iter_bnd (far_bnd hfb hl1) (k := k)) (i := i)
        refine OA.p (some 76) (.int .i64 ((iterF k (fs ++ [(Inn.mk (((tsn - cum).toNat : Nat) : Int))])).getD i dInn).z) rfl rfl rfl (r_loadF (c := cInn) dInn rfl rfl rfl rfl rfl (get_there (by omega) get_here) (by rw [hq2]; omega) rfl) ?_
        refine OA.p (some 77) (.int .i64 (((iterF k (fs ++ [(Inn.mk (((tsn - cum).toNat : Nat) : Int))])).getD i dInn).z - 1)) rfl rfl rfl (r_bin rfl rfl rfl (b_sub (i64_eq (by omega)))) ?_
        refine OA.op1 (dst := (some 78)) (v := (.slice (some ⟨n7, 0, none⟩) 1 0)) (n1 := (n7 + 1)) (w := (n7, some ⟨[(xGp64 k fs tsn cum i)], 1, 3, true⟩)) rfl rfl rfl (by kernel_rfl) (by omega) ?_
        refine OA.op (dst := (some 79)) (v := (.slice (some ⟨(n7 + 1), 0, none⟩) (M2 + 1) 2)) (n1 := (n7 + 2)) (d1 := [((n7 + 1), some (oInn ((decF ((iterF k (fs ++ [(Inn.mk (((tsn - cum).toNat : Nat) : Int))])).take i)) ++ [(xGp69 k fs tsn cum i)]))), (jo, none)]) (D' := [((n7 + 1), some (oInn ((decF ((iterF k (fs ++ [(Inn.mk (((tsn - cum).toNat : Nat) : Int))])).take i)) ++ [(xGp69 k fs tsn cum i)]))), (jo, none), (n7, some ⟨[(xGp64 k fs tsn cum i)], 1, 3, true⟩), (n, some ⟨[(xGp61 cum k jq F' n M)], 3, 86, true⟩), (jq, some (oInn (iterF k (fs ++ [(Inn.mk (((tsn - cum).toNat : Nat) : Int))])))), (jo, some (oInn (decF ((iterF k (fs ++ [(Inn.mk (((tsn - cum).toNat : Nat) : Int))])).take i)))), ((n + 3), some (oWx ds)), ((n + 1), some ⟨[[(.int .u32 0), (.slice none 0 0), (.slice none 0 0)]], 3, 86, true⟩), (jf, none), (jx, none)]) rfl rfl rfl (r_append2x (c := cInn) (x := (xGp69 k fs tsn cum i)) (l' := ((decF ((iterF k (fs ++ [(Inn.mk (((tsn - cum).toNat : Nat) : Int))])).take i)) ++ [(xGp69 k fs tsn cum i)])) rfl rfl rfl rfl rfl rfl rfl rfl rfl rfl (by decide) (gt3 (by omega) get_here) get_here (by rw [hm2]; omega) (by rw [take_all' (by rw [hm2])]) (by omega) (of_decide_eq_true (by kernel_rfl)) (by omega)) (by omega) rfl ?_
        refine OA.p (some 8) (.slice (some ⟨(n7 + 1), 0, none⟩) (M2 + 1) 2) rfl rfl rfl rfl ?_
        refine OA.nil ?_
        intro _
        refine RA.weaken (D' := [((n7 + 1), some (oInn ((decF ((iterF k (fs ++ [(Inn.mk (((tsn - cum).toNat : Nat) : Int))])).take i)) ++ [(xGp69 k fs tsn cum i)]))), (jo, none), (n7, some ⟨[(xGp64 k fs tsn cum i)], 1, 3, true⟩), (n, some ⟨[(xGp61 cum k jq F' n M)], 3, 86, true⟩), (jq, some (oInn (iterF k (fs ++ [(Inn.mk (((tsn - cum).toNat : Nat) : Int))])))), ((n + 3), some (oWx ds)), ((n + 1), some ⟨[[(.int .u32 0), (.slice none 0 0), (.slice none 0 0)]], 3, 86, true⟩), (jf, none), (jx, none)]) hd (Less.of (fac (mm (fun _ => get_here) (fun _ => get_here)) (fac (mm (fun _ => (get_there (by omega) get_here)) (fun _ => (get_there (by omega) get_here))) (fac (mm (fun _ => (gt2 (by omega) get_here)) (fun _ => (gt2 (by omega) get_here))) (fac (mm (fun _ => (gt3 (by omega) get_here)) (fun _ => (gt3 (by omega) get_here))) (fac (mm (fun _ => (gt4 (by omega) get_here)) (fun _ => (gt4 (by omega) get_here))) (fac (mm (fun _ => (gt5 (by omega) get_here)) (fun _ => (gt6 (by omega) get_here))) (fac (mm (fun _ => (gt6 (by omega) get_here)) (fun _ => (gt7 (by omega) get_here))) (fac (mm (fun _ => (gt7 (by omega) get_here)) (fun _ => (gt8 (by omega) get_here))) (fac (mm (fun _ => (gt8 (by omega) get_here)) (fun _ => (gt9 (by omega) get_here))) fan))))))))) (gone_of (by simp only [goneP, memP, List.cons_append, List.nil_append, true_or, or_true, true_and, and_true, or_false] <;> omega))) ?_
        refine RA.region env_ok ?_
        refine OA.p (some 63) (.int .i64 ((i : Nat) : Int)) rfl rfl rfl rfl ?_
        refine OA.p (some 64) (.int .i64 (((i + 1) : Nat) : Int)) rfl rfl rfl (r_bin rfl rfl rfl (b_add (i64_eq (by omega)))) ?_
        refine OA.p (some 9) (.int .i64 (((i + 1) : Nat) : Int)) rfl rfl rfl rfl ?_
        refine OA.nil ?_
        refine ⟨F' - (i + 1), by omega, [(n, some ⟨[(xGp61 cum k jq F' n M)], 3, 86, true⟩), (jq, some (oInn (iterF k (fs ++ [(Inn.mk (((tsn - cum).toNat : Nat) : Int))])))), ((n7 + 1), some (oInn ((decF ((iterF k (fs ++ [(Inn.mk (((tsn - cum).toNat : Nat) : Int))])).take i)) ++ [(xGp69 k fs tsn cum i)]))), ((n + 3), some (oWx ds)), ((n + 1), some ⟨[[(.int .u32 0), (.slice none 0 0), (.slice none 0 0)]], 3, 86, true⟩), (jf, none), (jx, none)], (Less.of (fac (mm (fun _ => get_here) (fun _ => (gt3 (by omega) get_here))) (fac (mm (fun _ => (get_there (by omega) get_here)) (fun _ => (gt4 (by omega) get_here))) (fac (mm (fun _ => (gt2 (by omega) get_here)) (fun _ => get_here)) (fac (mm (fun _ => (gt3 (by omega) get_here)) (fun _ => (gt5 (by omega) get_here))) (fac (mm (fun _ => (gt4 (by omega) get_here)) (fun _ => (gt6 (by omega) get_here))) (fac (mm (fun _ => (gt5 (by omega) get_here)) (fun _ => (gt7 (by omega) get_here))) (fac (mm (fun _ => (gt6 (by omega) get_here)) (fun _ => (gt8 (by omega) get_here))) fan))))))) (gone_of (by simp only [goneP, memP, List.cons_append, List.nil_append, true_or, or_true, true_and, and_true, or_false] <;> omega))), ⟨(i + 1), (n7 + 1), (M2 + 1), rfl, by omega, ⟨rfl, rfl, rfl, rfl, rfl, rfl, trivial⟩, (by rw [decF_yes (by omega) hc12]), (kb7 (by omega)), ⟨by omega, by rw [decF_yes (by omega) hc12]; rw [List.length_append, List.length_singleton, hm2], by omega, by omega⟩⟩⟩
       ·
        refine OA.p (some 70) (.bool false) rfl rfl rfl (Eq.trans (r_bin rfl rfl rfl (b_gtr rfl)) (dF hc12)) ?_
        refine OA.nil ?_
        intro _
        refine RA.condF rfl ?_
        refine RA.skip env_ok ?_
        intro _
        refine RA.region env_ok ?_
        refine OA.p (some 63) (.int .i64 ((i : Nat) : Int)) rfl rfl rfl rfl ?_
        refine OA.p (some 64) (.int .i64 (((i + 1) : Nat) : Int)) rfl rfl rfl (r_bin rfl rfl rfl (b_add (i64_eq (by omega)))) ?_
        refine OA.p (some 9) (.int .i64 (((i + 1) : Nat) : Int)) rfl rfl rfl rfl ?_
        refine OA.nil ?_
        refine ⟨F' - (i + 1), by omega, [(n, some ⟨[(xGp61 cum k jq F' n M)], 3, 86, true⟩), (jq, some (oInn (iterF k (fs ++ [(Inn.mk (((tsn - cum).toNat : Nat) : Int))])))), (jo, some (oInn (decF ((iterF k (fs ++ [(Inn.mk (((tsn - cum).toNat : Nat) : Int))])).take i)))), ((n + 3), some (oWx ds)), ((n + 1), some ⟨[[(.int .u32 0), (.slice none 0 0), (.slice none 0 0)]], 3, 86, true⟩), (jf, none), (jx, none)], (Less.refl _ _ _), ⟨(i + 1), jo, M2, rfl, by omega, ⟨rfl, rfl, rfl, rfl, rfl, rfl, trivial⟩, (by rw [decF_no (by omega) hc12]), (kb7 (by omega)), ⟨by omega, by rw [decF_no (by omega) hc12]; exact hm2, by omega, by omega⟩⟩⟩
      ·
       refine OA.p (some 62) (.bool false) rfl rfl rfl (Eq.trans (r_bin rfl rfl rfl (b_lss rfl)) (dF hc11)) ?_
       refine OA.nil ?_
       intro _
       refine RA.condF rfl ?_
       refine RA.exit env_ok ?_
       intro _
       refine RA.region env_ok ?_
       refine OA.p (some 80) (.slice (some ⟨jo, 0, none⟩) M2 2) rfl rfl rfl rfl ?_
       refine OA.p (some 81) (Pt n 0 1) rfl rfl rfl rfl ?_
       refine OA.op1 (dst := none) (v := (.tuple #[])) (n1 := n7) (w := (n, some ⟨[(xGp62 cum k jo M2 n M)], 3, 86, true⟩)) rfl rfl rfl (r_store rfl rfl rfl rfl rfl rfl rfl get_here rfl rfl (Nat.le_of_ble_eq_true rfl) rfl) (by omega) ?_
       refine OA.nil ?_
       intro _
       refine RA.weaken (D' := [(n, some ⟨[(xGp62 cum k jo M2 n M)], 3, 86, true⟩), (jq, some (oInn (iterF k (fs ++ [(Inn.mk (((tsn - cum).toNat : Nat) : Int))])))), (jo, some (oInn (decF ((iterF k (fs ++ [(Inn.mk (((tsn - cum).toNat : Nat) : Int))])).take i)))), ((n + 3), some (oWx ds)), ((n + 1), some ⟨[[(.int .u32 0), (.slice none 0 0), (.slice none 0 0)]], 3, 86, true⟩), (jf, none), (jx, none)]) hd (Less.of (fac (mm (fun _ => get_here) (fun _ => get_here)) (fac (mm (fun _ => (get_there (by omega) get_here)) (fun _ => (gt2 (by omega) get_here))) (fac (mm (fun _ => (gt2 (by omega) get_here)) (fun _ => (gt3 (by omega) get_here))) (fac (mm (fun _ => (gt3 (by omega) get_here)) (fun _ => (gt4 (by omega) get_here))) (fac (mm (fun _ => (gt4 (by omega) get_here)) (fun _ => (gt5 (by omega) get_here))) (fac (mm (fun _ => (gt5 (by omega) get_here)) (fun _ => (gt6 (by omega) get_here))) (fac (mm (fun _ => (gt6 (by omega) get_here)) (fun _ => (gt7 (by omega) get_here))) fan))))))) (gone_of (by simp only [goneP, memP, List.cons_append, List.nil_append, true_or, or_true, true_and, and_true, or_false] <;> omega))) ?_
       refine RA.region env_ok ?_
       refine OA.p (some 51) (.int .i64 ((k : Nat) : Int)) rfl rfl rfl rfl ?_
       refine OA.p (some 52) (.int .i64 (((k + 1) : Nat) : Int)) rfl rfl rfl (r_bin rfl rfl rfl (b_add (i64_eq (by omega)))) ?_
       refine OA.p (some 7) (.int .i64 (((k + 1) : Nat) : Int)) rfl rfl rfl rfl ?_
       refine OA.nil ?_
       refine ⟨1001 - (k + 1), by omega, [(n, some ⟨[(xGp62 cum k jo M2 n M)], 3, 86, true⟩), (jo, some (oInn (decF ((iterF k (fs ++ [(Inn.mk (((tsn - cum).toNat : Nat) : Int))])).take i)))), ((n + 3), some (oWx ds)), ((n + 1), some ⟨[[(.int .u32 0), (.slice none 0 0), (.slice none 0 0)]], 3, 86, true⟩), (jf, none), (jx, none)], (Less.of (fac (mm (fun _ => get_here) (fun _ => get_here)) (fac (mm (fun _ => (get_there (by omega) get_here)) (fun _ => (gt2 (by omega) get_here))) (fac (mm (fun _ => (gt2 (by omega) get_here)) (fun _ => (gt3 (by omega) get_here))) (fac (mm (fun _ => (gt3 (by omega) get_here)) (fun _ => (gt4 (by omega) get_here))) (fac (mm (fun _ => (gt4 (by omega) get_here)) (fun _ => (gt5 (by omega) get_here))) (fac (mm (fun _ => (gt5 (by omega) get_here)) (fun _ => (gt6 (by omega) get_here))) fan)))))) (gone_of (by simp only [goneP, memP, List.cons_append, List.nil_append, true_or, or_true, true_and, and_true, or_false] <;> omega))), ⟨(k + 1), jo, M2, rfl, by omega, ⟨rfl, rfl, rfl, rfl, trivial⟩, (cong2 (fun (c' : BitVec 32) (l' : List Inn) => ([(n, some ⟨[[(W c'), (.slice (some ⟨jo, 0, none⟩) M2 2), (.slice (some ⟨(n + 3), 0, none⟩) M 2)]], 3, 86, true⟩), (jo, some (oInn l')), ((n + 3), some (oWx ds)), ((n + 1), some ⟨[[(.int .u32 0), (.slice none 0 0), (.slice none 0 0)]], 3, 86, true⟩), (jf, none), (jx, none)] : Delta)) ofNat_succ (show decF ((iterF k (fs ++ [(Inn.mk (((tsn - cum).toNat : Nat) : Int))])).take i) = iterF (k + 1) (fs ++ [(Inn.mk (((tsn - cum).toNat : Nat) : Int))]) from by rw [List.take_of_length_le (by omega)]; rfl)), (kb6 (by omega)), ⟨by omega, it_all hall w_has, by rw [show iterF (k + 1) (fs ++ [(Inn.mk (((tsn - cum).toNat : Nat) : Int))]) = decF (iterF k (fs ++ [(Inn.mk (((tsn - cum).toNat : Nat) : Int))])) from rfl]; rw [List.take_of_length_le (by omega)] at hm2; exact hm2, by omega, by omega⟩⟩⟩
     ·
      refine OA.callP (dst := (some 49)) (all := [(.agg ⟨(xGp63 cum k jq F' n M)⟩), (.int .i64 1)]) (v := (.bool false)) (hd.of (by omega) (kb6 (by omega))) rfl rfl rfl rfl rfl rfl rfl rfl (PS.to (rHas jq (n + 3) F' M (cum + (BitVec.ofNat 32 k)) (iterF k (fs ++ [(Inn.mk (((tsn - cum).toNat : Nat) : Int))])) (by rw [hq2]) (by omega) 1 (get_there (by omega) get_here)) (show (.bool (inF 1 (iterF k (fs ++ [(Inn.mk (((tsn - cum).toNat : Nat) : Int))])))) = ((.bool false) : Value) from (by first | (rw [eq_false_of_ne_true hc10]; done) | (rw [eq_false_of_ne_true hc10]; rfl)))) ?_
      intro n10 hn10
      refine OA.p (some 50) (.bool false) rfl rfl rfl rfl ?_
      refine OA.nil ?_
      intro _
      refine RA.condF rfl ?_
      refine RA.exit env_ok ?_
      intro _
      refine RA.seq hd ?_
      refine RA.region env_ok ?_
      refine OA.p (some 82) (.agg ⟨(xGp63 cum k jq F' n M)⟩) rfl rfl rfl (r_loadA rfl rfl rfl rfl get_here rfl rfl rfl) ?_
      refine OA.op1 (dst := none) (v := (.tuple #[])) (n1 := n10) (w := ((n + 1), some ⟨[(xGp63 cum k jq F' n M)], 3, 86, true⟩)) rfl rfl rfl (r_store rfl rfl rfl rfl rfl rfl rfl (gt3 (by omega) get_here) rfl rfl (Nat.le_of_ble_eq_true rfl) rfl) (by omega) ?_
      refine OA.p (some 5) (.int .i64 1) rfl rfl rfl rfl ?_
      refine OA.nil ?_
      intro _
      refine RA.ret env_ok ?_
      refine ⟨.inr rfl, [(.agg ⟨(xGp63 cum k jq F' n M)⟩), (.int .i64 1)], (resL_cons (res_cellA rfl rfl rfl get_here rfl rfl rfl) (resL_cons rfl resL_nil)), [(jq, some (oInn (iterF k (fs ++ [(Inn.mk (((tsn - cum).toNat : Nat) : Int))])))), ((n + 3), some (oWx ds)), (jf, none), (jx, none)], (Less.of (fac (mm (fun _ => get_here) (fun _ => (gt2 (by omega) get_here))) (fac (mm (fun _ => (get_there (by omega) get_here)) (fun _ => (gt3 (by omega) get_here))) (fac (mm (fun _ => (gt2 (by omega) get_here)) (fun _ => (gt5 (by omega) get_here))) (fac (mm (fun _ => (gt3 (by omega) get_here)) (fun _ => (gt6 (by omega) get_here))) fan)))) (gone_of (by simp only [goneP, memP, List.cons_append, List.nil_append, true_or, or_true, true_and, and_true, or_false] <;> omega))), ⟨k, jq, (n + 3), by omega, by omega, by omega, by omega, by omega, F', M, by rw [(show fsA cum fs tsn = (fs ++ [(Inn.mk (((tsn - cum).toNat : Nat) : Int))]) from if_pos hl1)]; exact hq2, by rw [(show dupA cum fs ds tsn = ds from if_neg (by rw [hl1]; decide))]; exact hds, by omega, by omega, (by unfold kok; rw [if_pos hl1, (show fsA cum fs tsn = (fs ++ [(Inn.mk (((tsn - cum).toNat : Nat) : Int))]) from if_pos hl1)]; exact ⟨hall, by first | (left; omega) | (right; assumption)⟩), by rw [hl1]; rfl, by rw [(show fsA cum fs tsn = (fs ++ [(Inn.mk (((tsn - cum).toNat : Nat) : Int))]) from if_pos hl1), (show dupA cum fs ds tsn = ds from if_neg (by rw [hl1]; decide))]⟩⟩
    ·
     refine OA.p (some 46) (.bool false) rfl rfl rfl (Eq.trans (r_bin rfl rfl rfl (b_leq rfl)) (dF hc9)) ?_
     refine OA.p (some 47) (.bool false) rfl rfl rfl rfl ?_
     refine OA.off (dst := (some 48)) rfl rfl rfl ?_
     refine OA.off (dst := (some 49)) rfl rfl rfl ?_
     refine OA.p (some 50) (.bool false) rfl rfl rfl rfl ?_
     refine OA.nil ?_
     intro _
     refine RA.condF rfl ?_
     refine RA.exit env_ok ?_
     intro _
     refine RA.seq hd ?_
     refine RA.region env_ok ?_
     refine OA.p (some 82) (.agg ⟨(xGp63 cum k jq F' n M)⟩) rfl rfl rfl (r_loadA rfl rfl rfl rfl get_here rfl rfl rfl) ?_
     refine OA.op1 (dst := none) (v := (.tuple #[])) (n1 := n5) (w := ((n + 1), some ⟨[(xGp63 cum k jq F' n M)], 3, 86, true⟩)) rfl rfl rfl (r_store rfl rfl rfl rfl rfl rfl rfl (gt3 (by omega) get_here) rfl rfl (Nat.le_of_ble_eq_true rfl) rfl) (by omega) ?_
     refine OA.p (some 5) (.int .i64 1) rfl rfl rfl rfl ?_
     refine OA.nil ?_
     intro _
     refine RA.ret env_ok ?_
     refine ⟨.inr rfl, [(.agg ⟨(xGp63 cum k jq F' n M)⟩), (.int .i64 1)], (resL_cons (res_cellA rfl rfl rfl get_here rfl rfl rfl) (resL_cons rfl resL_nil)), [(jq, some (oInn (iterF k (fs ++ [(Inn.mk (((tsn - cum).toNat : Nat) : Int))])))), ((n + 3), some (oWx ds)), (jf, none), (jx, none)], (Less.of (fac (mm (fun _ => get_here) (fun _ => (gt2 (by omega) get_here))) (fac (mm (fun _ => (get_there (by omega) get_here)) (fun _ => (gt3 (by omega) get_here))) (fac (mm (fun _ => (gt2 (by omega) get_here)) (fun _ => (gt5 (by omega) get_here))) (fac (mm (fun _ => (gt3 (by omega) get_here)) (fun _ => (gt6 (by omega) get_here))) fan)))) (gone_of (by simp only [goneP, memP, List.cons_append, List.nil_append, true_or, or_true, true_and, and_true, or_false] <;> omega))), ⟨k, jq, (n + 3), by omega, by omega, by omega, by omega, by omega, F', M, by rw [(show fsA cum fs tsn = (fs ++ [(Inn.mk (((tsn - cum).toNat : Nat) : Int))]) from if_pos hl1)]; exact hq2, by rw [(show dupA cum fs ds tsn = ds from if_neg (by rw [hl1]; decide))]; exact hds, by omega, by omega, (by unfold kok; rw [if_pos hl1, (show fsA cum fs tsn = (fs ++ [(Inn.mk (((tsn - cum).toNat : Nat) : Int))]) from if_pos hl1)]; exact ⟨hall, by first | (left; omega) | (right; assumption)⟩), by rw [hl1]; rfl, by rw [(show fsA cum fs tsn = (fs ++ [(Inn.mk (((tsn - cum).toNat : Nat) : Int))]) from if_pos hl1), (show dupA cum fs ds tsn = ds from if_neg (by rw [hl1]; decide))]⟩⟩
   ·
    refine PQ.op (dst := (some 36)) (v := (.slice (some ⟨(n1 + 1), 0, none⟩) F 0)) (n1 := (n1 + 2)) (d1 := [((n1 + 1), some (oInn fs)), (n1, none)]) rfl rfl rfl _ (seen_any (V := [(n1, some (oInn ([] : List Inn)))]) (D := [(n, some ⟨[[(W cum), (.slice (some ⟨(n + 2), 0, none⟩) F 2), (.slice (some ⟨(n + 3), 0, none⟩) M 2)]], 3, 86, true⟩), ((n + 3), some (oWx ds)), (jx, none), (n, some ⟨[[(W cum), (.slice (some ⟨(n + 2), 0, none⟩) F 2), (.slice (some ⟨jx, 0, none⟩) M 2)]], 3, 86, true⟩), ((n + 2), some (oInn fs)), (jf, none), ((n + 1), some ⟨[[(.int .u32 0), (.slice none 0 0), (.slice none 0 0)]], 3, 86, true⟩), (n, some ⟨[[(W cum), (.slice (some ⟨jf, 0, none⟩) F 2), (.slice (some ⟨jx, 0, none⟩) M 2)]], 3, 86, true⟩)]) (by kernel_rfl)) (r_appendL (c := cInn) (l' := fs) rfl rfl rfl rfl rfl rfl rfl rfl rfl rfl (by decide) get_here (gt5 (by omega) get_here) (by rw [show ([] : List Inn).length = 0 from rfl]) (by omega) (by rw [hfs]; omega) (by rw [List.nil_append]; exact take_all' (by rw [hfs])) (by omega) (of_decide_eq_true (by kernel_rfl)) (by omega)) (by omega) (kp2 (wr_new (by omega) (by omega)) (wr_late [4, 5, 6, 7, 8, 9] (by kernel_rfl) (by kernel_rfl) (by omega) 0 (by kernel_rfl) (by simp [keys]) (fac (lo0 rfl) (fac (lo0 rfl) (fac (lo1 rfl (by omega)) (fac (lo0 rfl) (fac (lo0 rfl) (fac (lo0 rfl) fan)))))))) ?_
    refine PQ.pure (dst := (some 37)) (v := (W tsn)) rfl rfl rfl noStore (none_ok _ _) rfl ?_
    refine PQ.pure (dst := (some 38)) (v := (Pt n 0 0)) rfl rfl rfl noStore (none_ok _ _) rfl ?_
    refine PQ.pure (dst := (some 39)) (v := (W cum)) rfl rfl rfl (app [(n, some ⟨[[(W cum), (.slice (some ⟨(n + 2), 0, none⟩) F 2), (.slice (some ⟨(n + 3), 0, none⟩) M 2)]], 3, 86, true⟩)] noStore) (seen_one (V := []) (D := [(n, some ⟨[[(W cum), (.slice (some ⟨(n + 2), 0, none⟩) F 2), (.slice (some ⟨(n + 3), 0, none⟩) M 2)]], 3, 86, true⟩), ((n + 3), some (oWx ds)), (jx, none), (n, some ⟨[[(W cum), (.slice (some ⟨(n + 2), 0, none⟩) F 2), (.slice (some ⟨jx, 0, none⟩) M 2)]], 3, 86, true⟩), ((n + 2), some (oInn fs)), (jf, none), ((n + 1), some ⟨[[(.int .u32 0), (.slice none 0 0), (.slice none 0 0)]], 3, 86, true⟩), (n, some ⟨[[(W cum), (.slice (some ⟨jf, 0, none⟩) F 2), (.slice (some ⟨jx, 0, none⟩) M 2)]], 3, 86, true⟩)]) (by kernel_rfl) get_here) (r_load1 rfl rfl rfl rfl rfl get_here rfl rfl) ?_
    refine PQ.pure (dst := (some 40)) (v := (W (tsn - cum))) rfl rfl rfl noStore (none_ok _ _) (r_bin rfl rfl rfl (b_subW tsn cum)) ?_
    refine PQ.pure (dst := (some 41)) (v := (.int .i64 (((tsn - cum).toNat : Nat) : Int))) rfl rfl rfl noStore (none_ok _ _) (r_cvt rfl rfl rfl rfl rfl ⟨_, rfl⟩ (i64_eq (by have := ((tsn - cum)).isLt; omega))) ?_
    refine PQ.op (dst := (some 42)) (v := (.slice (some ⟨(n1 + 2), 0, none⟩) 1 0)) (n1 := (n1 + 3)) (d1 := [((n1 + 2), some ⟨[[(.int .i64 (((tsn - cum).toNat : Nat) : Int))]], 1, 3, true⟩)]) rfl rfl rfl noStore (none_ok _ _) (by kernel_rfl) (by omega) (kp1 (wr_new (by omega) (by omega))) ?_
    refine PQ.op (dst := (some 43)) (v := (.slice (some ⟨(n1 + 3), 0, none⟩) (F + 1) 0)) (n1 := (n1 + 4)) (d1 := [((n1 + 3), some (oInn (fs ++ [(Inn.mk (((tsn - cum).toNat : Nat) : Int))]))), ((n1 + 1), none)]) rfl rfl rfl _ (seen_any (V := [((n1 + 2), some ⟨[[(.int .i64 (((tsn - cum).toNat : Nat) : Int))]], 1, 3, true⟩), ((n1 + 1), some (oInn fs)), (n1, none), (n1, some (oInn ([] : List Inn)))]) (D := [(n, some ⟨[[(W cum), (.slice (some ⟨(n + 2), 0, none⟩) F 2), (.slice (some ⟨(n + 3), 0, none⟩) M 2)]], 3, 86, true⟩), ((n + 3), some (oWx ds)), (jx, none), (n, some ⟨[[(W cum), (.slice (some ⟨(n + 2), 0, none⟩) F 2), (.slice (some ⟨jx, 0, none⟩) M 2)]], 3, 86, true⟩), ((n + 2), some (oInn fs)), (jf, none), ((n + 1), some ⟨[[(.int .u32 0), (.slice none 0 0), (.slice none 0 0)]], 3, 86, true⟩), (n, some ⟨[[(W cum), (.slice (some ⟨jf, 0, none⟩) F 2), (.slice (some ⟨jx, 0, none⟩) M 2)]], 3, 86, true⟩)]) (by kernel_rfl)) (r_appendR (c := cInn) (l' := (fs ++ [(Inn.mk (((tsn - cum).toNat : Nat) : Int))])) rfl rfl rfl rfl rfl rfl rfl rfl rfl rfl (by decide) (get_there (by omega) get_here) get_here (by rw [hfs]) (mp_snoc (c := cInn) (x := (Inn.mk (((tsn - cum).toNat : Nat) : Int)))) (by omega) (of_decide_eq_true (by kernel_rfl)) (by omega)) (by omega) (kp2 (wr_new (by omega) (by omega)) (wr_tight (by kernel_rfl) (by omega))) ?_
    refine PQ.pure (dst := (some 44)) (v := (Pt n 0 1)) rfl rfl rfl noStore (none_ok _ _) rfl ?_
    refine PQ.op (dst := none) (v := (.tuple #[])) (n1 := (n1 + 4)) (d1 := [(n, some ⟨[(xGp67 cum n1 F n M)], 3, 86, true⟩)]) rfl rfl rfl _ (seen_any (V := [((n1 + 3), some (oInn (fs ++ [(Inn.mk (((tsn - cum).toNat : Nat) : Int))]))), ((n1 + 1), none), ((n1 + 2), some ⟨[[(.int .i64 (((tsn - cum).toNat : Nat) : Int))]], 1, 3, true⟩), ((n1 + 1), some (oInn fs)), (n1, none), (n1, some (oInn ([] : List Inn)))]) (D := [(n, some ⟨[[(W cum), (.slice (some ⟨(n + 2), 0, none⟩) F 2), (.slice (some ⟨(n + 3), 0, none⟩) M 2)]], 3, 86, true⟩), ((n + 3), some (oWx ds)), (jx, none), (n, some ⟨[[(W cum), (.slice (some ⟨(n + 2), 0, none⟩) F 2), (.slice (some ⟨jx, 0, none⟩) M 2)]], 3, 86, true⟩), ((n + 2), some (oInn fs)), (jf, none), ((n + 1), some ⟨[[(.int .u32 0), (.slice none 0 0), (.slice none 0 0)]], 3, 86, true⟩), (n, some ⟨[[(W cum), (.slice (some ⟨jf, 0, none⟩) F 2), (.slice (some ⟨jx, 0, none⟩) M 2)]], 3, 86, true⟩)]) (by kernel_rfl)) (r_store rfl rfl rfl rfl rfl rfl rfl (gt6 (by omega) get_here) rfl rfl (Nat.le_of_ble_eq_true rfl) rfl) (by omega) (kp1 (wr_tight (by kernel_rfl) (by omega))) ?_
    refine PQ.done (d := [(n, some ⟨[(xGp67 cum n1 F n M)], 3, 86, true⟩), ((n1 + 3), some (oInn (fs ++ [(Inn.mk (((tsn - cum).toNat : Nat) : Int))]))), ((n1 + 1), none), ((n1 + 2), some ⟨[[(.int .i64 (((tsn - cum).toNat : Nat) : Int))]], 1, 3, true⟩), ((n1 + 1), some (oInn fs)), (n1, none), (n1, some (oInn ([] : List Inn)))]) (by kernel_rfl) ?_
    intro _
    refine RA.weaken (D' := [(n, some ⟨[(xGp67 cum n1 F n M)], 3, 86, true⟩), ((n1 + 3), some (oInn (fs ++ [(Inn.mk (((tsn - cum).toNat : Nat) : Int))]))), ((n1 + 1), none), ((n1 + 2), some ⟨[[(.int .i64 (((tsn - cum).toNat : Nat) : Int))]], 1, 3, true⟩), (n1, none), ((n + 3), some (oWx ds)), (jx, none), ((n + 2), some (oInn fs)), (jf, none), ((n + 1), some ⟨[[(.int .u32 0), (.slice none 0 0), (.slice none 0 0)]], 3, 86, true⟩)]) hd (Less.of (fac (mm (fun _ => get_here) (fun _ => get_here)) (fac (mm (fun _ => (get_there (by omega) get_here)) (fun _ => (get_there (by omega) get_here))) (fac (mm (fun _ => (gt2 (by omega) get_here)) (fun _ => (gt2 (by omega) get_here))) (fac (mm (fun _ => (gt3 (by omega) get_here)) (fun _ => (gt3 (by omega) get_here))) (fac (mm (fun _ => (gt4 (by omega) get_here)) (fun _ => (gt5 (by omega) get_here))) (fac (mm (fun _ => (gt5 (by omega) get_here)) (fun _ => (gt8 (by omega) get_here))) (fac (mm (fun _ => (gt6 (by omega) get_here)) (fun _ => (gt9 (by omega) get_here))) (fac (mm (fun _ => (gt7 (by omega) get_here)) (fun _ => (gt11 (by omega) get_here))) (fac (mm (fun _ => (gt8 (by omega) get_here)) (fun _ => (gt12 (by omega) get_here))) (fac (mm (fun _ => (gt9 (by omega) get_here)) (fun _ => (gt13 (by omega) get_here))) fan)))))))))) (gone_of (by simp only [goneP, memP, List.cons_append, List.nil_append, true_or, or_true, true_and, and_true, or_false] <;> omega))) ?_
    refine RA.rebase [(0, (.agg ⟨[(W cum), (.slice (some ⟨jf, 0, none⟩) F 2), (.slice (some ⟨jx, 0, none⟩) M 2)]⟩)), (1, (W tsn)), (2, (Pt n 0 0)), (4, (.pointer (some ⟨(n + 1), 0, some 0⟩))), (5, (.int .i64 0)), (6, (.int .i64 (lookR cum fs tsn))), (20, (.bool false)), (30, (.bool false))] ⟨rfl, rfl, rfl, rfl, rfl, rfl, rfl, rfl, trivial⟩ (fun τr11 => ?_)
    refine RA.seq hd ?_
    refine RA.seq hd ?_
    refine RA.region env_ok ?_
    refine OA.p (some 7) (.int .i64 0) rfl rfl rfl rfl ?_
    refine OA.nil ?_
    intro _
    refine RA.block ?_
    refine RA.le (ob := ⟨[(xGp67 cum n1 F n M)], 3, 86, true⟩) (ob' := ⟨[(xGp68 cum n1 F n M)], 3, 86, true⟩) get_here (OLe.one (cs := (xGp67 cum n1 F n M)) (cs' := (xGp68 cum n1 F n M)) ⟨VLe.refl _, (vle_row _ _ _), VLe.refl _, trivial⟩ rfl) ?_
    refine RA.weaken (D' := [(n, some ⟨[(xGp68 cum n1 F n M)], 3, 86, true⟩), ((n1 + 3), some (oInn (fs ++ [(Inn.mk (((tsn - cum).toNat : Nat) : Int))]))), ((n + 3), some (oWx ds)), ((n + 1), some ⟨[[(.int .u32 0), (.slice none 0 0), (.slice none 0 0)]], 3, 86, true⟩), (jf, none), (jx, none)]) hd (Less.of (fac (mm (fun _ => get_here) (fun _ => get_here)) (fac (mm (fun _ => (get_there (by omega) get_here)) (fun _ => (gt2 (by omega) get_here))) (fac (mm (fun _ => (gt2 (by omega) get_here)) (fun _ => (gt6 (by omega) get_here))) (fac (mm (fun _ => (gt3 (by omega) get_here)) (fun _ => (gt10 (by omega) get_here))) (fac (mm (fun _ => (gt4 (by omega) get_here)) (fun _ => (gt9 (by omega) get_here))) (fac (mm (fun _ => (gt5 (by omega) get_here)) (fun _ => (gt7 (by omega) get_here))) fan)))))) (gone_of (by simp only [goneP, memP, List.cons_append, List.nil_append, true_or, or_true, true_and, and_true, or_false] <;> omega))) ?_
    refine RA.loop hd (fun kk_ τ n' D => (∃ k : Nat, ∃ jq : Nat, ∃ F' : Nat, kk_ = 1001 - k ∧ (n1 + 4) ≤ n' ∧ Has τ [(1, (W tsn)), (2, (Pt n 0 0)), (4, (.pointer (some ⟨(n + 1), 0, some 0⟩))), (7, (.int .i64 ((k : Nat) : Int)))] ∧ D = [(n, some ⟨[(xGp63 cum k jq F' n M)], 3, 86, true⟩), (jq, some (oInn (iterF k (fs ++ [(Inn.mk (((tsn - cum).toNat : Nat) : Int))])))), ((n + 3), some (oWx ds)), ((n + 1), some ⟨[[(.int .u32 0), (.slice none 0 0), (.slice none 0 0)]], 3, 86, true⟩), (jf, none), (jx, none)] ∧ (∀ i ∈ keys D, i < n') ∧ k ≤ 1001 ∧ (∀ j, j < k → inF 1 (iterF j (fs ++ [(Inn.mk (((tsn - cum).toNat : Nat) : Int))])) = true) ∧ (iterF k (fs ++ [(Inn.mk (((tsn - cum).toNat : Nat) : Int))])).length = F' ∧ F' ≤ F + 1 ∧ (n + 3) < jq)) (1001 - 0) (⟨0, (n1 + 3), (F + 1), rfl, by omega, ⟨rfl, rfl, rfl, rfl, trivial⟩, (cong2 (fun (c' : BitVec 32) (l' : List Inn) => ([(n, some ⟨[[(W c'), (.slice (some ⟨(n1 + 3), 0, none⟩) (F + 1) 2), (.slice (some ⟨(n + 3), 0, none⟩) M 2)]], 3, 86, true⟩), ((n1 + 3), some (oInn l')), ((n + 3), some (oWx ds)), ((n + 1), some ⟨[[(.int .u32 0), (.slice none 0 0), (.slice none 0 0)]], 3, 86, true⟩), (jf, none), (jx, none)] : Delta)) (show cum = cum + BitVec.ofNat 32 0 from by simp) (show ((fs ++ [(Inn.mk (((tsn - cum).toNat : Nat) : Int))]) : List Inn) = iterF 0 (fs ++ [(Inn.mk (((tsn - cum).toNat : Nat) : Int))]) from (by rfl))), (kb6 (by omega)), ⟨by omega, fun j hj => absurd hj (by omega), (show ((fs ++ [(Inn.mk (((tsn - cum).toNat : Nat) : Int))]) : List Inn).length = (F + 1) from (congrArg List.length (show ((fs ++ [(Inn.mk (((tsn - cum).toNat : Nat) : Int))]) : List Inn) = (fs ++ [(Inn.mk (((tsn - cum).toNat : Nat) : Int))]) from (by rfl))).symm.trans (show _ = _ from by rw [List.length_append, List.length_singleton, hfs])), by omega, by omega⟩⟩) ?_
    rintro kn12 τ12 n12 _ ⟨k, jq, F', rfl, hn12, hHn12, rfl, hKn12, hIn12⟩
    rw [Has.eq hHn12]
    have hKn12_0 : n < n12 := hKn12 _ (by simp only [keys, List.map_cons, List.map_nil, List.mem_cons, true_or, or_true])
    have hKn12_1 : jq < n12 := hKn12 _ (by simp only [keys, List.map_cons, List.map_nil, List.mem_cons, true_or, or_true])
    have hKn12_2 : (n + 3) < n12 := hKn12 _ (by simp only [keys, List.map_cons, List.map_nil, List.mem_cons, true_or, or_true])
    have hKn12_3 : (n + 1) < n12 := hKn12 _ (by simp only [keys, List.map_cons, List.map_nil, List.mem_cons, true_or, or_true])
    have hKn12_4 : jf < n12 := hKn12 _ (by simp only [keys, List.map_cons, List.map_nil, List.mem_cons, true_or, or_true])
    have hKn12_5 : jx < n12 := hKn12 _ (by simp only [keys, List.map_cons, List.map_nil, List.mem_cons, true_or, or_true])
    clear hKn12
    obtain ⟨hk1, hall, hq2, hq3, hq4⟩ := hIn12
    refine RA.seq hd ?_
    refine RA.seq hd ?_
    refine RA.region env_ok ?_
    refine OA.p (some 45) (.int .i64 ((k : Nat) : Int)) rfl rfl rfl rfl ?_
    by_cases hc13 : ((k : Nat) : Int) ≤ 1000
    ·
     refine OA.p (some 46) (.bool true) rfl rfl rfl (Eq.trans (r_bin rfl rfl rfl (b_leq rfl)) (dT hc13)) ?_
     refine OA.p (some 47) (.bool true) rfl rfl rfl rfl ?_
     refine OA.p (some 48) (.agg ⟨(xGp63 cum k jq F' n M)⟩) rfl rfl rfl (r_loadA rfl rfl rfl rfl get_here rfl rfl rfl) ?_
     by_cases hc14 : (inF 1 (iterF k (fs ++ [(Inn.mk (((tsn - cum).toNat : Nat) : Int))]))) = true
     ·
      refine OA.callP (dst := (some 49)) (all := [(.agg ⟨(xGp63 cum k jq F' n M)⟩), (.int .i64 1)]) (v := (.bool true)) (hd.of (by omega) (kb6 (by omega))) rfl rfl rfl rfl rfl rfl rfl rfl (PS.to (rHas jq (n + 3) F' M (cum + (BitVec.ofNat 32 k)) (iterF k (fs ++ [(Inn.mk (((tsn - cum).toNat : Nat) : Int))])) (by rw [hq2]) (by omega) 1 (get_there (by omega) get_here)) (show (.bool (inF 1 (iterF k (fs ++ [(Inn.mk (((tsn - cum).toNat : Nat) : Int))])))) = ((.bool true) : Value) from (by first | (rw [hc14]; done) | (rw [hc14]; rfl)))) ?_
      intro n13 hn13
      refine OA.p (some 50) (.bool true) rfl rfl rfl rfl ?_
      refine OA.nil ?_
      intro _
      refine RA.condT rfl ?_
      refine RA.skip env_ok ?_
      intro _
      refine RA.seq hd ?_
      refine RA.block ?_
      refine RA.seq hd ?_
      refine RA.region env_ok ?_
      refine OA.p (some 53) (Pt n 0 0) rfl rfl rfl rfl ?_
      refine OA.p (some 54) (W (cum + (BitVec.ofNat 32 k))) rfl rfl rfl (r_load1 rfl rfl rfl rfl rfl get_here rfl rfl) ?_
      refine OA.p (some 55) (W ((cum + (BitVec.ofNat 32 k)) + (1#32))) rfl rfl rfl (r_bin rfl rfl rfl (b_addW (cum + (BitVec.ofNat 32 k)) (1#32))) ?_
      refine OA.p (some 56) (Pt n 0 0) rfl rfl rfl rfl ?_
      refine OA.op1 (dst := none) (v := (.tuple #[])) (n1 := n13) (w := (n, some ⟨[(xGp61 cum k jq F' n M)], 3, 86, true⟩)) rfl rfl rfl (r_store rfl rfl rfl rfl rfl rfl rfl get_here rfl rfl (Nat.le_of_ble_eq_true rfl) rfl) (by omega) ?_
      refine OA.nil ?_
      intro _
      refine RA.seq hd ?_
      refine RA.region env_ok ?_
      refine OA.op1 (dst := (some 57)) (v := (.slice (some ⟨n13, 0, none⟩) 0 0)) (n1 := (n13 + 1)) (w := (n13, some (oInn ([] : List Inn)))) rfl rfl rfl (by kernel_rfl) (by omega) ?_
      refine OA.p (some 8) (.slice (some ⟨n13, 0, none⟩) 0 0) rfl rfl rfl rfl ?_
      refine OA.nil ?_
      intro _
      refine RA.seq hd ?_
      refine RA.seq hd ?_
      refine RA.region env_ok ?_
      refine OA.p (some 9) (.int .i64 0) rfl rfl rfl rfl ?_
      refine OA.nil ?_
      intro _
      refine RA.block ?_
      refine RA.leT (t := 8) (v := (.slice (some ⟨n13, 0, none⟩) 0 0)) (v' := (.slice (some ⟨n13, 0, none⟩) 0 2)) rfl (vle_row _ _ _) ?_
      have w_has := hc14
      refine RA.weaken (D' := [(n, some ⟨[(xGp61 cum k jq F' n M)], 3, 86, true⟩), (jq, some (oInn (iterF k (fs ++ [(Inn.mk (((tsn - cum).toNat : Nat) : Int))])))), (n13, some (oInn ([] : List Inn))), ((n + 3), some (oWx ds)), ((n + 1), some ⟨[[(.int .u32 0), (.slice none 0 0), (.slice none 0 0)]], 3, 86, true⟩), (jf, none), (jx, none)]) hd (Less.of (fac (mm (fun _ => get_here) (fun _ => (get_there (by omega) get_here))) (fac (mm (fun _ => (get_there (by omega) get_here)) (fun _ => (gt3 (by omega) get_here))) (fac (mm (fun _ => (gt2 (by omega) get_here)) (fun _ => get_here)) (fac (mm (fun _ => (gt3 (by omega) get_here)) (fun _ => (gt4 (by omega) get_here))) (fac (mm (fun _ => (gt4 (by omega) get_here)) (fun _ => (gt5 (by omega) get_here))) (fac (mm (fun _ => (gt5 (by omega) get_here)) (fun _ => (gt6 (by omega) get_here))) (fac (mm (fun _ => (gt6 (by omega) get_here)) (fun _ => (gt7 (by omega) get_here))) fan))))))) (gone_of (by simp only [goneP, memP, List.cons_append, List.nil_append, true_or, or_true, true_and, and_true, or_false] <;> omega))) ?_
      refine RA.loop hd (fun kk_ τ n' D => (∃ i : Nat, ∃ jo : Nat, ∃ M2 : Nat, kk_ = F' - i ∧ (n13 + 1) ≤ n' ∧ Has τ [(1, (W tsn)), (2, (Pt n 0 0)), (4, (.pointer (some ⟨(n + 1), 0, some 0⟩))), (7, (.int .i64 ((k : Nat) : Int))), (8, (.slice (some ⟨jo, 0, none⟩) M2 2)), (9, (.int .i64 ((i : Nat) : Int)))] ∧ D = [(n, some ⟨[(xGp61 cum k jq F' n M)], 3, 86, true⟩), (jq, some (oInn (iterF k (fs ++ [(Inn.mk (((tsn - cum).toNat : Nat) : Int))])))), (jo, some (oInn (decF ((iterF k (fs ++ [(Inn.mk (((tsn - cum).toNat : Nat) : Int))])).take i)))), ((n + 3), some (oWx ds)), ((n + 1), some ⟨[[(.int .u32 0), (.slice none 0 0), (.slice none 0 0)]], 3, 86, true⟩), (jf, none), (jx, none)] ∧ (∀ i ∈ keys D, i < n') ∧ i ≤ F' ∧ (decF ((iterF k (fs ++ [(Inn.mk (((tsn - cum).toNat : Nat) : Int))])).take i)).length = M2 ∧ M2 ≤ i ∧ jq < jo)) (F' - 0) (⟨0, n13, 0, rfl, by omega, ⟨rfl, rfl, rfl, rfl, rfl, rfl, trivial⟩, (by rfl), (kb7 (by omega)), ⟨by omega, rfl, by omega, by omega⟩⟩) ?_
      rintro kn14 τ14 n14 _ ⟨i, jo, M2, rfl, hn14, hHn14, rfl, hKn14, hIn14⟩
      rw [Has.eq hHn14]
      have hKn14_0 : n < n14 := hKn14 _ (by simp only [keys, List.map_cons, List.map_nil, List.mem_cons, true_or, or_true])
      have hKn14_1 : jq < n14 := hKn14 _ (by simp only [keys, List.map_cons, List.map_nil, List.mem_cons, true_or, or_true])
      have hKn14_2 : jo < n14 := hKn14 _ (by simp only [keys, List.map_cons, List.map_nil, List.mem_cons, true_or, or_true])
      have hKn14_3 : (n + 3) < n14 := hKn14 _ (by simp only [keys, List.map_cons, List.map_nil, List.mem_cons, true_or, or_true])
      have hKn14_4 : (n + 1) < n14 := hKn14 _ (by simp only [keys, List.map_cons, List.map_nil, List.mem_cons, true_or, or_true])
      have hKn14_5 : jf < n14 := hKn14 _ (by simp only [keys, List.map_cons, List.map_nil, List.mem_cons, true_or, or_true])
      have hKn14_6 : jx < n14 := hKn14 _ (by simp only [keys, List.map_cons, List.map_nil, List.mem_cons, true_or, or_true])
      clear hKn14
      obtain ⟨hi1, hm2, hm3, hm4⟩ := hIn14
      refine RA.seq hd ?_
      refine RA.seq hd ?_
      refine RA.region env_ok ?_
      refine OA.p (some 58) (.int .i64 ((i : Nat) : Int)) rfl rfl rfl rfl ?_
      refine OA.p (some 59) (Pt n 0 1) rfl rfl rfl rfl ?_
      refine OA.p (some 60) (.slice (some ⟨jq, 0, none⟩) F' 2) rfl rfl rfl (r_load1 rfl rfl rfl rfl rfl get_here rfl rfl) ?_
      refine OA.p (some 61) (.int .i64 ((F' : Nat) : Int)) rfl rfl rfl rfl ?_
      by_cases hc15 : ((i : Nat) : Int) < ((F' : Nat) : Int)
      ·
       refine OA.p (some 62) (.bool true) rfl rfl rfl (Eq.trans (r_bin rfl rfl rfl (b_lss rfl)) (dT hc15)) ?_
       refine OA.nil ?_
       intro _
       refine RA.condT rfl ?_
       refine RA.skip env_ok ?_
       intro _
       refine RA.seq hd ?_
       refine RA.block ?_
       refine RA.seq hd ?_
       refine RA.region env_ok ?_
       refine OA.p (some 65) (Pt n 0 1) rfl rfl rfl rfl ?_
       refine OA.p (some 66) (.slice (some ⟨jq, 0, none⟩) F' 2) rfl rfl rfl (r_load1 rfl rfl rfl rfl rfl get_here rfl rfl) ?_
       refine OA.p (some 67) (.int .i64 ((i : Nat) : Int)) rfl rfl rfl rfl ?_
       refine OA.p (some 68) (Pt jq i 0) rfl rfl rfl (r_iaS (l := i) rfl rfl rfl rfl rfl rfl (by omega) (by omega) (get_there (by omega) get_here) rfl (by omega)) ?_
       have hz14 := inF_bnd (iter_bnd (far_bnd hfb hl1) (k := k)) (i := i)
       refine OA.p (some 69) (.int .i64 ((iterF k (fs ++ [(Inn.mk (((tsn - cum).toNat : Nat) : Int))])).getD i dInn).z) rfl rfl rfl (r_loadF (c := cInn) dInn rfl rfl rfl rfl rfl (get_there (by omega) get_here) (by rw [hq2]; omega) rfl) ?_
       by_cases hc16 : 1 < ((iterF k (fs ++ [(Inn.mk (((tsn - cum).toNat : Nat) : Int))])).getD i dInn).z
       ·
        refine OA.p (some 70) (.bool true) rfl rfl rfl (Eq.trans (r_bin rfl rfl rfl (b_gtr rfl)) (dT hc16)) ?_
        refine OA.nil ?_
        intro _
        refine RA.condT rfl ?_
        refine RA.region env_ok ?_
        refine OA.p (some 71) (.slice (some ⟨jo, 0, none⟩) M2 2) rfl rfl rfl rfl ?_
        refine OA.p (some 72) (Pt n 0 1) rfl rfl rfl rfl ?_
        refine OA.p (some 73) (.slice (some ⟨jq, 0, none⟩) F' 2) rfl rfl rfl (r_load1 rfl rfl rfl rfl rfl get_here rfl rfl) ?_
        refine OA.p (some 74) (.int .i64 ((i : Nat) : Int)) rfl rfl rfl rfl ?_
        refine OA.p (some 75) (Pt jq i 0) rfl rfl rfl (r_iaS (l := i) rfl rfl rfl rfl rfl rfl (by omega) (by omega) (get_there (by omega) get_here) rfl (by omega)) ?_
        have hz15 := inF_bnd (iter_bnd (far_bnd hfb hl1) (k := k)) (i := i)
        refine OA.p (some 76) (.int .i64 ((iterF k (fs ++ [(Inn.mk (((tsn - cum).toNat : Nat) : Int))])).getD i dInn).z) rfl rfl rfl (r_loadF (c := cInn) dInn rfl rfl rfl rfl rfl (get_there (by omega) get_here) (by rw [hq2]; omega) rfl) ?_
        refine OA.p (some 77) (.int .i64 (((iterF k (fs ++ [(Inn.mk (((tsn - cum).toNat : Nat) : Int))])).getD i dInn).z - 1)) rfl rfl rfl (r_bin rfl rfl rfl (b_sub (i64_eq (by omega)))) ?_
        refine OA.op1 (dst := (some 78)) (v := (.slice (some ⟨n14, 0, none⟩) 1 0)) (n1 := (n14 + 1)) (w := (n14, some ⟨[(xGp64 k fs tsn cum i)], 1, 3, true⟩)) rfl rfl rfl (by kernel_rfl) (by omega) ?_
        refine OA.op (dst := (some 79)) (v := (.slice (some ⟨(n14 + 1), 0, none⟩) (M2 + 1) 2)) (n1 := (n14 + 2)) (d1 := [((n14 + 1), some (oInn ((decF ((iterF k (fs ++ [(Inn.mk (((tsn - cum).toNat : Nat) : Int))])).take i)) ++ [(xGp69 k fs tsn cum i)]))), (jo, none)]) (D' := [((n14 + 1), some (oInn ((decF ((iterF k (fs ++ [(Inn.mk (((tsn - cum).toNat : Nat) : Int))])).take i)) ++ [(xGp69 k fs tsn cum i)]))), (jo, none), (n14, some ⟨[(xGp64 k fs tsn cum i)], 1, 3, true⟩), (n, some ⟨[(xGp61 cum k jq F' n M)], 3, 86, true⟩), (jq, some (oInn (iterF k (fs ++ [(Inn.mk (((tsn - cum).toNat : Nat) : Int))])))), (jo, some (oInn (decF ((iterF k (fs ++ [(Inn.mk (((tsn - cum).toNat : Nat) : Int))])).take i)))), ((n + 3), some (oWx ds)), ((n + 1), some ⟨[[(.int .u32 0), (.slice none 0 0), (.slice none 0 0)]], 3, 86, true⟩), (jf, none), (jx, none)]) rfl rfl rfl (r_append2x (c := cInn) (x := (xGp69 k fs tsn cum i)) (l' := ((decF ((iterF k (fs ++ [(Inn.mk (((tsn - cum).toNat : Nat) : Int))])).take i)) ++ [(xGp69 k fs tsn cum i)])) rfl rfl rfl rfl rfl rfl rfl rfl rfl rfl (by decide) (gt3 (by omega) get_here) get_here (by rw [hm2]; omega) (by rw [take_all' (by rw [hm2])]) (by omega) (of_decide_eq_true (by kernel_rfl)) (by omega)) (by omega) rfl ?_
        refine OA.p (some 8) (.slice (some ⟨(n14 + 1), 0, none⟩) (M2 + 1) 2) rfl rfl rfl rfl ?_
        refine OA.nil ?_
        intro _
        refine RA.weaken (D' := [((n14 + 1), some (oInn ((decF ((iterF k (fs ++ [(Inn.mk (((tsn - cum).toNat : Nat) : Int))])).take i)) ++ [(xGp69 k fs tsn cum i)]))), (jo, none), (n14, some ⟨[(xGp64 k fs tsn cum i)], 1, 3, true⟩), (n, some ⟨[(xGp61 cum k jq F' n M)], 3, 86, true⟩), (jq, some (oInn (iterF k (fs ++ [(Inn.mk (((tsn - cum).toNat : Nat) : Int))])))), ((n + 3), some (oWx ds)), ((n + 1), some ⟨[[(.int .u32 0), (.slice none 0 0), (.slice none 0 0)]], 3, 86, true⟩), (jf, none), (jx, none)]) hd (Less.of (fac (mm (fun _ => get_here) (fun _ => get_here)) (fac (mm (fun _ => (get_there (by omega) get_here)) (fun _ => (get_there (by omega) get_here))) (fac (mm (fun _ => (gt2 (by omega) get_here)) (fun _ => (gt2 (by omega) get_here))) (fac (mm (fun _ => (gt3 (by omega) get_here)) (fun _ => (gt3 (by omega) get_here))) (fac (mm (fun _ => (gt4 (by omega) get_here)) (fun _ => (gt4 (by omega) get_here))) (fac (mm (fun _ => (gt5 (by omega) get_here)) (fun _ => (gt6 (by omega) get_here))) (fac (mm (fun _ => (gt6 (by omega) get_here)) (fun _ => (gt7 (by omega) get_here))) (fac (mm (fun _ => (gt7 (by omega) get_here)) (fun _ => (gt8 (by omega) get_here))) (fac (mm (fun _ => (gt8 (by omega) get_here)) (fun _ => (gt9 (by omega) get_here))) fan))))))))) (gone_of (by simp only [goneP, memP, List.cons_append, List.nil_append, true_or, or_true, true_and, and_true, or_false] <;> omega))) ?_
        refine RA.region env_ok ?_
        refine OA.p (some 63) (.int .i64 ((i : Nat) : Int)) rfl rfl rfl rfl ?_
        refine OA.p (some 64) (.int .i64 (((i + 1) : Nat) : Int)) rfl rfl rfl (r_bin rfl rfl rfl (b_add (i64_eq (by omega)))) ?_
        refine OA.p (some 9) (.int .i64 (((i + 1) : Nat) : Int)) rfl rfl rfl rfl ?_
        refine OA.nil ?_
        refine ⟨F' - (i + 1), by omega, [(n, some ⟨[(xGp61 cum k jq F' n M)], 3, 86, true⟩), (jq, some (oInn (iterF k (fs ++ [(Inn.mk (((tsn - cum).toNat : Nat) : Int))])))), ((n14 + 1), some (oInn ((decF ((iterF k (fs ++ [(Inn.mk (((tsn - cum).toNat : Nat) : Int))])).take i)) ++ [(xGp69 k fs tsn cum i)]))), ((n + 3), some (oWx ds)), ((n + 1), some ⟨[[(.int .u32 0), (.slice none 0 0), (.slice none 0 0)]], 3, 86, true⟩), (jf, none), (jx, none)], (Less.of (fac (mm (fun _ => get_here) (fun _ => (gt3 (by omega) get_here))) (fac (mm (fun _ => (get_there (by omega) get_here)) (fun _ => (gt4 (by omega) get_here))) (fac (mm (fun _ => (gt2 (by omega) get_here)) (fun _ => get_here)) (fac (mm (fun _ => (gt3 (by omega) get_here)) (fun _ => (gt5 (by omega) get_here))) (fac (mm (fun _ => (gt4 (by omega) get_here)) (fun _ => (gt6 (by omega) get_here))) (fac (mm (fun _ => (gt5 (by omega) get_here)) (fun _ => (gt7 (by omega) get_here))) (fac (mm (fun _ => (gt6 (by omega) get_here)) (fun _ => (gt8 (by omega) get_here))) fan))))))) (gone_of (by simp only [goneP, memP, List.cons_append, List.nil_append, true_or, or_true, true_and, and_true, or_false] <;> omega))), ⟨(i + 1), (n14 + 1), (M2 + 1), rfl, by omega, ⟨rfl, rfl, rfl, rfl, rfl, rfl, trivial⟩, (by rw [decF_yes (by omega) hc16]), (kb7 (by omega)), ⟨by omega, by rw [decF_yes (by omega) hc16]; rw [List.length_append, List.length_singleton, hm2], by omega, by omega⟩⟩⟩
       ·
        refine OA.p (some 70) (.bool false) rfl rfl rfl (Eq.trans (r_bin rfl rfl rfl (b_gtr rfl)) (dF hc16)) ?_
        refine OA.nil ?_
        intro _
        refine RA.condF rfl ?_
        refine RA.skip env_ok ?_
        intro _
        refine RA.region env_ok ?_
        refine OA.p (some 63) (.int .i64 ((i : Nat) : Int)) rfl rfl rfl rfl ?_
        refine OA.p (some 64) (.int .i64 (((i + 1) : Nat) : Int)) rfl rfl rfl (r_bin rfl rfl rfl (b_add (i64_eq (by omega)))) ?_
        refine OA.p (some 9) (.int .i64 (((i + 1) : Nat) : Int)) rfl rfl rfl rfl ?_
        refine OA.nil ?_
        refine ⟨F' - (i + 1), by omega, [(n, some ⟨[(xGp61 cum k jq F' n M)], 3, 86, true⟩), (jq, some (oInn (iterF k (fs ++ [(Inn.mk (((tsn - cum).toNat : Nat) : Int))])))), (jo, some (oInn (decF ((iterF k (fs ++ [(Inn.mk (((tsn - cum).toNat : Nat) : Int))])).take i)))), ((n + 3), some (oWx ds)), ((n + 1), some ⟨[[(.int .u32 0), (.slice none 0 0), (.slice none 0 0)]], 3, 86, true⟩), (jf, none), (jx, none)], (Less.refl _ _ _), ⟨(i + 1), jo, M2, rfl, by omega, ⟨rfl, rfl, rfl, rfl, rfl, rfl, trivial⟩, (by rw [decF_no (by omega) hc16]), (kb7 (by omega)), ⟨by omega, by rw [decF_no (by omega) hc16]; exact hm2, by omega, by omega⟩⟩⟩
      ·
       refine OA.p (some 62) (.bool false) rfl rfl rfl (Eq.trans (r_bin rfl rfl rfl (b_lss rfl)) (dF hc15)) ?_
       refine OA.nil ?_
       intro _
       refine RA.condF rfl ?_
       refine RA.exit env_ok ?_
       intro _
       refine RA.region env_ok ?_
       refine OA.p (some 80) (.slice (some ⟨jo, 0, none⟩) M2 2) rfl rfl rfl rfl ?_
       refine OA.p (some 81) (Pt n 0 1) rfl rfl rfl rfl ?_
       refine OA.op1 (dst := none) (v := (.tuple #[])) (n1 := n14) (w := (n, some ⟨[(xGp62 cum k jo M2 n M)], 3, 86, true⟩)) rfl rfl rfl (r_store rfl rfl rfl rfl rfl rfl rfl get_here rfl rfl (Nat.le_of_ble_eq_true rfl) rfl) (by omega) ?_
       refine OA.nil ?_
       intro _
       refine RA.weaken (D' := [(n, some ⟨[(xGp62 cum k jo M2 n M)], 3, 86, true⟩), (jq, some (oInn (iterF k (fs ++ [(Inn.mk (((tsn - cum).toNat : Nat) : Int))])))), (jo, some (oInn (decF ((iterF k (fs ++ [(Inn.mk (((tsn - cum).toNat : Nat) : Int))])).take i)))), ((n + 3), some (oWx ds)), ((n + 1), some ⟨[[(.int .u32 0), (.slice none 0 0), (.slice none 0 0)]], 3, 86, true⟩), (jf, none), (jx, none)]) hd (Less.of (fac (mm (fun _ => get_here) (fun _ => get_here)) (fac (mm (fun _ => (get_there (by omega) get_here)) (fun _ => (gt2 (by omega) get_here))) (fac (mm (fun _ => (gt2 (by omega) get_here)) (fun _ => (gt3 (by omega) get_here))) (fac (mm (fun _ => (gt3 (by omega) get_here)) (fun _ => (gt4 (by omega) get_here))) (fac (mm (fun _ => (gt4 (by omega) get_here)) (fun _ => (gt5 (by omega) get_here))) (fac (mm (fun _ => (gt5 (by omega) get_here)) (fun _ => (gt6 (by omega) get_here))) (fac (mm (fun _ => (gt6 (by omega) get_here)) (fun _ => (gt7 (by omega) get_here))) fan))))))) (gone_of (by simp only [goneP, memP, List.cons_append, List.nil_append, true_or, or_true, true_and, and_true, or_false] <;> omega))) ?_
       refine RA.region env_ok ?_
       refine OA.p (some 51) (.int .i64 ((k : Nat) : Int)) rfl rfl rfl rfl ?_
       refine OA.p (some 52) (.int .i64 (((k + 1) : Nat) : Int)) rfl rfl rfl (r_bin rfl rfl rfl (b_add (i64_eq (by omega)))) ?_
       refine OA.p (some 7) (.int .i64 (((k + 1) : Nat) : Int)) rfl rfl rfl rfl ?_
       refine OA.nil ?_
       refine ⟨1001 - (k + 1), by omega, [(n, some ⟨[(xGp62 cum k jo M2 n M)], 3, 86, true⟩), (jo, some (oInn (decF ((iterF k (fs ++ [(Inn.mk (((tsn - cum).toNat : Nat) : Int))])).take i)))), ((n + 3), some (oWx ds)), ((n + 1), some ⟨[[(.int .u32 0), (.slice none 0 0), (.slice none 0 0)]], 3, 86, true⟩), (jf, none), (jx, none)], (Less.of (fac (mm (fun _ => get_here) (fun _ => get_here)) (fac (mm (fun _ => (get_there (by omega) get_here)) (fun _ => (gt2 (by omega) get_here))) (fac (mm (fun _ => (gt2 (by omega) get_here)) (fun _ => (gt3 (by omega) get_here))) (fac (mm (fun _ => (gt3 (by omega) get_here)) (fun _ => (gt4 (by omega) get_here))) (fac (mm (fun _ => (gt4 (by omega) get_here)) (fun _ => (gt5 (by omega) get_here))) (fac (mm (fun _ => (gt5 (by omega) get_here)) (fun _ => (gt6 (by omega) get_here))) fan)))))) (gone_of (by simp only [goneP, memP, List.cons_append, List.nil_append, true_or, or_true, true_and, and_true, or_false] <;> omega))), ⟨(k + 1), jo, M2, rfl, by omega, ⟨rfl, rfl, rfl, rfl, trivial⟩, (cong2 (fun (c' : BitVec 32) (l' : List Inn) => ([(n, some ⟨[[(W c'), (.slice (some ⟨jo, 0, none⟩) M2 2), (.slice (some ⟨(n + 3), 0, none⟩) M 2)]], 3, 86, true⟩), (jo, some (oInn l')), ((n + 3), some (oWx ds)), ((n + 1), some ⟨[[(.int .u32 0), (.slice none 0 0), (.slice none 0 0)]], 3, 86, true⟩), (jf, none), (jx, none)] : Delta)) ofNat_succ (show decF ((iterF k (fs ++ [(Inn.mk (((tsn - cum).toNat : Nat) : Int))])).take i) = iterF (k + 1) (fs ++ [(Inn.mk (((tsn - cum).toNat : Nat) : Int))]) from by rw [List.take_of_length_le (by omega)]; rfl)), (kb6 (by omega)), ⟨by omega, it_all hall w_has, by rw [show iterF (k + 1) (fs ++ [(Inn.mk (((tsn - cum).toNat : Nat) : Int))]) = decF (iterF k (fs ++ [(Inn.mk (((tsn - cum).toNat : Nat) : Int))])) from rfl]; rw [List.take_of_length_le (by omega)] at hm2; exact hm2, by omega, by omega⟩⟩⟩
     ·
      refine OA.callP (dst := (some 49)) (all := [(.agg ⟨(xGp63 cum k jq F' n M)⟩), (.int .i64 1)]) (v := (.bool false)) (hd.of (by omega) (kb6 (by omega))) rfl rfl rfl rfl rfl rfl rfl rfl (PS.to (rHas jq (n + 3) F' M (cum + (BitVec.ofNat 32 k)) (iterF k (fs ++ [(Inn.mk (((tsn - cum).toNat : Nat) : Int))])) (by rw [hq2]) (by omega) 1 (get_there (by omega) get_here)) (show (.bool (inF 1 (iterF k (fs ++ [(Inn.mk (((tsn - cum).toNat : Nat) : Int))])))) = ((.bool false) : Value) from (by first | (rw [eq_false_of_ne_true hc14]; done) | (rw [eq_false_of_ne_true hc14]; rfl)))) ?_
      intro n17 hn17
      refine OA.p (some 50) (.bool false) rfl rfl rfl rfl ?_
      refine OA.nil ?_
      intro _
      refine RA.condF rfl ?_
      refine RA.exit env_ok ?_
      intro _
      refine RA.seq hd ?_
      refine RA.region env_ok ?_
      refine OA.p (some 82) (.agg ⟨(xGp63 cum k jq F' n M)⟩) rfl rfl rfl (r_loadA rfl rfl rfl rfl get_here rfl rfl rfl) ?_
      refine OA.op1 (dst := none) (v := (.tuple #[])) (n1 := n17) (w := ((n + 1), some ⟨[(xGp63 cum k jq F' n M)], 3, 86, true⟩)) rfl rfl rfl (r_store rfl rfl rfl rfl rfl rfl rfl (gt3 (by omega) get_here) rfl rfl (Nat.le_of_ble_eq_true rfl) rfl) (by omega) ?_
      refine OA.p (some 5) (.int .i64 1) rfl rfl rfl rfl ?_
      refine OA.nil ?_
      intro _
      refine RA.ret env_ok ?_
      refine ⟨.inr rfl, [(.agg ⟨(xGp63 cum k jq F' n M)⟩), (.int .i64 1)], (resL_cons (res_cellA rfl rfl rfl get_here rfl rfl rfl) (resL_cons rfl resL_nil)), [(jq, some (oInn (iterF k (fs ++ [(Inn.mk (((tsn - cum).toNat : Nat) : Int))])))), ((n + 3), some (oWx ds)), (jf, none), (jx, none)], (Less.of (fac (mm (fun _ => get_here) (fun _ => (gt2 (by omega) get_here))) (fac (mm (fun _ => (get_there (by omega) get_here)) (fun _ => (gt3 (by omega) get_here))) (fac (mm (fun _ => (gt2 (by omega) get_here)) (fun _ => (gt5 (by omega) get_here))) (fac (mm (fun _ => (gt3 (by omega) get_here)) (fun _ => (gt6 (by omega) get_here))) fan)))) (gone_of (by simp only [goneP, memP, List.cons_append, List.nil_append, true_or, or_true, true_and, and_true, or_false] <;> omega))), ⟨k, jq, (n + 3), by omega, by omega, by omega, by omega, by omega, F', M, by rw [(show fsA cum fs tsn = (fs ++ [(Inn.mk (((tsn - cum).toNat : Nat) : Int))]) from if_pos hl1)]; exact hq2, by rw [(show dupA cum fs ds tsn = ds from if_neg (by rw [hl1]; decide))]; exact hds, by omega, by omega, (by unfold kok; rw [if_pos hl1, (show fsA cum fs tsn = (fs ++ [(Inn.mk (((tsn - cum).toNat : Nat) : Int))]) from if_pos hl1)]; exact ⟨hall, by first | (left; omega) | (right; assumption)⟩), by rw [hl1]; rfl, by rw [(show fsA cum fs tsn = (fs ++ [(Inn.mk (((tsn - cum).toNat : Nat) : Int))]) from if_pos hl1), (show dupA cum fs ds tsn = ds from if_neg (by rw [hl1]; decide))]⟩⟩
    ·
     refine OA.p (some 46) (.bool false) rfl rfl rfl (Eq.trans (r_bin rfl rfl rfl (b_leq rfl)) (dF hc13)) ?_
     refine OA.p (some 47) (.bool false) rfl rfl rfl rfl ?_
     refine OA.off (dst := (some 48)) rfl rfl rfl ?_
     refine OA.off (dst := (some 49)) rfl rfl rfl ?_
     refine OA.p (some 50) (.bool false) rfl rfl rfl rfl ?_
     refine OA.nil ?_
     intro _
     refine RA.condF rfl ?_
     refine RA.exit env_ok ?_
     intro _
     refine RA.seq hd ?_
     refine RA.region env_ok ?_
     refine OA.p (some 82) (.agg ⟨(xGp63 cum k jq F' n M)⟩) rfl rfl rfl (r_loadA rfl rfl rfl rfl get_here rfl rfl rfl) ?_
     refine OA.op1 (dst := none) (v := (.tuple #[])) (n1 := n12) (w := ((n + 1), some ⟨[(xGp63 cum k jq F' n M)], 3, 86, true⟩)) rfl rfl rfl (r_store rfl rfl rfl rfl rfl rfl rfl (gt3 (by omega) get_here) rfl rfl (Nat.le_of_ble_eq_true rfl) rfl) (by omega) ?_
     refine OA.p (some 5) (.int .i64 1) rfl rfl rfl rfl ?_
     refine OA.nil ?_
     intro _
     refine RA.ret env_ok ?_
     refine ⟨.inr rfl, [(.agg ⟨(xGp63 cum k jq F' n M)⟩), (.int .i64 1)], (resL_cons (res_cellA rfl rfl rfl get_here rfl rfl rfl) (resL_cons rfl resL_nil)), [(jq, some (oInn (iterF k (fs ++ [(Inn.mk (((tsn - cum).toNat : Nat) : Int))])))), ((n + 3), some (oWx ds)), (jf, none), (jx, none)], (Less.of (fac (mm (fun _ => get_here) (fun _ => (gt2 (by omega) get_here))) (fac (mm (fun _ => (get_there (by omega) get_here)) (fun _ => (gt3 (by omega) get_here))) (fac (mm (fun _ => (gt2 (by omega) get_here)) (fun _ => (gt5 (by omega) get_here))) (fac (mm (fun _ => (gt3 (by omega) get_here)) (fun _ => (gt6 (by omega) get_here))) fan)))) (gone_of (by simp only [goneP, memP, List.cons_append, List.nil_append, true_or, or_true, true_and, and_true, or_false] <;> omega))), ⟨k, jq, (n + 3), by omega, by omega, by omega, by omega, by omega, F', M, by rw [(show fsA cum fs tsn = (fs ++ [(Inn.mk (((tsn - cum).toNat : Nat) : Int))]) from if_pos hl1)]; exact hq2, by rw [(show dupA cum fs ds tsn = ds from if_neg (by rw [hl1]; decide))]; exact hds, by omega, by omega, (by unfold kok; rw [if_pos hl1, (show fsA cum fs tsn = (fs ++ [(Inn.mk (((tsn - cum).toNat : Nat) : Int))]) from if_pos hl1)]; exact ⟨hall, by first | (left; omega) | (right; assumption)⟩), by rw [hl1]; rfl, by rw [(show fsA cum fs tsn = (fs ++ [(Inn.mk (((tsn - cum).toNat : Nat) : Int))]) from if_pos hl1), (show dupA cum fs ds tsn = ds from if_neg (by rw [hl1]; decide))]⟩⟩
end Go.Proofs.Ytmepflkodjdgdaa.Vt
