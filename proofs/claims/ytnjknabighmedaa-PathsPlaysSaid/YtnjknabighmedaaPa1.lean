/- Pa1: walks through functions of the program, by the calculus; written by a program of this workplace. -/
import Derived.Test.YtnjknabighmedaaEnv
import Derived.Test.YtnjknabighmedaaVm6
namespace Go.Proofs.Ytnjknabighmedaa.Vt
open Go Go.Proofs Go.Proofs.YtnjknabighmedaaV
set_option maxRecDepth 100000
set_option linter.unusedVariables false
set_option linter.unusedSimpArgs false
structure Pth where
  own : BitVec 32
  peer : BitVec 32
  state : Int
  f3 : Int
  f4 : Int
  f5 : Int
  f6 : Int
  f7 : Bool
  f8 : Int
  f9 : Int
  f10 : Int
  f11 : Int
  f12 : Int
  f13 : BitVec 32
  f14 : Int
deriving DecidableEq
def dPth : Pth := ⟨0#32, 0#32, 0, 0, 0, 0, 0, false, 0, 0, 0, 0, 0, 0#32, 0⟩
abbrev cPth (e : Pth) : List Value := [(W e.own), (W e.peer), (.int .i64 e.state), (.int .i64 e.f3), (.int .i64 e.f4), (.int .i64 e.f5), (.int .i64 e.f6), (.bool e.f7), (.int .i64 e.f8), (.int .i64 e.f9), (.int .i64 e.f10), (.int .i64 e.f11), (.int .i64 e.f12), (W e.f13), (.int .i64 e.f14)]
abbrev oPth (l : List Pth) : AObj := ⟨l.map cPth, 15, 87, true⟩
structure Inn where
  z : Int
deriving DecidableEq
def dInn : Inn := ⟨0⟩
abbrev cInn (e : Inn) : List Value := [(.int .i64 e.z)]
abbrev oInn (l : List Inn) : AObj := ⟨l.map cInn, 1, 3, true⟩
def idxZ {α : Type} (p : α → Bool) (l : List α) : Int := if l.findIdx p < l.length then ((l.findIdx p : Nat) : Int) else -1
theorem fi_le {α : Type} {p : α → Bool} {l : List α} : l.findIdx p ≤ l.length := List.findIdx_le_length
theorem fi_found {α : Type} {d : α} {p : α → Bool} {l : List α} {i : Nat} (h : i < l.length) (hp : p (l.getD i d) = true) (hi : i ≤ l.findIdx p) : l.findIdx p = i := by
  rcases Nat.lt_or_ge i (l.findIdx p) with h1 | h1
  · have := List.not_of_lt_findIdx h1
    rw [List.getD_eq_getElem?_getD, List.getElem?_eq_getElem h] at hp
    simp only [Option.getD_some] at hp
    rw [hp] at this; simp at this
  · omega
theorem fi_step {α : Type} {d : α} {p : α → Bool} {l : List α} {i : Nat} (h : i < l.length) (hp : ¬ p (l.getD i d) = true) (hi : i ≤ l.findIdx p) : i + 1 ≤ l.findIdx p := by
  rcases Nat.lt_or_ge i (l.findIdx p) with h1 | h1
  · omega
  · exfalso; apply hp
    have e : l.findIdx p = i := by omega
    have h2 : l.findIdx p < l.length := by omega
    have h3 := List.findIdx_getElem (p := p) (xs := l) (w := h2)
    rw [List.getD_eq_getElem?_getD, List.getElem?_eq_getElem h]
    simp only [Option.getD_some]
    simpa only [e] using h3
theorem fi_any {α : Type} {p : α → Bool} {l : List α} : decide (l.findIdx p < l.length) = l.any p := by
  rw [Bool.eq_iff_iff, decide_eq_true_eq, List.findIdx_lt_length, List.any_eq_true]
theorem idxZ_any {α : Type} {p : α → Bool} {l : List α} : decide (idxZ p l ≥ 0) = l.any p := by
  rw [← fi_any]; unfold idxZ
  split <;> rename_i h
  · rw [decide_eq_true h, decide_eq_true (by omega)]
  · rw [decide_eq_false h, decide_eq_false (by omega)]
theorem take_all' {α : Type} {l : List α} {k : Nat} (h : l.length = k) : (l.drop 0).take k = l := by subst h; simp
def hitP (a b : BitVec 32) (p : Pth) : Bool := decide (((a.toNat : Int) = 0 ∨ (p.own.toNat : Int) = (a.toNat : Int)) ∧ (p.peer.toNat : Int) = (b.toNat : Int))
def eqP (a b : BitVec 32) (p : Pth) : Bool := decide ((p.own.toNat : Int) = (a.toNat : Int) ∧ (p.peer.toNat : Int) = (b.toNat : Int))
def peP (b : BitVec 32) (p : Pth) : Bool := decide ((p.peer.toNat : Int) = (b.toNat : Int))
def upP (p : Pth) : Bool := decide (p.state ≠ 2)
def newP (a b : BitVec 32) : Pth := (Pth.mk a b 0 0 0 0 30 false 1800 60000 0 0 0 (0#32) 0)
abbrev xPa11 (a : BitVec 32) (b : BitVec 32) : List Value := [(W a), (W b), (.int .i64 0), (.int .i64 0), (.int .i64 0), (.int .i64 0), (.int .i64 30), (.bool false), (.int .i64 1800), (.int .i64 60000), (.int .i64 0), (.int .i64 0), (.int .i64 0), (.int .u32 0), (.int .i64 0)]
theorem pFind {σ : Store} (j N : Nat) (l : List Pth) (hl : l.length = N) (hN : N ≤ 1000) (a b : BitVec 32) (hj : σ j = some (oPth l))  : PS Try.prog noDen 53 [(.slice (some ⟨j, 0, none⟩) N 2), (W a), (W b)] σ (.int .i64 (idxZ (hitP a b) l)) := by
 refine PS.body (E := env) env_ok rfl rfl (by show _ ≤ _; exact of_decide_eq_true (by kernel_rfl)) (fun n hd => ?_)
 have lhj := hd.lt hj
 refine RA.seq hd ?_
 refine RA.region env_ok ?_
 refine OA.p (some 6) (.int .i64 0) rfl rfl rfl rfl ?_
 refine OA.nil ?_
 intro _
 refine RA.seq hd ?_
 refine RA.seq hd ?_
 refine RA.region env_ok ?_
 refine OA.p (some 7) (.int .i64 0) rfl rfl rfl rfl ?_
 refine OA.nil ?_
 intro _
 refine RA.block ?_
 refine RA.loop hd (fun kk_ τ n' D => ∃ i : Nat,  kk_ = (N - i) ∧ n ≤ n' ∧ Has τ [(0, (.slice (some ⟨j, 0, none⟩) N 2)), (1, (W a)), (2, (W b)), (7, (.int .i64 ((i : Nat) : Int)))] ∧ D = [] ∧ (∀ i ∈ keys D, i < n') ∧ i ≤ N ∧ i ≤ l.findIdx (hitP a b)) ((N - 0)) ⟨0, rfl, by omega, ⟨rfl, rfl, rfl, rfl, trivial⟩, rfl, (fun i hi => by cases hi), ⟨by omega, by omega⟩⟩ ?_
 rintro kn1 τ1 n1 _ ⟨i, rfl, hn1, hHn1, rfl, hKn1, hIn1⟩
 rw [Has.eq hHn1]
 simp only [keys, List.map, List.forall_mem_cons, List.mem_cons, List.not_mem_nil, false_imp_iff, implies_true, and_true] at hKn1
 obtain ⟨hi1, hi2⟩ := hIn1
 refine RA.seq hd ?_
 refine RA.seq hd ?_
 refine RA.region env_ok ?_
 refine OA.p (some 8) (.int .i64 ((i : Nat) : Int)) rfl rfl rfl rfl ?_
 refine OA.p (some 9) (.slice (some ⟨j, 0, none⟩) N 2) rfl rfl rfl rfl ?_
 refine OA.p (some 10) (.int .i64 ((N : Nat) : Int)) rfl rfl rfl rfl ?_
 by_cases hc1 : ((i : Nat) : Int) < ((N : Nat) : Int)
 ·
  refine OA.p (some 11) (.bool true) rfl rfl rfl (Eq.trans (r_bin rfl rfl rfl (b_lss rfl)) (dT hc1)) ?_
  refine OA.nil ?_
  intro _
  refine RA.condT rfl ?_
  refine RA.skip env_ok ?_
  intro _
  refine RA.seq hd ?_
  refine RA.block ?_
  refine RA.seq hd ?_
  refine RA.region env_ok ?_
  refine OA.p (some 14) (W a) rfl rfl rfl rfl ?_
  by_cases hc2 : (a.toNat : Int) = 0
  ·
   refine OA.p (some 15) (.bool true) rfl rfl rfl (Eq.trans (r_bin rfl rfl rfl (b_eql rfl)) (dT hc2)) ?_
   refine OA.p (some 16) (.bool true) rfl rfl rfl rfl ?_
   refine OA.off (dst := (some 17)) rfl rfl rfl ?_
   refine OA.off (dst := (some 18)) rfl rfl rfl ?_
   refine OA.off (dst := (some 19)) rfl rfl rfl ?_
   refine OA.off (dst := (some 20)) rfl rfl rfl ?_
   refine OA.off (dst := (some 21)) rfl rfl rfl ?_
   refine OA.off (dst := (some 22)) rfl rfl rfl ?_
   refine OA.off (dst := (some 23)) rfl rfl rfl ?_
   refine OA.p (some 24) (.bool true) rfl rfl rfl rfl ?_
   refine OA.p (some 25) (.bool true) rfl rfl rfl rfl ?_
   refine OA.p (some 26) (.slice (some ⟨j, 0, none⟩) N 2) rfl rfl rfl rfl ?_
   refine OA.p (some 27) (.int .i64 ((i : Nat) : Int)) rfl rfl rfl rfl ?_
   refine OA.p (some 28) (Pt j i 0) rfl rfl rfl (r_iaS (l := i) rfl rfl rfl rfl rfl rfl (by omega) (by omega) hj rfl (by omega)) ?_
   refine OA.p (some 29) (Pt j i 1) rfl rfl rfl rfl ?_
   refine OA.p (some 30) (W (l.getD i dPth).peer) rfl rfl rfl (r_loadF (c := cPth) dPth rfl rfl rfl rfl rfl hj (by rw [hl]; omega) rfl) ?_
   refine OA.p (some 31) (W b) rfl rfl rfl rfl ?_
   by_cases hc3 : ((l.getD i dPth).peer.toNat : Int) = (b.toNat : Int)
   ·
    refine OA.p (some 32) (.bool true) rfl rfl rfl (Eq.trans (r_bin rfl rfl rfl (b_eql rfl)) (dT hc3)) ?_
    refine OA.p (some 33) (.bool true) rfl rfl rfl rfl ?_
    refine OA.nil ?_
    intro _
    refine RA.condT rfl ?_
    refine RA.seq hd ?_
    refine RA.region env_ok ?_
    refine OA.p (some 34) (.int .i64 ((i : Nat) : Int)) rfl rfl rfl rfl ?_
    refine OA.p (some 6) (.int .i64 ((i : Nat) : Int)) rfl rfl rfl rfl ?_
    refine OA.nil ?_
    intro _
    refine RA.rebase [(0, (.slice (some ⟨j, 0, none⟩) N 2)), (1, (W a)), (2, (W b)), (6, (.int .i64 ((i : Nat) : Int))), (7, (.int .i64 ((i : Nat) : Int))), (11, (.bool true)), (33, (.bool true))] ⟨rfl, rfl, rfl, rfl, rfl, rfl, rfl, trivial⟩ (fun τr2 => ?_)
    refine RA.ret env_ok ?_
    refine ⟨.inr rfl, [(.int .i64 ((i : Nat) : Int))], (resL_cons rfl resL_nil), (by have hf := fi_found (d := dPth) (l := l) (i := i) (by omega) (show hitP a b _ = true from by unfold hitP; rw [decide_eq_true_eq]; omega) hi2; show Value.int _ _ = Value.int _ _; unfold idxZ; rw [if_pos (by omega), hf]), (fun i hi => by cases hi)⟩
   ·
    refine OA.p (some 32) (.bool false) rfl rfl rfl (Eq.trans (r_bin rfl rfl rfl (b_eql rfl)) (dF hc3)) ?_
    refine OA.p (some 33) (.bool false) rfl rfl rfl rfl ?_
    refine OA.nil ?_
    intro _
    refine RA.condF rfl ?_
    refine RA.skip env_ok ?_
    intro _
    refine RA.region env_ok ?_
    refine OA.p (some 12) (.int .i64 ((i : Nat) : Int)) rfl rfl rfl rfl ?_
    refine OA.p (some 13) (.int .i64 (((i + 1) : Nat) : Int)) rfl rfl rfl (r_bin rfl rfl rfl (b_add (i64_eq (by omega)))) ?_
    refine OA.p (some 7) (.int .i64 (((i + 1) : Nat) : Int)) rfl rfl rfl rfl ?_
    refine OA.nil ?_
    refine ⟨(N - (i + 1)), by omega, [], (Less.refl _ _ _), (i + 1), rfl, by omega, ⟨rfl, rfl, rfl, rfl, trivial⟩, rfl, (fun i hi => by cases hi), ⟨by omega, fi_step (d := dPth) (by omega) (by unfold hitP; rw [decide_eq_true_eq]; omega) (by omega)⟩⟩
  ·
   refine OA.p (some 15) (.bool false) rfl rfl rfl (Eq.trans (r_bin rfl rfl rfl (b_eql rfl)) (dF hc2)) ?_
   refine OA.p (some 16) (.bool false) rfl rfl rfl rfl ?_
   refine OA.p (some 17) (.slice (some ⟨j, 0, none⟩) N 2) rfl rfl rfl rfl ?_
   refine OA.p (some 18) (.int .i64 ((i : Nat) : Int)) rfl rfl rfl rfl ?_
   refine OA.p (some 19) (Pt j i 0) rfl rfl rfl (r_iaS (l := i) rfl rfl rfl rfl rfl rfl (by omega) (by omega) hj rfl (by omega)) ?_
   refine OA.p (some 20) (Pt j i 0) rfl rfl rfl rfl ?_
   refine OA.p (some 21) (W (l.getD i dPth).own) rfl rfl rfl (r_loadF (c := cPth) dPth rfl rfl rfl rfl rfl hj (by rw [hl]; omega) rfl) ?_
   refine OA.p (some 22) (W a) rfl rfl rfl rfl ?_
   by_cases hc4 : ((l.getD i dPth).own.toNat : Int) = (a.toNat : Int)
   ·
    refine OA.p (some 23) (.bool true) rfl rfl rfl (Eq.trans (r_bin rfl rfl rfl (b_eql rfl)) (dT hc4)) ?_
    refine OA.p (some 24) (.bool true) rfl rfl rfl rfl ?_
    refine OA.p (some 25) (.bool true) rfl rfl rfl rfl ?_
    refine OA.p (some 26) (.slice (some ⟨j, 0, none⟩) N 2) rfl rfl rfl rfl ?_
    refine OA.p (some 27) (.int .i64 ((i : Nat) : Int)) rfl rfl rfl rfl ?_
    refine OA.p (some 28) (Pt j i 0) rfl rfl rfl (r_iaS (l := i) rfl rfl rfl rfl rfl rfl (by omega) (by omega) hj rfl (by omega)) ?_
    refine OA.p (some 29) (Pt j i 1) rfl rfl rfl rfl ?_
    refine OA.p (some 30) (W (l.getD i dPth).peer) rfl rfl rfl (r_loadF (c := cPth) dPth rfl rfl rfl rfl rfl hj (by rw [hl]; omega) rfl) ?_
    refine OA.p (some 31) (W b) rfl rfl rfl rfl ?_
    by_cases hc5 : ((l.getD i dPth).peer.toNat : Int) = (b.toNat : Int)
    ·
     refine OA.p (some 32) (.bool true) rfl rfl rfl (Eq.trans (r_bin rfl rfl rfl (b_eql rfl)) (dT hc5)) ?_
     refine OA.p (some 33) (.bool true) rfl rfl rfl rfl ?_
     refine OA.nil ?_
     intro _
     refine RA.condT rfl ?_
     refine RA.seq hd ?_
     refine RA.region env_ok ?_
     refine OA.p (some 34) (.int .i64 ((i : Nat) : Int)) rfl rfl rfl rfl ?_
     refine OA.p (some 6) (.int .i64 ((i : Nat) : Int)) rfl rfl rfl rfl ?_
     refine OA.nil ?_
     intro _
     refine RA.rebase [(0, (.slice (some ⟨j, 0, none⟩) N 2)), (1, (W a)), (2, (W b)), (6, (.int .i64 ((i : Nat) : Int))), (7, (.int .i64 ((i : Nat) : Int))), (11, (.bool true)), (33, (.bool true))] ⟨rfl, rfl, rfl, rfl, rfl, rfl, rfl, trivial⟩ (fun τr3 => ?_)
     refine RA.ret env_ok ?_
     refine ⟨.inr rfl, [(.int .i64 ((i : Nat) : Int))], (resL_cons rfl resL_nil), (by have hf := fi_found (d := dPth) (l := l) (i := i) (by omega) (show hitP a b _ = true from by unfold hitP; rw [decide_eq_true_eq]; omega) hi2; show Value.int _ _ = Value.int _ _; unfold idxZ; rw [if_pos (by omega), hf]), (fun i hi => by cases hi)⟩
    ·
     refine OA.p (some 32) (.bool false) rfl rfl rfl (Eq.trans (r_bin rfl rfl rfl (b_eql rfl)) (dF hc5)) ?_
     refine OA.p (some 33) (.bool false) rfl rfl rfl rfl ?_
     refine OA.nil ?_
     intro _
     refine RA.condF rfl ?_
     refine RA.skip env_ok ?_
     intro _
     refine RA.region env_ok ?_
     refine OA.p (some 12) (.int .i64 ((i : Nat) : Int)) rfl rfl rfl rfl ?_
     refine OA.p (some 13) (.int .i64 (((i + 1) : Nat) : Int)) rfl rfl rfl (r_bin rfl rfl rfl (b_add (i64_eq (by omega)))) ?_
     refine OA.p (some 7) (.int .i64 (((i + 1) : Nat) : Int)) rfl rfl rfl rfl ?_
     refine OA.nil ?_
     refine ⟨(N - (i + 1)), by omega, [], (Less.refl _ _ _), (i + 1), rfl, by omega, ⟨rfl, rfl, rfl, rfl, trivial⟩, rfl, (fun i hi => by cases hi), ⟨by omega, fi_step (d := dPth) (by omega) (by unfold hitP; rw [decide_eq_true_eq]; omega) (by omega)⟩⟩
   ·
    refine OA.p (some 23) (.bool false) rfl rfl rfl (Eq.trans (r_bin rfl rfl rfl (b_eql rfl)) (dF hc4)) ?_
    refine OA.p (some 24) (.bool false) rfl rfl rfl rfl ?_
    refine OA.p (some 25) (.bool false) rfl rfl rfl rfl ?_
    refine OA.off (dst := (some 26)) rfl rfl rfl ?_
    refine OA.off (dst := (some 27)) rfl rfl rfl ?_
    refine OA.off (dst := (some 28)) rfl rfl rfl ?_
    refine OA.off (dst := (some 29)) rfl rfl rfl ?_
    refine OA.off (dst := (some 30)) rfl rfl rfl ?_
    refine OA.off (dst := (some 31)) rfl rfl rfl ?_
    refine OA.off (dst := (some 32)) rfl rfl rfl ?_
    refine OA.p (some 33) (.bool false) rfl rfl rfl rfl ?_
    refine OA.nil ?_
    intro _
    refine RA.condF rfl ?_
    refine RA.skip env_ok ?_
    intro _
    refine RA.region env_ok ?_
    refine OA.p (some 12) (.int .i64 ((i : Nat) : Int)) rfl rfl rfl rfl ?_
    refine OA.p (some 13) (.int .i64 (((i + 1) : Nat) : Int)) rfl rfl rfl (r_bin rfl rfl rfl (b_add (i64_eq (by omega)))) ?_
    refine OA.p (some 7) (.int .i64 (((i + 1) : Nat) : Int)) rfl rfl rfl rfl ?_
    refine OA.nil ?_
    refine ⟨(N - (i + 1)), by omega, [], (Less.refl _ _ _), (i + 1), rfl, by omega, ⟨rfl, rfl, rfl, rfl, trivial⟩, rfl, (fun i hi => by cases hi), ⟨by omega, fi_step (d := dPth) (by omega) (by unfold hitP; rw [decide_eq_true_eq]; omega) (by omega)⟩⟩
 ·
  refine OA.p (some 11) (.bool false) rfl rfl rfl (Eq.trans (r_bin rfl rfl rfl (b_lss rfl)) (dF hc1)) ?_
  refine OA.nil ?_
  intro _
  refine RA.condF rfl ?_
  refine RA.exit env_ok ?_
  intro _
  refine RA.seq hd ?_
  refine RA.region env_ok ?_
  refine OA.p (some 6) (.int .i64 (-1)) rfl rfl rfl rfl ?_
  refine OA.nil ?_
  intro _
  refine RA.ret env_ok ?_
  refine ⟨.inr rfl, [(.int .i64 (-1))], (resL_cons rfl resL_nil), (by have hf := fi_le (p := hitP a b) (l := l); show Value.int _ _ = Value.int _ _; unfold idxZ; rw [if_neg (by omega)]), (fun i hi => by cases hi)⟩

theorem pFirst {σ : Store} (p jp K : Nat) (f : Int) (hp : σ p = some ⟨[[(.slice (some ⟨jp, 0, none⟩) K 2), (.int .i64 f)]], 2, 131, true⟩)  : PS Try.prog noDen 61 [(Pt p 0 0)] σ (.int .i64 f) := by
 refine PS.body (E := env) env_ok rfl rfl (by show _ ≤ _; exact of_decide_eq_true (by kernel_rfl)) (fun n hd => ?_)
 have lhp := hd.lt hp
 refine RA.seq hd ?_
 refine RA.region env_ok ?_
 refine OA.p (some 2) (.int .i64 0) rfl rfl rfl rfl ?_
 refine OA.nil ?_
 intro _
 refine RA.seq hd ?_
 refine RA.seq hd ?_
 refine RA.region env_ok ?_
 refine OA.p (some 3) (Pt p 0 0) rfl rfl rfl rfl ?_
 refine OA.p (some 4) (.bool false) rfl rfl rfl rfl ?_
 refine OA.nil ?_
 intro _
 refine RA.condF rfl ?_
 refine RA.skip env_ok ?_
 intro _
 refine RA.seq hd ?_
 refine RA.region env_ok ?_
 refine OA.p (some 5) (Pt p 0 0) rfl rfl rfl rfl ?_
 refine OA.p (some 6) (Pt p 0 0) rfl rfl rfl rfl ?_
 refine OA.p (some 7) (Pt p 0 1) rfl rfl rfl rfl ?_
 refine OA.p (some 8) (.int .i64 f) rfl rfl rfl (r_load1 rfl rfl rfl rfl rfl hp rfl rfl) ?_
 refine OA.p (some 2) (.int .i64 f) rfl rfl rfl rfl ?_
 refine OA.nil ?_
 intro _
 refine RA.ret env_ok ?_
 refine ⟨.inr rfl, [(.int .i64 f)], (resL_cons rfl resL_nil), rfl, (fun i hi => by cases hi)⟩

theorem pChoose {n : Nat} {σ : Store} (hd : Dom n σ) (p jp K : Nat) (f : Int) (x : Int) (hp : σ p = some ⟨[[(.slice (some ⟨jp, 0, none⟩) K 2), (.int .i64 f)]], 2, 131, true⟩)  : CQ Try.prog noDen 57 [(Pt p 0 0), (.int .i64 x)] n σ (fun v n' d => v = .bool (decide (0 ≤ x ∧ x < ((K : Nat) : Int))) ∧ (((0 ≤ x ∧ x < ((K : Nat) : Int)) ∧ d = [(p, some ⟨[[(.slice (some ⟨jp, 0, none⟩) K 2), (.int .i64 x)]], 2, 131, true⟩)]) ∨ (¬ (0 ≤ x ∧ x < ((K : Nat) : Int)) ∧ d = []))) := by
 have lhp := hd.lt hp
 refine CQ.body (E := env) env_ok hd rfl rfl (by show _ ≤ _; exact of_decide_eq_true (by kernel_rfl)) ?_
 refine RA.seq hd ?_
 refine RA.region env_ok ?_
 refine OA.p (some 4) (.bool false) rfl rfl rfl rfl ?_
 refine OA.nil ?_
 intro _
 refine RA.seq hd ?_
 refine RA.seq hd ?_
 refine RA.region env_ok ?_
 refine OA.p (some 5) (Pt p 0 0) rfl rfl rfl rfl ?_
 refine OA.p (some 6) (.bool false) rfl rfl rfl rfl ?_
 refine OA.p (some 7) (.bool false) rfl rfl rfl rfl ?_
 refine OA.p (some 8) (.int .i64 x) rfl rfl rfl rfl ?_
 by_cases hc1 : x < 0
 ·
  refine OA.p (some 9) (.bool true) rfl rfl rfl (Eq.trans (r_bin rfl rfl rfl (b_lss rfl)) (dT hc1)) ?_
  refine OA.p (some 10) (.bool true) rfl rfl rfl rfl ?_
  refine OA.p (some 11) (.bool true) rfl rfl rfl rfl ?_
  refine OA.off (dst := (some 12)) rfl rfl rfl ?_
  refine OA.off (dst := (some 13)) rfl rfl rfl ?_
  refine OA.off (dst := (some 14)) rfl rfl rfl ?_
  refine OA.off (dst := (some 15)) rfl rfl rfl ?_
  refine OA.off (dst := (some 16)) rfl rfl rfl ?_
  refine OA.off (dst := (some 17)) rfl rfl rfl ?_
  refine OA.off (dst := (some 18)) rfl rfl rfl ?_
  refine OA.p (some 19) (.bool true) rfl rfl rfl rfl ?_
  refine OA.nil ?_
  intro _
  refine RA.condT rfl ?_
  refine RA.seq hd ?_
  refine RA.region env_ok ?_
  refine OA.p (some 4) (.bool false) rfl rfl rfl rfl ?_
  refine OA.nil ?_
  intro _
  refine RA.ret env_ok ?_
  refine ⟨.inr rfl, [(.bool false)], (resL_cons rfl resL_nil), [], (Less.refl _ _ _), ⟨by first | exact (congrArg Value.bool (decide_eq_false (by omega)).symm), (.inr ⟨by omega, rfl⟩)⟩⟩
 ·
  refine OA.p (some 9) (.bool false) rfl rfl rfl (Eq.trans (r_bin rfl rfl rfl (b_lss rfl)) (dF hc1)) ?_
  refine OA.p (some 10) (.bool false) rfl rfl rfl rfl ?_
  refine OA.p (some 11) (.bool false) rfl rfl rfl rfl ?_
  refine OA.p (some 12) (.int .i64 x) rfl rfl rfl rfl ?_
  refine OA.p (some 13) (Pt p 0 0) rfl rfl rfl rfl ?_
  refine OA.p (some 14) (Pt p 0 0) rfl rfl rfl rfl ?_
  refine OA.p (some 15) (Pt p 0 0) rfl rfl rfl rfl ?_
  refine OA.p (some 16) (.slice (some ⟨jp, 0, none⟩) K 2) rfl rfl rfl (r_load1 rfl rfl rfl rfl rfl hp rfl rfl) ?_
  refine OA.p (some 17) (.int .i64 ((K : Nat) : Int)) rfl rfl rfl rfl ?_
  by_cases hc2 : ((K : Nat) : Int) ≤ x
  ·
   refine OA.p (some 18) (.bool true) rfl rfl rfl (Eq.trans (r_bin rfl rfl rfl (b_geq rfl)) (dT hc2)) ?_
   refine OA.p (some 19) (.bool true) rfl rfl rfl rfl ?_
   refine OA.nil ?_
   intro _
   refine RA.condT rfl ?_
   refine RA.seq hd ?_
   refine RA.region env_ok ?_
   refine OA.p (some 4) (.bool false) rfl rfl rfl rfl ?_
   refine OA.nil ?_
   intro _
   refine RA.ret env_ok ?_
   refine ⟨.inr rfl, [(.bool false)], (resL_cons rfl resL_nil), [], (Less.refl _ _ _), ⟨by first | exact (congrArg Value.bool (decide_eq_false (by omega)).symm), (.inr ⟨by omega, rfl⟩)⟩⟩
  ·
   refine OA.p (some 18) (.bool false) rfl rfl rfl (Eq.trans (r_bin rfl rfl rfl (b_geq rfl)) (dF hc2)) ?_
   refine OA.p (some 19) (.bool false) rfl rfl rfl rfl ?_
   refine OA.nil ?_
   intro _
   refine RA.condF rfl ?_
   refine RA.skip env_ok ?_
   intro _
   refine RA.seq hd ?_
   refine RA.region env_ok ?_
   refine OA.p (some 20) (Pt p 0 0) rfl rfl rfl rfl ?_
   refine OA.p (some 21) (.int .i64 x) rfl rfl rfl rfl ?_
   refine OA.p (some 22) (Pt p 0 0) rfl rfl rfl rfl ?_
   refine OA.p (some 23) (Pt p 0 1) rfl rfl rfl rfl ?_
   refine OA.op1 (dst := none) (v := (.tuple #[])) (n1 := n) (w := (p, some ⟨[[(.slice (some ⟨jp, 0, none⟩) K 2), (.int .i64 x)]], 2, 131, true⟩)) rfl rfl rfl (r_store rfl rfl rfl rfl rfl rfl rfl hp rfl rfl (Nat.le_of_ble_eq_true rfl) rfl) (by omega) ?_
   refine OA.nil ?_
   intro _
   refine RA.seq hd ?_
   refine RA.region env_ok ?_
   refine OA.p (some 4) (.bool true) rfl rfl rfl rfl ?_
   refine OA.nil ?_
   intro _
   refine RA.ret env_ok ?_
   refine ⟨.inr rfl, [(.bool true)], (resL_cons rfl resL_nil), [(p, some ⟨[[(.slice (some ⟨jp, 0, none⟩) K 2), (.int .i64 x)]], 2, 131, true⟩)], (Less.refl _ _ _), ⟨by first | exact (congrArg Value.bool (decide_eq_true (by omega)).symm), (.inl ⟨by omega, rfl⟩)⟩⟩

theorem pFdC {σ : Store} (x : Pth) (k1 k2 : Nat) (a b : BitVec 32) (h1 : σ k1 = some ⟨[[(W a)]], 1, 24, true⟩) (h2 : σ k2 = some ⟨[[(W b)]], 1, 24, true⟩)  : PS Try.prog noDen 95 [(.agg ⟨(cPth x)⟩), (Pt k1 0 0), (Pt k2 0 0)] σ (.bool (eqP a b x)) := by
 refine PS.body (E := env) env_ok rfl rfl (by show _ ≤ _; exact of_decide_eq_true (by kernel_rfl)) (fun n hd => ?_)
 have lh1 := hd.lt h1
 have lh2 := hd.lt h2
 refine RA.seq hd ?_
 refine RA.region env_ok ?_
 refine OA.op1 (dst := (some 3)) (v := (Pt n 0 0)) (n1 := (n + 1)) (w := (n, some ⟨[(cPth x)], 15, 87, true⟩)) rfl rfl rfl rfl (by omega) ?_
 refine OA.p (some 4) (.bool false) rfl rfl rfl rfl ?_
 refine OA.nil ?_
 intro _
 refine RA.seq hd ?_
 refine RA.region env_ok ?_
 refine OA.p (some 5) (Pt n 0 0) rfl rfl rfl rfl ?_
 refine OA.p (some 6) (W x.own) rfl rfl rfl (r_load1 rfl rfl rfl rfl rfl get_here rfl rfl) ?_
 refine OA.p (some 7) (W a) rfl rfl rfl (r_load1 rfl rfl rfl rfl rfl (get_there (by omega) h1) rfl rfl) ?_
 by_cases hc1 : (x.own.toNat : Int) = (a.toNat : Int)
 ·
  refine OA.p (some 8) (.bool true) rfl rfl rfl (Eq.trans (r_bin rfl rfl rfl (b_eql rfl)) (dT hc1)) ?_
  refine OA.p (some 9) (.bool true) rfl rfl rfl rfl ?_
  refine OA.p (some 10) (Pt n 0 1) rfl rfl rfl rfl ?_
  refine OA.p (some 11) (W x.peer) rfl rfl rfl (r_load1 rfl rfl rfl rfl rfl get_here rfl rfl) ?_
  refine OA.p (some 12) (W b) rfl rfl rfl (r_load1 rfl rfl rfl rfl rfl (get_there (by omega) h2) rfl rfl) ?_
  refine OA.p (some 13) (.bool (decide ((x.peer.toNat : Int) = (b.toNat : Int)))) rfl rfl rfl (r_bin rfl rfl rfl (b_eql rfl)) ?_
  refine OA.p (some 14) (.bool (decide ((x.peer.toNat : Int) = (b.toNat : Int)))) rfl rfl rfl rfl ?_
  refine OA.p (some 4) (.bool (decide ((x.peer.toNat : Int) = (b.toNat : Int)))) rfl rfl rfl rfl ?_
  refine OA.nil ?_
  intro _
  refine RA.ret env_ok ?_
  refine ⟨.inr rfl, [(.bool (decide ((x.peer.toNat : Int) = (b.toNat : Int))))], (resL_cons rfl resL_nil), (by show Value.bool _ = Value.bool _; unfold eqP; simp_all), (kc1 (by omega))⟩
 ·
  refine OA.p (some 8) (.bool false) rfl rfl rfl (Eq.trans (r_bin rfl rfl rfl (b_eql rfl)) (dF hc1)) ?_
  refine OA.p (some 9) (.bool false) rfl rfl rfl rfl ?_
  refine OA.off (dst := (some 10)) rfl rfl rfl ?_
  refine OA.off (dst := (some 11)) rfl rfl rfl ?_
  refine OA.off (dst := (some 12)) rfl rfl rfl ?_
  refine OA.off (dst := (some 13)) rfl rfl rfl ?_
  refine OA.p (some 14) (.bool false) rfl rfl rfl rfl ?_
  refine OA.p (some 4) (.bool false) rfl rfl rfl rfl ?_
  refine OA.nil ?_
  intro _
  refine RA.ret env_ok ?_
  refine ⟨.inr rfl, [(.bool false)], (resL_cons rfl resL_nil), (by show Value.bool _ = Value.bool _; unfold eqP; simp_all), (kc1 (by omega))⟩

theorem pPeC {σ : Store} (x : Pth) (k2 : Nat) (b : BitVec 32) (h2 : σ k2 = some ⟨[[(W b)]], 1, 24, true⟩)  : PS Try.prog noDen 96 [(.agg ⟨(cPth x)⟩), (Pt k2 0 0)] σ (.bool (peP b x)) := by
 refine PS.body (E := env) env_ok rfl rfl (by show _ ≤ _; exact of_decide_eq_true (by kernel_rfl)) (fun n hd => ?_)
 have lh2 := hd.lt h2
 refine RA.seq hd ?_
 refine RA.region env_ok ?_
 refine OA.op1 (dst := (some 2)) (v := (Pt n 0 0)) (n1 := (n + 1)) (w := (n, some ⟨[(cPth x)], 15, 87, true⟩)) rfl rfl rfl rfl (by omega) ?_
 refine OA.p (some 3) (.bool false) rfl rfl rfl rfl ?_
 refine OA.nil ?_
 intro _
 refine RA.seq hd ?_
 refine RA.region env_ok ?_
 refine OA.p (some 4) (Pt n 0 1) rfl rfl rfl rfl ?_
 refine OA.p (some 5) (W x.peer) rfl rfl rfl (r_load1 rfl rfl rfl rfl rfl get_here rfl rfl) ?_
 refine OA.p (some 6) (W b) rfl rfl rfl (r_load1 rfl rfl rfl rfl rfl (get_there (by omega) h2) rfl rfl) ?_
 refine OA.p (some 7) (.bool (decide ((x.peer.toNat : Int) = (b.toNat : Int)))) rfl rfl rfl (r_bin rfl rfl rfl (b_eql rfl)) ?_
 refine OA.p (some 3) (.bool (decide ((x.peer.toNat : Int) = (b.toNat : Int)))) rfl rfl rfl rfl ?_
 refine OA.nil ?_
 intro _
 refine RA.ret env_ok ?_
 refine ⟨.inr rfl, [(.bool (decide ((x.peer.toNat : Int) = (b.toNat : Int))))], (resL_cons rfl resL_nil), (by show Value.bool _ = Value.bool _; unfold peP; simp_all), (kc1 (by omega))⟩

theorem pAlC {σ : Store} (x : Pth)   : PS Try.prog noDen 98 [(.agg ⟨(cPth x)⟩)] σ (.bool (upP x)) := by
 refine PS.body (E := env) env_ok rfl rfl (by show _ ≤ _; exact of_decide_eq_true (by kernel_rfl)) (fun n hd => ?_)
 refine RA.seq hd ?_
 refine RA.region env_ok ?_
 refine OA.op1 (dst := (some 1)) (v := (Pt n 0 0)) (n1 := (n + 1)) (w := (n, some ⟨[(cPth x)], 15, 87, true⟩)) rfl rfl rfl rfl (by omega) ?_
 refine OA.p (some 2) (.bool false) rfl rfl rfl rfl ?_
 refine OA.nil ?_
 intro _
 refine RA.seq hd ?_
 refine RA.region env_ok ?_
 refine OA.p (some 3) (Pt n 0 2) rfl rfl rfl rfl ?_
 refine OA.p (some 4) (.int .i64 x.state) rfl rfl rfl (r_load1 rfl rfl rfl rfl rfl get_here rfl rfl) ?_
 refine OA.p (some 5) (.bool (decide (x.state ≠ 2))) rfl rfl rfl (r_bin rfl rfl rfl (b_neq rfl)) ?_
 refine OA.p (some 2) (.bool (decide (x.state ≠ 2))) rfl rfl rfl rfl ?_
 refine OA.nil ?_
 intro _
 refine RA.ret env_ok ?_
 refine ⟨.inr rfl, [(.bool (decide (x.state ≠ 2)))], (resL_cons rfl resL_nil), (by show Value.bool _ = Value.bool _; unfold upP; simp_all), (kc1 (by omega))⟩

theorem pIdF {σ : Store} (j N : Nat) (l : List Pth) (hl : l.length = N) (hN : N ≤ 1000000) (p : Pth → Bool) (q1 q2 : Nat) (hj : σ j = some (oPth l)) (hf : ∀ x ∈ l, PS Try.prog noDen 95 [.agg ⟨cPth x⟩, (Pt q1 0 0), (Pt q2 0 0)] σ (.bool (p x))) : PS Try.prog noDen 94 [(.slice (some ⟨j, 0, none⟩) N 2), (.func (.func 95) ⟨[]⟩ ⟨[(Pt q1 0 0), (Pt q2 0 0)]⟩)] σ (.int .i64 (idxZ p l)) := by
 refine PS.body (E := env) env_ok rfl rfl (by show _ ≤ _; exact of_decide_eq_true (by kernel_rfl)) (fun n hd => ?_)
 have lhj := hd.lt hj
 refine RA.seq hd ?_
 refine RA.region env_ok ?_
 refine OA.p (some 4) (.int .i64 0) rfl rfl rfl rfl ?_
 refine OA.nil ?_
 intro _
 refine RA.seq hd ?_
 refine RA.seq hd ?_
 refine RA.region env_ok ?_
 refine OA.p (some 6) (.slice (some ⟨j, 0, none⟩) N 2) rfl rfl rfl rfl ?_
 refine OA.p (some 7) (.int .i64 ((N : Nat) : Int)) rfl rfl rfl rfl ?_
 refine OA.p (some 8) (.int .i64 0) rfl rfl rfl rfl ?_
 refine OA.nil ?_
 intro _
 refine RA.block ?_
 refine RA.loop hd (fun kk_ τ n' D => ∃ i : Nat,  kk_ = (N - i) ∧ n ≤ n' ∧ Has τ [(0, (.slice (some ⟨j, 0, none⟩) N 2)), (1, (.func (.func 95) ⟨[]⟩ ⟨[(Pt q1 0 0), (Pt q2 0 0)]⟩)), (7, (.int .i64 ((N : Nat) : Int))), (8, (.int .i64 ((i : Nat) : Int)))] ∧ D = [] ∧ (∀ i ∈ keys D, i < n') ∧ i ≤ N ∧ i ≤ l.findIdx p) ((N - 0)) ⟨0, rfl, by omega, ⟨rfl, rfl, rfl, rfl, trivial⟩, rfl, (fun i hi => by cases hi), ⟨by omega, by omega⟩⟩ ?_
 rintro kn1 τ1 n1 _ ⟨i, rfl, hn1, hHn1, rfl, hKn1, hIn1⟩
 rw [Has.eq hHn1]
 simp only [keys, List.map, List.forall_mem_cons, List.mem_cons, List.not_mem_nil, false_imp_iff, implies_true, and_true] at hKn1
 obtain ⟨hi1, hi2⟩ := hIn1
 refine RA.seq hd ?_
 refine RA.region env_ok ?_
 by_cases hc1 : ((i : Nat) : Int) < ((N : Nat) : Int)
 ·
  refine OA.p (some 9) (.bool true) rfl rfl rfl (Eq.trans (r_bin rfl rfl rfl (b_lss rfl)) (dT hc1)) ?_
  refine OA.nil ?_
  intro _
  refine RA.seq hd ?_
  refine RA.condT rfl ?_
  refine RA.skip env_ok ?_
  intro _
  refine RA.seq hd ?_
  refine RA.block ?_
  refine RA.seq hd ?_
  refine RA.region env_ok ?_
  refine OA.p (some 10) (.int .i64 ((i : Nat) : Int)) rfl rfl rfl rfl ?_
  refine OA.p (some 5) (.int .i64 ((i : Nat) : Int)) rfl rfl rfl rfl ?_
  refine OA.nil ?_
  intro _
  refine RA.seq hd ?_
  refine RA.region env_ok ?_
  refine OA.p (some 11) (.func (.func 95) ⟨[]⟩ ⟨[(Pt q1 0 0), (Pt q2 0 0)]⟩) rfl rfl rfl rfl ?_
  refine OA.p (some 12) (.slice (some ⟨j, 0, none⟩) N 2) rfl rfl rfl rfl ?_
  refine OA.p (some 13) (.int .i64 ((i : Nat) : Int)) rfl rfl rfl rfl ?_
  refine OA.p (some 14) (Pt j i 0) rfl rfl rfl (r_iaS (l := i) rfl rfl rfl rfl rfl rfl (by omega) (by omega) hj rfl (by omega)) ?_
  refine OA.p (some 15) (.agg ⟨(cPth (l.getD i dPth))⟩) rfl rfl rfl (r_loadR (c := cPth) dPth rfl rfl rfl rfl hj (by rw [hl]; omega) rfl) ?_
  by_cases hc2 : (p (l.getD i dPth)) = true
  ·
   have hfi := fi_found (d := dPth) (by omega) hc2 (by omega)
   refine OA.callP (dst := (some 16)) (all := [(.agg ⟨(cPth (l.getD i dPth))⟩), (Pt q1 0 0), (Pt q2 0 0)]) (v := (.bool true)) (hd.up (by omega)) rfl rfl rfl rfl rfl rfl rfl rfl (PS.to (hf (l.getD i dPth) (getD_mem (by omega))) (show (.bool (p (l.getD i dPth))) = ((.bool true) : Value) from (by first | (rw [hc2]; done) | (rw [hc2]; rfl)))) ?_
   intro n2 hn2
   refine OA.nil ?_
   intro _
   refine RA.condT rfl ?_
   refine RA.seq hd ?_
   refine RA.region env_ok ?_
   refine OA.p (some 17) (.int .i64 ((i : Nat) : Int)) rfl rfl rfl rfl ?_
   refine OA.p (some 4) (.int .i64 ((i : Nat) : Int)) rfl rfl rfl rfl ?_
   refine OA.nil ?_
   intro _
   refine RA.ret env_ok ?_
   refine ⟨.inr rfl, [(.int .i64 ((i : Nat) : Int))], (resL_cons rfl resL_nil), (by show Value.int _ _ = Value.int _ _; unfold idxZ; rw [if_pos (by omega), hfi]), (fun i hi => by cases hi)⟩
  ·
   have hfi := fi_step (d := dPth) (by omega) hc2 (by omega)
   refine OA.callP (dst := (some 16)) (all := [(.agg ⟨(cPth (l.getD i dPth))⟩), (Pt q1 0 0), (Pt q2 0 0)]) (v := (.bool false)) (hd.up (by omega)) rfl rfl rfl rfl rfl rfl rfl rfl (PS.to (hf (l.getD i dPth) (getD_mem (by omega))) (show (.bool (p (l.getD i dPth))) = ((.bool false) : Value) from (by first | (rw [eq_false_of_ne_true hc2]; done) | (rw [eq_false_of_ne_true hc2]; rfl)))) ?_
   intro n3 hn3
   refine OA.nil ?_
   intro _
   refine RA.condF rfl ?_
   refine RA.skip env_ok ?_
   intro _
   refine RA.region env_ok ?_
   refine OA.p (some 18) (.int .i64 (((i + 1) : Nat) : Int)) rfl rfl rfl (r_bin rfl rfl rfl (b_add (i64_eq (by omega)))) ?_
   refine OA.p (some 8) (.int .i64 (((i + 1) : Nat) : Int)) rfl rfl rfl rfl ?_
   refine OA.nil ?_
   refine ⟨(N - (i + 1)), by omega, [], (Less.refl _ _ _), (i + 1), rfl, by omega, ⟨rfl, rfl, rfl, rfl, trivial⟩, rfl, (fun i hi => by cases hi), ⟨by omega, by omega⟩⟩
 ·
  refine OA.p (some 9) (.bool false) rfl rfl rfl (Eq.trans (r_bin rfl rfl rfl (b_lss rfl)) (dF hc1)) ?_
  refine OA.nil ?_
  intro _
  refine RA.seq hd ?_
  refine RA.condF rfl ?_
  refine RA.exit env_ok ?_
  intro _
  refine RA.seq hd ?_
  refine RA.region env_ok ?_
  refine OA.p (some 4) (.int .i64 (-1)) rfl rfl rfl rfl ?_
  refine OA.nil ?_
  intro _
  refine RA.ret env_ok ?_
  refine ⟨.inr rfl, [(.int .i64 (-1))], (resL_cons rfl resL_nil), (by show Value.int _ _ = Value.int _ _; unfold idxZ; rw [if_neg (by omega)]), (fun i hi => by cases hi)⟩

theorem pIdP {σ : Store} (j N : Nat) (l : List Pth) (hl : l.length = N) (hN : N ≤ 1000000) (p : Pth → Bool) (q2 : Nat) (hj : σ j = some (oPth l)) (hf : ∀ x ∈ l, PS Try.prog noDen 96 [.agg ⟨cPth x⟩, (Pt q2 0 0)] σ (.bool (p x))) : PS Try.prog noDen 94 [(.slice (some ⟨j, 0, none⟩) N 2), (.func (.func 96) ⟨[]⟩ ⟨[(Pt q2 0 0)]⟩)] σ (.int .i64 (idxZ p l)) := by
 refine PS.body (E := env) env_ok rfl rfl (by show _ ≤ _; exact of_decide_eq_true (by kernel_rfl)) (fun n hd => ?_)
 have lhj := hd.lt hj
 refine RA.seq hd ?_
 refine RA.region env_ok ?_
 refine OA.p (some 4) (.int .i64 0) rfl rfl rfl rfl ?_
 refine OA.nil ?_
 intro _
 refine RA.seq hd ?_
 refine RA.seq hd ?_
 refine RA.region env_ok ?_
 refine OA.p (some 6) (.slice (some ⟨j, 0, none⟩) N 2) rfl rfl rfl rfl ?_
 refine OA.p (some 7) (.int .i64 ((N : Nat) : Int)) rfl rfl rfl rfl ?_
 refine OA.p (some 8) (.int .i64 0) rfl rfl rfl rfl ?_
 refine OA.nil ?_
 intro _
 refine RA.block ?_
 refine RA.loop hd (fun kk_ τ n' D => ∃ i : Nat,  kk_ = (N - i) ∧ n ≤ n' ∧ Has τ [(0, (.slice (some ⟨j, 0, none⟩) N 2)), (1, (.func (.func 96) ⟨[]⟩ ⟨[(Pt q2 0 0)]⟩)), (7, (.int .i64 ((N : Nat) : Int))), (8, (.int .i64 ((i : Nat) : Int)))] ∧ D = [] ∧ (∀ i ∈ keys D, i < n') ∧ i ≤ N ∧ i ≤ l.findIdx p) ((N - 0)) ⟨0, rfl, by omega, ⟨rfl, rfl, rfl, rfl, trivial⟩, rfl, (fun i hi => by cases hi), ⟨by omega, by omega⟩⟩ ?_
 rintro kn1 τ1 n1 _ ⟨i, rfl, hn1, hHn1, rfl, hKn1, hIn1⟩
 rw [Has.eq hHn1]
 simp only [keys, List.map, List.forall_mem_cons, List.mem_cons, List.not_mem_nil, false_imp_iff, implies_true, and_true] at hKn1
 obtain ⟨hi1, hi2⟩ := hIn1
 refine RA.seq hd ?_
 refine RA.region env_ok ?_
 by_cases hc1 : ((i : Nat) : Int) < ((N : Nat) : Int)
 ·
  refine OA.p (some 9) (.bool true) rfl rfl rfl (Eq.trans (r_bin rfl rfl rfl (b_lss rfl)) (dT hc1)) ?_
  refine OA.nil ?_
  intro _
  refine RA.seq hd ?_
  refine RA.condT rfl ?_
  refine RA.skip env_ok ?_
  intro _
  refine RA.seq hd ?_
  refine RA.block ?_
  refine RA.seq hd ?_
  refine RA.region env_ok ?_
  refine OA.p (some 10) (.int .i64 ((i : Nat) : Int)) rfl rfl rfl rfl ?_
  refine OA.p (some 5) (.int .i64 ((i : Nat) : Int)) rfl rfl rfl rfl ?_
  refine OA.nil ?_
  intro _
  refine RA.seq hd ?_
  refine RA.region env_ok ?_
  refine OA.p (some 11) (.func (.func 96) ⟨[]⟩ ⟨[(Pt q2 0 0)]⟩) rfl rfl rfl rfl ?_
  refine OA.p (some 12) (.slice (some ⟨j, 0, none⟩) N 2) rfl rfl rfl rfl ?_
  refine OA.p (some 13) (.int .i64 ((i : Nat) : Int)) rfl rfl rfl rfl ?_
  refine OA.p (some 14) (Pt j i 0) rfl rfl rfl (r_iaS (l := i) rfl rfl rfl rfl rfl rfl (by omega) (by omega) hj rfl (by omega)) ?_
  refine OA.p (some 15) (.agg ⟨(cPth (l.getD i dPth))⟩) rfl rfl rfl (r_loadR (c := cPth) dPth rfl rfl rfl rfl hj (by rw [hl]; omega) rfl) ?_
  by_cases hc2 : (p (l.getD i dPth)) = true
  ·
   have hfi := fi_found (d := dPth) (by omega) hc2 (by omega)
   refine OA.callP (dst := (some 16)) (all := [(.agg ⟨(cPth (l.getD i dPth))⟩), (Pt q2 0 0)]) (v := (.bool true)) (hd.up (by omega)) rfl rfl rfl rfl rfl rfl rfl rfl (PS.to (hf (l.getD i dPth) (getD_mem (by omega))) (show (.bool (p (l.getD i dPth))) = ((.bool true) : Value) from (by first | (rw [hc2]; done) | (rw [hc2]; rfl)))) ?_
   intro n2 hn2
   refine OA.nil ?_
   intro _
   refine RA.condT rfl ?_
   refine RA.seq hd ?_
   refine RA.region env_ok ?_
   refine OA.p (some 17) (.int .i64 ((i : Nat) : Int)) rfl rfl rfl rfl ?_
   refine OA.p (some 4) (.int .i64 ((i : Nat) : Int)) rfl rfl rfl rfl ?_
   refine OA.nil ?_
   intro _
   refine RA.ret env_ok ?_
   refine ⟨.inr rfl, [(.int .i64 ((i : Nat) : Int))], (resL_cons rfl resL_nil), (by show Value.int _ _ = Value.int _ _; unfold idxZ; rw [if_pos (by omega), hfi]), (fun i hi => by cases hi)⟩
  ·
   have hfi := fi_step (d := dPth) (by omega) hc2 (by omega)
   refine OA.callP (dst := (some 16)) (all := [(.agg ⟨(cPth (l.getD i dPth))⟩), (Pt q2 0 0)]) (v := (.bool false)) (hd.up (by omega)) rfl rfl rfl rfl rfl rfl rfl rfl (PS.to (hf (l.getD i dPth) (getD_mem (by omega))) (show (.bool (p (l.getD i dPth))) = ((.bool false) : Value) from (by first | (rw [eq_false_of_ne_true hc2]; done) | (rw [eq_false_of_ne_true hc2]; rfl)))) ?_
   intro n3 hn3
   refine OA.nil ?_
   intro _
   refine RA.condF rfl ?_
   refine RA.skip env_ok ?_
   intro _
   refine RA.region env_ok ?_
   refine OA.p (some 18) (.int .i64 (((i + 1) : Nat) : Int)) rfl rfl rfl (r_bin rfl rfl rfl (b_add (i64_eq (by omega)))) ?_
   refine OA.p (some 8) (.int .i64 (((i + 1) : Nat) : Int)) rfl rfl rfl rfl ?_
   refine OA.nil ?_
   refine ⟨(N - (i + 1)), by omega, [], (Less.refl _ _ _), (i + 1), rfl, by omega, ⟨rfl, rfl, rfl, rfl, trivial⟩, rfl, (fun i hi => by cases hi), ⟨by omega, by omega⟩⟩
 ·
  refine OA.p (some 9) (.bool false) rfl rfl rfl (Eq.trans (r_bin rfl rfl rfl (b_lss rfl)) (dF hc1)) ?_
  refine OA.nil ?_
  intro _
  refine RA.seq hd ?_
  refine RA.condF rfl ?_
  refine RA.exit env_ok ?_
  intro _
  refine RA.seq hd ?_
  refine RA.region env_ok ?_
  refine OA.p (some 4) (.int .i64 (-1)) rfl rfl rfl rfl ?_
  refine OA.nil ?_
  intro _
  refine RA.ret env_ok ?_
  refine ⟨.inr rfl, [(.int .i64 (-1))], (resL_cons rfl resL_nil), (by show Value.int _ _ = Value.int _ _; unfold idxZ; rw [if_neg (by omega)]), (fun i hi => by cases hi)⟩

theorem pFindP {σ : Store} (p jp K : Nat) (f : Int) (l : List Pth) (hl : l.length = K) (hK : K ≤ 1000) (a b : BitVec 32) (hp : σ p = some ⟨[[(.slice (some ⟨jp, 0, none⟩) K 2), (.int .i64 f)]], 2, 131, true⟩) (hjp : σ jp = some (oPth l))  : PS Try.prog noDen 62 [(Pt p 0 0), (W a), (W b)] σ (.int .i64 (idxZ (eqP a b) l)) := by
 refine PS.body (E := env) env_ok rfl rfl (by show _ ≤ _; exact of_decide_eq_true (by kernel_rfl)) (fun n hd => ?_)
 have lhp := hd.lt hp
 have lhjp := hd.lt hjp
 refine RA.seq hd ?_
 refine RA.region env_ok ?_
 refine OA.op1 (dst := (some 4)) (v := (Pt n 0 0)) (n1 := (n + 1)) (w := (n, some ⟨[[(W a)]], 1, 24, true⟩)) rfl rfl rfl rfl (by omega) ?_
 refine OA.op1 (dst := (some 5)) (v := (.pointer (some ⟨(n + 1), 0, some 0⟩))) (n1 := (n + 2)) (w := ((n + 1), some ⟨[[(W b)]], 1, 24, true⟩)) rfl rfl rfl rfl (by omega) ?_
 refine OA.p (some 6) (.int .i64 0) rfl rfl rfl rfl ?_
 refine OA.nil ?_
 intro _
 refine RA.seq hd ?_
 refine RA.seq hd ?_
 refine RA.region env_ok ?_
 refine OA.p (some 7) (Pt p 0 0) rfl rfl rfl rfl ?_
 refine OA.p (some 8) (.bool false) rfl rfl rfl rfl ?_
 refine OA.nil ?_
 intro _
 refine RA.condF rfl ?_
 refine RA.skip env_ok ?_
 intro _
 refine RA.seq hd ?_
 refine RA.region env_ok ?_
 refine OA.p (some 9) (Pt p 0 0) rfl rfl rfl rfl ?_
 refine OA.p (some 10) (Pt p 0 0) rfl rfl rfl rfl ?_
 refine OA.p (some 11) (Pt p 0 0) rfl rfl rfl rfl ?_
 refine OA.p (some 12) (.slice (some ⟨jp, 0, none⟩) K 2) rfl rfl rfl (r_load1 rfl rfl rfl rfl rfl (gt2 (by omega) hp) rfl rfl) ?_
 refine OA.p (some 13) (.func (.func 95) ⟨[]⟩ ⟨[(Pt n 0 0), (.pointer (some ⟨(n + 1), 0, some 0⟩))]⟩) rfl rfl rfl rfl ?_
 refine OA.callP (dst := (some 14)) (all := [(.slice (some ⟨jp, 0, none⟩) K 2), (.func (.func 95) ⟨[]⟩ ⟨[(Pt n 0 0), (.pointer (some ⟨(n + 1), 0, some 0⟩))]⟩)]) (v := (.int .i64 (idxZ (eqP a b) l))) (hd.of (by omega) (kb2 (by omega))) rfl rfl rfl rfl rfl rfl rfl rfl (pIdF jp K l hl (by omega) (eqP a b) n (n + 1) (gt2 (by omega) hjp) (fun x _ => pFdC x n (n + 1) a b (get_there (by omega) get_here) get_here)) ?_
 intro n1 hn1
 refine OA.p (some 6) (.int .i64 (idxZ (eqP a b) l)) rfl rfl rfl rfl ?_
 refine OA.nil ?_
 intro _
 refine RA.ret env_ok ?_
 refine ⟨.inr rfl, [(.int .i64 (idxZ (eqP a b) l))], (resL_cons rfl resL_nil), rfl, (kc2 (by omega))⟩

theorem pPeer {σ : Store} (p jp K : Nat) (f : Int) (l : List Pth) (hl : l.length = K) (hK : K ≤ 1000) (b : BitVec 32) (hp : σ p = some ⟨[[(.slice (some ⟨jp, 0, none⟩) K 2), (.int .i64 f)]], 2, 131, true⟩) (hjp : σ jp = some (oPth l))  : PS Try.prog noDen 63 [(Pt p 0 0), (W b)] σ (.int .i64 (idxZ (peP b) l)) := by
 refine PS.body (E := env) env_ok rfl rfl (by show _ ≤ _; exact of_decide_eq_true (by kernel_rfl)) (fun n hd => ?_)
 have lhp := hd.lt hp
 have lhjp := hd.lt hjp
 refine RA.seq hd ?_
 refine RA.region env_ok ?_
 refine OA.op1 (dst := (some 3)) (v := (Pt n 0 0)) (n1 := (n + 1)) (w := (n, some ⟨[[(W b)]], 1, 24, true⟩)) rfl rfl rfl rfl (by omega) ?_
 refine OA.p (some 4) (.int .i64 0) rfl rfl rfl rfl ?_
 refine OA.nil ?_
 intro _
 refine RA.seq hd ?_
 refine RA.seq hd ?_
 refine RA.region env_ok ?_
 refine OA.p (some 5) (Pt p 0 0) rfl rfl rfl rfl ?_
 refine OA.p (some 6) (.bool false) rfl rfl rfl rfl ?_
 refine OA.nil ?_
 intro _
 refine RA.condF rfl ?_
 refine RA.skip env_ok ?_
 intro _
 refine RA.seq hd ?_
 refine RA.region env_ok ?_
 refine OA.p (some 7) (Pt p 0 0) rfl rfl rfl rfl ?_
 refine OA.p (some 8) (Pt p 0 0) rfl rfl rfl rfl ?_
 refine OA.p (some 9) (Pt p 0 0) rfl rfl rfl rfl ?_
 refine OA.p (some 10) (.slice (some ⟨jp, 0, none⟩) K 2) rfl rfl rfl (r_load1 rfl rfl rfl rfl rfl (get_there (by omega) hp) rfl rfl) ?_
 refine OA.p (some 11) (.func (.func 96) ⟨[]⟩ ⟨[(Pt n 0 0)]⟩) rfl rfl rfl rfl ?_
 refine OA.callP (dst := (some 12)) (all := [(.slice (some ⟨jp, 0, none⟩) K 2), (.func (.func 96) ⟨[]⟩ ⟨[(Pt n 0 0)]⟩)]) (v := (.int .i64 (idxZ (peP b) l))) (hd.of (by omega) (kb1 (by omega))) rfl rfl rfl rfl rfl rfl rfl rfl (pIdP jp K l hl (by omega) (peP b) n (get_there (by omega) hjp) (fun x _ => pPeC x n b get_here)) ?_
 intro n1 hn1
 refine OA.p (some 4) (.int .i64 (idxZ (peP b) l)) rfl rfl rfl rfl ?_
 refine OA.nil ?_
 intro _
 refine RA.ret env_ok ?_
 refine ⟨.inr rfl, [(.int .i64 (idxZ (peP b) l))], (resL_cons rfl resL_nil), rfl, (kc1 (by omega))⟩

theorem pIdA {σ : Store} (j N : Nat) (l : List Pth) (hl : l.length = N) (hN : N ≤ 1000000) (p : Pth → Bool)  (hj : σ j = some (oPth l)) (hf : ∀ x ∈ l, PS Try.prog noDen 98 [.agg ⟨cPth x⟩, ] σ (.bool (p x))) : PS Try.prog noDen 94 [(.slice (some ⟨j, 0, none⟩) N 2), (.func (.func 98) ⟨[]⟩ ⟨[]⟩)] σ (.int .i64 (idxZ p l)) := by
 refine PS.body (E := env) env_ok rfl rfl (by show _ ≤ _; exact of_decide_eq_true (by kernel_rfl)) (fun n hd => ?_)
 have lhj := hd.lt hj
 refine RA.seq hd ?_
 refine RA.region env_ok ?_
 refine OA.p (some 4) (.int .i64 0) rfl rfl rfl rfl ?_
 refine OA.nil ?_
 intro _
 refine RA.seq hd ?_
 refine RA.seq hd ?_
 refine RA.region env_ok ?_
 refine OA.p (some 6) (.slice (some ⟨j, 0, none⟩) N 2) rfl rfl rfl rfl ?_
 refine OA.p (some 7) (.int .i64 ((N : Nat) : Int)) rfl rfl rfl rfl ?_
 refine OA.p (some 8) (.int .i64 0) rfl rfl rfl rfl ?_
 refine OA.nil ?_
 intro _
 refine RA.block ?_
 refine RA.loop hd (fun kk_ τ n' D => ∃ i : Nat,  kk_ = (N - i) ∧ n ≤ n' ∧ Has τ [(0, (.slice (some ⟨j, 0, none⟩) N 2)), (1, (.func (.func 98) ⟨[]⟩ ⟨[]⟩)), (7, (.int .i64 ((N : Nat) : Int))), (8, (.int .i64 ((i : Nat) : Int)))] ∧ D = [] ∧ (∀ i ∈ keys D, i < n') ∧ i ≤ N ∧ i ≤ l.findIdx p) ((N - 0)) ⟨0, rfl, by omega, ⟨rfl, rfl, rfl, rfl, trivial⟩, rfl, (fun i hi => by cases hi), ⟨by omega, by omega⟩⟩ ?_
 rintro kn1 τ1 n1 _ ⟨i, rfl, hn1, hHn1, rfl, hKn1, hIn1⟩
 rw [Has.eq hHn1]
 simp only [keys, List.map, List.forall_mem_cons, List.mem_cons, List.not_mem_nil, false_imp_iff, implies_true, and_true] at hKn1
 obtain ⟨hi1, hi2⟩ := hIn1
 refine RA.seq hd ?_
 refine RA.region env_ok ?_
 by_cases hc1 : ((i : Nat) : Int) < ((N : Nat) : Int)
 ·
  refine OA.p (some 9) (.bool true) rfl rfl rfl (Eq.trans (r_bin rfl rfl rfl (b_lss rfl)) (dT hc1)) ?_
  refine OA.nil ?_
  intro _
  refine RA.seq hd ?_
  refine RA.condT rfl ?_
  refine RA.skip env_ok ?_
  intro _
  refine RA.seq hd ?_
  refine RA.block ?_
  refine RA.seq hd ?_
  refine RA.region env_ok ?_
  refine OA.p (some 10) (.int .i64 ((i : Nat) : Int)) rfl rfl rfl rfl ?_
  refine OA.p (some 5) (.int .i64 ((i : Nat) : Int)) rfl rfl rfl rfl ?_
  refine OA.nil ?_
  intro _
  refine RA.seq hd ?_
  refine RA.region env_ok ?_
  refine OA.p (some 11) (.func (.func 98) ⟨[]⟩ ⟨[]⟩) rfl rfl rfl rfl ?_
  refine OA.p (some 12) (.slice (some ⟨j, 0, none⟩) N 2) rfl rfl rfl rfl ?_
  refine OA.p (some 13) (.int .i64 ((i : Nat) : Int)) rfl rfl rfl rfl ?_
  refine OA.p (some 14) (Pt j i 0) rfl rfl rfl (r_iaS (l := i) rfl rfl rfl rfl rfl rfl (by omega) (by omega) hj rfl (by omega)) ?_
  refine OA.p (some 15) (.agg ⟨(cPth (l.getD i dPth))⟩) rfl rfl rfl (r_loadR (c := cPth) dPth rfl rfl rfl rfl hj (by rw [hl]; omega) rfl) ?_
  by_cases hc2 : (p (l.getD i dPth)) = true
  ·
   have hfi := fi_found (d := dPth) (by omega) hc2 (by omega)
   refine OA.callP (dst := (some 16)) (all := [(.agg ⟨(cPth (l.getD i dPth))⟩)]) (v := (.bool true)) (hd.up (by omega)) rfl rfl rfl rfl rfl rfl rfl rfl (PS.to (hf (l.getD i dPth) (getD_mem (by omega))) (show (.bool (p (l.getD i dPth))) = ((.bool true) : Value) from (by first | (rw [hc2]; done) | (rw [hc2]; rfl)))) ?_
   intro n2 hn2
   refine OA.nil ?_
   intro _
   refine RA.condT rfl ?_
   refine RA.seq hd ?_
   refine RA.region env_ok ?_
   refine OA.p (some 17) (.int .i64 ((i : Nat) : Int)) rfl rfl rfl rfl ?_
   refine OA.p (some 4) (.int .i64 ((i : Nat) : Int)) rfl rfl rfl rfl ?_
   refine OA.nil ?_
   intro _
   refine RA.ret env_ok ?_
   refine ⟨.inr rfl, [(.int .i64 ((i : Nat) : Int))], (resL_cons rfl resL_nil), (by show Value.int _ _ = Value.int _ _; unfold idxZ; rw [if_pos (by omega), hfi]), (fun i hi => by cases hi)⟩
  ·
   have hfi := fi_step (d := dPth) (by omega) hc2 (by omega)
   refine OA.callP (dst := (some 16)) (all := [(.agg ⟨(cPth (l.getD i dPth))⟩)]) (v := (.bool false)) (hd.up (by omega)) rfl rfl rfl rfl rfl rfl rfl rfl (PS.to (hf (l.getD i dPth) (getD_mem (by omega))) (show (.bool (p (l.getD i dPth))) = ((.bool false) : Value) from (by first | (rw [eq_false_of_ne_true hc2]; done) | (rw [eq_false_of_ne_true hc2]; rfl)))) ?_
   intro n3 hn3
   refine OA.nil ?_
   intro _
   refine RA.condF rfl ?_
   refine RA.skip env_ok ?_
   intro _
   refine RA.region env_ok ?_
   refine OA.p (some 18) (.int .i64 (((i + 1) : Nat) : Int)) rfl rfl rfl (r_bin rfl rfl rfl (b_add (i64_eq (by omega)))) ?_
   refine OA.p (some 8) (.int .i64 (((i + 1) : Nat) : Int)) rfl rfl rfl rfl ?_
   refine OA.nil ?_
   refine ⟨(N - (i + 1)), by omega, [], (Less.refl _ _ _), (i + 1), rfl, by omega, ⟨rfl, rfl, rfl, rfl, trivial⟩, rfl, (fun i hi => by cases hi), ⟨by omega, by omega⟩⟩
 ·
  refine OA.p (some 9) (.bool false) rfl rfl rfl (Eq.trans (r_bin rfl rfl rfl (b_lss rfl)) (dF hc1)) ?_
  refine OA.nil ?_
  intro _
  refine RA.seq hd ?_
  refine RA.condF rfl ?_
  refine RA.exit env_ok ?_
  intro _
  refine RA.seq hd ?_
  refine RA.region env_ok ?_
  refine OA.p (some 4) (.int .i64 (-1)) rfl rfl rfl rfl ?_
  refine OA.nil ?_
  intro _
  refine RA.ret env_ok ?_
  refine ⟨.inr rfl, [(.int .i64 (-1))], (resL_cons rfl resL_nil), (by show Value.int _ _ = Value.int _ _; unfold idxZ; rw [if_neg (by omega)]), (fun i hi => by cases hi)⟩

theorem pCtA {σ : Store} (j N : Nat) (l : List Pth) (hl : l.length = N) (hN : N ≤ 1000000) (p : Pth → Bool)  (hj : σ j = some (oPth l)) (hf : ∀ x ∈ l, PS Try.prog noDen 98 [.agg ⟨cPth x⟩, ] σ (.bool (p x))) : PS Try.prog noDen 97 [(.slice (some ⟨j, 0, none⟩) N 2), (.func (.func 98) ⟨[]⟩ ⟨[]⟩)] σ (.bool (l.any p)) := by
 refine PS.body (E := env) env_ok rfl rfl (by show _ ≤ _; exact of_decide_eq_true (by kernel_rfl)) (fun n hd => ?_)
 have lhj := hd.lt hj
 refine RA.seq hd ?_
 refine RA.region env_ok ?_
 refine OA.p (some 4) (.bool false) rfl rfl rfl rfl ?_
 refine OA.nil ?_
 intro _
 refine RA.seq hd ?_
 refine RA.region env_ok ?_
 refine OA.p (some 5) (.slice (some ⟨j, 0, none⟩) N 2) rfl rfl rfl rfl ?_
 refine OA.p (some 6) (.func (.func 98) ⟨[]⟩ ⟨[]⟩) rfl rfl rfl rfl ?_
 refine OA.callP (dst := (some 7)) (all := [(.slice (some ⟨j, 0, none⟩) N 2), (.func (.func 98) ⟨[]⟩ ⟨[]⟩)]) (v := (.int .i64 (idxZ p l))) (hd.up (by omega)) rfl rfl rfl rfl rfl rfl rfl rfl (pIdA j N l hl hN p  hj hf) ?_
 intro n1 hn1
 refine OA.p (some 8) (.bool (decide (0 ≤ (idxZ p l)))) rfl rfl rfl (r_bin rfl rfl rfl (b_geq rfl)) ?_
 refine OA.p (some 4) (.bool (decide (0 ≤ (idxZ p l)))) rfl rfl rfl rfl ?_
 refine OA.nil ?_
 intro _
 refine RA.ret env_ok ?_
 refine ⟨.inr rfl, [(.bool (decide (0 ≤ (idxZ p l))))], (resL_cons rfl resL_nil), (by show Value.bool _ = Value.bool _; rw [← idxZ_any]), (fun i hi => by cases hi)⟩

theorem pAlive {σ : Store} (p jp K : Nat) (f : Int) (l : List Pth) (hl : l.length = K) (hK : K ≤ 1000) (hp : σ p = some ⟨[[(.slice (some ⟨jp, 0, none⟩) K 2), (.int .i64 f)]], 2, 131, true⟩) (hjp : σ jp = some (oPth l))  : PS Try.prog noDen 67 [(Pt p 0 0)] σ (.bool (l.any upP)) := by
 refine PS.body (E := env) env_ok rfl rfl (by show _ ≤ _; exact of_decide_eq_true (by kernel_rfl)) (fun n hd => ?_)
 have lhp := hd.lt hp
 have lhjp := hd.lt hjp
 refine RA.seq hd ?_
 refine RA.region env_ok ?_
 refine OA.p (some 2) (.bool false) rfl rfl rfl rfl ?_
 refine OA.nil ?_
 intro _
 refine RA.seq hd ?_
 refine RA.region env_ok ?_
 refine OA.p (some 3) (Pt p 0 0) rfl rfl rfl rfl ?_
 refine OA.p (some 4) (.bool true) rfl rfl rfl rfl ?_
 refine OA.p (some 5) (.bool true) rfl rfl rfl rfl ?_
 refine OA.p (some 6) (Pt p 0 0) rfl rfl rfl rfl ?_
 refine OA.p (some 7) (Pt p 0 0) rfl rfl rfl rfl ?_
 refine OA.p (some 8) (Pt p 0 0) rfl rfl rfl rfl ?_
 refine OA.p (some 9) (.slice (some ⟨jp, 0, none⟩) K 2) rfl rfl rfl (r_load1 rfl rfl rfl rfl rfl hp rfl rfl) ?_
 refine OA.callP (dst := (some 10)) (all := [(.slice (some ⟨jp, 0, none⟩) K 2), (.func (.func 98) ⟨[]⟩ ⟨[]⟩)]) (v := (.bool (l.any upP))) (hd.up (by omega)) rfl rfl rfl rfl rfl rfl rfl rfl (pCtA jp K l hl (by omega) upP hjp (fun x _ => pAlC x)) ?_
 intro n1 hn1
 refine OA.p (some 11) (.bool (l.any upP)) rfl rfl rfl rfl ?_
 refine OA.p (some 2) (.bool (l.any upP)) rfl rfl rfl rfl ?_
 refine OA.nil ?_
 intro _
 refine RA.ret env_ok ?_
 refine ⟨.inr rfl, [(.bool (l.any upP))], (resL_cons rfl resL_nil), rfl, (fun i hi => by cases hi)⟩

theorem pRto {σ : Store}    : PS Try.prog noDen 89 [] σ (.agg ⟨[(.int .i64 0), (.int .i64 0), (.int .i64 30), (.bool false)]⟩) := by
 refine PS.body (E := env) env_ok rfl rfl (by show _ ≤ _; exact of_decide_eq_true (by kernel_rfl)) (fun n hd => ?_)
 refine RA.seq hd ?_
 refine RA.region env_ok ?_
 refine OA.op1 (dst := (some 0)) (v := (Pt n 0 0)) (n1 := (n + 1)) (w := (n, some ⟨[[(.int .i64 0), (.int .i64 0), (.int .i64 0), (.bool false)]], 4, 85, true⟩)) rfl rfl rfl rfl (by omega) ?_
 refine OA.nil ?_
 intro _
 refine RA.seq hd ?_
 refine RA.region env_ok ?_
 refine OA.p (some 1) (.agg ⟨[(.int .i64 0), (.int .i64 0), (.int .i64 30), (.bool false)]⟩) rfl rfl rfl (by kernel_rfl) ?_
 refine OA.op1 (dst := none) (v := (.tuple #[])) (n1 := (n + 1)) (w := (n, some ⟨[[(.int .i64 0), (.int .i64 0), (.int .i64 30), (.bool false)]], 4, 85, true⟩)) rfl rfl rfl (r_store rfl rfl rfl rfl rfl rfl rfl get_here rfl rfl (Nat.le_of_ble_eq_true rfl) rfl) (by omega) ?_
 refine OA.nil ?_
 intro _
 refine RA.ret env_ok ?_
 refine ⟨.inr rfl, [(.agg ⟨[(.int .i64 0), (.int .i64 0), (.int .i64 30), (.bool false)]⟩)], (resL_cons (res_cellA rfl rfl rfl get_here rfl rfl rfl) resL_nil), rfl, (kc2 (by omega))⟩

theorem pPNew {σ : Store} (a b : BitVec 32)   : PS Try.prog noDen 51 [(W a), (W b)] σ (.agg ⟨(cPth (newP a b))⟩) := by
 refine PS.body (E := env) env_ok rfl rfl (by show _ ≤ _; exact of_decide_eq_true (by kernel_rfl)) (fun n hd => ?_)
 refine RA.seq hd ?_
 refine RA.region env_ok ?_
 refine OA.op1 (dst := (some 4)) (v := (Pt n 0 0)) (n1 := (n + 1)) (w := (n, some ⟨[[(.int .u32 0), (.int .u32 0), (.int .i64 0), (.int .i64 0), (.int .i64 0), (.int .i64 0), (.int .i64 0), (.bool false), (.int .i64 0), (.int .i64 0), (.int .i64 0), (.int .i64 0), (.int .i64 0), (.int .u32 0), (.int .i64 0)]], 15, 87, true⟩)) rfl rfl rfl rfl (by omega) ?_
 refine OA.nil ?_
 intro _
 refine RA.seq hd ?_
 refine RA.region env_ok ?_
 refine OA.p (some 5) (W a) rfl rfl rfl rfl ?_
 refine OA.p (some 6) (W b) rfl rfl rfl rfl ?_
 refine OA.callP (dst := (some 7)) (all := []) (v := (.agg ⟨[(.int .i64 0), (.int .i64 0), (.int .i64 30), (.bool false)]⟩)) (hd.of (by omega) (kb1 (by omega))) rfl rfl rfl rfl rfl rfl rfl rfl pRto ?_
 intro n1 hn1
 refine OA.p (some 8) (.agg ⟨(xPa11 a b)⟩) rfl rfl rfl (by kernel_rfl) ?_
 refine OA.op1 (dst := none) (v := (.tuple #[])) (n1 := n1) (w := (n, some ⟨[(xPa11 a b)], 15, 87, true⟩)) rfl rfl rfl (r_store rfl rfl rfl rfl rfl rfl rfl get_here rfl rfl (Nat.le_of_ble_eq_true rfl) rfl) (by omega) ?_
 refine OA.nil ?_
 intro _
 refine RA.ret env_ok ?_
 refine ⟨.inr rfl, [(.agg ⟨(xPa11 a b)⟩)], (resL_cons (res_cellA rfl rfl rfl get_here rfl rfl rfl) resL_nil), rfl, (kc2 (by omega))⟩
end Go.Proofs.Ytnjknabighmedaa.Vt
