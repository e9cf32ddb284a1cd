/- Ao1: walks through functions of the program, by the calculus; written by a program of this workplace. -/
import Derived.Test.YtnjknabighmedaaCh
import Derived.Test.YtnjknabighmedaaVm5
namespace Go.Proofs.Ytnjknabighmedaa.Vt
open Go Go.Proofs Go.Proofs.YtnjknabighmedaaV
set_option maxRecDepth 100000
set_option linter.unusedVariables false
set_option linter.unusedSimpArgs false
structure Ent where
  inner : BitVec 32
  port : Int
  peer : BitVec 32
  pport : Int
  inn : BitVec 32
  out : BitVec 32
  seen : Int
deriving DecidableEq
def dEnt : Ent := ⟨0#32, 0, 0#32, 0, 0#32, 0#32, 0⟩
abbrev cEnt (e : Ent) : List Value := [(W e.inner), (.int .i64 e.port), (W e.peer), (.int .i64 e.pport), (W e.inn), (W e.out), (.int .i64 e.seen)]
abbrev oEnt (l : List Ent) : AObj := ⟨l.map cEnt, 7, 26, true⟩
def idxZ {α : Type} (p : α → Bool) (l : List α) : Int := if l.findIdx p < l.length then ((l.findIdx p : Nat) : Int) else -1
theorem fi_le {α : Type} {p : α → Bool} {l : List α} : l.findIdx p ≤ l.length := List.findIdx_le_length
theorem fi_found {α : Type} {d : α} {p : α → Bool} {l : List α} {i : Nat} (h : i < l.length) (hp : p (l.getD i d) = true) (hi : i ≤ l.findIdx p) : l.findIdx p = i := by
  rcases Nat.lt_or_ge i (l.findIdx p) with h1 | h1
  · have := List.not_of_lt_findIdx h1
    rw [List.getD_eq_getElem?_getD, List.getElem?_eq_getElem h] at hp
    simp only [Option.getD_some] at hp
    rw [hp] at this; simp at this
  · omega
theorem fi_step {α : Type} {d : α} {p : α → Bool} {l : List α} {i : Nat} (h : i < l.length) (hp : ¬ p (l.getD i d) = true) (hi : i ≤ l.findIdx p) : i + 1 ≤ l.findIdx p := by
  rcases Nat.lt_or_ge i (l.findIdx p) with h1 | h1
  · omega
  · exfalso; apply hp
    have e : l.findIdx p = i := by omega
    have h2 : l.findIdx p < l.length := by omega
    have h3 := List.findIdx_getElem (p := p) (xs := l) (w := h2)
    rw [List.getD_eq_getElem?_getD, List.getElem?_eq_getElem h]
    simp only [Option.getD_some]
    simpa only [e] using h3
theorem fi_any {α : Type} {p : α → Bool} {l : List α} : decide (l.findIdx p < l.length) = l.any p := by
  rw [Bool.eq_iff_iff, decide_eq_true_eq, List.findIdx_lt_length, List.any_eq_true]
theorem idxZ_any {α : Type} {p : α → Bool} {l : List α} : decide (idxZ p l ≥ 0) = l.any p := by
  rw [← fi_any]; unfold idxZ
  split <;> rename_i h
  · rw [decide_eq_true h, decide_eq_true (by omega)]
  · rw [decide_eq_false h, decide_eq_false (by omega)]
def near (e : Ent) : Ent := ⟨(e.inner &&& 3#32) + 1#32, ((andN e.port 1 : Nat) : Int), (e.peer &&& 1#32) + 9#32, ((andN e.pport 1 : Nat) : Int), e.inn &&& 3#32, e.out &&& 3#32, e.seen⟩
theorem awakeT {σ : Store} : PS Try.prog noDen 15 [] σ (.bool true) := PS.closed env_ok rfl (F := 100) (k := 20) (by kernel_rfl) rfl rfl
def HIT (f t : Int) (g : BitVec 32) (m : Bool) (x : Ent) : Prop := (x.inner.toNat : Int) = 1 ∧ (x.peer.toNat : Int) = 9 ∧ x.pport = f ∧ x.port = t ∧ ((cond m x.out x.inn).toNat : Int) = (g.toNat : Int) ∧ ¬ (g.toNat : Int) = 0
instance (f t : Int) (g : BitVec 32) (m : Bool) (x : Ent) : Decidable (HIT f t g m x) := by unfold HIT; infer_instance
def hit (f t : Int) (g : BitVec 32) (m : Bool) (x : Ent) : Bool := decide (HIT f t g m x)
theorem hitT {f t : Int} {g : BitVec 32} {m : Bool} {x : Ent} (h : HIT f t g m x) : hit f t g m x = true := decide_eq_true h
theorem hitF {f t : Int} {g : BitVec 32} {m : Bool} {x : Ent} (h : ¬ HIT f t g m x) : hit f t g m x = false := decide_eq_false h
theorem hitL {f t : Int} {g : BitVec 32} {m : Bool} {x : Ent} (h0 : (x.inner.toNat : Int) = 1) (h1 : (x.peer.toNat : Int) = 9) (h2 : x.pport = f) (h3 : x.port = t) (h4 : ((cond m x.out x.inn).toNat : Int) = (g.toNat : Int)) : decide ((g.toNat : Int) ≠ 0) = hit f t g m x := by
  by_cases h : (g.toNat : Int) = 0
  · rw [hitF (fun hh => hh.2.2.2.2.2 h), decide_eq_false (fun h2 => h2 h)]
  · rw [hitT ⟨h0, h1, h2, h3, h4, h⟩, decide_eq_true h]
theorem sub_app {n n' : Nat} {σ : Store} {D : Delta} (hd : Dom n σ) (hk : ∀ i ∈ keys D, n ≤ i ∧ i < n') : Sub σ (app D σ) := by
  intro i o h
  have hi := hd.lt h
  induction D with
  | nil => exact h
  | cons a D ih =>
    obtain ⟨a, x⟩ := a
    have h1 : n ≤ a := (hk a (by simp [keys])).1
    simp only [app]
    rw [if_neg (by omega)]
    exact ih (fun j hj => hk j (by simp [keys] at hj ⊢; exact .inr hj))
theorem okChk.mono {σ σ' : Store} (hs : Sub σ σ') {c : Chk} (h : okChk σ c) : okChk σ' c := ⟨h.1.mono hs, h.2.1.mono hs, h.2.2.1.mono hs, h.2.2.2.mono hs⟩
abbrev xAo11 (e : Ent) : List Value := [(W ((e.inner &&& (3#32)) + (1#32))), (.int .i64 (((andN e.port 1) : Nat) : Int)), (W ((e.peer &&& (1#32)) + (9#32))), (.int .i64 (((andN e.pport 1) : Nat) : Int)), (W (e.inn &&& (3#32))), (W (e.out &&& (3#32))), (.int .i64 e.seen)]
abbrev xAo12 (n : Nat) : List Value := [(.pointer (some ⟨(n + 3), 0, some 0⟩)), (.pointer (some ⟨n, 0, some 0⟩)), (.pointer (some ⟨(n + 1), 0, some 0⟩)), (.pointer (some ⟨(n + 2), 0, some 0⟩))]
abbrev xAo13 (b9 : Nat) (b6 : Nat) (b7 : Nat) (b8 : Nat) : List Value := [(.pointer (some ⟨b9, 0, some 0⟩)), (.pointer (some ⟨b6, 0, some 0⟩)), (.pointer (some ⟨b7, 0, some 0⟩)), (.pointer (some ⟨b8, 0, some 0⟩))]
theorem oNear {σ : Store} (e : Ent)   : PS Try.prog noDen 14 [(.agg ⟨(cEnt e)⟩)] σ (.agg ⟨cEnt (near e)⟩) := by
 refine PS.body (E := env) env_ok rfl rfl (by show _ ≤ _; exact of_decide_eq_true (by kernel_rfl)) (fun n hd => ?_)
 refine RA.seq hd ?_
 refine RA.region env_ok ?_
 refine OA.op1 (dst := (some 1)) (v := (Pt n 0 0)) (n1 := (n + 1)) (w := (n, some ⟨[(cEnt e)], 7, 26, true⟩)) rfl rfl rfl rfl (by omega) ?_
 refine OA.op1 (dst := (some 2)) (v := (.pointer (some ⟨(n + 1), 0, some 0⟩))) (n1 := (n + 2)) (w := ((n + 1), some ⟨[[(.int .u32 0), (.int .i64 0), (.int .u32 0), (.int .i64 0), (.int .u32 0), (.int .u32 0), (.int .i64 0)]], 7, 26, true⟩)) rfl rfl rfl rfl (by omega) ?_
 refine OA.nil ?_
 intro _
 refine RA.seq hd ?_
 refine RA.region env_ok ?_
 refine OA.p (some 3) (Pt n 0 0) rfl rfl rfl rfl ?_
 refine OA.p (some 4) (W e.inner) rfl rfl rfl (r_load1 rfl rfl rfl rfl rfl (get_there (by omega) get_here) rfl rfl) ?_
 refine OA.p (some 5) (W (e.inner &&& (3#32))) rfl rfl rfl (r_bin rfl rfl rfl (b_andW e.inner (3#32))) ?_
 refine OA.p (some 6) (W ((e.inner &&& (3#32)) + (1#32))) rfl rfl rfl (r_bin rfl rfl rfl (b_addW (e.inner &&& (3#32)) (1#32))) ?_
 refine OA.p (some 7) (Pt n 0 1) rfl rfl rfl rfl ?_
 refine OA.p (some 8) (.int .i64 e.port) rfl rfl rfl (r_load1 rfl rfl rfl rfl rfl (get_there (by omega) get_here) rfl rfl) ?_
 have hm1 := andN_le e.port 1 (by decide)
 refine OA.p (some 9) (.int .i64 (((andN e.port 1) : Nat) : Int)) rfl rfl rfl (r_bin rfl rfl rfl (b_andN e.port 1 (by decide))) ?_
 refine OA.p (some 10) (Pt n 0 2) rfl rfl rfl rfl ?_
 refine OA.p (some 11) (W e.peer) rfl rfl rfl (r_load1 rfl rfl rfl rfl rfl (get_there (by omega) get_here) rfl rfl) ?_
 refine OA.p (some 12) (W (e.peer &&& (1#32))) rfl rfl rfl (r_bin rfl rfl rfl (b_andW e.peer (1#32))) ?_
 refine OA.p (some 13) (W ((e.peer &&& (1#32)) + (9#32))) rfl rfl rfl (r_bin rfl rfl rfl (b_addW (e.peer &&& (1#32)) (9#32))) ?_
 refine OA.p (some 14) (Pt n 0 3) rfl rfl rfl rfl ?_
 refine OA.p (some 15) (.int .i64 e.pport) rfl rfl rfl (r_load1 rfl rfl rfl rfl rfl (get_there (by omega) get_here) rfl rfl) ?_
 have hm2 := andN_le e.pport 1 (by decide)
 refine OA.p (some 16) (.int .i64 (((andN e.pport 1) : Nat) : Int)) rfl rfl rfl (r_bin rfl rfl rfl (b_andN e.pport 1 (by decide))) ?_
 refine OA.p (some 17) (Pt n 0 4) rfl rfl rfl rfl ?_
 refine OA.p (some 18) (W e.inn) rfl rfl rfl (r_load1 rfl rfl rfl rfl rfl (get_there (by omega) get_here) rfl rfl) ?_
 refine OA.p (some 19) (W (e.inn &&& (3#32))) rfl rfl rfl (r_bin rfl rfl rfl (b_andW e.inn (3#32))) ?_
 refine OA.p (some 20) (Pt n 0 5) rfl rfl rfl rfl ?_
 refine OA.p (some 21) (W e.out) rfl rfl rfl (r_load1 rfl rfl rfl rfl rfl (get_there (by omega) get_here) rfl rfl) ?_
 refine OA.p (some 22) (W (e.out &&& (3#32))) rfl rfl rfl (r_bin rfl rfl rfl (b_andW e.out (3#32))) ?_
 refine OA.p (some 23) (Pt n 0 6) rfl rfl rfl rfl ?_
 refine OA.p (some 24) (.int .i64 e.seen) rfl rfl rfl (r_load1 rfl rfl rfl rfl rfl (get_there (by omega) get_here) rfl rfl) ?_
 refine OA.p (some 25) (.agg ⟨(xAo11 e)⟩) rfl rfl rfl (by kernel_rfl) ?_
 refine OA.op1 (dst := none) (v := (.tuple #[])) (n1 := (n + 2)) (w := ((n + 1), some ⟨[(xAo11 e)], 7, 26, true⟩)) rfl rfl rfl (r_store rfl rfl rfl rfl rfl rfl rfl get_here rfl rfl (Nat.le_of_ble_eq_true rfl) rfl) (by omega) ?_
 refine OA.nil ?_
 intro _
 refine RA.rebase [(0, (.agg ⟨(cEnt e)⟩)), (1, (Pt n 0 0)), (2, (.pointer (some ⟨(n + 1), 0, some 0⟩)))] ⟨rfl, rfl, rfl, trivial⟩ (fun τr3 => ?_)
 refine RA.ret env_ok ?_
 refine ⟨.inr rfl, [(.agg ⟨(xAo11 e)⟩)], (resL_cons (res_cellA rfl rfl rfl get_here rfl rfl rfl) resL_nil), rfl, (kc3 (by omega))⟩

theorem oClotrue {σ : Store} (x : Ent) (b9 b6 b7 b8 : Nat) (f t : Int) (g : BitVec 32) (a : Option Addr) (K : Nat) (h9 : σ b9 = some ⟨[[(.bool true)]], 1, 4, true⟩) (h6 : σ b6 = some ⟨[[(.int .u32 1)]], 1, 24, true⟩) (h7 : σ b7 = some ⟨[[(.int .u32 9)]], 1, 24, true⟩) (h8 : σ b8 = some ⟨[[(.int .i64 f), (.int .i64 t), (W g), (.slice a K 0)]], 4, 33, true⟩)  : PS Try.prog noDen 70 [(.agg ⟨(cEnt x)⟩), (Pt b9 0 0), (Pt b6 0 0), (Pt b7 0 0), (Pt b8 0 0)] σ (.bool (hit f t g true x)) := by
 refine PS.body (E := env) env_ok rfl rfl (by show _ ≤ _; exact of_decide_eq_true (by kernel_rfl)) (fun n hd => ?_)
 have lh9 := hd.lt h9
 have lh6 := hd.lt h6
 have lh7 := hd.lt h7
 have lh8 := hd.lt h8
 refine RA.seq hd ?_
 refine RA.region env_ok ?_
 refine OA.op1 (dst := (some 5)) (v := (Pt n 0 0)) (n1 := (n + 1)) (w := (n, some ⟨[(cEnt x)], 7, 26, true⟩)) rfl rfl rfl rfl (by omega) ?_
 refine OA.p (some 6) (.bool false) rfl rfl rfl rfl ?_
 refine OA.nil ?_
 intro _
 refine RA.seq hd ?_
 refine RA.region env_ok ?_
 refine OA.p (some 8) (Pt n 0 4) rfl rfl rfl rfl ?_
 refine OA.p (some 9) (W x.inn) rfl rfl rfl (r_load1 rfl rfl rfl rfl rfl get_here rfl rfl) ?_
 refine OA.p (some 7) (W x.inn) rfl rfl rfl rfl ?_
 refine OA.nil ?_
 intro _
 refine RA.seq hd ?_
 refine RA.seq hd ?_
 refine RA.region env_ok ?_
 refine OA.p (some 10) (.bool true) rfl rfl rfl (r_load1 rfl rfl rfl rfl rfl (get_there (by omega) h9) rfl rfl) ?_
 refine OA.nil ?_
 intro _
 refine RA.condT rfl ?_
 refine RA.region env_ok ?_
 refine OA.p (some 11) (Pt n 0 5) rfl rfl rfl rfl ?_
 refine OA.p (some 12) (W x.out) rfl rfl rfl (r_load1 rfl rfl rfl rfl rfl get_here rfl rfl) ?_
 refine OA.p (some 7) (W x.out) rfl rfl rfl rfl ?_
 refine OA.nil ?_
 intro _
 refine RA.seq hd ?_
 refine RA.region env_ok ?_
 refine OA.p (some 13) (Pt n 0 0) rfl rfl rfl rfl ?_
 refine OA.p (some 14) (W x.inner) rfl rfl rfl (r_load1 rfl rfl rfl rfl rfl get_here rfl rfl) ?_
 refine OA.p (some 15) (.int .u32 1) rfl rfl rfl (r_load1 rfl rfl rfl rfl rfl (get_there (by omega) h6) rfl rfl) ?_
 by_cases hc1 : (x.inner.toNat : Int) = 1
 ·
  refine OA.p (some 16) (.bool true) rfl rfl rfl (Eq.trans (r_bin rfl rfl rfl (b_eql rfl)) (dT hc1)) ?_
  refine OA.p (some 17) (.bool true) rfl rfl rfl rfl ?_
  refine OA.p (some 18) (Pt n 0 2) rfl rfl rfl rfl ?_
  refine OA.p (some 19) (W x.peer) rfl rfl rfl (r_load1 rfl rfl rfl rfl rfl get_here rfl rfl) ?_
  refine OA.p (some 20) (.int .u32 9) rfl rfl rfl (r_load1 rfl rfl rfl rfl rfl (get_there (by omega) h7) rfl rfl) ?_
  by_cases hc2 : (x.peer.toNat : Int) = 9
  ·
   refine OA.p (some 21) (.bool true) rfl rfl rfl (Eq.trans (r_bin rfl rfl rfl (b_eql rfl)) (dT hc2)) ?_
   refine OA.p (some 22) (.bool true) rfl rfl rfl rfl ?_
   refine OA.p (some 23) (.bool true) rfl rfl rfl rfl ?_
   refine OA.p (some 24) (Pt n 0 3) rfl rfl rfl rfl ?_
   refine OA.p (some 25) (.int .i64 x.pport) rfl rfl rfl (r_load1 rfl rfl rfl rfl rfl get_here rfl rfl) ?_
   refine OA.p (some 26) (Pt b8 0 0) rfl rfl rfl rfl ?_
   refine OA.p (some 27) (.int .i64 f) rfl rfl rfl (r_load1 rfl rfl rfl rfl rfl (get_there (by omega) h8) rfl rfl) ?_
   by_cases hc3 : x.pport = f
   ·
    refine OA.p (some 28) (.bool true) rfl rfl rfl (Eq.trans (r_bin rfl rfl rfl (b_eql rfl)) (dT hc3)) ?_
    refine OA.p (some 29) (.bool true) rfl rfl rfl rfl ?_
    refine OA.p (some 30) (.bool true) rfl rfl rfl rfl ?_
    refine OA.p (some 31) (Pt n 0 1) rfl rfl rfl rfl ?_
    refine OA.p (some 32) (.int .i64 x.port) rfl rfl rfl (r_load1 rfl rfl rfl rfl rfl get_here rfl rfl) ?_
    refine OA.p (some 33) (Pt b8 0 1) rfl rfl rfl rfl ?_
    refine OA.p (some 34) (.int .i64 t) rfl rfl rfl (r_load1 rfl rfl rfl rfl rfl (get_there (by omega) h8) rfl rfl) ?_
    by_cases hc4 : x.port = t
    ·
     refine OA.p (some 35) (.bool true) rfl rfl rfl (Eq.trans (r_bin rfl rfl rfl (b_eql rfl)) (dT hc4)) ?_
     refine OA.p (some 36) (.bool true) rfl rfl rfl rfl ?_
     refine OA.p (some 37) (.bool true) rfl rfl rfl rfl ?_
     refine OA.p (some 38) (W x.out) rfl rfl rfl rfl ?_
     refine OA.p (some 39) (Pt b8 0 2) rfl rfl rfl rfl ?_
     refine OA.p (some 40) (W g) rfl rfl rfl (r_load1 rfl rfl rfl rfl rfl (get_there (by omega) h8) rfl rfl) ?_
     by_cases hc5 : (x.out.toNat : Int) = (g.toNat : Int)
     ·
      refine OA.p (some 41) (.bool true) rfl rfl rfl (Eq.trans (r_bin rfl rfl rfl (b_eql rfl)) (dT hc5)) ?_
      refine OA.p (some 42) (.bool true) rfl rfl rfl rfl ?_
      refine OA.p (some 43) (.bool true) rfl rfl rfl rfl ?_
      refine OA.p (some 44) (Pt b8 0 2) rfl rfl rfl rfl ?_
      refine OA.p (some 45) (W g) rfl rfl rfl (r_load1 rfl rfl rfl rfl rfl (get_there (by omega) h8) rfl rfl) ?_
      refine OA.p (some 46) (.bool (decide ((g.toNat : Int) ≠ 0))) rfl rfl rfl (r_bin rfl rfl rfl (b_neq rfl)) ?_
      refine OA.p (some 47) (.bool (decide ((g.toNat : Int) ≠ 0))) rfl rfl rfl rfl ?_
      refine OA.p (some 6) (.bool (decide ((g.toNat : Int) ≠ 0))) rfl rfl rfl rfl ?_
      refine OA.nil ?_
      intro _
      refine RA.rebase [(0, (.agg ⟨(cEnt x)⟩)), (1, (Pt b9 0 0)), (2, (Pt b6 0 0)), (3, (Pt b7 0 0)), (4, (Pt b8 0 0)), (5, (Pt n 0 0)), (6, (.bool (decide ((g.toNat : Int) ≠ 0)))), (7, (W x.out)), (10, (.bool true))] ⟨rfl, rfl, rfl, rfl, rfl, rfl, rfl, rfl, rfl, trivial⟩ (fun τr1 => ?_)
      refine RA.ret env_ok ?_
      refine ⟨.inr rfl, [(.bool (decide ((g.toNat : Int) ≠ 0)))], (resL_cons rfl resL_nil), (congrArg Value.bool (hitL (m := true) (x := x) (f := f) (t := t) (g := g) hc1 hc2 hc3 hc4 hc5)), (kc1 (by omega))⟩
     ·
      refine OA.p (some 41) (.bool false) rfl rfl rfl (Eq.trans (r_bin rfl rfl rfl (b_eql rfl)) (dF hc5)) ?_
      refine OA.p (some 42) (.bool false) rfl rfl rfl rfl ?_
      refine OA.p (some 43) (.bool false) rfl rfl rfl rfl ?_
      refine OA.off (dst := (some 44)) rfl rfl rfl ?_
      refine OA.off (dst := (some 45)) rfl rfl rfl ?_
      refine OA.off (dst := (some 46)) rfl rfl rfl ?_
      refine OA.p (some 47) (.bool false) rfl rfl rfl rfl ?_
      refine OA.p (some 6) (.bool false) rfl rfl rfl rfl ?_
      refine OA.nil ?_
      intro _
      refine RA.rebase [(0, (.agg ⟨(cEnt x)⟩)), (1, (Pt b9 0 0)), (2, (Pt b6 0 0)), (3, (Pt b7 0 0)), (4, (Pt b8 0 0)), (5, (Pt n 0 0)), (6, (.bool false)), (7, (W x.out)), (10, (.bool true))] ⟨rfl, rfl, rfl, rfl, rfl, rfl, rfl, rfl, rfl, trivial⟩ (fun τr2 => ?_)
      refine RA.ret env_ok ?_
      refine ⟨.inr rfl, [(.bool false)], (resL_cons rfl resL_nil), (congrArg Value.bool (hitF (m := true) (x := x) (f := f) (t := t) (g := g) (fun hh => hc5 hh.2.2.2.2.1)).symm), (kc1 (by omega))⟩
    ·
     refine OA.p (some 35) (.bool false) rfl rfl rfl (Eq.trans (r_bin rfl rfl rfl (b_eql rfl)) (dF hc4)) ?_
     refine OA.p (some 36) (.bool false) rfl rfl rfl rfl ?_
     refine OA.p (some 37) (.bool false) rfl rfl rfl rfl ?_
     refine OA.off (dst := (some 38)) rfl rfl rfl ?_
     refine OA.off (dst := (some 39)) rfl rfl rfl ?_
     refine OA.off (dst := (some 40)) rfl rfl rfl ?_
     refine OA.off (dst := (some 41)) rfl rfl rfl ?_
     refine OA.p (some 42) (.bool false) rfl rfl rfl rfl ?_
     refine OA.p (some 43) (.bool false) rfl rfl rfl rfl ?_
     refine OA.off (dst := (some 44)) rfl rfl rfl ?_
     refine OA.off (dst := (some 45)) rfl rfl rfl ?_
     refine OA.off (dst := (some 46)) rfl rfl rfl ?_
     refine OA.p (some 47) (.bool false) rfl rfl rfl rfl ?_
     refine OA.p (some 6) (.bool false) rfl rfl rfl rfl ?_
     refine OA.nil ?_
     intro _
     refine RA.rebase [(0, (.agg ⟨(cEnt x)⟩)), (1, (Pt b9 0 0)), (2, (Pt b6 0 0)), (3, (Pt b7 0 0)), (4, (Pt b8 0 0)), (5, (Pt n 0 0)), (6, (.bool false)), (7, (W x.out)), (10, (.bool true))] ⟨rfl, rfl, rfl, rfl, rfl, rfl, rfl, rfl, rfl, trivial⟩ (fun τr3 => ?_)
     refine RA.ret env_ok ?_
     refine ⟨.inr rfl, [(.bool false)], (resL_cons rfl resL_nil), (congrArg Value.bool (hitF (m := true) (x := x) (f := f) (t := t) (g := g) (fun hh => hc4 hh.2.2.2.1)).symm), (kc1 (by omega))⟩
   ·
    refine OA.p (some 28) (.bool false) rfl rfl rfl (Eq.trans (r_bin rfl rfl rfl (b_eql rfl)) (dF hc3)) ?_
    refine OA.p (some 29) (.bool false) rfl rfl rfl rfl ?_
    refine OA.p (some 30) (.bool false) rfl rfl rfl rfl ?_
    refine OA.off (dst := (some 31)) rfl rfl rfl ?_
    refine OA.off (dst := (some 32)) rfl rfl rfl ?_
    refine OA.off (dst := (some 33)) rfl rfl rfl ?_
    refine OA.off (dst := (some 34)) rfl rfl rfl ?_
    refine OA.off (dst := (some 35)) rfl rfl rfl ?_
    refine OA.p (some 36) (.bool false) rfl rfl rfl rfl ?_
    refine OA.p (some 37) (.bool false) rfl rfl rfl rfl ?_
    refine OA.off (dst := (some 38)) rfl rfl rfl ?_
    refine OA.off (dst := (some 39)) rfl rfl rfl ?_
    refine OA.off (dst := (some 40)) rfl rfl rfl ?_
    refine OA.off (dst := (some 41)) rfl rfl rfl ?_
    refine OA.p (some 42) (.bool false) rfl rfl rfl rfl ?_
    refine OA.p (some 43) (.bool false) rfl rfl rfl rfl ?_
    refine OA.off (dst := (some 44)) rfl rfl rfl ?_
    refine OA.off (dst := (some 45)) rfl rfl rfl ?_
    refine OA.off (dst := (some 46)) rfl rfl rfl ?_
    refine OA.p (some 47) (.bool false) rfl rfl rfl rfl ?_
    refine OA.p (some 6) (.bool false) rfl rfl rfl rfl ?_
    refine OA.nil ?_
    intro _
    refine RA.rebase [(0, (.agg ⟨(cEnt x)⟩)), (1, (Pt b9 0 0)), (2, (Pt b6 0 0)), (3, (Pt b7 0 0)), (4, (Pt b8 0 0)), (5, (Pt n 0 0)), (6, (.bool false)), (7, (W x.out)), (10, (.bool true))] ⟨rfl, rfl, rfl, rfl, rfl, rfl, rfl, rfl, rfl, trivial⟩ (fun τr4 => ?_)
    refine RA.ret env_ok ?_
    refine ⟨.inr rfl, [(.bool false)], (resL_cons rfl resL_nil), (congrArg Value.bool (hitF (m := true) (x := x) (f := f) (t := t) (g := g) (fun hh => hc3 hh.2.2.1)).symm), (kc1 (by omega))⟩
  ·
   refine OA.p (some 21) (.bool false) rfl rfl rfl (Eq.trans (r_bin rfl rfl rfl (b_eql rfl)) (dF hc2)) ?_
   refine OA.p (some 22) (.bool false) rfl rfl rfl rfl ?_
   refine OA.p (some 23) (.bool false) rfl rfl rfl rfl ?_
   refine OA.off (dst := (some 24)) rfl rfl rfl ?_
   refine OA.off (dst := (some 25)) rfl rfl rfl ?_
   refine OA.off (dst := (some 26)) rfl rfl rfl ?_
   refine OA.off (dst := (some 27)) rfl rfl rfl ?_
   refine OA.off (dst := (some 28)) rfl rfl rfl ?_
   refine OA.p (some 29) (.bool false) rfl rfl rfl rfl ?_
   refine OA.p (some 30) (.bool false) rfl rfl rfl rfl ?_
   refine OA.off (dst := (some 31)) rfl rfl rfl ?_
   refine OA.off (dst := (some 32)) rfl rfl rfl ?_
   refine OA.off (dst := (some 33)) rfl rfl rfl ?_
   refine OA.off (dst := (some 34)) rfl rfl rfl ?_
   refine OA.off (dst := (some 35)) rfl rfl rfl ?_
   refine OA.p (some 36) (.bool false) rfl rfl rfl rfl ?_
   refine OA.p (some 37) (.bool false) rfl rfl rfl rfl ?_
   refine OA.off (dst := (some 38)) rfl rfl rfl ?_
   refine OA.off (dst := (some 39)) rfl rfl rfl ?_
   refine OA.off (dst := (some 40)) rfl rfl rfl ?_
   refine OA.off (dst := (some 41)) rfl rfl rfl ?_
   refine OA.p (some 42) (.bool false) rfl rfl rfl rfl ?_
   refine OA.p (some 43) (.bool false) rfl rfl rfl rfl ?_
   refine OA.off (dst := (some 44)) rfl rfl rfl ?_
   refine OA.off (dst := (some 45)) rfl rfl rfl ?_
   refine OA.off (dst := (some 46)) rfl rfl rfl ?_
   refine OA.p (some 47) (.bool false) rfl rfl rfl rfl ?_
   refine OA.p (some 6) (.bool false) rfl rfl rfl rfl ?_
   refine OA.nil ?_
   intro _
   refine RA.rebase [(0, (.agg ⟨(cEnt x)⟩)), (1, (Pt b9 0 0)), (2, (Pt b6 0 0)), (3, (Pt b7 0 0)), (4, (Pt b8 0 0)), (5, (Pt n 0 0)), (6, (.bool false)), (7, (W x.out)), (10, (.bool true))] ⟨rfl, rfl, rfl, rfl, rfl, rfl, rfl, rfl, rfl, trivial⟩ (fun τr5 => ?_)
   refine RA.ret env_ok ?_
   refine ⟨.inr rfl, [(.bool false)], (resL_cons rfl resL_nil), (congrArg Value.bool (hitF (m := true) (x := x) (f := f) (t := t) (g := g) (fun hh => hc2 hh.2.1)).symm), (kc1 (by omega))⟩
 ·
  refine OA.p (some 16) (.bool false) rfl rfl rfl (Eq.trans (r_bin rfl rfl rfl (b_eql rfl)) (dF hc1)) ?_
  refine OA.p (some 17) (.bool false) rfl rfl rfl rfl ?_
  refine OA.off (dst := (some 18)) rfl rfl rfl ?_
  refine OA.off (dst := (some 19)) rfl rfl rfl ?_
  refine OA.off (dst := (some 20)) rfl rfl rfl ?_
  refine OA.off (dst := (some 21)) rfl rfl rfl ?_
  refine OA.p (some 22) (.bool false) rfl rfl rfl rfl ?_
  refine OA.p (some 23) (.bool false) rfl rfl rfl rfl ?_
  refine OA.off (dst := (some 24)) rfl rfl rfl ?_
  refine OA.off (dst := (some 25)) rfl rfl rfl ?_
  refine OA.off (dst := (some 26)) rfl rfl rfl ?_
  refine OA.off (dst := (some 27)) rfl rfl rfl ?_
  refine OA.off (dst := (some 28)) rfl rfl rfl ?_
  refine OA.p (some 29) (.bool false) rfl rfl rfl rfl ?_
  refine OA.p (some 30) (.bool false) rfl rfl rfl rfl ?_
  refine OA.off (dst := (some 31)) rfl rfl rfl ?_
  refine OA.off (dst := (some 32)) rfl rfl rfl ?_
  refine OA.off (dst := (some 33)) rfl rfl rfl ?_
  refine OA.off (dst := (some 34)) rfl rfl rfl ?_
  refine OA.off (dst := (some 35)) rfl rfl rfl ?_
  refine OA.p (some 36) (.bool false) rfl rfl rfl rfl ?_
  refine OA.p (some 37) (.bool false) rfl rfl rfl rfl ?_
  refine OA.off (dst := (some 38)) rfl rfl rfl ?_
  refine OA.off (dst := (some 39)) rfl rfl rfl ?_
  refine OA.off (dst := (some 40)) rfl rfl rfl ?_
  refine OA.off (dst := (some 41)) rfl rfl rfl ?_
  refine OA.p (some 42) (.bool false) rfl rfl rfl rfl ?_
  refine OA.p (some 43) (.bool false) rfl rfl rfl rfl ?_
  refine OA.off (dst := (some 44)) rfl rfl rfl ?_
  refine OA.off (dst := (some 45)) rfl rfl rfl ?_
  refine OA.off (dst := (some 46)) rfl rfl rfl ?_
  refine OA.p (some 47) (.bool false) rfl rfl rfl rfl ?_
  refine OA.p (some 6) (.bool false) rfl rfl rfl rfl ?_
  refine OA.nil ?_
  intro _
  refine RA.rebase [(0, (.agg ⟨(cEnt x)⟩)), (1, (Pt b9 0 0)), (2, (Pt b6 0 0)), (3, (Pt b7 0 0)), (4, (Pt b8 0 0)), (5, (Pt n 0 0)), (6, (.bool false)), (7, (W x.out)), (10, (.bool true))] ⟨rfl, rfl, rfl, rfl, rfl, rfl, rfl, rfl, rfl, trivial⟩ (fun τr6 => ?_)
  refine RA.ret env_ok ?_
  refine ⟨.inr rfl, [(.bool false)], (resL_cons rfl resL_nil), (congrArg Value.bool (hitF (m := true) (x := x) (f := f) (t := t) (g := g) (fun hh => hc1 hh.1)).symm), (kc1 (by omega))⟩

theorem oClofalse {σ : Store} (x : Ent) (b9 b6 b7 b8 : Nat) (f t : Int) (g : BitVec 32) (a : Option Addr) (K : Nat) (h9 : σ b9 = some ⟨[[(.bool false)]], 1, 4, true⟩) (h6 : σ b6 = some ⟨[[(.int .u32 1)]], 1, 24, true⟩) (h7 : σ b7 = some ⟨[[(.int .u32 9)]], 1, 24, true⟩) (h8 : σ b8 = some ⟨[[(.int .i64 f), (.int .i64 t), (W g), (.slice a K 0)]], 4, 33, true⟩)  : PS Try.prog noDen 70 [(.agg ⟨(cEnt x)⟩), (Pt b9 0 0), (Pt b6 0 0), (Pt b7 0 0), (Pt b8 0 0)] σ (.bool (hit f t g false x)) := by
 refine PS.body (E := env) env_ok rfl rfl (by show _ ≤ _; exact of_decide_eq_true (by kernel_rfl)) (fun n hd => ?_)
 have lh9 := hd.lt h9
 have lh6 := hd.lt h6
 have lh7 := hd.lt h7
 have lh8 := hd.lt h8
 refine RA.seq hd ?_
 refine RA.region env_ok ?_
 refine OA.op1 (dst := (some 5)) (v := (Pt n 0 0)) (n1 := (n + 1)) (w := (n, some ⟨[(cEnt x)], 7, 26, true⟩)) rfl rfl rfl rfl (by omega) ?_
 refine OA.p (some 6) (.bool false) rfl rfl rfl rfl ?_
 refine OA.nil ?_
 intro _
 refine RA.seq hd ?_
 refine RA.region env_ok ?_
 refine OA.p (some 8) (Pt n 0 4) rfl rfl rfl rfl ?_
 refine OA.p (some 9) (W x.inn) rfl rfl rfl (r_load1 rfl rfl rfl rfl rfl get_here rfl rfl) ?_
 refine OA.p (some 7) (W x.inn) rfl rfl rfl rfl ?_
 refine OA.nil ?_
 intro _
 refine RA.seq hd ?_
 refine RA.seq hd ?_
 refine RA.region env_ok ?_
 refine OA.p (some 10) (.bool false) rfl rfl rfl (r_load1 rfl rfl rfl rfl rfl (get_there (by omega) h9) rfl rfl) ?_
 refine OA.nil ?_
 intro _
 refine RA.condF rfl ?_
 refine RA.skip env_ok ?_
 intro _
 refine RA.seq hd ?_
 refine RA.region env_ok ?_
 refine OA.p (some 13) (Pt n 0 0) rfl rfl rfl rfl ?_
 refine OA.p (some 14) (W x.inner) rfl rfl rfl (r_load1 rfl rfl rfl rfl rfl get_here rfl rfl) ?_
 refine OA.p (some 15) (.int .u32 1) rfl rfl rfl (r_load1 rfl rfl rfl rfl rfl (get_there (by omega) h6) rfl rfl) ?_
 by_cases hc1 : (x.inner.toNat : Int) = 1
 ·
  refine OA.p (some 16) (.bool true) rfl rfl rfl (Eq.trans (r_bin rfl rfl rfl (b_eql rfl)) (dT hc1)) ?_
  refine OA.p (some 17) (.bool true) rfl rfl rfl rfl ?_
  refine OA.p (some 18) (Pt n 0 2) rfl rfl rfl rfl ?_
  refine OA.p (some 19) (W x.peer) rfl rfl rfl (r_load1 rfl rfl rfl rfl rfl get_here rfl rfl) ?_
  refine OA.p (some 20) (.int .u32 9) rfl rfl rfl (r_load1 rfl rfl rfl rfl rfl (get_there (by omega) h7) rfl rfl) ?_
  by_cases hc2 : (x.peer.toNat : Int) = 9
  ·
   refine OA.p (some 21) (.bool true) rfl rfl rfl (Eq.trans (r_bin rfl rfl rfl (b_eql rfl)) (dT hc2)) ?_
   refine OA.p (some 22) (.bool true) rfl rfl rfl rfl ?_
   refine OA.p (some 23) (.bool true) rfl rfl rfl rfl ?_
   refine OA.p (some 24) (Pt n 0 3) rfl rfl rfl rfl ?_
   refine OA.p (some 25) (.int .i64 x.pport) rfl rfl rfl (r_load1 rfl rfl rfl rfl rfl get_here rfl rfl) ?_
   refine OA.p (some 26) (Pt b8 0 0) rfl rfl rfl rfl ?_
   refine OA.p (some 27) (.int .i64 f) rfl rfl rfl (r_load1 rfl rfl rfl rfl rfl (get_there (by omega) h8) rfl rfl) ?_
   by_cases hc3 : x.pport = f
   ·
    refine OA.p (some 28) (.bool true) rfl rfl rfl (Eq.trans (r_bin rfl rfl rfl (b_eql rfl)) (dT hc3)) ?_
    refine OA.p (some 29) (.bool true) rfl rfl rfl rfl ?_
    refine OA.p (some 30) (.bool true) rfl rfl rfl rfl ?_
    refine OA.p (some 31) (Pt n 0 1) rfl rfl rfl rfl ?_
    refine OA.p (some 32) (.int .i64 x.port) rfl rfl rfl (r_load1 rfl rfl rfl rfl rfl get_here rfl rfl) ?_
    refine OA.p (some 33) (Pt b8 0 1) rfl rfl rfl rfl ?_
    refine OA.p (some 34) (.int .i64 t) rfl rfl rfl (r_load1 rfl rfl rfl rfl rfl (get_there (by omega) h8) rfl rfl) ?_
    by_cases hc4 : x.port = t
    ·
     refine OA.p (some 35) (.bool true) rfl rfl rfl (Eq.trans (r_bin rfl rfl rfl (b_eql rfl)) (dT hc4)) ?_
     refine OA.p (some 36) (.bool true) rfl rfl rfl rfl ?_
     refine OA.p (some 37) (.bool true) rfl rfl rfl rfl ?_
     refine OA.p (some 38) (W x.inn) rfl rfl rfl rfl ?_
     refine OA.p (some 39) (Pt b8 0 2) rfl rfl rfl rfl ?_
     refine OA.p (some 40) (W g) rfl rfl rfl (r_load1 rfl rfl rfl rfl rfl (get_there (by omega) h8) rfl rfl) ?_
     by_cases hc5 : (x.inn.toNat : Int) = (g.toNat : Int)
     ·
      refine OA.p (some 41) (.bool true) rfl rfl rfl (Eq.trans (r_bin rfl rfl rfl (b_eql rfl)) (dT hc5)) ?_
      refine OA.p (some 42) (.bool true) rfl rfl rfl rfl ?_
      refine OA.p (some 43) (.bool true) rfl rfl rfl rfl ?_
      refine OA.p (some 44) (Pt b8 0 2) rfl rfl rfl rfl ?_
      refine OA.p (some 45) (W g) rfl rfl rfl (r_load1 rfl rfl rfl rfl rfl (get_there (by omega) h8) rfl rfl) ?_
      refine OA.p (some 46) (.bool (decide ((g.toNat : Int) ≠ 0))) rfl rfl rfl (r_bin rfl rfl rfl (b_neq rfl)) ?_
      refine OA.p (some 47) (.bool (decide ((g.toNat : Int) ≠ 0))) rfl rfl rfl rfl ?_
      refine OA.p (some 6) (.bool (decide ((g.toNat : Int) ≠ 0))) rfl rfl rfl rfl ?_
      refine OA.nil ?_
      intro _
      refine RA.rebase [(0, (.agg ⟨(cEnt x)⟩)), (1, (Pt b9 0 0)), (2, (Pt b6 0 0)), (3, (Pt b7 0 0)), (4, (Pt b8 0 0)), (5, (Pt n 0 0)), (6, (.bool (decide ((g.toNat : Int) ≠ 0)))), (7, (W x.inn)), (10, (.bool false))] ⟨rfl, rfl, rfl, rfl, rfl, rfl, rfl, rfl, rfl, trivial⟩ (fun τr1 => ?_)
      refine RA.ret env_ok ?_
      refine ⟨.inr rfl, [(.bool (decide ((g.toNat : Int) ≠ 0)))], (resL_cons rfl resL_nil), (congrArg Value.bool (hitL (m := false) (x := x) (f := f) (t := t) (g := g) hc1 hc2 hc3 hc4 hc5)), (kc1 (by omega))⟩
     ·
      refine OA.p (some 41) (.bool false) rfl rfl rfl (Eq.trans (r_bin rfl rfl rfl (b_eql rfl)) (dF hc5)) ?_
      refine OA.p (some 42) (.bool false) rfl rfl rfl rfl ?_
      refine OA.p (some 43) (.bool false) rfl rfl rfl rfl ?_
      refine OA.off (dst := (some 44)) rfl rfl rfl ?_
      refine OA.off (dst := (some 45)) rfl rfl rfl ?_
      refine OA.off (dst := (some 46)) rfl rfl rfl ?_
      refine OA.p (some 47) (.bool false) rfl rfl rfl rfl ?_
      refine OA.p (some 6) (.bool false) rfl rfl rfl rfl ?_
      refine OA.nil ?_
      intro _
      refine RA.rebase [(0, (.agg ⟨(cEnt x)⟩)), (1, (Pt b9 0 0)), (2, (Pt b6 0 0)), (3, (Pt b7 0 0)), (4, (Pt b8 0 0)), (5, (Pt n 0 0)), (6, (.bool false)), (7, (W x.inn)), (10, (.bool false))] ⟨rfl, rfl, rfl, rfl, rfl, rfl, rfl, rfl, rfl, trivial⟩ (fun τr2 => ?_)
      refine RA.ret env_ok ?_
      refine ⟨.inr rfl, [(.bool false)], (resL_cons rfl resL_nil), (congrArg Value.bool (hitF (m := false) (x := x) (f := f) (t := t) (g := g) (fun hh => hc5 hh.2.2.2.2.1)).symm), (kc1 (by omega))⟩
    ·
     refine OA.p (some 35) (.bool false) rfl rfl rfl (Eq.trans (r_bin rfl rfl rfl (b_eql rfl)) (dF hc4)) ?_
     refine OA.p (some 36) (.bool false) rfl rfl rfl rfl ?_
     refine OA.p (some 37) (.bool false) rfl rfl rfl rfl ?_
     refine OA.off (dst := (some 38)) rfl rfl rfl ?_
     refine OA.off (dst := (some 39)) rfl rfl rfl ?_
     refine OA.off (dst := (some 40)) rfl rfl rfl ?_
     refine OA.off (dst := (some 41)) rfl rfl rfl ?_
     refine OA.p (some 42) (.bool false) rfl rfl rfl rfl ?_
     refine OA.p (some 43) (.bool false) rfl rfl rfl rfl ?_
     refine OA.off (dst := (some 44)) rfl rfl rfl ?_
     refine OA.off (dst := (some 45)) rfl rfl rfl ?_
     refine OA.off (dst := (some 46)) rfl rfl rfl ?_
     refine OA.p (some 47) (.bool false) rfl rfl rfl rfl ?_
     refine OA.p (some 6) (.bool false) rfl rfl rfl rfl ?_
     refine OA.nil ?_
     intro _
     refine RA.rebase [(0, (.agg ⟨(cEnt x)⟩)), (1, (Pt b9 0 0)), (2, (Pt b6 0 0)), (3, (Pt b7 0 0)), (4, (Pt b8 0 0)), (5, (Pt n 0 0)), (6, (.bool false)), (7, (W x.inn)), (10, (.bool false))] ⟨rfl, rfl, rfl, rfl, rfl, rfl, rfl, rfl, rfl, trivial⟩ (fun τr3 => ?_)
     refine RA.ret env_ok ?_
     refine ⟨.inr rfl, [(.bool false)], (resL_cons rfl resL_nil), (congrArg Value.bool (hitF (m := false) (x := x) (f := f) (t := t) (g := g) (fun hh => hc4 hh.2.2.2.1)).symm), (kc1 (by omega))⟩
   ·
    refine OA.p (some 28) (.bool false) rfl rfl rfl (Eq.trans (r_bin rfl rfl rfl (b_eql rfl)) (dF hc3)) ?_
    refine OA.p (some 29) (.bool false) rfl rfl rfl rfl ?_
    refine OA.p (some 30) (.bool false) rfl rfl rfl rfl ?_
    refine OA.off (dst := (some 31)) rfl rfl rfl ?_
    refine OA.off (dst := (some 32)) rfl rfl rfl ?_
    refine OA.off (dst := (some 33)) rfl rfl rfl ?_
    refine OA.off (dst := (some 34)) rfl rfl rfl ?_
    refine OA.off (dst := (some 35)) rfl rfl rfl ?_
    refine OA.p (some 36) (.bool false) rfl rfl rfl rfl ?_
    refine OA.p (some 37) (.bool false) rfl rfl rfl rfl ?_
    refine OA.off (dst := (some 38)) rfl rfl rfl ?_
    refine OA.off (dst := (some 39)) rfl rfl rfl ?_
    refine OA.off (dst := (some 40)) rfl rfl rfl ?_
    refine OA.off (dst := (some 41)) rfl rfl rfl ?_
    refine OA.p (some 42) (.bool false) rfl rfl rfl rfl ?_
    refine OA.p (some 43) (.bool false) rfl rfl rfl rfl ?_
    refine OA.off (dst := (some 44)) rfl rfl rfl ?_
    refine OA.off (dst := (some 45)) rfl rfl rfl ?_
    refine OA.off (dst := (some 46)) rfl rfl rfl ?_
    refine OA.p (some 47) (.bool false) rfl rfl rfl rfl ?_
    refine OA.p (some 6) (.bool false) rfl rfl rfl rfl ?_
    refine OA.nil ?_
    intro _
    refine RA.rebase [(0, (.agg ⟨(cEnt x)⟩)), (1, (Pt b9 0 0)), (2, (Pt b6 0 0)), (3, (Pt b7 0 0)), (4, (Pt b8 0 0)), (5, (Pt n 0 0)), (6, (.bool false)), (7, (W x.inn)), (10, (.bool false))] ⟨rfl, rfl, rfl, rfl, rfl, rfl, rfl, rfl, rfl, trivial⟩ (fun τr4 => ?_)
    refine RA.ret env_ok ?_
    refine ⟨.inr rfl, [(.bool false)], (resL_cons rfl resL_nil), (congrArg Value.bool (hitF (m := false) (x := x) (f := f) (t := t) (g := g) (fun hh => hc3 hh.2.2.1)).symm), (kc1 (by omega))⟩
  ·
   refine OA.p (some 21) (.bool false) rfl rfl rfl (Eq.trans (r_bin rfl rfl rfl (b_eql rfl)) (dF hc2)) ?_
   refine OA.p (some 22) (.bool false) rfl rfl rfl rfl ?_
   refine OA.p (some 23) (.bool false) rfl rfl rfl rfl ?_
   refine OA.off (dst := (some 24)) rfl rfl rfl ?_
   refine OA.off (dst := (some 25)) rfl rfl rfl ?_
   refine OA.off (dst := (some 26)) rfl rfl rfl ?_
   refine OA.off (dst := (some 27)) rfl rfl rfl ?_
   refine OA.off (dst := (some 28)) rfl rfl rfl ?_
   refine OA.p (some 29) (.bool false) rfl rfl rfl rfl ?_
   refine OA.p (some 30) (.bool false) rfl rfl rfl rfl ?_
   refine OA.off (dst := (some 31)) rfl rfl rfl ?_
   refine OA.off (dst := (some 32)) rfl rfl rfl ?_
   refine OA.off (dst := (some 33)) rfl rfl rfl ?_
   refine OA.off (dst := (some 34)) rfl rfl rfl ?_
   refine OA.off (dst := (some 35)) rfl rfl rfl ?_
   refine OA.p (some 36) (.bool false) rfl rfl rfl rfl ?_
   refine OA.p (some 37) (.bool false) rfl rfl rfl rfl ?_
   refine OA.off (dst := (some 38)) rfl rfl rfl ?_
   refine OA.off (dst := (some 39)) rfl rfl rfl ?_
   refine OA.off (dst := (some 40)) rfl rfl rfl ?_
   refine OA.off (dst := (some 41)) rfl rfl rfl ?_
   refine OA.p (some 42) (.bool false) rfl rfl rfl rfl ?_
   refine OA.p (some 43) (.bool false) rfl rfl rfl rfl ?_
   refine OA.off (dst := (some 44)) rfl rfl rfl ?_
   refine OA.off (dst := (some 45)) rfl rfl rfl ?_
   refine OA.off (dst := (some 46)) rfl rfl rfl ?_
   refine OA.p (some 47) (.bool false) rfl rfl rfl rfl ?_
   refine OA.p (some 6) (.bool false) rfl rfl rfl rfl ?_
   refine OA.nil ?_
   intro _
   refine RA.rebase [(0, (.agg ⟨(cEnt x)⟩)), (1, (Pt b9 0 0)), (2, (Pt b6 0 0)), (3, (Pt b7 0 0)), (4, (Pt b8 0 0)), (5, (Pt n 0 0)), (6, (.bool false)), (7, (W x.inn)), (10, (.bool false))] ⟨rfl, rfl, rfl, rfl, rfl, rfl, rfl, rfl, rfl, trivial⟩ (fun τr5 => ?_)
   refine RA.ret env_ok ?_
   refine ⟨.inr rfl, [(.bool false)], (resL_cons rfl resL_nil), (congrArg Value.bool (hitF (m := false) (x := x) (f := f) (t := t) (g := g) (fun hh => hc2 hh.2.1)).symm), (kc1 (by omega))⟩
 ·
  refine OA.p (some 16) (.bool false) rfl rfl rfl (Eq.trans (r_bin rfl rfl rfl (b_eql rfl)) (dF hc1)) ?_
  refine OA.p (some 17) (.bool false) rfl rfl rfl rfl ?_
  refine OA.off (dst := (some 18)) rfl rfl rfl ?_
  refine OA.off (dst := (some 19)) rfl rfl rfl ?_
  refine OA.off (dst := (some 20)) rfl rfl rfl ?_
  refine OA.off (dst := (some 21)) rfl rfl rfl ?_
  refine OA.p (some 22) (.bool false) rfl rfl rfl rfl ?_
  refine OA.p (some 23) (.bool false) rfl rfl rfl rfl ?_
  refine OA.off (dst := (some 24)) rfl rfl rfl ?_
  refine OA.off (dst := (some 25)) rfl rfl rfl ?_
  refine OA.off (dst := (some 26)) rfl rfl rfl ?_
  refine OA.off (dst := (some 27)) rfl rfl rfl ?_
  refine OA.off (dst := (some 28)) rfl rfl rfl ?_
  refine OA.p (some 29) (.bool false) rfl rfl rfl rfl ?_
  refine OA.p (some 30) (.bool false) rfl rfl rfl rfl ?_
  refine OA.off (dst := (some 31)) rfl rfl rfl ?_
  refine OA.off (dst := (some 32)) rfl rfl rfl ?_
  refine OA.off (dst := (some 33)) rfl rfl rfl ?_
  refine OA.off (dst := (some 34)) rfl rfl rfl ?_
  refine OA.off (dst := (some 35)) rfl rfl rfl ?_
  refine OA.p (some 36) (.bool false) rfl rfl rfl rfl ?_
  refine OA.p (some 37) (.bool false) rfl rfl rfl rfl ?_
  refine OA.off (dst := (some 38)) rfl rfl rfl ?_
  refine OA.off (dst := (some 39)) rfl rfl rfl ?_
  refine OA.off (dst := (some 40)) rfl rfl rfl ?_
  refine OA.off (dst := (some 41)) rfl rfl rfl ?_
  refine OA.p (some 42) (.bool false) rfl rfl rfl rfl ?_
  refine OA.p (some 43) (.bool false) rfl rfl rfl rfl ?_
  refine OA.off (dst := (some 44)) rfl rfl rfl ?_
  refine OA.off (dst := (some 45)) rfl rfl rfl ?_
  refine OA.off (dst := (some 46)) rfl rfl rfl ?_
  refine OA.p (some 47) (.bool false) rfl rfl rfl rfl ?_
  refine OA.p (some 6) (.bool false) rfl rfl rfl rfl ?_
  refine OA.nil ?_
  intro _
  refine RA.rebase [(0, (.agg ⟨(cEnt x)⟩)), (1, (Pt b9 0 0)), (2, (Pt b6 0 0)), (3, (Pt b7 0 0)), (4, (Pt b8 0 0)), (5, (Pt n 0 0)), (6, (.bool false)), (7, (W x.inn)), (10, (.bool false))] ⟨rfl, rfl, rfl, rfl, rfl, rfl, rfl, rfl, rfl, trivial⟩ (fun τr6 => ?_)
  refine RA.ret env_ok ?_
  refine ⟨.inr rfl, [(.bool false)], (resL_cons rfl resL_nil), (congrArg Value.bool (hitF (m := false) (x := x) (f := f) (t := t) (g := g) (fun hh => hc1 hh.1)).symm), (kc1 (by omega))⟩

theorem oIdx {σ : Store} (j N : Nat) (l : List Ent) (hl : l.length = N) (hN : N ≤ 1000000) (p : Ent → Bool) (b9 b6 b7 b8 : Nat) (hj : σ j = some (oEnt l)) (hf : ∀ x ∈ l, PS Try.prog noDen 70 [.agg ⟨cEnt x⟩, (Pt b9 0 0), (Pt b6 0 0), (Pt b7 0 0), (Pt b8 0 0)] σ (.bool (p x))) : PS Try.prog noDen 71 [(.slice (some ⟨j, 0, none⟩) N 0), (.func (.func 70) ⟨[]⟩ ⟨[(Pt b9 0 0), (Pt b6 0 0), (Pt b7 0 0), (Pt b8 0 0)]⟩)] σ (.int .i64 (idxZ p l)) := by
 refine PS.body (E := env) env_ok rfl rfl (by show _ ≤ _; exact of_decide_eq_true (by kernel_rfl)) (fun n hd => ?_)
 have lhj := hd.lt hj
 refine RA.seq hd ?_
 refine RA.region env_ok ?_
 refine OA.p (some 4) (.int .i64 0) rfl rfl rfl rfl ?_
 refine OA.nil ?_
 intro _
 refine RA.seq hd ?_
 refine RA.seq hd ?_
 refine RA.region env_ok ?_
 refine OA.p (some 6) (.slice (some ⟨j, 0, none⟩) N 0) rfl rfl rfl rfl ?_
 refine OA.p (some 7) (.int .i64 ((N : Nat) : Int)) rfl rfl rfl rfl ?_
 refine OA.p (some 8) (.int .i64 0) rfl rfl rfl rfl ?_
 refine OA.nil ?_
 intro _
 refine RA.block ?_
 refine RA.loop hd (fun kk_ τ n' D => ∃ i : Nat,  kk_ = (N - i) ∧ n ≤ n' ∧ Has τ [(0, (.slice (some ⟨j, 0, none⟩) N 0)), (1, (.func (.func 70) ⟨[]⟩ ⟨(xAo13 b9 b6 b7 b8)⟩)), (7, (.int .i64 ((N : Nat) : Int))), (8, (.int .i64 ((i : Nat) : Int)))] ∧ D = [] ∧ (∀ i ∈ keys D, i < n') ∧ i ≤ N ∧ i ≤ l.findIdx p) ((N - 0)) ⟨0, rfl, by omega, ⟨rfl, rfl, rfl, rfl, trivial⟩, rfl, (fun i hi => by cases hi), ⟨by omega, by omega⟩⟩ ?_
 rintro kn1 τ1 n1 _ ⟨i, rfl, hn1, hHn1, rfl, hKn1, hIn1⟩
 rw [Has.eq hHn1]
 simp only [keys, List.map, List.forall_mem_cons, List.mem_cons, List.not_mem_nil, false_imp_iff, implies_true, and_true] at hKn1
 obtain ⟨hi1, hi2⟩ := hIn1
 refine RA.seq hd ?_
 refine RA.region env_ok ?_
 by_cases hc1 : ((i : Nat) : Int) < ((N : Nat) : Int)
 ·
  refine OA.p (some 9) (.bool true) rfl rfl rfl (Eq.trans (r_bin rfl rfl rfl (b_lss rfl)) (dT hc1)) ?_
  refine OA.nil ?_
  intro _
  refine RA.seq hd ?_
  refine RA.condT rfl ?_
  refine RA.skip env_ok ?_
  intro _
  refine RA.seq hd ?_
  refine RA.block ?_
  refine RA.seq hd ?_
  refine RA.region env_ok ?_
  refine OA.p (some 10) (.int .i64 ((i : Nat) : Int)) rfl rfl rfl rfl ?_
  refine OA.p (some 5) (.int .i64 ((i : Nat) : Int)) rfl rfl rfl rfl ?_
  refine OA.nil ?_
  intro _
  refine RA.seq hd ?_
  refine RA.region env_ok ?_
  refine OA.p (some 11) (.func (.func 70) ⟨[]⟩ ⟨(xAo13 b9 b6 b7 b8)⟩) rfl rfl rfl rfl ?_
  refine OA.p (some 12) (.slice (some ⟨j, 0, none⟩) N 0) rfl rfl rfl rfl ?_
  refine OA.p (some 13) (.int .i64 ((i : Nat) : Int)) rfl rfl rfl rfl ?_
  refine OA.p (some 14) (Pt j i 0) rfl rfl rfl (r_iaS (l := i) rfl rfl rfl rfl rfl rfl (by omega) (by omega) hj rfl (by omega)) ?_
  refine OA.p (some 15) (.agg ⟨(cEnt (l.getD i dEnt))⟩) rfl rfl rfl (r_loadR (c := cEnt) dEnt rfl rfl rfl rfl hj (by rw [hl]; omega) rfl) ?_
  by_cases hc2 : (p (l.getD i dEnt)) = true
  ·
   have hfi := fi_found (d := dEnt) (by omega) hc2 (by omega)
   refine OA.callP (dst := (some 16)) (all := [(.agg ⟨(cEnt (l.getD i dEnt))⟩), (Pt b9 0 0), (Pt b6 0 0), (Pt b7 0 0), (Pt b8 0 0)]) (v := (.bool true)) (hd.up (by omega)) rfl rfl rfl rfl rfl rfl rfl rfl (PS.to (hf (l.getD i dEnt) (getD_mem (by omega))) (show (.bool (p (l.getD i dEnt))) = ((.bool true) : Value) from (by first | (rw [hc2]; done) | (rw [hc2]; rfl)))) ?_
   intro n2 hn2
   refine OA.nil ?_
   intro _
   refine RA.condT rfl ?_
   refine RA.seq hd ?_
   refine RA.region env_ok ?_
   refine OA.p (some 17) (.int .i64 ((i : Nat) : Int)) rfl rfl rfl rfl ?_
   refine OA.p (some 4) (.int .i64 ((i : Nat) : Int)) rfl rfl rfl rfl ?_
   refine OA.nil ?_
   intro _
   refine RA.ret env_ok ?_
   refine ⟨.inr rfl, [(.int .i64 ((i : Nat) : Int))], (resL_cons rfl resL_nil), (by show Value.int _ _ = Value.int _ _; unfold idxZ; rw [if_pos (by omega), hfi]), (fun i hi => by cases hi)⟩
  ·
   have hfi := fi_step (d := dEnt) (by omega) hc2 (by omega)
   refine OA.callP (dst := (some 16)) (all := [(.agg ⟨(cEnt (l.getD i dEnt))⟩), (Pt b9 0 0), (Pt b6 0 0), (Pt b7 0 0), (Pt b8 0 0)]) (v := (.bool false)) (hd.up (by omega)) rfl rfl rfl rfl rfl rfl rfl rfl (PS.to (hf (l.getD i dEnt) (getD_mem (by omega))) (show (.bool (p (l.getD i dEnt))) = ((.bool false) : Value) from (by first | (rw [eq_false_of_ne_true hc2]; done) | (rw [eq_false_of_ne_true hc2]; rfl)))) ?_
   intro n3 hn3
   refine OA.nil ?_
   intro _
   refine RA.condF rfl ?_
   refine RA.skip env_ok ?_
   intro _
   refine RA.region env_ok ?_
   refine OA.p (some 18) (.int .i64 (((i + 1) : Nat) : Int)) rfl rfl rfl (r_bin rfl rfl rfl (b_add (i64_eq (by omega)))) ?_
   refine OA.p (some 8) (.int .i64 (((i + 1) : Nat) : Int)) rfl rfl rfl rfl ?_
   refine OA.nil ?_
   refine ⟨(N - (i + 1)), by omega, [], (Less.refl _ _ _), (i + 1), rfl, by omega, ⟨rfl, rfl, rfl, rfl, trivial⟩, rfl, (fun i hi => by cases hi), ⟨by omega, by omega⟩⟩
 ·
  refine OA.p (some 9) (.bool false) rfl rfl rfl (Eq.trans (r_bin rfl rfl rfl (b_lss rfl)) (dF hc1)) ?_
  refine OA.nil ?_
  intro _
  refine RA.seq hd ?_
  refine RA.condF rfl ?_
  refine RA.exit env_ok ?_
  intro _
  refine RA.seq hd ?_
  refine RA.region env_ok ?_
  refine OA.p (some 4) (.int .i64 (-1)) rfl rfl rfl rfl ?_
  refine OA.nil ?_
  intro _
  refine RA.ret env_ok ?_
  refine ⟨.inr rfl, [(.int .i64 (-1))], (resL_cons rfl resL_nil), (by show Value.int _ _ = Value.int _ _; unfold idxZ; rw [if_neg (by omega)]), (fun i hi => by cases hi)⟩

theorem oCont {σ : Store} (j N : Nat) (l : List Ent) (hl : l.length = N) (hN : N ≤ 1000000) (p : Ent → Bool) (b9 b6 b7 b8 : Nat) (hj : σ j = some (oEnt l)) (hf : ∀ x ∈ l, PS Try.prog noDen 70 [.agg ⟨cEnt x⟩, (Pt b9 0 0), (Pt b6 0 0), (Pt b7 0 0), (Pt b8 0 0)] σ (.bool (p x))) : PS Try.prog noDen 69 [(.slice (some ⟨j, 0, none⟩) N 0), (.func (.func 70) ⟨[]⟩ ⟨[(Pt b9 0 0), (Pt b6 0 0), (Pt b7 0 0), (Pt b8 0 0)]⟩)] σ (.bool (l.any p)) := by
 refine PS.body (E := env) env_ok rfl rfl (by show _ ≤ _; exact of_decide_eq_true (by kernel_rfl)) (fun n hd => ?_)
 have lhj := hd.lt hj
 refine RA.seq hd ?_
 refine RA.region env_ok ?_
 refine OA.p (some 4) (.bool false) rfl rfl rfl rfl ?_
 refine OA.nil ?_
 intro _
 refine RA.seq hd ?_
 refine RA.region env_ok ?_
 refine OA.p (some 5) (.slice (some ⟨j, 0, none⟩) N 0) rfl rfl rfl rfl ?_
 refine OA.p (some 6) (.func (.func 70) ⟨[]⟩ ⟨(xAo13 b9 b6 b7 b8)⟩) rfl rfl rfl rfl ?_
 refine OA.callP (dst := (some 7)) (all := [(.slice (some ⟨j, 0, none⟩) N 0), (.func (.func 70) ⟨[]⟩ ⟨(xAo13 b9 b6 b7 b8)⟩)]) (v := (.int .i64 (idxZ p l))) (hd.up (by omega)) rfl rfl rfl rfl rfl rfl rfl rfl (oIdx j N l hl hN p b9 b6 b7 b8 hj hf) ?_
 intro n1 hn1
 refine OA.p (some 8) (.bool (decide (0 ≤ (idxZ p l)))) rfl rfl rfl (r_bin rfl rfl rfl (b_geq rfl)) ?_
 refine OA.p (some 4) (.bool (decide (0 ≤ (idxZ p l)))) rfl rfl rfl rfl ?_
 refine OA.nil ?_
 intro _
 refine RA.ret env_ok ?_
 refine ⟨.inr rfl, [(.bool (decide (0 ≤ (idxZ p l))))], (resL_cons rfl resL_nil), (by show Value.bool _ = Value.bool _; rw [← idxZ_any]), (fun i hi => by cases hi)⟩

theorem oOwnertrue {σ : Store} (j N : Nat) (l : List Ent) (hl : l.length = N) (hN : N ≤ 1000000) (f t : Int) (g : BitVec 32) (a : Option Addr) (K : Nat) (hj : σ j = some (oEnt l))  : PS Try.prog noDen 18 [(.slice (some ⟨j, 0, none⟩) N 0), (.int .u32 1), (.int .u32 9), (.agg ⟨[(.int .i64 f), (.int .i64 t), (W g), (.slice a K 0)]⟩), (.bool true)] σ (.bool (l.any (hit f t g true))) := by
 refine PS.body (E := env) env_ok rfl rfl (by show _ ≤ _; exact of_decide_eq_true (by kernel_rfl)) (fun n hd => ?_)
 have lhj := hd.lt hj
 refine RA.seq hd ?_
 refine RA.region env_ok ?_
 refine OA.op1 (dst := (some 6)) (v := (Pt n 0 0)) (n1 := (n + 1)) (w := (n, some ⟨[[(.int .u32 1)]], 1, 24, true⟩)) rfl rfl rfl rfl (by omega) ?_
 refine OA.op1 (dst := (some 7)) (v := (.pointer (some ⟨(n + 1), 0, some 0⟩))) (n1 := (n + 2)) (w := ((n + 1), some ⟨[[(.int .u32 9)]], 1, 24, true⟩)) rfl rfl rfl rfl (by omega) ?_
 refine OA.op1 (dst := (some 8)) (v := (.pointer (some ⟨(n + 2), 0, some 0⟩))) (n1 := (n + 3)) (w := ((n + 2), some ⟨[[(.int .i64 f), (.int .i64 t), (W g), (.slice a K 0)]], 4, 33, true⟩)) rfl rfl rfl rfl (by omega) ?_
 refine OA.op1 (dst := (some 9)) (v := (.pointer (some ⟨(n + 3), 0, some 0⟩))) (n1 := (n + 4)) (w := ((n + 3), some ⟨[[(.bool true)]], 1, 4, true⟩)) rfl rfl rfl rfl (by omega) ?_
 refine OA.p (some 10) (.bool false) rfl rfl rfl rfl ?_
 refine OA.nil ?_
 intro _
 refine RA.seq hd ?_
 refine RA.region env_ok ?_
 refine OA.p (some 11) (.slice (some ⟨j, 0, none⟩) N 0) rfl rfl rfl rfl ?_
 refine OA.p (some 12) (.func (.func 70) ⟨[]⟩ ⟨(xAo12 n)⟩) rfl rfl rfl rfl ?_
 refine OA.callP (dst := (some 13)) (all := [(.slice (some ⟨j, 0, none⟩) N 0), (.func (.func 70) ⟨[]⟩ ⟨(xAo12 n)⟩)]) (v := (.bool (l.any (hit f t g true)))) (hd.of (by omega) (kb4 (by omega))) rfl rfl rfl rfl rfl rfl rfl rfl (oCont j N l hl hN (hit f t g true) (n + 3) n (n + 1) (n + 2) (gt4 (by omega) hj) (fun x _ => oClotrue x (n + 3) n (n + 1) (n + 2) f t g a K get_here (gt3 (by omega) get_here) (gt2 (by omega) get_here) (get_there (by omega) get_here))) ?_
 intro n1 hn1
 refine OA.p (some 10) (.bool (l.any (hit f t g true))) rfl rfl rfl rfl ?_
 refine OA.nil ?_
 intro _
 refine RA.ret env_ok ?_
 refine ⟨.inr rfl, [(.bool (l.any (hit f t g true)))], (resL_cons rfl resL_nil), rfl, (kc4 (by omega))⟩

theorem oOwnerfalse {σ : Store} (j N : Nat) (l : List Ent) (hl : l.length = N) (hN : N ≤ 1000000) (f t : Int) (g : BitVec 32) (a : Option Addr) (K : Nat) (hj : σ j = some (oEnt l))  : PS Try.prog noDen 18 [(.slice (some ⟨j, 0, none⟩) N 0), (.int .u32 1), (.int .u32 9), (.agg ⟨[(.int .i64 f), (.int .i64 t), (W g), (.slice a K 0)]⟩), (.bool false)] σ (.bool (l.any (hit f t g false))) := by
 refine PS.body (E := env) env_ok rfl rfl (by show _ ≤ _; exact of_decide_eq_true (by kernel_rfl)) (fun n hd => ?_)
 have lhj := hd.lt hj
 refine RA.seq hd ?_
 refine RA.region env_ok ?_
 refine OA.op1 (dst := (some 6)) (v := (Pt n 0 0)) (n1 := (n + 1)) (w := (n, some ⟨[[(.int .u32 1)]], 1, 24, true⟩)) rfl rfl rfl rfl (by omega) ?_
 refine OA.op1 (dst := (some 7)) (v := (.pointer (some ⟨(n + 1), 0, some 0⟩))) (n1 := (n + 2)) (w := ((n + 1), some ⟨[[(.int .u32 9)]], 1, 24, true⟩)) rfl rfl rfl rfl (by omega) ?_
 refine OA.op1 (dst := (some 8)) (v := (.pointer (some ⟨(n + 2), 0, some 0⟩))) (n1 := (n + 3)) (w := ((n + 2), some ⟨[[(.int .i64 f), (.int .i64 t), (W g), (.slice a K 0)]], 4, 33, true⟩)) rfl rfl rfl rfl (by omega) ?_
 refine OA.op1 (dst := (some 9)) (v := (.pointer (some ⟨(n + 3), 0, some 0⟩))) (n1 := (n + 4)) (w := ((n + 3), some ⟨[[(.bool false)]], 1, 4, true⟩)) rfl rfl rfl rfl (by omega) ?_
 refine OA.p (some 10) (.bool false) rfl rfl rfl rfl ?_
 refine OA.nil ?_
 intro _
 refine RA.seq hd ?_
 refine RA.region env_ok ?_
 refine OA.p (some 11) (.slice (some ⟨j, 0, none⟩) N 0) rfl rfl rfl rfl ?_
 refine OA.p (some 12) (.func (.func 70) ⟨[]⟩ ⟨(xAo12 n)⟩) rfl rfl rfl rfl ?_
 refine OA.callP (dst := (some 13)) (all := [(.slice (some ⟨j, 0, none⟩) N 0), (.func (.func 70) ⟨[]⟩ ⟨(xAo12 n)⟩)]) (v := (.bool (l.any (hit f t g false)))) (hd.of (by omega) (kb4 (by omega))) rfl rfl rfl rfl rfl rfl rfl rfl (oCont j N l hl hN (hit f t g false) (n + 3) n (n + 1) (n + 2) (gt4 (by omega) hj) (fun x _ => oClofalse x (n + 3) n (n + 1) (n + 2) f t g a K get_here (gt3 (by omega) get_here) (gt2 (by omega) get_here) (get_there (by omega) get_here))) ?_
 intro n1 hn1
 refine OA.p (some 10) (.bool (l.any (hit f t g false))) rfl rfl rfl rfl ?_
 refine OA.nil ?_
 intro _
 refine RA.ret env_ok ?_
 refine ⟨.inr rfl, [(.bool (l.any (hit f t g false)))], (resL_cons rfl resL_nil), rfl, (kc4 (by omega))⟩
end Go.Proofs.Ytnjknabighmedaa.Vt
