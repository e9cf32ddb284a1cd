/- Dl1: walks through functions of the program, by the calculus; written by a program of this workplace. -/
import Derived.Test.YtmepflkodjdgdaaEnv
import Derived.Test.YtmepflkodjdgdaaVm6
namespace Go.Proofs.Ytmepflkodjdgdaa.Vt
open Go Go.Proofs Go.Proofs.YtmepflkodjdgdaaV
set_option maxRecDepth 100000
set_option linter.unusedVariables false
set_option linter.unusedSimpArgs false
structure Msg where
  st : Int
  ssn : Int
  loose : Bool
  proto : BitVec 32
  data : ByteArray
deriving DecidableEq
def dMsg : Msg := ⟨0, 0, false, 0#32, ByteArray.empty⟩
abbrev cMsg (e : Msg) : List Value := [(.int .i64 e.st), (.int .i64 e.ssn), (.bool e.loose), (W e.proto), (.string e.data)]
abbrev oMsg (l : List Msg) : AObj := ⟨l.map cMsg, 5, 29, true⟩
structure Ux where
  z : Nat
deriving DecidableEq
def dUx : Ux := ⟨0⟩
abbrev cUx (e : Ux) : List Value := [(.int .u16 ((e.z : Nat) : Int))]
abbrev oUx (l : List Ux) : AObj := ⟨l.map cUx, 1, 102, true⟩
structure Bo where
  z : Bool
deriving DecidableEq
def dBo : Bo := ⟨false⟩
abbrev cBo (e : Bo) : List Value := [(.bool e.z)]
abbrev oBo (l : List Bo) : AObj := ⟨l.map cBo, 1, 4, true⟩
structure By where
  z : Nat
deriving DecidableEq
def dBy : By := ⟨0⟩
abbrev cBy (e : By) : List Value := [(.int .u8 ((e.z : Nat) : Int))]
abbrev oBy (l : List By) : AObj := ⟨l.map cBy, 1, 5, true⟩
def idxZ {α : Type} (p : α → Bool) (l : List α) : Int := if l.findIdx p < l.length then ((l.findIdx p : Nat) : Int) else -1
theorem fi_le {α : Type} {p : α → Bool} {l : List α} : l.findIdx p ≤ l.length := List.findIdx_le_length
theorem fi_found {α : Type} {d : α} {p : α → Bool} {l : List α} {i : Nat} (h : i < l.length) (hp : p (l.getD i d) = true) (hi : i ≤ l.findIdx p) : l.findIdx p = i := by
  rcases Nat.lt_or_ge i (l.findIdx p) with h1 | h1
  · have := List.not_of_lt_findIdx h1
    rw [List.getD_eq_getElem?_getD, List.getElem?_eq_getElem h] at hp
    simp only [Option.getD_some] at hp
    rw [hp] at this; simp at this
  · omega
theorem fi_step {α : Type} {d : α} {p : α → Bool} {l : List α} {i : Nat} (h : i < l.length) (hp : ¬ p (l.getD i d) = true) (hi : i ≤ l.findIdx p) : i + 1 ≤ l.findIdx p := by
  rcases Nat.lt_or_ge i (l.findIdx p) with h1 | h1
  · omega
  · exfalso; apply hp
    have e : l.findIdx p = i := by omega
    have h2 : l.findIdx p < l.length := by omega
    have h3 := List.findIdx_getElem (p := p) (xs := l) (w := h2)
    rw [List.getD_eq_getElem?_getD, List.getElem?_eq_getElem h]
    simp only [Option.getD_some]
    simpa only [e] using h3
theorem fi_any {α : Type} {p : α → Bool} {l : List α} : decide (l.findIdx p < l.length) = l.any p := by
  rw [Bool.eq_iff_iff, decide_eq_true_eq, List.findIdx_lt_length, List.any_eq_true]
theorem idxZ_any {α : Type} {p : α → Bool} {l : List α} : decide (idxZ p l ≥ 0) = l.any p := by
  rw [← fi_any]; unfold idxZ
  split <;> rename_i h
  · rw [decide_eq_true h, decide_eq_true (by omega)]
  · rw [decide_eq_false h, decide_eq_false (by omega)]
def u16N (x : Int) : Nat := (x % 65536).toNat
theorem u16N_lt (x : Int) : u16N x < 65536 := by unfold u16N; omega
theorem wrap_u16s (x : Int) : IntKind.wrap .u16 x = ((u16N x : Nat) : Int) := by rw [IntKind.wrap_u16]; unfold u16N; omega
def sub16 (b a : Nat) : Nat := u16N ((b : Int) - (a : Int))
def less16 (a b : Nat) : Prop := ((a : Nat) : Int) ≠ ((b : Nat) : Int) ∧ ((sub16 b a : Nat) : Int) < 32768
instance (a b : Nat) : Decidable (less16 a b) := by unfold less16; infer_instance
def qq (st : Int) (a : Nat) (x : Msg) : Bool := decide (x.st = st ∧ ((u16N x.ssn : Nat) : Int) = ((a : Nat) : Int))
theorem qT {st : Int} {a : Nat} {x : Msg} (h : x.st = st ∧ ((u16N x.ssn : Nat) : Int) = ((a : Nat) : Int)) : qq st a x = true := decide_eq_true h
theorem qF {st : Int} {a : Nat} {x : Msg} (h : ¬ (x.st = st ∧ ((u16N x.ssn : Nat) : Int) = ((a : Nat) : Int))) : qq st a x = false := decide_eq_false h
theorem qL {st : Int} {a : Nat} {x : Msg} (h : x.st = st) : decide (((u16N x.ssn : Nat) : Int) = ((a : Nat) : Int)) = qq st a x := by
  unfold qq; exact decide_eq_decide.2 ⟨fun h2 => ⟨h, h2⟩, fun h2 => h2.2⟩
theorem dLess {σ : Store} (a b : Nat)   : PS Try.prog noDen 56 [(.int .u16 ((a : Nat) : Int)), (.int .u16 ((b : Nat) : Int))] σ (.bool (decide (less16 a b))) := by
 refine PS.body (E := env) env_ok rfl rfl (by show _ ≤ _; exact of_decide_eq_true (by kernel_rfl)) (fun n hd => ?_)
 refine RA.seq hd ?_
 refine RA.region env_ok ?_
 refine OA.p (some 4) (.bool false) rfl rfl rfl rfl ?_
 refine OA.nil ?_
 intro _
 refine RA.seq hd ?_
 refine RA.region env_ok ?_
 refine OA.p (some 5) (.int .u16 ((a : Nat) : Int)) rfl rfl rfl rfl ?_
 refine OA.p (some 6) (.int .u16 ((b : Nat) : Int)) rfl rfl rfl rfl ?_
 by_cases hc1 : ((a : Nat) : Int) ≠ ((b : Nat) : Int)
 ·
  refine OA.p (some 7) (.bool true) rfl rfl rfl (Eq.trans (r_bin rfl rfl rfl (b_neq rfl)) (dT hc1)) ?_
  refine OA.p (some 8) (.bool true) rfl rfl rfl rfl ?_
  refine OA.p (some 9) (.int .u16 ((b : Nat) : Int)) rfl rfl rfl rfl ?_
  refine OA.p (some 10) (.int .u16 ((a : Nat) : Int)) rfl rfl rfl rfl ?_
  refine OA.p (some 11) (.int .u16 (((sub16 b a) : Nat) : Int)) rfl rfl rfl (r_bin rfl rfl rfl (b_sub (wrap_u16s _))) ?_
  refine OA.p (some 12) (.bool (decide ((((sub16 b a) : Nat) : Int) < 32768))) rfl rfl rfl (r_bin rfl rfl rfl (b_lss rfl)) ?_
  refine OA.p (some 13) (.bool (decide ((((sub16 b a) : Nat) : Int) < 32768))) rfl rfl rfl rfl ?_
  refine OA.p (some 4) (.bool (decide ((((sub16 b a) : Nat) : Int) < 32768))) rfl rfl rfl rfl ?_
  refine OA.nil ?_
  intro _
  refine RA.ret env_ok ?_
  refine ⟨.inr rfl, [(.bool (decide ((((sub16 b a) : Nat) : Int) < 32768)))], (resL_cons rfl resL_nil), (congrArg Value.bool (decide_eq_decide.2 ⟨fun hh => (⟨hc1, hh⟩ : less16 a b), fun hh : less16 a b => hh.2⟩)), (fun i hi => by cases hi)⟩
 ·
  refine OA.p (some 7) (.bool false) rfl rfl rfl (Eq.trans (r_bin rfl rfl rfl (b_neq rfl)) (dF hc1)) ?_
  refine OA.p (some 8) (.bool false) rfl rfl rfl rfl ?_
  refine OA.off (dst := (some 9)) rfl rfl rfl ?_
  refine OA.off (dst := (some 10)) rfl rfl rfl ?_
  refine OA.off (dst := (some 11)) rfl rfl rfl ?_
  refine OA.off (dst := (some 12)) rfl rfl rfl ?_
  refine OA.p (some 13) (.bool false) rfl rfl rfl rfl ?_
  refine OA.p (some 4) (.bool false) rfl rfl rfl rfl ?_
  refine OA.nil ?_
  intro _
  refine RA.ret env_ok ?_
  refine ⟨.inr rfl, [(.bool false)], (resL_cons rfl resL_nil), (congrArg Value.bool (decide_eq_false (fun hh : less16 a b => hc1 (hh.1))).symm), (fun i hi => by cases hi)⟩

theorem dPc {σ : Store} (x m : Msg) (bm bn a : Nat) (hbm : σ bm = some ⟨[(cMsg m)], 5, 29, true⟩) (hbn : σ bn = some ⟨[[(.int .u16 ((a : Nat) : Int))]], 1, 102, true⟩)  : PS Try.prog noDen 58 [(.agg ⟨(cMsg x)⟩), (Pt bm 0 0), (Pt bn 0 0)] σ (.bool (qq m.st a x)) := by
 refine PS.body (E := env) env_ok rfl rfl (by show _ ≤ _; exact of_decide_eq_true (by kernel_rfl)) (fun n hd => ?_)
 have lhbm := hd.lt hbm
 have lhbn := hd.lt hbn
 refine RA.seq hd ?_
 refine RA.region env_ok ?_
 refine OA.op1 (dst := (some 3)) (v := (Pt n 0 0)) (n1 := (n + 1)) (w := (n, some ⟨[(cMsg x)], 5, 29, true⟩)) rfl rfl rfl rfl (by omega) ?_
 refine OA.p (some 4) (.bool false) rfl rfl rfl rfl ?_
 refine OA.nil ?_
 intro _
 refine RA.seq hd ?_
 refine RA.region env_ok ?_
 refine OA.p (some 5) (Pt n 0 0) rfl rfl rfl rfl ?_
 refine OA.p (some 6) (.int .i64 x.st) rfl rfl rfl (r_load1 rfl rfl rfl rfl rfl get_here rfl rfl) ?_
 refine OA.p (some 7) (Pt bm 0 0) rfl rfl rfl rfl ?_
 refine OA.p (some 8) (.int .i64 m.st) rfl rfl rfl (r_load1 rfl rfl rfl rfl rfl (get_there (by omega) hbm) rfl rfl) ?_
 by_cases hc1 : x.st = m.st
 ·
  refine OA.p (some 9) (.bool true) rfl rfl rfl (Eq.trans (r_bin rfl rfl rfl (b_eql rfl)) (dT hc1)) ?_
  refine OA.p (some 10) (.bool true) rfl rfl rfl rfl ?_
  refine OA.p (some 11) (Pt n 0 1) rfl rfl rfl rfl ?_
  refine OA.p (some 12) (.int .i64 x.ssn) rfl rfl rfl (r_load1 rfl rfl rfl rfl rfl get_here rfl rfl) ?_
  refine OA.p (some 13) (.int .u16 (((u16N x.ssn) : Nat) : Int)) rfl rfl rfl (r_cvt rfl rfl rfl rfl rfl ⟨_, rfl⟩ (wrap_u16s _)) ?_
  refine OA.p (some 14) (.int .u16 ((a : Nat) : Int)) rfl rfl rfl (r_load1 rfl rfl rfl rfl rfl (get_there (by omega) hbn) rfl rfl) ?_
  refine OA.p (some 15) (.bool (decide ((((u16N x.ssn) : Nat) : Int) = ((a : Nat) : Int)))) rfl rfl rfl (r_bin rfl rfl rfl (b_eql rfl)) ?_
  refine OA.p (some 16) (.bool (decide ((((u16N x.ssn) : Nat) : Int) = ((a : Nat) : Int)))) rfl rfl rfl rfl ?_
  refine OA.p (some 4) (.bool (decide ((((u16N x.ssn) : Nat) : Int) = ((a : Nat) : Int)))) rfl rfl rfl rfl ?_
  refine OA.nil ?_
  intro _
  refine RA.ret env_ok ?_
  refine ⟨.inr rfl, [(.bool (decide ((((u16N x.ssn) : Nat) : Int) = ((a : Nat) : Int))))], (resL_cons rfl resL_nil), (congrArg Value.bool (qL hc1)), (kc1 (by omega))⟩
 ·
  refine OA.p (some 9) (.bool false) rfl rfl rfl (Eq.trans (r_bin rfl rfl rfl (b_eql rfl)) (dF hc1)) ?_
  refine OA.p (some 10) (.bool false) rfl rfl rfl rfl ?_
  refine OA.off (dst := (some 11)) rfl rfl rfl ?_
  refine OA.off (dst := (some 12)) rfl rfl rfl ?_
  refine OA.off (dst := (some 13)) rfl rfl rfl ?_
  refine OA.off (dst := (some 14)) rfl rfl rfl ?_
  refine OA.off (dst := (some 15)) rfl rfl rfl ?_
  refine OA.p (some 16) (.bool false) rfl rfl rfl rfl ?_
  refine OA.p (some 4) (.bool false) rfl rfl rfl rfl ?_
  refine OA.nil ?_
  intro _
  refine RA.ret env_ok ?_
  refine ⟨.inr rfl, [(.bool false)], (resL_cons rfl resL_nil), (congrArg Value.bool (qF (fun hh => hc1 hh.1)).symm), (kc1 (by omega))⟩

theorem dGc {σ : Store} (x : Msg) (bi bs s jn t NX : Nat) (nx : List Ux) (hnx : nx.length = NX) (ht : t < NX) (w o_ : Value) (hw : oneB w = true) (ho : oneB o_ = true) (hbi : σ bi = some ⟨[[(.int .i64 ((t : Nat) : Int))]], 1, 3, true⟩) (hbs : σ bs = some ⟨[[(Pt s 0 0)]], 1, 23, true⟩) (hs : σ s = some ⟨[[(.slice (some ⟨jn, 0, none⟩) NX 0), w, o_]], 3, 101, true⟩) (hjn : σ jn = some (oUx nx))  : PS Try.prog noDen 89 [(.agg ⟨(cMsg x)⟩), (Pt bi 0 0), (Pt bs 0 0)] σ (.bool (qq ((t : Nat) : Int) (nx.getD t dUx).z x)) := by
 refine PS.body (E := env) env_ok rfl rfl (by show _ ≤ _; exact of_decide_eq_true (by kernel_rfl)) (fun n hd => ?_)
 have lhbi := hd.lt hbi
 have lhbs := hd.lt hbs
 have lhs := hd.lt hs
 have lhjn := hd.lt hjn
 refine RA.seq hd ?_
 refine RA.region env_ok ?_
 refine OA.op1 (dst := (some 3)) (v := (Pt n 0 0)) (n1 := (n + 1)) (w := (n, some ⟨[(cMsg x)], 5, 29, true⟩)) rfl rfl rfl rfl (by omega) ?_
 refine OA.p (some 4) (.bool false) rfl rfl rfl rfl ?_
 refine OA.nil ?_
 intro _
 refine RA.seq hd ?_
 refine RA.par (md := [some [], some [n], some [bi], some [], some [], some [], some [n], some [], some [bs], some [], some [], none, some [bi], none, none, some [], some [], some []]) env_ok (hd.of (by omega) (kb1 (by omega))) (by kernel_rfl) ?_
 refine PQ.pure (dst := (some 5)) (v := (Pt n 0 0)) rfl rfl rfl noStore (none_ok _ _) rfl ?_
 refine PQ.pure (dst := (some 6)) (v := (.int .i64 x.st)) rfl rfl rfl (app [(n, some ⟨[(cMsg x)], 5, 29, true⟩)] noStore) (seen_one (V := []) (D := [(n, some ⟨[(cMsg x)], 5, 29, true⟩)]) (by kernel_rfl) get_here) (r_load1 rfl rfl rfl rfl rfl get_here rfl rfl) ?_
 refine PQ.pure (dst := (some 7)) (v := (.int .i64 ((t : Nat) : Int))) rfl rfl rfl (app [(bi, some ⟨[[(.int .i64 ((t : Nat) : Int))]], 1, 3, true⟩)] noStore) (seen_one (V := []) (D := [(n, some ⟨[(cMsg x)], 5, 29, true⟩)]) (by kernel_rfl) (get_there (by omega) hbi)) (r_load1 rfl rfl rfl rfl rfl get_here rfl rfl) ?_
 by_cases hc1 : x.st = ((t : Nat) : Int)
 ·
  refine PQ.pure (dst := (some 8)) (v := (.bool true)) rfl rfl rfl noStore (none_ok _ _) (Eq.trans (r_bin rfl rfl rfl (b_eql rfl)) (dT hc1)) ?_
  refine PQ.pure (dst := (some 9)) (v := (.bool true)) rfl rfl rfl noStore (none_ok _ _) rfl ?_
  refine PQ.pure (dst := (some 10)) (v := (Pt n 0 1)) rfl rfl rfl noStore (none_ok _ _) rfl ?_
  refine PQ.pure (dst := (some 11)) (v := (.int .i64 x.ssn)) rfl rfl rfl (app [(n, some ⟨[(cMsg x)], 5, 29, true⟩)] noStore) (seen_one (V := []) (D := [(n, some ⟨[(cMsg x)], 5, 29, true⟩)]) (by kernel_rfl) get_here) (r_load1 rfl rfl rfl rfl rfl get_here rfl rfl) ?_
  refine PQ.pure (dst := (some 12)) (v := (.int .u16 (((u16N x.ssn) : Nat) : Int))) rfl rfl rfl noStore (none_ok _ _) (r_cvt rfl rfl rfl rfl rfl ⟨_, rfl⟩ (wrap_u16s _)) ?_
  refine PQ.pure (dst := (some 13)) (v := (Pt s 0 0)) rfl rfl rfl (app [(bs, some ⟨[[(Pt s 0 0)]], 1, 23, true⟩)] noStore) (seen_one (V := []) (D := [(n, some ⟨[(cMsg x)], 5, 29, true⟩)]) (by kernel_rfl) (get_there (by omega) hbs)) (r_load1 rfl rfl rfl rfl rfl get_here rfl rfl) ?_
  refine PQ.pure (dst := (some 14)) (v := (Pt s 0 0)) rfl rfl rfl noStore (none_ok _ _) rfl ?_
  refine PQ.pure (dst := (some 15)) (v := (Pt s 0 0)) rfl rfl rfl noStore (none_ok _ _) rfl ?_
  refine PQ.pure (dst := (some 16)) (v := (.slice (some ⟨jn, 0, none⟩) NX 0)) rfl rfl rfl _ (seen_any (V := []) (D := [(n, some ⟨[(cMsg x)], 5, 29, true⟩)]) (by kernel_rfl)) (r_load1 rfl rfl rfl rfl rfl (get_there (by omega) hs) rfl rfl) ?_
  refine PQ.pure (dst := (some 17)) (v := (.int .i64 ((t : Nat) : Int))) rfl rfl rfl (app [(bi, some ⟨[[(.int .i64 ((t : Nat) : Int))]], 1, 3, true⟩)] noStore) (seen_one (V := []) (D := [(n, some ⟨[(cMsg x)], 5, 29, true⟩)]) (by kernel_rfl) (get_there (by omega) hbi)) (r_load1 rfl rfl rfl rfl rfl get_here rfl rfl) ?_
  refine PQ.pure (dst := (some 18)) (v := (Pt jn t 0)) rfl rfl rfl _ (seen_any (V := []) (D := [(n, some ⟨[(cMsg x)], 5, 29, true⟩)]) (by kernel_rfl)) (r_iaS (l := t) rfl rfl rfl rfl rfl rfl (by omega) (by omega) (get_there (by omega) hjn) rfl (by omega)) ?_
  refine PQ.pure (dst := (some 19)) (v := (.int .u16 (((nx.getD t dUx).z : Nat) : Int))) rfl rfl rfl _ (seen_any (V := []) (D := [(n, some ⟨[(cMsg x)], 5, 29, true⟩)]) (by kernel_rfl)) (r_loadF (c := cUx) dUx rfl rfl rfl rfl rfl (get_there (by omega) hjn) (by rw [hnx]; omega) rfl) ?_
  refine PQ.pure (dst := (some 20)) (v := (.bool (decide ((((u16N x.ssn) : Nat) : Int) = (((nx.getD t dUx).z : Nat) : Int))))) rfl rfl rfl noStore (none_ok _ _) (r_bin rfl rfl rfl (b_eql rfl)) ?_
  refine PQ.pure (dst := (some 21)) (v := (.bool (decide ((((u16N x.ssn) : Nat) : Int) = (((nx.getD t dUx).z : Nat) : Int))))) rfl rfl rfl noStore (none_ok _ _) rfl ?_
  refine PQ.pure (dst := (some 4)) (v := (.bool (decide ((((u16N x.ssn) : Nat) : Int) = (((nx.getD t dUx).z : Nat) : Int))))) rfl rfl rfl noStore (none_ok _ _) rfl ?_
  refine PQ.done (d := []) (by kernel_rfl) ?_
  intro _
  refine RA.ret env_ok ?_
  refine ⟨.inr rfl, [(.bool (decide ((((u16N x.ssn) : Nat) : Int) = (((nx.getD t dUx).z : Nat) : Int))))], (resL_cons rfl resL_nil), (congrArg Value.bool (qL hc1)), (kc1 (by omega))⟩
 ·
  refine PQ.pure (dst := (some 8)) (v := (.bool false)) rfl rfl rfl noStore (none_ok _ _) (Eq.trans (r_bin rfl rfl rfl (b_eql rfl)) (dF hc1)) ?_
  refine PQ.pure (dst := (some 9)) (v := (.bool false)) rfl rfl rfl noStore (none_ok _ _) rfl ?_
  refine PQ.off (dst := (some 10)) rfl rfl rfl ?_
  refine PQ.off (dst := (some 11)) rfl rfl rfl ?_
  refine PQ.off (dst := (some 12)) rfl rfl rfl ?_
  refine PQ.off (dst := (some 13)) rfl rfl rfl ?_
  refine PQ.off (dst := (some 14)) rfl rfl rfl ?_
  refine PQ.off (dst := (some 15)) rfl rfl rfl ?_
  refine PQ.off (dst := (some 16)) rfl rfl rfl ?_
  refine PQ.off (dst := (some 17)) rfl rfl rfl ?_
  refine PQ.off (dst := (some 18)) rfl rfl rfl ?_
  refine PQ.off (dst := (some 19)) rfl rfl rfl ?_
  refine PQ.off (dst := (some 20)) rfl rfl rfl ?_
  refine PQ.pure (dst := (some 21)) (v := (.bool false)) rfl rfl rfl noStore (none_ok _ _) rfl ?_
  refine PQ.pure (dst := (some 4)) (v := (.bool false)) rfl rfl rfl noStore (none_ok _ _) rfl ?_
  refine PQ.done (d := []) (by kernel_rfl) ?_
  intro _
  refine RA.ret env_ok ?_
  refine ⟨.inr rfl, [(.bool false)], (resL_cons rfl resL_nil), (congrArg Value.bool (qF (fun hh => hc1 hh.1)).symm), (kc1 (by omega))⟩

theorem dIdxG {σ : Store} (j N : Nat) (l : List Msg) (hl : l.length = N) (hN : N ≤ 1000000) (p : Msg → Bool) (bi bs : Nat) (hj : σ j = some (oMsg l)) (hf : ∀ x ∈ l, PS Try.prog noDen 89 [.agg ⟨cMsg x⟩, (Pt bi 0 0), (Pt bs 0 0)] σ (.bool (p x))) : PS Try.prog noDen 88 [(.slice (some ⟨j, 0, none⟩) N 0), (.func (.func 89) ⟨[]⟩ ⟨[(Pt bi 0 0), (Pt bs 0 0)]⟩)] σ (.int .i64 (idxZ p l)) := by
 refine PS.body (E := env) env_ok rfl rfl (by show _ ≤ _; exact of_decide_eq_true (by kernel_rfl)) (fun n hd => ?_)
 have lhj := hd.lt hj
 refine RA.seq hd ?_
 refine RA.region env_ok ?_
 refine OA.p (some 4) (.int .i64 0) rfl rfl rfl rfl ?_
 refine OA.nil ?_
 intro _
 refine RA.seq hd ?_
 refine RA.seq hd ?_
 refine RA.region env_ok ?_
 refine OA.p (some 6) (.slice (some ⟨j, 0, none⟩) N 0) rfl rfl rfl rfl ?_
 refine OA.p (some 7) (.int .i64 ((N : Nat) : Int)) rfl rfl rfl rfl ?_
 refine OA.p (some 8) (.int .i64 0) rfl rfl rfl rfl ?_
 refine OA.nil ?_
 intro _
 refine RA.block ?_
 refine RA.loop hd (fun kk_ τ n' D => ∃ i : Nat,  kk_ = (N - i) ∧ n ≤ n' ∧ Has τ [(0, (.slice (some ⟨j, 0, none⟩) N 0)), (1, (.func (.func 89) ⟨[]⟩ ⟨[(Pt bi 0 0), (Pt bs 0 0)]⟩)), (7, (.int .i64 ((N : Nat) : Int))), (8, (.int .i64 ((i : Nat) : Int)))] ∧ D = [] ∧ (∀ i ∈ keys D, i < n') ∧ i ≤ N ∧ i ≤ l.findIdx p) ((N - 0)) ⟨0, rfl, by omega, ⟨rfl, rfl, rfl, rfl, trivial⟩, rfl, (fun i hi => by cases hi), ⟨by omega, by omega⟩⟩ ?_
 rintro kn1 τ1 n1 _ ⟨i, rfl, hn1, hHn1, rfl, hKn1, hIn1⟩
 rw [Has.eq hHn1]
 simp only [keys, List.map, List.forall_mem_cons, List.mem_cons, List.not_mem_nil, false_imp_iff, implies_true, and_true] at hKn1
 obtain ⟨hi1, hi2⟩ := hIn1
 refine RA.seq hd ?_
 refine RA.region env_ok ?_
 by_cases hc1 : ((i : Nat) : Int) < ((N : Nat) : Int)
 ·
  refine OA.p (some 9) (.bool true) rfl rfl rfl (Eq.trans (r_bin rfl rfl rfl (b_lss rfl)) (dT hc1)) ?_
  refine OA.nil ?_
  intro _
  refine RA.seq hd ?_
  refine RA.condT rfl ?_
  refine RA.skip env_ok ?_
  intro _
  refine RA.seq hd ?_
  refine RA.block ?_
  refine RA.seq hd ?_
  refine RA.region env_ok ?_
  refine OA.p (some 10) (.int .i64 ((i : Nat) : Int)) rfl rfl rfl rfl ?_
  refine OA.p (some 5) (.int .i64 ((i : Nat) : Int)) rfl rfl rfl rfl ?_
  refine OA.nil ?_
  intro _
  refine RA.seq hd ?_
  refine RA.region env_ok ?_
  refine OA.p (some 11) (.func (.func 89) ⟨[]⟩ ⟨[(Pt bi 0 0), (Pt bs 0 0)]⟩) rfl rfl rfl rfl ?_
  refine OA.p (some 12) (.slice (some ⟨j, 0, none⟩) N 0) rfl rfl rfl rfl ?_
  refine OA.p (some 13) (.int .i64 ((i : Nat) : Int)) rfl rfl rfl rfl ?_
  refine OA.p (some 14) (Pt j i 0) rfl rfl rfl (r_iaS (l := i) rfl rfl rfl rfl rfl rfl (by omega) (by omega) hj rfl (by omega)) ?_
  refine OA.p (some 15) (.agg ⟨(cMsg (l.getD i dMsg))⟩) rfl rfl rfl (r_loadR (c := cMsg) dMsg rfl rfl rfl rfl hj (by rw [hl]; omega) rfl) ?_
  by_cases hc2 : (p (l.getD i dMsg)) = true
  ·
   have hfi := fi_found (d := dMsg) (by omega) hc2 (by omega)
   refine OA.callP (dst := (some 16)) (all := [(.agg ⟨(cMsg (l.getD i dMsg))⟩), (Pt bi 0 0), (Pt bs 0 0)]) (v := (.bool true)) (hd.up (by omega)) rfl rfl rfl rfl rfl rfl rfl rfl (PS.to (hf (l.getD i dMsg) (getD_mem (by omega))) (show (.bool (p (l.getD i dMsg))) = ((.bool true) : Value) from (by first | (rw [hc2]; done) | (rw [hc2]; rfl)))) ?_
   intro n2 hn2
   refine OA.nil ?_
   intro _
   refine RA.condT rfl ?_
   refine RA.seq hd ?_
   refine RA.region env_ok ?_
   refine OA.p (some 17) (.int .i64 ((i : Nat) : Int)) rfl rfl rfl rfl ?_
   refine OA.p (some 4) (.int .i64 ((i : Nat) : Int)) rfl rfl rfl rfl ?_
   refine OA.nil ?_
   intro _
   refine RA.ret env_ok ?_
   refine ⟨.inr rfl, [(.int .i64 ((i : Nat) : Int))], (resL_cons rfl resL_nil), (by show Value.int _ _ = Value.int _ _; unfold idxZ; rw [if_pos (by omega), hfi]), (fun i hi => by cases hi)⟩
  ·
   have hfi := fi_step (d := dMsg) (by omega) hc2 (by omega)
   refine OA.callP (dst := (some 16)) (all := [(.agg ⟨(cMsg (l.getD i dMsg))⟩), (Pt bi 0 0), (Pt bs 0 0)]) (v := (.bool false)) (hd.up (by omega)) rfl rfl rfl rfl rfl rfl rfl rfl (PS.to (hf (l.getD i dMsg) (getD_mem (by omega))) (show (.bool (p (l.getD i dMsg))) = ((.bool false) : Value) from (by first | (rw [eq_false_of_ne_true hc2]; done) | (rw [eq_false_of_ne_true hc2]; rfl)))) ?_
   intro n3 hn3
   refine OA.nil ?_
   intro _
   refine RA.condF rfl ?_
   refine RA.skip env_ok ?_
   intro _
   refine RA.region env_ok ?_
   refine OA.p (some 18) (.int .i64 (((i + 1) : Nat) : Int)) rfl rfl rfl (r_bin rfl rfl rfl (b_add (i64_eq (by omega)))) ?_
   refine OA.p (some 8) (.int .i64 (((i + 1) : Nat) : Int)) rfl rfl rfl rfl ?_
   refine OA.nil ?_
   refine ⟨(N - (i + 1)), by omega, [], (Less.refl _ _ _), (i + 1), rfl, by omega, ⟨rfl, rfl, rfl, rfl, trivial⟩, rfl, (fun i hi => by cases hi), ⟨by omega, by omega⟩⟩
 ·
  refine OA.p (some 9) (.bool false) rfl rfl rfl (Eq.trans (r_bin rfl rfl rfl (b_lss rfl)) (dF hc1)) ?_
  refine OA.nil ?_
  intro _
  refine RA.seq hd ?_
  refine RA.condF rfl ?_
  refine RA.exit env_ok ?_
  intro _
  refine RA.seq hd ?_
  refine RA.region env_ok ?_
  refine OA.p (some 4) (.int .i64 (-1)) rfl rfl rfl rfl ?_
  refine OA.nil ?_
  intro _
  refine RA.ret env_ok ?_
  refine ⟨.inr rfl, [(.int .i64 (-1))], (resL_cons rfl resL_nil), (by show Value.int _ _ = Value.int _ _; unfold idxZ; rw [if_neg (by omega)]), (fun i hi => by cases hi)⟩

theorem dIdxP {σ : Store} (j N : Nat) (l : List Msg) (hl : l.length = N) (hN : N ≤ 1000000) (p : Msg → Bool) (bm bn : Nat) (hj : σ j = some (oMsg l)) (hf : ∀ x ∈ l, PS Try.prog noDen 58 [.agg ⟨cMsg x⟩, (Pt bm 0 0), (Pt bn 0 0)] σ (.bool (p x))) : PS Try.prog noDen 88 [(.slice (some ⟨j, 0, none⟩) N 0), (.func (.func 58) ⟨[]⟩ ⟨[(Pt bm 0 0), (Pt bn 0 0)]⟩)] σ (.int .i64 (idxZ p l)) := by
 refine PS.body (E := env) env_ok rfl rfl (by show _ ≤ _; exact of_decide_eq_true (by kernel_rfl)) (fun n hd => ?_)
 have lhj := hd.lt hj
 refine RA.seq hd ?_
 refine RA.region env_ok ?_
 refine OA.p (some 4) (.int .i64 0) rfl rfl rfl rfl ?_
 refine OA.nil ?_
 intro _
 refine RA.seq hd ?_
 refine RA.seq hd ?_
 refine RA.region env_ok ?_
 refine OA.p (some 6) (.slice (some ⟨j, 0, none⟩) N 0) rfl rfl rfl rfl ?_
 refine OA.p (some 7) (.int .i64 ((N : Nat) : Int)) rfl rfl rfl rfl ?_
 refine OA.p (some 8) (.int .i64 0) rfl rfl rfl rfl ?_
 refine OA.nil ?_
 intro _
 refine RA.block ?_
 refine RA.loop hd (fun kk_ τ n' D => ∃ i : Nat,  kk_ = (N - i) ∧ n ≤ n' ∧ Has τ [(0, (.slice (some ⟨j, 0, none⟩) N 0)), (1, (.func (.func 58) ⟨[]⟩ ⟨[(Pt bm 0 0), (Pt bn 0 0)]⟩)), (7, (.int .i64 ((N : Nat) : Int))), (8, (.int .i64 ((i : Nat) : Int)))] ∧ D = [] ∧ (∀ i ∈ keys D, i < n') ∧ i ≤ N ∧ i ≤ l.findIdx p) ((N - 0)) ⟨0, rfl, by omega, ⟨rfl, rfl, rfl, rfl, trivial⟩, rfl, (fun i hi => by cases hi), ⟨by omega, by omega⟩⟩ ?_
 rintro kn1 τ1 n1 _ ⟨i, rfl, hn1, hHn1, rfl, hKn1, hIn1⟩
 rw [Has.eq hHn1]
 simp only [keys, List.map, List.forall_mem_cons, List.mem_cons, List.not_mem_nil, false_imp_iff, implies_true, and_true] at hKn1
 obtain ⟨hi1, hi2⟩ := hIn1
 refine RA.seq hd ?_
 refine RA.region env_ok ?_
 by_cases hc1 : ((i : Nat) : Int) < ((N : Nat) : Int)
 ·
  refine OA.p (some 9) (.bool true) rfl rfl rfl (Eq.trans (r_bin rfl rfl rfl (b_lss rfl)) (dT hc1)) ?_
  refine OA.nil ?_
  intro _
  refine RA.seq hd ?_
  refine RA.condT rfl ?_
  refine RA.skip env_ok ?_
  intro _
  refine RA.seq hd ?_
  refine RA.block ?_
  refine RA.seq hd ?_
  refine RA.region env_ok ?_
  refine OA.p (some 10) (.int .i64 ((i : Nat) : Int)) rfl rfl rfl rfl ?_
  refine OA.p (some 5) (.int .i64 ((i : Nat) : Int)) rfl rfl rfl rfl ?_
  refine OA.nil ?_
  intro _
  refine RA.seq hd ?_
  refine RA.region env_ok ?_
  refine OA.p (some 11) (.func (.func 58) ⟨[]⟩ ⟨[(Pt bm 0 0), (Pt bn 0 0)]⟩) rfl rfl rfl rfl ?_
  refine OA.p (some 12) (.slice (some ⟨j, 0, none⟩) N 0) rfl rfl rfl rfl ?_
  refine OA.p (some 13) (.int .i64 ((i : Nat) : Int)) rfl rfl rfl rfl ?_
  refine OA.p (some 14) (Pt j i 0) rfl rfl rfl (r_iaS (l := i) rfl rfl rfl rfl rfl rfl (by omega) (by omega) hj rfl (by omega)) ?_
  refine OA.p (some 15) (.agg ⟨(cMsg (l.getD i dMsg))⟩) rfl rfl rfl (r_loadR (c := cMsg) dMsg rfl rfl rfl rfl hj (by rw [hl]; omega) rfl) ?_
  by_cases hc2 : (p (l.getD i dMsg)) = true
  ·
   have hfi := fi_found (d := dMsg) (by omega) hc2 (by omega)
   refine OA.callP (dst := (some 16)) (all := [(.agg ⟨(cMsg (l.getD i dMsg))⟩), (Pt bm 0 0), (Pt bn 0 0)]) (v := (.bool true)) (hd.up (by omega)) rfl rfl rfl rfl rfl rfl rfl rfl (PS.to (hf (l.getD i dMsg) (getD_mem (by omega))) (show (.bool (p (l.getD i dMsg))) = ((.bool true) : Value) from (by first | (rw [hc2]; done) | (rw [hc2]; rfl)))) ?_
   intro n2 hn2
   refine OA.nil ?_
   intro _
   refine RA.condT rfl ?_
   refine RA.seq hd ?_
   refine RA.region env_ok ?_
   refine OA.p (some 17) (.int .i64 ((i : Nat) : Int)) rfl rfl rfl rfl ?_
   refine OA.p (some 4) (.int .i64 ((i : Nat) : Int)) rfl rfl rfl rfl ?_
   refine OA.nil ?_
   intro _
   refine RA.ret env_ok ?_
   refine ⟨.inr rfl, [(.int .i64 ((i : Nat) : Int))], (resL_cons rfl resL_nil), (by show Value.int _ _ = Value.int _ _; unfold idxZ; rw [if_pos (by omega), hfi]), (fun i hi => by cases hi)⟩
  ·
   have hfi := fi_step (d := dMsg) (by omega) hc2 (by omega)
   refine OA.callP (dst := (some 16)) (all := [(.agg ⟨(cMsg (l.getD i dMsg))⟩), (Pt bm 0 0), (Pt bn 0 0)]) (v := (.bool false)) (hd.up (by omega)) rfl rfl rfl rfl rfl rfl rfl rfl (PS.to (hf (l.getD i dMsg) (getD_mem (by omega))) (show (.bool (p (l.getD i dMsg))) = ((.bool false) : Value) from (by first | (rw [eq_false_of_ne_true hc2]; done) | (rw [eq_false_of_ne_true hc2]; rfl)))) ?_
   intro n3 hn3
   refine OA.nil ?_
   intro _
   refine RA.condF rfl ?_
   refine RA.skip env_ok ?_
   intro _
   refine RA.region env_ok ?_
   refine OA.p (some 18) (.int .i64 (((i + 1) : Nat) : Int)) rfl rfl rfl (r_bin rfl rfl rfl (b_add (i64_eq (by omega)))) ?_
   refine OA.p (some 8) (.int .i64 (((i + 1) : Nat) : Int)) rfl rfl rfl rfl ?_
   refine OA.nil ?_
   refine ⟨(N - (i + 1)), by omega, [], (Less.refl _ _ _), (i + 1), rfl, by omega, ⟨rfl, rfl, rfl, rfl, trivial⟩, rfl, (fun i hi => by cases hi), ⟨by omega, by omega⟩⟩
 ·
  refine OA.p (some 9) (.bool false) rfl rfl rfl (Eq.trans (r_bin rfl rfl rfl (b_lss rfl)) (dF hc1)) ?_
  refine OA.nil ?_
  intro _
  refine RA.seq hd ?_
  refine RA.condF rfl ?_
  refine RA.exit env_ok ?_
  intro _
  refine RA.seq hd ?_
  refine RA.region env_ok ?_
  refine OA.p (some 4) (.int .i64 (-1)) rfl rfl rfl rfl ?_
  refine OA.nil ?_
  intro _
  refine RA.ret env_ok ?_
  refine ⟨.inr rfl, [(.int .i64 (-1))], (resL_cons rfl resL_nil), (by show Value.int _ _ = Value.int _ _; unfold idxZ; rw [if_neg (by omega)]), (fun i hi => by cases hi)⟩

theorem dCont {σ : Store} (j N : Nat) (l : List Msg) (hl : l.length = N) (hN : N ≤ 1000000) (p : Msg → Bool) (bm bn : Nat) (hj : σ j = some (oMsg l)) (hf : ∀ x ∈ l, PS Try.prog noDen 58 [.agg ⟨cMsg x⟩, (Pt bm 0 0), (Pt bn 0 0)] σ (.bool (p x))) : PS Try.prog noDen 57 [(.slice (some ⟨j, 0, none⟩) N 0), (.func (.func 58) ⟨[]⟩ ⟨[(Pt bm 0 0), (Pt bn 0 0)]⟩)] σ (.bool (l.any p)) := by
 refine PS.body (E := env) env_ok rfl rfl (by show _ ≤ _; exact of_decide_eq_true (by kernel_rfl)) (fun n hd => ?_)
 have lhj := hd.lt hj
 refine RA.seq hd ?_
 refine RA.region env_ok ?_
 refine OA.p (some 4) (.bool false) rfl rfl rfl rfl ?_
 refine OA.nil ?_
 intro _
 refine RA.seq hd ?_
 refine RA.region env_ok ?_
 refine OA.p (some 5) (.slice (some ⟨j, 0, none⟩) N 0) rfl rfl rfl rfl ?_
 refine OA.p (some 6) (.func (.func 58) ⟨[]⟩ ⟨[(Pt bm 0 0), (Pt bn 0 0)]⟩) rfl rfl rfl rfl ?_
 refine OA.callP (dst := (some 7)) (all := [(.slice (some ⟨j, 0, none⟩) N 0), (.func (.func 58) ⟨[]⟩ ⟨[(Pt bm 0 0), (Pt bn 0 0)]⟩)]) (v := (.int .i64 (idxZ p l))) (hd.up (by omega)) rfl rfl rfl rfl rfl rfl rfl rfl (dIdxP j N l hl hN p bm bn hj hf) ?_
 intro n1 hn1
 refine OA.p (some 8) (.bool (decide (0 ≤ (idxZ p l)))) rfl rfl rfl (r_bin rfl rfl rfl (b_geq rfl)) ?_
 refine OA.p (some 4) (.bool (decide (0 ≤ (idxZ p l)))) rfl rfl rfl rfl ?_
 refine OA.nil ?_
 intro _
 refine RA.ret env_ok ?_
 refine ⟨.inr rfl, [(.bool (decide (0 ≤ (idxZ p l))))], (resL_cons rfl resL_nil), (by show Value.bool _ = Value.bool _; rw [← idxZ_any]), (fun i hi => by cases hi)⟩

theorem dDel0 {n : Nat} {σ : Store} (hd : Dom n σ) (j N i : Nat) (l : List Msg) (hl : l.length = N) (hi : i < N) (hN : N ≤ 1000000) (hj : σ j = some (oMsg l))  : CQ Try.prog noDen 90 [(.slice (some ⟨j, 0, none⟩) N 0), (.int .i64 ((i : Nat) : Int)), (.int .i64 (((i + 1) : Nat) : Int))] n σ (fun v n' d => ∃ LL : List Msg, v = .slice (some ⟨j, 0, none⟩) (N - 1) 0 ∧ LL.take (N - 1) = l.eraseIdx i ∧ d = [(j, some (oMsg LL))]) := by
 have lhj := hd.lt hj
 refine CQ.body (E := env) env_ok hd rfl rfl (by show _ ≤ _; exact of_decide_eq_true (by kernel_rfl)) ?_
 refine RA.seq hd ?_
 refine RA.region env_ok ?_
 refine OA.p (some 6) (.slice none 0 0) rfl rfl rfl rfl ?_
 refine OA.nil ?_
 intro _
 refine RA.seq hd ?_
 refine RA.region env_ok ?_
 refine OA.p (some 8) (.slice (some ⟨j, 0, none⟩) N 0) rfl rfl rfl rfl ?_
 refine OA.p (some 9) (.int .i64 ((i : Nat) : Int)) rfl rfl rfl rfl ?_
 refine OA.p (some 10) (.int .i64 (((i + 1) : Nat) : Int)) rfl rfl rfl rfl ?_
 refine OA.p (some 11) (.slice (some ⟨j, 0, none⟩) N 0) rfl rfl rfl rfl ?_
 refine OA.p (some 12) (.int .i64 ((N : Nat) : Int)) rfl rfl rfl rfl ?_
 by_cases hc1 : i + 1 = N
 ·
  refine OA.p (some 13) (.slice (some ⟨j, i, none⟩) 1 1) rfl rfl rfl (r_cut3e (a := i) (b := (i + 1)) (m := N) rfl rfl rfl rfl rfl rfl rfl rfl hj rfl (by omega) (by rw [List.length_map, hl]; omega) (by omega) (by omega)) ?_
  refine OA.nil ?_
  intro _
  refine RA.seq hd ?_
  refine RA.seq hd ?_
  refine RA.region env_ok ?_
  refine OA.p (some 14) (.int .i64 ((i : Nat) : Int)) rfl rfl rfl rfl ?_
  refine OA.p (some 15) (.int .i64 (((i + 1) : Nat) : Int)) rfl rfl rfl rfl ?_
  have hc2 : ¬ (((i : Nat) : Int) = (((i + 1) : Nat) : Int)) := fun hdd => by exfalso; omega
  refine OA.p (some 16) (.bool false) rfl rfl rfl (Eq.trans (r_bin rfl rfl rfl (b_eql rfl)) (dF hc2)) ?_
  refine OA.nil ?_
  intro _
  refine RA.condF rfl ?_
  refine RA.skip env_ok ?_
  intro _
  refine RA.seq hd ?_
  refine RA.region env_ok ?_
  refine OA.p (some 18) (.slice (some ⟨j, 0, none⟩) N 0) rfl rfl rfl rfl ?_
  refine OA.p (some 19) (.int .i64 ((N : Nat) : Int)) rfl rfl rfl rfl ?_
  refine OA.p (some 7) (.int .i64 ((N : Nat) : Int)) rfl rfl rfl rfl ?_
  refine OA.nil ?_
  intro _
  refine RA.seq hd ?_
  refine RA.par (md := [some [], some [], some [j], some [], some [], some [j], none, some []]) env_ok (hd.up (by omega)) (by kernel_rfl) ?_
  refine PQ.pure (dst := (some 20)) (v := (.slice (some ⟨j, 0, none⟩) N 0)) rfl rfl rfl noStore (none_ok _ _) rfl ?_
  refine PQ.pure (dst := (some 21)) (v := (.int .i64 ((i : Nat) : Int))) rfl rfl rfl noStore (none_ok _ _) rfl ?_
  refine PQ.pure (dst := (some 22)) (v := (.slice (some ⟨j, 0, none⟩) i 0)) rfl rfl rfl (app [(j, some (oMsg l))] noStore) (seen_one (V := []) (D := []) (by kernel_rfl) hj) (r_cutG (a := 0) (b := i) rfl rfl (fun _ => rfl) (fun _ => rfl) rfl rfl rfl rfl (bound_int (by omega)) get_here rfl (by omega) (by rw [List.length_map, hl]; omega) (by omega) (by omega)) ?_
  refine PQ.pure (dst := (some 23)) (v := (.slice (some ⟨j, 0, none⟩) N 0)) rfl rfl rfl noStore (none_ok _ _) rfl ?_
  refine PQ.pure (dst := (some 24)) (v := (.int .i64 (((i + 1) : Nat) : Int))) rfl rfl rfl noStore (none_ok _ _) rfl ?_
  refine PQ.pure (dst := (some 25)) (v := (.slice (some ⟨j, (i + 1), none⟩) (N - (i + 1)) 0)) rfl rfl rfl (app [(j, some (oMsg l))] noStore) (seen_one (V := []) (D := []) (by kernel_rfl) hj) (r_cutG (a := (i + 1)) (b := N) rfl rfl (fun _ => rfl) (fun _ => rfl) rfl rfl rfl (bound_int (by omega)) rfl get_here rfl (by omega) (by rw [List.length_map, hl]; omega) (by omega) (by omega)) ?_
  refine PQ.pure (dst := (some 26)) (v := (.slice (some ⟨j, 0, none⟩) i 0)) rfl rfl rfl _ (seen_any (V := []) (D := []) (by kernel_rfl)) (r_appendZ rfl rfl rfl rfl (.inl ⟨_, _, _, rfl, by decide⟩) rfl rfl rfl rfl rfl (by decide) (by omega)) ?_
  refine PQ.pure (dst := (some 0)) (v := (.slice (some ⟨j, 0, none⟩) i 0)) rfl rfl rfl noStore (none_ok _ _) rfl ?_
  refine PQ.done (d := []) (by kernel_rfl) ?_
  intro _
  refine RA.seq hd ?_
  refine RA.region env_ok ?_
  refine OA.p (some 27) (.slice (some ⟨j, 0, none⟩) i 0) rfl rfl rfl rfl ?_
  refine OA.p (some 28) (.slice (some ⟨j, 0, none⟩) i 0) rfl rfl rfl rfl ?_
  refine OA.p (some 29) (.int .i64 ((i : Nat) : Int)) rfl rfl rfl rfl ?_
  refine OA.p (some 30) (.int .i64 ((N : Nat) : Int)) rfl rfl rfl rfl ?_
  refine OA.p (some 31) (.slice (some ⟨j, i, none⟩) 1 0) rfl rfl rfl (r_cutG (a := i) (b := N) rfl rfl (fun _ => rfl) (fun _ => rfl) rfl rfl rfl (bound_int (by omega)) (bound_int (by omega)) hj rfl (by omega) (by rw [List.length_map, hl]; omega) (by omega) (by omega)) ?_
  refine OA.op1 (dst := none) (v := (.tuple #[])) (n1 := n) (w := (j, some (oMsg (l.take i ++ List.replicate 1 dMsg ++ l.drop (i + 1))))) rfl rfl rfl (r_clearR (c := cMsg) (z := dMsg) (l' := (l.take i ++ List.replicate 1 dMsg ++ l.drop (i + 1))) rfl rfl rfl rfl rfl rfl rfl rfl rfl hj (by omega) (by rw [hl]; omega) rfl) (by omega) ?_
  refine OA.nil ?_
  intro _
  refine RA.rebase [(0, (.slice (some ⟨j, 0, none⟩) i 0)), (1, (.int .i64 ((i : Nat) : Int))), (2, (.int .i64 (((i + 1) : Nat) : Int))), (6, (.slice none 0 0)), (7, (.int .i64 ((N : Nat) : Int))), (16, (.bool false))] ⟨rfl, rfl, rfl, rfl, rfl, rfl, trivial⟩ (fun τr1 => ?_)
  refine RA.seq hd ?_
  refine RA.region env_ok ?_
  refine OA.p (some 32) (.slice (some ⟨j, 0, none⟩) i 0) rfl rfl rfl rfl ?_
  refine OA.p (some 6) (.slice (some ⟨j, 0, none⟩) i 0) rfl rfl rfl rfl ?_
  refine OA.nil ?_
  intro _
  refine RA.ret env_ok ?_
  refine ⟨.inr rfl, [(.slice (some ⟨j, 0, none⟩) i 0)], (resL_cons rfl resL_nil), [(j, some (oMsg (l.take i ++ List.replicate 1 dMsg ++ l.drop (i + 1))))], (Less.refl _ _ _), ⟨(l.take i ++ List.replicate 1 dMsg ++ l.drop (i + 1)), congrArg (fun z => Value.slice (some ⟨j, 0, none⟩) z 0) (by omega), del_last hl (by omega), rfl⟩⟩
 ·
  refine OA.op (dst := (some 13)) (v := (.slice (some ⟨n, 0, none⟩) 1 0)) (n1 := (n + 1)) (d1 := []) (D' := []) rfl rfl rfl (r_cut3 (a := i) (b := (i + 1)) (m := N) rfl rfl rfl rfl rfl rfl rfl rfl (by omega) (by omega)) (by omega) rfl ?_
  refine OA.nil ?_
  intro _
  refine RA.seq hd ?_
  refine RA.seq hd ?_
  refine RA.region env_ok ?_
  refine OA.p (some 14) (.int .i64 ((i : Nat) : Int)) rfl rfl rfl rfl ?_
  refine OA.p (some 15) (.int .i64 (((i + 1) : Nat) : Int)) rfl rfl rfl rfl ?_
  have hc3 : ¬ (((i : Nat) : Int) = (((i + 1) : Nat) : Int)) := fun hdd => by exfalso; omega
  refine OA.p (some 16) (.bool false) rfl rfl rfl (Eq.trans (r_bin rfl rfl rfl (b_eql rfl)) (dF hc3)) ?_
  refine OA.nil ?_
  intro _
  refine RA.condF rfl ?_
  refine RA.skip env_ok ?_
  intro _
  refine RA.seq hd ?_
  refine RA.region env_ok ?_
  refine OA.p (some 18) (.slice (some ⟨j, 0, none⟩) N 0) rfl rfl rfl rfl ?_
  refine OA.p (some 19) (.int .i64 ((N : Nat) : Int)) rfl rfl rfl rfl ?_
  refine OA.p (some 7) (.int .i64 ((N : Nat) : Int)) rfl rfl rfl rfl ?_
  refine OA.nil ?_
  intro _
  refine RA.seq hd ?_
  refine RA.par (md := [some [], some [], some [j], some [], some [], some [j], none, some []]) env_ok (hd.up (by omega)) (by kernel_rfl) ?_
  refine PQ.pure (dst := (some 20)) (v := (.slice (some ⟨j, 0, none⟩) N 0)) rfl rfl rfl noStore (none_ok _ _) rfl ?_
  refine PQ.pure (dst := (some 21)) (v := (.int .i64 ((i : Nat) : Int))) rfl rfl rfl noStore (none_ok _ _) rfl ?_
  refine PQ.pure (dst := (some 22)) (v := (.slice (some ⟨j, 0, none⟩) i 0)) rfl rfl rfl (app [(j, some (oMsg l))] noStore) (seen_one (V := []) (D := []) (by kernel_rfl) hj) (r_cutG (a := 0) (b := i) rfl rfl (fun _ => rfl) (fun _ => rfl) rfl rfl rfl rfl (bound_int (by omega)) get_here rfl (by omega) (by rw [List.length_map, hl]; omega) (by omega) (by omega)) ?_
  refine PQ.pure (dst := (some 23)) (v := (.slice (some ⟨j, 0, none⟩) N 0)) rfl rfl rfl noStore (none_ok _ _) rfl ?_
  refine PQ.pure (dst := (some 24)) (v := (.int .i64 (((i + 1) : Nat) : Int))) rfl rfl rfl noStore (none_ok _ _) rfl ?_
  refine PQ.pure (dst := (some 25)) (v := (.slice (some ⟨j, (i + 1), none⟩) (N - (i + 1)) 0)) rfl rfl rfl (app [(j, some (oMsg l))] noStore) (seen_one (V := []) (D := []) (by kernel_rfl) hj) (r_cutG (a := (i + 1)) (b := N) rfl rfl (fun _ => rfl) (fun _ => rfl) rfl rfl rfl (bound_int (by omega)) rfl get_here rfl (by omega) (by rw [List.length_map, hl]; omega) (by omega) (by omega)) ?_
  refine PQ.op (dst := (some 26)) (v := (.slice (some ⟨j, 0, none⟩) (N - 1) 0)) (n1 := (n + 1)) (d1 := [(j, some (oMsg (l.take i ++ (l.drop (i + 1)).take (N - (i + 1)) ++ l.drop (i + (N - (i + 1))))))]) rfl rfl rfl _ (seen_any (V := []) (D := []) (by kernel_rfl)) (r_appendIn (c := cMsg) (l' := (l.take i ++ (l.drop (i + 1)).take (N - (i + 1)) ++ l.drop (i + (N - (i + 1))))) rfl rfl rfl rfl rfl rfl rfl rfl rfl rfl (by decide) hj (by omega) (by rw [hl]; omega) (by rw [hl]; omega) rfl (by omega) (of_decide_eq_true (by kernel_rfl)) (by omega)) (by omega) (kp1 (wr_tight (by kernel_rfl) (by omega))) ?_
  refine PQ.pure (dst := (some 0)) (v := (.slice (some ⟨j, 0, none⟩) (N - 1) 0)) rfl rfl rfl noStore (none_ok _ _) rfl ?_
  refine PQ.done (d := [(j, some (oMsg (l.take i ++ (l.drop (i + 1)).take (N - (i + 1)) ++ l.drop (i + (N - (i + 1))))))]) (by kernel_rfl) ?_
  intro _
  refine RA.seq hd ?_
  refine RA.region env_ok ?_
  refine OA.p (some 27) (.slice (some ⟨j, 0, none⟩) (N - 1) 0) rfl rfl rfl rfl ?_
  refine OA.p (some 28) (.slice (some ⟨j, 0, none⟩) (N - 1) 0) rfl rfl rfl rfl ?_
  refine OA.p (some 29) (.int .i64 (((N - 1) : Nat) : Int)) rfl rfl rfl rfl ?_
  refine OA.p (some 30) (.int .i64 ((N : Nat) : Int)) rfl rfl rfl rfl ?_
  refine OA.p (some 31) (.slice (some ⟨j, (N - 1), none⟩) 1 0) rfl rfl rfl (r_cutG (a := (N - 1)) (b := N) rfl rfl (fun _ => rfl) (fun _ => rfl) rfl rfl rfl (bound_int (by omega)) (bound_int (by omega)) get_here rfl (by omega) (by rw [List.length_map, show (l.take i ++ (l.drop (i + 1)).take (N - (i + 1)) ++ l.drop (i + (N - (i + 1)))).length = N from by simp only [List.length_append, List.length_take, List.length_drop, hl]; omega]; omega) (by omega) (by omega)) ?_
  refine OA.op1 (dst := none) (v := (.tuple #[])) (n1 := (n + 1)) (w := (j, some (oMsg ((l.take i ++ (l.drop (i + 1)).take (N - (i + 1)) ++ l.drop (i + (N - (i + 1)))).take (N - 1) ++ List.replicate 1 dMsg ++ (l.take i ++ (l.drop (i + 1)).take (N - (i + 1)) ++ l.drop (i + (N - (i + 1)))).drop ((N - 1) + 1))))) rfl rfl rfl (r_clearR (c := cMsg) (z := dMsg) (l' := ((l.take i ++ (l.drop (i + 1)).take (N - (i + 1)) ++ l.drop (i + (N - (i + 1)))).take (N - 1) ++ List.replicate 1 dMsg ++ (l.take i ++ (l.drop (i + 1)).take (N - (i + 1)) ++ l.drop (i + (N - (i + 1)))).drop ((N - 1) + 1))) rfl rfl rfl rfl rfl rfl rfl rfl rfl get_here (by omega) (by have hlo := (show (l.take i ++ (l.drop (i + 1)).take (N - (i + 1)) ++ l.drop (i + (N - (i + 1)))).length = N from by simp only [List.length_append, List.length_take, List.length_drop, hl]; omega); omega) rfl) (by omega) ?_
  refine OA.nil ?_
  intro _
  refine RA.rebase [(0, (.slice (some ⟨j, 0, none⟩) (N - 1) 0)), (1, (.int .i64 ((i : Nat) : Int))), (2, (.int .i64 (((i + 1) : Nat) : Int))), (6, (.slice none 0 0)), (7, (.int .i64 ((N : Nat) : Int))), (16, (.bool false))] ⟨rfl, rfl, rfl, rfl, rfl, rfl, trivial⟩ (fun τr2 => ?_)
  refine RA.seq hd ?_
  refine RA.region env_ok ?_
  refine OA.p (some 32) (.slice (some ⟨j, 0, none⟩) (N - 1) 0) rfl rfl rfl rfl ?_
  refine OA.p (some 6) (.slice (some ⟨j, 0, none⟩) (N - 1) 0) rfl rfl rfl rfl ?_
  refine OA.nil ?_
  intro _
  refine RA.ret env_ok ?_
  refine ⟨.inr rfl, [(.slice (some ⟨j, 0, none⟩) (N - 1) 0)], (resL_cons rfl resL_nil), [(j, some (oMsg ((l.take i ++ (l.drop (i + 1)).take (N - (i + 1)) ++ l.drop (i + (N - (i + 1)))).take (N - 1) ++ List.replicate 1 dMsg ++ (l.take i ++ (l.drop (i + 1)).take (N - (i + 1)) ++ l.drop (i + (N - (i + 1)))).drop ((N - 1) + 1))))], (Less.of (fac (mm (fun _ => get_here) (fun _ => get_here)) fan) (gone_of (by simp only [goneP, memP, List.cons_append, List.nil_append, true_or, or_true, true_and, and_true, or_false] <;> omega))), ⟨((l.take i ++ (l.drop (i + 1)).take (N - (i + 1)) ++ l.drop (i + (N - (i + 1)))).take (N - 1) ++ List.replicate 1 dMsg ++ (l.take i ++ (l.drop (i + 1)).take (N - (i + 1)) ++ l.drop (i + (N - (i + 1)))).drop ((N - 1) + 1)), congrArg (fun z => Value.slice (some ⟨j, 0, none⟩) z 0) (by omega), del_mid hl (by omega) rfl rfl, rfl⟩⟩
theorem dDel {n : Nat} {σ : Store} (hd : Dom n σ) (j N i : Nat) (l : List Msg) (hl : l.length = N) (hi : i < N) (hN : N ≤ 1000000) (hj : σ j = some (oMsg l)) : CQ Try.prog noDen 90 [(.slice (some ⟨j, 0, none⟩) N 0), (.int .i64 ((i : Nat) : Int)), (.int .i64 (((i + 1) : Nat) : Int))] n σ (fun v n' d => v = .slice (some ⟨j, 0, none⟩) (N - 1) 0 ∧ d = [(j, some (oMsg (l.eraseIdx i)))]) := by
  refine CQ.less (CQ.shr (dDel0 hd j N i l hl hi hN hj) (R := fun v n' d => v = .slice (some ⟨j, 0, none⟩) (N - 1) 0 ∧ ∃ o, d = [(j, some (oMsg (l.eraseIdx i))), (j, some o)]) ?_) ?_
  · rintro v n' d ⟨LL, rfl, h2, rfl⟩
    refine ⟨j, _, N - 1, get_here, rfl, (oMsg LL), ?_⟩
    simp only [shr, ← List.map_take, h2]
  · rintro v n' d ⟨rfl, o, rfl⟩
    exact ⟨_, Less.of (fac (mm (fun _ => get_here) (fun _ => get_here)) fan) (gone_of (by simp only [goneP, memP, true_or, or_true, true_and, and_true])), rfl, rfl⟩
end Go.Proofs.Ytmepflkodjdgdaa.Vt
