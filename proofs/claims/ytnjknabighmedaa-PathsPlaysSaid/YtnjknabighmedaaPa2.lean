/- Pa2: walks through functions of the program, by the calculus; written by a program of this workplace. -/
import Derived.Test.YtnjknabighmedaaPa1
import Derived.Test.YtnjknabighmedaaVm6
namespace Go.Proofs.Ytnjknabighmedaa.Vt
open Go Go.Proofs Go.Proofs.YtnjknabighmedaaV
set_option maxRecDepth 100000
set_option linter.unusedVariables false
set_option linter.unusedSimpArgs false
def addL (a b : BitVec 32) (l : List Pth) : List Pth := if 0 ≤ idxZ (eqP a b) l then l else if 8 ≤ l.length then l else l ++ [newP a b]
def addV (a b : BitVec 32) (l : List Pth) : Int := if 0 ≤ idxZ (eqP a b) l then idxZ (eqP a b) l else if 8 ≤ l.length then -1 else (l.length : Int)
def eqI (x : Int) (e : Inn) : Bool := decide (x = e.z)
abbrev xPa21 (a : BitVec 32) (b : BitVec 32) : List Value := [(W (newP a b).own), (W (newP a b).peer), (.int .i64 (newP a b).state), (.int .i64 (newP a b).f3), (.int .i64 (newP a b).f4), (.int .i64 (newP a b).f5), (.int .i64 (newP a b).f6), (.bool (newP a b).f7), (.int .i64 (newP a b).f8), (.int .i64 (newP a b).f9), (.int .i64 (newP a b).f10), (.int .i64 (newP a b).f11), (.int .i64 (newP a b).f12), (W (newP a b).f13), (.int .i64 (newP a b).f14)]
abbrev xPa22 (x : Pth) : List Value := [(W x.own), (W x.peer), (.int .i64 x.state), (.int .i64 x.f3), (.int .i64 x.f4), (.int .i64 x.f5), (.int .i64 x.f6), (.bool x.f7), (.int .i64 x.f8), (.int .i64 x.f9), (.int .i64 x.f10), (.int .i64 x.f11), (.int .i64 x.f12), (W x.f13), (.int .i64 x.f14)]
abbrev xPa23 : List Value := [(.int .u32 0), (.int .u32 0), (.int .i64 0), (.int .i64 0), (.int .i64 0), (.int .i64 0), (.int .i64 0), (.bool false), (.int .i64 0), (.int .i64 0), (.int .i64 0), (.int .i64 0), (.int .i64 0), (.int .u32 0), (.int .i64 0)]
theorem pAdd {n : Nat} {σ : Store} (hd : Dom n σ) (p jp K : Nat) (f : Int) (l : List Pth) (hl : l.length = K) (hK : K ≤ 1000) (hpj : p ≠ jp) (a b : BitVec 32) (hp : σ p = some ⟨[[(.slice (some ⟨jp, 0, none⟩) K 2), (.int .i64 f)]], 2, 131, true⟩) (hjp : σ jp = some (oPth l))  : CQ Try.prog noDen 54 [(Pt p 0 0), (W a), (W b)] n σ (fun v n' d => ∃ jn, n ≤ jn ∧ jn < n' ∧ ∃ K', (addL a b l).length = K' ∧ K' ≤ K + 1 ∧ v = .int .i64 (addV a b l) ∧ d = [(p, some ⟨[[(.slice (some ⟨jn, 0, none⟩) K' 2), (.int .i64 f)]], 2, 131, true⟩), (jn, some (oPth (addL a b l))), (jp, none)]) := by
 have lhp := hd.lt hp
 have lhjp := hd.lt hjp
 refine CQ.body (E := env) env_ok hd rfl rfl (by show _ ≤ _; exact of_decide_eq_true (by kernel_rfl)) ?_
 refine RA.reoff (idx := 0) hp hjp (by omega) rfl (cs' := [(.slice (some ⟨n, 0, none⟩) K 2), (.int .i64 f)]) rfl (ob' := (oPth l)) (ro0) ?_
 refine RA.seq hd ?_
 refine RA.region env_ok ?_
 refine OA.p (some 6) (.int .i64 0) rfl rfl rfl rfl ?_
 refine OA.nil ?_
 intro _
 refine RA.seq hd ?_
 refine RA.seq hd ?_
 refine RA.region env_ok ?_
 refine OA.p (some 8) (Pt p 0 0) rfl rfl rfl rfl ?_
 refine OA.p (some 9) (W a) rfl rfl rfl rfl ?_
 refine OA.p (some 10) (W b) rfl rfl rfl rfl ?_
 refine OA.callP (dst := (some 11)) (all := [(Pt p 0 0), (W a), (W b)]) (v := (.int .i64 (idxZ (eqP a b) l))) (hd.of (by omega) (kb3 (by omega))) rfl rfl rfl rfl rfl rfl rfl rfl (pFindP p n K f l hl hK a b get_here (get_there (by omega) get_here)) ?_
 intro n1 hn1
 refine OA.p (some 7) (.int .i64 (idxZ (eqP a b) l)) rfl rfl rfl rfl ?_
 refine OA.nil ?_
 intro _
 refine RA.seq hd ?_
 refine RA.region env_ok ?_
 refine OA.p (some 12) (.int .i64 (idxZ (eqP a b) l)) rfl rfl rfl rfl ?_
 by_cases hc1 : 0 ≤ (idxZ (eqP a b) l)
 ·
  refine OA.p (some 13) (.bool true) rfl rfl rfl (Eq.trans (r_bin rfl rfl rfl (b_geq rfl)) (dT hc1)) ?_
  refine OA.p (some 14) (.bool true) rfl rfl rfl rfl ?_
  refine OA.off (dst := (some 15)) rfl rfl rfl ?_
  refine OA.off (dst := (some 16)) rfl rfl rfl ?_
  refine OA.p (some 17) (.bool true) rfl rfl rfl rfl ?_
  refine OA.nil ?_
  intro _
  refine RA.condT rfl ?_
  refine RA.seq hd ?_
  refine RA.region env_ok ?_
  refine OA.p (some 18) (.int .i64 (idxZ (eqP a b) l)) rfl rfl rfl rfl ?_
  refine OA.p (some 6) (.int .i64 (idxZ (eqP a b) l)) rfl rfl rfl rfl ?_
  refine OA.nil ?_
  intro _
  refine RA.ret env_ok ?_
  refine ⟨.inr rfl, [(.int .i64 (idxZ (eqP a b) l))], (resL_cons rfl resL_nil), [(p, some ⟨[[(.slice (some ⟨n, 0, none⟩) K 2), (.int .i64 f)]], 2, 131, true⟩), (n, some (oPth l)), (jp, none)], (Less.refl _ _ _), ⟨n, by omega, by omega, K, by rw [show addL a b l = l from if_pos hc1]; exact (show _ = _ from by rw [hl]), by omega, congrArg (Value.int .i64) (Eq.trans (rfl) (Eq.symm (show addV a b l = _ from if_pos hc1))), by rw [show addL a b l = l from if_pos hc1]⟩⟩
 ·
  refine OA.p (some 13) (.bool false) rfl rfl rfl (Eq.trans (r_bin rfl rfl rfl (b_geq rfl)) (dF hc1)) ?_
  refine OA.p (some 14) (.bool false) rfl rfl rfl rfl ?_
  refine OA.p (some 15) (Pt p 0 0) rfl rfl rfl rfl ?_
  refine OA.p (some 16) (.bool false) rfl rfl rfl rfl ?_
  refine OA.p (some 17) (.bool false) rfl rfl rfl rfl ?_
  refine OA.nil ?_
  intro _
  refine RA.condF rfl ?_
  refine RA.skip env_ok ?_
  intro _
  refine RA.seq hd ?_
  refine RA.seq hd ?_
  refine RA.region env_ok ?_
  refine OA.p (some 19) (Pt p 0 0) rfl rfl rfl rfl ?_
  refine OA.p (some 20) (Pt p 0 0) rfl rfl rfl rfl ?_
  refine OA.p (some 21) (Pt p 0 0) rfl rfl rfl rfl ?_
  refine OA.p (some 22) (.slice (some ⟨n, 0, none⟩) K 2) rfl rfl rfl (r_load1 rfl rfl rfl rfl rfl get_here rfl rfl) ?_
  refine OA.p (some 23) (.int .i64 ((K : Nat) : Int)) rfl rfl rfl rfl ?_
  by_cases hc2 : 8 ≤ ((K : Nat) : Int)
  ·
   refine OA.p (some 24) (.bool true) rfl rfl rfl (Eq.trans (r_bin rfl rfl rfl (b_geq rfl)) (dT hc2)) ?_
   refine OA.nil ?_
   intro _
   refine RA.condT rfl ?_
   refine RA.seq hd ?_
   refine RA.region env_ok ?_
   refine OA.p (some 6) (.int .i64 (-1)) rfl rfl rfl rfl ?_
   refine OA.nil ?_
   intro _
   refine RA.ret env_ok ?_
   refine ⟨.inr rfl, [(.int .i64 (-1))], (resL_cons rfl resL_nil), [(p, some ⟨[[(.slice (some ⟨n, 0, none⟩) K 2), (.int .i64 f)]], 2, 131, true⟩), (n, some (oPth l)), (jp, none)], (Less.refl _ _ _), ⟨n, by omega, by omega, K, by rw [show addL a b l = l from (if_neg hc1).trans (if_pos (by omega))]; exact (show _ = _ from by rw [hl]), by omega, congrArg (Value.int .i64) (Eq.trans (rfl) (Eq.symm (show addV a b l = _ from (if_neg hc1).trans (if_pos (by omega))))), by rw [show addL a b l = l from (if_neg hc1).trans (if_pos (by omega))]⟩⟩
  ·
   refine OA.p (some 24) (.bool false) rfl rfl rfl (Eq.trans (r_bin rfl rfl rfl (b_geq rfl)) (dF hc2)) ?_
   refine OA.nil ?_
   intro _
   refine RA.condF rfl ?_
   refine RA.skip env_ok ?_
   intro _
   refine RA.seq hd ?_
   refine RA.par (md := [some [], some [], some [], some [], some [p], some [], some [], none, some [], none, some [], some [], none]) env_ok (hd.of (by omega) (kb3 (by omega))) (by kernel_rfl) ?_
   refine PQ.pure (dst := (some 25)) (v := (Pt p 0 0)) rfl rfl rfl noStore (none_ok _ _) rfl ?_
   refine PQ.pure (dst := (some 26)) (v := (Pt p 0 0)) rfl rfl rfl noStore (none_ok _ _) rfl ?_
   refine PQ.pure (dst := (some 27)) (v := (Pt p 0 0)) rfl rfl rfl noStore (none_ok _ _) rfl ?_
   refine PQ.pure (dst := (some 28)) (v := (Pt p 0 0)) rfl rfl rfl noStore (none_ok _ _) rfl ?_
   refine PQ.pure (dst := (some 29)) (v := (.slice (some ⟨n, 0, none⟩) K 2)) rfl rfl rfl (app [(p, some ⟨[[(.slice (some ⟨n, 0, none⟩) K 2), (.int .i64 f)]], 2, 131, true⟩)] noStore) (seen_one (V := []) (D := [(p, some ⟨[[(.slice (some ⟨n, 0, none⟩) K 2), (.int .i64 f)]], 2, 131, true⟩), (n, some (oPth l)), (jp, none)]) (by kernel_rfl) get_here) (r_load1 rfl rfl rfl rfl rfl get_here rfl rfl) ?_
   refine PQ.pure (dst := (some 30)) (v := (W a)) rfl rfl rfl noStore (none_ok _ _) rfl ?_
   refine PQ.pure (dst := (some 31)) (v := (W b)) rfl rfl rfl noStore (none_ok _ _) rfl ?_
   refine PQ.callP (dst := (some 32)) (all := [(W a), (W b)]) (v := (.agg ⟨(cPth (newP a b))⟩)) _ (hd.of (by omega) (kb3 (by omega))) rfl rfl rfl rfl rfl rfl rfl rfl (seen_any (V := []) (D := [(p, some ⟨[[(.slice (some ⟨n, 0, none⟩) K 2), (.int .i64 f)]], 2, 131, true⟩), (n, some (oPth l)), (jp, none)]) (by kernel_rfl)) (pPNew a b) ?_
   intro n2 hn2
   refine PQ.op (dst := (some 33)) (v := (.slice (some ⟨n2, 0, none⟩) 1 0)) (n1 := (n2 + 1)) (d1 := [(n2, some ⟨[(xPa21 a b)], 15, 87, true⟩)]) rfl rfl rfl noStore (none_ok _ _) (by kernel_rfl) (by omega) (kp1 (wr_new (by omega) (by omega))) ?_
   refine PQ.op (dst := (some 34)) (v := (.slice (some ⟨(n2 + 1), 0, none⟩) (K + 1) 2)) (n1 := (n2 + 2)) (d1 := [((n2 + 1), some (oPth (l ++ [(newP a b)]))), (n, none)]) rfl rfl rfl _ (seen_any (V := [(n2, some ⟨[(xPa21 a b)], 15, 87, true⟩)]) (D := [(p, some ⟨[[(.slice (some ⟨n, 0, none⟩) K 2), (.int .i64 f)]], 2, 131, true⟩), (n, some (oPth l)), (jp, none)]) (by kernel_rfl)) (r_append2x (c := cPth) (x := (newP a b)) (l' := (l ++ [(newP a b)])) rfl rfl rfl rfl rfl rfl rfl rfl rfl rfl (by decide) (gt2 (by omega) get_here) get_here (by rw [hl]; omega) (by rw [take_all' (by rw [hl])]) (by omega) (of_decide_eq_true (by kernel_rfl)) (by omega)) (by omega) (kp2 (wr_new (by omega) (by omega)) (wr_old [0] (by kernel_rfl) (by omega) (by omega) (fac (lo0 rfl) fan))) ?_
   refine PQ.pure (dst := (some 35)) (v := (Pt p 0 0)) rfl rfl rfl noStore (none_ok _ _) rfl ?_
   refine PQ.pure (dst := (some 36)) (v := (Pt p 0 0)) rfl rfl rfl noStore (none_ok _ _) rfl ?_
   refine PQ.op (dst := none) (v := (.tuple #[])) (n1 := (n2 + 2)) (d1 := [(p, some ⟨[[(.slice (some ⟨(n2 + 1), 0, none⟩) (K + 1) 2), (.int .i64 f)]], 2, 131, true⟩)]) rfl rfl rfl _ (seen_any (V := [((n2 + 1), some (oPth (l ++ [(newP a b)]))), (n, none), (n2, some ⟨[(xPa21 a b)], 15, 87, true⟩)]) (D := [(p, some ⟨[[(.slice (some ⟨n, 0, none⟩) K 2), (.int .i64 f)]], 2, 131, true⟩), (n, some (oPth l)), (jp, none)]) (by kernel_rfl)) (r_store rfl rfl rfl rfl rfl rfl rfl (gt3 (by omega) get_here) rfl rfl (Nat.le_of_ble_eq_true rfl) rfl) (by omega) (kp1 (wr_tight (by kernel_rfl) (by omega))) ?_
   refine PQ.done (d := [(p, some ⟨[[(.slice (some ⟨(n2 + 1), 0, none⟩) (K + 1) 2), (.int .i64 f)]], 2, 131, true⟩), ((n2 + 1), some (oPth (l ++ [(newP a b)]))), (n, none), (n2, some ⟨[(xPa21 a b)], 15, 87, true⟩)]) (by kernel_rfl) ?_
   intro _
   refine RA.weaken (D' := [(p, some ⟨[[(.slice (some ⟨(n2 + 1), 0, none⟩) (K + 1) 2), (.int .i64 f)]], 2, 131, true⟩), ((n2 + 1), some (oPth (l ++ [(newP a b)]))), (n, none), (n2, some ⟨[(xPa21 a b)], 15, 87, true⟩), (jp, none)]) hd (Less.of (fac (mm (fun _ => get_here) (fun _ => get_here)) (fac (mm (fun _ => (get_there (by omega) get_here)) (fun _ => (get_there (by omega) get_here))) (fac (mm (fun _ => (gt2 (by omega) get_here)) (fun _ => (gt2 (by omega) get_here))) (fac (mm (fun _ => (gt3 (by omega) get_here)) (fun _ => (gt3 (by omega) get_here))) (fac (mm (fun _ => (gt4 (by omega) get_here)) (fun _ => (gt6 (by omega) get_here))) fan))))) (gone_of (by simp only [goneP, memP, List.cons_append, List.nil_append, true_or, or_true, true_and, and_true, or_false] <;> omega))) ?_
   refine RA.rebase [(0, (Pt p 0 0)), (1, (W a)), (2, (W b)), (6, (.int .i64 0)), (7, (.int .i64 (idxZ (eqP a b) l))), (17, (.bool false)), (24, (.bool false))] ⟨rfl, rfl, rfl, rfl, rfl, rfl, rfl, trivial⟩ (fun τr3 => ?_)
   refine RA.seq hd ?_
   refine RA.region env_ok ?_
   refine OA.p (some 37) (Pt p 0 0) rfl rfl rfl rfl ?_
   refine OA.p (some 38) (Pt p 0 0) rfl rfl rfl rfl ?_
   refine OA.p (some 39) (Pt p 0 0) rfl rfl rfl rfl ?_
   refine OA.p (some 40) (.slice (some ⟨(n2 + 1), 0, none⟩) (K + 1) 2) rfl rfl rfl (r_load1 rfl rfl rfl rfl rfl get_here rfl rfl) ?_
   refine OA.p (some 41) (.int .i64 (((K + 1) : Nat) : Int)) rfl rfl rfl rfl ?_
   refine OA.p (some 42) (.int .i64 ((((K + 1) - 1) : Nat) : Int)) rfl rfl rfl (r_bin rfl rfl rfl (b_sub (i64_eq (by omega)))) ?_
   refine OA.p (some 6) (.int .i64 ((((K + 1) - 1) : Nat) : Int)) rfl rfl rfl rfl ?_
   refine OA.nil ?_
   intro _
   refine RA.ret env_ok ?_
   refine ⟨.inr rfl, [(.int .i64 ((((K + 1) - 1) : Nat) : Int))], (resL_cons rfl resL_nil), [(p, some ⟨[[(.slice (some ⟨(n2 + 1), 0, none⟩) (K + 1) 2), (.int .i64 f)]], 2, 131, true⟩), ((n2 + 1), some (oPth (l ++ [(newP a b)]))), (jp, none)], (Less.of (fac (mm (fun _ => get_here) (fun _ => get_here)) (fac (mm (fun _ => (get_there (by omega) get_here)) (fun _ => (get_there (by omega) get_here))) (fac (mm (fun _ => (gt2 (by omega) get_here)) (fun _ => (gt4 (by omega) get_here))) fan))) (gone_of (by simp only [goneP, memP, List.cons_append, List.nil_append, true_or, or_true, true_and, and_true, or_false] <;> omega))), ⟨(n2 + 1), by omega, by omega, (K + 1), by rw [show addL a b l = (l ++ [(newP a b)]) from (if_neg hc1).trans (if_neg (by omega))]; exact (show (l ++ [(newP a b)]).length = (K + 1) from by simp only [List.length_append, List.length_singleton, List.length_take, List.length_drop]; first | (rw [hl]; done) | (rw [hl]; omega)), by omega, congrArg (Value.int .i64) (Eq.trans ((by omega : _ = (l.length : Int))) (Eq.symm (show addV a b l = _ from (if_neg hc1).trans (if_neg (by omega))))), by rw [show addL a b l = (l ++ [(newP a b)]) from (if_neg hc1).trans (if_neg (by omega))]⟩⟩

theorem pAt {σ : Store} (p jp K : Nat) (f : Int) (l : List Pth) (hl : l.length = K) (hK : K ≤ 1000) (i : Nat) (hi : i < K) (hp : σ p = some ⟨[[(.slice (some ⟨jp, 0, none⟩) K 2), (.int .i64 f)]], 2, 131, true⟩) (hjp : σ jp = some (oPth l))  : PS Try.prog noDen 64 [(Pt p 0 0), (.int .i64 ((i : Nat) : Int))] σ (.agg ⟨(cPth (l.getD i dPth))⟩) := by
 refine PS.body (E := env) env_ok rfl rfl (by show _ ≤ _; exact of_decide_eq_true (by kernel_rfl)) (fun n hd => ?_)
 have lhp := hd.lt hp
 have lhjp := hd.lt hjp
 refine RA.seq hd ?_
 refine RA.region env_ok ?_
 refine OA.op1 (dst := (some 4)) (v := (Pt n 0 0)) (n1 := (n + 1)) (w := (n, some ⟨[xPa23], 15, 87, true⟩)) rfl rfl rfl rfl (by omega) ?_
 refine OA.nil ?_
 intro _
 refine RA.seq hd ?_
 refine RA.seq hd ?_
 refine RA.region env_ok ?_
 refine OA.p (some 5) (Pt p 0 0) rfl rfl rfl rfl ?_
 refine OA.p (some 6) (.bool false) rfl rfl rfl rfl ?_
 refine OA.p (some 7) (.bool false) rfl rfl rfl rfl ?_
 refine OA.p (some 8) (.int .i64 ((i : Nat) : Int)) rfl rfl rfl rfl ?_
 have hc1 : ¬ (((i : Nat) : Int) < 0) := fun hdd => by exfalso; omega
 refine OA.p (some 9) (.bool false) rfl rfl rfl (Eq.trans (r_bin rfl rfl rfl (b_lss rfl)) (dF hc1)) ?_
 refine OA.p (some 10) (.bool false) rfl rfl rfl rfl ?_
 refine OA.p (some 11) (.bool false) rfl rfl rfl rfl ?_
 refine OA.p (some 12) (.int .i64 ((i : Nat) : Int)) rfl rfl rfl rfl ?_
 refine OA.p (some 13) (Pt p 0 0) rfl rfl rfl rfl ?_
 refine OA.p (some 14) (Pt p 0 0) rfl rfl rfl rfl ?_
 refine OA.p (some 15) (Pt p 0 0) rfl rfl rfl rfl ?_
 refine OA.p (some 16) (.slice (some ⟨jp, 0, none⟩) K 2) rfl rfl rfl (r_load1 rfl rfl rfl rfl rfl (get_there (by omega) hp) rfl rfl) ?_
 refine OA.p (some 17) (.int .i64 ((K : Nat) : Int)) rfl rfl rfl rfl ?_
 have hc2 : ¬ (((K : Nat) : Int) ≤ ((i : Nat) : Int)) := fun hdd => by exfalso; omega
 refine OA.p (some 18) (.bool false) rfl rfl rfl (Eq.trans (r_bin rfl rfl rfl (b_geq rfl)) (dF hc2)) ?_
 refine OA.p (some 19) (.bool false) rfl rfl rfl rfl ?_
 refine OA.nil ?_
 intro _
 refine RA.condF rfl ?_
 refine RA.skip env_ok ?_
 intro _
 refine RA.seq hd ?_
 refine RA.region env_ok ?_
 refine OA.p (some 21) (Pt p 0 0) rfl rfl rfl rfl ?_
 refine OA.p (some 22) (Pt p 0 0) rfl rfl rfl rfl ?_
 refine OA.p (some 23) (Pt p 0 0) rfl rfl rfl rfl ?_
 refine OA.p (some 24) (.slice (some ⟨jp, 0, none⟩) K 2) rfl rfl rfl (r_load1 rfl rfl rfl rfl rfl (get_there (by omega) hp) rfl rfl) ?_
 refine OA.p (some 25) (.int .i64 ((i : Nat) : Int)) rfl rfl rfl rfl ?_
 refine OA.p (some 26) (Pt jp i 0) rfl rfl rfl (r_iaS (l := i) rfl rfl rfl rfl rfl rfl (by omega) (by omega) (get_there (by omega) hjp) rfl (by omega)) ?_
 refine OA.p (some 27) (.agg ⟨(cPth (l.getD i dPth))⟩) rfl rfl rfl (r_loadR (c := cPth) dPth rfl rfl rfl rfl (get_there (by omega) hjp) (by rw [hl]; omega) rfl) ?_
 refine OA.op1 (dst := none) (v := (.tuple #[])) (n1 := (n + 1)) (w := (n, some ⟨[(cPth (l.getD i dPth))], 15, 87, true⟩)) rfl rfl rfl (r_store rfl rfl rfl rfl rfl rfl rfl get_here rfl rfl (Nat.le_of_ble_eq_true rfl) rfl) (by omega) ?_
 refine OA.nil ?_
 intro _
 refine RA.ret env_ok ?_
 refine ⟨.inr rfl, [(.agg ⟨(cPth (l.getD i dPth))⟩)], (resL_cons (res_cellA rfl rfl rfl get_here rfl rfl rfl) resL_nil), rfl, (kc2 (by omega))⟩

theorem pAtN {σ : Store} (p jp K : Nat) (f : Int) (l : List Pth) (hl : l.length = K) (hK : K ≤ 1000) (hp : σ p = some ⟨[[(.slice (some ⟨jp, 0, none⟩) K 2), (.int .i64 f)]], 2, 131, true⟩) (hjp : σ jp = some (oPth l))  : PS Try.prog noDen 64 [(Pt p 0 0), (.int .i64 (-1))] σ (.agg ⟨(cPth dPth)⟩) := by
 refine PS.body (E := env) env_ok rfl rfl (by show _ ≤ _; exact of_decide_eq_true (by kernel_rfl)) (fun n hd => ?_)
 have lhp := hd.lt hp
 have lhjp := hd.lt hjp
 refine RA.seq hd ?_
 refine RA.region env_ok ?_
 refine OA.op1 (dst := (some 4)) (v := (Pt n 0 0)) (n1 := (n + 1)) (w := (n, some ⟨[xPa23], 15, 87, true⟩)) rfl rfl rfl rfl (by omega) ?_
 refine OA.nil ?_
 intro _
 refine RA.seq hd ?_
 refine RA.seq hd ?_
 refine RA.region env_ok ?_
 refine OA.p (some 5) (Pt p 0 0) rfl rfl rfl rfl ?_
 refine OA.p (some 6) (.bool false) rfl rfl rfl rfl ?_
 refine OA.p (some 7) (.bool false) rfl rfl rfl rfl ?_
 refine OA.p (some 8) (.int .i64 (-1)) rfl rfl rfl rfl ?_
 refine OA.p (some 9) (.bool true) rfl rfl rfl (r_bin rfl rfl rfl (b_lss rfl)) ?_
 refine OA.p (some 10) (.bool true) rfl rfl rfl rfl ?_
 refine OA.p (some 11) (.bool true) rfl rfl rfl rfl ?_
 refine OA.off (dst := (some 12)) rfl rfl rfl ?_
 refine OA.off (dst := (some 13)) rfl rfl rfl ?_
 refine OA.off (dst := (some 14)) rfl rfl rfl ?_
 refine OA.off (dst := (some 15)) rfl rfl rfl ?_
 refine OA.off (dst := (some 16)) rfl rfl rfl ?_
 refine OA.off (dst := (some 17)) rfl rfl rfl ?_
 refine OA.off (dst := (some 18)) rfl rfl rfl ?_
 refine OA.p (some 19) (.bool true) rfl rfl rfl rfl ?_
 refine OA.nil ?_
 intro _
 refine RA.condT rfl ?_
 refine RA.seq hd ?_
 refine RA.region env_ok ?_
 refine OA.p (some 20) (.agg ⟨xPa23⟩) rfl rfl rfl (by kernel_rfl) ?_
 refine OA.op1 (dst := none) (v := (.tuple #[])) (n1 := (n + 1)) (w := (n, some ⟨[xPa23], 15, 87, true⟩)) rfl rfl rfl (r_store rfl rfl rfl rfl rfl rfl rfl get_here rfl rfl (Nat.le_of_ble_eq_true rfl) rfl) (by omega) ?_
 refine OA.nil ?_
 intro _
 refine RA.ret env_ok ?_
 refine ⟨.inr rfl, [(.agg ⟨xPa23⟩)], (resL_cons (res_cellA rfl rfl rfl get_here rfl rfl rfl) resL_nil), rfl, (kc2 (by omega))⟩

theorem pSame {σ : Store} (x y : Pth)   : PS Try.prog noDen 91 [(.agg ⟨(cPth x)⟩), (.agg ⟨(cPth y)⟩)] σ (.bool (eqP y.own y.peer x)) := by
 refine PS.body (E := env) env_ok rfl rfl (by show _ ≤ _; exact of_decide_eq_true (by kernel_rfl)) (fun n hd => ?_)
 refine RA.seq hd ?_
 refine RA.region env_ok ?_
 refine OA.op1 (dst := (some 2)) (v := (Pt n 0 0)) (n1 := (n + 1)) (w := (n, some ⟨[(cPth x)], 15, 87, true⟩)) rfl rfl rfl rfl (by omega) ?_
 refine OA.op1 (dst := (some 3)) (v := (.pointer (some ⟨(n + 1), 0, some 0⟩))) (n1 := (n + 2)) (w := ((n + 1), some ⟨[(cPth y)], 15, 87, true⟩)) rfl rfl rfl rfl (by omega) ?_
 refine OA.p (some 4) (.bool false) rfl rfl rfl rfl ?_
 refine OA.nil ?_
 intro _
 refine RA.seq hd ?_
 refine RA.region env_ok ?_
 refine OA.p (some 5) (Pt n 0 0) rfl rfl rfl rfl ?_
 refine OA.p (some 6) (W x.own) rfl rfl rfl (r_load1 rfl rfl rfl rfl rfl (get_there (by omega) get_here) rfl rfl) ?_
 refine OA.p (some 7) (.pointer (some ⟨(n + 1), 0, some 0⟩)) rfl rfl rfl rfl ?_
 refine OA.p (some 8) (W y.own) rfl rfl rfl (r_load1 rfl rfl rfl rfl rfl get_here rfl rfl) ?_
 by_cases hc1 : (x.own.toNat : Int) = (y.own.toNat : Int)
 ·
  refine OA.p (some 9) (.bool true) rfl rfl rfl (Eq.trans (r_bin rfl rfl rfl (b_eql rfl)) (dT hc1)) ?_
  refine OA.p (some 10) (.bool true) rfl rfl rfl rfl ?_
  refine OA.p (some 11) (Pt n 0 1) rfl rfl rfl rfl ?_
  refine OA.p (some 12) (W x.peer) rfl rfl rfl (r_load1 rfl rfl rfl rfl rfl (get_there (by omega) get_here) rfl rfl) ?_
  refine OA.p (some 13) (.pointer (some ⟨(n + 1), 0, some 1⟩)) rfl rfl rfl rfl ?_
  refine OA.p (some 14) (W y.peer) rfl rfl rfl (r_load1 rfl rfl rfl rfl rfl get_here rfl rfl) ?_
  refine OA.p (some 15) (.bool (decide ((x.peer.toNat : Int) = (y.peer.toNat : Int)))) rfl rfl rfl (r_bin rfl rfl rfl (b_eql rfl)) ?_
  refine OA.p (some 16) (.bool (decide ((x.peer.toNat : Int) = (y.peer.toNat : Int)))) rfl rfl rfl rfl ?_
  refine OA.p (some 4) (.bool (decide ((x.peer.toNat : Int) = (y.peer.toNat : Int)))) rfl rfl rfl rfl ?_
  refine OA.nil ?_
  intro _
  refine RA.ret env_ok ?_
  refine ⟨.inr rfl, [(.bool (decide ((x.peer.toNat : Int) = (y.peer.toNat : Int))))], (resL_cons rfl resL_nil), (by show Value.bool _ = Value.bool _; unfold eqP; simp_all), (kc2 (by omega))⟩
 ·
  refine OA.p (some 9) (.bool false) rfl rfl rfl (Eq.trans (r_bin rfl rfl rfl (b_eql rfl)) (dF hc1)) ?_
  refine OA.p (some 10) (.bool false) rfl rfl rfl rfl ?_
  refine OA.off (dst := (some 11)) rfl rfl rfl ?_
  refine OA.off (dst := (some 12)) rfl rfl rfl ?_
  refine OA.off (dst := (some 13)) rfl rfl rfl ?_
  refine OA.off (dst := (some 14)) rfl rfl rfl ?_
  refine OA.off (dst := (some 15)) rfl rfl rfl ?_
  refine OA.p (some 16) (.bool false) rfl rfl rfl rfl ?_
  refine OA.p (some 4) (.bool false) rfl rfl rfl rfl ?_
  refine OA.nil ?_
  intro _
  refine RA.ret env_ok ?_
  refine ⟨.inr rfl, [(.bool false)], (resL_cons rfl resL_nil), (by show Value.bool _ = Value.bool _; unfold eqP; simp_all), (kc2 (by omega))⟩

theorem pSet {n : Nat} {σ : Store} (hd : Dom n σ) (p jp K : Nat) (f : Int) (l : List Pth) (hl : l.length = K) (hK : K ≤ 1000) (i : Nat) (hi : i < K) (x : Pth) (hp : σ p = some ⟨[[(.slice (some ⟨jp, 0, none⟩) K 2), (.int .i64 f)]], 2, 131, true⟩) (hjp : σ jp = some (oPth l))  : CQ Try.prog noDen 58 [(Pt p 0 0), (.int .i64 ((i : Nat) : Int)), (.agg ⟨(cPth x)⟩)] n σ (fun v n' d => v = .bool (eqP x.own x.peer (l.getD i dPth)) ∧ ((eqP x.own x.peer (l.getD i dPth) = true ∧ d = [(jp, some (oPth (l.set i x)))]) ∨ (¬ eqP x.own x.peer (l.getD i dPth) = true ∧ d = []))) := by
 have lhp := hd.lt hp
 have lhjp := hd.lt hjp
 refine CQ.body (E := env) env_ok hd rfl rfl (by show _ ≤ _; exact of_decide_eq_true (by kernel_rfl)) ?_
 refine RA.seq hd ?_
 refine RA.region env_ok ?_
 refine OA.op1 (dst := (some 5)) (v := (Pt n 0 0)) (n1 := (n + 1)) (w := (n, some ⟨[(cPth x)], 15, 87, true⟩)) rfl rfl rfl rfl (by omega) ?_
 refine OA.p (some 6) (.bool false) rfl rfl rfl rfl ?_
 refine OA.nil ?_
 intro _
 refine RA.seq hd ?_
 refine RA.seq hd ?_
 refine RA.par (md := [some [], some [], some [], some [], some [], some [], some [], some [], some [], some [], some [], some [p], some [], some [], some [], some [], some [], some [], some [], some [p], some [], none, none, some [n], none, some [], some []]) env_ok (hd.of (by omega) (kb1 (by omega))) (by kernel_rfl) ?_
 refine PQ.pure (dst := (some 7)) (v := (Pt p 0 0)) rfl rfl rfl noStore (none_ok _ _) rfl ?_
 refine PQ.pure (dst := (some 8)) (v := (.bool false)) rfl rfl rfl noStore (none_ok _ _) rfl ?_
 refine PQ.pure (dst := (some 9)) (v := (.bool false)) rfl rfl rfl noStore (none_ok _ _) rfl ?_
 refine PQ.pure (dst := (some 10)) (v := (.int .i64 ((i : Nat) : Int))) rfl rfl rfl noStore (none_ok _ _) rfl ?_
 have hc1 : ¬ (((i : Nat) : Int) < 0) := fun hdd => by exfalso; omega
 refine PQ.pure (dst := (some 11)) (v := (.bool false)) rfl rfl rfl noStore (none_ok _ _) (Eq.trans (r_bin rfl rfl rfl (b_lss rfl)) (dF hc1)) ?_
 refine PQ.pure (dst := (some 12)) (v := (.bool false)) rfl rfl rfl noStore (none_ok _ _) rfl ?_
 refine PQ.pure (dst := (some 13)) (v := (.bool false)) rfl rfl rfl noStore (none_ok _ _) rfl ?_
 refine PQ.pure (dst := (some 14)) (v := (.int .i64 ((i : Nat) : Int))) rfl rfl rfl noStore (none_ok _ _) rfl ?_
 refine PQ.pure (dst := (some 15)) (v := (Pt p 0 0)) rfl rfl rfl noStore (none_ok _ _) rfl ?_
 refine PQ.pure (dst := (some 16)) (v := (Pt p 0 0)) rfl rfl rfl noStore (none_ok _ _) rfl ?_
 refine PQ.pure (dst := (some 17)) (v := (Pt p 0 0)) rfl rfl rfl noStore (none_ok _ _) rfl ?_
 refine PQ.pure (dst := (some 18)) (v := (.slice (some ⟨jp, 0, none⟩) K 2)) rfl rfl rfl (app [(p, some ⟨[[(.slice (some ⟨jp, 0, none⟩) K 2), (.int .i64 f)]], 2, 131, true⟩)] noStore) (seen_one (V := []) (D := [(n, some ⟨[(cPth x)], 15, 87, true⟩)]) (by kernel_rfl) (get_there (by omega) hp)) (r_load1 rfl rfl rfl rfl rfl get_here rfl rfl) ?_
 refine PQ.pure (dst := (some 19)) (v := (.int .i64 ((K : Nat) : Int))) rfl rfl rfl noStore (none_ok _ _) rfl ?_
 have hc2 : ¬ (((K : Nat) : Int) ≤ ((i : Nat) : Int)) := fun hdd => by exfalso; omega
 refine PQ.pure (dst := (some 20)) (v := (.bool false)) rfl rfl rfl noStore (none_ok _ _) (Eq.trans (r_bin rfl rfl rfl (b_geq rfl)) (dF hc2)) ?_
 refine PQ.pure (dst := (some 21)) (v := (.bool false)) rfl rfl rfl noStore (none_ok _ _) rfl ?_
 refine PQ.pure (dst := (some 22)) (v := (.bool false)) rfl rfl rfl noStore (none_ok _ _) rfl ?_
 refine PQ.pure (dst := (some 23)) (v := (Pt p 0 0)) rfl rfl rfl noStore (none_ok _ _) rfl ?_
 refine PQ.pure (dst := (some 24)) (v := (Pt p 0 0)) rfl rfl rfl noStore (none_ok _ _) rfl ?_
 refine PQ.pure (dst := (some 25)) (v := (Pt p 0 0)) rfl rfl rfl noStore (none_ok _ _) rfl ?_
 refine PQ.pure (dst := (some 26)) (v := (.slice (some ⟨jp, 0, none⟩) K 2)) rfl rfl rfl (app [(p, some ⟨[[(.slice (some ⟨jp, 0, none⟩) K 2), (.int .i64 f)]], 2, 131, true⟩)] noStore) (seen_one (V := []) (D := [(n, some ⟨[(cPth x)], 15, 87, true⟩)]) (by kernel_rfl) (get_there (by omega) hp)) (r_load1 rfl rfl rfl rfl rfl get_here rfl rfl) ?_
 refine PQ.pure (dst := (some 27)) (v := (.int .i64 ((i : Nat) : Int))) rfl rfl rfl noStore (none_ok _ _) rfl ?_
 refine PQ.pure (dst := (some 28)) (v := (Pt jp i 0)) rfl rfl rfl _ (seen_any (V := []) (D := [(n, some ⟨[(cPth x)], 15, 87, true⟩)]) (by kernel_rfl)) (r_iaS (l := i) rfl rfl rfl rfl rfl rfl (by omega) (by omega) (get_there (by omega) hjp) rfl (by omega)) ?_
 refine PQ.pure (dst := (some 29)) (v := (.agg ⟨(cPth (l.getD i dPth))⟩)) rfl rfl rfl _ (seen_any (V := []) (D := [(n, some ⟨[(cPth x)], 15, 87, true⟩)]) (by kernel_rfl)) (r_loadR (c := cPth) dPth rfl rfl rfl rfl (get_there (by omega) hjp) (by rw [hl]; omega) rfl) ?_
 refine PQ.pure (dst := (some 30)) (v := (.agg ⟨(xPa22 x)⟩)) rfl rfl rfl (app [(n, some ⟨[(cPth x)], 15, 87, true⟩)] noStore) (seen_one (V := []) (D := [(n, some ⟨[(cPth x)], 15, 87, true⟩)]) (by kernel_rfl) get_here) (r_loadA rfl rfl rfl rfl get_here rfl rfl rfl) ?_
 by_cases hc3 : (eqP x.own x.peer (l.getD i dPth)) = true
 ·
  refine PQ.callP (dst := (some 31)) (all := [(.agg ⟨(cPth (l.getD i dPth))⟩), (.agg ⟨(xPa22 x)⟩)]) (v := (.bool true)) _ (hd.of (by omega) (kb1 (by omega))) rfl rfl rfl rfl rfl rfl rfl rfl (seen_any (V := []) (D := [(n, some ⟨[(cPth x)], 15, 87, true⟩)]) (by kernel_rfl)) (PS.to (pSame (l.getD i dPth) x) (show (.bool (eqP x.own x.peer (l.getD i dPth))) = ((.bool true) : Value) from (by first | (rw [hc3]; done) | (rw [hc3]; rfl)))) ?_
  intro n1 hn1
  refine PQ.pure (dst := (some 32)) (v := (.bool false)) rfl rfl rfl noStore (none_ok _ _) rfl ?_
  refine PQ.pure (dst := (some 33)) (v := (.bool false)) rfl rfl rfl noStore (none_ok _ _) rfl ?_
  refine PQ.done (d := []) (by kernel_rfl) ?_
  intro _
  refine RA.rebase [(0, (Pt p 0 0)), (1, (.int .i64 ((i : Nat) : Int))), (2, (.agg ⟨(cPth x)⟩)), (5, (Pt n 0 0)), (6, (.bool false)), (33, (.bool false))] ⟨rfl, rfl, rfl, rfl, rfl, rfl, trivial⟩ (fun τr2 => ?_)
  refine RA.condF rfl ?_
  refine RA.skip env_ok ?_
  intro _
  refine RA.seq hd ?_
  refine RA.par (md := [some [], some [], some [], some [p], some [], some [n], none, none]) env_ok (hd.of (by omega) (kb1 (by omega))) (by kernel_rfl) ?_
  refine PQ.pure (dst := (some 34)) (v := (Pt p 0 0)) rfl rfl rfl noStore (none_ok _ _) rfl ?_
  refine PQ.pure (dst := (some 35)) (v := (Pt p 0 0)) rfl rfl rfl noStore (none_ok _ _) rfl ?_
  refine PQ.pure (dst := (some 36)) (v := (Pt p 0 0)) rfl rfl rfl noStore (none_ok _ _) rfl ?_
  refine PQ.pure (dst := (some 37)) (v := (.slice (some ⟨jp, 0, none⟩) K 2)) rfl rfl rfl (app [(p, some ⟨[[(.slice (some ⟨jp, 0, none⟩) K 2), (.int .i64 f)]], 2, 131, true⟩)] noStore) (seen_one (V := []) (D := [(n, some ⟨[(cPth x)], 15, 87, true⟩)]) (by kernel_rfl) (get_there (by omega) hp)) (r_load1 rfl rfl rfl rfl rfl get_here rfl rfl) ?_
  refine PQ.pure (dst := (some 38)) (v := (.int .i64 ((i : Nat) : Int))) rfl rfl rfl noStore (none_ok _ _) rfl ?_
  refine PQ.pure (dst := (some 39)) (v := (.agg ⟨(xPa22 x)⟩)) rfl rfl rfl (app [(n, some ⟨[(cPth x)], 15, 87, true⟩)] noStore) (seen_one (V := []) (D := [(n, some ⟨[(cPth x)], 15, 87, true⟩)]) (by kernel_rfl) get_here) (r_loadA rfl rfl rfl rfl get_here rfl rfl rfl) ?_
  refine PQ.pure (dst := (some 40)) (v := (Pt jp i 0)) rfl rfl rfl _ (seen_any (V := []) (D := [(n, some ⟨[(cPth x)], 15, 87, true⟩)]) (by kernel_rfl)) (r_iaS (l := i) rfl rfl rfl rfl rfl rfl (by omega) (by omega) (get_there (by omega) hjp) rfl (by omega)) ?_
  refine PQ.op (dst := none) (v := (.tuple #[])) (n1 := n1) (d1 := [(jp, some (oPth (l.set i x)))]) rfl rfl rfl _ (seen_any (V := []) (D := [(n, some ⟨[(cPth x)], 15, 87, true⟩)]) (by kernel_rfl)) (r_storeR (c := cPth) dPth x rfl rfl rfl rfl rfl rfl rfl (get_there (by omega) hjp) (by rw [hl]; omega) (Nat.le_of_ble_eq_true rfl) rfl) (by omega) (kp1 (wr_tight (by kernel_rfl) (by omega))) ?_
  refine PQ.done (d := [(jp, some (oPth (l.set i x)))]) (by kernel_rfl) ?_
  intro _
  refine RA.seq hd ?_
  refine RA.region env_ok ?_
  refine OA.p (some 6) (.bool true) rfl rfl rfl rfl ?_
  refine OA.nil ?_
  intro _
  refine RA.ret env_ok ?_
  refine ⟨.inr rfl, [(.bool true)], (resL_cons rfl resL_nil), [(jp, some (oPth (l.set i x)))], (Less.of (fac (mm (fun _ => get_here) (fun _ => get_here)) fan) (gone_of (by simp only [goneP, memP, List.cons_append, List.nil_append, true_or, or_true, true_and, and_true, or_false] <;> omega))), ⟨congrArg Value.bool (hc3).symm, (.inl ⟨hc3, rfl⟩)⟩⟩
 ·
  refine PQ.callP (dst := (some 31)) (all := [(.agg ⟨(cPth (l.getD i dPth))⟩), (.agg ⟨(xPa22 x)⟩)]) (v := (.bool false)) _ (hd.of (by omega) (kb1 (by omega))) rfl rfl rfl rfl rfl rfl rfl rfl (seen_any (V := []) (D := [(n, some ⟨[(cPth x)], 15, 87, true⟩)]) (by kernel_rfl)) (PS.to (pSame (l.getD i dPth) x) (show (.bool (eqP x.own x.peer (l.getD i dPth))) = ((.bool false) : Value) from (by first | (rw [eq_false_of_ne_true hc3]; done) | (rw [eq_false_of_ne_true hc3]; rfl)))) ?_
  intro n3 hn3
  refine PQ.pure (dst := (some 32)) (v := (.bool true)) rfl rfl rfl noStore (none_ok _ _) rfl ?_
  refine PQ.pure (dst := (some 33)) (v := (.bool true)) rfl rfl rfl noStore (none_ok _ _) rfl ?_
  refine PQ.done (d := []) (by kernel_rfl) ?_
  intro _
  refine RA.rebase [(0, (Pt p 0 0)), (1, (.int .i64 ((i : Nat) : Int))), (2, (.agg ⟨(cPth x)⟩)), (5, (Pt n 0 0)), (6, (.bool false)), (33, (.bool true))] ⟨rfl, rfl, rfl, rfl, rfl, rfl, trivial⟩ (fun τr4 => ?_)
  refine RA.condT rfl ?_
  refine RA.seq hd ?_
  refine RA.region env_ok ?_
  refine OA.p (some 6) (.bool false) rfl rfl rfl rfl ?_
  refine OA.nil ?_
  intro _
  refine RA.ret env_ok ?_
  refine ⟨.inr rfl, [(.bool false)], (resL_cons rfl resL_nil), [], (Less.of (fun p hp => by simp at hp) (gone_of (by simp only [goneP, memP, List.cons_append, List.nil_append, true_or, or_true, true_and, and_true, or_false] <;> omega))), ⟨congrArg Value.bool (Bool.eq_false_iff.2 hc3).symm, (.inr ⟨hc3, rfl⟩)⟩⟩

theorem pSetN {σ : Store} (p jp K : Nat) (f : Int) (l : List Pth) (hl : l.length = K) (hK : K ≤ 1000) (x : Pth) (hp : σ p = some ⟨[[(.slice (some ⟨jp, 0, none⟩) K 2), (.int .i64 f)]], 2, 131, true⟩) (hjp : σ jp = some (oPth l))  : PS Try.prog noDen 58 [(Pt p 0 0), (.int .i64 (-1)), (.agg ⟨(cPth x)⟩)] σ (.bool false) := by
 refine PS.body (E := env) env_ok rfl rfl (by show _ ≤ _; exact of_decide_eq_true (by kernel_rfl)) (fun n hd => ?_)
 have lhp := hd.lt hp
 have lhjp := hd.lt hjp
 refine RA.seq hd ?_
 refine RA.region env_ok ?_
 refine OA.op1 (dst := (some 5)) (v := (Pt n 0 0)) (n1 := (n + 1)) (w := (n, some ⟨[(cPth x)], 15, 87, true⟩)) rfl rfl rfl rfl (by omega) ?_
 refine OA.p (some 6) (.bool false) rfl rfl rfl rfl ?_
 refine OA.nil ?_
 intro _
 refine RA.seq hd ?_
 refine RA.seq hd ?_
 refine RA.par (md := [some [], some [], some [], some [], some [], some [], some [], some [], some [], some [], some [], some [p], some [], some [], some [], some [], some [], some [], some [], some [p], some [], none, none, some [n], none, some [], some []]) env_ok (hd.of (by omega) (kb1 (by omega))) (by kernel_rfl) ?_
 refine PQ.pure (dst := (some 7)) (v := (Pt p 0 0)) rfl rfl rfl noStore (none_ok _ _) rfl ?_
 refine PQ.pure (dst := (some 8)) (v := (.bool false)) rfl rfl rfl noStore (none_ok _ _) rfl ?_
 refine PQ.pure (dst := (some 9)) (v := (.bool false)) rfl rfl rfl noStore (none_ok _ _) rfl ?_
 refine PQ.pure (dst := (some 10)) (v := (.int .i64 (-1))) rfl rfl rfl noStore (none_ok _ _) rfl ?_
 refine PQ.pure (dst := (some 11)) (v := (.bool true)) rfl rfl rfl noStore (none_ok _ _) (r_bin rfl rfl rfl (b_lss rfl)) ?_
 refine PQ.pure (dst := (some 12)) (v := (.bool true)) rfl rfl rfl noStore (none_ok _ _) rfl ?_
 refine PQ.pure (dst := (some 13)) (v := (.bool true)) rfl rfl rfl noStore (none_ok _ _) rfl ?_
 refine PQ.off (dst := (some 14)) rfl rfl rfl ?_
 refine PQ.off (dst := (some 15)) rfl rfl rfl ?_
 refine PQ.off (dst := (some 16)) rfl rfl rfl ?_
 refine PQ.off (dst := (some 17)) rfl rfl rfl ?_
 refine PQ.off (dst := (some 18)) rfl rfl rfl ?_
 refine PQ.off (dst := (some 19)) rfl rfl rfl ?_
 refine PQ.off (dst := (some 20)) rfl rfl rfl ?_
 refine PQ.pure (dst := (some 21)) (v := (.bool true)) rfl rfl rfl noStore (none_ok _ _) rfl ?_
 refine PQ.pure (dst := (some 22)) (v := (.bool true)) rfl rfl rfl noStore (none_ok _ _) rfl ?_
 refine PQ.off (dst := (some 23)) rfl rfl rfl ?_
 refine PQ.off (dst := (some 24)) rfl rfl rfl ?_
 refine PQ.off (dst := (some 25)) rfl rfl rfl ?_
 refine PQ.off (dst := (some 26)) rfl rfl rfl ?_
 refine PQ.off (dst := (some 27)) rfl rfl rfl ?_
 refine PQ.off (dst := (some 28)) rfl rfl rfl ?_
 refine PQ.off (dst := (some 29)) rfl rfl rfl ?_
 refine PQ.off (dst := (some 30)) rfl rfl rfl ?_
 refine PQ.off (dst := (some 31)) rfl rfl rfl ?_
 refine PQ.off (dst := (some 32)) rfl rfl rfl ?_
 refine PQ.pure (dst := (some 33)) (v := (.bool true)) rfl rfl rfl noStore (none_ok _ _) rfl ?_
 refine PQ.done (d := []) (by kernel_rfl) ?_
 intro _
 refine RA.rebase [(0, (Pt p 0 0)), (1, (.int .i64 (-1))), (2, (.agg ⟨(cPth x)⟩)), (5, (Pt n 0 0)), (6, (.bool false)), (33, (.bool true))] ⟨rfl, rfl, rfl, rfl, rfl, rfl, trivial⟩ (fun τr1 => ?_)
 refine RA.condT rfl ?_
 refine RA.seq hd ?_
 refine RA.region env_ok ?_
 refine OA.p (some 6) (.bool false) rfl rfl rfl rfl ?_
 refine OA.nil ?_
 intro _
 refine RA.ret env_ok ?_
 refine ⟨.inr rfl, [(.bool false)], (resL_cons rfl resL_nil), rfl, (kc1 (by omega))⟩

theorem pClo_r {n : Nat} {σ : Store} (hd : Dom n σ) (j N M : Nat) (l : List Pth) (hl : l.length = N) (hM : M ≤ N) (hN : N ≤ 1000000) (hj : σ j = some (oPth l))  : CQ Try.prog noDen 93 [(.slice (some ⟨j, 0, none⟩) M 0)] n σ (fun v n' d => ∃ i, n ≤ i ∧ i < n' ∧ v = .slice (some ⟨i, 0, none⟩) M 0 ∧ d = [(i, some (oPth (l.take M)))]) := by
 have lhj := hd.lt hj
 refine CQ.body (E := env) env_ok hd rfl rfl (by show _ ≤ _; exact of_decide_eq_true (by kernel_rfl)) ?_
 refine RA.seq hd ?_
 refine RA.region env_ok ?_
 refine OA.p (some 2) (.slice none 0 0) rfl rfl rfl rfl ?_
 refine OA.nil ?_
 intro _
 refine RA.seq hd ?_
 refine RA.seq hd ?_
 refine RA.region env_ok ?_
 refine OA.p (some 3) (.slice (some ⟨j, 0, none⟩) M 0) rfl rfl rfl rfl ?_
 refine OA.p (some 4) (.bool false) rfl rfl rfl rfl ?_
 refine OA.nil ?_
 intro _
 refine RA.condF rfl ?_
 refine RA.skip env_ok ?_
 intro _
 refine RA.seq hd ?_
 refine RA.region env_ok ?_
 refine OA.op1 (dst := (some 5)) (v := (.slice (some ⟨n, 0, none⟩) 0 0)) (n1 := (n + 1)) (w := (n, some (oPth ([] : List Pth)))) rfl rfl rfl (by kernel_rfl) (by omega) ?_
 refine OA.p (some 6) (.slice (some ⟨j, 0, none⟩) M 0) rfl rfl rfl rfl ?_
 by_cases hc1 : M = 0
 ·
  refine OA.p (some 7) (.slice (some ⟨n, 0, none⟩) 0 0) rfl rfl rfl (r_appendZ rfl rfl rfl rfl (.inl ⟨_, _, _, rfl, by decide⟩) rfl rfl rfl rfl rfl (by decide) (by omega)) ?_
  refine OA.p (some 2) (.slice (some ⟨n, 0, none⟩) 0 0) rfl rfl rfl rfl ?_
  refine OA.nil ?_
  intro _
  refine RA.ret env_ok ?_
  refine ⟨.inr rfl, [(.slice (some ⟨n, 0, none⟩) 0 0)], (resL_cons rfl resL_nil), [(n, some (oPth ([] : List Pth)))], (Less.refl _ _ _), ⟨n, by omega, by omega, by rw [show M = 0 from by omega]; rfl, by rw [show M = 0 from by omega, List.take_zero]⟩⟩
 ·
  refine OA.op (dst := (some 7)) (v := (.slice (some ⟨(n + 1), 0, none⟩) M 0)) (n1 := (n + 2)) (d1 := [((n + 1), some (oPth (l.take M))), (n, none)]) (D' := [((n + 1), some (oPth (l.take M))), (n, none), (n, some (oPth ([] : List Pth)))]) rfl rfl rfl (r_appendL (c := cPth) (l' := (l.take M)) rfl rfl rfl rfl rfl rfl rfl rfl rfl rfl (by decide) get_here (get_there (by omega) hj) (by rw [show ([] : List Pth).length = 0 from rfl]) (by omega) (by rw [hl]; omega) (by rw [List.nil_append, List.drop_zero]) (by omega) (of_decide_eq_true (by kernel_rfl)) (by omega)) (by omega) rfl ?_
  refine OA.p (some 2) (.slice (some ⟨(n + 1), 0, none⟩) M 0) rfl rfl rfl rfl ?_
  refine OA.nil ?_
  intro _
  refine RA.ret env_ok ?_
  refine ⟨.inr rfl, [(.slice (some ⟨(n + 1), 0, none⟩) M 0)], (resL_cons rfl resL_nil), [((n + 1), some (oPth (l.take M)))], (Less.of (fac (mm (fun _ => get_here) (fun _ => get_here)) fan) (gone_of (by simp only [goneP, memP, List.cons_append, List.nil_append, true_or, or_true, true_and, and_true, or_false] <;> omega))), ⟨(n + 1), by omega, by omega, rfl, rfl⟩⟩
theorem pClo_n {n : Nat} {σ : Store} (hd : Dom n σ)    : CQ Try.prog noDen 93 [(.slice none 0 0)] n σ (fun v n' d => v = .slice none 0 0 ∧ n' = n ∧ d = []) := by
 refine CQ.body (E := env) env_ok hd rfl rfl (by show _ ≤ _; exact of_decide_eq_true (by kernel_rfl)) ?_
 refine RA.seq hd ?_
 refine RA.region env_ok ?_
 refine OA.p (some 2) (.slice none 0 0) rfl rfl rfl rfl ?_
 refine OA.nil ?_
 intro _
 refine RA.seq hd ?_
 refine RA.seq hd ?_
 refine RA.region env_ok ?_
 refine OA.p (some 3) (.slice none 0 0) rfl rfl rfl rfl ?_
 refine OA.p (some 4) (.bool true) rfl rfl rfl rfl ?_
 refine OA.nil ?_
 intro _
 refine RA.condT rfl ?_
 refine RA.seq hd ?_
 refine RA.region env_ok ?_
 refine OA.p (some 2) (.slice none 0 0) rfl rfl rfl rfl ?_
 refine OA.nil ?_
 intro _
 refine RA.ret env_ok ?_
 refine ⟨.inr rfl, [(.slice none 0 0)], (resL_cons rfl resL_nil), [], (Less.refl _ _ _), ⟨rfl, rfl, rfl⟩⟩
theorem pClo {n : Nat} {σ : Store} (hd : Dom n σ) (j N M : Nat) (l : List Pth) (hl : l.length = N) (hM : M ≤ N) (hN : N ≤ 1000000) (hj : σ j = some (oPth l)) : CQ Try.prog noDen 93 [(.slice (some ⟨j, 0, none⟩) M 2)] n σ (fun v n' d => ∃ i, n ≤ i ∧ i < n' ∧ v = .slice (some ⟨i, 0, none⟩) M 2 ∧ d = [(i, some (oPth (l.take M)))]) :=
  CQ.orNil (pClo_r hd j N M l hl hM hN hj) (fun h => by rw [h, List.take_zero]) (by decide) (pClo_n hd)

theorem pAll {n : Nat} {σ : Store} (hd : Dom n σ) (p jp K : Nat) (f : Int) (l : List Pth) (hl : l.length = K) (hK : K ≤ 1000) (hp : σ p = some ⟨[[(.slice (some ⟨jp, 0, none⟩) K 2), (.int .i64 f)]], 2, 131, true⟩) (hjp : σ jp = some (oPth l))  : CQ Try.prog noDen 60 [(Pt p 0 0)] n σ (fun v n' d => ∃ i, n ≤ i ∧ i < n' ∧ v = .slice (some ⟨i, 0, none⟩) K 2 ∧ d = [(i, some (oPth l))]) := by
 have lhp := hd.lt hp
 have lhjp := hd.lt hjp
 refine CQ.body (E := env) env_ok hd rfl rfl (by show _ ≤ _; exact of_decide_eq_true (by kernel_rfl)) ?_
 refine RA.seq hd ?_
 refine RA.region env_ok ?_
 refine OA.p (some 2) (.slice none 0 0) rfl rfl rfl rfl ?_
 refine OA.nil ?_
 intro _
 refine RA.seq hd ?_
 refine RA.seq hd ?_
 refine RA.region env_ok ?_
 refine OA.p (some 3) (Pt p 0 0) rfl rfl rfl rfl ?_
 refine OA.p (some 4) (.bool false) rfl rfl rfl rfl ?_
 refine OA.nil ?_
 intro _
 refine RA.condF rfl ?_
 refine RA.skip env_ok ?_
 intro _
 refine RA.seq hd ?_
 refine RA.region env_ok ?_
 refine OA.p (some 5) (Pt p 0 0) rfl rfl rfl rfl ?_
 refine OA.p (some 6) (Pt p 0 0) rfl rfl rfl rfl ?_
 refine OA.p (some 7) (Pt p 0 0) rfl rfl rfl rfl ?_
 refine OA.p (some 8) (.slice (some ⟨jp, 0, none⟩) K 2) rfl rfl rfl (r_load1 rfl rfl rfl rfl rfl hp rfl rfl) ?_
 refine OA.call (dst := (some 9)) (all := [(.slice (some ⟨jp, 0, none⟩) K 2)]) rfl rfl rfl rfl rfl rfl rfl rfl (CQ.imp (pClo (hd.up (by omega)) jp K K l hl (by omega) (by omega) hjp) ?_)
 rintro _ n1 _ ⟨jq, hq1, hq2, rfl, rfl⟩ hn1
 refine OA.app1 ?_
 refine OA.p (some 2) (.slice (some ⟨jq, 0, none⟩) K 2) rfl rfl rfl rfl ?_
 refine OA.nil ?_
 intro _
 refine RA.ret env_ok ?_
 refine ⟨.inr rfl, [(.slice (some ⟨jq, 0, none⟩) K 2)], (resL_cons rfl resL_nil), [(jq, some (oPth (l.take K)))], (Less.refl _ _ _), ⟨jq, by omega, by omega, rfl, by rw [List.take_of_length_le (by omega)]⟩⟩

theorem pNew {n : Nat} {σ : Store} (hd : Dom n σ) (a b : BitVec 32)   : CQ Try.prog noDen 50 [(W a), (W b)] n σ (fun v n' d => ∃ q j, n ≤ q ∧ q < n' ∧ n ≤ j ∧ j < n' ∧ q ≠ j ∧ v = .pointer (some ⟨q, 0, some 0⟩) ∧ d = [(q, some ⟨[[.slice (some ⟨j, 0, none⟩) 1 0, .int .i64 0]], 2, 131, true⟩), (j, some (oPth [newP a b]))]) := by
 refine CQ.body (E := env) env_ok hd rfl rfl (by show _ ≤ _; exact of_decide_eq_true (by kernel_rfl)) ?_
 refine RA.seq hd ?_
 refine RA.region env_ok ?_
 refine OA.p (some 4) (.pointer none) rfl rfl rfl rfl ?_
 refine OA.nil ?_
 intro _
 refine RA.seq hd ?_
 refine RA.region env_ok ?_
 refine OA.p (some 5) (W a) rfl rfl rfl rfl ?_
 refine OA.p (some 6) (W b) rfl rfl rfl rfl ?_
 refine OA.callP (dst := (some 7)) (all := [(W a), (W b)]) (v := (.agg ⟨(cPth (newP a b))⟩)) (hd.up (by omega)) rfl rfl rfl rfl rfl rfl rfl rfl (pPNew a b) ?_
 intro n1 hn1
 refine OA.op1 (dst := (some 8)) (v := (.slice (some ⟨n1, 0, none⟩) 1 0)) (n1 := (n1 + 1)) (w := (n1, some ⟨[(xPa21 a b)], 15, 87, true⟩)) rfl rfl rfl (by kernel_rfl) (by omega) ?_
 refine OA.p (some 9) (.agg ⟨[(.slice (some ⟨n1, 0, none⟩) 1 0), (.int .i64 0)]⟩) rfl rfl rfl (by kernel_rfl) ?_
 refine OA.op1 (dst := (some 10)) (v := (.pointer (some ⟨(n1 + 1), 0, some 0⟩))) (n1 := (n1 + 2)) (w := ((n1 + 1), some ⟨[[(.slice (some ⟨n1, 0, none⟩) 1 0), (.int .i64 0)]], 2, 131, true⟩)) rfl rfl rfl rfl (by omega) ?_
 refine OA.p (some 4) (.pointer (some ⟨(n1 + 1), 0, some 0⟩)) rfl rfl rfl rfl ?_
 refine OA.nil ?_
 intro _
 refine RA.ret env_ok ?_
 refine ⟨.inr rfl, [(.pointer (some ⟨(n1 + 1), 0, some 0⟩))], (resL_cons rfl resL_nil), [((n1 + 1), some ⟨[[(.slice (some ⟨n1, 0, none⟩) 1 0), (.int .i64 0)]], 2, 131, true⟩), (n1, some ⟨[(xPa21 a b)], 15, 87, true⟩)], (Less.refl _ _ _), ⟨(n1 + 1), n1, by omega, by omega, by omega, by omega, by omega, rfl, rfl⟩⟩

theorem pIx {σ : Store} (j N : Nat) (fs : List Inn) (hl : fs.length = N) (hN : N ≤ 1000) (x : Int) (hj : σ j = some (oInn fs))  : PS Try.prog noDen 90 [(.slice (some ⟨j, 0, none⟩) N 2), (.int .i64 x)] σ (.int .i64 (idxZ (eqI x) fs)) := by
 refine PS.body (E := env) env_ok rfl rfl (by show _ ≤ _; exact of_decide_eq_true (by kernel_rfl)) (fun n hd => ?_)
 have lhj := hd.lt hj
 refine RA.seq hd ?_
 refine RA.region env_ok ?_
 refine OA.p (some 4) (.int .i64 0) rfl rfl rfl rfl ?_
 refine OA.nil ?_
 intro _
 refine RA.seq hd ?_
 refine RA.seq hd ?_
 refine RA.region env_ok ?_
 refine OA.p (some 6) (.slice (some ⟨j, 0, none⟩) N 2) rfl rfl rfl rfl ?_
 refine OA.p (some 7) (.int .i64 ((N : Nat) : Int)) rfl rfl rfl rfl ?_
 refine OA.p (some 8) (.int .i64 0) rfl rfl rfl rfl ?_
 refine OA.nil ?_
 intro _
 refine RA.block ?_
 refine RA.loop hd (fun kk_ τ n' D => ∃ i : Nat,  kk_ = (N - i) ∧ n ≤ n' ∧ Has τ [(0, (.slice (some ⟨j, 0, none⟩) N 2)), (1, (.int .i64 x)), (7, (.int .i64 ((N : Nat) : Int))), (8, (.int .i64 ((i : Nat) : Int)))] ∧ D = [] ∧ (∀ i ∈ keys D, i < n') ∧ i ≤ N ∧ i ≤ fs.findIdx (eqI x)) ((N - 0)) ⟨0, rfl, by omega, ⟨rfl, rfl, rfl, rfl, trivial⟩, rfl, (fun i hi => by cases hi), ⟨by omega, by omega⟩⟩ ?_
 rintro kn1 τ1 n1 _ ⟨i, rfl, hn1, hHn1, rfl, hKn1, hIn1⟩
 rw [Has.eq hHn1]
 simp only [keys, List.map, List.forall_mem_cons, List.mem_cons, List.not_mem_nil, false_imp_iff, implies_true, and_true] at hKn1
 obtain ⟨hi1, hi2⟩ := hIn1
 refine RA.seq hd ?_
 refine RA.region env_ok ?_
 by_cases hc1 : ((i : Nat) : Int) < ((N : Nat) : Int)
 ·
  refine OA.p (some 9) (.bool true) rfl rfl rfl (Eq.trans (r_bin rfl rfl rfl (b_lss rfl)) (dT hc1)) ?_
  refine OA.nil ?_
  intro _
  refine RA.seq hd ?_
  refine RA.condT rfl ?_
  refine RA.skip env_ok ?_
  intro _
  refine RA.seq hd ?_
  refine RA.block ?_
  refine RA.seq hd ?_
  refine RA.region env_ok ?_
  refine OA.p (some 10) (.int .i64 ((i : Nat) : Int)) rfl rfl rfl rfl ?_
  refine OA.p (some 5) (.int .i64 ((i : Nat) : Int)) rfl rfl rfl rfl ?_
  refine OA.nil ?_
  intro _
  refine RA.seq hd ?_
  refine RA.region env_ok ?_
  refine OA.p (some 11) (.int .i64 x) rfl rfl rfl rfl ?_
  refine OA.p (some 12) (.slice (some ⟨j, 0, none⟩) N 2) rfl rfl rfl rfl ?_
  refine OA.p (some 13) (.int .i64 ((i : Nat) : Int)) rfl rfl rfl rfl ?_
  refine OA.p (some 14) (Pt j i 0) rfl rfl rfl (r_iaS (l := i) rfl rfl rfl rfl rfl rfl (by omega) (by omega) hj rfl (by omega)) ?_
  refine OA.p (some 15) (.int .i64 (fs.getD i dInn).z) rfl rfl rfl (r_loadF (c := cInn) dInn rfl rfl rfl rfl rfl hj (by rw [hl]; omega) rfl) ?_
  by_cases hc2 : x = (fs.getD i dInn).z
  ·
   refine OA.p (some 16) (.bool true) rfl rfl rfl (Eq.trans (r_bin rfl rfl rfl (b_eql rfl)) (dT hc2)) ?_
   refine OA.nil ?_
   intro _
   refine RA.condT rfl ?_
   refine RA.seq hd ?_
   refine RA.region env_ok ?_
   refine OA.p (some 17) (.int .i64 ((i : Nat) : Int)) rfl rfl rfl rfl ?_
   refine OA.p (some 4) (.int .i64 ((i : Nat) : Int)) rfl rfl rfl rfl ?_
   refine OA.nil ?_
   intro _
   refine RA.ret env_ok ?_
   refine ⟨.inr rfl, [(.int .i64 ((i : Nat) : Int))], (resL_cons rfl resL_nil), (by have hf := fi_found (d := dInn) (l := fs) (i := i) (by omega) (show eqI x _ = true from by unfold eqI; rw [decide_eq_true_eq]; exact hc2) hi2; show Value.int _ _ = Value.int _ _; unfold idxZ; rw [if_pos (by omega), hf]), (fun i hi => by cases hi)⟩
  ·
   refine OA.p (some 16) (.bool false) rfl rfl rfl (Eq.trans (r_bin rfl rfl rfl (b_eql rfl)) (dF hc2)) ?_
   refine OA.nil ?_
   intro _
   refine RA.condF rfl ?_
   refine RA.skip env_ok ?_
   intro _
   refine RA.region env_ok ?_
   refine OA.p (some 18) (.int .i64 (((i + 1) : Nat) : Int)) rfl rfl rfl (r_bin rfl rfl rfl (b_add (i64_eq (by omega)))) ?_
   refine OA.p (some 8) (.int .i64 (((i + 1) : Nat) : Int)) rfl rfl rfl rfl ?_
   refine OA.nil ?_
   refine ⟨(N - (i + 1)), by omega, [], (Less.refl _ _ _), (i + 1), rfl, by omega, ⟨rfl, rfl, rfl, rfl, trivial⟩, rfl, (fun i hi => by cases hi), ⟨by omega, fi_step (d := dInn) (by omega) (by unfold eqI; rw [decide_eq_true_eq]; exact hc2) (by omega)⟩⟩
 ·
  refine OA.p (some 9) (.bool false) rfl rfl rfl (Eq.trans (r_bin rfl rfl rfl (b_lss rfl)) (dF hc1)) ?_
  refine OA.nil ?_
  intro _
  refine RA.seq hd ?_
  refine RA.condF rfl ?_
  refine RA.exit env_ok ?_
  intro _
  refine RA.seq hd ?_
  refine RA.region env_ok ?_
  refine OA.p (some 4) (.int .i64 (-1)) rfl rfl rfl rfl ?_
  refine OA.nil ?_
  intro _
  refine RA.ret env_ok ?_
  refine ⟨.inr rfl, [(.int .i64 (-1))], (resL_cons rfl resL_nil), (by have hf := fi_le (p := eqI x) (l := fs); show Value.int _ _ = Value.int _ _; unfold idxZ; rw [if_neg (by omega)]), (fun i hi => by cases hi)⟩
end Go.Proofs.Ytnjknabighmedaa.Vt
