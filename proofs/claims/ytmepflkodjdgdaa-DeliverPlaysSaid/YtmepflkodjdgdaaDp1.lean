/- Dp1: walks through functions of the program, by the calculus; written by a program of this workplace. -/
import Derived.Test.YtmepflkodjdgdaaDl1
import Derived.Test.YtmepflkodjdgdaaVm6
namespace Go.Proofs.Ytmepflkodjdgdaa.Vt
open Go Go.Proofs Go.Proofs.YtmepflkodjdgdaaV
set_option maxRecDepth 100000
set_option linter.unusedVariables false
set_option linter.unusedSimpArgs false
theorem r_appendRO {E : Env} [hP : Plain E] {τ : Tm} {o : Oper} {n : Nat} {σ : Store} {t u : Nat} {α : Type} {c : α → List Value} {cl : Call} {r : List Nat} {ti ui ei : TI} {elem j m off N M c' ty' sz : Nat} {w' : Bool} {l l' : List α} {x : α} (ho : o.op = .call cl) (hc : cl.callee = .builtin .append) (hat : cl.argTypes.toList = t :: u :: r) (ha : evL τ cl.args.toList = some [.slice (some ⟨j, off, none⟩) N 0, .slice (some ⟨m, 0, none⟩) 1 c']) (ht : E.ty t = some ti) (hu : E.ty u = some ui) (hd : ti.d = .slice elem) (hud : ui.d = .slice elem) (he : E.ty elem = some ei) (hsz : ei.size = sz) (hz : 0 < sz) (hj : σ j = some ⟨l.map c, sz, elem, true⟩) (hm : σ m = some ⟨[c x], sz, ty', w'⟩) (hN : l.length = off + N) (hl : l.drop off ++ [x] = l') (hs : N + 1 ≤ 1073741824) (hb : ei.bytes ≤ 65536) (hM : N + 1 = M) :
    (aop E τ o).run n σ = some (.slice (some ⟨n, 0, none⟩) M 0, n + 1, [(n, some ⟨l'.map c, sz, elem, true⟩), (j, none)]) := by
  rw [aop_plain]
  unfold aop0
  subst hM
  subst hl
  have h0 : ((l.map c).drop off).take N = (l.drop off).map c := by
    rw [← List.map_drop, ← List.map_take, List.take_of_length_le (by rw [List.length_drop]; omega)]
  simp only [ho, hc, ha, hat, abuiltin, ht, hu, hd, hud, he, hsz]
  rw [if_neg (by omega), seen1 hm]
  unfold aappend
  dsimp only
  rw [if_neg (show ¬ (2 : Nat) ≤ 0 by decide)]
  simp only [List.isEmpty_cons, Bool.false_eq_true, if_false, T.run, hj, hsz, List.length_singleton, h0, List.length_map, List.length_drop]
  have h1 : (decide (sz ≠ sz) || decide (l.length - off ≠ N) || decide (elem ≠ elem) || !small (N + 1) ei.bytes || !decide (0 < sz)) = false := by
    have : l.length - off = N := by omega
    simp [small, hs, hb, hz, this]
  rw [if_neg (by rw [h1]; simp), if_neg (by decide), if_neg (by simp), if_neg (by omega)]
  have e1 : (l.drop off).map c ++ [c x] = (l.drop off ++ [x]).map c := by rw [List.map_append]; rfl
  rw [e1]
  simp only [newRowT, T.run, List.length_map, List.length_append, List.length_drop, List.length_singleton]
  rw [show l.length - off = N by omega]
def goS (t : Int) : Nat → Nat → List Msg → List Msg → Nat × List Msg × List Msg
  | 0, a, ws, out => (a, ws, out)
  | f + 1, a, ws, out => if ws.findIdx (qq t a) < ws.length then goS t f (u16N (((a : Nat) : Int) + 1)) (ws.eraseIdx (ws.findIdx (qq t a))) (out ++ [ws.getD (ws.findIdx (qq t a)) dMsg]) else (a, ws, out)
theorem goS_stop {t : Int} {f a : Nat} {ws out : List Msg} (h : ¬ ws.findIdx (qq t a) < ws.length) : goS t f a ws out = (a, ws, out) := by
  cases f with
  | zero => rfl
  | succ f => rw [goS, if_neg h]
theorem goS_step {t : Int} {f a : Nat} {ws out : List Msg} {R : Nat × List Msg × List Msg} (h : ws.findIdx (qq t a) < ws.length) (hf : ws.length ≤ f) (hR : goS t f a ws out = R) : ∃ f', f = f' + 1 ∧ goS t f' (u16N (((a : Nat) : Int) + 1)) (ws.eraseIdx (ws.findIdx (qq t a))) (out ++ [ws.getD (ws.findIdx (qq t a)) dMsg]) = R := by
  cases f with
  | zero => omega
  | succ f => rw [goS, if_pos h] at hR; exact ⟨f, rfl, hR⟩
theorem idxT {p : Msg → Bool} {l : List Msg} (h : l.findIdx p < l.length) : idxZ p l = ((l.findIdx p : Nat) : Int) := if_pos h
theorem idxF {p : Msg → Bool} {l : List Msg} (h : ¬ l.findIdx p < l.length) : idxZ p l = -1 := if_neg h
theorem set_z {nx : List Ux} {t a : Nat} (h : t < nx.length) : ((nx.set t (Ux.mk a)).getD t dUx).z = a := by
  rw [List.getD_eq_getElem?_getD, List.getElem?_set_self h]; rfl
theorem set_self {nx : List Ux} {t : Nat} (h : t < nx.length) : nx.set t (Ux.mk (nx.getD t dUx).z) = nx := by
  have e : nx.getD t dUx = nx[t] := by rw [List.getD_eq_getElem?_getD, List.getElem?_eq_getElem h]; rfl
  rw [show Ux.mk (nx.getD t dUx).z = nx[t] from by rw [e], List.set_getElem_self]
theorem r_makeR {E : Env} [hP : Plain E] {τ : Tm} {o : Oper} {n : Nat} {σ : Store} {t : Nat} {x y : Operand} {α : Type} {c : α → List Value} {z : α} {K elem sz : Nat} {ti ei : TI} (ho : o.op = .makeSlice t x y) (hx : args1 τ x = some (.int .i64 ((K : Nat) : Int))) (hy : args1 τ y = some (.int .i64 ((K : Nat) : Int))) (ht : E.ty t = some ti) (hd : ti.d = .slice elem) (he : E.ty elem = some ei) (hsz : ei.size = sz) (h0 : 0 < sz) (hzero : cellsL ei.zero = c z) (hc : (c z).length = sz) (hb : ei.bytes ≤ 65536) (hK : K ≤ 1073741824) :
    (aop E τ o).run n σ = some (.slice (some ⟨n, 0, none⟩) K 0, n + 1, [(n, some ⟨(List.replicate K z).map c, sz, elem, true⟩)]) := by
  rw [aop_plain]
  unfold aop0
  subst hsz
  simp only [ho, ev, hx, hy, ht, hd, he, hzero, Int.toNat_natCast]
  have : (decide (0 ≤ ((K : Nat) : Int)) && decide (((K : Nat) : Int) ≤ ((K : Nat) : Int)) && small K ei.bytes && decide (0 < ei.size) && decide ((c z).length = ei.size)) = true := by simp [small, hK, hb, h0, hc]
  rw [if_pos this]
  simp only [newRowT, T.run, List.length_replicate]
  rw [List.map_replicate]
theorem r_appz {E : Env} [hP : Plain E] {τ : Tm} {o : Oper} {n : Nat} {σ : Store} {t u : Nat} {α : Type} {c : α → List Value} {z : α} {cl : Call} {r : List Nat} {ti ui ei : TI} {kk : IntKind} {elem j N K M sz : Nat} {l : List α} (ho : o.op = .call cl) (hc : cl.callee = .builtin .append) (hat : cl.argTypes.toList = t :: u :: r) (ha : evL τ cl.args.toList = some [.slice (some ⟨j, 0, none⟩) N 0, .int .i64 ((K : Nat) : Int)]) (ht : E.ty t = some ti) (hu : E.ty u = some ui) (hd : ti.d = .slice elem) (hud : ui.d = .int kk) (he : E.ty elem = some ei) (hsz : ei.size = sz) (hz : 0 < sz) (hzero : cellsL ei.zero = c z) (hj : σ j = some ⟨l.map c, sz, elem, true⟩) (hN : l.length = N) (hK : 0 < K) (hs : N + K ≤ 1073741824) (hb : ei.bytes ≤ 65536) (hM : N + K = M) :
    (aop E τ o).run n σ = some (.slice (some ⟨n, 0, none⟩) M 0, n + 1, [(n, some ⟨(l ++ List.replicate K z).map c, sz, elem, true⟩), (j, none)]) := by
  rw [aop_plain]
  unfold aop0
  subst hsz
  subst hM
  subst hN
  simp only [ho, hc, ha, hat, abuiltin, ht, hu, hd, hud, he, Int.toNat_natCast]
  have hb2 : decide (ei.bytes ≤ 65536) = true := decide_eq_true hb
  rw [if_pos (by simp [small, hb, hz]; omega)]
  unfold aappend
  dsimp only
  rw [if_neg (show ¬ (2 : Nat) ≤ 0 by decide)]
  have hx0 : (List.replicate K (cellsL ei.zero)).isEmpty = false := by
    cases K with
    | zero => omega
    | succ K => rfl
  simp only [hx0, Bool.false_eq_true, if_false, T.run, hj, List.drop_zero, List.length_replicate]
  have h1 : (decide (ei.size ≠ ei.size) || decide ((List.take l.length (l.map c)).length ≠ l.length) || decide (elem ≠ elem) || !small (l.length + K) ei.bytes || !decide (0 < ei.size)) = false := by
    simp [small, hs, hb, hz]
  rw [if_neg (by rw [h1]; simp), if_neg (by decide), if_neg (by simp), if_neg (by rw [List.length_map]; omega)]
  have e1 : List.take l.length (l.map c) ++ List.replicate K (cellsL ei.zero) = (l ++ List.replicate K z).map c := by
    rw [List.take_of_length_le (by rw [List.length_map]; exact Nat.le_refl _), List.map_append, List.map_replicate, hzero]
  rw [e1]
  simp only [newRowT, T.run, List.length_map, List.length_append, List.length_replicate]
theorem r_appz0 {E : Env} [hP : Plain E] {τ : Tm} {o : Oper} {n : Nat} {σ : Store} {t u : Nat} {cl : Call} {r : List Nat} {ti ui ei : TI} {kk : IntKind} {elem j N K : Nat} (ho : o.op = .call cl) (hc : cl.callee = .builtin .append) (hat : cl.argTypes.toList = t :: u :: r) (ha : evL τ cl.args.toList = some [.slice (some ⟨j, 0, none⟩) N 0, .int .i64 ((K : Nat) : Int)]) (ht : E.ty t = some ti) (hu : E.ty u = some ui) (hd : ti.d = .slice elem) (hud : ui.d = .int kk) (he : E.ty elem = some ei) (hz : 0 < ei.size) (hb : ei.bytes ≤ 65536) (hK : K = 0) :
    (aop E τ o).run n σ = some (.slice (some ⟨j, 0, none⟩) N 0, n, []) := by
  rw [aop_plain]
  unfold aop0
  subst hK
  simp only [ho, hc, ha, hat, abuiltin, ht, hu, hd, hud, he, Int.toNat_natCast]
  rw [if_pos (by simp [small, hb, hz])]
  unfold aappend
  simp [T.run]
def szs (l : List Msg) : Nat := (l.map fun x => x.data.size).sum
theorem szs_app (a b : List Msg) : szs (a ++ b) = szs a + szs b := by unfold szs; rw [List.map_append, List.sum_append]
theorem szs_snoc {l : List Msg} {i : Nat} (h : i < l.length) : szs (l.take (i + 1)) = szs (l.take i) + (l.getD i dMsg).data.size := by
  rw [← take_snoc (d0 := dMsg) h, szs_app]; simp [szs]
theorem szs_le {l : List Msg} {i : Nat} : szs (l.take i) ≤ szs l := by
  have h := szs_app (l.take i) (l.drop i)
  rw [List.take_append_drop] at h
  omega
theorem szs_all {l : List Msg} {i : Nat} (h : l.length ≤ i) : szs (l.take i) = szs l := by rw [List.take_of_length_le h]
structure In where
  z : Nat
deriving DecidableEq
def dIn : In := ⟨0⟩
abbrev cIn (e : In) : List Value := [(.int .i64 ((e.z : Nat) : Int))]
abbrev oIn (l : List In) : AObj := ⟨l.map cIn, 1, 3, true⟩
def uI (u : Ux) : In := In.mk u.z
theorem uI_get {nx : List Ux} {t : Nat} (h : t < nx.length) : ((nx.map uI).getD t dIn).z = (nx.getD t dUx).z := by
  rw [List.getD_eq_getElem?_getD, List.getD_eq_getElem?_getD, List.getElem?_map, List.getElem?_eq_getElem h]; rfl
theorem uI_set {nx : List Ux} {t a : Nat} : (nx.map uI).set t (In.mk a) = (nx.set t (Ux.mk a)).map uI := by rw [List.map_set]; rfl
theorem goS_more {t : Int} : ∀ {f a : Nat} {ws out : List Msg}, ws.length ≤ f → goS t (f + 1) a ws out = goS t f a ws out
  | 0, a, ws, out, h => by
    have : ws = [] := List.length_eq_zero_iff.1 (by omega)
    subst this
    rfl
  | f + 1, a, ws, out, h => by
    by_cases hc : ws.findIdx (qq t a) < ws.length
    · rw [goS, if_pos hc, goS_more (by rw [List.length_eraseIdx_of_lt hc]; omega)]
      rw [goS, if_pos hc]
    · rw [goS_stop hc, goS_stop hc]
theorem andN_u16 (x : Int) : andN x 65535 = u16N x := by
  unfold andN u16N
  rw [BitVec.toNat_and, BitVec.toNat_ofInt, show (BitVec.ofInt 64 ((65535 : Nat) : Int)).toNat = 2 ^ 16 - 1 from rfl, Nat.and_two_pow_sub_one_eq_mod]
  omega
theorem less_far {a b : Nat} (ha : a < 65536) (hb : b < 65536) : less16 a b ↔ 32768 < sub16 a b := by unfold less16 sub16 u16N; omega
theorem any_fi {p : Msg → Bool} {l : List Msg} : l.any p = true ↔ l.findIdx p < l.length := by rw [← fi_any, decide_eq_true_eq]
theorem take_allN {α : Type} {l : List α} {K : Nat} (h : l.length = K) : ([] : List α) ++ (l.drop 0).take K = l := by rw [List.nil_append, List.drop_zero, List.take_of_length_le (by omega)]
theorem take_drop' {l : List Msg} {off M : Nat} (h : l.length = off + M) : ([] : List Msg) ++ (l.drop off).take M = l.drop off := by rw [List.nil_append, List.take_of_length_le (by rw [List.length_drop]; omega)]
theorem no_any {p : Msg → Bool} {l : List Msg} {i : Nat} (hc : l.any p = false) (hi : i < l.length) (hp : p (l.getD i dMsg) = true) : False := by
  have : l.any p = true := by rw [List.any_eq_true]; exact ⟨_, getD_mem hi, hp⟩
  rw [hc] at this; cases this
/-- the inner loop: what is left of those that wait -/
theorem rest_before {l : List Msg} {i : Nat} (hi : i < l.length) : l.take i ++ [l.getD i dMsg] = l.take (i + 1) := take_snoc hi
theorem rest_after {l : List Msg} {j i : Nat} (hj : j < i) (hi : i < l.length) : (l.eraseIdx j).take (i - 1) ++ [l.getD i dMsg] = (l.eraseIdx j).take i := by
  have h1 : i - 1 < (l.eraseIdx j).length := by rw [List.length_eraseIdx_of_lt (by omega)]; omega
  have h2 : (l.eraseIdx j).getD (i - 1) dMsg = l.getD i dMsg := by
    rw [List.getD_eq_getElem?_getD, List.getD_eq_getElem?_getD, List.getElem?_eraseIdx, if_neg (by omega)]
    congr 2
    omega
  have h3 := take_snoc (d0 := dMsg) h1
  rw [h2, show i - 1 + 1 = i by omega] at h3
  exact h3
theorem rest_at {l : List Msg} {j : Nat} (hj : j < l.length) : l.take j = (l.eraseIdx j).take j := by
  rw [List.eraseIdx_eq_take_drop_succ, List.take_append_of_le_length (by rw [List.length_take]; omega), List.take_take, Nat.min_self]
theorem take_all' {α : Type} {l : List α} {k : Nat} (h : l.length = k) : (l.drop 0).take k = l := by subst h; simp
theorem OLe.self {o : AObj} (h : ∀ e ∈ o.es, e.all oneB = true) : OLe o o := ⟨rfl, rfl, rfl, id, rfl, fun k e' he => ⟨e', he, rfl, fun j v' hv => ⟨v', hv, VLe.refl _, List.all_eq_true.1 (h e' (List.mem_of_getElem? he)) v' (List.mem_of_getElem? hv)⟩⟩⟩
theorem nil_of {α : Type} {l : List α} {k : Nat} (h : l.length = k) (h0 : k = 0) : l = [] := List.length_eq_zero_iff.1 (by omega)
theorem goS_lt {t : Int} : ∀ {f a : Nat} {ws out : List Msg} {R : Nat × List Msg × List Msg}, a < 65536 → goS t f a ws out = R → R.1 < 65536
  | 0, a, ws, out, R, h, hR => by rw [goS] at hR; subst hR; exact h
  | f + 1, a, ws, out, R, h, hR => by
    rw [goS] at hR
    split at hR
    · exact goS_lt (u16N_lt _) hR
    · subst hR; exact h
theorem szs_erase {l : List Msg} {i : Nat} (h : i < l.length) : szs (l.eraseIdx i) + (l.getD i dMsg).data.size = szs l := by
  have e := List.take_append_drop i l
  have e2 : l.getD i dMsg = l[i] := by rw [List.getD_eq_getElem?_getD, List.getElem?_eq_getElem h]; rfl
  rw [List.drop_eq_getElem_cons h] at e
  rw [List.eraseIdx_eq_take_drop_succ, szs_app, e2]
  have e3 := congrArg szs e
  rw [szs_app, show l[i] :: l.drop (i + 1) = [l[i]] ++ l.drop (i + 1) from rfl, szs_app] at e3
  have e4 : szs [l[i]] = l[i].data.size := by simp [szs]
  omega
theorem goS_szs {t : Int} : ∀ {f a : Nat} {ws out : List Msg} {R : Nat × List Msg × List Msg}, goS t f a ws out = R → szs R.2.1 + szs R.2.2 = szs ws + szs out
  | 0, a, ws, out, R, hR => by rw [goS] at hR; subst hR; rfl
  | f + 1, a, ws, out, R, hR => by
    rw [goS] at hR
    split at hR
    · rename_i h
      have h1 := goS_szs hR
      have h2 := szs_erase h
      rw [szs_app] at h1
      have h3 : szs [ws.getD (ws.findIdx (qq t a)) dMsg] = (ws.getD (ws.findIdx (qq t a)) dMsg).data.size := by simp [szs]
      omega
    · subst hR; rfl
abbrev xDp11 (ws2 : List Msg) (t : Nat) (a : Nat) : List Value := [(.int .i64 (ws2.getD (ws2.findIdx (qq ((t : Nat) : Int) a)) dMsg).st), (.int .i64 (ws2.getD (ws2.findIdx (qq ((t : Nat) : Int) a)) dMsg).ssn), (.bool (ws2.getD (ws2.findIdx (qq ((t : Nat) : Int) a)) dMsg).loose), (W (ws2.getD (ws2.findIdx (qq ((t : Nat) : Int) a)) dMsg).proto), (.string (ws2.getD (ws2.findIdx (qq ((t : Nat) : Int) a)) dMsg).data)]
abbrev xDp12 (jn : Nat) (NX : Nat) (n : Nat) (K2 : Nat) (n2 : Nat) (M2 : Nat) : List Value := [(.slice (some ⟨jn, 0, none⟩) NX 0), (.slice (some ⟨n, 0, none⟩) (K2 - 1) 2), (.slice (some ⟨(n2 + 1), 0, none⟩) (M2 + 1) 2)]
abbrev xDp13 (jn : Nat) (NX : Nat) (n : Nat) (K2 : Nat) (n2 : Nat) (M2 : Nat) : List Value := [(.slice (some ⟨jn, 0, none⟩) NX 0), (.slice (some ⟨n, 0, none⟩) K2 2), (.slice (some ⟨(n2 + 1), 0, none⟩) (M2 + 1) 2)]
abbrev xDp14 (jn : Nat) (NX : Nat) (n : Nat) (K2 : Nat) (jo2 : Nat) (M2 : Nat) : List Value := [(.slice (some ⟨jn, 0, none⟩) NX 0), (.slice (some ⟨n, 0, none⟩) K2 2), (.slice (some ⟨jo2, 0, none⟩) M2 2)]
theorem dIdxG2 {σ : Store} (j N : Nat) (l : List Msg) (hl : l.length = N) (hN : N ≤ 1000000) (p : Msg → Bool) (bi bs : Nat) (hj : σ j = some (oMsg l)) (hf : ∀ x ∈ l, PS Try.prog noDen 89 [.agg ⟨cMsg x⟩, (Pt bi 0 0), (Pt bs 0 0)] σ (.bool (p x))) : PS Try.prog noDen 88 [(.slice (some ⟨j, 0, none⟩) N 2), (.func (.func 89) ⟨[]⟩ ⟨[(Pt bi 0 0), (Pt bs 0 0)]⟩)] σ (.int .i64 (idxZ p l)) := by
 refine PS.body (E := env) env_ok rfl rfl (by show _ ≤ _; exact of_decide_eq_true (by kernel_rfl)) (fun n hd => ?_)
 have lhj := hd.lt hj
 refine RA.seq hd ?_
 refine RA.region env_ok ?_
 refine OA.p (some 4) (.int .i64 0) rfl rfl rfl rfl ?_
 refine OA.nil ?_
 intro _
 refine RA.seq hd ?_
 refine RA.seq hd ?_
 refine RA.region env_ok ?_
 refine OA.p (some 6) (.slice (some ⟨j, 0, none⟩) N 2) rfl rfl rfl rfl ?_
 refine OA.p (some 7) (.int .i64 ((N : Nat) : Int)) rfl rfl rfl rfl ?_
 refine OA.p (some 8) (.int .i64 0) rfl rfl rfl rfl ?_
 refine OA.nil ?_
 intro _
 refine RA.block ?_
 refine RA.loop hd (fun kk_ τ n' D => ∃ i : Nat,  kk_ = (N - i) ∧ n ≤ n' ∧ Has τ [(0, (.slice (some ⟨j, 0, none⟩) N 2)), (1, (.func (.func 89) ⟨[]⟩ ⟨[(Pt bi 0 0), (Pt bs 0 0)]⟩)), (7, (.int .i64 ((N : Nat) : Int))), (8, (.int .i64 ((i : Nat) : Int)))] ∧ D = [] ∧ (∀ i ∈ keys D, i < n') ∧ i ≤ N ∧ i ≤ l.findIdx p) ((N - 0)) ⟨0, rfl, by omega, ⟨rfl, rfl, rfl, rfl, trivial⟩, rfl, (fun i hi => by cases hi), ⟨by omega, by omega⟩⟩ ?_
 rintro kn1 τ1 n1 _ ⟨i, rfl, hn1, hHn1, rfl, hKn1, hIn1⟩
 rw [Has.eq hHn1]
 simp only [keys, List.map, List.forall_mem_cons, List.mem_cons, List.not_mem_nil, false_imp_iff, implies_true, and_true] at hKn1
 obtain ⟨hi1, hi2⟩ := hIn1
 refine RA.seq hd ?_
 refine RA.region env_ok ?_
 by_cases hc1 : ((i : Nat) : Int) < ((N : Nat) : Int)
 ·
  refine OA.p (some 9) (.bool true) rfl rfl rfl (Eq.trans (r_bin rfl rfl rfl (b_lss rfl)) (dT hc1)) ?_
  refine OA.nil ?_
  intro _
  refine RA.seq hd ?_
  refine RA.condT rfl ?_
  refine RA.skip env_ok ?_
  intro _
  refine RA.seq hd ?_
  refine RA.block ?_
  refine RA.seq hd ?_
  refine RA.region env_ok ?_
  refine OA.p (some 10) (.int .i64 ((i : Nat) : Int)) rfl rfl rfl rfl ?_
  refine OA.p (some 5) (.int .i64 ((i : Nat) : Int)) rfl rfl rfl rfl ?_
  refine OA.nil ?_
  intro _
  refine RA.seq hd ?_
  refine RA.region env_ok ?_
  refine OA.p (some 11) (.func (.func 89) ⟨[]⟩ ⟨[(Pt bi 0 0), (Pt bs 0 0)]⟩) rfl rfl rfl rfl ?_
  refine OA.p (some 12) (.slice (some ⟨j, 0, none⟩) N 2) rfl rfl rfl rfl ?_
  refine OA.p (some 13) (.int .i64 ((i : Nat) : Int)) rfl rfl rfl rfl ?_
  refine OA.p (some 14) (Pt j i 0) rfl rfl rfl (r_iaS (l := i) rfl rfl rfl rfl rfl rfl (by omega) (by omega) hj rfl (by omega)) ?_
  refine OA.p (some 15) (.agg ⟨(cMsg (l.getD i dMsg))⟩) rfl rfl rfl (r_loadR (c := cMsg) dMsg rfl rfl rfl rfl hj (by rw [hl]; omega) rfl) ?_
  by_cases hc2 : (p (l.getD i dMsg)) = true
  ·
   have hfi := fi_found (d := dMsg) (by omega) hc2 (by omega)
   refine OA.callP (dst := (some 16)) (all := [(.agg ⟨(cMsg (l.getD i dMsg))⟩), (Pt bi 0 0), (Pt bs 0 0)]) (v := (.bool true)) (hd.up (by omega)) rfl rfl rfl rfl rfl rfl rfl rfl (PS.to (hf (l.getD i dMsg) (getD_mem (by omega))) (show (.bool (p (l.getD i dMsg))) = ((.bool true) : Value) from (by first | (rw [hc2]; done) | (rw [hc2]; rfl)))) ?_
   intro n2 hn2
   refine OA.nil ?_
   intro _
   refine RA.condT rfl ?_
   refine RA.seq hd ?_
   refine RA.region env_ok ?_
   refine OA.p (some 17) (.int .i64 ((i : Nat) : Int)) rfl rfl rfl rfl ?_
   refine OA.p (some 4) (.int .i64 ((i : Nat) : Int)) rfl rfl rfl rfl ?_
   refine OA.nil ?_
   intro _
   refine RA.ret env_ok ?_
   refine ⟨.inr rfl, [(.int .i64 ((i : Nat) : Int))], (resL_cons rfl resL_nil), (by show Value.int _ _ = Value.int _ _; unfold idxZ; rw [if_pos (by omega), hfi]), (fun i hi => by cases hi)⟩
  ·
   have hfi := fi_step (d := dMsg) (by omega) hc2 (by omega)
   refine OA.callP (dst := (some 16)) (all := [(.agg ⟨(cMsg (l.getD i dMsg))⟩), (Pt bi 0 0), (Pt bs 0 0)]) (v := (.bool false)) (hd.up (by omega)) rfl rfl rfl rfl rfl rfl rfl rfl (PS.to (hf (l.getD i dMsg) (getD_mem (by omega))) (show (.bool (p (l.getD i dMsg))) = ((.bool false) : Value) from (by first | (rw [eq_false_of_ne_true hc2]; done) | (rw [eq_false_of_ne_true hc2]; rfl)))) ?_
   intro n3 hn3
   refine OA.nil ?_
   intro _
   refine RA.condF rfl ?_
   refine RA.skip env_ok ?_
   intro _
   refine RA.region env_ok ?_
   refine OA.p (some 18) (.int .i64 (((i + 1) : Nat) : Int)) rfl rfl rfl (r_bin rfl rfl rfl (b_add (i64_eq (by omega)))) ?_
   refine OA.p (some 8) (.int .i64 (((i + 1) : Nat) : Int)) rfl rfl rfl rfl ?_
   refine OA.nil ?_
   refine ⟨(N - (i + 1)), by omega, [], (Less.refl _ _ _), (i + 1), rfl, by omega, ⟨rfl, rfl, rfl, rfl, trivial⟩, rfl, (fun i hi => by cases hi), ⟨by omega, by omega⟩⟩
 ·
  refine OA.p (some 9) (.bool false) rfl rfl rfl (Eq.trans (r_bin rfl rfl rfl (b_lss rfl)) (dF hc1)) ?_
  refine OA.nil ?_
  intro _
  refine RA.seq hd ?_
  refine RA.condF rfl ?_
  refine RA.exit env_ok ?_
  intro _
  refine RA.seq hd ?_
  refine RA.region env_ok ?_
  refine OA.p (some 4) (.int .i64 (-1)) rfl rfl rfl rfl ?_
  refine OA.nil ?_
  intro _
  refine RA.ret env_ok ?_
  refine ⟨.inr rfl, [(.int .i64 (-1))], (resL_cons rfl resL_nil), (by show Value.int _ _ = Value.int _ _; unfold idxZ; rw [if_neg (by omega)]), (fun i hi => by cases hi)⟩

theorem dIdxP2 {σ : Store} (j N : Nat) (l : List Msg) (hl : l.length = N) (hN : N ≤ 1000000) (p : Msg → Bool) (bm bn : Nat) (hj : σ j = some (oMsg l)) (hf : ∀ x ∈ l, PS Try.prog noDen 58 [.agg ⟨cMsg x⟩, (Pt bm 0 0), (Pt bn 0 0)] σ (.bool (p x))) : PS Try.prog noDen 88 [(.slice (some ⟨j, 0, none⟩) N 2), (.func (.func 58) ⟨[]⟩ ⟨[(Pt bm 0 0), (Pt bn 0 0)]⟩)] σ (.int .i64 (idxZ p l)) := by
 refine PS.body (E := env) env_ok rfl rfl (by show _ ≤ _; exact of_decide_eq_true (by kernel_rfl)) (fun n hd => ?_)
 have lhj := hd.lt hj
 refine RA.seq hd ?_
 refine RA.region env_ok ?_
 refine OA.p (some 4) (.int .i64 0) rfl rfl rfl rfl ?_
 refine OA.nil ?_
 intro _
 refine RA.seq hd ?_
 refine RA.seq hd ?_
 refine RA.region env_ok ?_
 refine OA.p (some 6) (.slice (some ⟨j, 0, none⟩) N 2) rfl rfl rfl rfl ?_
 refine OA.p (some 7) (.int .i64 ((N : Nat) : Int)) rfl rfl rfl rfl ?_
 refine OA.p (some 8) (.int .i64 0) rfl rfl rfl rfl ?_
 refine OA.nil ?_
 intro _
 refine RA.block ?_
 refine RA.loop hd (fun kk_ τ n' D => ∃ i : Nat,  kk_ = (N - i) ∧ n ≤ n' ∧ Has τ [(0, (.slice (some ⟨j, 0, none⟩) N 2)), (1, (.func (.func 58) ⟨[]⟩ ⟨[(Pt bm 0 0), (Pt bn 0 0)]⟩)), (7, (.int .i64 ((N : Nat) : Int))), (8, (.int .i64 ((i : Nat) : Int)))] ∧ D = [] ∧ (∀ i ∈ keys D, i < n') ∧ i ≤ N ∧ i ≤ l.findIdx p) ((N - 0)) ⟨0, rfl, by omega, ⟨rfl, rfl, rfl, rfl, trivial⟩, rfl, (fun i hi => by cases hi), ⟨by omega, by omega⟩⟩ ?_
 rintro kn1 τ1 n1 _ ⟨i, rfl, hn1, hHn1, rfl, hKn1, hIn1⟩
 rw [Has.eq hHn1]
 simp only [keys, List.map, List.forall_mem_cons, List.mem_cons, List.not_mem_nil, false_imp_iff, implies_true, and_true] at hKn1
 obtain ⟨hi1, hi2⟩ := hIn1
 refine RA.seq hd ?_
 refine RA.region env_ok ?_
 by_cases hc1 : ((i : Nat) : Int) < ((N : Nat) : Int)
 ·
  refine OA.p (some 9) (.bool true) rfl rfl rfl (Eq.trans (r_bin rfl rfl rfl (b_lss rfl)) (dT hc1)) ?_
  refine OA.nil ?_
  intro _
  refine RA.seq hd ?_
  refine RA.condT rfl ?_
  refine RA.skip env_ok ?_
  intro _
  refine RA.seq hd ?_
  refine RA.block ?_
  refine RA.seq hd ?_
  refine RA.region env_ok ?_
  refine OA.p (some 10) (.int .i64 ((i : Nat) : Int)) rfl rfl rfl rfl ?_
  refine OA.p (some 5) (.int .i64 ((i : Nat) : Int)) rfl rfl rfl rfl ?_
  refine OA.nil ?_
  intro _
  refine RA.seq hd ?_
  refine RA.region env_ok ?_
  refine OA.p (some 11) (.func (.func 58) ⟨[]⟩ ⟨[(Pt bm 0 0), (Pt bn 0 0)]⟩) rfl rfl rfl rfl ?_
  refine OA.p (some 12) (.slice (some ⟨j, 0, none⟩) N 2) rfl rfl rfl rfl ?_
  refine OA.p (some 13) (.int .i64 ((i : Nat) : Int)) rfl rfl rfl rfl ?_
  refine OA.p (some 14) (Pt j i 0) rfl rfl rfl (r_iaS (l := i) rfl rfl rfl rfl rfl rfl (by omega) (by omega) hj rfl (by omega)) ?_
  refine OA.p (some 15) (.agg ⟨(cMsg (l.getD i dMsg))⟩) rfl rfl rfl (r_loadR (c := cMsg) dMsg rfl rfl rfl rfl hj (by rw [hl]; omega) rfl) ?_
  by_cases hc2 : (p (l.getD i dMsg)) = true
  ·
   have hfi := fi_found (d := dMsg) (by omega) hc2 (by omega)
   refine OA.callP (dst := (some 16)) (all := [(.agg ⟨(cMsg (l.getD i dMsg))⟩), (Pt bm 0 0), (Pt bn 0 0)]) (v := (.bool true)) (hd.up (by omega)) rfl rfl rfl rfl rfl rfl rfl rfl (PS.to (hf (l.getD i dMsg) (getD_mem (by omega))) (show (.bool (p (l.getD i dMsg))) = ((.bool true) : Value) from (by first | (rw [hc2]; done) | (rw [hc2]; rfl)))) ?_
   intro n2 hn2
   refine OA.nil ?_
   intro _
   refine RA.condT rfl ?_
   refine RA.seq hd ?_
   refine RA.region env_ok ?_
   refine OA.p (some 17) (.int .i64 ((i : Nat) : Int)) rfl rfl rfl rfl ?_
   refine OA.p (some 4) (.int .i64 ((i : Nat) : Int)) rfl rfl rfl rfl ?_
   refine OA.nil ?_
   intro _
   refine RA.ret env_ok ?_
   refine ⟨.inr rfl, [(.int .i64 ((i : Nat) : Int))], (resL_cons rfl resL_nil), (by show Value.int _ _ = Value.int _ _; unfold idxZ; rw [if_pos (by omega), hfi]), (fun i hi => by cases hi)⟩
  ·
   have hfi := fi_step (d := dMsg) (by omega) hc2 (by omega)
   refine OA.callP (dst := (some 16)) (all := [(.agg ⟨(cMsg (l.getD i dMsg))⟩), (Pt bm 0 0), (Pt bn 0 0)]) (v := (.bool false)) (hd.up (by omega)) rfl rfl rfl rfl rfl rfl rfl rfl (PS.to (hf (l.getD i dMsg) (getD_mem (by omega))) (show (.bool (p (l.getD i dMsg))) = ((.bool false) : Value) from (by first | (rw [eq_false_of_ne_true hc2]; done) | (rw [eq_false_of_ne_true hc2]; rfl)))) ?_
   intro n3 hn3
   refine OA.nil ?_
   intro _
   refine RA.condF rfl ?_
   refine RA.skip env_ok ?_
   intro _
   refine RA.region env_ok ?_
   refine OA.p (some 18) (.int .i64 (((i + 1) : Nat) : Int)) rfl rfl rfl (r_bin rfl rfl rfl (b_add (i64_eq (by omega)))) ?_
   refine OA.p (some 8) (.int .i64 (((i + 1) : Nat) : Int)) rfl rfl rfl rfl ?_
   refine OA.nil ?_
   refine ⟨(N - (i + 1)), by omega, [], (Less.refl _ _ _), (i + 1), rfl, by omega, ⟨rfl, rfl, rfl, rfl, trivial⟩, rfl, (fun i hi => by cases hi), ⟨by omega, by omega⟩⟩
 ·
  refine OA.p (some 9) (.bool false) rfl rfl rfl (Eq.trans (r_bin rfl rfl rfl (b_lss rfl)) (dF hc1)) ?_
  refine OA.nil ?_
  intro _
  refine RA.seq hd ?_
  refine RA.condF rfl ?_
  refine RA.exit env_ok ?_
  intro _
  refine RA.seq hd ?_
  refine RA.region env_ok ?_
  refine OA.p (some 4) (.int .i64 (-1)) rfl rfl rfl rfl ?_
  refine OA.nil ?_
  intro _
  refine RA.ret env_ok ?_
  refine ⟨.inr rfl, [(.int .i64 (-1))], (resL_cons rfl resL_nil), (by show Value.int _ _ = Value.int _ _; unfold idxZ; rw [if_neg (by omega)]), (fun i hi => by cases hi)⟩

theorem dCont2 {σ : Store} (j N : Nat) (l : List Msg) (hl : l.length = N) (hN : N ≤ 1000000) (p : Msg → Bool) (bm bn : Nat) (hj : σ j = some (oMsg l)) (hf : ∀ x ∈ l, PS Try.prog noDen 58 [.agg ⟨cMsg x⟩, (Pt bm 0 0), (Pt bn 0 0)] σ (.bool (p x))) : PS Try.prog noDen 57 [(.slice (some ⟨j, 0, none⟩) N 2), (.func (.func 58) ⟨[]⟩ ⟨[(Pt bm 0 0), (Pt bn 0 0)]⟩)] σ (.bool (l.any p)) := by
 refine PS.body (E := env) env_ok rfl rfl (by show _ ≤ _; exact of_decide_eq_true (by kernel_rfl)) (fun n hd => ?_)
 have lhj := hd.lt hj
 refine RA.seq hd ?_
 refine RA.region env_ok ?_
 refine OA.p (some 4) (.bool false) rfl rfl rfl rfl ?_
 refine OA.nil ?_
 intro _
 refine RA.seq hd ?_
 refine RA.region env_ok ?_
 refine OA.p (some 5) (.slice (some ⟨j, 0, none⟩) N 2) rfl rfl rfl rfl ?_
 refine OA.p (some 6) (.func (.func 58) ⟨[]⟩ ⟨[(Pt bm 0 0), (Pt bn 0 0)]⟩) rfl rfl rfl rfl ?_
 refine OA.callP (dst := (some 7)) (all := [(.slice (some ⟨j, 0, none⟩) N 2), (.func (.func 58) ⟨[]⟩ ⟨[(Pt bm 0 0), (Pt bn 0 0)]⟩)]) (v := (.int .i64 (idxZ p l))) (hd.up (by omega)) rfl rfl rfl rfl rfl rfl rfl rfl (dIdxP2 j N l hl hN p bm bn hj hf) ?_
 intro n1 hn1
 refine OA.p (some 8) (.bool (decide (0 ≤ (idxZ p l)))) rfl rfl rfl (r_bin rfl rfl rfl (b_geq rfl)) ?_
 refine OA.p (some 4) (.bool (decide (0 ≤ (idxZ p l)))) rfl rfl rfl rfl ?_
 refine OA.nil ?_
 intro _
 refine RA.ret env_ok ?_
 refine ⟨.inr rfl, [(.bool (decide (0 ≤ (idxZ p l))))], (resL_cons rfl resL_nil), (by show Value.bool _ = Value.bool _; rw [← idxZ_any]), (fun i hi => by cases hi)⟩

theorem dDel2_0 {n : Nat} {σ : Store} (hd : Dom n σ) (j N i : Nat) (l : List Msg) (hl : l.length = N) (hi : i < N) (hN : N ≤ 1000000) (hj : σ j = some (oMsg l))  : CQ Try.prog noDen 90 [(.slice (some ⟨j, 0, none⟩) N 0), (.int .i64 ((i : Nat) : Int)), (.int .i64 (((i + 1) : Nat) : Int))] n σ (fun v n' d => ∃ LL : List Msg, v = .slice (some ⟨j, 0, none⟩) (N - 1) 0 ∧ LL.take (N - 1) = l.eraseIdx i ∧ d = [(j, some (oMsg LL))]) := by
 have lhj := hd.lt hj
 refine CQ.body (E := env) env_ok hd rfl rfl (by show _ ≤ _; exact of_decide_eq_true (by kernel_rfl)) ?_
 refine RA.seq hd ?_
 refine RA.region env_ok ?_
 refine OA.p (some 6) (.slice none 0 0) rfl rfl rfl rfl ?_
 refine OA.nil ?_
 intro _
 refine RA.seq hd ?_
 refine RA.region env_ok ?_
 refine OA.p (some 8) (.slice (some ⟨j, 0, none⟩) N 0) rfl rfl rfl rfl ?_
 refine OA.p (some 9) (.int .i64 ((i : Nat) : Int)) rfl rfl rfl rfl ?_
 refine OA.p (some 10) (.int .i64 (((i + 1) : Nat) : Int)) rfl rfl rfl rfl ?_
 refine OA.p (some 11) (.slice (some ⟨j, 0, none⟩) N 0) rfl rfl rfl rfl ?_
 refine OA.p (some 12) (.int .i64 ((N : Nat) : Int)) rfl rfl rfl rfl ?_
 by_cases hc1 : i + 1 = N
 ·
  refine OA.p (some 13) (.slice (some ⟨j, i, none⟩) 1 1) rfl rfl rfl (r_cut3e (a := i) (b := (i + 1)) (m := N) rfl rfl rfl rfl rfl rfl rfl rfl hj rfl (by omega) (by rw [List.length_map, hl]; omega) (by omega) (by omega)) ?_
  refine OA.nil ?_
  intro _
  refine RA.seq hd ?_
  refine RA.seq hd ?_
  refine RA.region env_ok ?_
  refine OA.p (some 14) (.int .i64 ((i : Nat) : Int)) rfl rfl rfl rfl ?_
  refine OA.p (some 15) (.int .i64 (((i + 1) : Nat) : Int)) rfl rfl rfl rfl ?_
  have hc2 : ¬ (((i : Nat) : Int) = (((i + 1) : Nat) : Int)) := fun hdd => by exfalso; omega
  refine OA.p (some 16) (.bool false) rfl rfl rfl (Eq.trans (r_bin rfl rfl rfl (b_eql rfl)) (dF hc2)) ?_
  refine OA.nil ?_
  intro _
  refine RA.condF rfl ?_
  refine RA.skip env_ok ?_
  intro _
  refine RA.seq hd ?_
  refine RA.region env_ok ?_
  refine OA.p (some 18) (.slice (some ⟨j, 0, none⟩) N 0) rfl rfl rfl rfl ?_
  refine OA.p (some 19) (.int .i64 ((N : Nat) : Int)) rfl rfl rfl rfl ?_
  refine OA.p (some 7) (.int .i64 ((N : Nat) : Int)) rfl rfl rfl rfl ?_
  refine OA.nil ?_
  intro _
  refine RA.seq hd ?_
  refine RA.par (md := [some [], some [], some [j], some [], some [], some [j], none, some []]) env_ok (hd.up (by omega)) (by kernel_rfl) ?_
  refine PQ.pure (dst := (some 20)) (v := (.slice (some ⟨j, 0, none⟩) N 0)) rfl rfl rfl noStore (none_ok _ _) rfl ?_
  refine PQ.pure (dst := (some 21)) (v := (.int .i64 ((i : Nat) : Int))) rfl rfl rfl noStore (none_ok _ _) rfl ?_
  refine PQ.pure (dst := (some 22)) (v := (.slice (some ⟨j, 0, none⟩) i 0)) rfl rfl rfl (app [(j, some (oMsg l))] noStore) (seen_one (V := []) (D := []) (by kernel_rfl) hj) (r_cutG (a := 0) (b := i) rfl rfl (fun _ => rfl) (fun _ => rfl) rfl rfl rfl rfl (bound_int (by omega)) get_here rfl (by omega) (by rw [List.length_map, hl]; omega) (by omega) (by omega)) ?_
  refine PQ.pure (dst := (some 23)) (v := (.slice (some ⟨j, 0, none⟩) N 0)) rfl rfl rfl noStore (none_ok _ _) rfl ?_
  refine PQ.pure (dst := (some 24)) (v := (.int .i64 (((i + 1) : Nat) : Int))) rfl rfl rfl noStore (none_ok _ _) rfl ?_
  refine PQ.pure (dst := (some 25)) (v := (.slice (some ⟨j, (i + 1), none⟩) (N - (i + 1)) 0)) rfl rfl rfl (app [(j, some (oMsg l))] noStore) (seen_one (V := []) (D := []) (by kernel_rfl) hj) (r_cutG (a := (i + 1)) (b := N) rfl rfl (fun _ => rfl) (fun _ => rfl) rfl rfl rfl (bound_int (by omega)) rfl get_here rfl (by omega) (by rw [List.length_map, hl]; omega) (by omega) (by omega)) ?_
  refine PQ.pure (dst := (some 26)) (v := (.slice (some ⟨j, 0, none⟩) i 0)) rfl rfl rfl _ (seen_any (V := []) (D := []) (by kernel_rfl)) (r_appendZ rfl rfl rfl rfl (.inl ⟨_, _, _, rfl, by decide⟩) rfl rfl rfl rfl rfl (by decide) (by omega)) ?_
  refine PQ.pure (dst := (some 0)) (v := (.slice (some ⟨j, 0, none⟩) i 0)) rfl rfl rfl noStore (none_ok _ _) rfl ?_
  refine PQ.done (d := []) (by kernel_rfl) ?_
  intro _
  refine RA.seq hd ?_
  refine RA.region env_ok ?_
  refine OA.p (some 27) (.slice (some ⟨j, 0, none⟩) i 0) rfl rfl rfl rfl ?_
  refine OA.p (some 28) (.slice (some ⟨j, 0, none⟩) i 0) rfl rfl rfl rfl ?_
  refine OA.p (some 29) (.int .i64 ((i : Nat) : Int)) rfl rfl rfl rfl ?_
  refine OA.p (some 30) (.int .i64 ((N : Nat) : Int)) rfl rfl rfl rfl ?_
  refine OA.p (some 31) (.slice (some ⟨j, i, none⟩) 1 0) rfl rfl rfl (r_cutG (a := i) (b := N) rfl rfl (fun _ => rfl) (fun _ => rfl) rfl rfl rfl (bound_int (by omega)) (bound_int (by omega)) hj rfl (by omega) (by rw [List.length_map, hl]; omega) (by omega) (by omega)) ?_
  refine OA.op1 (dst := none) (v := (.tuple #[])) (n1 := n) (w := (j, some (oMsg (l.take i ++ List.replicate 1 dMsg ++ l.drop (i + 1))))) rfl rfl rfl (r_clearR (c := cMsg) (z := dMsg) (l' := (l.take i ++ List.replicate 1 dMsg ++ l.drop (i + 1))) rfl rfl rfl rfl rfl rfl rfl rfl rfl hj (by omega) (by rw [hl]; omega) rfl) (by omega) ?_
  refine OA.nil ?_
  intro _
  refine RA.rebase [(0, (.slice (some ⟨j, 0, none⟩) i 0)), (1, (.int .i64 ((i : Nat) : Int))), (2, (.int .i64 (((i + 1) : Nat) : Int))), (6, (.slice none 0 0)), (7, (.int .i64 ((N : Nat) : Int))), (16, (.bool false))] ⟨rfl, rfl, rfl, rfl, rfl, rfl, trivial⟩ (fun τr1 => ?_)
  refine RA.seq hd ?_
  refine RA.region env_ok ?_
  refine OA.p (some 32) (.slice (some ⟨j, 0, none⟩) i 0) rfl rfl rfl rfl ?_
  refine OA.p (some 6) (.slice (some ⟨j, 0, none⟩) i 0) rfl rfl rfl rfl ?_
  refine OA.nil ?_
  intro _
  refine RA.ret env_ok ?_
  refine ⟨.inr rfl, [(.slice (some ⟨j, 0, none⟩) i 0)], (resL_cons rfl resL_nil), [(j, some (oMsg (l.take i ++ List.replicate 1 dMsg ++ l.drop (i + 1))))], (Less.refl _ _ _), ⟨(l.take i ++ List.replicate 1 dMsg ++ l.drop (i + 1)), congrArg (fun z => Value.slice (some ⟨j, 0, none⟩) z 0) (by omega), del_last hl (by omega), rfl⟩⟩
 ·
  refine OA.op (dst := (some 13)) (v := (.slice (some ⟨n, 0, none⟩) 1 0)) (n1 := (n + 1)) (d1 := []) (D' := []) rfl rfl rfl (r_cut3 (a := i) (b := (i + 1)) (m := N) rfl rfl rfl rfl rfl rfl rfl rfl (by omega) (by omega)) (by omega) rfl ?_
  refine OA.nil ?_
  intro _
  refine RA.seq hd ?_
  refine RA.seq hd ?_
  refine RA.region env_ok ?_
  refine OA.p (some 14) (.int .i64 ((i : Nat) : Int)) rfl rfl rfl rfl ?_
  refine OA.p (some 15) (.int .i64 (((i + 1) : Nat) : Int)) rfl rfl rfl rfl ?_
  have hc3 : ¬ (((i : Nat) : Int) = (((i + 1) : Nat) : Int)) := fun hdd => by exfalso; omega
  refine OA.p (some 16) (.bool false) rfl rfl rfl (Eq.trans (r_bin rfl rfl rfl (b_eql rfl)) (dF hc3)) ?_
  refine OA.nil ?_
  intro _
  refine RA.condF rfl ?_
  refine RA.skip env_ok ?_
  intro _
  refine RA.seq hd ?_
  refine RA.region env_ok ?_
  refine OA.p (some 18) (.slice (some ⟨j, 0, none⟩) N 0) rfl rfl rfl rfl ?_
  refine OA.p (some 19) (.int .i64 ((N : Nat) : Int)) rfl rfl rfl rfl ?_
  refine OA.p (some 7) (.int .i64 ((N : Nat) : Int)) rfl rfl rfl rfl ?_
  refine OA.nil ?_
  intro _
  refine RA.seq hd ?_
  refine RA.par (md := [some [], some [], some [j], some [], some [], some [j], none, some []]) env_ok (hd.up (by omega)) (by kernel_rfl) ?_
  refine PQ.pure (dst := (some 20)) (v := (.slice (some ⟨j, 0, none⟩) N 0)) rfl rfl rfl noStore (none_ok _ _) rfl ?_
  refine PQ.pure (dst := (some 21)) (v := (.int .i64 ((i : Nat) : Int))) rfl rfl rfl noStore (none_ok _ _) rfl ?_
  refine PQ.pure (dst := (some 22)) (v := (.slice (some ⟨j, 0, none⟩) i 0)) rfl rfl rfl (app [(j, some (oMsg l))] noStore) (seen_one (V := []) (D := []) (by kernel_rfl) hj) (r_cutG (a := 0) (b := i) rfl rfl (fun _ => rfl) (fun _ => rfl) rfl rfl rfl rfl (bound_int (by omega)) get_here rfl (by omega) (by rw [List.length_map, hl]; omega) (by omega) (by omega)) ?_
  refine PQ.pure (dst := (some 23)) (v := (.slice (some ⟨j, 0, none⟩) N 0)) rfl rfl rfl noStore (none_ok _ _) rfl ?_
  refine PQ.pure (dst := (some 24)) (v := (.int .i64 (((i + 1) : Nat) : Int))) rfl rfl rfl noStore (none_ok _ _) rfl ?_
  refine PQ.pure (dst := (some 25)) (v := (.slice (some ⟨j, (i + 1), none⟩) (N - (i + 1)) 0)) rfl rfl rfl (app [(j, some (oMsg l))] noStore) (seen_one (V := []) (D := []) (by kernel_rfl) hj) (r_cutG (a := (i + 1)) (b := N) rfl rfl (fun _ => rfl) (fun _ => rfl) rfl rfl rfl (bound_int (by omega)) rfl get_here rfl (by omega) (by rw [List.length_map, hl]; omega) (by omega) (by omega)) ?_
  refine PQ.op (dst := (some 26)) (v := (.slice (some ⟨j, 0, none⟩) (N - 1) 0)) (n1 := (n + 1)) (d1 := [(j, some (oMsg (l.take i ++ (l.drop (i + 1)).take (N - (i + 1)) ++ l.drop (i + (N - (i + 1))))))]) rfl rfl rfl _ (seen_any (V := []) (D := []) (by kernel_rfl)) (r_appendIn (c := cMsg) (l' := (l.take i ++ (l.drop (i + 1)).take (N - (i + 1)) ++ l.drop (i + (N - (i + 1))))) rfl rfl rfl rfl rfl rfl rfl rfl rfl rfl (by decide) hj (by omega) (by rw [hl]; omega) (by rw [hl]; omega) rfl (by omega) (of_decide_eq_true (by kernel_rfl)) (by omega)) (by omega) (kp1 (wr_tight (by kernel_rfl) (by omega))) ?_
  refine PQ.pure (dst := (some 0)) (v := (.slice (some ⟨j, 0, none⟩) (N - 1) 0)) rfl rfl rfl noStore (none_ok _ _) rfl ?_
  refine PQ.done (d := [(j, some (oMsg (l.take i ++ (l.drop (i + 1)).take (N - (i + 1)) ++ l.drop (i + (N - (i + 1))))))]) (by kernel_rfl) ?_
  intro _
  refine RA.seq hd ?_
  refine RA.region env_ok ?_
  refine OA.p (some 27) (.slice (some ⟨j, 0, none⟩) (N - 1) 0) rfl rfl rfl rfl ?_
  refine OA.p (some 28) (.slice (some ⟨j, 0, none⟩) (N - 1) 0) rfl rfl rfl rfl ?_
  refine OA.p (some 29) (.int .i64 (((N - 1) : Nat) : Int)) rfl rfl rfl rfl ?_
  refine OA.p (some 30) (.int .i64 ((N : Nat) : Int)) rfl rfl rfl rfl ?_
  refine OA.p (some 31) (.slice (some ⟨j, (N - 1), none⟩) 1 0) rfl rfl rfl (r_cutG (a := (N - 1)) (b := N) rfl rfl (fun _ => rfl) (fun _ => rfl) rfl rfl rfl (bound_int (by omega)) (bound_int (by omega)) get_here rfl (by omega) (by rw [List.length_map, show (l.take i ++ (l.drop (i + 1)).take (N - (i + 1)) ++ l.drop (i + (N - (i + 1)))).length = N from by simp only [List.length_append, List.length_take, List.length_drop, hl]; omega]; omega) (by omega) (by omega)) ?_
  refine OA.op1 (dst := none) (v := (.tuple #[])) (n1 := (n + 1)) (w := (j, some (oMsg ((l.take i ++ (l.drop (i + 1)).take (N - (i + 1)) ++ l.drop (i + (N - (i + 1)))).take (N - 1) ++ List.replicate 1 dMsg ++ (l.take i ++ (l.drop (i + 1)).take (N - (i + 1)) ++ l.drop (i + (N - (i + 1)))).drop ((N - 1) + 1))))) rfl rfl rfl (r_clearR (c := cMsg) (z := dMsg) (l' := ((l.take i ++ (l.drop (i + 1)).take (N - (i + 1)) ++ l.drop (i + (N - (i + 1)))).take (N - 1) ++ List.replicate 1 dMsg ++ (l.take i ++ (l.drop (i + 1)).take (N - (i + 1)) ++ l.drop (i + (N - (i + 1)))).drop ((N - 1) + 1))) rfl rfl rfl rfl rfl rfl rfl rfl rfl get_here (by omega) (by have hlo := (show (l.take i ++ (l.drop (i + 1)).take (N - (i + 1)) ++ l.drop (i + (N - (i + 1)))).length = N from by simp only [List.length_append, List.length_take, List.length_drop, hl]; omega); omega) rfl) (by omega) ?_
  refine OA.nil ?_
  intro _
  refine RA.rebase [(0, (.slice (some ⟨j, 0, none⟩) (N - 1) 0)), (1, (.int .i64 ((i : Nat) : Int))), (2, (.int .i64 (((i + 1) : Nat) : Int))), (6, (.slice none 0 0)), (7, (.int .i64 ((N : Nat) : Int))), (16, (.bool false))] ⟨rfl, rfl, rfl, rfl, rfl, rfl, trivial⟩ (fun τr2 => ?_)
  refine RA.seq hd ?_
  refine RA.region env_ok ?_
  refine OA.p (some 32) (.slice (some ⟨j, 0, none⟩) (N - 1) 0) rfl rfl rfl rfl ?_
  refine OA.p (some 6) (.slice (some ⟨j, 0, none⟩) (N - 1) 0) rfl rfl rfl rfl ?_
  refine OA.nil ?_
  intro _
  refine RA.ret env_ok ?_
  refine ⟨.inr rfl, [(.slice (some ⟨j, 0, none⟩) (N - 1) 0)], (resL_cons rfl resL_nil), [(j, some (oMsg ((l.take i ++ (l.drop (i + 1)).take (N - (i + 1)) ++ l.drop (i + (N - (i + 1)))).take (N - 1) ++ List.replicate 1 dMsg ++ (l.take i ++ (l.drop (i + 1)).take (N - (i + 1)) ++ l.drop (i + (N - (i + 1)))).drop ((N - 1) + 1))))], (Less.of (fac (mm (fun _ => get_here) (fun _ => get_here)) fan) (gone_of (by simp only [goneP, memP, List.cons_append, List.nil_append, true_or, or_true, true_and, and_true, or_false] <;> omega))), ⟨((l.take i ++ (l.drop (i + 1)).take (N - (i + 1)) ++ l.drop (i + (N - (i + 1)))).take (N - 1) ++ List.replicate 1 dMsg ++ (l.take i ++ (l.drop (i + 1)).take (N - (i + 1)) ++ l.drop (i + (N - (i + 1)))).drop ((N - 1) + 1)), congrArg (fun z => Value.slice (some ⟨j, 0, none⟩) z 0) (by omega), del_mid hl (by omega) rfl rfl, rfl⟩⟩
theorem dDel2_ {n : Nat} {σ : Store} (hd : Dom n σ) (j N i : Nat) (l : List Msg) (hl : l.length = N) (hi : i < N) (hN : N ≤ 1000000) (hj : σ j = some (oMsg l)) : CQ Try.prog noDen 90 [(.slice (some ⟨j, 0, none⟩) N 0), (.int .i64 ((i : Nat) : Int)), (.int .i64 (((i + 1) : Nat) : Int))] n σ (fun v n' d => v = .slice (some ⟨j, 0, none⟩) (N - 1) 0 ∧ d = [(j, some (oMsg (l.eraseIdx i)))]) := by
  refine CQ.less (CQ.shr (dDel2_0 hd j N i l hl hi hN hj) (R := fun v n' d => v = .slice (some ⟨j, 0, none⟩) (N - 1) 0 ∧ ∃ o, d = [(j, some (oMsg (l.eraseIdx i))), (j, some o)]) ?_) ?_
  · rintro v n' d ⟨LL, rfl, h2, rfl⟩
    refine ⟨j, _, N - 1, get_here, rfl, (oMsg LL), ?_⟩
    simp only [shr, ← List.map_take, h2]
  · rintro v n' d ⟨rfl, o, rfl⟩
    exact ⟨_, Less.of (fac (mm (fun _ => get_here) (fun _ => get_here)) fan) (gone_of (by simp only [goneP, memP, true_or, or_true, true_and, and_true])), rfl, rfl⟩
theorem dDel2 {n : Nat} {σ : Store} (hd : Dom n σ) (j N i : Nat) (l : List Msg) (hl : l.length = N) (hi : i < N) (hN : N ≤ 1000000) (hj : σ j = some (oMsg l)) : CQ Try.prog noDen 90 [(.slice (some ⟨j, 0, none⟩) N 2), (.int .i64 ((i : Nat) : Int)), (.int .i64 (((i + 1) : Nat) : Int))] n σ (fun v n' d => v = .slice (some ⟨j, 0, none⟩) (N - 1) 2 ∧ d = [(j, some (oMsg (l.eraseIdx i)))]) := by
  refine CQ.val (CQ.less_args (VLes.cons (vle_has (by omega)) (VLes.refl _)) (dDel2_ hd j N i l hl hi hN hj)) ?_
  rintro v n' d ⟨rfl, rfl⟩
  exact ⟨_, vle_row _ _ _, rfl, rfl⟩

theorem dClone2_r {n : Nat} {σ : Store} (hd : Dom n σ) (j N M : Nat) (l : List Msg) (hl : l.length = N) (hM : M ≤ N) (hN : N ≤ 1000000) (hj : σ j = some (oMsg l))  : CQ Try.prog noDen 60 [(.slice (some ⟨j, 0, none⟩) M 0)] n σ (fun v n' d => ∃ i, n ≤ i ∧ i < n' ∧ v = .slice (some ⟨i, 0, none⟩) M 0 ∧ d = [(i, some (oMsg (l.take M)))]) := by
 have lhj := hd.lt hj
 refine CQ.body (E := env) env_ok hd rfl rfl (by show _ ≤ _; exact of_decide_eq_true (by kernel_rfl)) ?_
 refine RA.seq hd ?_
 refine RA.region env_ok ?_
 refine OA.p (some 2) (.slice none 0 0) rfl rfl rfl rfl ?_
 refine OA.nil ?_
 intro _
 refine RA.seq hd ?_
 refine RA.seq hd ?_
 refine RA.region env_ok ?_
 refine OA.p (some 3) (.slice (some ⟨j, 0, none⟩) M 0) rfl rfl rfl rfl ?_
 refine OA.p (some 4) (.bool false) rfl rfl rfl rfl ?_
 refine OA.nil ?_
 intro _
 refine RA.condF rfl ?_
 refine RA.skip env_ok ?_
 intro _
 refine RA.seq hd ?_
 refine RA.region env_ok ?_
 refine OA.op1 (dst := (some 5)) (v := (.slice (some ⟨n, 0, none⟩) 0 0)) (n1 := (n + 1)) (w := (n, some (oMsg ([] : List Msg)))) rfl rfl rfl (by kernel_rfl) (by omega) ?_
 refine OA.p (some 6) (.slice (some ⟨j, 0, none⟩) M 0) rfl rfl rfl rfl ?_
 by_cases hc1 : M = 0
 ·
  refine OA.p (some 7) (.slice (some ⟨n, 0, none⟩) 0 0) rfl rfl rfl (r_appendZ rfl rfl rfl rfl (.inl ⟨_, _, _, rfl, by decide⟩) rfl rfl rfl rfl rfl (by decide) (by omega)) ?_
  refine OA.p (some 2) (.slice (some ⟨n, 0, none⟩) 0 0) rfl rfl rfl rfl ?_
  refine OA.nil ?_
  intro _
  refine RA.ret env_ok ?_
  refine ⟨.inr rfl, [(.slice (some ⟨n, 0, none⟩) 0 0)], (resL_cons rfl resL_nil), [(n, some (oMsg ([] : List Msg)))], (Less.refl _ _ _), ⟨n, by omega, by omega, by rw [show M = 0 from by omega]; rfl, by rw [show M = 0 from by omega, List.take_zero]⟩⟩
 ·
  refine OA.op (dst := (some 7)) (v := (.slice (some ⟨(n + 1), 0, none⟩) M 0)) (n1 := (n + 2)) (d1 := [((n + 1), some (oMsg (l.take M))), (n, none)]) (D' := [((n + 1), some (oMsg (l.take M))), (n, none), (n, some (oMsg ([] : List Msg)))]) rfl rfl rfl (r_appendL (c := cMsg) (l' := (l.take M)) rfl rfl rfl rfl rfl rfl rfl rfl rfl rfl (by decide) get_here (get_there (by omega) hj) (by rw [show ([] : List Msg).length = 0 from rfl]) (by omega) (by rw [hl]; omega) (by rw [List.nil_append, List.drop_zero]) (by omega) (of_decide_eq_true (by kernel_rfl)) (by omega)) (by omega) rfl ?_
  refine OA.p (some 2) (.slice (some ⟨(n + 1), 0, none⟩) M 0) rfl rfl rfl rfl ?_
  refine OA.nil ?_
  intro _
  refine RA.ret env_ok ?_
  refine ⟨.inr rfl, [(.slice (some ⟨(n + 1), 0, none⟩) M 0)], (resL_cons rfl resL_nil), [((n + 1), some (oMsg (l.take M)))], (Less.of (fac (mm (fun _ => get_here) (fun _ => get_here)) fan) (gone_of (by simp only [goneP, memP, List.cons_append, List.nil_append, true_or, or_true, true_and, and_true, or_false] <;> omega))), ⟨(n + 1), by omega, by omega, rfl, rfl⟩⟩
theorem dClone2_n {n : Nat} {σ : Store} (hd : Dom n σ)    : CQ Try.prog noDen 60 [(.slice none 0 0)] n σ (fun v n' d => v = .slice none 0 0 ∧ n' = n ∧ d = []) := by
 refine CQ.body (E := env) env_ok hd rfl rfl (by show _ ≤ _; exact of_decide_eq_true (by kernel_rfl)) ?_
 refine RA.seq hd ?_
 refine RA.region env_ok ?_
 refine OA.p (some 2) (.slice none 0 0) rfl rfl rfl rfl ?_
 refine OA.nil ?_
 intro _
 refine RA.seq hd ?_
 refine RA.seq hd ?_
 refine RA.region env_ok ?_
 refine OA.p (some 3) (.slice none 0 0) rfl rfl rfl rfl ?_
 refine OA.p (some 4) (.bool true) rfl rfl rfl rfl ?_
 refine OA.nil ?_
 intro _
 refine RA.condT rfl ?_
 refine RA.seq hd ?_
 refine RA.region env_ok ?_
 refine OA.p (some 2) (.slice none 0 0) rfl rfl rfl rfl ?_
 refine OA.nil ?_
 intro _
 refine RA.ret env_ok ?_
 refine ⟨.inr rfl, [(.slice none 0 0)], (resL_cons rfl resL_nil), [], (Less.refl _ _ _), ⟨rfl, rfl, rfl⟩⟩
theorem dClone2 {n : Nat} {σ : Store} (hd : Dom n σ) (j N M : Nat) (l : List Msg) (hl : l.length = N) (hM : M ≤ N) (hN : N ≤ 1000000) (hj : σ j = some (oMsg l)) : CQ Try.prog noDen 60 [(.slice (some ⟨j, 0, none⟩) M 2)] n σ (fun v n' d => ∃ i, n ≤ i ∧ i < n' ∧ v = .slice (some ⟨i, 0, none⟩) M 2 ∧ d = [(i, some (oMsg (l.take M)))]) :=
  CQ.orNil (dClone2_r hd j N M l hl hM hN hj) (fun h => by rw [h, List.take_zero]) (by decide) (dClone2_n hd)

theorem dGo2 {n : Nat} {σ : Store} (hd : Dom n σ) (s jn jw jo t NX K M : Nat) (nx : List Ux) (ws L2 : List Msg) (hnx : nx.length = NX) (hws : ws.length = K) (hL2 : L2.length = M) (ht : t < NX) (hK : K ≤ 1000) (hM : M ≤ 100000) (h1 : s ≠ jn) (h2 : s ≠ jw) (h3 : jn ≠ jw) (h4 : s ≠ jo) (h5 : jn ≠ jo) (h6 : jw ≠ jo) (R : Nat × List Msg × List Msg) (hR : goS ((t : Nat) : Int) K (nx.getD t dUx).z ws L2 = R) (hs : σ s = some ⟨[[(.slice (some ⟨jn, 0, none⟩) NX 0), (.slice (some ⟨jw, 0, none⟩) K 2), (.slice (some ⟨jo, 0, none⟩) M 2)]], 3, 101, true⟩) (hjn : σ jn = some (oUx nx)) (hjw : σ jw = some (oMsg ws)) (hjo : σ jo = some (oMsg L2))  : CQ Try.prog noDen 59 [(Pt s 0 0), (.int .i64 ((t : Nat) : Int))] n σ (fun v n' d => ∃ jw2 jo2, n ≤ jw2 ∧ jw2 < n' ∧ n ≤ jo2 ∧ jo2 < n' ∧ jw2 ≠ jo2 ∧ ∃ K2 M2, R.2.1.length = K2 ∧ R.2.2.length = M2 ∧ K2 + M2 = K + M ∧ v = .tuple #[] ∧ d = [(s, some ⟨[[(.slice (some ⟨jn, 0, none⟩) NX 0), (.slice (some ⟨jw2, 0, none⟩) K2 2), (.slice (some ⟨jo2, 0, none⟩) M2 2)]], 3, 101, true⟩), (jn, some (oUx (nx.set t (Ux.mk R.1)))), (jw2, some (oMsg R.2.1)), (jo2, some (oMsg R.2.2)), (jw, none), (jo, none)]) := by
 have lhs := hd.lt hs
 have lhjn := hd.lt hjn
 have lhjw := hd.lt hjw
 have lhjo := hd.lt hjo
 refine CQ.body (E := env) env_ok hd rfl rfl (by show _ ≤ _; exact of_decide_eq_true (by kernel_rfl)) ?_
 refine RA.reoff (idx := 1) hs hjw (by omega) rfl (cs' := [(.slice (some ⟨jn, 0, none⟩) NX 0), (.slice (some ⟨n, 0, none⟩) K 2), (.slice (some ⟨jo, 0, none⟩) M 2)]) rfl (ob' := (oMsg ws)) (ro0) ?_
 refine RA.reoff (idx := 2) get_here (gt3 (by omega) hjo) (by omega) rfl (cs' := [(.slice (some ⟨jn, 0, none⟩) NX 0), (.slice (some ⟨n, 0, none⟩) K 2), (.slice (some ⟨(n + 1), 0, none⟩) M 2)]) rfl (ob' := (oMsg L2)) (ro0) ?_
 refine RA.seq hd ?_
 refine RA.region env_ok ?_
 refine OA.op1 (dst := (some 2)) (v := (.pointer (some ⟨(n + 2), 0, some 0⟩))) (n1 := (n + 3)) (w := ((n + 2), some ⟨[[(Pt s 0 0)]], 1, 23, true⟩)) rfl rfl rfl rfl (by omega) ?_
 refine OA.op1 (dst := (some 3)) (v := (.pointer (some ⟨(n + 3), 0, some 0⟩))) (n1 := (n + 4)) (w := ((n + 3), some ⟨[[(.int .i64 ((t : Nat) : Int))]], 1, 3, true⟩)) rfl rfl rfl rfl (by omega) ?_
 refine OA.nil ?_
 intro _
 refine RA.block ?_
 refine RA.le (ob := (oUx nx)) (ob' := (oUx nx)) (gt8 (by omega) hjn) (OLe.self (fun e he => by obtain ⟨x, _, rfl⟩ := List.mem_map.1 he; rfl)) ?_
 refine RA.weaken (D' := [(s, some ⟨[[(.slice (some ⟨jn, 0, none⟩) NX 0), (.slice (some ⟨n, 0, none⟩) K 2), (.slice (some ⟨(n + 1), 0, none⟩) M 2)]], 3, 101, true⟩), (jn, some (oUx nx)), (n, some (oMsg ws)), ((n + 1), some (oMsg L2)), ((n + 2), some ⟨[[(Pt s 0 0)]], 1, 23, true⟩), ((n + 3), some ⟨[[(.int .i64 ((t : Nat) : Int))]], 1, 3, true⟩), (jw, none), (jo, none)]) hd (Less.of (fac (mm (fun _ => get_here) (fun _ => (gt3 (by omega) get_here))) (fac (mm (fun _ => (get_there (by omega) get_here)) (fun _ => get_here)) (fac (mm (fun _ => (gt2 (by omega) get_here)) (fun _ => (gt7 (by omega) get_here))) (fac (mm (fun _ => (gt3 (by omega) get_here)) (fun _ => (gt4 (by omega) get_here))) (fac (mm (fun _ => (gt4 (by omega) get_here)) (fun _ => (gt2 (by omega) get_here))) (fac (mm (fun _ => (gt5 (by omega) get_here)) (fun _ => (get_there (by omega) get_here))) (fac (mm (fun _ => (gt6 (by omega) get_here)) (fun _ => (gt8 (by omega) get_here))) (fac (mm (fun _ => (gt7 (by omega) get_here)) (fun _ => (gt5 (by omega) get_here))) fan)))))))) (gone_of (by simp only [goneP, memP, List.cons_append, List.nil_append, true_or, or_true, true_and, and_true, or_false] <;> omega))) ?_
 refine RA.loop hd (fun kk_ τ n' D => (∃ f : Nat, ∃ a : Nat, ∃ K2 : Nat, ∃ ws2 : List Msg, ∃ jo2 : Nat, ∃ M2 : Nat, ∃ L3 : List Msg, kk_ = f ∧ (n + 4) ≤ n' ∧ Has τ [(2, (.pointer (some ⟨(n + 2), 0, some 0⟩))), (3, (.pointer (some ⟨(n + 3), 0, some 0⟩)))] ∧ D = [(s, some ⟨[(xDp14 jn NX n K2 jo2 M2)], 3, 101, true⟩), (jn, some (oUx (nx.set t (Ux.mk a)))), (n, some (oMsg ws2)), (jo2, some (oMsg L3)), ((n + 2), some ⟨[[(Pt s 0 0)]], 1, 23, true⟩), ((n + 3), some ⟨[[(.int .i64 ((t : Nat) : Int))]], 1, 3, true⟩), (jw, none), (jo, none)] ∧ (∀ i ∈ keys D, i < n') ∧ ws2.length = K2 ∧ L3.length = M2 ∧ goS ((t : Nat) : Int) f a ws2 L3 = R ∧ K2 ≤ f ∧ n ≤ jo2 ∧ jo2 ≠ n ∧ jo2 ≠ (n + 2) ∧ jo2 ≠ (n + 3) ∧ K2 + M2 = K + M)) (K) (⟨K, (nx.getD t dUx).z, K, ws, (n + 1), M, L2, rfl, by omega, ⟨rfl, rfl, trivial⟩, (by rw [set_self (by omega)]), (kb8 (by omega)), ⟨hws, hL2, hR, by omega, by omega, by omega, by omega, by omega, by omega⟩⟩) ?_
 rintro kn1 τ1 n1 _ ⟨f, a, K2, ws2, jo2, M2, L3, rfl, hn1, hHn1, rfl, hKn1, hIn1⟩
 rw [Has.eq hHn1]
 have hKn1_0 : s < n1 := hKn1 _ (by simp only [keys, List.map_cons, List.map_nil, List.mem_cons, true_or, or_true])
 have hKn1_1 : jn < n1 := hKn1 _ (by simp only [keys, List.map_cons, List.map_nil, List.mem_cons, true_or, or_true])
 have hKn1_2 : n < n1 := hKn1 _ (by simp only [keys, List.map_cons, List.map_nil, List.mem_cons, true_or, or_true])
 have hKn1_3 : jo2 < n1 := hKn1 _ (by simp only [keys, List.map_cons, List.map_nil, List.mem_cons, true_or, or_true])
 have hKn1_4 : (n + 2) < n1 := hKn1 _ (by simp only [keys, List.map_cons, List.map_nil, List.mem_cons, true_or, or_true])
 have hKn1_5 : (n + 3) < n1 := hKn1 _ (by simp only [keys, List.map_cons, List.map_nil, List.mem_cons, true_or, or_true])
 have hKn1_6 : jw < n1 := hKn1 _ (by simp only [keys, List.map_cons, List.map_nil, List.mem_cons, true_or, or_true])
 have hKn1_7 : jo < n1 := hKn1 _ (by simp only [keys, List.map_cons, List.map_nil, List.mem_cons, true_or, or_true])
 clear hKn1
 obtain ⟨hws2, hL3, hR, hK2, hj2, hj3, hj4, hj5, hKM⟩ := hIn1
 refine RA.block ?_
 refine RA.seq hd ?_
 refine RA.region env_ok ?_
 refine OA.p (some 5) (Pt s 0 0) rfl rfl rfl (r_load1 rfl rfl rfl rfl rfl (gt4 (by omega) get_here) rfl rfl) ?_
 refine OA.p (some 6) (Pt s 0 0) rfl rfl rfl rfl ?_
 refine OA.p (some 7) (Pt s 0 1) rfl rfl rfl rfl ?_
 refine OA.p (some 8) (.slice (some ⟨n, 0, none⟩) K2 2) rfl rfl rfl (r_load1 rfl rfl rfl rfl rfl get_here rfl rfl) ?_
 refine OA.p (some 9) (.func (.func 89) ⟨[]⟩ ⟨[(.pointer (some ⟨(n + 3), 0, some 0⟩)), (.pointer (some ⟨(n + 2), 0, some 0⟩))]⟩) rfl rfl rfl rfl ?_
 by_cases hc1 : ws2.findIdx (qq ((t : Nat) : Int) a) < ws2.length
 ·
  obtain ⟨f', hf', hR'⟩ := goS_step hc1 (by omega) hR
  refine OA.callP (dst := (some 10)) (all := [(.slice (some ⟨n, 0, none⟩) K2 2), (.func (.func 89) ⟨[]⟩ ⟨[(.pointer (some ⟨(n + 3), 0, some 0⟩)), (.pointer (some ⟨(n + 2), 0, some 0⟩))]⟩)]) (v := (.int .i64 (((ws2.findIdx (qq ((t : Nat) : Int) a)) : Nat) : Int))) (hd.of (by omega) (kb8 (by omega))) rfl rfl rfl rfl rfl rfl rfl rfl (PS.to (dIdxG2 n K2 ws2 (by rw [hws2]) (by omega) (qq ((t : Nat) : Int) a) (n + 3) (n + 2) (gt2 (by omega) get_here) (fun x _ => PS.to (dGc x (n + 3) (n + 2) s jn t NX (nx.set t (Ux.mk a)) (by rw [List.length_set]; exact hnx) ht (.slice (some ⟨n, 0, none⟩) K2 2) (.slice (some ⟨jo2, 0, none⟩) M2 2) rfl rfl (gt5 (by omega) get_here) (gt4 (by omega) get_here) get_here (get_there (by omega) get_here)) (by rw [set_z (by omega)]))) (congrArg (Value.int .i64) (idxT hc1))) ?_
  intro n2 hn2
  refine OA.p (some 4) (.int .i64 (((ws2.findIdx (qq ((t : Nat) : Int) a)) : Nat) : Int)) rfl rfl rfl rfl ?_
  refine OA.nil ?_
  intro _
  refine RA.seq hd ?_
  refine RA.seq hd ?_
  refine RA.region env_ok ?_
  refine OA.p (some 11) (.int .i64 (((ws2.findIdx (qq ((t : Nat) : Int) a)) : Nat) : Int)) rfl rfl rfl rfl ?_
  have hc2 : ¬ ((((ws2.findIdx (qq ((t : Nat) : Int) a)) : Nat) : Int) < 0) := fun hdd => by exfalso; omega
  refine OA.p (some 12) (.bool false) rfl rfl rfl (Eq.trans (r_bin rfl rfl rfl (b_lss rfl)) (dF hc2)) ?_
  refine OA.nil ?_
  intro _
  refine RA.condF rfl ?_
  refine RA.skip env_ok ?_
  intro _
  refine RA.seq hd ?_
  refine RA.par (md := [some [(n + 2)], some [(n + 2)], some [], some [], none, some [(n + 2)], some [], some [], none, some [], none, none, some [], none, some [], some [], none]) env_ok (hd.of (by omega) (kb8 (by omega))) (by kernel_rfl) ?_
  refine PQ.pure (dst := (some 13)) (v := (Pt s 0 0)) rfl rfl rfl (app [((n + 2), some ⟨[[(Pt s 0 0)]], 1, 23, true⟩)] noStore) (seen_one (V := []) (D := [(s, some ⟨[(xDp14 jn NX n K2 jo2 M2)], 3, 101, true⟩), (jn, some (oUx (nx.set t (Ux.mk a)))), (n, some (oMsg ws2)), (jo2, some (oMsg L3)), ((n + 2), some ⟨[[(Pt s 0 0)]], 1, 23, true⟩), ((n + 3), some ⟨[[(.int .i64 ((t : Nat) : Int))]], 1, 3, true⟩), (jw, none), (jo, none)]) (by kernel_rfl) (gt4 (by omega) get_here)) (r_load1 rfl rfl rfl rfl rfl get_here rfl rfl) ?_
  refine PQ.pure (dst := (some 14)) (v := (Pt s 0 0)) rfl rfl rfl (app [((n + 2), some ⟨[[(Pt s 0 0)]], 1, 23, true⟩)] noStore) (seen_one (V := []) (D := [(s, some ⟨[(xDp14 jn NX n K2 jo2 M2)], 3, 101, true⟩), (jn, some (oUx (nx.set t (Ux.mk a)))), (n, some (oMsg ws2)), (jo2, some (oMsg L3)), ((n + 2), some ⟨[[(Pt s 0 0)]], 1, 23, true⟩), ((n + 3), some ⟨[[(.int .i64 ((t : Nat) : Int))]], 1, 3, true⟩), (jw, none), (jo, none)]) (by kernel_rfl) (gt4 (by omega) get_here)) (r_load1 rfl rfl rfl rfl rfl get_here rfl rfl) ?_
  refine PQ.pure (dst := (some 15)) (v := (Pt s 0 0)) rfl rfl rfl noStore (none_ok _ _) rfl ?_
  refine PQ.pure (dst := (some 16)) (v := (Pt s 0 2)) rfl rfl rfl noStore (none_ok _ _) rfl ?_
  refine PQ.pure (dst := (some 17)) (v := (.slice (some ⟨jo2, 0, none⟩) M2 2)) rfl rfl rfl _ (seen_any (V := []) (D := [(s, some ⟨[(xDp14 jn NX n K2 jo2 M2)], 3, 101, true⟩), (jn, some (oUx (nx.set t (Ux.mk a)))), (n, some (oMsg ws2)), (jo2, some (oMsg L3)), ((n + 2), some ⟨[[(Pt s 0 0)]], 1, 23, true⟩), ((n + 3), some ⟨[[(.int .i64 ((t : Nat) : Int))]], 1, 3, true⟩), (jw, none), (jo, none)]) (by kernel_rfl)) (r_load1 rfl rfl rfl rfl rfl get_here rfl rfl) ?_
  refine PQ.pure (dst := (some 18)) (v := (Pt s 0 0)) rfl rfl rfl (app [((n + 2), some ⟨[[(Pt s 0 0)]], 1, 23, true⟩)] noStore) (seen_one (V := []) (D := [(s, some ⟨[(xDp14 jn NX n K2 jo2 M2)], 3, 101, true⟩), (jn, some (oUx (nx.set t (Ux.mk a)))), (n, some (oMsg ws2)), (jo2, some (oMsg L3)), ((n + 2), some ⟨[[(Pt s 0 0)]], 1, 23, true⟩), ((n + 3), some ⟨[[(.int .i64 ((t : Nat) : Int))]], 1, 3, true⟩), (jw, none), (jo, none)]) (by kernel_rfl) (gt4 (by omega) get_here)) (r_load1 rfl rfl rfl rfl rfl get_here rfl rfl) ?_
  refine PQ.pure (dst := (some 19)) (v := (Pt s 0 0)) rfl rfl rfl noStore (none_ok _ _) rfl ?_
  refine PQ.pure (dst := (some 20)) (v := (Pt s 0 1)) rfl rfl rfl noStore (none_ok _ _) rfl ?_
  refine PQ.pure (dst := (some 21)) (v := (.slice (some ⟨n, 0, none⟩) K2 2)) rfl rfl rfl _ (seen_any (V := []) (D := [(s, some ⟨[(xDp14 jn NX n K2 jo2 M2)], 3, 101, true⟩), (jn, some (oUx (nx.set t (Ux.mk a)))), (n, some (oMsg ws2)), (jo2, some (oMsg L3)), ((n + 2), some ⟨[[(Pt s 0 0)]], 1, 23, true⟩), ((n + 3), some ⟨[[(.int .i64 ((t : Nat) : Int))]], 1, 3, true⟩), (jw, none), (jo, none)]) (by kernel_rfl)) (r_load1 rfl rfl rfl rfl rfl get_here rfl rfl) ?_
  refine PQ.pure (dst := (some 22)) (v := (.int .i64 (((ws2.findIdx (qq ((t : Nat) : Int) a)) : Nat) : Int))) rfl rfl rfl noStore (none_ok _ _) rfl ?_
  refine PQ.pure (dst := (some 23)) (v := (.pointer (some ⟨n, (ws2.findIdx (qq ((t : Nat) : Int) a)), some 0⟩))) rfl rfl rfl _ (seen_any (V := []) (D := [(s, some ⟨[(xDp14 jn NX n K2 jo2 M2)], 3, 101, true⟩), (jn, some (oUx (nx.set t (Ux.mk a)))), (n, some (oMsg ws2)), (jo2, some (oMsg L3)), ((n + 2), some ⟨[[(Pt s 0 0)]], 1, 23, true⟩), ((n + 3), some ⟨[[(.int .i64 ((t : Nat) : Int))]], 1, 3, true⟩), (jw, none), (jo, none)]) (by kernel_rfl)) (r_iaS (l := (ws2.findIdx (qq ((t : Nat) : Int) a))) rfl rfl rfl rfl rfl rfl (by omega) (by omega) (gt2 (by omega) get_here) rfl (by omega)) ?_
  refine PQ.pure (dst := (some 24)) (v := (.agg ⟨(cMsg (ws2.getD (ws2.findIdx (qq ((t : Nat) : Int) a)) dMsg))⟩)) rfl rfl rfl _ (seen_any (V := []) (D := [(s, some ⟨[(xDp14 jn NX n K2 jo2 M2)], 3, 101, true⟩), (jn, some (oUx (nx.set t (Ux.mk a)))), (n, some (oMsg ws2)), (jo2, some (oMsg L3)), ((n + 2), some ⟨[[(Pt s 0 0)]], 1, 23, true⟩), ((n + 3), some ⟨[[(.int .i64 ((t : Nat) : Int))]], 1, 3, true⟩), (jw, none), (jo, none)]) (by kernel_rfl)) (r_loadR (c := cMsg) dMsg rfl rfl rfl rfl (gt2 (by omega) get_here) (by rw [hws2]; omega) rfl) ?_
  refine PQ.op (dst := (some 25)) (v := (.slice (some ⟨n2, 0, none⟩) 1 0)) (n1 := (n2 + 1)) (d1 := [(n2, some ⟨[(xDp11 ws2 t a)], 5, 29, true⟩)]) rfl rfl rfl noStore (none_ok _ _) (by kernel_rfl) (by omega) (kp1 (wr_new (by omega) (by omega))) ?_
  refine PQ.op (dst := (some 26)) (v := (.slice (some ⟨(n2 + 1), 0, none⟩) (M2 + 1) 2)) (n1 := (n2 + 2)) (d1 := [((n2 + 1), some (oMsg (L3 ++ [(ws2.getD (ws2.findIdx (qq ((t : Nat) : Int) a)) dMsg)]))), (jo2, none)]) rfl rfl rfl _ (seen_any (V := [(n2, some ⟨[(xDp11 ws2 t a)], 5, 29, true⟩)]) (D := [(s, some ⟨[(xDp14 jn NX n K2 jo2 M2)], 3, 101, true⟩), (jn, some (oUx (nx.set t (Ux.mk a)))), (n, some (oMsg ws2)), (jo2, some (oMsg L3)), ((n + 2), some ⟨[[(Pt s 0 0)]], 1, 23, true⟩), ((n + 3), some ⟨[[(.int .i64 ((t : Nat) : Int))]], 1, 3, true⟩), (jw, none), (jo, none)]) (by kernel_rfl)) (r_append2x (c := cMsg) (x := (ws2.getD (ws2.findIdx (qq ((t : Nat) : Int) a)) dMsg)) (l' := (L3 ++ [(ws2.getD (ws2.findIdx (qq ((t : Nat) : Int) a)) dMsg)])) rfl rfl rfl rfl rfl rfl rfl rfl rfl rfl (by decide) (gt4 (by omega) get_here) get_here (by rw [hL3]; omega) (by rw [take_all' (by rw [hL3])]) (by omega) (of_decide_eq_true (by kernel_rfl)) (by omega)) (by omega) (kp2 (wr_new (by omega) (by omega)) (wr_old [0] (by kernel_rfl) (by omega) (by omega) (fac (lo1 rfl (by omega)) fan))) ?_
  refine PQ.pure (dst := (some 27)) (v := (Pt s 0 0)) rfl rfl rfl noStore (none_ok _ _) rfl ?_
  refine PQ.pure (dst := (some 28)) (v := (Pt s 0 2)) rfl rfl rfl noStore (none_ok _ _) rfl ?_
  refine PQ.op (dst := none) (v := (.tuple #[])) (n1 := (n2 + 2)) (d1 := [(s, some ⟨[(xDp13 jn NX n K2 n2 M2)], 3, 101, true⟩)]) rfl rfl rfl _ (seen_any (V := [((n2 + 1), some (oMsg (L3 ++ [(ws2.getD (ws2.findIdx (qq ((t : Nat) : Int) a)) dMsg)]))), (jo2, none), (n2, some ⟨[(xDp11 ws2 t a)], 5, 29, true⟩)]) (D := [(s, some ⟨[(xDp14 jn NX n K2 jo2 M2)], 3, 101, true⟩), (jn, some (oUx (nx.set t (Ux.mk a)))), (n, some (oMsg ws2)), (jo2, some (oMsg L3)), ((n + 2), some ⟨[[(Pt s 0 0)]], 1, 23, true⟩), ((n + 3), some ⟨[[(.int .i64 ((t : Nat) : Int))]], 1, 3, true⟩), (jw, none), (jo, none)]) (by kernel_rfl)) (r_store rfl rfl rfl rfl rfl rfl rfl (gt3 (by omega) get_here) rfl rfl (Nat.le_of_ble_eq_true rfl) rfl) (by omega) (kp1 (wr_tight (by kernel_rfl) (by omega))) ?_
  refine PQ.done (d := [(s, some ⟨[(xDp13 jn NX n K2 n2 M2)], 3, 101, true⟩), ((n2 + 1), some (oMsg (L3 ++ [(ws2.getD (ws2.findIdx (qq ((t : Nat) : Int) a)) dMsg)]))), (jo2, none), (n2, some ⟨[(xDp11 ws2 t a)], 5, 29, true⟩)]) (by kernel_rfl) ?_
  intro _
  refine RA.weaken (D' := [(s, some ⟨[(xDp13 jn NX n K2 n2 M2)], 3, 101, true⟩), ((n2 + 1), some (oMsg (L3 ++ [(ws2.getD (ws2.findIdx (qq ((t : Nat) : Int) a)) dMsg)]))), (jo2, none), (n2, some ⟨[(xDp11 ws2 t a)], 5, 29, true⟩), (jn, some (oUx (nx.set t (Ux.mk a)))), (n, some (oMsg ws2)), ((n + 2), some ⟨[[(Pt s 0 0)]], 1, 23, true⟩), ((n + 3), some ⟨[[(.int .i64 ((t : Nat) : Int))]], 1, 3, true⟩), (jw, none), (jo, none)]) hd (Less.of (fac (mm (fun _ => get_here) (fun _ => get_here)) (fac (mm (fun _ => (get_there (by omega) get_here)) (fun _ => (get_there (by omega) get_here))) (fac (mm (fun _ => (gt2 (by omega) get_here)) (fun _ => (gt2 (by omega) get_here))) (fac (mm (fun _ => (gt3 (by omega) get_here)) (fun _ => (gt3 (by omega) get_here))) (fac (mm (fun _ => (gt4 (by omega) get_here)) (fun _ => (gt5 (by omega) get_here))) (fac (mm (fun _ => (gt5 (by omega) get_here)) (fun _ => (gt6 (by omega) get_here))) (fac (mm (fun _ => (gt6 (by omega) get_here)) (fun _ => (gt8 (by omega) get_here))) (fac (mm (fun _ => (gt7 (by omega) get_here)) (fun _ => (gt9 (by omega) get_here))) (fac (mm (fun _ => (gt8 (by omega) get_here)) (fun _ => (gt10 (by omega) get_here))) (fac (mm (fun _ => (gt9 (by omega) get_here)) (fun _ => (gt11 (by omega) get_here))) fan)))))))))) (gone_of (by simp only [goneP, memP, List.cons_append, List.nil_append, true_or, or_true, true_and, and_true, or_false] <;> omega))) ?_
  refine RA.rebase [(2, (.pointer (some ⟨(n + 2), 0, some 0⟩))), (3, (.pointer (some ⟨(n + 3), 0, some 0⟩))), (4, (.int .i64 (((ws2.findIdx (qq ((t : Nat) : Int) a)) : Nat) : Int))), (12, (.bool false))] ⟨rfl, rfl, rfl, rfl, trivial⟩ (fun τr3 => ?_)
  refine RA.seq hd ?_
  refine RA.par (md := [some [(n + 2)], some [(n + 2)], some [], some [], none, some [], some [], some [], none, some [], some [], none]) env_ok (hd.of (by omega) (kb10 (by omega))) (by kernel_rfl) ?_
  refine PQ.pure (dst := (some 29)) (v := (Pt s 0 0)) rfl rfl rfl (app [((n + 2), some ⟨[[(Pt s 0 0)]], 1, 23, true⟩)] noStore) (seen_one (V := []) (D := [(s, some ⟨[(xDp13 jn NX n K2 n2 M2)], 3, 101, true⟩), ((n2 + 1), some (oMsg (L3 ++ [(ws2.getD (ws2.findIdx (qq ((t : Nat) : Int) a)) dMsg)]))), (jo2, none), (n2, some ⟨[(xDp11 ws2 t a)], 5, 29, true⟩), (jn, some (oUx (nx.set t (Ux.mk a)))), (n, some (oMsg ws2)), ((n + 2), some ⟨[[(Pt s 0 0)]], 1, 23, true⟩), ((n + 3), some ⟨[[(.int .i64 ((t : Nat) : Int))]], 1, 3, true⟩), (jw, none), (jo, none)]) (by kernel_rfl) (gt6 (by omega) get_here)) (r_load1 rfl rfl rfl rfl rfl get_here rfl rfl) ?_
  refine PQ.pure (dst := (some 30)) (v := (Pt s 0 0)) rfl rfl rfl (app [((n + 2), some ⟨[[(Pt s 0 0)]], 1, 23, true⟩)] noStore) (seen_one (V := []) (D := [(s, some ⟨[(xDp13 jn NX n K2 n2 M2)], 3, 101, true⟩), ((n2 + 1), some (oMsg (L3 ++ [(ws2.getD (ws2.findIdx (qq ((t : Nat) : Int) a)) dMsg)]))), (jo2, none), (n2, some ⟨[(xDp11 ws2 t a)], 5, 29, true⟩), (jn, some (oUx (nx.set t (Ux.mk a)))), (n, some (oMsg ws2)), ((n + 2), some ⟨[[(Pt s 0 0)]], 1, 23, true⟩), ((n + 3), some ⟨[[(.int .i64 ((t : Nat) : Int))]], 1, 3, true⟩), (jw, none), (jo, none)]) (by kernel_rfl) (gt6 (by omega) get_here)) (r_load1 rfl rfl rfl rfl rfl get_here rfl rfl) ?_
  refine PQ.pure (dst := (some 31)) (v := (Pt s 0 0)) rfl rfl rfl noStore (none_ok _ _) rfl ?_
  refine PQ.pure (dst := (some 32)) (v := (Pt s 0 1)) rfl rfl rfl noStore (none_ok _ _) rfl ?_
  refine PQ.pure (dst := (some 33)) (v := (.slice (some ⟨n, 0, none⟩) K2 2)) rfl rfl rfl _ (seen_any (V := []) (D := [(s, some ⟨[(xDp13 jn NX n K2 n2 M2)], 3, 101, true⟩), ((n2 + 1), some (oMsg (L3 ++ [(ws2.getD (ws2.findIdx (qq ((t : Nat) : Int) a)) dMsg)]))), (jo2, none), (n2, some ⟨[(xDp11 ws2 t a)], 5, 29, true⟩), (jn, some (oUx (nx.set t (Ux.mk a)))), (n, some (oMsg ws2)), ((n + 2), some ⟨[[(Pt s 0 0)]], 1, 23, true⟩), ((n + 3), some ⟨[[(.int .i64 ((t : Nat) : Int))]], 1, 3, true⟩), (jw, none), (jo, none)]) (by kernel_rfl)) (r_load1 rfl rfl rfl rfl rfl get_here rfl rfl) ?_
  refine PQ.pure (dst := (some 34)) (v := (.int .i64 (((ws2.findIdx (qq ((t : Nat) : Int) a)) : Nat) : Int))) rfl rfl rfl noStore (none_ok _ _) rfl ?_
  refine PQ.pure (dst := (some 35)) (v := (.int .i64 (((ws2.findIdx (qq ((t : Nat) : Int) a)) : Nat) : Int))) rfl rfl rfl noStore (none_ok _ _) rfl ?_
  refine PQ.pure (dst := (some 36)) (v := (.int .i64 ((((ws2.findIdx (qq ((t : Nat) : Int) a)) + 1) : Nat) : Int))) rfl rfl rfl noStore (none_ok _ _) (r_bin rfl rfl rfl (b_add (i64_eq (by omega)))) ?_
  refine PQ.call (dst := (some 37)) (all := [(.slice (some ⟨n, 0, none⟩) K2 2), (.int .i64 (((ws2.findIdx (qq ((t : Nat) : Int) a)) : Nat) : Int)), (.int .i64 ((((ws2.findIdx (qq ((t : Nat) : Int) a)) + 1) : Nat) : Int))]) rfl rfl rfl rfl rfl rfl rfl rfl _ (seen_any (V := []) (D := [(s, some ⟨[(xDp13 jn NX n K2 n2 M2)], 3, 101, true⟩), ((n2 + 1), some (oMsg (L3 ++ [(ws2.getD (ws2.findIdx (qq ((t : Nat) : Int) a)) dMsg)]))), (jo2, none), (n2, some ⟨[(xDp11 ws2 t a)], 5, 29, true⟩), (jn, some (oUx (nx.set t (Ux.mk a)))), (n, some (oMsg ws2)), ((n + 2), some ⟨[[(Pt s 0 0)]], 1, 23, true⟩), ((n + 3), some ⟨[[(.int .i64 ((t : Nat) : Int))]], 1, 3, true⟩), (jw, none), (jo, none)]) (by kernel_rfl)) (CQ.imp (CQ.keys (dDel2 (hd.of (by omega) (kb10 (by omega))) n K2 (ws2.findIdx (qq ((t : Nat) : Int) a)) ws2 (by rw [hws2]) (by omega) (by omega) (gt5 (by omega) get_here))) ?_)
  rintro _ n4 _ ⟨hkn4, ⟨rfl, rfl⟩⟩
  have hn4 := hkn4.1
  refine ⟨hn4, (kp1 (by first | exact wr_new (by omega) (by omega) | exact wr_old [0] (by kernel_rfl) (by omega) (by omega) (fac (lo1 rfl (by omega)) fan))), ?_⟩
  refine PQ.pure (dst := (some 38)) (v := (Pt s 0 0)) rfl rfl rfl noStore (none_ok _ _) rfl ?_
  refine PQ.pure (dst := (some 39)) (v := (Pt s 0 1)) rfl rfl rfl noStore (none_ok _ _) rfl ?_
  refine PQ.op (dst := none) (v := (.tuple #[])) (n1 := n4) (d1 := [(s, some ⟨[(xDp12 jn NX n K2 n2 M2)], 3, 101, true⟩)]) rfl rfl rfl _ (seen_any (V := [(n, some (oMsg (ws2.eraseIdx (ws2.findIdx (qq ((t : Nat) : Int) a)))))]) (D := [(s, some ⟨[(xDp13 jn NX n K2 n2 M2)], 3, 101, true⟩), ((n2 + 1), some (oMsg (L3 ++ [(ws2.getD (ws2.findIdx (qq ((t : Nat) : Int) a)) dMsg)]))), (jo2, none), (n2, some ⟨[(xDp11 ws2 t a)], 5, 29, true⟩), (jn, some (oUx (nx.set t (Ux.mk a)))), (n, some (oMsg ws2)), ((n + 2), some ⟨[[(Pt s 0 0)]], 1, 23, true⟩), ((n + 3), some ⟨[[(.int .i64 ((t : Nat) : Int))]], 1, 3, true⟩), (jw, none), (jo, none)]) (by kernel_rfl)) (r_store rfl rfl rfl rfl rfl rfl rfl (get_there (by omega) get_here) rfl rfl (Nat.le_of_ble_eq_true rfl) rfl) (by omega) (kp1 (wr_tight (by kernel_rfl) (by omega))) ?_
  refine PQ.done (d := [(s, some ⟨[(xDp12 jn NX n K2 n2 M2)], 3, 101, true⟩), (n, some (oMsg (ws2.eraseIdx (ws2.findIdx (qq ((t : Nat) : Int) a)))))]) (by kernel_rfl) ?_
  intro _
  refine RA.weaken (D' := [(s, some ⟨[(xDp12 jn NX n K2 n2 M2)], 3, 101, true⟩), (n, some (oMsg (ws2.eraseIdx (ws2.findIdx (qq ((t : Nat) : Int) a))))), ((n2 + 1), some (oMsg (L3 ++ [(ws2.getD (ws2.findIdx (qq ((t : Nat) : Int) a)) dMsg)]))), (jo2, none), (n2, some ⟨[(xDp11 ws2 t a)], 5, 29, true⟩), (jn, some (oUx (nx.set t (Ux.mk a)))), ((n + 2), some ⟨[[(Pt s 0 0)]], 1, 23, true⟩), ((n + 3), some ⟨[[(.int .i64 ((t : Nat) : Int))]], 1, 3, true⟩), (jw, none), (jo, none)]) hd (Less.of (fac (mm (fun _ => get_here) (fun _ => get_here)) (fac (mm (fun _ => (get_there (by omega) get_here)) (fun _ => (get_there (by omega) get_here))) (fac (mm (fun _ => (gt2 (by omega) get_here)) (fun _ => (gt3 (by omega) get_here))) (fac (mm (fun _ => (gt3 (by omega) get_here)) (fun _ => (gt4 (by omega) get_here))) (fac (mm (fun _ => (gt4 (by omega) get_here)) (fun _ => (gt5 (by omega) get_here))) (fac (mm (fun _ => (gt5 (by omega) get_here)) (fun _ => (gt6 (by omega) get_here))) (fac (mm (fun _ => (gt6 (by omega) get_here)) (fun _ => (gt8 (by omega) get_here))) (fac (mm (fun _ => (gt7 (by omega) get_here)) (fun _ => (gt9 (by omega) get_here))) (fac (mm (fun _ => (gt8 (by omega) get_here)) (fun _ => (gt10 (by omega) get_here))) (fac (mm (fun _ => (gt9 (by omega) get_here)) (fun _ => (gt11 (by omega) get_here))) fan)))))))))) (gone_of (by simp only [goneP, memP, List.cons_append, List.nil_append, true_or, or_true, true_and, and_true, or_false] <;> omega))) ?_
  refine RA.par (md := [some [(n + 2)], some [], some [], none, some [(n + 3)], none, none, some [], none, none]) env_ok (hd.of (by omega) (kb10 (by omega))) (by kernel_rfl) ?_
  refine PQ.pure (dst := (some 40)) (v := (Pt s 0 0)) rfl rfl rfl (app [((n + 2), some ⟨[[(Pt s 0 0)]], 1, 23, true⟩)] noStore) (seen_one (V := []) (D := [(s, some ⟨[(xDp12 jn NX n K2 n2 M2)], 3, 101, true⟩), (n, some (oMsg (ws2.eraseIdx (ws2.findIdx (qq ((t : Nat) : Int) a))))), ((n2 + 1), some (oMsg (L3 ++ [(ws2.getD (ws2.findIdx (qq ((t : Nat) : Int) a)) dMsg)]))), (jo2, none), (n2, some ⟨[(xDp11 ws2 t a)], 5, 29, true⟩), (jn, some (oUx (nx.set t (Ux.mk a)))), ((n + 2), some ⟨[[(Pt s 0 0)]], 1, 23, true⟩), ((n + 3), some ⟨[[(.int .i64 ((t : Nat) : Int))]], 1, 3, true⟩), (jw, none), (jo, none)]) (by kernel_rfl) (gt6 (by omega) get_here)) (r_load1 rfl rfl rfl rfl rfl get_here rfl rfl) ?_
  refine PQ.pure (dst := (some 41)) (v := (Pt s 0 0)) rfl rfl rfl noStore (none_ok _ _) rfl ?_
  refine PQ.pure (dst := (some 42)) (v := (Pt s 0 0)) rfl rfl rfl noStore (none_ok _ _) rfl ?_
  refine PQ.pure (dst := (some 43)) (v := (.slice (some ⟨jn, 0, none⟩) NX 0)) rfl rfl rfl _ (seen_any (V := []) (D := [(s, some ⟨[(xDp12 jn NX n K2 n2 M2)], 3, 101, true⟩), (n, some (oMsg (ws2.eraseIdx (ws2.findIdx (qq ((t : Nat) : Int) a))))), ((n2 + 1), some (oMsg (L3 ++ [(ws2.getD (ws2.findIdx (qq ((t : Nat) : Int) a)) dMsg)]))), (jo2, none), (n2, some ⟨[(xDp11 ws2 t a)], 5, 29, true⟩), (jn, some (oUx (nx.set t (Ux.mk a)))), ((n + 2), some ⟨[[(Pt s 0 0)]], 1, 23, true⟩), ((n + 3), some ⟨[[(.int .i64 ((t : Nat) : Int))]], 1, 3, true⟩), (jw, none), (jo, none)]) (by kernel_rfl)) (r_load1 rfl rfl rfl rfl rfl get_here rfl rfl) ?_
  refine PQ.pure (dst := (some 44)) (v := (.int .i64 ((t : Nat) : Int))) rfl rfl rfl (app [((n + 3), some ⟨[[(.int .i64 ((t : Nat) : Int))]], 1, 3, true⟩)] noStore) (seen_one (V := []) (D := [(s, some ⟨[(xDp12 jn NX n K2 n2 M2)], 3, 101, true⟩), (n, some (oMsg (ws2.eraseIdx (ws2.findIdx (qq ((t : Nat) : Int) a))))), ((n2 + 1), some (oMsg (L3 ++ [(ws2.getD (ws2.findIdx (qq ((t : Nat) : Int) a)) dMsg)]))), (jo2, none), (n2, some ⟨[(xDp11 ws2 t a)], 5, 29, true⟩), (jn, some (oUx (nx.set t (Ux.mk a)))), ((n + 2), some ⟨[[(Pt s 0 0)]], 1, 23, true⟩), ((n + 3), some ⟨[[(.int .i64 ((t : Nat) : Int))]], 1, 3, true⟩), (jw, none), (jo, none)]) (by kernel_rfl) (gt7 (by omega) get_here)) (r_load1 rfl rfl rfl rfl rfl get_here rfl rfl) ?_
  refine PQ.pure (dst := (some 45)) (v := (Pt jn t 0)) rfl rfl rfl _ (seen_any (V := []) (D := [(s, some ⟨[(xDp12 jn NX n K2 n2 M2)], 3, 101, true⟩), (n, some (oMsg (ws2.eraseIdx (ws2.findIdx (qq ((t : Nat) : Int) a))))), ((n2 + 1), some (oMsg (L3 ++ [(ws2.getD (ws2.findIdx (qq ((t : Nat) : Int) a)) dMsg)]))), (jo2, none), (n2, some ⟨[(xDp11 ws2 t a)], 5, 29, true⟩), (jn, some (oUx (nx.set t (Ux.mk a)))), ((n + 2), some ⟨[[(Pt s 0 0)]], 1, 23, true⟩), ((n + 3), some ⟨[[(.int .i64 ((t : Nat) : Int))]], 1, 3, true⟩), (jw, none), (jo, none)]) (by kernel_rfl)) (r_iaS (l := t) rfl rfl rfl rfl rfl rfl (by omega) (by omega) (gt5 (by omega) get_here) rfl (by omega)) ?_
  refine PQ.pure (dst := (some 46)) (v := (.int .u16 ((a : Nat) : Int))) rfl rfl rfl _ (seen_any (V := []) (D := [(s, some ⟨[(xDp12 jn NX n K2 n2 M2)], 3, 101, true⟩), (n, some (oMsg (ws2.eraseIdx (ws2.findIdx (qq ((t : Nat) : Int) a))))), ((n2 + 1), some (oMsg (L3 ++ [(ws2.getD (ws2.findIdx (qq ((t : Nat) : Int) a)) dMsg)]))), (jo2, none), (n2, some ⟨[(xDp11 ws2 t a)], 5, 29, true⟩), (jn, some (oUx (nx.set t (Ux.mk a)))), ((n + 2), some ⟨[[(Pt s 0 0)]], 1, 23, true⟩), ((n + 3), some ⟨[[(.int .i64 ((t : Nat) : Int))]], 1, 3, true⟩), (jw, none), (jo, none)]) (by kernel_rfl)) (Eq.trans (r_loadF (c := cUx) dUx rfl rfl rfl rfl rfl (gt5 (by omega) get_here) (by rw [List.length_set, hnx]; omega) rfl) (by rw [set_z (by omega)])) ?_
  refine PQ.pure (dst := (some 47)) (v := (.int .u16 (((u16N (((a : Nat) : Int) + 1)) : Nat) : Int))) rfl rfl rfl noStore (none_ok _ _) (r_bin rfl rfl rfl (b_add (wrap_u16s _))) ?_
  refine PQ.pure (dst := (some 48)) (v := (Pt jn t 0)) rfl rfl rfl _ (seen_any (V := []) (D := [(s, some ⟨[(xDp12 jn NX n K2 n2 M2)], 3, 101, true⟩), (n, some (oMsg (ws2.eraseIdx (ws2.findIdx (qq ((t : Nat) : Int) a))))), ((n2 + 1), some (oMsg (L3 ++ [(ws2.getD (ws2.findIdx (qq ((t : Nat) : Int) a)) dMsg)]))), (jo2, none), (n2, some ⟨[(xDp11 ws2 t a)], 5, 29, true⟩), (jn, some (oUx (nx.set t (Ux.mk a)))), ((n + 2), some ⟨[[(Pt s 0 0)]], 1, 23, true⟩), ((n + 3), some ⟨[[(.int .i64 ((t : Nat) : Int))]], 1, 3, true⟩), (jw, none), (jo, none)]) (by kernel_rfl)) (r_iaS (l := t) rfl rfl rfl rfl rfl rfl (by omega) (by omega) (gt5 (by omega) get_here) rfl (by omega)) ?_
  refine PQ.op (dst := none) (v := (.tuple #[])) (n1 := n4) (d1 := [(jn, some (oUx ((nx.set t (Ux.mk a)).set t (Ux.mk (u16N (((a : Nat) : Int) + 1))))))]) rfl rfl rfl _ (seen_any (V := []) (D := [(s, some ⟨[(xDp12 jn NX n K2 n2 M2)], 3, 101, true⟩), (n, some (oMsg (ws2.eraseIdx (ws2.findIdx (qq ((t : Nat) : Int) a))))), ((n2 + 1), some (oMsg (L3 ++ [(ws2.getD (ws2.findIdx (qq ((t : Nat) : Int) a)) dMsg)]))), (jo2, none), (n2, some ⟨[(xDp11 ws2 t a)], 5, 29, true⟩), (jn, some (oUx (nx.set t (Ux.mk a)))), ((n + 2), some ⟨[[(Pt s 0 0)]], 1, 23, true⟩), ((n + 3), some ⟨[[(.int .i64 ((t : Nat) : Int))]], 1, 3, true⟩), (jw, none), (jo, none)]) (by kernel_rfl)) (r_storeR (c := cUx) dUx (Ux.mk (u16N (((a : Nat) : Int) + 1))) rfl rfl rfl rfl rfl rfl rfl (gt5 (by omega) get_here) (by rw [List.length_set, hnx]; omega) (Nat.le_of_ble_eq_true rfl) rfl) (by omega) (kp1 (wr_tight (by kernel_rfl) (by omega))) ?_
  refine PQ.done (d := [(jn, some (oUx ((nx.set t (Ux.mk a)).set t (Ux.mk (u16N (((a : Nat) : Int) + 1))))))]) (by kernel_rfl) ?_
  refine ⟨f', by omega, [(s, some ⟨[(xDp12 jn NX n K2 n2 M2)], 3, 101, true⟩), (jn, some (oUx ((nx.set t (Ux.mk a)).set t (Ux.mk (u16N (((a : Nat) : Int) + 1)))))), (n, some (oMsg (ws2.eraseIdx (ws2.findIdx (qq ((t : Nat) : Int) a))))), ((n2 + 1), some (oMsg (L3 ++ [(ws2.getD (ws2.findIdx (qq ((t : Nat) : Int) a)) dMsg)]))), ((n + 2), some ⟨[[(Pt s 0 0)]], 1, 23, true⟩), ((n + 3), some ⟨[[(.int .i64 ((t : Nat) : Int))]], 1, 3, true⟩), (jw, none), (jo, none)], (Less.of (fac (mm (fun _ => get_here) (fun _ => (get_there (by omega) get_here))) (fac (mm (fun _ => (get_there (by omega) get_here)) (fun _ => get_here)) (fac (mm (fun _ => (gt2 (by omega) get_here)) (fun _ => (gt2 (by omega) get_here))) (fac (mm (fun _ => (gt3 (by omega) get_here)) (fun _ => (gt3 (by omega) get_here))) (fac (mm (fun _ => (gt4 (by omega) get_here)) (fun _ => (gt7 (by omega) get_here))) (fac (mm (fun _ => (gt5 (by omega) get_here)) (fun _ => (gt8 (by omega) get_here))) (fac (mm (fun _ => (gt6 (by omega) get_here)) (fun _ => (gt9 (by omega) get_here))) (fac (mm (fun _ => (gt7 (by omega) get_here)) (fun _ => (gt10 (by omega) get_here))) fan)))))))) (gone_of (by simp only [goneP, memP, List.cons_append, List.nil_append, true_or, or_true, true_and, and_true, or_false] <;> omega))), ⟨f', (u16N (((a : Nat) : Int) + 1)), (K2 - 1), (ws2.eraseIdx (ws2.findIdx (qq ((t : Nat) : Int) a))), (n2 + 1), (M2 + 1), (L3 ++ [(ws2.getD (ws2.findIdx (qq ((t : Nat) : Int) a)) dMsg)]), rfl, by omega, ⟨rfl, rfl, trivial⟩, (by rw [List.set_set]), (kb8 (by omega)), ⟨show (ws2.eraseIdx (ws2.findIdx (qq ((t : Nat) : Int) a))).length = K2 - 1 from by rw [List.length_eraseIdx_of_lt (by omega)]; omega, show (L3 ++ [(ws2.getD (ws2.findIdx (qq ((t : Nat) : Int) a)) dMsg)]).length = (M2 + 1) from by simp only [List.length_append, List.length_singleton, List.length_take, List.length_drop]; first | (rw [hL3]; done) | (rw [hL3]; omega), hR', by omega, by omega, by omega, by omega, by omega, by omega⟩⟩⟩
 ·
  rw [goS_stop hc1] at hR
  refine OA.callP (dst := (some 10)) (all := [(.slice (some ⟨n, 0, none⟩) K2 2), (.func (.func 89) ⟨[]⟩ ⟨[(.pointer (some ⟨(n + 3), 0, some 0⟩)), (.pointer (some ⟨(n + 2), 0, some 0⟩))]⟩)]) (v := (.int .i64 (-1))) (hd.of (by omega) (kb8 (by omega))) rfl rfl rfl rfl rfl rfl rfl rfl (PS.to (dIdxG2 n K2 ws2 (by rw [hws2]) (by omega) (qq ((t : Nat) : Int) a) (n + 3) (n + 2) (gt2 (by omega) get_here) (fun x _ => PS.to (dGc x (n + 3) (n + 2) s jn t NX (nx.set t (Ux.mk a)) (by rw [List.length_set]; exact hnx) ht (.slice (some ⟨n, 0, none⟩) K2 2) (.slice (some ⟨jo2, 0, none⟩) M2 2) rfl rfl (gt5 (by omega) get_here) (gt4 (by omega) get_here) get_here (get_there (by omega) get_here)) (by rw [set_z (by omega)]))) (congrArg (Value.int .i64) (idxF hc1))) ?_
  intro n5 hn5
  refine OA.p (some 4) (.int .i64 (-1)) rfl rfl rfl rfl ?_
  refine OA.nil ?_
  intro _
  refine RA.seq hd ?_
  refine RA.seq hd ?_
  refine RA.region env_ok ?_
  refine OA.p (some 11) (.int .i64 (-1)) rfl rfl rfl rfl ?_
  refine OA.p (some 12) (.bool true) rfl rfl rfl (r_bin rfl rfl rfl (b_lss rfl)) ?_
  refine OA.nil ?_
  intro _
  refine RA.condT rfl ?_
  refine RA.ret env_ok ?_
  refine ⟨.inr rfl, [], resL_nil, [(s, some ⟨[(xDp14 jn NX n K2 jo2 M2)], 3, 101, true⟩), (jn, some (oUx (nx.set t (Ux.mk a)))), (n, some (oMsg ws2)), (jo2, some (oMsg L3)), (jw, none), (jo, none)], (Less.of (fac (mm (fun _ => get_here) (fun _ => get_here)) (fac (mm (fun _ => (get_there (by omega) get_here)) (fun _ => (get_there (by omega) get_here))) (fac (mm (fun _ => (gt2 (by omega) get_here)) (fun _ => (gt2 (by omega) get_here))) (fac (mm (fun _ => (gt3 (by omega) get_here)) (fun _ => (gt3 (by omega) get_here))) (fac (mm (fun _ => (gt4 (by omega) get_here)) (fun _ => (gt6 (by omega) get_here))) (fac (mm (fun _ => (gt5 (by omega) get_here)) (fun _ => (gt7 (by omega) get_here))) fan)))))) (gone_of (by simp only [goneP, memP, List.cons_append, List.nil_append, true_or, or_true, true_and, and_true, or_false] <;> omega))), ⟨n, jo2, by omega, by omega, by omega, by omega, by omega, K2, M2, by rw [← hR]; exact hws2, by rw [← hR]; exact hL3, by omega, rfl, by rw [← hR]⟩⟩
end Go.Proofs.Ytmepflkodjdgdaa.Vt
