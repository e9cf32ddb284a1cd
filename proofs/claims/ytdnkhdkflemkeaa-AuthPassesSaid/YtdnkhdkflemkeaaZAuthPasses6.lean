/- Part 6 of the texts that prove AuthPasses: the abstract machine, its calculus, and walks through functions; joined by a program of this workplace. -/
import Derived.Test.YtdnkhdkflemkeaaZAuthPasses5
/- Ap4: walks through functions of the program, by the calculus; written by a program of this workplace. -/
namespace Go.Proofs.Ytdnkhdkflemkeaa.Vt.Cp
open Go Go.Proofs Go.Proofs.YtdnkhdkflemkeaaV
set_option maxRecDepth 100000
set_option linter.unusedVariables false
set_option linter.unusedSimpArgs false
set_option maxHeartbeats 8000000
structure Bo where
  x : Bool
deriving DecidableEq
def dBo : Bo := ⟨false⟩
abbrev cBo (e : Bo) : List Value := [(.bool e.x)]
theorem ole_self {o : AObj} (h : ∀ e ∈ o.es, e.all oneB = true) : OLe o o := ⟨rfl, rfl, rfl, id, rfl, fun k e' he => ⟨e', he, rfl, fun j v' hv => ⟨v', hv, VLe.refl _, List.all_eq_true.1 (h e' (List.mem_of_getElem? he)) v' (List.mem_of_getElem? hv)⟩⟩⟩
theorem gd_one {σ : Store} {c : Chk} (h : gd σ c) : (cChk c).all oneB = true := by
  simp only [List.all_cons, List.all_nil, Bool.and_true, Bool.and_eq_true]
  exact ⟨rfl, rfl, rfl, rfl, rfl, rfl, rfl, rfl, rfl, rfl, rfl, h.hp.one, h.hc.one, h.hg.one, h.hu.one⟩
abbrev xAp41 (ys : List Chk) (i : Nat) : List Value := [(.int .i64 (ys.getD i dChk).typ), (.int .i64 (ys.getD i dChk).flags), (W (ys.getD i dChk).tsn), (.int .i64 (ys.getD i dChk).stream), (.int .i64 (ys.getD i dChk).ssn), (W (ys.getD i dChk).proto), (.string (ys.getD i dChk).data), (W (ys.getD i dChk).tag), (W (ys.getD i dChk).rwnd), (.int .i64 (ys.getD i dChk).outs), (.int .i64 (ys.getD i dChk).ins), (ys.getD i dChk).pv, (ys.getD i dChk).cv, (ys.getD i dChk).gv, (ys.getD i dChk).dv]
abbrev xAp43 : List Value := [(.int .i64 0), (.int .i64 0), (.int .u32 0), (.int .i64 0), (.int .i64 0), (.int .u32 0), (.string ByteArray.empty), (.int .u32 0), (.int .u32 0), (.int .i64 0), (.int .i64 0), (.slice none 0 0), (.slice none 0 0), (.slice none 0 0), (.slice none 0 0)]
theorem sPassN {n : Nat} {σ : Store} (hd : Dom n σ) (k : ByteArray) (hk : k.size ≤ 40) (j N : Nat) (xs : List Chk) (hl : xs.length = N) (hN : N ≤ 6) (hx : ∀ c ∈ xs, gd σ c) (hj : σ j = some (oChk xs)) (hp : passG k false xs = []) : CQ Try.prog noDen 35 [(.string k), (.slice (some ⟨j, 0, none⟩) N 0)] n σ (fun v n' d => v = .slice none 0 0 ∧ d = []) := by
  refine CQ.imp (sPass hd k hk j N xs hl hN hx hj) ?_
  rintro v n' d (⟨_, h1, h2⟩ | ⟨h, _⟩)
  · exact ⟨h1, h2⟩
  · exact absurd hp h
theorem sPassR {n : Nat} {σ : Store} (hd : Dom n σ) (k : ByteArray) (hk : k.size ≤ 40) (j N : Nat) (xs : List Chk) (hl : xs.length = N) (hN : N ≤ 6) (hx : ∀ c ∈ xs, gd σ c) (hj : σ j = some (oChk xs)) (hp : ¬ passG k false xs = []) : CQ Try.prog noDen 35 [(.string k), (.slice (some ⟨j, 0, none⟩) N 0)] n σ (fun v n' d => ∃ i, n ≤ i ∧ i < n' ∧ v = .slice (some ⟨i, 0, none⟩) (passG k false xs).length 0 ∧ d = [(i, some (oChk (passG k false xs)))]) := by
  refine CQ.imp (sPass hd k hk j N xs hl hN hx hj) ?_
  rintro v n' d (⟨h, _⟩ | ⟨_, h⟩)
  · exact absurd h hp
  · exact h
theorem lawPasses {n : Nat} {σ : Store} (hd : Dom n σ) (hn0 : 0 < n) (key : ByteArray) (v : Value) (l : List Chk) (hv : RowP σ 54 15 v (l.map cChk)) (hin0 : ∀ c ∈ l, okIn σ c) (rv : Value) (rs : List Bo) (hrv : RowP σ 4 1 rv (rs.map cBo)) : CQ Try.prog noDen 12 [(.string key), v, rv] n σ (fun v n' d => v = .bool true) := by
 have hk : (key.extract 0 (min key.size 40)).size ≤ 40 := by rw [ByteArray.size_extract]; omega
 have lrv := hrv.lt hd hn0
 refine CQ.body (E := env) env_ok hd rfl rfl (by show _ ≤ _; exact of_decide_eq_true (by kernel_rfl)) ?_
 refine RA.sR hd env_ok <| OA.ps [(6, yF)] rfl <| OA.nil fun _ => RA.seq hd <| RA.par (md := [some [], some [], some [], some [], some [], some [], none, some [], some []]) env_ok (hd.up (by omega)) (by kernel_rfl) <| PQ.ps [(14, (.string key)), (15, (.string key)), (16, (.int .i64 ((key.size : Nat) : Int)))] rfl <| pP 17 (.int .i64 (((min key.size 40) : Nat) : Int)) rfl (r_min (a := key.size) (b := 40) rfl rfl rfl) <| pP 18 (.string (key.extract 0 (min key.size 40))) rfl (r_cut (a := 0) (b := (min key.size 40)) rfl rfl (fun _ => rfl) (fun _ => rfl) rfl rfl rfl bound_nat (by omega) (by omega) rfl) <| PQ.ps [(19, v)] rfl ?_
 refine PQ.call (dst := (some 20)) (all := [v]) rfl rfl rfl rfl rfl rfl rfl rfl _ (sA (V := []) (by kernel_rfl) (by kernel_rfl)) (CQ.imp (CQ.keys (lCutAll (hd.up (by omega)) hn0 v l hv hin0)) ?_)
 rintro _ n1 ddn1 ⟨hkn1, ⟨j, N, xs, rfl, hjan1, hjbn1, hl, hN, hxbn1, hkbn1⟩⟩
 have hn1 := hkn1.1
 refine ⟨hn1, fun x_ hx_ => wr_new (hkbn1 x_ hx_).1 (hkbn1 x_ hx_).2, ?_⟩
 refine PQ.ps [(7, (.string (key.extract 0 (min key.size 40)))), (8, (.slice (some ⟨j, 0, none⟩) N 0))] rfl <| PQ.done (d := ddn1) (by simp [selD, allB, List.getD]) fun _ => ?_
 refine RA.restart (b' := n1) ?_
 rw [List.append_nil]
 have hs0 : Sub σ (app ddn1 σ) := sub_app hd hkbn1
 have hd1 : Dom n1 (app ddn1 σ) := Dom.of hd (by omega) (fun q hq => (hkbn1 q hq).2)
 have hrv1 := hrv.mono hs0
 have hjj := hjbn1
 have hx := hxbn1
 obtain ⟨σ, hσ1⟩ : ∃ s, app ddn1 σ = s := ⟨_, rfl⟩
 rw [hσ1] at hd1 hjj hx hrv1 ⊢
 have hj := hjj
 have hd0 := hd
 have hd := hd1
 have lhj := hd.lt hj
 refine RA.sR hd env_ok <| o1 (some 21) (.slice (some ⟨n1, 0, none⟩) 0 0) (n1 + 1) (n1, some (oChk ([] : List Chk))) (by kernel_rfl) <| OA.ps [(9, (.slice (some ⟨n1, 0, none⟩) 0 0)), (10, yF)] rfl <| OA.nil fun _ => RA.seq hd <| RA.sR hd env_ok <| OA.ps [(22, (.slice (some ⟨j, 0, none⟩) N 0)), (23, (.int .i64 ((N : Nat) : Int)))] rfl <| oP 24 (.int .i64 (((N : Nat) : Int) - 1)) rfl (r_bin rfl rfl rfl (b_sub (by rw [i64_of (by omega) (by omega)] <;> omega))) <| OA.ps [(11, (.int .i64 (((N : Nat) : Int) - 1)))] rfl <| OA.nil fun _ => RA.block ?_
 refine RA.le (ob := (oChk xs)) (ob' := (oChk xs)) (get_there (by omega) hj) (ole_self (fun e he => by obtain ⟨x, hx_, rfl⟩ := List.mem_map.1 he; exact gd_one (hx x hx_))) ?_
 show RA _ _ _ _ _ _ _ _ [(j, some (oChk xs)), (n1, some (oChk ([] : List Chk)))] _
 refine RA.loop hd (fun kk_ τ n' D => (∃ m : Nat, ∃ ys : List Chk, kk_ = (1 * m) ∧ (n1 + 1) ≤ n' ∧ Has τ [(2, rv), (7, (.string (key.extract 0 (min key.size 40)))), (8, (.slice (some ⟨j, 0, none⟩) N 0)), (9, (.slice (some ⟨n1, 0, none⟩) 0 0)), (10, (.bool false)), (11, (.int .i64 (((m : Nat) : Int) - 1)))] ∧ D = [(j, some (oChk ys)), (n1, some (oChk ([] : List Chk)))] ∧ (∀ i ∈ keys D, i < n') ∧ m ≤ N ∧ ys.length = N ∧ ∀ c ∈ ys, gd σ c)) ((1 * N)) (⟨N, xs, rfl, by omega, ⟨rfl, rfl, rfl, rfl, rfl, rfl, trivial⟩, rfl, (kb2 (by omega)), ⟨by omega, hl, fun c hc => hx c hc⟩⟩) ?_
 rintro kn2 τ2 n2 _ ⟨m, ys, rfl, hn2, hHn2, rfl, hKn2, hIn2⟩
 rw [Has.eq hHn2]
 have hKn2_0 := kk0 hKn2
 have hKn2_1 := kk1 hKn2
 clear hKn2
 obtain ⟨hmN, hyl, hy⟩ := hIn2
 refine RA.seq hd <| RA.sR hd env_ok <| OA.ps [(25, (.int .i64 (((m : Nat) : Int) - 1)))] rfl ?_
 by_cases hc1 : 0 ≤ (((m : Nat) : Int) - 1)
 ·
  refine oP 26 yT rfl (Eq.trans (r_bin rfl rfl rfl (b_geq rfl)) (Go.Proofs.YtdnkhdkflemkeaaV.dT hc1)) <| OA.nil fun _ => RA.condT rfl <| RA.skip env_ok ?_
  intro _
  refine RA.seq hd <| RA.block <| RA.sR hd env_ok <| OA.ps [(29, (.slice (some ⟨j, 0, none⟩) N 0)), (30, (.int .i64 (((m : Nat) : Int) - 1)))] rfl <| oP 31 (.pointer (some ⟨j, (m - 1), some 0⟩)) rfl (r_iaS (l := (m - 1)) rfl rfl rfl rfl rfl rfl (by omega) (by omega) get_here rfl (by omega)) <| OA.ps [(32, (.pointer (some ⟨j, (m - 1), some 0⟩)))] rfl <| oP 33 (.int .i64 (ys.getD (m - 1) dChk).typ) rfl (r_loadF (c := cChk) dChk rfl rfl rfl rfl rfl get_here (by rw [hyl]; omega) rfl) ?_
  by_cases hc2 : (ys.getD (m - 1) dChk).typ = 15
  ·
   refine oP 34 yT rfl (Eq.trans (r_bin rfl rfl rfl (b_eql rfl)) (Go.Proofs.YtdnkhdkflemkeaaV.dT hc2)) <| OA.ps [(35, yT), (36, (.int .i64 (((m : Nat) : Int) - 1))), (37, rv)] rfl <| oP 38 (.int .i64 ((rs.length : Nat) : Int)) rfl (r_lenP (c := cBo) rfl rfl rfl rfl rfl rfl hrv1 rfl) ?_
   by_cases hc3 : (((m : Nat) : Int) - 1) < ((rs.length : Nat) : Int)
   ·
    obtain ⟨rest, hat⟩ := hrv1.get (m := (m - 1)) (by omega)
    have lathat := hd.lt hat
    refine oP 39 yT rfl (Eq.trans (r_bin rfl rfl rfl (b_lss rfl)) (Go.Proofs.YtdnkhdkflemkeaaV.dT hc3)) <| OA.ps [(40, yT), (41, yT), (42, rv), (43, (.int .i64 (((m : Nat) : Int) - 1)))] rfl <| oP 44 (.pointer (some ⟨(rk rv), (m - 1), some 0⟩)) rfl (r_iaP (c := cBo) (m := (m - 1)) rfl rfl rfl rfl rfl rfl hrv1 (by omega) (show (m - 1) < rs.length by omega) (gt2 (by omega) hat) rfl) ?_
    by_cases hc4 : (rs.getD (m - 1) dBo).x = true
    ·
     refine oP 45 yT rfl (Eq.trans (r_load1 (e := cBo (rs.getD (m - 1) dBo)) rfl rfl rfl rfl rfl (gt2 (by omega) hat) (mp_getA (by omega)) rfl) (Go.Proofs.YtdnkhdkflemkeaaV.bT hc4)) <| OA.ps [(46, yT)] rfl <| OA.nil fun _ => RA.condT rfl <| RA.region env_ok <| OA.ps [(47, (.slice (some ⟨j, 0, none⟩) N 0)), (48, (.int .i64 (((m : Nat) : Int) - 1))), (49, (.string (key.extract 0 (min key.size 40)))), (50, (.slice (some ⟨j, 0, none⟩) N 0)), (51, (.int .i64 (((m : Nat) : Int) - 1)))] rfl <| oP 52 (.int .i64 ((((m - 1) + 1) : Nat) : Int)) rfl (r_bin rfl rfl rfl (b_add (i64_eq (by omega)))) <| oP 53 (.slice (some ⟨j, ((m - 1) + 1), none⟩) (N - ((m - 1) + 1)) 0) rfl (r_cutG (a := ((m - 1) + 1)) (b := N) rfl rfl (fun _ => rfl) (fun _ => rfl) rfl rfl rfl (bound_int (by omega)) rfl get_here rfl (by omega) (by rw [List.length_map, hyl]; omega) (by omega) (by omega)) <| oC 54 (v := (.string (sealF (key.extract 0 (min key.size 40)) (ys.drop ((m - 1) + 1))))) (hd.of (by omega) (kb2 (by omega))) rfl rfl (lSeal (key.extract 0 (min key.size 40)) hk j ((m - 1) + 1) (N - ((m - 1) + 1)) N ys hyl (by omega) (gd_keepL hy (keep_app hd (by intro k_ hk_; simp only [keys, List.cons_append, List.nil_append, List.map_cons, List.map_nil, List.mem_cons, List.not_mem_nil, or_false, false_or] at hk_; exact if hjk : k_ = j then .inr (by rw [hjk]; exact ⟨_, hj, rfl⟩) else .inl (by omega)))) (by omega) get_here) fun n3 hn3 => oP 55 (.agg ⟨[(.int .i64 15), (.int .i64 0), (.int .u32 0), (.int .i64 0), (.int .i64 1), (.int .u32 0), (.string (sealF (key.extract 0 (min key.size 40)) (ys.drop ((m - 1) + 1)))), (.int .u32 0), (.int .u32 0), (.int .i64 0), (.int .i64 0), (.slice none 0 0), (.slice none 0 0), (.slice none 0 0), (.slice none 0 0)]⟩) rfl (by kernel_rfl) <| oP 56 (.pointer (some ⟨j, (m - 1), some 0⟩)) rfl (r_iaS (l := (m - 1)) rfl rfl rfl rfl rfl rfl (by omega) (by omega) get_here rfl (by omega)) ?_
     refine o1 none yU n3 (j, some (oChk (ys.set (m - 1) (fstC (sealF (key.extract 0 (min key.size 40)) (ys.drop ((m - 1) + 1))))))) (r_storeR (c := cChk) dChk (fstC (sealF (key.extract 0 (min key.size 40)) (ys.drop ((m - 1) + 1)))) rfl rfl rfl rfl rfl rfl rfl get_here (by rw [hyl]; omega) (Nat.le_of_ble_eq_true rfl) rfl) <| OA.nil fun _ => RA.rb [(2, rv), (7, (.string (key.extract 0 (min key.size 40)))), (8, (.slice (some ⟨j, 0, none⟩) N 0)), (9, (.slice (some ⟨n1, 0, none⟩) 0 0)), (10, yF), (11, (.int .i64 (((m : Nat) : Int) - 1))), (26, yT), (46, yT)] rfl (fun τr4 => ?_)
     refine RA.region env_ok <| OA.ps [(27, (.int .i64 (((m : Nat) : Int) - 1)))] rfl <| oP 28 (.int .i64 ((((m - 1) : Nat) : Int) - 1)) rfl (r_bin rfl rfl rfl (b_sub (by rw [i64_of (by omega) (by omega)] <;> omega))) <| OA.ps [(11, (.int .i64 ((((m - 1) : Nat) : Int) - 1)))] rfl <| OA.nil ?_
     refine ⟨(1 * (m - 1)), by omega, [(j, some (oChk (ys.set (m - 1) (fstC (sealF (key.extract 0 (min key.size 40)) (ys.drop ((m - 1) + 1))))))), (n1, some (oChk ([] : List Chk)))], (LsO (fA get_here get_here (fA (get_there (by omega) get_here) (gt2 (by omega) get_here) fan))), ⟨(m - 1), (ys.set (m - 1) (fstC (sealF (key.extract 0 (min key.size 40)) (ys.drop ((m - 1) + 1))))), rfl, by omega, ⟨rfl, rfl, rfl, rfl, rfl, rfl, trivial⟩, rfl, (kb2 (by omega)), ⟨by omega, by rw [List.length_set, hyl], gd_set hy (gd_fst _ _)⟩⟩⟩
    ·
     refine oP 45 yF rfl (Eq.trans (r_load1 (e := cBo (rs.getD (m - 1) dBo)) rfl rfl rfl rfl rfl (gt2 (by omega) hat) (mp_getA (by omega)) rfl) (Go.Proofs.YtdnkhdkflemkeaaV.bF hc4)) <| OA.ps [(46, yF)] rfl <| OA.nil fun _ => RA.condF rfl <| RA.skip env_ok ?_
     intro _
     refine RA.region env_ok <| OA.ps [(27, (.int .i64 (((m : Nat) : Int) - 1)))] rfl <| oP 28 (.int .i64 ((((m - 1) : Nat) : Int) - 1)) rfl (r_bin rfl rfl rfl (b_sub (by rw [i64_of (by omega) (by omega)] <;> omega))) <| OA.ps [(11, (.int .i64 ((((m - 1) : Nat) : Int) - 1)))] rfl <| OA.nil ?_
     refine ⟨(1 * (m - 1)), by omega, [(j, some (oChk ys)), (n1, some (oChk ([] : List Chk)))], (Less.refl _ _ _), ⟨(m - 1), ys, rfl, by omega, ⟨rfl, rfl, rfl, rfl, rfl, rfl, trivial⟩, rfl, (kb2 (by omega)), ⟨by omega, hyl, hy⟩⟩⟩
   ·
    refine oP 39 yF rfl (Eq.trans (r_bin rfl rfl rfl (b_lss rfl)) (Go.Proofs.YtdnkhdkflemkeaaV.dF hc3)) <| OA.ps [(40, yF), (41, yF)] rfl <| OA.offs 42 4 rfl <| OA.ps [(46, yF)] rfl <| OA.nil fun _ => RA.condF rfl <| RA.skip env_ok ?_
    intro _
    refine RA.region env_ok <| OA.ps [(27, (.int .i64 (((m : Nat) : Int) - 1)))] rfl <| oP 28 (.int .i64 ((((m - 1) : Nat) : Int) - 1)) rfl (r_bin rfl rfl rfl (b_sub (by rw [i64_of (by omega) (by omega)] <;> omega))) <| OA.ps [(11, (.int .i64 ((((m - 1) : Nat) : Int) - 1)))] rfl <| OA.nil ?_
    refine ⟨(1 * (m - 1)), by omega, [(j, some (oChk ys)), (n1, some (oChk ([] : List Chk)))], (Less.refl _ _ _), ⟨(m - 1), ys, rfl, by omega, ⟨rfl, rfl, rfl, rfl, rfl, rfl, trivial⟩, rfl, (kb2 (by omega)), ⟨by omega, hyl, hy⟩⟩⟩
  ·
   refine oP 34 yF rfl (Eq.trans (r_bin rfl rfl rfl (b_eql rfl)) (Go.Proofs.YtdnkhdkflemkeaaV.dF hc2)) <| OA.ps [(35, yF)] rfl <| OA.offs 36 4 rfl <| OA.ps [(40, yF), (41, yF)] rfl <| OA.offs 42 4 rfl <| OA.ps [(46, yF)] rfl <| OA.nil fun _ => RA.condF rfl <| RA.skip env_ok ?_
   intro _
   refine RA.region env_ok <| OA.ps [(27, (.int .i64 (((m : Nat) : Int) - 1)))] rfl <| oP 28 (.int .i64 ((((m - 1) : Nat) : Int) - 1)) rfl (r_bin rfl rfl rfl (b_sub (by rw [i64_of (by omega) (by omega)] <;> omega))) <| OA.ps [(11, (.int .i64 ((((m - 1) : Nat) : Int) - 1)))] rfl <| OA.nil ?_
   refine ⟨(1 * (m - 1)), by omega, [(j, some (oChk ys)), (n1, some (oChk ([] : List Chk)))], (Less.refl _ _ _), ⟨(m - 1), ys, rfl, by omega, ⟨rfl, rfl, rfl, rfl, rfl, rfl, trivial⟩, rfl, (kb2 (by omega)), ⟨by omega, hyl, hy⟩⟩⟩
 ·
  refine oP 26 yF rfl (Eq.trans (r_bin rfl rfl rfl (b_geq rfl)) (Go.Proofs.YtdnkhdkflemkeaaV.dF hc1)) <| OA.nil fun _ => RA.condF rfl ?_
  refine RA.exit env_ok ?_
  intro _
  refine RA.seq hd <| RA.sR hd env_ok <| OA.ps [(12, (.int .i64 0))] rfl <| OA.nil fun _ => RA.block ?_
  refine RA.loop hd (fun kk_ τ n' D => (∃ i : Nat, ∃ s : Bool, ∃ P : List Chk, ∃ jo : Nat, ∃ m2 : Nat, kk_ = (N - i) ∧ n2 ≤ n' ∧ Has τ [(7, (.string (key.extract 0 (min key.size 40)))), (8, (.slice (some ⟨j, 0, none⟩) N 0)), (9, (.slice (some ⟨jo, 0, none⟩) m2 0)), (10, (.bool s)), (12, (.int .i64 ((i : Nat) : Int)))] ∧ D = [(j, some (oChk ys)), (jo, some (oChk P))] ∧ (∀ i ∈ keys D, i < n') ∧ i ≤ N ∧ n1 ≤ jo ∧ jo ≠ j ∧ P.length = m2 ∧ m2 ≤ i ∧ P ++ passG (key.extract 0 (min key.size 40)) s (ys.drop i) = passG (key.extract 0 (min key.size 40)) false ys)) ((N - 0)) (⟨0, false, [], n1, 0, rfl, by omega, ⟨rfl, rfl, rfl, rfl, rfl, trivial⟩, rfl, (kb2 (by omega)), ⟨by omega, by omega, by omega, rfl, by omega, rfl⟩⟩) ?_
  rintro kn5 τ5 n5 _ ⟨i, s, P, jo, m2, rfl, hn5, hHn5, rfl, hKn5, hIn5⟩
  rw [Has.eq hHn5]
  have hKn5_0 := kk0 hKn5
  have hKn5_1 := kk1 hKn5
  clear hKn5
  obtain ⟨hil, hjo, hjj2, hPl, hm3, hinv⟩ := hIn5
  refine RA.seq hd <| RA.sR hd env_ok <| OA.ps [(57, (.int .i64 ((i : Nat) : Int))), (58, (.slice (some ⟨j, 0, none⟩) N 0)), (59, (.int .i64 ((N : Nat) : Int)))] rfl ?_
  by_cases hc5 : ((i : Nat) : Int) < ((N : Nat) : Int)
  ·
   have hgc := hy _ (getD_mem (d := dChk) (show i < ys.length by omega))
   refine oP 60 yT rfl (Eq.trans (r_bin rfl rfl rfl (b_lss rfl)) (Go.Proofs.YtdnkhdkflemkeaaV.dT hc5)) <| OA.nil fun _ => RA.condT rfl <| RA.skip env_ok ?_
   intro _
   refine RA.seq hd <| RA.block <| RA.sR hd env_ok <| OA.ps [(63, (.slice (some ⟨j, 0, none⟩) N 0)), (64, (.int .i64 ((i : Nat) : Int)))] rfl <| oP 65 (Pt j i 0) rfl (r_iaS (l := i) rfl rfl rfl rfl rfl rfl (by omega) (by omega) get_here rfl (by omega)) <| oP 66 (.agg ⟨(cChk (ys.getD i dChk))⟩) rfl (r_loadR (c := cChk) dChk rfl rfl rfl rfl get_here (by rw [hyl]; omega) rfl) <| o1 (some 13) (Pt n5 0 0) (n5 + 1) (n5, some ⟨[xAp43], 15, 54, true⟩) rfl <| o1 none yU (n5 + 1) (n5, some ⟨[(cChk (ys.getD i dChk))], 15, 54, true⟩) (r_store (cs := (cChk (ys.getD i dChk))) rfl rfl rfl rfl rfl rfl (by simp only [List.all_cons, List.all_nil, Bool.and_true, Bool.and_eq_true, cChk]; exact ⟨rfl, rfl, rfl, rfl, rfl, rfl, rfl, rfl, rfl, rfl, rfl, (hgc.hp).one, (hgc.hc).one, (hgc.hg).one, (hgc.hu).one⟩) get_here rfl rfl (Nat.le_of_ble_eq_true rfl) rfl) <| OA.nil fun _ => RA.block <| RA.sR hd env_ok ?_
   refine OA.ps [(68, (Pt n5 0 0))] rfl <| oL 69 (.int .i64 (ys.getD i dChk).typ) get_here ?_
   by_cases hc6 : (ys.getD i dChk).typ = 15
   ·
    refine oP 70 yT rfl (Eq.trans (r_bin rfl rfl rfl (b_eql rfl)) (Go.Proofs.YtdnkhdkflemkeaaV.dT hc6)) <| OA.ps [(67, yT)] rfl <| OA.nil fun _ => RA.condT rfl <| RA.par (md := [some [], some [n5], some [], some [], some [], some [n5], some [], some [], some [], some [], some [n5], some [], some [], some [], some [], some [j], none, some [], some [], some []]) env_ok (hd.of (by omega) (kb4 (by omega))) (by kernel_rfl) <| PQ.ps [(71, (Pt n5 0 3))] rfl <| pQl 72 (.int .i64 (ys.getD i dChk).stream) get_here ?_
    by_cases hc7 : (ys.getD i dChk).stream = 0
    ·
     refine pP 73 yT rfl (Eq.trans (r_bin rfl rfl rfl (b_eql rfl)) (Go.Proofs.YtdnkhdkflemkeaaV.dT hc7)) <| PQ.ps [(74, yT), (75, (Pt n5 0 4))] rfl <| pQl 76 (.int .i64 (ys.getD i dChk).ssn) get_here ?_
     by_cases hc8 : (ys.getD i dChk).ssn = 1
     ·
      refine pP 77 yT rfl (Eq.trans (r_bin rfl rfl rfl (b_eql rfl)) (Go.Proofs.YtdnkhdkflemkeaaV.dT hc8)) <| PQ.ps [(78, yT), (79, yT), (80, (Pt n5 0 6))] rfl <| pQl 81 (.string (ys.getD i dChk).data) get_here <| PQ.ps [(82, (.string (key.extract 0 (min key.size 40)))), (83, (.slice (some ⟨j, 0, none⟩) N 0)), (84, (.int .i64 ((i : Nat) : Int)))] rfl <| pP 85 (.int .i64 (((i + 1) : Nat) : Int)) rfl (r_bin rfl rfl rfl (b_add (i64_eq (by omega)))) <| pQL 86 (.slice (some ⟨j, (i + 1), none⟩) (N - (i + 1)) 0) (V := []) rfl (by kernel_rfl) (by kernel_rfl) (gt2 (by omega) get_here) (r_cutG (a := (i + 1)) (b := N) rfl rfl (fun _ => rfl) (fun _ => rfl) rfl rfl rfl (bound_int (by omega)) rfl get_here rfl (by omega) (by rw [List.length_map, hyl]; omega) (by omega) (by omega)) <| pA 87 (v := (.string (sealF (key.extract 0 (min key.size 40)) (ys.drop (i + 1))))) (V := []) (hd.of (by omega) (kb4 (by omega))) rfl rfl (by kernel_rfl) (by kernel_rfl) (lSeal (key.extract 0 (min key.size 40)) hk j (i + 1) (N - (i + 1)) N ys hyl (by omega) (gd_keepL hy (keep_app hd (by intro k_ hk_; simp only [keys, List.cons_append, List.nil_append, List.map_cons, List.map_nil, List.mem_cons, List.not_mem_nil, or_false, false_or] at hk_; exact if hjk : k_ = j then .inr (by rw [hjk]; exact ⟨_, hj, rfl⟩) else .inl (by omega)))) (by omega) (gt2 (by omega) get_here)) fun n6 hn6 => ?_
      by_cases hc9 : (ys.getD i dChk).data = (sealF (key.extract 0 (min key.size 40)) (ys.drop (i + 1)))
      ·
       refine pP 88 yT rfl (Eq.trans (r_eqlS rfl rfl rfl) (Go.Proofs.YtdnkhdkflemkeaaV.dT hc9)) <| PQ.ps [(89, yT), (10, yT)] rfl <| PQ.done (d := []) (by kernel_rfl) fun _ => RA.rb [(7, (.string (key.extract 0 (min key.size 40)))), (8, (.slice (some ⟨j, 0, none⟩) N 0)), (9, (.slice (some ⟨jo, 0, none⟩) m2 0)), (10, yT), (12, (.int .i64 ((i : Nat) : Int))), (13, (Pt n5 0 0)), (60, yT), (67, yT)] rfl (fun τr7 => ?_)
       refine RA.region env_ok <| OA.ps [(61, (.int .i64 ((i : Nat) : Int)))] rfl <| oP 62 (.int .i64 (((i + 1) : Nat) : Int)) rfl (r_bin rfl rfl rfl (b_add (i64_eq (by omega)))) <| OA.ps [(12, (.int .i64 (((i + 1) : Nat) : Int)))] rfl <| OA.nil ?_
       have hps : passG (key.extract 0 (min key.size 40)) s (ys.drop i) = passG (key.extract 0 (min key.size 40)) true (ys.drop (i + 1)) := pass_seal (by omega) hc6 ⟨fun _ => ⟨hc7, hc8, hc9⟩, fun _ => rfl⟩
       refine ⟨(N - (i + 1)), by omega, [(j, some (oChk ys)), (jo, some (oChk P))], (LsO (fA get_here (gt2 (by omega) get_here) (fA (get_there (by omega) get_here) (gt3 (by omega) get_here) fan))), ⟨(i + 1), true, P, jo, m2, rfl, by omega, ⟨rfl, rfl, rfl, rfl, rfl, trivial⟩, rfl, (kb2 (by omega)), ⟨by omega, by omega, by omega, hPl, by omega, by rw [← hps]; exact hinv⟩⟩⟩
      ·
       refine pP 88 yF rfl (Eq.trans (r_eqlS rfl rfl rfl) (Go.Proofs.YtdnkhdkflemkeaaV.dF hc9)) <| PQ.ps [(89, yF), (10, yF)] rfl <| PQ.done (d := []) (by kernel_rfl) fun _ => RA.rb [(7, (.string (key.extract 0 (min key.size 40)))), (8, (.slice (some ⟨j, 0, none⟩) N 0)), (9, (.slice (some ⟨jo, 0, none⟩) m2 0)), (10, yF), (12, (.int .i64 ((i : Nat) : Int))), (13, (Pt n5 0 0)), (60, yT), (67, yT)] rfl (fun τr8 => ?_)
       refine RA.region env_ok <| OA.ps [(61, (.int .i64 ((i : Nat) : Int)))] rfl <| oP 62 (.int .i64 (((i + 1) : Nat) : Int)) rfl (r_bin rfl rfl rfl (b_add (i64_eq (by omega)))) <| OA.ps [(12, (.int .i64 (((i + 1) : Nat) : Int)))] rfl <| OA.nil ?_
       have hps : passG (key.extract 0 (min key.size 40)) s (ys.drop i) = passG (key.extract 0 (min key.size 40)) false (ys.drop (i + 1)) := pass_seal (by omega) hc6 ⟨fun q_ => Bool.noConfusion q_, fun q_ => absurd q_.2.2 hc9⟩
       refine ⟨(N - (i + 1)), by omega, [(j, some (oChk ys)), (jo, some (oChk P))], (LsO (fA get_here (gt2 (by omega) get_here) (fA (get_there (by omega) get_here) (gt3 (by omega) get_here) fan))), ⟨(i + 1), false, P, jo, m2, rfl, by omega, ⟨rfl, rfl, rfl, rfl, rfl, trivial⟩, rfl, (kb2 (by omega)), ⟨by omega, by omega, by omega, hPl, by omega, by rw [← hps]; exact hinv⟩⟩⟩
     ·
      refine pP 77 yF rfl (Eq.trans (r_bin rfl rfl rfl (b_eql rfl)) (Go.Proofs.YtdnkhdkflemkeaaV.dF hc8)) <| PQ.ps [(78, yF), (79, yF)] rfl <| PQ.offs 80 9 rfl <| PQ.ps [(89, yF), (10, yF)] rfl <| PQ.done (d := []) (by kernel_rfl) fun _ => RA.rb [(7, (.string (key.extract 0 (min key.size 40)))), (8, (.slice (some ⟨j, 0, none⟩) N 0)), (9, (.slice (some ⟨jo, 0, none⟩) m2 0)), (10, yF), (12, (.int .i64 ((i : Nat) : Int))), (13, (Pt n5 0 0)), (60, yT), (67, yT)] rfl (fun τr9 => ?_)
      refine RA.region env_ok <| OA.ps [(61, (.int .i64 ((i : Nat) : Int)))] rfl <| oP 62 (.int .i64 (((i + 1) : Nat) : Int)) rfl (r_bin rfl rfl rfl (b_add (i64_eq (by omega)))) <| OA.ps [(12, (.int .i64 (((i + 1) : Nat) : Int)))] rfl <| OA.nil ?_
      have hps : passG (key.extract 0 (min key.size 40)) s (ys.drop i) = passG (key.extract 0 (min key.size 40)) false (ys.drop (i + 1)) := pass_seal (by omega) hc6 ⟨fun q_ => Bool.noConfusion q_, fun q_ => absurd q_.2.1 hc8⟩
      refine ⟨(N - (i + 1)), by omega, [(j, some (oChk ys)), (jo, some (oChk P))], (LsO (fA get_here (gt2 (by omega) get_here) (fA (get_there (by omega) get_here) (gt3 (by omega) get_here) fan))), ⟨(i + 1), false, P, jo, m2, rfl, by omega, ⟨rfl, rfl, rfl, rfl, rfl, trivial⟩, rfl, (kb2 (by omega)), ⟨by omega, by omega, by omega, hPl, by omega, by rw [← hps]; exact hinv⟩⟩⟩
    ·
     refine pP 73 yF rfl (Eq.trans (r_bin rfl rfl rfl (b_eql rfl)) (Go.Proofs.YtdnkhdkflemkeaaV.dF hc7)) <| PQ.ps [(74, yF)] rfl <| PQ.offs 75 3 rfl <| PQ.ps [(78, yF), (79, yF)] rfl <| PQ.offs 80 9 rfl <| PQ.ps [(89, yF), (10, yF)] rfl <| PQ.done (d := []) (by kernel_rfl) fun _ => RA.rb [(7, (.string (key.extract 0 (min key.size 40)))), (8, (.slice (some ⟨j, 0, none⟩) N 0)), (9, (.slice (some ⟨jo, 0, none⟩) m2 0)), (10, yF), (12, (.int .i64 ((i : Nat) : Int))), (13, (Pt n5 0 0)), (60, yT), (67, yT)] rfl (fun τr10 => ?_)
     refine RA.region env_ok <| OA.ps [(61, (.int .i64 ((i : Nat) : Int)))] rfl <| oP 62 (.int .i64 (((i + 1) : Nat) : Int)) rfl (r_bin rfl rfl rfl (b_add (i64_eq (by omega)))) <| OA.ps [(12, (.int .i64 (((i + 1) : Nat) : Int)))] rfl <| OA.nil ?_
     have hps : passG (key.extract 0 (min key.size 40)) s (ys.drop i) = passG (key.extract 0 (min key.size 40)) false (ys.drop (i + 1)) := pass_seal (by omega) hc6 ⟨fun q_ => Bool.noConfusion q_, fun q_ => absurd q_.1 hc7⟩
     refine ⟨(N - (i + 1)), by omega, [(j, some (oChk ys)), (jo, some (oChk P))], (LsO (fA get_here (gt2 (by omega) get_here) (fA (get_there (by omega) get_here) (gt3 (by omega) get_here) fan))), ⟨(i + 1), false, P, jo, m2, rfl, by omega, ⟨rfl, rfl, rfl, rfl, rfl, trivial⟩, rfl, (kb2 (by omega)), ⟨by omega, by omega, by omega, hPl, by omega, by rw [← hps]; exact hinv⟩⟩⟩
   ·
    refine oP 70 yF rfl (Eq.trans (r_bin rfl rfl rfl (b_eql rfl)) (Go.Proofs.YtdnkhdkflemkeaaV.dF hc6)) <| OA.ps [(67, yF)] rfl <| OA.nil fun _ => RA.condF rfl <| RA.sR hd env_ok <| OA.ps [(91, (Pt n5 0 0))] rfl <| oL 92 (.int .i64 (ys.getD i dChk).typ) get_here ?_
    by_cases hc10 : (ys.getD i dChk).typ ≠ 193
    ·
     refine oP 93 yT rfl (Eq.trans (r_bin rfl rfl rfl (b_neq rfl)) (Go.Proofs.YtdnkhdkflemkeaaV.dT hc10)) <| OA.ps [(94, yT), (95, (Pt n5 0 0))] rfl <| oL 96 (.int .i64 (ys.getD i dChk).typ) get_here ?_
     by_cases hc11 : (ys.getD i dChk).typ ≠ 128
     ·
      refine oP 97 yT rfl (Eq.trans (r_bin rfl rfl rfl (b_neq rfl)) (Go.Proofs.YtdnkhdkflemkeaaV.dT hc11)) <| OA.ps [(98, yT), (99, yT)] rfl <| OA.offs 100 1 rfl <| OA.ps [(101, yT), (90, yT)] rfl <| OA.nil fun _ => RA.rb [(7, (.string (key.extract 0 (min key.size 40)))), (8, (.slice (some ⟨j, 0, none⟩) N 0)), (9, (.slice (some ⟨jo, 0, none⟩) m2 0)), (10, (.bool s)), (12, (.int .i64 ((i : Nat) : Int))), (13, (Pt n5 0 0)), (60, yT), (67, yF), (90, yT)] rfl (fun τr11 => ?_)
      refine RA.condT rfl <| RA.region env_ok <| OA.ps [(102, (.slice (some ⟨jo, 0, none⟩) m2 0))] rfl <| oP 103 (.agg ⟨(xAp41 ys i)⟩) rfl (r_loadA rfl rfl rfl rfl get_here rfl rfl rfl) <| o1 (some 104) (.slice (some ⟨(n5 + 1), 0, none⟩) 1 0) (n5 + 2) ((n5 + 1), some ⟨[(xAp41 ys i)], 15, 54, true⟩) (r_bs1 (cs := (xAp41 ys i)) rfl rfl rfl rfl rfl rfl rfl (by decide) (by decide) (by kernel_rfl) (by simp only [List.all_cons, List.all_nil, Bool.and_true, Bool.and_eq_true]; exact ⟨rfl, rfl, rfl, rfl, rfl, rfl, rfl, rfl, rfl, rfl, rfl, (hgc.hp).one, (hgc.hc).one, (hgc.hg).one, (hgc.hu).one⟩)) <| OA.op (dst := (some 105)) (v := (.slice (some ⟨(n5 + 2), 0, none⟩) (m2 + 1) 0)) (n1 := (n5 + 3)) (d1 := [((n5 + 2), some (oChk (P ++ [(ys.getD i dChk)]))), (jo, none)]) (D' := [((n5 + 2), some (oChk (P ++ [(ys.getD i dChk)]))), (jo, none), ((n5 + 1), some ⟨[(xAp41 ys i)], 15, 54, true⟩), (n5, some ⟨[(cChk (ys.getD i dChk))], 15, 54, true⟩), (n5, some ⟨[xAp43], 15, 54, true⟩), (j, some (oChk ys)), (jo, some (oChk P))]) rfl rfl rfl (r_appendR (c := cChk) (l' := (P ++ [(ys.getD i dChk)])) rfl rfl rfl rfl rfl rfl rfl rfl rfl rfl (by decide) (gt4 (by omega) get_here) get_here (by rw [hPl]) (mp_snoc (c := cChk) (x := (ys.getD i dChk))) (by omega) (of_decide_eq_true (by kernel_rfl)) (by omega)) (by omega) rfl <| OA.ps [(9, (.slice (some ⟨(n5 + 2), 0, none⟩) (m2 + 1) 0))] rfl <| OA.nil fun _ => RA.weaken hd (LsO (fA get_here get_here (fA (get_there (by omega) get_here) (get_there (by omega) get_here) (fA (gt2 (by omega) get_here) (gt2 (by omega) get_here) (fA (gt3 (by omega) get_here) (gt3 (by omega) get_here) (fA (gt4 (by omega) get_here) (gt5 (by omega) get_here) fan)))))) <| RA.region env_ok <| OA.ps [(61, (.int .i64 ((i : Nat) : Int)))] rfl ?_
      refine oP 62 (.int .i64 (((i + 1) : Nat) : Int)) rfl (r_bin rfl rfl rfl (b_add (i64_eq (by omega)))) <| OA.ps [(12, (.int .i64 (((i + 1) : Nat) : Int)))] rfl <| OA.nil ?_
      have hps : passG (key.extract 0 (min key.size 40)) s (ys.drop i) = (ys.getD i dChk) :: passG (key.extract 0 (min key.size 40)) s (ys.drop (i + 1)) := pass_yes (by omega) hc6 (.inl (fun q_ => q_.elim hc10 hc11))
      refine ⟨(N - (i + 1)), by omega, [(j, some (oChk ys)), ((n5 + 2), some (oChk (P ++ [(ys.getD i dChk)])))], (LsO (fA get_here (gt4 (by omega) get_here) (fA (get_there (by omega) get_here) get_here fan))), ⟨(i + 1), s, (P ++ [(ys.getD i dChk)]), (n5 + 2), (m2 + 1), rfl, by omega, ⟨rfl, rfl, rfl, rfl, rfl, trivial⟩, rfl, (kb2 (by omega)), ⟨by omega, by omega, by omega, by rw [List.length_append, hPl] <;> rfl, by omega, by rw [List.append_assoc, List.singleton_append, ← hps]; exact hinv⟩⟩⟩
     ·
      refine oP 97 yF rfl (Eq.trans (r_bin rfl rfl rfl (b_neq rfl)) (Go.Proofs.YtdnkhdkflemkeaaV.dF hc11)) <| OA.ps [(98, yF), (99, yF), (100, (.bool s))] rfl ?_
      by_cases hc12 : s = true
      ·
       refine oP 101 yT rfl (Eq.trans rfl (Go.Proofs.YtdnkhdkflemkeaaV.bT hc12)) <| OA.ps [(90, yT)] rfl <| OA.nil fun _ => RA.rb [(7, (.string (key.extract 0 (min key.size 40)))), (8, (.slice (some ⟨j, 0, none⟩) N 0)), (9, (.slice (some ⟨jo, 0, none⟩) m2 0)), (10, (.bool s)), (12, (.int .i64 ((i : Nat) : Int))), (13, (Pt n5 0 0)), (60, yT), (67, yF), (90, yT)] rfl (fun τr12 => ?_)
       refine RA.condT rfl <| RA.region env_ok <| OA.ps [(102, (.slice (some ⟨jo, 0, none⟩) m2 0))] rfl <| oP 103 (.agg ⟨(xAp41 ys i)⟩) rfl (r_loadA rfl rfl rfl rfl get_here rfl rfl rfl) <| o1 (some 104) (.slice (some ⟨(n5 + 1), 0, none⟩) 1 0) (n5 + 2) ((n5 + 1), some ⟨[(xAp41 ys i)], 15, 54, true⟩) (r_bs1 (cs := (xAp41 ys i)) rfl rfl rfl rfl rfl rfl rfl (by decide) (by decide) (by kernel_rfl) (by simp only [List.all_cons, List.all_nil, Bool.and_true, Bool.and_eq_true]; exact ⟨rfl, rfl, rfl, rfl, rfl, rfl, rfl, rfl, rfl, rfl, rfl, (hgc.hp).one, (hgc.hc).one, (hgc.hg).one, (hgc.hu).one⟩)) <| OA.op (dst := (some 105)) (v := (.slice (some ⟨(n5 + 2), 0, none⟩) (m2 + 1) 0)) (n1 := (n5 + 3)) (d1 := [((n5 + 2), some (oChk (P ++ [(ys.getD i dChk)]))), (jo, none)]) (D' := [((n5 + 2), some (oChk (P ++ [(ys.getD i dChk)]))), (jo, none), ((n5 + 1), some ⟨[(xAp41 ys i)], 15, 54, true⟩), (n5, some ⟨[(cChk (ys.getD i dChk))], 15, 54, true⟩), (n5, some ⟨[xAp43], 15, 54, true⟩), (j, some (oChk ys)), (jo, some (oChk P))]) rfl rfl rfl (r_appendR (c := cChk) (l' := (P ++ [(ys.getD i dChk)])) rfl rfl rfl rfl rfl rfl rfl rfl rfl rfl (by decide) (gt4 (by omega) get_here) get_here (by rw [hPl]) (mp_snoc (c := cChk) (x := (ys.getD i dChk))) (by omega) (of_decide_eq_true (by kernel_rfl)) (by omega)) (by omega) rfl <| OA.ps [(9, (.slice (some ⟨(n5 + 2), 0, none⟩) (m2 + 1) 0))] rfl <| OA.nil fun _ => RA.weaken hd (LsO (fA get_here get_here (fA (get_there (by omega) get_here) (get_there (by omega) get_here) (fA (gt2 (by omega) get_here) (gt2 (by omega) get_here) (fA (gt3 (by omega) get_here) (gt3 (by omega) get_here) (fA (gt4 (by omega) get_here) (gt5 (by omega) get_here) fan)))))) <| RA.region env_ok <| OA.ps [(61, (.int .i64 ((i : Nat) : Int)))] rfl ?_
       refine oP 62 (.int .i64 (((i + 1) : Nat) : Int)) rfl (r_bin rfl rfl rfl (b_add (i64_eq (by omega)))) <| OA.ps [(12, (.int .i64 (((i + 1) : Nat) : Int)))] rfl <| OA.nil ?_
       have hps : passG (key.extract 0 (min key.size 40)) s (ys.drop i) = (ys.getD i dChk) :: passG (key.extract 0 (min key.size 40)) s (ys.drop (i + 1)) := pass_yes (by omega) hc6 (.inr hc12)
       refine ⟨(N - (i + 1)), by omega, [(j, some (oChk ys)), ((n5 + 2), some (oChk (P ++ [(ys.getD i dChk)])))], (LsO (fA get_here (gt4 (by omega) get_here) (fA (get_there (by omega) get_here) get_here fan))), ⟨(i + 1), s, (P ++ [(ys.getD i dChk)]), (n5 + 2), (m2 + 1), rfl, by omega, ⟨rfl, rfl, rfl, rfl, rfl, trivial⟩, rfl, (kb2 (by omega)), ⟨by omega, by omega, by omega, by rw [List.length_append, hPl] <;> rfl, by omega, by rw [List.append_assoc, List.singleton_append, ← hps]; exact hinv⟩⟩⟩
      ·
       refine oP 101 yF rfl (Eq.trans rfl (Go.Proofs.YtdnkhdkflemkeaaV.bF hc12)) <| OA.ps [(90, yF)] rfl <| OA.nil fun _ => RA.rb [(7, (.string (key.extract 0 (min key.size 40)))), (8, (.slice (some ⟨j, 0, none⟩) N 0)), (9, (.slice (some ⟨jo, 0, none⟩) m2 0)), (10, (.bool s)), (12, (.int .i64 ((i : Nat) : Int))), (13, (Pt n5 0 0)), (60, yT), (67, yF), (90, yF)] rfl (fun τr13 => ?_)
       refine RA.condF rfl <| RA.skip env_ok ?_
       intro _
       refine RA.region env_ok <| OA.ps [(61, (.int .i64 ((i : Nat) : Int)))] rfl <| oP 62 (.int .i64 (((i + 1) : Nat) : Int)) rfl (r_bin rfl rfl rfl (b_add (i64_eq (by omega)))) <| OA.ps [(12, (.int .i64 (((i + 1) : Nat) : Int)))] rfl <| OA.nil ?_
       have hps : passG (key.extract 0 (min key.size 40)) s (ys.drop i) = passG (key.extract 0 (min key.size 40)) s (ys.drop (i + 1)) := pass_no (by omega) hc6 (.inr (Classical.not_not.1 hc11)) hc12
       refine ⟨(N - (i + 1)), by omega, [(j, some (oChk ys)), (jo, some (oChk P))], (LsO (fA get_here (gt2 (by omega) get_here) (fA (get_there (by omega) get_here) (gt3 (by omega) get_here) fan))), ⟨(i + 1), s, P, jo, m2, rfl, by omega, ⟨rfl, rfl, rfl, rfl, rfl, trivial⟩, rfl, (kb2 (by omega)), ⟨by omega, by omega, by omega, hPl, by omega, by rw [← hps]; exact hinv⟩⟩⟩
    ·
     refine oP 93 yF rfl (Eq.trans (r_bin rfl rfl rfl (b_neq rfl)) (Go.Proofs.YtdnkhdkflemkeaaV.dF hc10)) <| OA.ps [(94, yF)] rfl <| OA.offs 95 3 rfl <| OA.ps [(98, yF), (99, yF), (100, (.bool s))] rfl ?_
     by_cases hc13 : s = true
     ·
      refine oP 101 yT rfl (Eq.trans rfl (Go.Proofs.YtdnkhdkflemkeaaV.bT hc13)) <| OA.ps [(90, yT)] rfl <| OA.nil fun _ => RA.rb [(7, (.string (key.extract 0 (min key.size 40)))), (8, (.slice (some ⟨j, 0, none⟩) N 0)), (9, (.slice (some ⟨jo, 0, none⟩) m2 0)), (10, (.bool s)), (12, (.int .i64 ((i : Nat) : Int))), (13, (Pt n5 0 0)), (60, yT), (67, yF), (90, yT)] rfl (fun τr14 => ?_)
      refine RA.condT rfl <| RA.region env_ok <| OA.ps [(102, (.slice (some ⟨jo, 0, none⟩) m2 0))] rfl <| oP 103 (.agg ⟨(xAp41 ys i)⟩) rfl (r_loadA rfl rfl rfl rfl get_here rfl rfl rfl) <| o1 (some 104) (.slice (some ⟨(n5 + 1), 0, none⟩) 1 0) (n5 + 2) ((n5 + 1), some ⟨[(xAp41 ys i)], 15, 54, true⟩) (r_bs1 (cs := (xAp41 ys i)) rfl rfl rfl rfl rfl rfl rfl (by decide) (by decide) (by kernel_rfl) (by simp only [List.all_cons, List.all_nil, Bool.and_true, Bool.and_eq_true]; exact ⟨rfl, rfl, rfl, rfl, rfl, rfl, rfl, rfl, rfl, rfl, rfl, (hgc.hp).one, (hgc.hc).one, (hgc.hg).one, (hgc.hu).one⟩)) <| OA.op (dst := (some 105)) (v := (.slice (some ⟨(n5 + 2), 0, none⟩) (m2 + 1) 0)) (n1 := (n5 + 3)) (d1 := [((n5 + 2), some (oChk (P ++ [(ys.getD i dChk)]))), (jo, none)]) (D' := [((n5 + 2), some (oChk (P ++ [(ys.getD i dChk)]))), (jo, none), ((n5 + 1), some ⟨[(xAp41 ys i)], 15, 54, true⟩), (n5, some ⟨[(cChk (ys.getD i dChk))], 15, 54, true⟩), (n5, some ⟨[xAp43], 15, 54, true⟩), (j, some (oChk ys)), (jo, some (oChk P))]) rfl rfl rfl (r_appendR (c := cChk) (l' := (P ++ [(ys.getD i dChk)])) rfl rfl rfl rfl rfl rfl rfl rfl rfl rfl (by decide) (gt4 (by omega) get_here) get_here (by rw [hPl]) (mp_snoc (c := cChk) (x := (ys.getD i dChk))) (by omega) (of_decide_eq_true (by kernel_rfl)) (by omega)) (by omega) rfl <| OA.ps [(9, (.slice (some ⟨(n5 + 2), 0, none⟩) (m2 + 1) 0))] rfl <| OA.nil fun _ => RA.weaken hd (LsO (fA get_here get_here (fA (get_there (by omega) get_here) (get_there (by omega) get_here) (fA (gt2 (by omega) get_here) (gt2 (by omega) get_here) (fA (gt3 (by omega) get_here) (gt3 (by omega) get_here) (fA (gt4 (by omega) get_here) (gt5 (by omega) get_here) fan)))))) <| RA.region env_ok <| OA.ps [(61, (.int .i64 ((i : Nat) : Int)))] rfl ?_
      refine oP 62 (.int .i64 (((i + 1) : Nat) : Int)) rfl (r_bin rfl rfl rfl (b_add (i64_eq (by omega)))) <| OA.ps [(12, (.int .i64 (((i + 1) : Nat) : Int)))] rfl <| OA.nil ?_
      have hps : passG (key.extract 0 (min key.size 40)) s (ys.drop i) = (ys.getD i dChk) :: passG (key.extract 0 (min key.size 40)) s (ys.drop (i + 1)) := pass_yes (by omega) hc6 (.inr hc13)
      refine ⟨(N - (i + 1)), by omega, [(j, some (oChk ys)), ((n5 + 2), some (oChk (P ++ [(ys.getD i dChk)])))], (LsO (fA get_here (gt4 (by omega) get_here) (fA (get_there (by omega) get_here) get_here fan))), ⟨(i + 1), s, (P ++ [(ys.getD i dChk)]), (n5 + 2), (m2 + 1), rfl, by omega, ⟨rfl, rfl, rfl, rfl, rfl, trivial⟩, rfl, (kb2 (by omega)), ⟨by omega, by omega, by omega, by rw [List.length_append, hPl] <;> rfl, by omega, by rw [List.append_assoc, List.singleton_append, ← hps]; exact hinv⟩⟩⟩
     ·
      refine oP 101 yF rfl (Eq.trans rfl (Go.Proofs.YtdnkhdkflemkeaaV.bF hc13)) <| OA.ps [(90, yF)] rfl <| OA.nil fun _ => RA.rb [(7, (.string (key.extract 0 (min key.size 40)))), (8, (.slice (some ⟨j, 0, none⟩) N 0)), (9, (.slice (some ⟨jo, 0, none⟩) m2 0)), (10, (.bool s)), (12, (.int .i64 ((i : Nat) : Int))), (13, (Pt n5 0 0)), (60, yT), (67, yF), (90, yF)] rfl (fun τr15 => ?_)
      refine RA.condF rfl <| RA.skip env_ok ?_
      intro _
      refine RA.region env_ok <| OA.ps [(61, (.int .i64 ((i : Nat) : Int)))] rfl <| oP 62 (.int .i64 (((i + 1) : Nat) : Int)) rfl (r_bin rfl rfl rfl (b_add (i64_eq (by omega)))) <| OA.ps [(12, (.int .i64 (((i + 1) : Nat) : Int)))] rfl <| OA.nil ?_
      have hps : passG (key.extract 0 (min key.size 40)) s (ys.drop i) = passG (key.extract 0 (min key.size 40)) s (ys.drop (i + 1)) := pass_no (by omega) hc6 (.inl (Classical.not_not.1 hc10)) hc13
      refine ⟨(N - (i + 1)), by omega, [(j, some (oChk ys)), (jo, some (oChk P))], (LsO (fA get_here (gt2 (by omega) get_here) (fA (get_there (by omega) get_here) (gt3 (by omega) get_here) fan))), ⟨(i + 1), s, P, jo, m2, rfl, by omega, ⟨rfl, rfl, rfl, rfl, rfl, trivial⟩, rfl, (kb2 (by omega)), ⟨by omega, by omega, by omega, hPl, by omega, by rw [← hps]; exact hinv⟩⟩⟩
  ·
   refine oP 60 yF rfl (Eq.trans (r_bin rfl rfl rfl (b_lss rfl)) (Go.Proofs.YtdnkhdkflemkeaaV.dF hc5)) <| OA.nil fun _ => RA.condF rfl ?_
   refine RA.exit env_ok ?_
   intro _
   have hPe : P = passG (key.extract 0 (min key.size 40)) false ys := by rw [pass_end (by omega), List.append_nil] at hinv; exact hinv
   have hyP : ∀ c ∈ P, gd σ c := fun c hc => hy c (passG_mem _ _ _ c (hPe ▸ hc))
   refine RA.sR hd env_ok <| oC 106 (hd.of (by omega) (kb2 (by omega))) rfl rfl kAwake fun n16 hn16 => OA.ps [(107, yT), (108, (.string (key.extract 0 (min key.size 40)))), (109, (.slice (some ⟨j, 0, none⟩) N 0))] rfl ?_
   by_cases hc14 : passG (key.extract 0 (min key.size 40)) false ys = []
   ·
    refine OA.call (dst := (some 110)) (all := [(.string (key.extract 0 (min key.size 40))), (.slice (some ⟨j, 0, none⟩) N 0)]) rfl rfl rfl rfl rfl rfl rfl rfl (CQ.imp (sPassN (hd.of (by omega) (kb2 (by omega))) (key.extract 0 (min key.size 40)) hk j N ys hyl hN (gd_keepL hy (keep_app hd (by intro k_ hk_; simp only [keys, List.cons_append, List.nil_append, List.map_cons, List.map_nil, List.mem_cons, List.not_mem_nil, or_false, false_or] at hk_; exact if hjk : k_ = j then .inr (by rw [hjk]; exact ⟨_, hj, rfl⟩) else .inl (by omega)))) get_here hc14) ?_)
    rintro _ n17 _ ⟨rfl, rfl⟩ hn17
    refine OA.app0 ?_
    refine OA.ps [(111, (.slice (some ⟨jo, 0, none⟩) m2 0))] rfl <| oC 112 (v := yT) (hd.of (by omega) (kb2 (by omega))) rfl rfl (by rw [show m2 = 0 from by rw [← hPl, hPe, hc14]; rfl]; exact rSameAll0 jo) fun n18 hn18 => OA.ps [(113, yT), (6, yT)] rfl <| OA.nil fun _ => ?_
    refine RA.ret env_ok ?_
    intro D'_
    exact ⟨.inr rfl, [(.bool true)], (resL_cons rfl resL_nil), D'_, Less.refl _ _ _, rfl⟩
   ·
    refine OA.call (dst := (some 110)) (all := [(.string (key.extract 0 (min key.size 40))), (.slice (some ⟨j, 0, none⟩) N 0)]) rfl rfl rfl rfl rfl rfl rfl rfl (CQ.imp (sPassR (hd.of (by omega) (kb2 (by omega))) (key.extract 0 (min key.size 40)) hk j N ys hyl hN (gd_keepL hy (keep_app hd (by intro k_ hk_; simp only [keys, List.cons_append, List.nil_append, List.map_cons, List.map_nil, List.mem_cons, List.not_mem_nil, or_false, false_or] at hk_; exact if hjk : k_ = j then .inr (by rw [hjk]; exact ⟨_, hj, rfl⟩) else .inl (by omega)))) get_here hc14) ?_)
    rintro _ n19 _ ⟨gn19, hgan19, hgbn19, rfl, rfl⟩ hn19
    refine OA.app1 ?_
    refine OA.ps [(111, (.slice (some ⟨jo, 0, none⟩) m2 0))] rfl <| oC 112 (v := yT) (hd.of (by omega) (kb3 (by omega))) rfl rfl (by rw [show (passG (key.extract 0 (min key.size 40)) false ys).length = m2 from by rw [← hPe, hPl]]; exact rSameAll gn19 0 m2 (passG (key.extract 0 (min key.size 40)) false ys) (by rw [← hPe, hPl]) jo m2 P hPl (by omega) (by omega) (by rw [List.drop_zero, hPe]) (gd_keepL hyP (keep_app hd (by intro k_ hk_; simp only [keys, List.cons_append, List.nil_append, List.map_cons, List.map_nil, List.mem_cons, List.not_mem_nil, or_false, false_or] at hk_; exact if hjk : k_ = j then .inr (by rw [hjk]; exact ⟨_, hj, rfl⟩) else .inl (by omega)))) get_here (gt2 (by omega) get_here)) fun n20 hn20 => OA.ps [(113, yT), (6, yT)] rfl <| OA.nil fun _ => ?_
    refine RA.ret env_ok ?_
    intro D'_
    exact ⟨.inr rfl, [(.bool true)], (resL_cons rfl resL_nil), D'_, Less.refl _ _ _, rfl⟩
end Go.Proofs.Ytdnkhdkflemkeaa.Vt.Cp
/- The pure part of AuthPasses. -/
namespace Go.Proofs.Ytdnkhdkflemkeaa.Vt
open Go Go.Proofs Go.Proofs.YtdnkhdkflemkeaaV Go.Proofs.Ytdnkhdkflemkeaa.Vt.Cp
set_option linter.unusedVariables false
theorem wf_word {b : Int} (h : (Lit.int .u32 b).wf = true) : ∃ x : BitVec 32, b = ((x.toNat : Nat) : Int) := by
  have h2 : 0 ≤ b ∧ b < 4294967296 := by
    simp [Lit.wf, IntKind.min, IntKind.max, IntKind.signed, IntKind.bits] at h
    omega
  exact ⟨BitVec.ofNat 32 b.toNat, by rw [BitVec.toNat_ofNat]; omega⟩
theorem wf_i64 {b : Int} (h : (Lit.int .i64 b).wf = true) : -9223372036854775808 ≤ b ∧ b ≤ 9223372036854775807 := by
  simp [Lit.wf, IntKind.min, IntKind.max, IntKind.signed, IntKind.bits] at h
  omega
theorem rowsPrm {σ : Store} : ∀ {es : List (List Value)}, (∀ x ∈ es, g96.G σ x) → ∃ l : List Prm, es = l.map cPrm
  | [], _ => ⟨[], rfl⟩
  | x :: es, h => by
    obtain ⟨l, rfl⟩ := rowsPrm (es := es) (fun y hy => h y (List.mem_cons_of_mem _ hy))
    obtain ⟨_, _, rfl, ⟨a0, rfl, w0⟩, _, _, rfl, ⟨a1, rfl, w1⟩, rfl⟩ := h x (List.mem_cons_self ..)
    exact ⟨⟨a0, a1⟩ :: l, rfl⟩
theorem rowsCau {σ : Store} : ∀ {es : List (List Value)}, (∀ x ∈ es, g98.G σ x) → ∃ l : List Cau, es = l.map cCau
  | [], _ => ⟨[], rfl⟩
  | x :: es, h => by
    obtain ⟨l, rfl⟩ := rowsCau (es := es) (fun y hy => h y (List.mem_cons_of_mem _ hy))
    obtain ⟨_, _, rfl, ⟨a0, rfl, w0⟩, _, _, rfl, ⟨a1, rfl, w1⟩, rfl⟩ := h x (List.mem_cons_self ..)
    exact ⟨⟨a0, a1⟩ :: l, rfl⟩
theorem rowsDp {σ : Store} : ∀ {es : List (List Value)}, (∀ x ∈ es, g32.G σ x) → ∃ l : List Dp, es = l.map cDp
  | [], _ => ⟨[], rfl⟩
  | x :: es, h => by
    obtain ⟨l, rfl⟩ := rowsDp (es := es) (fun y hy => h y (List.mem_cons_of_mem _ hy))
    obtain ⟨a0, rfl, w0⟩ := h x (List.mem_cons_self ..)
    obtain ⟨b0, rfl⟩ := wf_word w0
    exact ⟨⟨b0⟩ :: l, rfl⟩
theorem rowsGp2 {σ : Store} : ∀ {es : List (List Value)}, (∀ x ∈ es, g101.G σ x) → ∃ l : List Gp, es = l.map cGp ∧ ∀ g ∈ l, g.lo < 9223372036854775808
  | [], _ => ⟨[], rfl, fun _ h => by cases h⟩
  | x :: es, h => by
    obtain ⟨l, rfl, hl⟩ := rowsGp2 (es := es) (fun y hy => h y (List.mem_cons_of_mem _ hy))
    obtain ⟨_, _, rfl, ⟨a0, rfl, w0⟩, _, _, rfl, ⟨a1, rfl, w1⟩, rfl⟩ := h x (List.mem_cons_self ..)
    refine ⟨⟨a0, a1⟩ :: l, rfl, fun g hg => ?_⟩
    rcases List.mem_cons.1 hg with rfl | hg
    · have := wf_i64 w0; show a0 < 9223372036854775808; omega
    · exact hl g hg
theorem rowsChk {σ : Store} : ∀ {es : List (List Value)}, (∀ x ∈ es, g54.G σ x) → ∃ l : List Chk, es = l.map cChk ∧ ∀ c ∈ l, okIn σ c
  | [], _ => ⟨[], rfl, fun _ h => by cases h⟩
  | x :: es, h => by
    obtain ⟨l, rfl, hl⟩ := rowsChk (es := es) (fun y hy => h y (List.mem_cons_of_mem _ hy))
    obtain ⟨_, _, rfl, ⟨a0, rfl, w0⟩, _, _, rfl, ⟨a1, rfl, w1⟩, _, _, rfl, ⟨a2, rfl, w2⟩, _, _, rfl, ⟨a3, rfl, w3⟩, _, _, rfl, ⟨a4, rfl, w4⟩, _, _, rfl, ⟨a5, rfl, w5⟩, _, _, rfl, ⟨a6, rfl, w6⟩, _, _, rfl, ⟨a7, rfl, w7⟩, _, _, rfl, ⟨a8, rfl, w8⟩, _, _, rfl, ⟨a9, rfl, w9⟩, _, _, rfl, ⟨a10, rfl, w10⟩, _, _, rfl, ⟨v11, e11, rfl, r11, x11⟩, _, _, rfl, ⟨v12, e12, rfl, r12, x12⟩, _, _, rfl, ⟨v13, e13, rfl, r13, x13⟩, _, _, rfl, ⟨v14, e14, rfl, r14, x14⟩, rfl⟩ := h x (List.mem_cons_self ..)
    obtain ⟨b2, rfl⟩ := wf_word w2
    obtain ⟨b5, rfl⟩ := wf_word w5
    obtain ⟨b7, rfl⟩ := wf_word w7
    obtain ⟨b8, rfl⟩ := wf_word w8
    obtain ⟨l11, rfl⟩ := rowsPrm x11
    obtain ⟨l12, rfl⟩ := rowsCau x12
    obtain ⟨l13, rfl, hgr⟩ := rowsGp2 x13
    obtain ⟨l14, rfl⟩ := rowsDp x14
    refine ⟨⟨a0, a1, b2, a3, a4, b5, a6, b7, b8, a9, a10, v11, v12, v13, v14, l11, l12, l13, l14⟩ :: l, rfl, fun c hc => ?_⟩
    rcases List.mem_cons.1 hc with rfl | hc
    · exact ⟨⟨r11.P, r12.P, r13.P, r14.P⟩, by have := wf_i64 w1; show a1 < 9223372036854775808; omega, hgr⟩
    · exact hl c hc
theorem rowsBo {σ : Store} : ∀ {es : List (List Value)}, (∀ x ∈ es, g4.G σ x) → ∃ l : List Bo, es = l.map cBo
  | [], _ => ⟨[], rfl⟩
  | x :: es, h => by
    obtain ⟨l, rfl⟩ := rowsBo (es := es) (fun y hy => h y (List.mem_cons_of_mem _ hy))
    obtain ⟨a0, rfl⟩ := h x (List.mem_cons_self ..)
    exact ⟨⟨a0⟩ :: l, rfl⟩
theorem runAuthPasses (n : Nat) (σ : Store) (hd : Dom n σ) (hn0 : 0 < n) (x0 x1 x2 : Value) (h0 : g9.G σ [x0]) (h1 : g45.G σ [x1]) (h2 : g57.G σ [x2]) : CQ Try.prog noDen 12 [x0, x1, x2] n σ (fun v _ _ => v = .bool true) := by
  obtain ⟨b0, q0, w0⟩ := h0
  cases q0
  obtain ⟨v, e1, q1, r1, w1⟩ := h1
  cases q1
  obtain ⟨l, rfl, hl⟩ := rowsChk w1
  obtain ⟨v2, e2, q2, r2, w2⟩ := h2
  cases q2
  obtain ⟨rs, rfl⟩ := rowsBo w2
  exact lawPasses hd hn0 b0 _ l r1.P hl _ rs r2.P
end Go.Proofs.Ytdnkhdkflemkeaa.Vt
