/- Gp2: walks through functions of the program, by the calculus; written by a program of this workplace. -/
import Derived.Test.YtmepflkodjdgdaaGp1
import Derived.Test.YtmepflkodjdgdaaVm6
namespace Go.Proofs.Ytmepflkodjdgdaa.Vt
open Go Go.Proofs Go.Proofs.YtmepflkodjdgdaaV
set_option maxRecDepth 100000
set_option linter.unusedVariables false
set_option linter.unusedSimpArgs false
theorem idxT {p : Gap → Bool} {l : List Gap} (h : l.findIdx p < l.length) : idxZ p l = ((l.findIdx p : Nat) : Int) := if_pos h
theorem idxF {p : Gap → Bool} {l : List Gap} (h : ¬ l.findIdx p < l.length) : idxZ p l = -1 := if_neg h
theorem gInsG {n : Nat} {σ : Store} (hd : Dom n σ) (j m N i c' t' : Nat) (l : List Gap) (far : Int) (hl : l.length = N) (hi : i = l.findIdx (gtb far)) (hN : N ≤ 1000000) (hj : σ j = some (oGap l)) (hm : σ m = some ⟨[cGap (Gap.mk far far)], 2, t', true⟩) (hjm : m ≠ j) : CQ Try.prog noDen 99 [.slice (some ⟨j, 0, none⟩) N 2, .int .i64 ((i : Nat) : Int), .slice (some ⟨m, 0, none⟩) 1 c'] n σ (fun v n' d => n < n' ∧ v = .slice (some ⟨n, 0, none⟩) (N + 1) 2 ∧ d = [(n, some (oGap (insG l far))), (j, none)]) := by
  subst hi
  exact gIns hd j m N _ c' t' l _ hl (by rw [← hl]; exact fi_le) hN hj hm hjm
def sh (b : Int) (p : Gap) : Gap := Gap.mk (p.fr - b) (p.to - b)
def shN (b : Int) (i : Nat) (l : List Gap) : List Gap := (l.take i).map (sh b) ++ l.drop i
theorem shN_len {b : Int} {i : Nat} {l : List Gap} : (shN b i l).length = l.length := by
  unfold shN
  rw [List.length_append, List.length_map, List.length_take, List.length_drop]; omega
theorem shN_get {b : Int} {i : Nat} {l : List Gap} (h : i < l.length) : (shN b i l).getD i dGap = l.getD i dGap := by
  unfold shN
  rw [List.getD_eq_getElem?_getD, List.getD_eq_getElem?_getD, List.getElem?_append_right (by rw [List.length_map, List.length_take]; omega), List.getElem?_drop, List.length_map, List.length_take]
  congr 2; omega
theorem shN_0 {b : Int} {l : List Gap} : shN b 0 l = l := by unfold shN; simp
theorem shN_all {b : Int} {i : Nat} {l : List Gap} (h : i = l.length) : shN b i l = l.map (sh b) := by
  subst h; unfold shN; simp
theorem shN_set {b : Int} {i : Nat} {l : List Gap} {x : Gap} (h : i < l.length) : (shN b i l).set i x = (l.take i).map (sh b) ++ x :: l.drop (i + 1) := by
  unfold shN
  rw [List.set_append_right _ _ (by rw [List.length_map, List.length_take]; omega), List.length_map, List.length_take, show i - min i l.length = 0 by omega, List.drop_eq_getElem_cons h]
  rfl
theorem shN_succ {b : Int} {i : Nat} {l : List Gap} (h : i < l.length) : shN b (i + 1) l = (l.take i).map (sh b) ++ sh b (l.getD i dGap) :: l.drop (i + 1) := by
  unfold shN
  rw [List.take_succ_eq_append_getElem h, List.map_append, List.append_assoc, List.getD_eq_getElem?_getD, List.getElem?_eq_getElem h]
  rfl
theorem set_get {l : List Gap} {i : Nat} {x : Gap} (h : i < l.length) : (l.set i x).getD i dGap = x := by
  rw [List.getD_eq_getElem?_getD, List.getElem?_set_self h]; rfl
theorem shN_step {b : Int} {i : Nat} {l : List Gap} (h : i < l.length) : ((shN b i l).set i (Gap.mk (((shN b i l).getD i dGap).fr - b) ((shN b i l).getD i dGap).to)).set i (Gap.mk (((shN b i l).set i (Gap.mk (((shN b i l).getD i dGap).fr - b) ((shN b i l).getD i dGap).to)).getD i dGap).fr ((((shN b i l).set i (Gap.mk (((shN b i l).getD i dGap).fr - b) ((shN b i l).getD i dGap).to)).getD i dGap).to - b)) = shN b (i + 1) l := by
  rw [List.set_set, set_get (by rw [shN_len]; exact h), shN_get h, shN_set h, shN_succ h]
  rfl
def setl (cum : BitVec 32) (ps : List Gap) : BitVec 32 × List Gap := if 0 < ps.length ∧ (ps.getD 0 dGap).fr = 1 then (cum + BitVec.ofInt 32 (ps.getD 0 dGap).to, (ps.drop 1).map (sh (ps.getD 0 dGap).to)) else (cum, ps)
def okG (ps : List Gap) : Prop := ∀ p ∈ ps, -1000000 ≤ p.fr ∧ p.fr ≤ 1000000 ∧ -1000000 ≤ p.to ∧ p.to ≤ 1000000
theorem okG_get {ps : List Gap} (h : okG ps) {i : Nat} (hi : i < ps.length) : -1000000 ≤ (ps.getD i dGap).fr ∧ (ps.getD i dGap).fr ≤ 1000000 ∧ -1000000 ≤ (ps.getD i dGap).to ∧ (ps.getD i dGap).to ≤ 1000000 := h _ (getD_mem hi)
theorem okG_drop {ps : List Gap} {k : Nat} (h : okG ps) : okG (ps.drop k) := fun p hp => h p (List.mem_of_mem_drop hp)
abbrev xGp21 (ps : List Gap) (far : Int) : Gap := (Gap.mk (((((insG ps far).set (ps.findIdx (gtb far)) (Gap.mk (((insG ps far).getD (ps.findIdx (gtb far)) dGap).fr) (((insG ps far).getD ((ps.findIdx (gtb far)) + 1) dGap).to))).eraseIdx ((ps.findIdx (gtb far)) + 1)).getD ((ps.findIdx (gtb far)) - 1) dGap).fr) (((((insG ps far).set (ps.findIdx (gtb far)) (Gap.mk (((insG ps far).getD (ps.findIdx (gtb far)) dGap).fr) (((insG ps far).getD ((ps.findIdx (gtb far)) + 1) dGap).to))).eraseIdx ((ps.findIdx (gtb far)) + 1)).getD (ps.findIdx (gtb far)) dGap).to))
abbrev xGp22 (ps : List Gap) (i : Nat) : Gap := (Gap.mk ((((shN (ps.getD 0 dGap).to i (ps.drop 1)).set i (Gap.mk (((shN (ps.getD 0 dGap).to i (ps.drop 1)).getD i dGap).fr - (ps.getD 0 dGap).to) (((shN (ps.getD 0 dGap).to i (ps.drop 1)).getD i dGap).to))).getD i dGap).fr) ((((shN (ps.getD 0 dGap).to i (ps.drop 1)).set i (Gap.mk (((shN (ps.getD 0 dGap).to i (ps.drop 1)).getD i dGap).fr - (ps.getD 0 dGap).to) (((shN (ps.getD 0 dGap).to i (ps.drop 1)).getD i dGap).to))).getD i dGap).to - (ps.getD 0 dGap).to))
abbrev xGp23 (ps : List Gap) (i : Nat) : Gap := (Gap.mk (((shN (ps.getD 0 dGap).to i (ps.drop 1)).getD i dGap).fr - (ps.getD 0 dGap).to) (((shN (ps.getD 0 dGap).to i (ps.drop 1)).getD i dGap).to))
abbrev xGp24 (cum : BitVec 32) (ps : List Gap) (n : Nat) (K : Nat) (jd : Nat) (M : Nat) : List Value := [(W (cum + (BitVec.ofInt 32 (ps.getD 0 dGap).to))), (.slice (some ⟨(n + 1), 0, none⟩) (K - 1) 2), (.slice (some ⟨jd, 0, none⟩) M 2)]
abbrev xGp25 (ps : List Gap) (far : Int) : Gap := (Gap.mk (((insG ps far).getD (ps.findIdx (gtb far)) dGap).fr) (((insG ps far).getD ((ps.findIdx (gtb far)) + 1) dGap).to))
abbrev xGp26 (ps : List Gap) (far : Int) : Gap := (Gap.mk (((insG ps far).getD ((ps.findIdx (gtb far)) - 1) dGap).fr) (((insG ps far).getD (ps.findIdx (gtb far)) dGap).to))
abbrev xGp27 (ps : List Gap) (far : Int) : Gap := (Gap.mk ((insG ps far).getD (ps.findIdx (gtb far)) dGap).fr ((insG ps far).getD ((ps.findIdx (gtb far)) + 1) dGap).to)
abbrev xGp28 (cum : BitVec 32) (n1 : Nat) (K : Nat) (jd : Nat) (M : Nat) : List Value := [(W cum), (.slice (some ⟨(n1 + 1), 0, none⟩) ((K + 1) - 1) 2), (.slice (some ⟨jd, 0, none⟩) M 2)]
abbrev xGp29 (cum : BitVec 32) (n11 : Nat) (K : Nat) (jd : Nat) (M : Nat) : List Value := [(W cum), (.slice (some ⟨(n11 + 1), 0, none⟩) (K + 1) 2), (.slice (some ⟨jd, 0, none⟩) M 2)]
abbrev xGp210 (cum : BitVec 32) (n1 : Nat) (K : Nat) (jd : Nat) (M : Nat) : List Value := [(W cum), (.slice (some ⟨(n1 + 1), 0, none⟩) (K + 1) 2), (.slice (some ⟨jd, 0, none⟩) M 2)]
theorem gPut {n : Nat} {σ : Store} (hd : Dom n σ) (g jp jd K M : Nat) (cum : BitVec 32) (ps : List Gap) (hps : ps.length = K) (hK : K ≤ 900) (h1 : g ≠ jp) (far : Int) (hf : 0 < far) (hf2 : far ≤ 1000000) (hg : σ g = some ⟨[[(W cum), (.slice (some ⟨jp, 0, none⟩) K 2), (.slice (some ⟨jd, 0, none⟩) M 2)]], 3, 131, true⟩) (hjp : σ jp = some (oGap ps))  : CQ Try.prog noDen 78 [(Pt g 0 0), (.int .i64 far)] n σ (fun v n' d => ∃ jq, n ≤ jq ∧ jq < n' ∧ ∃ K', (putL ps far).length = K' ∧ K' ≤ K + 1 ∧ v = .tuple #[] ∧ d = [(g, some ⟨[[(W cum), (.slice (some ⟨jq, 0, none⟩) K' 2), (.slice (some ⟨jd, 0, none⟩) M 2)]], 3, 131, true⟩), (jq, some (oGap (putL ps far))), (jp, none)]) := by
 have lhg := hd.lt hg
 have lhjp := hd.lt hjp
 refine CQ.body (E := env) env_ok hd rfl rfl (by show _ ≤ _; exact of_decide_eq_true (by kernel_rfl)) ?_
 refine RA.seq hd ?_
 refine RA.region env_ok ?_
 refine OA.op1 (dst := (some 3)) (v := (Pt n 0 0)) (n1 := (n + 1)) (w := (n, some ⟨[[(.int .i64 far)]], 1, 3, true⟩)) rfl rfl rfl rfl (by omega) ?_
 refine OA.nil ?_
 intro _
 refine RA.seq hd ?_
 refine RA.region env_ok ?_
 refine OA.p (some 5) (Pt g 0 0) rfl rfl rfl rfl ?_
 refine OA.p (some 6) (Pt g 0 0) rfl rfl rfl rfl ?_
 refine OA.p (some 7) (Pt g 0 1) rfl rfl rfl rfl ?_
 refine OA.p (some 8) (.slice (some ⟨jp, 0, none⟩) K 2) rfl rfl rfl (r_load1 rfl rfl rfl rfl rfl (get_there (by omega) hg) rfl rfl) ?_
 refine OA.p (some 9) (.func (.func 98) ⟨[]⟩ ⟨[(Pt n 0 0)]⟩) rfl rfl rfl rfl ?_
 by_cases hc1 : ps.findIdx (gtb far) < ps.length
 ·
  have hI0 := fi_le (p := gtb far) (l := ps)
  refine OA.callP (dst := (some 10)) (all := [(.slice (some ⟨jp, 0, none⟩) K 2), (.func (.func 98) ⟨[]⟩ ⟨[(Pt n 0 0)]⟩)]) (v := (.int .i64 (((ps.findIdx (gtb far)) : Nat) : Int))) (hd.of (by omega) (kb1 (by omega))) rfl rfl rfl rfl rfl rfl rfl rfl (PS.to (gIdxP jp K ps hps (by omega) (gtb far) n (get_there (by omega) hjp) (fun x _ => gPutC x n far get_here)) (congrArg (Value.int .i64) (idxT hc1))) ?_
  intro n1 hn1
  refine OA.p (some 4) (.int .i64 (((ps.findIdx (gtb far)) : Nat) : Int)) rfl rfl rfl rfl ?_
  refine OA.nil ?_
  intro _
  refine RA.seq hd ?_
  refine RA.seq hd ?_
  refine RA.region env_ok ?_
  refine OA.p (some 11) (.int .i64 (((ps.findIdx (gtb far)) : Nat) : Int)) rfl rfl rfl rfl ?_
  have hc2 : ¬ ((((ps.findIdx (gtb far)) : Nat) : Int) < 0) := fun hdd => by exfalso; omega
  refine OA.p (some 12) (.bool false) rfl rfl rfl (Eq.trans (r_bin rfl rfl rfl (b_lss rfl)) (dF hc2)) ?_
  refine OA.nil ?_
  intro _
  refine RA.condF rfl ?_
  refine RA.skip env_ok ?_
  intro _
  refine RA.seq hd ?_
  refine RA.par (md := [some [], some [], some [], some [], some [g], some [], some [n], some [n], some [], some [], none, some [], some [], none]) env_ok (hd.of (by omega) (kb1 (by omega))) (by kernel_rfl) ?_
  refine PQ.pure (dst := (some 18)) (v := (Pt g 0 0)) rfl rfl rfl noStore (none_ok _ _) rfl ?_
  refine PQ.pure (dst := (some 19)) (v := (Pt g 0 0)) rfl rfl rfl noStore (none_ok _ _) rfl ?_
  refine PQ.pure (dst := (some 20)) (v := (Pt g 0 0)) rfl rfl rfl noStore (none_ok _ _) rfl ?_
  refine PQ.pure (dst := (some 21)) (v := (Pt g 0 1)) rfl rfl rfl noStore (none_ok _ _) rfl ?_
  refine PQ.pure (dst := (some 22)) (v := (.slice (some ⟨jp, 0, none⟩) K 2)) rfl rfl rfl (app [(g, some ⟨[[(W cum), (.slice (some ⟨jp, 0, none⟩) K 2), (.slice (some ⟨jd, 0, none⟩) M 2)]], 3, 131, true⟩)] noStore) (seen_one (V := []) (D := [(n, some ⟨[[(.int .i64 far)]], 1, 3, true⟩)]) (by kernel_rfl) (get_there (by omega) hg)) (r_load1 rfl rfl rfl rfl rfl get_here rfl rfl) ?_
  refine PQ.pure (dst := (some 23)) (v := (.int .i64 (((ps.findIdx (gtb far)) : Nat) : Int))) rfl rfl rfl noStore (none_ok _ _) rfl ?_
  refine PQ.pure (dst := (some 24)) (v := (.int .i64 far)) rfl rfl rfl (app [(n, some ⟨[[(.int .i64 far)]], 1, 3, true⟩)] noStore) (seen_one (V := []) (D := [(n, some ⟨[[(.int .i64 far)]], 1, 3, true⟩)]) (by kernel_rfl) get_here) (r_load1 rfl rfl rfl rfl rfl get_here rfl rfl) ?_
  refine PQ.pure (dst := (some 25)) (v := (.int .i64 far)) rfl rfl rfl (app [(n, some ⟨[[(.int .i64 far)]], 1, 3, true⟩)] noStore) (seen_one (V := []) (D := [(n, some ⟨[[(.int .i64 far)]], 1, 3, true⟩)]) (by kernel_rfl) get_here) (r_load1 rfl rfl rfl rfl rfl get_here rfl rfl) ?_
  refine PQ.pure (dst := (some 26)) (v := (.agg ⟨[(.int .i64 far), (.int .i64 far)]⟩)) rfl rfl rfl noStore (none_ok _ _) (by kernel_rfl) ?_
  refine PQ.op (dst := (some 27)) (v := (.slice (some ⟨n1, 0, none⟩) 1 0)) (n1 := (n1 + 1)) (d1 := [(n1, some ⟨[[(.int .i64 far), (.int .i64 far)]], 2, 60, true⟩)]) rfl rfl rfl noStore (none_ok _ _) (by kernel_rfl) (by omega) (kp1 (wr_new (by omega) (by omega))) ?_
  refine PQ.call (dst := (some 28)) (all := [(.slice (some ⟨jp, 0, none⟩) K 2), (.int .i64 (((ps.findIdx (gtb far)) : Nat) : Int)), (.slice (some ⟨n1, 0, none⟩) 1 0)]) rfl rfl rfl rfl rfl rfl rfl rfl _ (seen_any (V := [(n1, some ⟨[[(.int .i64 far), (.int .i64 far)]], 2, 60, true⟩)]) (D := [(n, some ⟨[[(.int .i64 far)]], 1, 3, true⟩)]) (by kernel_rfl)) (CQ.imp (CQ.keys (gInsG (hd.of (by omega) (kb2 (by omega))) jp n1 K (ps.findIdx (gtb far)) 0 60 ps far hps rfl (by omega) (gt2 (by omega) hjp) get_here (by omega))) ?_)
  rintro _ n2 _ ⟨hkn2, ⟨hnn, rfl, rfl⟩⟩
  have hn2 := hkn2.1
  refine ⟨hn2, (kp2 (by first | exact wr_new (by omega) (by omega) | exact wr_old [0] (by kernel_rfl) (by omega) (by omega) (fac (lo0 rfl) fan)) (by first | exact wr_new (by omega) (by omega) | exact wr_old [0] (by kernel_rfl) (by omega) (by omega) (fac (lo0 rfl) fan))), ?_⟩
  refine PQ.pure (dst := (some 29)) (v := (Pt g 0 0)) rfl rfl rfl noStore (none_ok _ _) rfl ?_
  refine PQ.pure (dst := (some 30)) (v := (Pt g 0 1)) rfl rfl rfl noStore (none_ok _ _) rfl ?_
  refine PQ.op (dst := none) (v := (.tuple #[])) (n1 := n2) (d1 := [(g, some ⟨[(xGp210 cum n1 K jd M)], 3, 131, true⟩)]) rfl rfl rfl _ (seen_any (V := [((n1 + 1), some (oGap (insG ps far))), (jp, none), (n1, some ⟨[[(.int .i64 far), (.int .i64 far)]], 2, 60, true⟩)]) (D := [(n, some ⟨[[(.int .i64 far)]], 1, 3, true⟩)]) (by kernel_rfl)) (r_store rfl rfl rfl rfl rfl rfl rfl (gt4 (by omega) hg) rfl rfl (Nat.le_of_ble_eq_true rfl) rfl) (by omega) (kp1 (wr_tight (by kernel_rfl) (by omega))) ?_
  refine PQ.done (d := [(g, some ⟨[(xGp210 cum n1 K jd M)], 3, 131, true⟩), ((n1 + 1), some (oGap (insG ps far))), (jp, none), (n1, some ⟨[[(.int .i64 far), (.int .i64 far)]], 2, 60, true⟩)]) (by kernel_rfl) ?_
  intro _
  refine RA.seq hd ?_
  refine RA.seq hd ?_
  refine RA.par (md := [some [], some [], some [], some [], some [], some [g], some [], some [], some [], some [], some [], some [], some [g], some [], some [], none, some [], none, some [n], some [], some [], some []]) env_ok (hd.of (by omega) (kb5 (by omega))) (by kernel_rfl) ?_
  refine PQ.pure (dst := (some 31)) (v := (.int .i64 (((ps.findIdx (gtb far)) : Nat) : Int))) rfl rfl rfl noStore (none_ok _ _) rfl ?_
  refine PQ.pure (dst := (some 32)) (v := (.int .i64 ((((ps.findIdx (gtb far)) + 1) : Nat) : Int))) rfl rfl rfl noStore (none_ok _ _) (r_bin rfl rfl rfl (b_add (i64_eq (by omega)))) ?_
  refine PQ.pure (dst := (some 33)) (v := (Pt g 0 0)) rfl rfl rfl noStore (none_ok _ _) rfl ?_
  refine PQ.pure (dst := (some 34)) (v := (Pt g 0 0)) rfl rfl rfl noStore (none_ok _ _) rfl ?_
  refine PQ.pure (dst := (some 35)) (v := (Pt g 0 1)) rfl rfl rfl noStore (none_ok _ _) rfl ?_
  refine PQ.pure (dst := (some 36)) (v := (.slice (some ⟨(n1 + 1), 0, none⟩) (K + 1) 2)) rfl rfl rfl (app [(g, some ⟨[(xGp210 cum n1 K jd M)], 3, 131, true⟩)] noStore) (seen_one (V := []) (D := [(g, some ⟨[(xGp210 cum n1 K jd M)], 3, 131, true⟩), ((n1 + 1), some (oGap (insG ps far))), (jp, none), (n1, some ⟨[[(.int .i64 far), (.int .i64 far)]], 2, 60, true⟩), (n, some ⟨[[(.int .i64 far)]], 1, 3, true⟩)]) (by kernel_rfl) get_here) (r_load1 rfl rfl rfl rfl rfl get_here rfl rfl) ?_
  refine PQ.pure (dst := (some 37)) (v := (.int .i64 (((K + 1) : Nat) : Int))) rfl rfl rfl noStore (none_ok _ _) rfl ?_
  have hc3 : ((((ps.findIdx (gtb far)) + 1) : Nat) : Int) < (((K + 1) : Nat) : Int) := Classical.byContradiction (fun hdd => by exfalso; omega)
  refine PQ.pure (dst := (some 38)) (v := (.bool true)) rfl rfl rfl noStore (none_ok _ _) (Eq.trans (r_bin rfl rfl rfl (b_lss rfl)) (dT hc3)) ?_
  refine PQ.pure (dst := (some 39)) (v := (.bool true)) rfl rfl rfl noStore (none_ok _ _) rfl ?_
  refine PQ.pure (dst := (some 40)) (v := (Pt g 0 0)) rfl rfl rfl noStore (none_ok _ _) rfl ?_
  refine PQ.pure (dst := (some 41)) (v := (Pt g 0 0)) rfl rfl rfl noStore (none_ok _ _) rfl ?_
  refine PQ.pure (dst := (some 42)) (v := (Pt g 0 1)) rfl rfl rfl noStore (none_ok _ _) rfl ?_
  refine PQ.pure (dst := (some 43)) (v := (.slice (some ⟨(n1 + 1), 0, none⟩) (K + 1) 2)) rfl rfl rfl (app [(g, some ⟨[(xGp210 cum n1 K jd M)], 3, 131, true⟩)] noStore) (seen_one (V := []) (D := [(g, some ⟨[(xGp210 cum n1 K jd M)], 3, 131, true⟩), ((n1 + 1), some (oGap (insG ps far))), (jp, none), (n1, some ⟨[[(.int .i64 far), (.int .i64 far)]], 2, 60, true⟩), (n, some ⟨[[(.int .i64 far)]], 1, 3, true⟩)]) (by kernel_rfl) get_here) (r_load1 rfl rfl rfl rfl rfl get_here rfl rfl) ?_
  refine PQ.pure (dst := (some 44)) (v := (.int .i64 (((ps.findIdx (gtb far)) : Nat) : Int))) rfl rfl rfl noStore (none_ok _ _) rfl ?_
  refine PQ.pure (dst := (some 45)) (v := (.int .i64 ((((ps.findIdx (gtb far)) + 1) : Nat) : Int))) rfl rfl rfl noStore (none_ok _ _) (r_bin rfl rfl rfl (b_add (i64_eq (by omega)))) ?_
  refine PQ.pure (dst := (some 46)) (v := (.pointer (some ⟨(n1 + 1), ((ps.findIdx (gtb far)) + 1), some 0⟩))) rfl rfl rfl _ (seen_any (V := []) (D := [(g, some ⟨[(xGp210 cum n1 K jd M)], 3, 131, true⟩), ((n1 + 1), some (oGap (insG ps far))), (jp, none), (n1, some ⟨[[(.int .i64 far), (.int .i64 far)]], 2, 60, true⟩), (n, some ⟨[[(.int .i64 far)]], 1, 3, true⟩)]) (by kernel_rfl)) (r_iaS (l := ((ps.findIdx (gtb far)) + 1)) rfl rfl rfl rfl rfl rfl (by omega) (by omega) (get_there (by omega) get_here) rfl (by omega)) ?_
  refine PQ.pure (dst := (some 47)) (v := (.pointer (some ⟨(n1 + 1), ((ps.findIdx (gtb far)) + 1), some 0⟩))) rfl rfl rfl noStore (none_ok _ _) rfl ?_
  refine PQ.pure (dst := (some 48)) (v := (.int .i64 ((insG ps far).getD ((ps.findIdx (gtb far)) + 1) dGap).fr)) rfl rfl rfl _ (seen_any (V := []) (D := [(g, some ⟨[(xGp210 cum n1 K jd M)], 3, 131, true⟩), ((n1 + 1), some (oGap (insG ps far))), (jp, none), (n1, some ⟨[[(.int .i64 far), (.int .i64 far)]], 2, 60, true⟩), (n, some ⟨[[(.int .i64 far)]], 1, 3, true⟩)]) (by kernel_rfl)) (r_loadF (c := cGap) dGap rfl rfl rfl rfl rfl (get_there (by omega) get_here) (by have := (show (insG ps far).length = K + 1 from by rw [insG_len, hps]); omega) rfl) ?_
  refine PQ.pure (dst := (some 49)) (v := (.int .i64 far)) rfl rfl rfl (app [(n, some ⟨[[(.int .i64 far)]], 1, 3, true⟩)] noStore) (seen_one (V := []) (D := [(g, some ⟨[(xGp210 cum n1 K jd M)], 3, 131, true⟩), ((n1 + 1), some (oGap (insG ps far))), (jp, none), (n1, some ⟨[[(.int .i64 far), (.int .i64 far)]], 2, 60, true⟩), (n, some ⟨[[(.int .i64 far)]], 1, 3, true⟩)]) (by kernel_rfl) (gt4 (by omega) get_here)) (r_load1 rfl rfl rfl rfl rfl get_here rfl rfl) ?_
  refine PQ.pure (dst := (some 50)) (v := (.int .i64 (far + 1))) rfl rfl rfl noStore (none_ok _ _) (r_bin rfl rfl rfl (b_add (i64_eq (by omega)))) ?_
  by_cases hc4 : ((insG ps far).getD ((ps.findIdx (gtb far)) + 1) dGap).fr = (far + 1)
  ·
   refine PQ.pure (dst := (some 51)) (v := (.bool true)) rfl rfl rfl noStore (none_ok _ _) (Eq.trans (r_bin rfl rfl rfl (b_eql rfl)) (dT hc4)) ?_
   refine PQ.pure (dst := (some 52)) (v := (.bool true)) rfl rfl rfl noStore (none_ok _ _) rfl ?_
   refine PQ.done (d := []) (by kernel_rfl) ?_
   intro _
   refine RA.rebase [(0, (Pt g 0 0)), (1, (.int .i64 far)), (3, (Pt n 0 0)), (4, (.int .i64 (((ps.findIdx (gtb far)) : Nat) : Int))), (12, (.bool false)), (52, (.bool true))] ⟨rfl, rfl, rfl, rfl, rfl, rfl, trivial⟩ (fun τr3 => ?_)
   refine RA.condT rfl ?_
   refine RA.seq hd ?_
   refine RA.par (md := [some [], some [], some [], some [g], some [], some [], some [], some [], some [g], some [], some [], none, some [], none, none, some [], none]) env_ok (hd.of (by omega) (kb5 (by omega))) (by kernel_rfl) ?_
   refine PQ.pure (dst := (some 53)) (v := (Pt g 0 0)) rfl rfl rfl noStore (none_ok _ _) rfl ?_
   refine PQ.pure (dst := (some 54)) (v := (Pt g 0 0)) rfl rfl rfl noStore (none_ok _ _) rfl ?_
   refine PQ.pure (dst := (some 55)) (v := (Pt g 0 1)) rfl rfl rfl noStore (none_ok _ _) rfl ?_
   refine PQ.pure (dst := (some 56)) (v := (.slice (some ⟨(n1 + 1), 0, none⟩) (K + 1) 2)) rfl rfl rfl (app [(g, some ⟨[(xGp210 cum n1 K jd M)], 3, 131, true⟩)] noStore) (seen_one (V := []) (D := [(g, some ⟨[(xGp210 cum n1 K jd M)], 3, 131, true⟩), ((n1 + 1), some (oGap (insG ps far))), (jp, none), (n1, some ⟨[[(.int .i64 far), (.int .i64 far)]], 2, 60, true⟩), (n, some ⟨[[(.int .i64 far)]], 1, 3, true⟩)]) (by kernel_rfl) get_here) (r_load1 rfl rfl rfl rfl rfl get_here rfl rfl) ?_
   refine PQ.pure (dst := (some 57)) (v := (.int .i64 (((ps.findIdx (gtb far)) : Nat) : Int))) rfl rfl rfl noStore (none_ok _ _) rfl ?_
   refine PQ.pure (dst := (some 58)) (v := (Pt g 0 0)) rfl rfl rfl noStore (none_ok _ _) rfl ?_
   refine PQ.pure (dst := (some 59)) (v := (Pt g 0 0)) rfl rfl rfl noStore (none_ok _ _) rfl ?_
   refine PQ.pure (dst := (some 60)) (v := (Pt g 0 1)) rfl rfl rfl noStore (none_ok _ _) rfl ?_
   refine PQ.pure (dst := (some 61)) (v := (.slice (some ⟨(n1 + 1), 0, none⟩) (K + 1) 2)) rfl rfl rfl (app [(g, some ⟨[(xGp210 cum n1 K jd M)], 3, 131, true⟩)] noStore) (seen_one (V := []) (D := [(g, some ⟨[(xGp210 cum n1 K jd M)], 3, 131, true⟩), ((n1 + 1), some (oGap (insG ps far))), (jp, none), (n1, some ⟨[[(.int .i64 far), (.int .i64 far)]], 2, 60, true⟩), (n, some ⟨[[(.int .i64 far)]], 1, 3, true⟩)]) (by kernel_rfl) get_here) (r_load1 rfl rfl rfl rfl rfl get_here rfl rfl) ?_
   refine PQ.pure (dst := (some 62)) (v := (.int .i64 (((ps.findIdx (gtb far)) : Nat) : Int))) rfl rfl rfl noStore (none_ok _ _) rfl ?_
   refine PQ.pure (dst := (some 63)) (v := (.int .i64 ((((ps.findIdx (gtb far)) + 1) : Nat) : Int))) rfl rfl rfl noStore (none_ok _ _) (r_bin rfl rfl rfl (b_add (i64_eq (by omega)))) ?_
   refine PQ.pure (dst := (some 64)) (v := (.pointer (some ⟨(n1 + 1), ((ps.findIdx (gtb far)) + 1), some 0⟩))) rfl rfl rfl _ (seen_any (V := []) (D := [(g, some ⟨[(xGp210 cum n1 K jd M)], 3, 131, true⟩), ((n1 + 1), some (oGap (insG ps far))), (jp, none), (n1, some ⟨[[(.int .i64 far), (.int .i64 far)]], 2, 60, true⟩), (n, some ⟨[[(.int .i64 far)]], 1, 3, true⟩)]) (by kernel_rfl)) (r_iaS (l := ((ps.findIdx (gtb far)) + 1)) rfl rfl rfl rfl rfl rfl (by omega) (by omega) (get_there (by omega) get_here) rfl (by omega)) ?_
   refine PQ.pure (dst := (some 65)) (v := (.pointer (some ⟨(n1 + 1), ((ps.findIdx (gtb far)) + 1), some 1⟩))) rfl rfl rfl noStore (none_ok _ _) rfl ?_
   refine PQ.pure (dst := (some 66)) (v := (.int .i64 ((insG ps far).getD ((ps.findIdx (gtb far)) + 1) dGap).to)) rfl rfl rfl _ (seen_any (V := []) (D := [(g, some ⟨[(xGp210 cum n1 K jd M)], 3, 131, true⟩), ((n1 + 1), some (oGap (insG ps far))), (jp, none), (n1, some ⟨[[(.int .i64 far), (.int .i64 far)]], 2, 60, true⟩), (n, some ⟨[[(.int .i64 far)]], 1, 3, true⟩)]) (by kernel_rfl)) (r_loadF (c := cGap) dGap rfl rfl rfl rfl rfl (get_there (by omega) get_here) (by have := (show (insG ps far).length = K + 1 from by rw [insG_len, hps]); omega) rfl) ?_
   refine PQ.pure (dst := (some 67)) (v := (.pointer (some ⟨(n1 + 1), (ps.findIdx (gtb far)), some 0⟩))) rfl rfl rfl _ (seen_any (V := []) (D := [(g, some ⟨[(xGp210 cum n1 K jd M)], 3, 131, true⟩), ((n1 + 1), some (oGap (insG ps far))), (jp, none), (n1, some ⟨[[(.int .i64 far), (.int .i64 far)]], 2, 60, true⟩), (n, some ⟨[[(.int .i64 far)]], 1, 3, true⟩)]) (by kernel_rfl)) (r_iaS (l := (ps.findIdx (gtb far))) rfl rfl rfl rfl rfl rfl (by omega) (by omega) (get_there (by omega) get_here) rfl (by omega)) ?_
   refine PQ.pure (dst := (some 68)) (v := (.pointer (some ⟨(n1 + 1), (ps.findIdx (gtb far)), some 1⟩))) rfl rfl rfl noStore (none_ok _ _) rfl ?_
   refine PQ.op (dst := none) (v := (.tuple #[])) (n1 := n2) (d1 := [((n1 + 1), some (oGap ((insG ps far).set (ps.findIdx (gtb far)) (xGp25 ps far))))]) rfl rfl rfl _ (seen_any (V := []) (D := [(g, some ⟨[(xGp210 cum n1 K jd M)], 3, 131, true⟩), ((n1 + 1), some (oGap (insG ps far))), (jp, none), (n1, some ⟨[[(.int .i64 far), (.int .i64 far)]], 2, 60, true⟩), (n, some ⟨[[(.int .i64 far)]], 1, 3, true⟩)]) (by kernel_rfl)) (r_storeR (c := cGap) dGap (xGp25 ps far) rfl rfl rfl rfl rfl rfl rfl (get_there (by omega) get_here) (by have := (show (insG ps far).length = K + 1 from by rw [insG_len, hps]); omega) (Nat.le_of_ble_eq_true rfl) rfl) (by omega) (kp1 (wr_tight (by kernel_rfl) (by omega))) ?_
   refine PQ.done (d := [((n1 + 1), some (oGap ((insG ps far).set (ps.findIdx (gtb far)) (xGp25 ps far))))]) (by kernel_rfl) ?_
   intro _
   refine RA.region env_ok ?_
   refine OA.p (some 69) (Pt g 0 0) rfl rfl rfl rfl ?_
   refine OA.p (some 70) (Pt g 0 0) rfl rfl rfl rfl ?_
   refine OA.p (some 71) (Pt g 0 0) rfl rfl rfl rfl ?_
   refine OA.p (some 72) (Pt g 0 1) rfl rfl rfl rfl ?_
   refine OA.p (some 73) (.slice (some ⟨(n1 + 1), 0, none⟩) (K + 1) 2) rfl rfl rfl (r_load1 rfl rfl rfl rfl rfl (get_there (by omega) get_here) rfl rfl) ?_
   refine OA.p (some 74) (.int .i64 (((ps.findIdx (gtb far)) : Nat) : Int)) rfl rfl rfl rfl ?_
   refine OA.p (some 75) (.int .i64 ((((ps.findIdx (gtb far)) + 1) : Nat) : Int)) rfl rfl rfl (r_bin rfl rfl rfl (b_add (i64_eq (by omega)))) ?_
   refine OA.p (some 76) (.int .i64 (((ps.findIdx (gtb far)) : Nat) : Int)) rfl rfl rfl rfl ?_
   refine OA.p (some 77) (.int .i64 ((((ps.findIdx (gtb far)) + 2) : Nat) : Int)) rfl rfl rfl (r_bin rfl rfl rfl (b_add (i64_eq (by omega)))) ?_
   refine OA.call (dst := (some 78)) (all := [(.slice (some ⟨(n1 + 1), 0, none⟩) (K + 1) 2), (.int .i64 ((((ps.findIdx (gtb far)) + 1) : Nat) : Int)), (.int .i64 ((((ps.findIdx (gtb far)) + 2) : Nat) : Int))]) rfl rfl rfl rfl rfl rfl rfl rfl (CQ.imp (gDel (hd.of (by omega) (kb6 (by omega))) (n1 + 1) (K + 1) ((ps.findIdx (gtb far)) + 1) ((insG ps far).set (ps.findIdx (gtb far)) (xGp25 ps far)) (by rw [List.length_set, show (insG ps far).length = K + 1 from by rw [insG_len, hps]]) (by omega) (by omega) get_here) ?_)
   rintro _ n4 _ ⟨rfl, rfl⟩ hn4
   refine OA.app1 ?_
   refine OA.p (some 79) (Pt g 0 0) rfl rfl rfl rfl ?_
   refine OA.p (some 80) (Pt g 0 1) rfl rfl rfl rfl ?_
   refine OA.op1 (dst := none) (v := (.tuple #[])) (n1 := n4) (w := (g, some ⟨[(xGp28 cum n1 K jd M)], 3, 131, true⟩)) rfl rfl rfl (r_store rfl rfl rfl rfl rfl rfl rfl (gt2 (by omega) get_here) rfl rfl (Nat.le_of_ble_eq_true rfl) rfl) (by omega) ?_
   refine OA.nil ?_
   intro _
   refine RA.weaken (D' := [(g, some ⟨[(xGp28 cum n1 K jd M)], 3, 131, true⟩), ((n1 + 1), some (oGap (((insG ps far).set (ps.findIdx (gtb far)) (xGp25 ps far)).eraseIdx ((ps.findIdx (gtb far)) + 1)))), (jp, none), (n1, some ⟨[[(.int .i64 far), (.int .i64 far)]], 2, 60, true⟩), (n, some ⟨[[(.int .i64 far)]], 1, 3, true⟩)]) hd (Less.of (fac (mm (fun _ => get_here) (fun _ => get_here)) (fac (mm (fun _ => (get_there (by omega) get_here)) (fun _ => (get_there (by omega) get_here))) (fac (mm (fun _ => (gt2 (by omega) get_here)) (fun _ => (gt5 (by omega) get_here))) (fac (mm (fun _ => (gt3 (by omega) get_here)) (fun _ => (gt6 (by omega) get_here))) (fac (mm (fun _ => (gt4 (by omega) get_here)) (fun _ => (gt7 (by omega) get_here))) fan))))) (gone_of (by simp only [goneP, memP, List.cons_append, List.nil_append, true_or, or_true, true_and, and_true, or_false] <;> omega))) ?_
   refine RA.rebase [(0, (Pt g 0 0)), (1, (.int .i64 far)), (3, (Pt n 0 0)), (4, (.int .i64 (((ps.findIdx (gtb far)) : Nat) : Int))), (12, (.bool false)), (52, (.bool true))] ⟨rfl, rfl, rfl, rfl, rfl, rfl, trivial⟩ (fun τr5 => ?_)
   refine RA.seq hd ?_
   refine RA.par (md := [some [], some [], some [], some [], some [], some [], some [g], some [], some [], none, some [], none, some [n], some [], some [], some []]) env_ok (hd.of (by omega) (kb5 (by omega))) (by kernel_rfl) ?_
   refine PQ.pure (dst := (some 81)) (v := (.int .i64 (((ps.findIdx (gtb far)) : Nat) : Int))) rfl rfl rfl noStore (none_ok _ _) rfl ?_
   by_cases hc5 : 0 < (((ps.findIdx (gtb far)) : Nat) : Int)
   ·
    refine PQ.pure (dst := (some 82)) (v := (.bool true)) rfl rfl rfl noStore (none_ok _ _) (Eq.trans (r_bin rfl rfl rfl (b_gtr rfl)) (dT hc5)) ?_
    refine PQ.pure (dst := (some 83)) (v := (.bool true)) rfl rfl rfl noStore (none_ok _ _) rfl ?_
    refine PQ.pure (dst := (some 84)) (v := (Pt g 0 0)) rfl rfl rfl noStore (none_ok _ _) rfl ?_
    refine PQ.pure (dst := (some 85)) (v := (Pt g 0 0)) rfl rfl rfl noStore (none_ok _ _) rfl ?_
    refine PQ.pure (dst := (some 86)) (v := (Pt g 0 1)) rfl rfl rfl noStore (none_ok _ _) rfl ?_
    refine PQ.pure (dst := (some 87)) (v := (.slice (some ⟨(n1 + 1), 0, none⟩) ((K + 1) - 1) 2)) rfl rfl rfl (app [(g, some ⟨[(xGp28 cum n1 K jd M)], 3, 131, true⟩)] noStore) (seen_one (V := []) (D := [(g, some ⟨[(xGp28 cum n1 K jd M)], 3, 131, true⟩), ((n1 + 1), some (oGap (((insG ps far).set (ps.findIdx (gtb far)) (xGp25 ps far)).eraseIdx ((ps.findIdx (gtb far)) + 1)))), (jp, none), (n1, some ⟨[[(.int .i64 far), (.int .i64 far)]], 2, 60, true⟩), (n, some ⟨[[(.int .i64 far)]], 1, 3, true⟩)]) (by kernel_rfl) get_here) (r_load1 rfl rfl rfl rfl rfl get_here rfl rfl) ?_
    refine PQ.pure (dst := (some 88)) (v := (.int .i64 (((ps.findIdx (gtb far)) : Nat) : Int))) rfl rfl rfl noStore (none_ok _ _) rfl ?_
    refine PQ.pure (dst := (some 89)) (v := (.int .i64 ((((ps.findIdx (gtb far)) - 1) : Nat) : Int))) rfl rfl rfl noStore (none_ok _ _) (r_bin rfl rfl rfl (b_sub (i64_eq (by omega)))) ?_
    refine PQ.pure (dst := (some 90)) (v := (.pointer (some ⟨(n1 + 1), ((ps.findIdx (gtb far)) - 1), some 0⟩))) rfl rfl rfl _ (seen_any (V := []) (D := [(g, some ⟨[(xGp28 cum n1 K jd M)], 3, 131, true⟩), ((n1 + 1), some (oGap (((insG ps far).set (ps.findIdx (gtb far)) (xGp25 ps far)).eraseIdx ((ps.findIdx (gtb far)) + 1)))), (jp, none), (n1, some ⟨[[(.int .i64 far), (.int .i64 far)]], 2, 60, true⟩), (n, some ⟨[[(.int .i64 far)]], 1, 3, true⟩)]) (by kernel_rfl)) (r_iaS (l := ((ps.findIdx (gtb far)) - 1)) rfl rfl rfl rfl rfl rfl (by omega) (by omega) (get_there (by omega) get_here) rfl (by omega)) ?_
    refine PQ.pure (dst := (some 91)) (v := (.pointer (some ⟨(n1 + 1), ((ps.findIdx (gtb far)) - 1), some 1⟩))) rfl rfl rfl noStore (none_ok _ _) rfl ?_
    refine PQ.pure (dst := (some 92)) (v := (.int .i64 ((((insG ps far).set (ps.findIdx (gtb far)) (xGp25 ps far)).eraseIdx ((ps.findIdx (gtb far)) + 1)).getD ((ps.findIdx (gtb far)) - 1) dGap).to)) rfl rfl rfl _ (seen_any (V := []) (D := [(g, some ⟨[(xGp28 cum n1 K jd M)], 3, 131, true⟩), ((n1 + 1), some (oGap (((insG ps far).set (ps.findIdx (gtb far)) (xGp25 ps far)).eraseIdx ((ps.findIdx (gtb far)) + 1)))), (jp, none), (n1, some ⟨[[(.int .i64 far), (.int .i64 far)]], 2, 60, true⟩), (n, some ⟨[[(.int .i64 far)]], 1, 3, true⟩)]) (by kernel_rfl)) (r_loadF (c := cGap) dGap rfl rfl rfl rfl rfl (get_there (by omega) get_here) (by have := (show (((insG ps far).set (ps.findIdx (gtb far)) (xGp25 ps far)).eraseIdx ((ps.findIdx (gtb far)) + 1)).length = (K + 1) - 1 from by rw [List.length_eraseIdx_of_lt (by have hlo := (show ((insG ps far).set (ps.findIdx (gtb far)) (xGp25 ps far)).length = (K + 1) from by rw [List.length_set, show (insG ps far).length = K + 1 from by rw [insG_len, hps]]); omega)]; have hlo := (show ((insG ps far).set (ps.findIdx (gtb far)) (xGp25 ps far)).length = (K + 1) from by rw [List.length_set, show (insG ps far).length = K + 1 from by rw [insG_len, hps]]); omega); omega) rfl) ?_
    refine PQ.pure (dst := (some 93)) (v := (.int .i64 far)) rfl rfl rfl (app [(n, some ⟨[[(.int .i64 far)]], 1, 3, true⟩)] noStore) (seen_one (V := []) (D := [(g, some ⟨[(xGp28 cum n1 K jd M)], 3, 131, true⟩), ((n1 + 1), some (oGap (((insG ps far).set (ps.findIdx (gtb far)) (xGp25 ps far)).eraseIdx ((ps.findIdx (gtb far)) + 1)))), (jp, none), (n1, some ⟨[[(.int .i64 far), (.int .i64 far)]], 2, 60, true⟩), (n, some ⟨[[(.int .i64 far)]], 1, 3, true⟩)]) (by kernel_rfl) (gt4 (by omega) get_here)) (r_load1 rfl rfl rfl rfl rfl get_here rfl rfl) ?_
    refine PQ.pure (dst := (some 94)) (v := (.int .i64 (far - 1))) rfl rfl rfl noStore (none_ok _ _) (r_bin rfl rfl rfl (b_sub (i64_eq (by omega)))) ?_
    by_cases hc6 : ((((insG ps far).set (ps.findIdx (gtb far)) (xGp25 ps far)).eraseIdx ((ps.findIdx (gtb far)) + 1)).getD ((ps.findIdx (gtb far)) - 1) dGap).to = (far - 1)
    ·
     refine PQ.pure (dst := (some 95)) (v := (.bool true)) rfl rfl rfl noStore (none_ok _ _) (Eq.trans (r_bin rfl rfl rfl (b_eql rfl)) (dT hc6)) ?_
     refine PQ.pure (dst := (some 96)) (v := (.bool true)) rfl rfl rfl noStore (none_ok _ _) rfl ?_
     refine PQ.done (d := []) (by kernel_rfl) ?_
     intro _
     refine RA.condT rfl ?_
     refine RA.seq hd ?_
     refine RA.par (md := [some [], some [], some [], some [g], some [], some [], some [], some [], some [], some [g], some [], none, some [], none, none, some [], none]) env_ok (hd.of (by omega) (kb5 (by omega))) (by kernel_rfl) ?_
     refine PQ.pure (dst := (some 97)) (v := (Pt g 0 0)) rfl rfl rfl noStore (none_ok _ _) rfl ?_
     refine PQ.pure (dst := (some 98)) (v := (Pt g 0 0)) rfl rfl rfl noStore (none_ok _ _) rfl ?_
     refine PQ.pure (dst := (some 99)) (v := (Pt g 0 1)) rfl rfl rfl noStore (none_ok _ _) rfl ?_
     refine PQ.pure (dst := (some 100)) (v := (.slice (some ⟨(n1 + 1), 0, none⟩) ((K + 1) - 1) 2)) rfl rfl rfl (app [(g, some ⟨[(xGp28 cum n1 K jd M)], 3, 131, true⟩)] noStore) (seen_one (V := []) (D := [(g, some ⟨[(xGp28 cum n1 K jd M)], 3, 131, true⟩), ((n1 + 1), some (oGap (((insG ps far).set (ps.findIdx (gtb far)) (xGp25 ps far)).eraseIdx ((ps.findIdx (gtb far)) + 1)))), (jp, none), (n1, some ⟨[[(.int .i64 far), (.int .i64 far)]], 2, 60, true⟩), (n, some ⟨[[(.int .i64 far)]], 1, 3, true⟩)]) (by kernel_rfl) get_here) (r_load1 rfl rfl rfl rfl rfl get_here rfl rfl) ?_
     refine PQ.pure (dst := (some 101)) (v := (.int .i64 (((ps.findIdx (gtb far)) : Nat) : Int))) rfl rfl rfl noStore (none_ok _ _) rfl ?_
     refine PQ.pure (dst := (some 102)) (v := (.int .i64 ((((ps.findIdx (gtb far)) - 1) : Nat) : Int))) rfl rfl rfl noStore (none_ok _ _) (r_bin rfl rfl rfl (b_sub (i64_eq (by omega)))) ?_
     refine PQ.pure (dst := (some 103)) (v := (Pt g 0 0)) rfl rfl rfl noStore (none_ok _ _) rfl ?_
     refine PQ.pure (dst := (some 104)) (v := (Pt g 0 0)) rfl rfl rfl noStore (none_ok _ _) rfl ?_
     refine PQ.pure (dst := (some 105)) (v := (Pt g 0 1)) rfl rfl rfl noStore (none_ok _ _) rfl ?_
     refine PQ.pure (dst := (some 106)) (v := (.slice (some ⟨(n1 + 1), 0, none⟩) ((K + 1) - 1) 2)) rfl rfl rfl (app [(g, some ⟨[(xGp28 cum n1 K jd M)], 3, 131, true⟩)] noStore) (seen_one (V := []) (D := [(g, some ⟨[(xGp28 cum n1 K jd M)], 3, 131, true⟩), ((n1 + 1), some (oGap (((insG ps far).set (ps.findIdx (gtb far)) (xGp25 ps far)).eraseIdx ((ps.findIdx (gtb far)) + 1)))), (jp, none), (n1, some ⟨[[(.int .i64 far), (.int .i64 far)]], 2, 60, true⟩), (n, some ⟨[[(.int .i64 far)]], 1, 3, true⟩)]) (by kernel_rfl) get_here) (r_load1 rfl rfl rfl rfl rfl get_here rfl rfl) ?_
     refine PQ.pure (dst := (some 107)) (v := (.int .i64 (((ps.findIdx (gtb far)) : Nat) : Int))) rfl rfl rfl noStore (none_ok _ _) rfl ?_
     refine PQ.pure (dst := (some 108)) (v := (.pointer (some ⟨(n1 + 1), (ps.findIdx (gtb far)), some 0⟩))) rfl rfl rfl _ (seen_any (V := []) (D := [(g, some ⟨[(xGp28 cum n1 K jd M)], 3, 131, true⟩), ((n1 + 1), some (oGap (((insG ps far).set (ps.findIdx (gtb far)) (xGp25 ps far)).eraseIdx ((ps.findIdx (gtb far)) + 1)))), (jp, none), (n1, some ⟨[[(.int .i64 far), (.int .i64 far)]], 2, 60, true⟩), (n, some ⟨[[(.int .i64 far)]], 1, 3, true⟩)]) (by kernel_rfl)) (r_iaS (l := (ps.findIdx (gtb far))) rfl rfl rfl rfl rfl rfl (by omega) (by omega) (get_there (by omega) get_here) rfl (by omega)) ?_
     refine PQ.pure (dst := (some 109)) (v := (.pointer (some ⟨(n1 + 1), (ps.findIdx (gtb far)), some 1⟩))) rfl rfl rfl noStore (none_ok _ _) rfl ?_
     refine PQ.pure (dst := (some 110)) (v := (.int .i64 ((((insG ps far).set (ps.findIdx (gtb far)) (xGp25 ps far)).eraseIdx ((ps.findIdx (gtb far)) + 1)).getD (ps.findIdx (gtb far)) dGap).to)) rfl rfl rfl _ (seen_any (V := []) (D := [(g, some ⟨[(xGp28 cum n1 K jd M)], 3, 131, true⟩), ((n1 + 1), some (oGap (((insG ps far).set (ps.findIdx (gtb far)) (xGp25 ps far)).eraseIdx ((ps.findIdx (gtb far)) + 1)))), (jp, none), (n1, some ⟨[[(.int .i64 far), (.int .i64 far)]], 2, 60, true⟩), (n, some ⟨[[(.int .i64 far)]], 1, 3, true⟩)]) (by kernel_rfl)) (r_loadF (c := cGap) dGap rfl rfl rfl rfl rfl (get_there (by omega) get_here) (by have := (show (((insG ps far).set (ps.findIdx (gtb far)) (xGp25 ps far)).eraseIdx ((ps.findIdx (gtb far)) + 1)).length = (K + 1) - 1 from by rw [List.length_eraseIdx_of_lt (by have hlo := (show ((insG ps far).set (ps.findIdx (gtb far)) (xGp25 ps far)).length = (K + 1) from by rw [List.length_set, show (insG ps far).length = K + 1 from by rw [insG_len, hps]]); omega)]; have hlo := (show ((insG ps far).set (ps.findIdx (gtb far)) (xGp25 ps far)).length = (K + 1) from by rw [List.length_set, show (insG ps far).length = K + 1 from by rw [insG_len, hps]]); omega); omega) rfl) ?_
     refine PQ.pure (dst := (some 111)) (v := (.pointer (some ⟨(n1 + 1), ((ps.findIdx (gtb far)) - 1), some 0⟩))) rfl rfl rfl _ (seen_any (V := []) (D := [(g, some ⟨[(xGp28 cum n1 K jd M)], 3, 131, true⟩), ((n1 + 1), some (oGap (((insG ps far).set (ps.findIdx (gtb far)) (xGp25 ps far)).eraseIdx ((ps.findIdx (gtb far)) + 1)))), (jp, none), (n1, some ⟨[[(.int .i64 far), (.int .i64 far)]], 2, 60, true⟩), (n, some ⟨[[(.int .i64 far)]], 1, 3, true⟩)]) (by kernel_rfl)) (r_iaS (l := ((ps.findIdx (gtb far)) - 1)) rfl rfl rfl rfl rfl rfl (by omega) (by omega) (get_there (by omega) get_here) rfl (by omega)) ?_
     refine PQ.pure (dst := (some 112)) (v := (.pointer (some ⟨(n1 + 1), ((ps.findIdx (gtb far)) - 1), some 1⟩))) rfl rfl rfl noStore (none_ok _ _) rfl ?_
     refine PQ.op (dst := none) (v := (.tuple #[])) (n1 := n4) (d1 := [((n1 + 1), some (oGap ((((insG ps far).set (ps.findIdx (gtb far)) (xGp25 ps far)).eraseIdx ((ps.findIdx (gtb far)) + 1)).set ((ps.findIdx (gtb far)) - 1) (xGp21 ps far))))]) rfl rfl rfl _ (seen_any (V := []) (D := [(g, some ⟨[(xGp28 cum n1 K jd M)], 3, 131, true⟩), ((n1 + 1), some (oGap (((insG ps far).set (ps.findIdx (gtb far)) (xGp25 ps far)).eraseIdx ((ps.findIdx (gtb far)) + 1)))), (jp, none), (n1, some ⟨[[(.int .i64 far), (.int .i64 far)]], 2, 60, true⟩), (n, some ⟨[[(.int .i64 far)]], 1, 3, true⟩)]) (by kernel_rfl)) (r_storeR (c := cGap) dGap (xGp21 ps far) rfl rfl rfl rfl rfl rfl rfl (get_there (by omega) get_here) (by have := (show (((insG ps far).set (ps.findIdx (gtb far)) (xGp25 ps far)).eraseIdx ((ps.findIdx (gtb far)) + 1)).length = (K + 1) - 1 from by rw [List.length_eraseIdx_of_lt (by have hlo := (show ((insG ps far).set (ps.findIdx (gtb far)) (xGp25 ps far)).length = (K + 1) from by rw [List.length_set, show (insG ps far).length = K + 1 from by rw [insG_len, hps]]); omega)]; have hlo := (show ((insG ps far).set (ps.findIdx (gtb far)) (xGp25 ps far)).length = (K + 1) from by rw [List.length_set, show (insG ps far).length = K + 1 from by rw [insG_len, hps]]); omega); omega) (Nat.le_of_ble_eq_true rfl) rfl) (by omega) (kp1 (wr_tight (by kernel_rfl) (by omega))) ?_
     refine PQ.done (d := [((n1 + 1), some (oGap ((((insG ps far).set (ps.findIdx (gtb far)) (xGp25 ps far)).eraseIdx ((ps.findIdx (gtb far)) + 1)).set ((ps.findIdx (gtb far)) - 1) (xGp21 ps far))))]) (by kernel_rfl) ?_
     intro _
     refine RA.weaken (D' := [((n1 + 1), some (oGap ((((insG ps far).set (ps.findIdx (gtb far)) (xGp25 ps far)).eraseIdx ((ps.findIdx (gtb far)) + 1)).set ((ps.findIdx (gtb far)) - 1) (xGp21 ps far)))), (g, some ⟨[(xGp28 cum n1 K jd M)], 3, 131, true⟩), (jp, none), (n1, some ⟨[[(.int .i64 far), (.int .i64 far)]], 2, 60, true⟩), (n, some ⟨[[(.int .i64 far)]], 1, 3, true⟩)]) hd (Less.of (fac (mm (fun _ => get_here) (fun _ => get_here)) (fac (mm (fun _ => (get_there (by omega) get_here)) (fun _ => (get_there (by omega) get_here))) (fac (mm (fun _ => (gt2 (by omega) get_here)) (fun _ => (gt3 (by omega) get_here))) (fac (mm (fun _ => (gt3 (by omega) get_here)) (fun _ => (gt4 (by omega) get_here))) (fac (mm (fun _ => (gt4 (by omega) get_here)) (fun _ => (gt5 (by omega) get_here))) fan))))) (gone_of (by simp only [goneP, memP, List.cons_append, List.nil_append, true_or, or_true, true_and, and_true, or_false] <;> omega))) ?_
     refine RA.rebase [(0, (Pt g 0 0)), (1, (.int .i64 far)), (3, (Pt n 0 0)), (4, (.int .i64 (((ps.findIdx (gtb far)) : Nat) : Int))), (12, (.bool false)), (52, (.bool true)), (96, (.bool true))] ⟨rfl, rfl, rfl, rfl, rfl, rfl, rfl, trivial⟩ (fun τr6 => ?_)
     refine RA.region env_ok ?_
     refine OA.p (some 113) (Pt g 0 0) rfl rfl rfl rfl ?_
     refine OA.p (some 114) (Pt g 0 0) rfl rfl rfl rfl ?_
     refine OA.p (some 115) (Pt g 0 0) rfl rfl rfl rfl ?_
     refine OA.p (some 116) (Pt g 0 1) rfl rfl rfl rfl ?_
     refine OA.p (some 117) (.slice (some ⟨(n1 + 1), 0, none⟩) ((K + 1) - 1) 2) rfl rfl rfl (r_load1 rfl rfl rfl rfl rfl (get_there (by omega) get_here) rfl rfl) ?_
     refine OA.p (some 118) (.int .i64 (((ps.findIdx (gtb far)) : Nat) : Int)) rfl rfl rfl rfl ?_
     refine OA.p (some 119) (.int .i64 (((ps.findIdx (gtb far)) : Nat) : Int)) rfl rfl rfl rfl ?_
     refine OA.p (some 120) (.int .i64 ((((ps.findIdx (gtb far)) + 1) : Nat) : Int)) rfl rfl rfl (r_bin rfl rfl rfl (b_add (i64_eq (by omega)))) ?_
     refine OA.call (dst := (some 121)) (all := [(.slice (some ⟨(n1 + 1), 0, none⟩) ((K + 1) - 1) 2), (.int .i64 (((ps.findIdx (gtb far)) : Nat) : Int)), (.int .i64 ((((ps.findIdx (gtb far)) + 1) : Nat) : Int))]) rfl rfl rfl rfl rfl rfl rfl rfl (CQ.imp (gDel (hd.of (by omega) (kb5 (by omega))) (n1 + 1) ((K + 1) - 1) (ps.findIdx (gtb far)) ((((insG ps far).set (ps.findIdx (gtb far)) (xGp25 ps far)).eraseIdx ((ps.findIdx (gtb far)) + 1)).set ((ps.findIdx (gtb far)) - 1) (xGp21 ps far)) (by rw [List.length_set, show (((insG ps far).set (ps.findIdx (gtb far)) (xGp25 ps far)).eraseIdx ((ps.findIdx (gtb far)) + 1)).length = (K + 1) - 1 from by rw [List.length_eraseIdx_of_lt (by have hlo := (show ((insG ps far).set (ps.findIdx (gtb far)) (xGp25 ps far)).length = (K + 1) from by rw [List.length_set, show (insG ps far).length = K + 1 from by rw [insG_len, hps]]); omega)]; have hlo := (show ((insG ps far).set (ps.findIdx (gtb far)) (xGp25 ps far)).length = (K + 1) from by rw [List.length_set, show (insG ps far).length = K + 1 from by rw [insG_len, hps]]); omega]) (by omega) (by omega) get_here) ?_)
     rintro _ n7 _ ⟨rfl, rfl⟩ hn7
     refine OA.app1 ?_
     refine OA.p (some 122) (Pt g 0 0) rfl rfl rfl rfl ?_
     refine OA.p (some 123) (Pt g 0 1) rfl rfl rfl rfl ?_
     refine OA.op1 (dst := none) (v := (.tuple #[])) (n1 := n7) (w := (g, some ⟨[[(W cum), (.slice (some ⟨(n1 + 1), 0, none⟩) (((K + 1) - 1) - 1) 2), (.slice (some ⟨jd, 0, none⟩) M 2)]], 3, 131, true⟩)) rfl rfl rfl (r_store rfl rfl rfl rfl rfl rfl rfl (gt2 (by omega) get_here) rfl rfl (Nat.le_of_ble_eq_true rfl) rfl) (by omega) ?_
     refine OA.nil ?_
     refine ⟨.inl rfl, [], resL_nil, [(g, some ⟨[[(W cum), (.slice (some ⟨(n1 + 1), 0, none⟩) (((K + 1) - 1) - 1) 2), (.slice (some ⟨jd, 0, none⟩) M 2)]], 3, 131, true⟩), ((n1 + 1), some (oGap (((((insG ps far).set (ps.findIdx (gtb far)) (xGp25 ps far)).eraseIdx ((ps.findIdx (gtb far)) + 1)).set ((ps.findIdx (gtb far)) - 1) (xGp21 ps far)).eraseIdx (ps.findIdx (gtb far))))), (jp, none)], (Less.of (fac (mm (fun _ => get_here) (fun _ => get_here)) (fac (mm (fun _ => (get_there (by omega) get_here)) (fun _ => (get_there (by omega) get_here))) (fac (mm (fun _ => (gt2 (by omega) get_here)) (fun _ => (gt4 (by omega) get_here))) fan))) (gone_of (by simp only [goneP, memP, List.cons_append, List.nil_append, true_or, or_true, true_and, and_true, or_false] <;> omega))), ⟨(n1 + 1), by omega, by omega, (((K + 1) - 1) - 1), by rw [(show putL ps far = (((((insG ps far).set (ps.findIdx (gtb far)) (xGp25 ps far)).eraseIdx ((ps.findIdx (gtb far)) + 1)).set ((ps.findIdx (gtb far)) - 1) (xGp21 ps far)).eraseIdx (ps.findIdx (gtb far))) from by unfold putL; rw [show mrg1 (insG ps far) (ps.findIdx (gtb far)) far = (((insG ps far).set (ps.findIdx (gtb far)) (xGp27 ps far)).eraseIdx ((ps.findIdx (gtb far)) + 1)) from if_pos ⟨by rw [insG_len]; omega, hc4⟩]; exact if_pos ⟨by omega, hc6⟩)]; exact (show (((((insG ps far).set (ps.findIdx (gtb far)) (xGp25 ps far)).eraseIdx ((ps.findIdx (gtb far)) + 1)).set ((ps.findIdx (gtb far)) - 1) (xGp21 ps far)).eraseIdx (ps.findIdx (gtb far))).length = ((K + 1) - 1) - 1 from by rw [List.length_eraseIdx_of_lt (by have hlo := (show ((((insG ps far).set (ps.findIdx (gtb far)) (xGp25 ps far)).eraseIdx ((ps.findIdx (gtb far)) + 1)).set ((ps.findIdx (gtb far)) - 1) (xGp21 ps far)).length = ((K + 1) - 1) from by rw [List.length_set, show (((insG ps far).set (ps.findIdx (gtb far)) (xGp25 ps far)).eraseIdx ((ps.findIdx (gtb far)) + 1)).length = (K + 1) - 1 from by rw [List.length_eraseIdx_of_lt (by have hlo := (show ((insG ps far).set (ps.findIdx (gtb far)) (xGp25 ps far)).length = (K + 1) from by rw [List.length_set, show (insG ps far).length = K + 1 from by rw [insG_len, hps]]); omega)]; have hlo := (show ((insG ps far).set (ps.findIdx (gtb far)) (xGp25 ps far)).length = (K + 1) from by rw [List.length_set, show (insG ps far).length = K + 1 from by rw [insG_len, hps]]); omega]); omega)]; have hlo := (show ((((insG ps far).set (ps.findIdx (gtb far)) (xGp25 ps far)).eraseIdx ((ps.findIdx (gtb far)) + 1)).set ((ps.findIdx (gtb far)) - 1) (xGp21 ps far)).length = ((K + 1) - 1) from by rw [List.length_set, show (((insG ps far).set (ps.findIdx (gtb far)) (xGp25 ps far)).eraseIdx ((ps.findIdx (gtb far)) + 1)).length = (K + 1) - 1 from by rw [List.length_eraseIdx_of_lt (by have hlo := (show ((insG ps far).set (ps.findIdx (gtb far)) (xGp25 ps far)).length = (K + 1) from by rw [List.length_set, show (insG ps far).length = K + 1 from by rw [insG_len, hps]]); omega)]; have hlo := (show ((insG ps far).set (ps.findIdx (gtb far)) (xGp25 ps far)).length = (K + 1) from by rw [List.length_set, show (insG ps far).length = K + 1 from by rw [insG_len, hps]]); omega]); omega), by omega, rfl, by rw [(show putL ps far = (((((insG ps far).set (ps.findIdx (gtb far)) (xGp25 ps far)).eraseIdx ((ps.findIdx (gtb far)) + 1)).set ((ps.findIdx (gtb far)) - 1) (xGp21 ps far)).eraseIdx (ps.findIdx (gtb far))) from by unfold putL; rw [show mrg1 (insG ps far) (ps.findIdx (gtb far)) far = (((insG ps far).set (ps.findIdx (gtb far)) (xGp27 ps far)).eraseIdx ((ps.findIdx (gtb far)) + 1)) from if_pos ⟨by rw [insG_len]; omega, hc4⟩]; exact if_pos ⟨by omega, hc6⟩)]⟩⟩
    ·
     refine PQ.pure (dst := (some 95)) (v := (.bool false)) rfl rfl rfl noStore (none_ok _ _) (Eq.trans (r_bin rfl rfl rfl (b_eql rfl)) (dF hc6)) ?_
     refine PQ.pure (dst := (some 96)) (v := (.bool false)) rfl rfl rfl noStore (none_ok _ _) rfl ?_
     refine PQ.done (d := []) (by kernel_rfl) ?_
     intro _
     refine RA.condF rfl ?_
     refine RA.skip env_ok ?_
     refine ⟨.inl rfl, [], resL_nil, [(g, some ⟨[(xGp28 cum n1 K jd M)], 3, 131, true⟩), ((n1 + 1), some (oGap (((insG ps far).set (ps.findIdx (gtb far)) (xGp25 ps far)).eraseIdx ((ps.findIdx (gtb far)) + 1)))), (jp, none)], (Less.of (fac (mm (fun _ => get_here) (fun _ => get_here)) (fac (mm (fun _ => (get_there (by omega) get_here)) (fun _ => (get_there (by omega) get_here))) (fac (mm (fun _ => (gt2 (by omega) get_here)) (fun _ => (gt2 (by omega) get_here))) fan))) (gone_of (by simp only [goneP, memP, List.cons_append, List.nil_append, true_or, or_true, true_and, and_true, or_false] <;> omega))), ⟨(n1 + 1), by omega, by omega, ((K + 1) - 1), by rw [(show putL ps far = (((insG ps far).set (ps.findIdx (gtb far)) (xGp25 ps far)).eraseIdx ((ps.findIdx (gtb far)) + 1)) from by unfold putL; rw [show mrg1 (insG ps far) (ps.findIdx (gtb far)) far = (((insG ps far).set (ps.findIdx (gtb far)) (xGp27 ps far)).eraseIdx ((ps.findIdx (gtb far)) + 1)) from if_pos ⟨by rw [insG_len]; omega, hc4⟩]; exact if_neg (fun h => hc6 h.2))]; exact (show (((insG ps far).set (ps.findIdx (gtb far)) (xGp25 ps far)).eraseIdx ((ps.findIdx (gtb far)) + 1)).length = (K + 1) - 1 from by rw [List.length_eraseIdx_of_lt (by have hlo := (show ((insG ps far).set (ps.findIdx (gtb far)) (xGp25 ps far)).length = (K + 1) from by rw [List.length_set, show (insG ps far).length = K + 1 from by rw [insG_len, hps]]); omega)]; have hlo := (show ((insG ps far).set (ps.findIdx (gtb far)) (xGp25 ps far)).length = (K + 1) from by rw [List.length_set, show (insG ps far).length = K + 1 from by rw [insG_len, hps]]); omega), by omega, rfl, by rw [(show putL ps far = (((insG ps far).set (ps.findIdx (gtb far)) (xGp25 ps far)).eraseIdx ((ps.findIdx (gtb far)) + 1)) from by unfold putL; rw [show mrg1 (insG ps far) (ps.findIdx (gtb far)) far = (((insG ps far).set (ps.findIdx (gtb far)) (xGp27 ps far)).eraseIdx ((ps.findIdx (gtb far)) + 1)) from if_pos ⟨by rw [insG_len]; omega, hc4⟩]; exact if_neg (fun h => hc6 h.2))]⟩⟩
   ·
    refine PQ.pure (dst := (some 82)) (v := (.bool false)) rfl rfl rfl noStore (none_ok _ _) (Eq.trans (r_bin rfl rfl rfl (b_gtr rfl)) (dF hc5)) ?_
    refine PQ.pure (dst := (some 83)) (v := (.bool false)) rfl rfl rfl noStore (none_ok _ _) rfl ?_
    refine PQ.off (dst := (some 84)) rfl rfl rfl ?_
    refine PQ.off (dst := (some 85)) rfl rfl rfl ?_
    refine PQ.off (dst := (some 86)) rfl rfl rfl ?_
    refine PQ.off (dst := (some 87)) rfl rfl rfl ?_
    refine PQ.off (dst := (some 88)) rfl rfl rfl ?_
    refine PQ.off (dst := (some 89)) rfl rfl rfl ?_
    refine PQ.off (dst := (some 90)) rfl rfl rfl ?_
    refine PQ.off (dst := (some 91)) rfl rfl rfl ?_
    refine PQ.off (dst := (some 92)) rfl rfl rfl ?_
    refine PQ.off (dst := (some 93)) rfl rfl rfl ?_
    refine PQ.off (dst := (some 94)) rfl rfl rfl ?_
    refine PQ.off (dst := (some 95)) rfl rfl rfl ?_
    refine PQ.pure (dst := (some 96)) (v := (.bool false)) rfl rfl rfl noStore (none_ok _ _) rfl ?_
    refine PQ.done (d := []) (by kernel_rfl) ?_
    intro _
    refine RA.condF rfl ?_
    refine RA.skip env_ok ?_
    refine ⟨.inl rfl, [], resL_nil, [(g, some ⟨[(xGp28 cum n1 K jd M)], 3, 131, true⟩), ((n1 + 1), some (oGap (((insG ps far).set (ps.findIdx (gtb far)) (xGp25 ps far)).eraseIdx ((ps.findIdx (gtb far)) + 1)))), (jp, none)], (Less.of (fac (mm (fun _ => get_here) (fun _ => get_here)) (fac (mm (fun _ => (get_there (by omega) get_here)) (fun _ => (get_there (by omega) get_here))) (fac (mm (fun _ => (gt2 (by omega) get_here)) (fun _ => (gt2 (by omega) get_here))) fan))) (gone_of (by simp only [goneP, memP, List.cons_append, List.nil_append, true_or, or_true, true_and, and_true, or_false] <;> omega))), ⟨(n1 + 1), by omega, by omega, ((K + 1) - 1), by rw [(show putL ps far = (((insG ps far).set (ps.findIdx (gtb far)) (xGp25 ps far)).eraseIdx ((ps.findIdx (gtb far)) + 1)) from by unfold putL; rw [show mrg1 (insG ps far) (ps.findIdx (gtb far)) far = (((insG ps far).set (ps.findIdx (gtb far)) (xGp27 ps far)).eraseIdx ((ps.findIdx (gtb far)) + 1)) from if_pos ⟨by rw [insG_len]; omega, hc4⟩]; exact if_neg (fun h => by have h0 := h.1; omega))]; exact (show (((insG ps far).set (ps.findIdx (gtb far)) (xGp25 ps far)).eraseIdx ((ps.findIdx (gtb far)) + 1)).length = (K + 1) - 1 from by rw [List.length_eraseIdx_of_lt (by have hlo := (show ((insG ps far).set (ps.findIdx (gtb far)) (xGp25 ps far)).length = (K + 1) from by rw [List.length_set, show (insG ps far).length = K + 1 from by rw [insG_len, hps]]); omega)]; have hlo := (show ((insG ps far).set (ps.findIdx (gtb far)) (xGp25 ps far)).length = (K + 1) from by rw [List.length_set, show (insG ps far).length = K + 1 from by rw [insG_len, hps]]); omega), by omega, rfl, by rw [(show putL ps far = (((insG ps far).set (ps.findIdx (gtb far)) (xGp25 ps far)).eraseIdx ((ps.findIdx (gtb far)) + 1)) from by unfold putL; rw [show mrg1 (insG ps far) (ps.findIdx (gtb far)) far = (((insG ps far).set (ps.findIdx (gtb far)) (xGp27 ps far)).eraseIdx ((ps.findIdx (gtb far)) + 1)) from if_pos ⟨by rw [insG_len]; omega, hc4⟩]; exact if_neg (fun h => by have h0 := h.1; omega))]⟩⟩
  ·
   refine PQ.pure (dst := (some 51)) (v := (.bool false)) rfl rfl rfl noStore (none_ok _ _) (Eq.trans (r_bin rfl rfl rfl (b_eql rfl)) (dF hc4)) ?_
   refine PQ.pure (dst := (some 52)) (v := (.bool false)) rfl rfl rfl noStore (none_ok _ _) rfl ?_
   refine PQ.done (d := []) (by kernel_rfl) ?_
   intro _
   refine RA.rebase [(0, (Pt g 0 0)), (1, (.int .i64 far)), (3, (Pt n 0 0)), (4, (.int .i64 (((ps.findIdx (gtb far)) : Nat) : Int))), (12, (.bool false)), (52, (.bool false))] ⟨rfl, rfl, rfl, rfl, rfl, rfl, trivial⟩ (fun τr8 => ?_)
   refine RA.condF rfl ?_
   refine RA.skip env_ok ?_
   intro _
   refine RA.seq hd ?_
   refine RA.par (md := [some [], some [], some [], some [], some [], some [], some [g], some [], some [], none, some [], none, some [n], some [], some [], some []]) env_ok (hd.of (by omega) (kb5 (by omega))) (by kernel_rfl) ?_
   refine PQ.pure (dst := (some 81)) (v := (.int .i64 (((ps.findIdx (gtb far)) : Nat) : Int))) rfl rfl rfl noStore (none_ok _ _) rfl ?_
   by_cases hc7 : 0 < (((ps.findIdx (gtb far)) : Nat) : Int)
   ·
    refine PQ.pure (dst := (some 82)) (v := (.bool true)) rfl rfl rfl noStore (none_ok _ _) (Eq.trans (r_bin rfl rfl rfl (b_gtr rfl)) (dT hc7)) ?_
    refine PQ.pure (dst := (some 83)) (v := (.bool true)) rfl rfl rfl noStore (none_ok _ _) rfl ?_
    refine PQ.pure (dst := (some 84)) (v := (Pt g 0 0)) rfl rfl rfl noStore (none_ok _ _) rfl ?_
    refine PQ.pure (dst := (some 85)) (v := (Pt g 0 0)) rfl rfl rfl noStore (none_ok _ _) rfl ?_
    refine PQ.pure (dst := (some 86)) (v := (Pt g 0 1)) rfl rfl rfl noStore (none_ok _ _) rfl ?_
    refine PQ.pure (dst := (some 87)) (v := (.slice (some ⟨(n1 + 1), 0, none⟩) (K + 1) 2)) rfl rfl rfl (app [(g, some ⟨[(xGp210 cum n1 K jd M)], 3, 131, true⟩)] noStore) (seen_one (V := []) (D := [(g, some ⟨[(xGp210 cum n1 K jd M)], 3, 131, true⟩), ((n1 + 1), some (oGap (insG ps far))), (jp, none), (n1, some ⟨[[(.int .i64 far), (.int .i64 far)]], 2, 60, true⟩), (n, some ⟨[[(.int .i64 far)]], 1, 3, true⟩)]) (by kernel_rfl) get_here) (r_load1 rfl rfl rfl rfl rfl get_here rfl rfl) ?_
    refine PQ.pure (dst := (some 88)) (v := (.int .i64 (((ps.findIdx (gtb far)) : Nat) : Int))) rfl rfl rfl noStore (none_ok _ _) rfl ?_
    refine PQ.pure (dst := (some 89)) (v := (.int .i64 ((((ps.findIdx (gtb far)) - 1) : Nat) : Int))) rfl rfl rfl noStore (none_ok _ _) (r_bin rfl rfl rfl (b_sub (i64_eq (by omega)))) ?_
    refine PQ.pure (dst := (some 90)) (v := (.pointer (some ⟨(n1 + 1), ((ps.findIdx (gtb far)) - 1), some 0⟩))) rfl rfl rfl _ (seen_any (V := []) (D := [(g, some ⟨[(xGp210 cum n1 K jd M)], 3, 131, true⟩), ((n1 + 1), some (oGap (insG ps far))), (jp, none), (n1, some ⟨[[(.int .i64 far), (.int .i64 far)]], 2, 60, true⟩), (n, some ⟨[[(.int .i64 far)]], 1, 3, true⟩)]) (by kernel_rfl)) (r_iaS (l := ((ps.findIdx (gtb far)) - 1)) rfl rfl rfl rfl rfl rfl (by omega) (by omega) (get_there (by omega) get_here) rfl (by omega)) ?_
    refine PQ.pure (dst := (some 91)) (v := (.pointer (some ⟨(n1 + 1), ((ps.findIdx (gtb far)) - 1), some 1⟩))) rfl rfl rfl noStore (none_ok _ _) rfl ?_
    refine PQ.pure (dst := (some 92)) (v := (.int .i64 ((insG ps far).getD ((ps.findIdx (gtb far)) - 1) dGap).to)) rfl rfl rfl _ (seen_any (V := []) (D := [(g, some ⟨[(xGp210 cum n1 K jd M)], 3, 131, true⟩), ((n1 + 1), some (oGap (insG ps far))), (jp, none), (n1, some ⟨[[(.int .i64 far), (.int .i64 far)]], 2, 60, true⟩), (n, some ⟨[[(.int .i64 far)]], 1, 3, true⟩)]) (by kernel_rfl)) (r_loadF (c := cGap) dGap rfl rfl rfl rfl rfl (get_there (by omega) get_here) (by have := (show (insG ps far).length = K + 1 from by rw [insG_len, hps]); omega) rfl) ?_
    refine PQ.pure (dst := (some 93)) (v := (.int .i64 far)) rfl rfl rfl (app [(n, some ⟨[[(.int .i64 far)]], 1, 3, true⟩)] noStore) (seen_one (V := []) (D := [(g, some ⟨[(xGp210 cum n1 K jd M)], 3, 131, true⟩), ((n1 + 1), some (oGap (insG ps far))), (jp, none), (n1, some ⟨[[(.int .i64 far), (.int .i64 far)]], 2, 60, true⟩), (n, some ⟨[[(.int .i64 far)]], 1, 3, true⟩)]) (by kernel_rfl) (gt4 (by omega) get_here)) (r_load1 rfl rfl rfl rfl rfl get_here rfl rfl) ?_
    refine PQ.pure (dst := (some 94)) (v := (.int .i64 (far - 1))) rfl rfl rfl noStore (none_ok _ _) (r_bin rfl rfl rfl (b_sub (i64_eq (by omega)))) ?_
    by_cases hc8 : ((insG ps far).getD ((ps.findIdx (gtb far)) - 1) dGap).to = (far - 1)
    ·
     refine PQ.pure (dst := (some 95)) (v := (.bool true)) rfl rfl rfl noStore (none_ok _ _) (Eq.trans (r_bin rfl rfl rfl (b_eql rfl)) (dT hc8)) ?_
     refine PQ.pure (dst := (some 96)) (v := (.bool true)) rfl rfl rfl noStore (none_ok _ _) rfl ?_
     refine PQ.done (d := []) (by kernel_rfl) ?_
     intro _
     refine RA.condT rfl ?_
     refine RA.seq hd ?_
     refine RA.par (md := [some [], some [], some [], some [g], some [], some [], some [], some [], some [], some [g], some [], none, some [], none, none, some [], none]) env_ok (hd.of (by omega) (kb5 (by omega))) (by kernel_rfl) ?_
     refine PQ.pure (dst := (some 97)) (v := (Pt g 0 0)) rfl rfl rfl noStore (none_ok _ _) rfl ?_
     refine PQ.pure (dst := (some 98)) (v := (Pt g 0 0)) rfl rfl rfl noStore (none_ok _ _) rfl ?_
     refine PQ.pure (dst := (some 99)) (v := (Pt g 0 1)) rfl rfl rfl noStore (none_ok _ _) rfl ?_
     refine PQ.pure (dst := (some 100)) (v := (.slice (some ⟨(n1 + 1), 0, none⟩) (K + 1) 2)) rfl rfl rfl (app [(g, some ⟨[(xGp210 cum n1 K jd M)], 3, 131, true⟩)] noStore) (seen_one (V := []) (D := [(g, some ⟨[(xGp210 cum n1 K jd M)], 3, 131, true⟩), ((n1 + 1), some (oGap (insG ps far))), (jp, none), (n1, some ⟨[[(.int .i64 far), (.int .i64 far)]], 2, 60, true⟩), (n, some ⟨[[(.int .i64 far)]], 1, 3, true⟩)]) (by kernel_rfl) get_here) (r_load1 rfl rfl rfl rfl rfl get_here rfl rfl) ?_
     refine PQ.pure (dst := (some 101)) (v := (.int .i64 (((ps.findIdx (gtb far)) : Nat) : Int))) rfl rfl rfl noStore (none_ok _ _) rfl ?_
     refine PQ.pure (dst := (some 102)) (v := (.int .i64 ((((ps.findIdx (gtb far)) - 1) : Nat) : Int))) rfl rfl rfl noStore (none_ok _ _) (r_bin rfl rfl rfl (b_sub (i64_eq (by omega)))) ?_
     refine PQ.pure (dst := (some 103)) (v := (Pt g 0 0)) rfl rfl rfl noStore (none_ok _ _) rfl ?_
     refine PQ.pure (dst := (some 104)) (v := (Pt g 0 0)) rfl rfl rfl noStore (none_ok _ _) rfl ?_
     refine PQ.pure (dst := (some 105)) (v := (Pt g 0 1)) rfl rfl rfl noStore (none_ok _ _) rfl ?_
     refine PQ.pure (dst := (some 106)) (v := (.slice (some ⟨(n1 + 1), 0, none⟩) (K + 1) 2)) rfl rfl rfl (app [(g, some ⟨[(xGp210 cum n1 K jd M)], 3, 131, true⟩)] noStore) (seen_one (V := []) (D := [(g, some ⟨[(xGp210 cum n1 K jd M)], 3, 131, true⟩), ((n1 + 1), some (oGap (insG ps far))), (jp, none), (n1, some ⟨[[(.int .i64 far), (.int .i64 far)]], 2, 60, true⟩), (n, some ⟨[[(.int .i64 far)]], 1, 3, true⟩)]) (by kernel_rfl) get_here) (r_load1 rfl rfl rfl rfl rfl get_here rfl rfl) ?_
     refine PQ.pure (dst := (some 107)) (v := (.int .i64 (((ps.findIdx (gtb far)) : Nat) : Int))) rfl rfl rfl noStore (none_ok _ _) rfl ?_
     refine PQ.pure (dst := (some 108)) (v := (.pointer (some ⟨(n1 + 1), (ps.findIdx (gtb far)), some 0⟩))) rfl rfl rfl _ (seen_any (V := []) (D := [(g, some ⟨[(xGp210 cum n1 K jd M)], 3, 131, true⟩), ((n1 + 1), some (oGap (insG ps far))), (jp, none), (n1, some ⟨[[(.int .i64 far), (.int .i64 far)]], 2, 60, true⟩), (n, some ⟨[[(.int .i64 far)]], 1, 3, true⟩)]) (by kernel_rfl)) (r_iaS (l := (ps.findIdx (gtb far))) rfl rfl rfl rfl rfl rfl (by omega) (by omega) (get_there (by omega) get_here) rfl (by omega)) ?_
     refine PQ.pure (dst := (some 109)) (v := (.pointer (some ⟨(n1 + 1), (ps.findIdx (gtb far)), some 1⟩))) rfl rfl rfl noStore (none_ok _ _) rfl ?_
     refine PQ.pure (dst := (some 110)) (v := (.int .i64 ((insG ps far).getD (ps.findIdx (gtb far)) dGap).to)) rfl rfl rfl _ (seen_any (V := []) (D := [(g, some ⟨[(xGp210 cum n1 K jd M)], 3, 131, true⟩), ((n1 + 1), some (oGap (insG ps far))), (jp, none), (n1, some ⟨[[(.int .i64 far), (.int .i64 far)]], 2, 60, true⟩), (n, some ⟨[[(.int .i64 far)]], 1, 3, true⟩)]) (by kernel_rfl)) (r_loadF (c := cGap) dGap rfl rfl rfl rfl rfl (get_there (by omega) get_here) (by have := (show (insG ps far).length = K + 1 from by rw [insG_len, hps]); omega) rfl) ?_
     refine PQ.pure (dst := (some 111)) (v := (.pointer (some ⟨(n1 + 1), ((ps.findIdx (gtb far)) - 1), some 0⟩))) rfl rfl rfl _ (seen_any (V := []) (D := [(g, some ⟨[(xGp210 cum n1 K jd M)], 3, 131, true⟩), ((n1 + 1), some (oGap (insG ps far))), (jp, none), (n1, some ⟨[[(.int .i64 far), (.int .i64 far)]], 2, 60, true⟩), (n, some ⟨[[(.int .i64 far)]], 1, 3, true⟩)]) (by kernel_rfl)) (r_iaS (l := ((ps.findIdx (gtb far)) - 1)) rfl rfl rfl rfl rfl rfl (by omega) (by omega) (get_there (by omega) get_here) rfl (by omega)) ?_
     refine PQ.pure (dst := (some 112)) (v := (.pointer (some ⟨(n1 + 1), ((ps.findIdx (gtb far)) - 1), some 1⟩))) rfl rfl rfl noStore (none_ok _ _) rfl ?_
     refine PQ.op (dst := none) (v := (.tuple #[])) (n1 := n2) (d1 := [((n1 + 1), some (oGap ((insG ps far).set ((ps.findIdx (gtb far)) - 1) (xGp26 ps far))))]) rfl rfl rfl _ (seen_any (V := []) (D := [(g, some ⟨[(xGp210 cum n1 K jd M)], 3, 131, true⟩), ((n1 + 1), some (oGap (insG ps far))), (jp, none), (n1, some ⟨[[(.int .i64 far), (.int .i64 far)]], 2, 60, true⟩), (n, some ⟨[[(.int .i64 far)]], 1, 3, true⟩)]) (by kernel_rfl)) (r_storeR (c := cGap) dGap (xGp26 ps far) rfl rfl rfl rfl rfl rfl rfl (get_there (by omega) get_here) (by have := (show (insG ps far).length = K + 1 from by rw [insG_len, hps]); omega) (Nat.le_of_ble_eq_true rfl) rfl) (by omega) (kp1 (wr_tight (by kernel_rfl) (by omega))) ?_
     refine PQ.done (d := [((n1 + 1), some (oGap ((insG ps far).set ((ps.findIdx (gtb far)) - 1) (xGp26 ps far))))]) (by kernel_rfl) ?_
     intro _
     refine RA.rebase [(0, (Pt g 0 0)), (1, (.int .i64 far)), (3, (Pt n 0 0)), (4, (.int .i64 (((ps.findIdx (gtb far)) : Nat) : Int))), (12, (.bool false)), (52, (.bool false)), (96, (.bool true))] ⟨rfl, rfl, rfl, rfl, rfl, rfl, rfl, trivial⟩ (fun τr9 => ?_)
     refine RA.region env_ok ?_
     refine OA.p (some 113) (Pt g 0 0) rfl rfl rfl rfl ?_
     refine OA.p (some 114) (Pt g 0 0) rfl rfl rfl rfl ?_
     refine OA.p (some 115) (Pt g 0 0) rfl rfl rfl rfl ?_
     refine OA.p (some 116) (Pt g 0 1) rfl rfl rfl rfl ?_
     refine OA.p (some 117) (.slice (some ⟨(n1 + 1), 0, none⟩) (K + 1) 2) rfl rfl rfl (r_load1 rfl rfl rfl rfl rfl (get_there (by omega) get_here) rfl rfl) ?_
     refine OA.p (some 118) (.int .i64 (((ps.findIdx (gtb far)) : Nat) : Int)) rfl rfl rfl rfl ?_
     refine OA.p (some 119) (.int .i64 (((ps.findIdx (gtb far)) : Nat) : Int)) rfl rfl rfl rfl ?_
     refine OA.p (some 120) (.int .i64 ((((ps.findIdx (gtb far)) + 1) : Nat) : Int)) rfl rfl rfl (r_bin rfl rfl rfl (b_add (i64_eq (by omega)))) ?_
     refine OA.call (dst := (some 121)) (all := [(.slice (some ⟨(n1 + 1), 0, none⟩) (K + 1) 2), (.int .i64 (((ps.findIdx (gtb far)) : Nat) : Int)), (.int .i64 ((((ps.findIdx (gtb far)) + 1) : Nat) : Int))]) rfl rfl rfl rfl rfl rfl rfl rfl (CQ.imp (gDel (hd.of (by omega) (kb6 (by omega))) (n1 + 1) (K + 1) (ps.findIdx (gtb far)) ((insG ps far).set ((ps.findIdx (gtb far)) - 1) (xGp26 ps far)) (by rw [List.length_set, show (insG ps far).length = K + 1 from by rw [insG_len, hps]]) (by omega) (by omega) get_here) ?_)
     rintro _ n10 _ ⟨rfl, rfl⟩ hn10
     refine OA.app1 ?_
     refine OA.p (some 122) (Pt g 0 0) rfl rfl rfl rfl ?_
     refine OA.p (some 123) (Pt g 0 1) rfl rfl rfl rfl ?_
     refine OA.op1 (dst := none) (v := (.tuple #[])) (n1 := n10) (w := (g, some ⟨[(xGp28 cum n1 K jd M)], 3, 131, true⟩)) rfl rfl rfl (r_store rfl rfl rfl rfl rfl rfl rfl (gt2 (by omega) get_here) rfl rfl (Nat.le_of_ble_eq_true rfl) rfl) (by omega) ?_
     refine OA.nil ?_
     refine ⟨.inl rfl, [], resL_nil, [(g, some ⟨[(xGp28 cum n1 K jd M)], 3, 131, true⟩), ((n1 + 1), some (oGap (((insG ps far).set ((ps.findIdx (gtb far)) - 1) (xGp26 ps far)).eraseIdx (ps.findIdx (gtb far))))), (jp, none)], (Less.of (fac (mm (fun _ => get_here) (fun _ => get_here)) (fac (mm (fun _ => (get_there (by omega) get_here)) (fun _ => (get_there (by omega) get_here))) (fac (mm (fun _ => (gt2 (by omega) get_here)) (fun _ => (gt5 (by omega) get_here))) fan))) (gone_of (by simp only [goneP, memP, List.cons_append, List.nil_append, true_or, or_true, true_and, and_true, or_false] <;> omega))), ⟨(n1 + 1), by omega, by omega, ((K + 1) - 1), by rw [(show putL ps far = (((insG ps far).set ((ps.findIdx (gtb far)) - 1) (xGp26 ps far)).eraseIdx (ps.findIdx (gtb far))) from by unfold putL; rw [show mrg1 (insG ps far) (ps.findIdx (gtb far)) far = (insG ps far) from if_neg (fun h => hc4 h.2)]; exact if_pos ⟨by omega, hc8⟩)]; exact (show (((insG ps far).set ((ps.findIdx (gtb far)) - 1) (xGp26 ps far)).eraseIdx (ps.findIdx (gtb far))).length = (K + 1) - 1 from by rw [List.length_eraseIdx_of_lt (by have hlo := (show ((insG ps far).set ((ps.findIdx (gtb far)) - 1) (xGp26 ps far)).length = (K + 1) from by rw [List.length_set, show (insG ps far).length = K + 1 from by rw [insG_len, hps]]); omega)]; have hlo := (show ((insG ps far).set ((ps.findIdx (gtb far)) - 1) (xGp26 ps far)).length = (K + 1) from by rw [List.length_set, show (insG ps far).length = K + 1 from by rw [insG_len, hps]]); omega), by omega, rfl, by rw [(show putL ps far = (((insG ps far).set ((ps.findIdx (gtb far)) - 1) (xGp26 ps far)).eraseIdx (ps.findIdx (gtb far))) from by unfold putL; rw [show mrg1 (insG ps far) (ps.findIdx (gtb far)) far = (insG ps far) from if_neg (fun h => hc4 h.2)]; exact if_pos ⟨by omega, hc8⟩)]⟩⟩
    ·
     refine PQ.pure (dst := (some 95)) (v := (.bool false)) rfl rfl rfl noStore (none_ok _ _) (Eq.trans (r_bin rfl rfl rfl (b_eql rfl)) (dF hc8)) ?_
     refine PQ.pure (dst := (some 96)) (v := (.bool false)) rfl rfl rfl noStore (none_ok _ _) rfl ?_
     refine PQ.done (d := []) (by kernel_rfl) ?_
     intro _
     refine RA.condF rfl ?_
     refine RA.skip env_ok ?_
     refine ⟨.inl rfl, [], resL_nil, [(g, some ⟨[(xGp210 cum n1 K jd M)], 3, 131, true⟩), ((n1 + 1), some (oGap (insG ps far))), (jp, none)], (Less.of (fac (mm (fun _ => get_here) (fun _ => get_here)) (fac (mm (fun _ => (get_there (by omega) get_here)) (fun _ => (get_there (by omega) get_here))) (fac (mm (fun _ => (gt2 (by omega) get_here)) (fun _ => (gt2 (by omega) get_here))) fan))) (gone_of (by simp only [goneP, memP, List.cons_append, List.nil_append, true_or, or_true, true_and, and_true, or_false] <;> omega))), ⟨(n1 + 1), by omega, by omega, (K + 1), by rw [(show putL ps far = (insG ps far) from by unfold putL; rw [show mrg1 (insG ps far) (ps.findIdx (gtb far)) far = (insG ps far) from if_neg (fun h => hc4 h.2)]; exact if_neg (fun h => hc8 h.2))]; exact (show (insG ps far).length = K + 1 from by rw [insG_len, hps]), by omega, rfl, by rw [(show putL ps far = (insG ps far) from by unfold putL; rw [show mrg1 (insG ps far) (ps.findIdx (gtb far)) far = (insG ps far) from if_neg (fun h => hc4 h.2)]; exact if_neg (fun h => hc8 h.2))]⟩⟩
   ·
    refine PQ.pure (dst := (some 82)) (v := (.bool false)) rfl rfl rfl noStore (none_ok _ _) (Eq.trans (r_bin rfl rfl rfl (b_gtr rfl)) (dF hc7)) ?_
    refine PQ.pure (dst := (some 83)) (v := (.bool false)) rfl rfl rfl noStore (none_ok _ _) rfl ?_
    refine PQ.off (dst := (some 84)) rfl rfl rfl ?_
    refine PQ.off (dst := (some 85)) rfl rfl rfl ?_
    refine PQ.off (dst := (some 86)) rfl rfl rfl ?_
    refine PQ.off (dst := (some 87)) rfl rfl rfl ?_
    refine PQ.off (dst := (some 88)) rfl rfl rfl ?_
    refine PQ.off (dst := (some 89)) rfl rfl rfl ?_
    refine PQ.off (dst := (some 90)) rfl rfl rfl ?_
    refine PQ.off (dst := (some 91)) rfl rfl rfl ?_
    refine PQ.off (dst := (some 92)) rfl rfl rfl ?_
    refine PQ.off (dst := (some 93)) rfl rfl rfl ?_
    refine PQ.off (dst := (some 94)) rfl rfl rfl ?_
    refine PQ.off (dst := (some 95)) rfl rfl rfl ?_
    refine PQ.pure (dst := (some 96)) (v := (.bool false)) rfl rfl rfl noStore (none_ok _ _) rfl ?_
    refine PQ.done (d := []) (by kernel_rfl) ?_
    intro _
    refine RA.condF rfl ?_
    refine RA.skip env_ok ?_
    refine ⟨.inl rfl, [], resL_nil, [(g, some ⟨[(xGp210 cum n1 K jd M)], 3, 131, true⟩), ((n1 + 1), some (oGap (insG ps far))), (jp, none)], (Less.of (fac (mm (fun _ => get_here) (fun _ => get_here)) (fac (mm (fun _ => (get_there (by omega) get_here)) (fun _ => (get_there (by omega) get_here))) (fac (mm (fun _ => (gt2 (by omega) get_here)) (fun _ => (gt2 (by omega) get_here))) fan))) (gone_of (by simp only [goneP, memP, List.cons_append, List.nil_append, true_or, or_true, true_and, and_true, or_false] <;> omega))), ⟨(n1 + 1), by omega, by omega, (K + 1), by rw [(show putL ps far = (insG ps far) from by unfold putL; rw [show mrg1 (insG ps far) (ps.findIdx (gtb far)) far = (insG ps far) from if_neg (fun h => hc4 h.2)]; exact if_neg (fun h => by have h0 := h.1; omega))]; exact (show (insG ps far).length = K + 1 from by rw [insG_len, hps]), by omega, rfl, by rw [(show putL ps far = (insG ps far) from by unfold putL; rw [show mrg1 (insG ps far) (ps.findIdx (gtb far)) far = (insG ps far) from if_neg (fun h => hc4 h.2)]; exact if_neg (fun h => by have h0 := h.1; omega))]⟩⟩
 ·
  have hI : K = ps.findIdx (gtb far) := by have := fi_le (p := gtb far) (l := ps); omega
  refine OA.callP (dst := (some 10)) (all := [(.slice (some ⟨jp, 0, none⟩) K 2), (.func (.func 98) ⟨[]⟩ ⟨[(Pt n 0 0)]⟩)]) (v := (.int .i64 (-1))) (hd.of (by omega) (kb1 (by omega))) rfl rfl rfl rfl rfl rfl rfl rfl (PS.to (gIdxP jp K ps hps (by omega) (gtb far) n (get_there (by omega) hjp) (fun x _ => gPutC x n far get_here)) (congrArg (Value.int .i64) (idxF hc1))) ?_
  intro n11 hn11
  refine OA.p (some 4) (.int .i64 (-1)) rfl rfl rfl rfl ?_
  refine OA.nil ?_
  intro _
  refine RA.seq hd ?_
  refine RA.seq hd ?_
  refine RA.region env_ok ?_
  refine OA.p (some 11) (.int .i64 (-1)) rfl rfl rfl rfl ?_
  refine OA.p (some 12) (.bool true) rfl rfl rfl (r_bin rfl rfl rfl (b_lss rfl)) ?_
  refine OA.nil ?_
  intro _
  refine RA.condT rfl ?_
  refine RA.region env_ok ?_
  refine OA.p (some 13) (Pt g 0 0) rfl rfl rfl rfl ?_
  refine OA.p (some 14) (Pt g 0 0) rfl rfl rfl rfl ?_
  refine OA.p (some 15) (Pt g 0 1) rfl rfl rfl rfl ?_
  refine OA.p (some 16) (.slice (some ⟨jp, 0, none⟩) K 2) rfl rfl rfl (r_load1 rfl rfl rfl rfl rfl (get_there (by omega) hg) rfl rfl) ?_
  refine OA.p (some 17) (.int .i64 (((ps.findIdx (gtb far)) : Nat) : Int)) rfl rfl rfl (Eq.trans (show _ = some (Value.int .i64 ((K : Nat) : Int), _, []) from rfl) (by rw [hI])) ?_
  refine OA.p (some 4) (.int .i64 (((ps.findIdx (gtb far)) : Nat) : Int)) rfl rfl rfl rfl ?_
  refine OA.nil ?_
  intro _
  refine RA.seq hd ?_
  refine RA.par (md := [some [], some [], some [], some [], some [g], some [], some [n], some [n], some [], some [], none, some [], some [], none]) env_ok (hd.of (by omega) (kb1 (by omega))) (by kernel_rfl) ?_
  refine PQ.pure (dst := (some 18)) (v := (Pt g 0 0)) rfl rfl rfl noStore (none_ok _ _) rfl ?_
  refine PQ.pure (dst := (some 19)) (v := (Pt g 0 0)) rfl rfl rfl noStore (none_ok _ _) rfl ?_
  refine PQ.pure (dst := (some 20)) (v := (Pt g 0 0)) rfl rfl rfl noStore (none_ok _ _) rfl ?_
  refine PQ.pure (dst := (some 21)) (v := (Pt g 0 1)) rfl rfl rfl noStore (none_ok _ _) rfl ?_
  refine PQ.pure (dst := (some 22)) (v := (.slice (some ⟨jp, 0, none⟩) K 2)) rfl rfl rfl (app [(g, some ⟨[[(W cum), (.slice (some ⟨jp, 0, none⟩) K 2), (.slice (some ⟨jd, 0, none⟩) M 2)]], 3, 131, true⟩)] noStore) (seen_one (V := []) (D := [(n, some ⟨[[(.int .i64 far)]], 1, 3, true⟩)]) (by kernel_rfl) (get_there (by omega) hg)) (r_load1 rfl rfl rfl rfl rfl get_here rfl rfl) ?_
  refine PQ.pure (dst := (some 23)) (v := (.int .i64 (((ps.findIdx (gtb far)) : Nat) : Int))) rfl rfl rfl noStore (none_ok _ _) rfl ?_
  refine PQ.pure (dst := (some 24)) (v := (.int .i64 far)) rfl rfl rfl (app [(n, some ⟨[[(.int .i64 far)]], 1, 3, true⟩)] noStore) (seen_one (V := []) (D := [(n, some ⟨[[(.int .i64 far)]], 1, 3, true⟩)]) (by kernel_rfl) get_here) (r_load1 rfl rfl rfl rfl rfl get_here rfl rfl) ?_
  refine PQ.pure (dst := (some 25)) (v := (.int .i64 far)) rfl rfl rfl (app [(n, some ⟨[[(.int .i64 far)]], 1, 3, true⟩)] noStore) (seen_one (V := []) (D := [(n, some ⟨[[(.int .i64 far)]], 1, 3, true⟩)]) (by kernel_rfl) get_here) (r_load1 rfl rfl rfl rfl rfl get_here rfl rfl) ?_
  refine PQ.pure (dst := (some 26)) (v := (.agg ⟨[(.int .i64 far), (.int .i64 far)]⟩)) rfl rfl rfl noStore (none_ok _ _) (by kernel_rfl) ?_
  refine PQ.op (dst := (some 27)) (v := (.slice (some ⟨n11, 0, none⟩) 1 0)) (n1 := (n11 + 1)) (d1 := [(n11, some ⟨[[(.int .i64 far), (.int .i64 far)]], 2, 60, true⟩)]) rfl rfl rfl noStore (none_ok _ _) (by kernel_rfl) (by omega) (kp1 (wr_new (by omega) (by omega))) ?_
  refine PQ.call (dst := (some 28)) (all := [(.slice (some ⟨jp, 0, none⟩) K 2), (.int .i64 (((ps.findIdx (gtb far)) : Nat) : Int)), (.slice (some ⟨n11, 0, none⟩) 1 0)]) rfl rfl rfl rfl rfl rfl rfl rfl _ (seen_any (V := [(n11, some ⟨[[(.int .i64 far), (.int .i64 far)]], 2, 60, true⟩)]) (D := [(n, some ⟨[[(.int .i64 far)]], 1, 3, true⟩)]) (by kernel_rfl)) (CQ.imp (CQ.keys (gInsG (hd.of (by omega) (kb2 (by omega))) jp n11 K (ps.findIdx (gtb far)) 0 60 ps far hps rfl (by omega) (gt2 (by omega) hjp) get_here (by omega))) ?_)
  rintro _ n12 _ ⟨hkn12, ⟨hnn, rfl, rfl⟩⟩
  have hn12 := hkn12.1
  refine ⟨hn12, (kp2 (by first | exact wr_new (by omega) (by omega) | exact wr_old [0] (by kernel_rfl) (by omega) (by omega) (fac (lo0 rfl) fan)) (by first | exact wr_new (by omega) (by omega) | exact wr_old [0] (by kernel_rfl) (by omega) (by omega) (fac (lo0 rfl) fan))), ?_⟩
  refine PQ.pure (dst := (some 29)) (v := (Pt g 0 0)) rfl rfl rfl noStore (none_ok _ _) rfl ?_
  refine PQ.pure (dst := (some 30)) (v := (Pt g 0 1)) rfl rfl rfl noStore (none_ok _ _) rfl ?_
  refine PQ.op (dst := none) (v := (.tuple #[])) (n1 := n12) (d1 := [(g, some ⟨[(xGp29 cum n11 K jd M)], 3, 131, true⟩)]) rfl rfl rfl _ (seen_any (V := [((n11 + 1), some (oGap (insG ps far))), (jp, none), (n11, some ⟨[[(.int .i64 far), (.int .i64 far)]], 2, 60, true⟩)]) (D := [(n, some ⟨[[(.int .i64 far)]], 1, 3, true⟩)]) (by kernel_rfl)) (r_store rfl rfl rfl rfl rfl rfl rfl (gt4 (by omega) hg) rfl rfl (Nat.le_of_ble_eq_true rfl) rfl) (by omega) (kp1 (wr_tight (by kernel_rfl) (by omega))) ?_
  refine PQ.done (d := [(g, some ⟨[(xGp29 cum n11 K jd M)], 3, 131, true⟩), ((n11 + 1), some (oGap (insG ps far))), (jp, none), (n11, some ⟨[[(.int .i64 far), (.int .i64 far)]], 2, 60, true⟩)]) (by kernel_rfl) ?_
  intro _
  refine RA.rebase [(0, (Pt g 0 0)), (1, (.int .i64 far)), (3, (Pt n 0 0)), (4, (.int .i64 (((ps.findIdx (gtb far)) : Nat) : Int))), (12, (.bool true))] ⟨rfl, rfl, rfl, rfl, rfl, trivial⟩ (fun τr13 => ?_)
  refine RA.seq hd ?_
  refine RA.seq hd ?_
  refine RA.par (md := [some [], some [], some [], some [], some [], some [g], some [], some [], some [], some [], some [], some [], some [g], some [], some [], none, some [], none, some [n], some [], some [], some []]) env_ok (hd.of (by omega) (kb5 (by omega))) (by kernel_rfl) ?_
  refine PQ.pure (dst := (some 31)) (v := (.int .i64 (((ps.findIdx (gtb far)) : Nat) : Int))) rfl rfl rfl noStore (none_ok _ _) rfl ?_
  refine PQ.pure (dst := (some 32)) (v := (.int .i64 ((((ps.findIdx (gtb far)) + 1) : Nat) : Int))) rfl rfl rfl noStore (none_ok _ _) (r_bin rfl rfl rfl (b_add (i64_eq (by omega)))) ?_
  refine PQ.pure (dst := (some 33)) (v := (Pt g 0 0)) rfl rfl rfl noStore (none_ok _ _) rfl ?_
  refine PQ.pure (dst := (some 34)) (v := (Pt g 0 0)) rfl rfl rfl noStore (none_ok _ _) rfl ?_
  refine PQ.pure (dst := (some 35)) (v := (Pt g 0 1)) rfl rfl rfl noStore (none_ok _ _) rfl ?_
  refine PQ.pure (dst := (some 36)) (v := (.slice (some ⟨(n11 + 1), 0, none⟩) (K + 1) 2)) rfl rfl rfl (app [(g, some ⟨[(xGp29 cum n11 K jd M)], 3, 131, true⟩)] noStore) (seen_one (V := []) (D := [(g, some ⟨[(xGp29 cum n11 K jd M)], 3, 131, true⟩), ((n11 + 1), some (oGap (insG ps far))), (jp, none), (n11, some ⟨[[(.int .i64 far), (.int .i64 far)]], 2, 60, true⟩), (n, some ⟨[[(.int .i64 far)]], 1, 3, true⟩)]) (by kernel_rfl) get_here) (r_load1 rfl rfl rfl rfl rfl get_here rfl rfl) ?_
  refine PQ.pure (dst := (some 37)) (v := (.int .i64 (((K + 1) : Nat) : Int))) rfl rfl rfl noStore (none_ok _ _) rfl ?_
  have hc9 : ¬ (((((ps.findIdx (gtb far)) + 1) : Nat) : Int) < (((K + 1) : Nat) : Int)) := fun hdd => by exfalso; omega
  refine PQ.pure (dst := (some 38)) (v := (.bool false)) rfl rfl rfl noStore (none_ok _ _) (Eq.trans (r_bin rfl rfl rfl (b_lss rfl)) (dF hc9)) ?_
  refine PQ.pure (dst := (some 39)) (v := (.bool false)) rfl rfl rfl noStore (none_ok _ _) rfl ?_
  refine PQ.off (dst := (some 40)) rfl rfl rfl ?_
  refine PQ.off (dst := (some 41)) rfl rfl rfl ?_
  refine PQ.off (dst := (some 42)) rfl rfl rfl ?_
  refine PQ.off (dst := (some 43)) rfl rfl rfl ?_
  refine PQ.off (dst := (some 44)) rfl rfl rfl ?_
  refine PQ.off (dst := (some 45)) rfl rfl rfl ?_
  refine PQ.off (dst := (some 46)) rfl rfl rfl ?_
  refine PQ.off (dst := (some 47)) rfl rfl rfl ?_
  refine PQ.off (dst := (some 48)) rfl rfl rfl ?_
  refine PQ.off (dst := (some 49)) rfl rfl rfl ?_
  refine PQ.off (dst := (some 50)) rfl rfl rfl ?_
  refine PQ.off (dst := (some 51)) rfl rfl rfl ?_
  refine PQ.pure (dst := (some 52)) (v := (.bool false)) rfl rfl rfl noStore (none_ok _ _) rfl ?_
  refine PQ.done (d := []) (by kernel_rfl) ?_
  intro _
  refine RA.condF rfl ?_
  refine RA.skip env_ok ?_
  intro _
  refine RA.seq hd ?_
  refine RA.par (md := [some [], some [], some [], some [], some [], some [], some [g], some [], some [], none, some [], none, some [n], some [], some [], some []]) env_ok (hd.of (by omega) (kb5 (by omega))) (by kernel_rfl) ?_
  refine PQ.pure (dst := (some 81)) (v := (.int .i64 (((ps.findIdx (gtb far)) : Nat) : Int))) rfl rfl rfl noStore (none_ok _ _) rfl ?_
  by_cases hc10 : 0 < (((ps.findIdx (gtb far)) : Nat) : Int)
  ·
   refine PQ.pure (dst := (some 82)) (v := (.bool true)) rfl rfl rfl noStore (none_ok _ _) (Eq.trans (r_bin rfl rfl rfl (b_gtr rfl)) (dT hc10)) ?_
   refine PQ.pure (dst := (some 83)) (v := (.bool true)) rfl rfl rfl noStore (none_ok _ _) rfl ?_
   refine PQ.pure (dst := (some 84)) (v := (Pt g 0 0)) rfl rfl rfl noStore (none_ok _ _) rfl ?_
   refine PQ.pure (dst := (some 85)) (v := (Pt g 0 0)) rfl rfl rfl noStore (none_ok _ _) rfl ?_
   refine PQ.pure (dst := (some 86)) (v := (Pt g 0 1)) rfl rfl rfl noStore (none_ok _ _) rfl ?_
   refine PQ.pure (dst := (some 87)) (v := (.slice (some ⟨(n11 + 1), 0, none⟩) (K + 1) 2)) rfl rfl rfl (app [(g, some ⟨[(xGp29 cum n11 K jd M)], 3, 131, true⟩)] noStore) (seen_one (V := []) (D := [(g, some ⟨[(xGp29 cum n11 K jd M)], 3, 131, true⟩), ((n11 + 1), some (oGap (insG ps far))), (jp, none), (n11, some ⟨[[(.int .i64 far), (.int .i64 far)]], 2, 60, true⟩), (n, some ⟨[[(.int .i64 far)]], 1, 3, true⟩)]) (by kernel_rfl) get_here) (r_load1 rfl rfl rfl rfl rfl get_here rfl rfl) ?_
   refine PQ.pure (dst := (some 88)) (v := (.int .i64 (((ps.findIdx (gtb far)) : Nat) : Int))) rfl rfl rfl noStore (none_ok _ _) rfl ?_
   refine PQ.pure (dst := (some 89)) (v := (.int .i64 ((((ps.findIdx (gtb far)) - 1) : Nat) : Int))) rfl rfl rfl noStore (none_ok _ _) (r_bin rfl rfl rfl (b_sub (i64_eq (by omega)))) ?_
   refine PQ.pure (dst := (some 90)) (v := (.pointer (some ⟨(n11 + 1), ((ps.findIdx (gtb far)) - 1), some 0⟩))) rfl rfl rfl _ (seen_any (V := []) (D := [(g, some ⟨[(xGp29 cum n11 K jd M)], 3, 131, true⟩), ((n11 + 1), some (oGap (insG ps far))), (jp, none), (n11, some ⟨[[(.int .i64 far), (.int .i64 far)]], 2, 60, true⟩), (n, some ⟨[[(.int .i64 far)]], 1, 3, true⟩)]) (by kernel_rfl)) (r_iaS (l := ((ps.findIdx (gtb far)) - 1)) rfl rfl rfl rfl rfl rfl (by omega) (by omega) (get_there (by omega) get_here) rfl (by omega)) ?_
   refine PQ.pure (dst := (some 91)) (v := (.pointer (some ⟨(n11 + 1), ((ps.findIdx (gtb far)) - 1), some 1⟩))) rfl rfl rfl noStore (none_ok _ _) rfl ?_
   refine PQ.pure (dst := (some 92)) (v := (.int .i64 ((insG ps far).getD ((ps.findIdx (gtb far)) - 1) dGap).to)) rfl rfl rfl _ (seen_any (V := []) (D := [(g, some ⟨[(xGp29 cum n11 K jd M)], 3, 131, true⟩), ((n11 + 1), some (oGap (insG ps far))), (jp, none), (n11, some ⟨[[(.int .i64 far), (.int .i64 far)]], 2, 60, true⟩), (n, some ⟨[[(.int .i64 far)]], 1, 3, true⟩)]) (by kernel_rfl)) (r_loadF (c := cGap) dGap rfl rfl rfl rfl rfl (get_there (by omega) get_here) (by have := (show (insG ps far).length = K + 1 from by rw [insG_len, hps]); omega) rfl) ?_
   refine PQ.pure (dst := (some 93)) (v := (.int .i64 far)) rfl rfl rfl (app [(n, some ⟨[[(.int .i64 far)]], 1, 3, true⟩)] noStore) (seen_one (V := []) (D := [(g, some ⟨[(xGp29 cum n11 K jd M)], 3, 131, true⟩), ((n11 + 1), some (oGap (insG ps far))), (jp, none), (n11, some ⟨[[(.int .i64 far), (.int .i64 far)]], 2, 60, true⟩), (n, some ⟨[[(.int .i64 far)]], 1, 3, true⟩)]) (by kernel_rfl) (gt4 (by omega) get_here)) (r_load1 rfl rfl rfl rfl rfl get_here rfl rfl) ?_
   refine PQ.pure (dst := (some 94)) (v := (.int .i64 (far - 1))) rfl rfl rfl noStore (none_ok _ _) (r_bin rfl rfl rfl (b_sub (i64_eq (by omega)))) ?_
   by_cases hc11 : ((insG ps far).getD ((ps.findIdx (gtb far)) - 1) dGap).to = (far - 1)
   ·
    refine PQ.pure (dst := (some 95)) (v := (.bool true)) rfl rfl rfl noStore (none_ok _ _) (Eq.trans (r_bin rfl rfl rfl (b_eql rfl)) (dT hc11)) ?_
    refine PQ.pure (dst := (some 96)) (v := (.bool true)) rfl rfl rfl noStore (none_ok _ _) rfl ?_
    refine PQ.done (d := []) (by kernel_rfl) ?_
    intro _
    refine RA.rebase [(0, (Pt g 0 0)), (1, (.int .i64 far)), (3, (Pt n 0 0)), (4, (.int .i64 (((ps.findIdx (gtb far)) : Nat) : Int))), (12, (.bool true)), (52, (.bool false)), (96, (.bool true))] ⟨rfl, rfl, rfl, rfl, rfl, rfl, rfl, trivial⟩ (fun τr14 => ?_)
    refine RA.condT rfl ?_
    refine RA.seq hd ?_
    refine RA.par (md := [some [], some [], some [], some [g], some [], some [], some [], some [], some [], some [g], some [], none, some [], none, none, some [], none]) env_ok (hd.of (by omega) (kb5 (by omega))) (by kernel_rfl) ?_
    refine PQ.pure (dst := (some 97)) (v := (Pt g 0 0)) rfl rfl rfl noStore (none_ok _ _) rfl ?_
    refine PQ.pure (dst := (some 98)) (v := (Pt g 0 0)) rfl rfl rfl noStore (none_ok _ _) rfl ?_
    refine PQ.pure (dst := (some 99)) (v := (Pt g 0 1)) rfl rfl rfl noStore (none_ok _ _) rfl ?_
    refine PQ.pure (dst := (some 100)) (v := (.slice (some ⟨(n11 + 1), 0, none⟩) (K + 1) 2)) rfl rfl rfl (app [(g, some ⟨[(xGp29 cum n11 K jd M)], 3, 131, true⟩)] noStore) (seen_one (V := []) (D := [(g, some ⟨[(xGp29 cum n11 K jd M)], 3, 131, true⟩), ((n11 + 1), some (oGap (insG ps far))), (jp, none), (n11, some ⟨[[(.int .i64 far), (.int .i64 far)]], 2, 60, true⟩), (n, some ⟨[[(.int .i64 far)]], 1, 3, true⟩)]) (by kernel_rfl) get_here) (r_load1 rfl rfl rfl rfl rfl get_here rfl rfl) ?_
    refine PQ.pure (dst := (some 101)) (v := (.int .i64 (((ps.findIdx (gtb far)) : Nat) : Int))) rfl rfl rfl noStore (none_ok _ _) rfl ?_
    refine PQ.pure (dst := (some 102)) (v := (.int .i64 ((((ps.findIdx (gtb far)) - 1) : Nat) : Int))) rfl rfl rfl noStore (none_ok _ _) (r_bin rfl rfl rfl (b_sub (i64_eq (by omega)))) ?_
    refine PQ.pure (dst := (some 103)) (v := (Pt g 0 0)) rfl rfl rfl noStore (none_ok _ _) rfl ?_
    refine PQ.pure (dst := (some 104)) (v := (Pt g 0 0)) rfl rfl rfl noStore (none_ok _ _) rfl ?_
    refine PQ.pure (dst := (some 105)) (v := (Pt g 0 1)) rfl rfl rfl noStore (none_ok _ _) rfl ?_
    refine PQ.pure (dst := (some 106)) (v := (.slice (some ⟨(n11 + 1), 0, none⟩) (K + 1) 2)) rfl rfl rfl (app [(g, some ⟨[(xGp29 cum n11 K jd M)], 3, 131, true⟩)] noStore) (seen_one (V := []) (D := [(g, some ⟨[(xGp29 cum n11 K jd M)], 3, 131, true⟩), ((n11 + 1), some (oGap (insG ps far))), (jp, none), (n11, some ⟨[[(.int .i64 far), (.int .i64 far)]], 2, 60, true⟩), (n, some ⟨[[(.int .i64 far)]], 1, 3, true⟩)]) (by kernel_rfl) get_here) (r_load1 rfl rfl rfl rfl rfl get_here rfl rfl) ?_
    refine PQ.pure (dst := (some 107)) (v := (.int .i64 (((ps.findIdx (gtb far)) : Nat) : Int))) rfl rfl rfl noStore (none_ok _ _) rfl ?_
    refine PQ.pure (dst := (some 108)) (v := (.pointer (some ⟨(n11 + 1), (ps.findIdx (gtb far)), some 0⟩))) rfl rfl rfl _ (seen_any (V := []) (D := [(g, some ⟨[(xGp29 cum n11 K jd M)], 3, 131, true⟩), ((n11 + 1), some (oGap (insG ps far))), (jp, none), (n11, some ⟨[[(.int .i64 far), (.int .i64 far)]], 2, 60, true⟩), (n, some ⟨[[(.int .i64 far)]], 1, 3, true⟩)]) (by kernel_rfl)) (r_iaS (l := (ps.findIdx (gtb far))) rfl rfl rfl rfl rfl rfl (by omega) (by omega) (get_there (by omega) get_here) rfl (by omega)) ?_
    refine PQ.pure (dst := (some 109)) (v := (.pointer (some ⟨(n11 + 1), (ps.findIdx (gtb far)), some 1⟩))) rfl rfl rfl noStore (none_ok _ _) rfl ?_
    refine PQ.pure (dst := (some 110)) (v := (.int .i64 ((insG ps far).getD (ps.findIdx (gtb far)) dGap).to)) rfl rfl rfl _ (seen_any (V := []) (D := [(g, some ⟨[(xGp29 cum n11 K jd M)], 3, 131, true⟩), ((n11 + 1), some (oGap (insG ps far))), (jp, none), (n11, some ⟨[[(.int .i64 far), (.int .i64 far)]], 2, 60, true⟩), (n, some ⟨[[(.int .i64 far)]], 1, 3, true⟩)]) (by kernel_rfl)) (r_loadF (c := cGap) dGap rfl rfl rfl rfl rfl (get_there (by omega) get_here) (by have := (show (insG ps far).length = K + 1 from by rw [insG_len, hps]); omega) rfl) ?_
    refine PQ.pure (dst := (some 111)) (v := (.pointer (some ⟨(n11 + 1), ((ps.findIdx (gtb far)) - 1), some 0⟩))) rfl rfl rfl _ (seen_any (V := []) (D := [(g, some ⟨[(xGp29 cum n11 K jd M)], 3, 131, true⟩), ((n11 + 1), some (oGap (insG ps far))), (jp, none), (n11, some ⟨[[(.int .i64 far), (.int .i64 far)]], 2, 60, true⟩), (n, some ⟨[[(.int .i64 far)]], 1, 3, true⟩)]) (by kernel_rfl)) (r_iaS (l := ((ps.findIdx (gtb far)) - 1)) rfl rfl rfl rfl rfl rfl (by omega) (by omega) (get_there (by omega) get_here) rfl (by omega)) ?_
    refine PQ.pure (dst := (some 112)) (v := (.pointer (some ⟨(n11 + 1), ((ps.findIdx (gtb far)) - 1), some 1⟩))) rfl rfl rfl noStore (none_ok _ _) rfl ?_
    refine PQ.op (dst := none) (v := (.tuple #[])) (n1 := n12) (d1 := [((n11 + 1), some (oGap ((insG ps far).set ((ps.findIdx (gtb far)) - 1) (xGp26 ps far))))]) rfl rfl rfl _ (seen_any (V := []) (D := [(g, some ⟨[(xGp29 cum n11 K jd M)], 3, 131, true⟩), ((n11 + 1), some (oGap (insG ps far))), (jp, none), (n11, some ⟨[[(.int .i64 far), (.int .i64 far)]], 2, 60, true⟩), (n, some ⟨[[(.int .i64 far)]], 1, 3, true⟩)]) (by kernel_rfl)) (r_storeR (c := cGap) dGap (xGp26 ps far) rfl rfl rfl rfl rfl rfl rfl (get_there (by omega) get_here) (by have := (show (insG ps far).length = K + 1 from by rw [insG_len, hps]); omega) (Nat.le_of_ble_eq_true rfl) rfl) (by omega) (kp1 (wr_tight (by kernel_rfl) (by omega))) ?_
    refine PQ.done (d := [((n11 + 1), some (oGap ((insG ps far).set ((ps.findIdx (gtb far)) - 1) (xGp26 ps far))))]) (by kernel_rfl) ?_
    intro _
    refine RA.region env_ok ?_
    refine OA.p (some 113) (Pt g 0 0) rfl rfl rfl rfl ?_
    refine OA.p (some 114) (Pt g 0 0) rfl rfl rfl rfl ?_
    refine OA.p (some 115) (Pt g 0 0) rfl rfl rfl rfl ?_
    refine OA.p (some 116) (Pt g 0 1) rfl rfl rfl rfl ?_
    refine OA.p (some 117) (.slice (some ⟨(n11 + 1), 0, none⟩) (K + 1) 2) rfl rfl rfl (r_load1 rfl rfl rfl rfl rfl (get_there (by omega) get_here) rfl rfl) ?_
    refine OA.p (some 118) (.int .i64 (((ps.findIdx (gtb far)) : Nat) : Int)) rfl rfl rfl rfl ?_
    refine OA.p (some 119) (.int .i64 (((ps.findIdx (gtb far)) : Nat) : Int)) rfl rfl rfl rfl ?_
    refine OA.p (some 120) (.int .i64 ((((ps.findIdx (gtb far)) + 1) : Nat) : Int)) rfl rfl rfl (r_bin rfl rfl rfl (b_add (i64_eq (by omega)))) ?_
    refine OA.call (dst := (some 121)) (all := [(.slice (some ⟨(n11 + 1), 0, none⟩) (K + 1) 2), (.int .i64 (((ps.findIdx (gtb far)) : Nat) : Int)), (.int .i64 ((((ps.findIdx (gtb far)) + 1) : Nat) : Int))]) rfl rfl rfl rfl rfl rfl rfl rfl (CQ.imp (gDel (hd.of (by omega) (kb6 (by omega))) (n11 + 1) (K + 1) (ps.findIdx (gtb far)) ((insG ps far).set ((ps.findIdx (gtb far)) - 1) (xGp26 ps far)) (by rw [List.length_set, show (insG ps far).length = K + 1 from by rw [insG_len, hps]]) (by omega) (by omega) get_here) ?_)
    rintro _ n15 _ ⟨rfl, rfl⟩ hn15
    refine OA.app1 ?_
    refine OA.p (some 122) (Pt g 0 0) rfl rfl rfl rfl ?_
    refine OA.p (some 123) (Pt g 0 1) rfl rfl rfl rfl ?_
    refine OA.op1 (dst := none) (v := (.tuple #[])) (n1 := n15) (w := (g, some ⟨[[(W cum), (.slice (some ⟨(n11 + 1), 0, none⟩) ((K + 1) - 1) 2), (.slice (some ⟨jd, 0, none⟩) M 2)]], 3, 131, true⟩)) rfl rfl rfl (r_store rfl rfl rfl rfl rfl rfl rfl (gt2 (by omega) get_here) rfl rfl (Nat.le_of_ble_eq_true rfl) rfl) (by omega) ?_
    refine OA.nil ?_
    refine ⟨.inl rfl, [], resL_nil, [(g, some ⟨[[(W cum), (.slice (some ⟨(n11 + 1), 0, none⟩) ((K + 1) - 1) 2), (.slice (some ⟨jd, 0, none⟩) M 2)]], 3, 131, true⟩), ((n11 + 1), some (oGap (((insG ps far).set ((ps.findIdx (gtb far)) - 1) (xGp26 ps far)).eraseIdx (ps.findIdx (gtb far))))), (jp, none)], (Less.of (fac (mm (fun _ => get_here) (fun _ => get_here)) (fac (mm (fun _ => (get_there (by omega) get_here)) (fun _ => (get_there (by omega) get_here))) (fac (mm (fun _ => (gt2 (by omega) get_here)) (fun _ => (gt5 (by omega) get_here))) fan))) (gone_of (by simp only [goneP, memP, List.cons_append, List.nil_append, true_or, or_true, true_and, and_true, or_false] <;> omega))), ⟨(n11 + 1), by omega, by omega, ((K + 1) - 1), by rw [(show putL ps far = (((insG ps far).set ((ps.findIdx (gtb far)) - 1) (xGp26 ps far)).eraseIdx (ps.findIdx (gtb far))) from by unfold putL; rw [show mrg1 (insG ps far) (ps.findIdx (gtb far)) far = (insG ps far) from if_neg (fun h => by have h0 := h.1; rw [insG_len] at h0; omega)]; exact if_pos ⟨by omega, hc11⟩)]; exact (show (((insG ps far).set ((ps.findIdx (gtb far)) - 1) (xGp26 ps far)).eraseIdx (ps.findIdx (gtb far))).length = (K + 1) - 1 from by rw [List.length_eraseIdx_of_lt (by have hlo := (show ((insG ps far).set ((ps.findIdx (gtb far)) - 1) (xGp26 ps far)).length = (K + 1) from by rw [List.length_set, show (insG ps far).length = K + 1 from by rw [insG_len, hps]]); omega)]; have hlo := (show ((insG ps far).set ((ps.findIdx (gtb far)) - 1) (xGp26 ps far)).length = (K + 1) from by rw [List.length_set, show (insG ps far).length = K + 1 from by rw [insG_len, hps]]); omega), by omega, rfl, by rw [(show putL ps far = (((insG ps far).set ((ps.findIdx (gtb far)) - 1) (xGp26 ps far)).eraseIdx (ps.findIdx (gtb far))) from by unfold putL; rw [show mrg1 (insG ps far) (ps.findIdx (gtb far)) far = (insG ps far) from if_neg (fun h => by have h0 := h.1; rw [insG_len] at h0; omega)]; exact if_pos ⟨by omega, hc11⟩)]⟩⟩
   ·
    refine PQ.pure (dst := (some 95)) (v := (.bool false)) rfl rfl rfl noStore (none_ok _ _) (Eq.trans (r_bin rfl rfl rfl (b_eql rfl)) (dF hc11)) ?_
    refine PQ.pure (dst := (some 96)) (v := (.bool false)) rfl rfl rfl noStore (none_ok _ _) rfl ?_
    refine PQ.done (d := []) (by kernel_rfl) ?_
    intro _
    refine RA.rebase [(0, (Pt g 0 0)), (1, (.int .i64 far)), (3, (Pt n 0 0)), (4, (.int .i64 (((ps.findIdx (gtb far)) : Nat) : Int))), (12, (.bool true)), (52, (.bool false)), (96, (.bool false))] ⟨rfl, rfl, rfl, rfl, rfl, rfl, rfl, trivial⟩ (fun τr16 => ?_)
    refine RA.condF rfl ?_
    refine RA.skip env_ok ?_
    refine ⟨.inl rfl, [], resL_nil, [(g, some ⟨[(xGp29 cum n11 K jd M)], 3, 131, true⟩), ((n11 + 1), some (oGap (insG ps far))), (jp, none)], (Less.of (fac (mm (fun _ => get_here) (fun _ => get_here)) (fac (mm (fun _ => (get_there (by omega) get_here)) (fun _ => (get_there (by omega) get_here))) (fac (mm (fun _ => (gt2 (by omega) get_here)) (fun _ => (gt2 (by omega) get_here))) fan))) (gone_of (by simp only [goneP, memP, List.cons_append, List.nil_append, true_or, or_true, true_and, and_true, or_false] <;> omega))), ⟨(n11 + 1), by omega, by omega, (K + 1), by rw [(show putL ps far = (insG ps far) from by unfold putL; rw [show mrg1 (insG ps far) (ps.findIdx (gtb far)) far = (insG ps far) from if_neg (fun h => by have h0 := h.1; rw [insG_len] at h0; omega)]; exact if_neg (fun h => hc11 h.2))]; exact (show (insG ps far).length = K + 1 from by rw [insG_len, hps]), by omega, rfl, by rw [(show putL ps far = (insG ps far) from by unfold putL; rw [show mrg1 (insG ps far) (ps.findIdx (gtb far)) far = (insG ps far) from if_neg (fun h => by have h0 := h.1; rw [insG_len] at h0; omega)]; exact if_neg (fun h => hc11 h.2))]⟩⟩
  ·
   refine PQ.pure (dst := (some 82)) (v := (.bool false)) rfl rfl rfl noStore (none_ok _ _) (Eq.trans (r_bin rfl rfl rfl (b_gtr rfl)) (dF hc10)) ?_
   refine PQ.pure (dst := (some 83)) (v := (.bool false)) rfl rfl rfl noStore (none_ok _ _) rfl ?_
   refine PQ.off (dst := (some 84)) rfl rfl rfl ?_
   refine PQ.off (dst := (some 85)) rfl rfl rfl ?_
   refine PQ.off (dst := (some 86)) rfl rfl rfl ?_
   refine PQ.off (dst := (some 87)) rfl rfl rfl ?_
   refine PQ.off (dst := (some 88)) rfl rfl rfl ?_
   refine PQ.off (dst := (some 89)) rfl rfl rfl ?_
   refine PQ.off (dst := (some 90)) rfl rfl rfl ?_
   refine PQ.off (dst := (some 91)) rfl rfl rfl ?_
   refine PQ.off (dst := (some 92)) rfl rfl rfl ?_
   refine PQ.off (dst := (some 93)) rfl rfl rfl ?_
   refine PQ.off (dst := (some 94)) rfl rfl rfl ?_
   refine PQ.off (dst := (some 95)) rfl rfl rfl ?_
   refine PQ.pure (dst := (some 96)) (v := (.bool false)) rfl rfl rfl noStore (none_ok _ _) rfl ?_
   refine PQ.done (d := []) (by kernel_rfl) ?_
   intro _
   refine RA.rebase [(0, (Pt g 0 0)), (1, (.int .i64 far)), (3, (Pt n 0 0)), (4, (.int .i64 (((ps.findIdx (gtb far)) : Nat) : Int))), (12, (.bool true)), (52, (.bool false)), (96, (.bool false))] ⟨rfl, rfl, rfl, rfl, rfl, rfl, rfl, trivial⟩ (fun τr17 => ?_)
   refine RA.condF rfl ?_
   refine RA.skip env_ok ?_
   refine ⟨.inl rfl, [], resL_nil, [(g, some ⟨[(xGp29 cum n11 K jd M)], 3, 131, true⟩), ((n11 + 1), some (oGap (insG ps far))), (jp, none)], (Less.of (fac (mm (fun _ => get_here) (fun _ => get_here)) (fac (mm (fun _ => (get_there (by omega) get_here)) (fun _ => (get_there (by omega) get_here))) (fac (mm (fun _ => (gt2 (by omega) get_here)) (fun _ => (gt2 (by omega) get_here))) fan))) (gone_of (by simp only [goneP, memP, List.cons_append, List.nil_append, true_or, or_true, true_and, and_true, or_false] <;> omega))), ⟨(n11 + 1), by omega, by omega, (K + 1), by rw [(show putL ps far = (insG ps far) from by unfold putL; rw [show mrg1 (insG ps far) (ps.findIdx (gtb far)) far = (insG ps far) from if_neg (fun h => by have h0 := h.1; rw [insG_len] at h0; omega)]; exact if_neg (fun h => by have h0 := h.1; omega))]; exact (show (insG ps far).length = K + 1 from by rw [insG_len, hps]), by omega, rfl, by rw [(show putL ps far = (insG ps far) from by unfold putL; rw [show mrg1 (insG ps far) (ps.findIdx (gtb far)) far = (insG ps far) from if_neg (fun h => by have h0 := h.1; rw [insG_len] at h0; omega)]; exact if_neg (fun h => by have h0 := h.1; omega))]⟩⟩

theorem gSet {n : Nat} {σ : Store} (hd : Dom n σ) (g jp jd K M : Nat) (cum : BitVec 32) (ps : List Gap) (hps : ps.length = K) (hK : K ≤ 900) (h1 : g ≠ jp) (hok : okG ps) (hg : σ g = some ⟨[[(W cum), (.slice (some ⟨jp, 0, none⟩) K 2), (.slice (some ⟨jd, 0, none⟩) M 2)]], 3, 131, true⟩) (hjp : σ jp = some (oGap ps))  : CQ Try.prog noDen 79 [(Pt g 0 0)] n σ (fun v n' d => ∃ jq, n ≤ jq ∧ jq < n' ∧ ∃ K', (setl cum ps).2.length = K' ∧ K' ≤ K ∧ v = .tuple #[] ∧ d = [(g, some ⟨[[(W (setl cum ps).1), (.slice (some ⟨jq, 0, none⟩) K' 2), (.slice (some ⟨jd, 0, none⟩) M 2)]], 3, 131, true⟩), (jq, some (oGap (setl cum ps).2)), (jp, none)]) := by
 have lhg := hd.lt hg
 have lhjp := hd.lt hjp
 refine CQ.body (E := env) env_ok hd rfl rfl (by show _ ≤ _; exact of_decide_eq_true (by kernel_rfl)) ?_
 refine RA.reoff (idx := 1) hg hjp (by omega) rfl (cs' := [(W cum), (.slice (some ⟨n, 0, none⟩) K 2), (.slice (some ⟨jd, 0, none⟩) M 2)]) rfl (ob' := (oGap ps)) (ro0) ?_
 refine RA.seq hd ?_
 refine RA.seq hd ?_
 refine RA.region env_ok ?_
 refine OA.p (some 4) (Pt g 0 0) rfl rfl rfl rfl ?_
 refine OA.p (some 5) (Pt g 0 0) rfl rfl rfl rfl ?_
 refine OA.p (some 6) (Pt g 0 1) rfl rfl rfl rfl ?_
 refine OA.p (some 7) (.slice (some ⟨n, 0, none⟩) K 2) rfl rfl rfl (r_load1 rfl rfl rfl rfl rfl get_here rfl rfl) ?_
 refine OA.p (some 8) (.int .i64 ((K : Nat) : Int)) rfl rfl rfl rfl ?_
 by_cases hc1 : ((K : Nat) : Int) = 0
 ·
  refine OA.p (some 9) (.bool true) rfl rfl rfl (Eq.trans (r_bin rfl rfl rfl (b_eql rfl)) (dT hc1)) ?_
  refine OA.p (some 10) (.bool true) rfl rfl rfl rfl ?_
  refine OA.off (dst := (some 11)) rfl rfl rfl ?_
  refine OA.off (dst := (some 12)) rfl rfl rfl ?_
  refine OA.off (dst := (some 13)) rfl rfl rfl ?_
  refine OA.off (dst := (some 14)) rfl rfl rfl ?_
  refine OA.off (dst := (some 15)) rfl rfl rfl ?_
  refine OA.off (dst := (some 16)) rfl rfl rfl ?_
  refine OA.off (dst := (some 17)) rfl rfl rfl ?_
  refine OA.off (dst := (some 18)) rfl rfl rfl ?_
  refine OA.p (some 19) (.bool true) rfl rfl rfl rfl ?_
  refine OA.nil ?_
  intro _
  refine RA.condT rfl ?_
  refine RA.ret env_ok ?_
  refine ⟨.inr rfl, [], resL_nil, [(g, some ⟨[[(W cum), (.slice (some ⟨n, 0, none⟩) K 2), (.slice (some ⟨jd, 0, none⟩) M 2)]], 3, 131, true⟩), (n, some (oGap ps)), (jp, none)], (Less.refl _ _ _), ⟨n, by omega, by omega, K, by rw [(show setl cum ps = (cum, ps) from if_neg (fun h => by have h0 := h.1; omega))]; exact hps, by omega, rfl, by rw [(show setl cum ps = (cum, ps) from if_neg (fun h => by have h0 := h.1; omega))]⟩⟩
 ·
  refine OA.p (some 9) (.bool false) rfl rfl rfl (Eq.trans (r_bin rfl rfl rfl (b_eql rfl)) (dF hc1)) ?_
  refine OA.p (some 10) (.bool false) rfl rfl rfl rfl ?_
  refine OA.p (some 11) (Pt g 0 0) rfl rfl rfl rfl ?_
  refine OA.p (some 12) (Pt g 0 0) rfl rfl rfl rfl ?_
  refine OA.p (some 13) (Pt g 0 1) rfl rfl rfl rfl ?_
  refine OA.p (some 14) (.slice (some ⟨n, 0, none⟩) K 2) rfl rfl rfl (r_load1 rfl rfl rfl rfl rfl get_here rfl rfl) ?_
  refine OA.p (some 15) (Pt n 0 0) rfl rfl rfl (r_iaS (l := 0) rfl rfl rfl rfl rfl rfl (by omega) (by omega) (get_there (by omega) get_here) rfl (by omega)) ?_
  refine OA.p (some 16) (Pt n 0 0) rfl rfl rfl rfl ?_
  refine OA.p (some 17) (.int .i64 (ps.getD 0 dGap).fr) rfl rfl rfl (r_loadF (c := cGap) dGap rfl rfl rfl rfl rfl (get_there (by omega) get_here) (by rw [hps]; omega) rfl) ?_
  by_cases hc2 : (ps.getD 0 dGap).fr ≠ 1
  ·
   skip
   refine OA.p (some 18) (.bool true) rfl rfl rfl (Eq.trans (r_bin rfl rfl rfl (b_neq rfl)) (dT hc2)) ?_
   refine OA.p (some 19) (.bool true) rfl rfl rfl rfl ?_
   refine OA.nil ?_
   intro _
   refine RA.condT rfl ?_
   refine RA.ret env_ok ?_
   refine ⟨.inr rfl, [], resL_nil, [(g, some ⟨[[(W cum), (.slice (some ⟨n, 0, none⟩) K 2), (.slice (some ⟨jd, 0, none⟩) M 2)]], 3, 131, true⟩), (n, some (oGap ps)), (jp, none)], (Less.refl _ _ _), ⟨n, by omega, by omega, K, by rw [(show setl cum ps = (cum, ps) from if_neg (fun h => hc2 h.2))]; exact hps, by omega, rfl, by rw [(show setl cum ps = (cum, ps) from if_neg (fun h => hc2 h.2))]⟩⟩
  ·
   have hfr1 := Classical.not_not.1 hc2
   refine OA.p (some 18) (.bool false) rfl rfl rfl (Eq.trans (r_bin rfl rfl rfl (b_neq rfl)) (dF hc2)) ?_
   refine OA.p (some 19) (.bool false) rfl rfl rfl rfl ?_
   refine OA.nil ?_
   intro _
   refine RA.condF rfl ?_
   refine RA.skip env_ok ?_
   intro _
   refine RA.seq hd ?_
   refine RA.region env_ok ?_
   refine OA.p (some 20) (Pt g 0 0) rfl rfl rfl rfl ?_
   refine OA.p (some 21) (Pt g 0 0) rfl rfl rfl rfl ?_
   refine OA.p (some 22) (Pt g 0 1) rfl rfl rfl rfl ?_
   refine OA.p (some 23) (.slice (some ⟨n, 0, none⟩) K 2) rfl rfl rfl (r_load1 rfl rfl rfl rfl rfl get_here rfl rfl) ?_
   refine OA.p (some 24) (Pt n 0 0) rfl rfl rfl (r_iaS (l := 0) rfl rfl rfl rfl rfl rfl (by omega) (by omega) (get_there (by omega) get_here) rfl (by omega)) ?_
   refine OA.p (some 25) (Pt n 0 1) rfl rfl rfl rfl ?_
   refine OA.p (some 26) (.int .i64 (ps.getD 0 dGap).to) rfl rfl rfl (r_loadF (c := cGap) dGap rfl rfl rfl rfl rfl (get_there (by omega) get_here) (by rw [hps]; omega) rfl) ?_
   refine OA.p (some 2) (.int .i64 (ps.getD 0 dGap).to) rfl rfl rfl rfl ?_
   refine OA.nil ?_
   intro _
   refine RA.seq hd ?_
   refine RA.region env_ok ?_
   refine OA.p (some 27) (Pt g 0 0) rfl rfl rfl rfl ?_
   refine OA.p (some 28) (Pt g 0 0) rfl rfl rfl rfl ?_
   refine OA.p (some 29) (Pt g 0 0) rfl rfl rfl rfl ?_
   refine OA.p (some 30) (W cum) rfl rfl rfl (r_load1 rfl rfl rfl rfl rfl get_here rfl rfl) ?_
   refine OA.p (some 31) (.int .i64 (ps.getD 0 dGap).to) rfl rfl rfl rfl ?_
   refine OA.p (some 32) (W (BitVec.ofInt 32 (ps.getD 0 dGap).to)) rfl rfl rfl (r_cvt rfl rfl rfl rfl rfl ⟨_, rfl⟩ (wrap_ofInt32 _)) ?_
   refine OA.p (some 33) (W (cum + (BitVec.ofInt 32 (ps.getD 0 dGap).to))) rfl rfl rfl (r_bin rfl rfl rfl (b_addW cum (BitVec.ofInt 32 (ps.getD 0 dGap).to))) ?_
   refine OA.p (some 34) (Pt g 0 0) rfl rfl rfl rfl ?_
   refine OA.p (some 35) (Pt g 0 0) rfl rfl rfl rfl ?_
   refine OA.op1 (dst := none) (v := (.tuple #[])) (n1 := (n + 1)) (w := (g, some ⟨[[(W (cum + (BitVec.ofInt 32 (ps.getD 0 dGap).to))), (.slice (some ⟨n, 0, none⟩) K 2), (.slice (some ⟨jd, 0, none⟩) M 2)]], 3, 131, true⟩)) rfl rfl rfl (r_store rfl rfl rfl rfl rfl rfl rfl get_here rfl rfl (Nat.le_of_ble_eq_true rfl) rfl) (by omega) ?_
   refine OA.nil ?_
   intro _
   refine RA.rebase [(0, (Pt g 0 0)), (2, (.int .i64 (ps.getD 0 dGap).to)), (19, (.bool false))] ⟨rfl, rfl, rfl, trivial⟩ (fun τr1 => ?_)
   refine RA.seq hd ?_
   refine RA.region env_ok ?_
   refine OA.p (some 36) (Pt g 0 0) rfl rfl rfl rfl ?_
   refine OA.p (some 37) (Pt g 0 0) rfl rfl rfl rfl ?_
   refine OA.p (some 38) (Pt g 0 0) rfl rfl rfl rfl ?_
   refine OA.p (some 39) (Pt g 0 1) rfl rfl rfl rfl ?_
   refine OA.p (some 40) (.slice (some ⟨n, 0, none⟩) K 2) rfl rfl rfl (r_load1 rfl rfl rfl rfl rfl get_here rfl rfl) ?_
   refine OA.p (some 41) (.slice (some ⟨n, 1, none⟩) (K - 1) 2) rfl rfl rfl (r_cut2 (a := 1) (b := K) rfl rfl (fun _ => rfl) (fun _ => rfl) rfl rfl rfl rfl rfl (gt2 (by omega) get_here) rfl (by omega) (by omega) (by rw [List.length_map, hps]; omega) (by omega) (by omega)) ?_
   refine OA.p (some 42) (Pt g 0 0) rfl rfl rfl rfl ?_
   refine OA.p (some 43) (Pt g 0 1) rfl rfl rfl rfl ?_
   refine OA.op1 (dst := none) (v := (.tuple #[])) (n1 := (n + 1)) (w := (g, some ⟨[[(W (cum + (BitVec.ofInt 32 (ps.getD 0 dGap).to))), (.slice (some ⟨n, 1, none⟩) (K - 1) 2), (.slice (some ⟨jd, 0, none⟩) M 2)]], 3, 131, true⟩)) rfl rfl rfl (r_store rfl rfl rfl rfl rfl rfl rfl get_here rfl rfl (Nat.le_of_ble_eq_true rfl) rfl) (by omega) ?_
   refine OA.nil ?_
   intro _
   refine RA.seq hd ?_
   refine RA.region env_ok ?_
   refine OA.p (some 44) (Pt g 0 0) rfl rfl rfl rfl ?_
   refine OA.p (some 45) (Pt g 0 0) rfl rfl rfl rfl ?_
   refine OA.p (some 46) (Pt g 0 1) rfl rfl rfl rfl ?_
   refine OA.p (some 47) (.slice (some ⟨n, 1, none⟩) (K - 1) 2) rfl rfl rfl (r_load1 rfl rfl rfl rfl rfl get_here rfl rfl) ?_
   refine OA.p (some 48) (.int .i64 (((K - 1) : Nat) : Int)) rfl rfl rfl rfl ?_
   refine OA.p (some 49) (.int .i64 0) rfl rfl rfl rfl ?_
   refine OA.nil ?_
   intro _
   refine RA.block ?_
   refine RA.reoff (idx := 1) get_here (gt3 (by omega) get_here) (by omega) rfl (cs' := (xGp24 cum ps n K jd M)) rfl (ob' := (oGap (ps.drop 1))) (roD) ?_
   have hok1 := okG_get hok (i := 0) (by omega)
   refine RA.weaken (D' := [(g, some ⟨[(xGp24 cum ps n K jd M)], 3, 131, true⟩), ((n + 1), some (oGap (ps.drop 1))), (jp, none)]) hd (Less.of (fac (mm (fun _ => get_here) (fun _ => get_here)) (fac (mm (fun _ => (get_there (by omega) get_here)) (fun _ => (get_there (by omega) get_here))) (fac (mm (fun _ => (gt2 (by omega) get_here)) (fun _ => (gt7 (by omega) get_here))) fan))) (gone_of (by simp only [goneP, memP, List.cons_append, List.nil_append, true_or, or_true, true_and, and_true, or_false] <;> omega))) ?_
   refine RA.loop hd (fun kk_ τ n' D => (∃ i : Nat, kk_ = K - 1 - i ∧ (n + 2) ≤ n' ∧ Has τ [(0, (Pt g 0 0)), (2, (.int .i64 (ps.getD 0 dGap).to)), (48, (.int .i64 (((K - 1) : Nat) : Int))), (49, (.int .i64 ((i : Nat) : Int)))] ∧ D = [(g, some ⟨[(xGp24 cum ps n K jd M)], 3, 131, true⟩), ((n + 1), some (oGap (shN (ps.getD 0 dGap).to i (ps.drop 1)))), (jp, none)] ∧ (∀ i ∈ keys D, i < n') ∧ i ≤ K - 1)) (K - 1 - 0) (⟨0, rfl, by omega, ⟨rfl, rfl, rfl, rfl, trivial⟩, (by rw [shN_0]), (kb3 (by omega)), by omega⟩) ?_
   rintro kn2 τ2 n2 _ ⟨i, rfl, hn2, hHn2, rfl, hKn2, hIn2⟩
   rw [Has.eq hHn2]
   have hKn2_0 : g < n2 := hKn2 _ (by simp only [keys, List.map_cons, List.map_nil, List.mem_cons, true_or, or_true])
   have hKn2_1 : (n + 1) < n2 := hKn2 _ (by simp only [keys, List.map_cons, List.map_nil, List.mem_cons, true_or, or_true])
   have hKn2_2 : jp < n2 := hKn2 _ (by simp only [keys, List.map_cons, List.map_nil, List.mem_cons, true_or, or_true])
   clear hKn2
   refine RA.seq hd ?_
   refine RA.region env_ok ?_
   by_cases hc3 : ((i : Nat) : Int) < (((K - 1) : Nat) : Int)
   ·
    have hok2 := okG_get (okG_drop (k := 1) hok) (i := i) (by rw [List.length_drop]; omega); have hsg := shN_get (b := (ps.getD 0 dGap).to) (i := i) (l := ps.drop 1) (by rw [List.length_drop]; omega); rw [← hsg] at hok2; have hsl := shN_len (b := (ps.getD 0 dGap).to) (i := i) (l := ps.drop 1); have hdl : (ps.drop 1).length = K - 1 := by rw [List.length_drop]; omega
    refine OA.p (some 50) (.bool true) rfl rfl rfl (Eq.trans (r_bin rfl rfl rfl (b_lss rfl)) (dT hc3)) ?_
    refine OA.nil ?_
    intro _
    refine RA.seq hd ?_
    refine RA.condT rfl ?_
    refine RA.skip env_ok ?_
    intro _
    refine RA.seq hd ?_
    refine RA.block ?_
    refine RA.seq hd ?_
    refine RA.region env_ok ?_
    refine OA.p (some 51) (.int .i64 ((i : Nat) : Int)) rfl rfl rfl rfl ?_
    refine OA.p (some 3) (.int .i64 ((i : Nat) : Int)) rfl rfl rfl rfl ?_
    refine OA.nil ?_
    intro _
    refine RA.seq hd ?_
    refine RA.region env_ok ?_
    refine OA.p (some 52) (Pt g 0 0) rfl rfl rfl rfl ?_
    refine OA.p (some 53) (Pt g 0 0) rfl rfl rfl rfl ?_
    refine OA.p (some 54) (Pt g 0 1) rfl rfl rfl rfl ?_
    refine OA.p (some 55) (.slice (some ⟨(n + 1), 0, none⟩) (K - 1) 2) rfl rfl rfl (r_load1 rfl rfl rfl rfl rfl get_here rfl rfl) ?_
    refine OA.p (some 56) (.int .i64 ((i : Nat) : Int)) rfl rfl rfl rfl ?_
    refine OA.p (some 57) (.pointer (some ⟨(n + 1), i, some 0⟩)) rfl rfl rfl (r_iaS (l := i) rfl rfl rfl rfl rfl rfl (by omega) (by omega) (get_there (by omega) get_here) rfl (by omega)) ?_
    refine OA.p (some 58) (.pointer (some ⟨(n + 1), i, some 0⟩)) rfl rfl rfl rfl ?_
    refine OA.p (some 59) (.int .i64 ((shN (ps.getD 0 dGap).to i (ps.drop 1)).getD i dGap).fr) rfl rfl rfl (r_loadF (c := cGap) dGap rfl rfl rfl rfl rfl (get_there (by omega) get_here) (by have := (show (shN (ps.getD 0 dGap).to i (ps.drop 1)).length = K - 1 from by rw [shN_len, List.length_drop]; omega); omega) rfl) ?_
    refine OA.p (some 60) (.int .i64 (ps.getD 0 dGap).to) rfl rfl rfl rfl ?_
    refine OA.p (some 61) (.int .i64 (((shN (ps.getD 0 dGap).to i (ps.drop 1)).getD i dGap).fr - (ps.getD 0 dGap).to)) rfl rfl rfl (r_bin rfl rfl rfl (b_sub (i64_eq (by omega)))) ?_
    refine OA.p (some 62) (.pointer (some ⟨(n + 1), i, some 0⟩)) rfl rfl rfl (r_iaS (l := i) rfl rfl rfl rfl rfl rfl (by omega) (by omega) (get_there (by omega) get_here) rfl (by omega)) ?_
    refine OA.p (some 63) (.pointer (some ⟨(n + 1), i, some 0⟩)) rfl rfl rfl rfl ?_
    refine OA.op1 (dst := none) (v := (.tuple #[])) (n1 := n2) (w := ((n + 1), some (oGap ((shN (ps.getD 0 dGap).to i (ps.drop 1)).set i (xGp23 ps i))))) rfl rfl rfl (r_storeR (c := cGap) dGap (xGp23 ps i) rfl rfl rfl rfl rfl rfl rfl (get_there (by omega) get_here) (by have := (show (shN (ps.getD 0 dGap).to i (ps.drop 1)).length = K - 1 from by rw [shN_len, List.length_drop]; omega); omega) (Nat.le_of_ble_eq_true rfl) rfl) (by omega) ?_
    refine OA.nil ?_
    intro _
    refine RA.region env_ok ?_
    refine OA.p (some 64) (Pt g 0 0) rfl rfl rfl rfl ?_
    refine OA.p (some 65) (Pt g 0 0) rfl rfl rfl rfl ?_
    refine OA.p (some 66) (Pt g 0 1) rfl rfl rfl rfl ?_
    refine OA.p (some 67) (.slice (some ⟨(n + 1), 0, none⟩) (K - 1) 2) rfl rfl rfl (r_load1 rfl rfl rfl rfl rfl (get_there (by omega) get_here) rfl rfl) ?_
    refine OA.p (some 68) (.int .i64 ((i : Nat) : Int)) rfl rfl rfl rfl ?_
    refine OA.p (some 69) (.pointer (some ⟨(n + 1), i, some 0⟩)) rfl rfl rfl (r_iaS (l := i) rfl rfl rfl rfl rfl rfl (by omega) (by omega) get_here rfl (by omega)) ?_
    refine OA.p (some 70) (.pointer (some ⟨(n + 1), i, some 1⟩)) rfl rfl rfl rfl ?_
    have hst2 : (((shN (ps.getD 0 dGap).to i (ps.drop 1)).set i (xGp23 ps i)).getD i dGap).to = ((shN (ps.getD 0 dGap).to i (ps.drop 1)).getD i dGap).to := by rw [set_get (by omega)]
    refine OA.p (some 71) (.int .i64 (((shN (ps.getD 0 dGap).to i (ps.drop 1)).set i (xGp23 ps i)).getD i dGap).to) rfl rfl rfl (r_loadF (c := cGap) dGap rfl rfl rfl rfl rfl get_here (by rw [List.length_set, show (shN (ps.getD 0 dGap).to i (ps.drop 1)).length = K - 1 from by rw [shN_len, List.length_drop]; omega]; omega) rfl) ?_
    refine OA.p (some 72) (.int .i64 (ps.getD 0 dGap).to) rfl rfl rfl rfl ?_
    refine OA.p (some 73) (.int .i64 ((((shN (ps.getD 0 dGap).to i (ps.drop 1)).set i (xGp23 ps i)).getD i dGap).to - (ps.getD 0 dGap).to)) rfl rfl rfl (r_bin rfl rfl rfl (b_sub (i64_eq (by omega)))) ?_
    refine OA.p (some 74) (.pointer (some ⟨(n + 1), i, some 0⟩)) rfl rfl rfl (r_iaS (l := i) rfl rfl rfl rfl rfl rfl (by omega) (by omega) get_here rfl (by omega)) ?_
    refine OA.p (some 75) (.pointer (some ⟨(n + 1), i, some 1⟩)) rfl rfl rfl rfl ?_
    refine OA.op1 (dst := none) (v := (.tuple #[])) (n1 := n2) (w := ((n + 1), some (oGap (((shN (ps.getD 0 dGap).to i (ps.drop 1)).set i (xGp23 ps i)).set i (xGp22 ps i))))) rfl rfl rfl (r_storeR (c := cGap) dGap (xGp22 ps i) rfl rfl rfl rfl rfl rfl rfl get_here (by rw [List.length_set, show (shN (ps.getD 0 dGap).to i (ps.drop 1)).length = K - 1 from by rw [shN_len, List.length_drop]; omega]; omega) (Nat.le_of_ble_eq_true rfl) rfl) (by omega) ?_
    refine OA.nil ?_
    intro _
    refine RA.weaken (D' := [((n + 1), some (oGap (((shN (ps.getD 0 dGap).to i (ps.drop 1)).set i (xGp23 ps i)).set i (xGp22 ps i)))), (g, some ⟨[(xGp24 cum ps n K jd M)], 3, 131, true⟩), (jp, none)]) hd (Less.of (fac (mm (fun _ => get_here) (fun _ => get_here)) (fac (mm (fun _ => (get_there (by omega) get_here)) (fun _ => (gt2 (by omega) get_here))) (fac (mm (fun _ => (gt2 (by omega) get_here)) (fun _ => (gt4 (by omega) get_here))) fan))) (gone_of (by simp only [goneP, memP, List.cons_append, List.nil_append, true_or, or_true, true_and, and_true, or_false] <;> omega))) ?_
    refine RA.rebase [(0, (Pt g 0 0)), (2, (.int .i64 (ps.getD 0 dGap).to)), (3, (.int .i64 ((i : Nat) : Int))), (48, (.int .i64 (((K - 1) : Nat) : Int))), (49, (.int .i64 ((i : Nat) : Int))), (50, (.bool true))] ⟨rfl, rfl, rfl, rfl, rfl, rfl, trivial⟩ (fun τr3 => ?_)
    refine RA.region env_ok ?_
    refine OA.p (some 76) (.int .i64 (((i + 1) : Nat) : Int)) rfl rfl rfl (r_bin rfl rfl rfl (b_add (i64_eq (by omega)))) ?_
    refine OA.p (some 49) (.int .i64 (((i + 1) : Nat) : Int)) rfl rfl rfl rfl ?_
    refine OA.nil ?_
    refine ⟨K - 1 - (i + 1), by omega, [(g, some ⟨[(xGp24 cum ps n K jd M)], 3, 131, true⟩), ((n + 1), some (oGap (((shN (ps.getD 0 dGap).to i (ps.drop 1)).set i (xGp23 ps i)).set i (xGp22 ps i)))), (jp, none)], (Less.of (fac (mm (fun _ => get_here) (fun _ => (get_there (by omega) get_here))) (fac (mm (fun _ => (get_there (by omega) get_here)) (fun _ => get_here)) (fac (mm (fun _ => (gt2 (by omega) get_here)) (fun _ => (gt2 (by omega) get_here))) fan))) (gone_of (by simp only [goneP, memP, List.cons_append, List.nil_append, true_or, or_true, true_and, and_true, or_false] <;> omega))), ⟨(i + 1), rfl, by omega, ⟨rfl, rfl, rfl, rfl, trivial⟩, (by rw [shN_step (by rw [List.length_drop]; omega)]), (kb3 (by omega)), by omega⟩⟩
   ·
    refine OA.p (some 50) (.bool false) rfl rfl rfl (Eq.trans (r_bin rfl rfl rfl (b_lss rfl)) (dF hc3)) ?_
    refine OA.nil ?_
    intro _
    refine RA.seq hd ?_
    refine RA.condF rfl ?_
    refine RA.exit env_ok ?_
    refine ⟨.inl rfl, [], resL_nil, [(g, some ⟨[(xGp24 cum ps n K jd M)], 3, 131, true⟩), ((n + 1), some (oGap (shN (ps.getD 0 dGap).to i (ps.drop 1)))), (jp, none)], (Less.refl _ _ _), ⟨(n + 1), by omega, by omega, K - 1, by rw [(show setl cum ps = (cum + BitVec.ofInt 32 (ps.getD 0 dGap).to, (ps.drop 1).map (sh (ps.getD 0 dGap).to)) from if_pos ⟨by omega, hfr1⟩)]; show ((ps.drop 1).map _).length = _; rw [List.length_map, List.length_drop]; omega, by omega, rfl, by rw [(show setl cum ps = (cum + BitVec.ofInt 32 (ps.getD 0 dGap).to, (ps.drop 1).map (sh (ps.getD 0 dGap).to)) from if_pos ⟨by omega, hfr1⟩), (shN_all (b := (ps.getD 0 dGap).to) (i := i) (l := ps.drop 1) (by rw [List.length_drop]; omega))]⟩⟩
end Go.Proofs.Ytmepflkodjdgdaa.Vt
