/- Gp3: walks through functions of the program, by the calculus; written by a program of this workplace. -/
import Derived.Test.YtmepflkodjdgdaaGp2
import Derived.Test.YtmepflkodjdgdaaVm6
namespace Go.Proofs.Ytmepflkodjdgdaa.Vt
open Go Go.Proofs Go.Proofs.YtmepflkodjdgdaaV
set_option maxRecDepth 100000
set_option linter.unusedVariables false
set_option linter.unusedSimpArgs false
theorem look_1 {cum : BitVec 32} {ps : List Gap} {tsn : BitVec 32} (h : lookZ cum ps tsn = 1) : 0 < diffW tsn cum ∧ diffW tsn cum ≤ 1000 ∧ ¬ ps.any (inGb (diffW tsn cum)) = true := by
  unfold lookZ at h
  split at h
  · omega
  · split at h
    · omega
    · split at h
      · omega
      · exact ⟨by omega, by omega, by assumption⟩
theorem mem_set' {l : List Gap} {i : Nat} {x y : Gap} (h : y ∈ l.set i x) : y ∈ l ∨ y = x := by
  rcases List.mem_or_eq_of_mem_set h with h | h
  · exact .inl h
  · exact .inr h
theorem okG_ins {ps : List Gap} {far : Int} (h : okG ps) (h1 : 0 < far) (h2 : far ≤ 1000000) : okG (insG ps far) := by
  intro p hp
  unfold insG insL at hp
  rcases List.mem_append.1 hp with hp | hp
  · rcases List.mem_append.1 hp with hp | hp
    · exact h p (List.mem_of_mem_take hp)
    · rw [List.mem_singleton] at hp; subst hp; exact ⟨by show -1000000 ≤ far; omega, h2, by show -1000000 ≤ far; omega, h2⟩
  · exact h p (List.mem_of_mem_drop hp)
theorem okG_d {ps : List Gap} (h : okG ps) (i : Nat) : -1000000 ≤ (ps.getD i dGap).fr ∧ (ps.getD i dGap).fr ≤ 1000000 ∧ -1000000 ≤ (ps.getD i dGap).to ∧ (ps.getD i dGap).to ≤ 1000000 := by
  rcases Nat.lt_or_ge i ps.length with h1 | h1
  · exact okG_get h h1
  · rw [List.getD_eq_getElem?_getD, List.getElem?_eq_none h1]; exact ⟨by decide, by decide, by decide, by decide⟩
theorem okG_mrg {ps : List Gap} {i j k : Nat} (h : okG ps) : okG ((ps.set i (Gap.mk (ps.getD i dGap).fr (ps.getD j dGap).to)).eraseIdx k) := by
  intro p hp
  rcases mem_set' (List.mem_of_mem_eraseIdx hp) with hp | hp
  · exact h p hp
  · subst hp
    have h1 := okG_d h i
    have h2 := okG_d h j
    exact ⟨h1.1, h1.2.1, h2.2.2.1, h2.2.2.2⟩
theorem okG_put {ps : List Gap} {far : Int} (h : okG ps) (h1 : 0 < far) (h2 : far ≤ 1000000) : okG (putL ps far) := by
  have h3 := okG_ins h h1 h2
  have h4 : okG (mrg1 (insG ps far) (ps.findIdx (gtb far)) far) := by
    unfold mrg1
    split
    · exact okG_mrg h3
    · exact h3
  unfold putL mrg2
  split
  · exact okG_mrg h4
  · exact h4
def addS (cum : BitVec 32) (ps : List Gap) (ds : List Wx) (tsn : BitVec 32) : BitVec 32 × List Gap × List Wx :=
  if lookZ cum ps tsn = 2 then (cum, ps, if ds.length < 16 then ds ++ [Wx.mk tsn] else ds)
  else if lookZ cum ps tsn = 1 then ((setl cum (putL ps (diffW tsn cum))).1, (setl cum (putL ps (diffW tsn cum))).2, ds) else (cum, ps, ds)
theorem aeqG (x y : Gap) : aeq env Op.maxDepth 60 (.agg ⟨cGap x⟩) (.agg ⟨cGap y⟩) = some (decide (x = y)) := by
  have h : aeq env Op.maxDepth 60 (.agg ⟨cGap x⟩) (.agg ⟨cGap y⟩) = (match (x.fr == y.fr) with | true => (match (x.to == y.to) with | true => some true | false => some false) | false => some false) := by kernel_rfl
  rw [h]
  obtain ⟨a, b⟩ := x
  obtain ⟨c, d⟩ := y
  by_cases h1 : a = c
  · subst h1
    by_cases h2 : b = d
    · subst h2; simp
    · have e : (b == d) = false := by simp [h2]
      simp [e, h2]
  · have e : (a == c) = false := by simp [h1]
    simp [e, h1]
def sameZ : List Gap → List Gap → Bool := fun a b => decide (a = b)
theorem take_succ_getD {α : Type} {l : List α} {i : Nat} {d : α} (h : i < l.length) : l.take (i + 1) = l.take i ++ [l.getD i d] := by
  rw [List.take_succ_eq_append_getElem h, List.getD_eq_getElem?_getD, List.getElem?_eq_getElem h]; rfl
abbrev xGp31 (cum : BitVec 32) (ps : List Gap) (tsn : BitVec 32) (jr : Nat) (K2 : Nat) (n : Nat) (M : Nat) : List Value := [(W (setl cum (putL ps (diffW tsn cum))).1), (.slice (some ⟨jr, 0, none⟩) K2 2), (.slice (some ⟨(n + 1), 0, none⟩) M 2)]
theorem gAdd {n : Nat} {σ : Store} (hd : Dom n σ) (g jp jd K M : Nat) (cum : BitVec 32) (ps : List Gap) (ds : List Wx) (hps : ps.length = K) (hds : ds.length = M) (hK : K ≤ 800) (hM : M ≤ 16) (h1 : g ≠ jp) (h2 : g ≠ jd) (h3 : jp ≠ jd) (hok : okG ps) (tsn : BitVec 32) (hg : σ g = some ⟨[[(W cum), (.slice (some ⟨jp, 0, none⟩) K 2), (.slice (some ⟨jd, 0, none⟩) M 2)]], 3, 131, true⟩) (hjp : σ jp = some (oGap ps)) (hjd : σ jd = some (oWx ds))  : CQ Try.prog noDen 35 [(Pt g 0 0), (W tsn)] n σ (fun v n' d => ∃ jq je, n ≤ jq ∧ jq < n' ∧ n ≤ je ∧ je < n' ∧ jq ≠ je ∧ ∃ K' M', (addS cum ps ds tsn).2.1.length = K' ∧ (addS cum ps ds tsn).2.2.length = M' ∧ K' ≤ K + 1 ∧ M' ≤ 16 ∧ v = .int .i64 (lookZ cum ps tsn) ∧ d = [(g, some ⟨[[(W (addS cum ps ds tsn).1), (.slice (some ⟨jq, 0, none⟩) K' 2), (.slice (some ⟨je, 0, none⟩) M' 2)]], 3, 131, true⟩), (jq, some (oGap (addS cum ps ds tsn).2.1)), (je, some (oWx (addS cum ps ds tsn).2.2)), (jp, none), (jd, none)]) := by
 have lhg := hd.lt hg
 have lhjp := hd.lt hjp
 have lhjd := hd.lt hjd
 refine CQ.body (E := env) env_ok hd rfl rfl (by show _ ≤ _; exact of_decide_eq_true (by kernel_rfl)) ?_
 refine RA.reoff (idx := 1) hg hjp (by omega) rfl (cs' := [(W cum), (.slice (some ⟨n, 0, none⟩) K 2), (.slice (some ⟨jd, 0, none⟩) M 2)]) rfl (ob' := (oGap ps)) (ro0) ?_
 refine RA.reoff (idx := 2) get_here (gt3 (by omega) hjd) (by omega) rfl (cs' := [(W cum), (.slice (some ⟨n, 0, none⟩) K 2), (.slice (some ⟨(n + 1), 0, none⟩) M 2)]) rfl (ob' := (oWx ds)) (ro0) ?_
 refine RA.seq hd ?_
 refine RA.region env_ok ?_
 refine OA.p (some 4) (.int .i64 0) rfl rfl rfl rfl ?_
 refine OA.nil ?_
 intro _
 refine RA.seq hd ?_
 refine RA.region env_ok ?_
 refine OA.p (some 6) (Pt g 0 0) rfl rfl rfl rfl ?_
 refine OA.p (some 7) (W tsn) rfl rfl rfl rfl ?_
 refine OA.callP (dst := (some 8)) (all := [(Pt g 0 0), (W tsn)]) (v := (.int .i64 (lookZ cum ps tsn))) (hd.of (by omega) (kb6 (by omega))) rfl rfl rfl rfl rfl rfl rfl rfl (gLook g n (n + 1) K M cum ps hps (by omega) (by omega) tsn get_here (gt4 (by omega) get_here)) ?_
 intro n1 hn1
 refine OA.p (some 5) (.int .i64 (lookZ cum ps tsn)) rfl rfl rfl rfl ?_
 refine OA.nil ?_
 intro _
 refine RA.seq hd ?_
 refine RA.seq hd ?_
 refine RA.region env_ok ?_
 refine OA.p (some 9) (.int .i64 (lookZ cum ps tsn)) rfl rfl rfl rfl ?_
 refine OA.nil ?_
 intro _
 refine RA.block ?_
 refine RA.seq hd ?_
 refine RA.region env_ok ?_
 by_cases hc1 : (lookZ cum ps tsn) = 2
 ·
  refine OA.p (some 11) (.bool true) rfl rfl rfl (Eq.trans (r_bin rfl rfl rfl (b_eql rfl)) (dT hc1)) ?_
  refine OA.p (some 10) (.bool true) rfl rfl rfl rfl ?_
  refine OA.nil ?_
  intro _
  refine RA.condT rfl ?_
  refine RA.seq hd ?_
  refine RA.region env_ok ?_
  refine OA.p (some 12) (Pt g 0 0) rfl rfl rfl rfl ?_
  refine OA.p (some 13) (Pt g 0 0) rfl rfl rfl rfl ?_
  refine OA.p (some 14) (Pt g 0 2) rfl rfl rfl rfl ?_
  refine OA.p (some 15) (.slice (some ⟨(n + 1), 0, none⟩) M 2) rfl rfl rfl (r_load1 rfl rfl rfl rfl rfl get_here rfl rfl) ?_
  refine OA.p (some 16) (.int .i64 ((M : Nat) : Int)) rfl rfl rfl rfl ?_
  by_cases hc2 : ((M : Nat) : Int) < 16
  ·
   refine OA.p (some 17) (.bool true) rfl rfl rfl (Eq.trans (r_bin rfl rfl rfl (b_lss rfl)) (dT hc2)) ?_
   refine OA.nil ?_
   intro _
   refine RA.condT rfl ?_
   refine RA.region env_ok ?_
   refine OA.p (some 18) (Pt g 0 0) rfl rfl rfl rfl ?_
   refine OA.p (some 19) (Pt g 0 0) rfl rfl rfl rfl ?_
   refine OA.p (some 20) (Pt g 0 0) rfl rfl rfl rfl ?_
   refine OA.p (some 21) (Pt g 0 2) rfl rfl rfl rfl ?_
   refine OA.p (some 22) (.slice (some ⟨(n + 1), 0, none⟩) M 2) rfl rfl rfl (r_load1 rfl rfl rfl rfl rfl get_here rfl rfl) ?_
   refine OA.p (some 23) (W tsn) rfl rfl rfl rfl ?_
   refine OA.op1 (dst := (some 24)) (v := (.slice (some ⟨n1, 0, none⟩) 1 0)) (n1 := (n1 + 1)) (w := (n1, some ⟨[[(W tsn)]], 1, 27, true⟩)) rfl rfl rfl (by kernel_rfl) (by omega) ?_
   refine OA.op (dst := (some 25)) (v := (.slice (some ⟨(n1 + 1), 0, none⟩) (M + 1) 2)) (n1 := (n1 + 2)) (d1 := [((n1 + 1), some (oWx (ds ++ [(Wx.mk tsn)]))), ((n + 1), none)]) (D' := [((n1 + 1), some (oWx (ds ++ [(Wx.mk tsn)]))), ((n + 1), none), (n1, some ⟨[[(W tsn)]], 1, 27, true⟩), (g, some ⟨[[(W cum), (.slice (some ⟨n, 0, none⟩) K 2), (.slice (some ⟨(n + 1), 0, none⟩) M 2)]], 3, 131, true⟩), ((n + 1), some (oWx ds)), (jd, none), (g, some ⟨[[(W cum), (.slice (some ⟨n, 0, none⟩) K 2), (.slice (some ⟨jd, 0, none⟩) M 2)]], 3, 131, true⟩), (n, some (oGap ps)), (jp, none)]) rfl rfl rfl (r_append2x (c := cWx) (x := (Wx.mk tsn)) (l' := (ds ++ [(Wx.mk tsn)])) rfl rfl rfl rfl rfl rfl rfl rfl rfl rfl (by decide) (gt2 (by omega) get_here) get_here (by rw [hds]; omega) (by rw [take_all' (by rw [hds])]) (by omega) (of_decide_eq_true (by kernel_rfl)) (by omega)) (by omega) rfl ?_
   refine OA.p (some 26) (Pt g 0 0) rfl rfl rfl rfl ?_
   refine OA.p (some 27) (Pt g 0 2) rfl rfl rfl rfl ?_
   refine OA.op1 (dst := none) (v := (.tuple #[])) (n1 := (n1 + 2)) (w := (g, some ⟨[[(W cum), (.slice (some ⟨n, 0, none⟩) K 2), (.slice (some ⟨(n1 + 1), 0, none⟩) (M + 1) 2)]], 3, 131, true⟩)) rfl rfl rfl (r_store rfl rfl rfl rfl rfl rfl rfl (gt3 (by omega) get_here) rfl rfl (Nat.le_of_ble_eq_true rfl) rfl) (by omega) ?_
   refine OA.nil ?_
   intro _
   refine RA.rebase [(0, (Pt g 0 0)), (1, (W tsn)), (4, (.int .i64 0)), (5, (.int .i64 (lookZ cum ps tsn))), (9, (.int .i64 (lookZ cum ps tsn))), (10, (.bool true)), (17, (.bool true))] ⟨rfl, rfl, rfl, rfl, rfl, rfl, rfl, trivial⟩ (fun τr2 => ?_)
   refine RA.seq hd ?_
   refine RA.region env_ok ?_
   refine OA.p (some 40) (.int .i64 (lookZ cum ps tsn)) rfl rfl rfl rfl ?_
   refine OA.p (some 4) (.int .i64 (lookZ cum ps tsn)) rfl rfl rfl rfl ?_
   refine OA.nil ?_
   intro _
   refine RA.ret env_ok ?_
   refine ⟨.inr rfl, [(.int .i64 (lookZ cum ps tsn))], (resL_cons rfl resL_nil), [(g, some ⟨[[(W cum), (.slice (some ⟨n, 0, none⟩) K 2), (.slice (some ⟨(n1 + 1), 0, none⟩) (M + 1) 2)]], 3, 131, true⟩), (n, some (oGap ps)), ((n1 + 1), some (oWx (ds ++ [(Wx.mk tsn)]))), (jp, none), (jd, none)], (Less.of (fac (mm (fun _ => get_here) (fun _ => get_here)) (fac (mm (fun _ => (get_there (by omega) get_here)) (fun _ => (gt8 (by omega) get_here))) (fac (mm (fun _ => (gt2 (by omega) get_here)) (fun _ => (get_there (by omega) get_here))) (fac (mm (fun _ => (gt3 (by omega) get_here)) (fun _ => (gt9 (by omega) get_here))) (fac (mm (fun _ => (gt4 (by omega) get_here)) (fun _ => (gt6 (by omega) get_here))) fan))))) (gone_of (by simp only [goneP, memP, List.cons_append, List.nil_append, true_or, or_true, true_and, and_true, or_false] <;> omega))), ⟨n, (n1 + 1), by omega, by omega, by omega, by omega, by omega, K, (M + 1), by rw [(show addS cum ps ds tsn = (cum, ps, (ds ++ [(Wx.mk tsn)])) from (if_pos hc1).trans (by rw [if_pos (by omega)]))]; exact (show ps.length = K from by rw [hps]), by rw [(show addS cum ps ds tsn = (cum, ps, (ds ++ [(Wx.mk tsn)])) from (if_pos hc1).trans (by rw [if_pos (by omega)]))]; exact (show (ds ++ [(Wx.mk tsn)]).length = (M + 1) from by simp only [List.length_append, List.length_singleton, List.length_take, List.length_drop]; first | (rw [hds]; done) | (rw [hds]; omega)), by omega, by omega, rfl, by rw [(show addS cum ps ds tsn = (cum, ps, (ds ++ [(Wx.mk tsn)])) from (if_pos hc1).trans (by rw [if_pos (by omega)]))]⟩⟩
  ·
   refine OA.p (some 17) (.bool false) rfl rfl rfl (Eq.trans (r_bin rfl rfl rfl (b_lss rfl)) (dF hc2)) ?_
   refine OA.nil ?_
   intro _
   refine RA.condF rfl ?_
   refine RA.skip env_ok ?_
   intro _
   refine RA.seq hd ?_
   refine RA.region env_ok ?_
   refine OA.p (some 40) (.int .i64 (lookZ cum ps tsn)) rfl rfl rfl rfl ?_
   refine OA.p (some 4) (.int .i64 (lookZ cum ps tsn)) rfl rfl rfl rfl ?_
   refine OA.nil ?_
   intro _
   refine RA.ret env_ok ?_
   refine ⟨.inr rfl, [(.int .i64 (lookZ cum ps tsn))], (resL_cons rfl resL_nil), [(g, some ⟨[[(W cum), (.slice (some ⟨n, 0, none⟩) K 2), (.slice (some ⟨(n + 1), 0, none⟩) M 2)]], 3, 131, true⟩), (n, some (oGap ps)), ((n + 1), some (oWx ds)), (jp, none), (jd, none)], (Less.of (fac (mm (fun _ => get_here) (fun _ => get_here)) (fac (mm (fun _ => (get_there (by omega) get_here)) (fun _ => (gt4 (by omega) get_here))) (fac (mm (fun _ => (gt2 (by omega) get_here)) (fun _ => (get_there (by omega) get_here))) (fac (mm (fun _ => (gt3 (by omega) get_here)) (fun _ => (gt5 (by omega) get_here))) (fac (mm (fun _ => (gt4 (by omega) get_here)) (fun _ => (gt2 (by omega) get_here))) fan))))) (gone_of (by simp only [goneP, memP, List.cons_append, List.nil_append, true_or, or_true, true_and, and_true, or_false] <;> omega))), ⟨n, (n + 1), by omega, by omega, by omega, by omega, by omega, K, M, by rw [(show addS cum ps ds tsn = (cum, ps, ds) from (if_pos hc1).trans (by rw [if_neg (by omega)]))]; exact (show ps.length = K from by rw [hps]), by rw [(show addS cum ps ds tsn = (cum, ps, ds) from (if_pos hc1).trans (by rw [if_neg (by omega)]))]; exact (show ds.length = M from by rw [hds]), by omega, by omega, rfl, by rw [(show addS cum ps ds tsn = (cum, ps, ds) from (if_pos hc1).trans (by rw [if_neg (by omega)]))]⟩⟩
 ·
  refine OA.p (some 11) (.bool false) rfl rfl rfl (Eq.trans (r_bin rfl rfl rfl (b_eql rfl)) (dF hc1)) ?_
  refine OA.p (some 10) (.bool false) rfl rfl rfl rfl ?_
  refine OA.nil ?_
  intro _
  refine RA.condF rfl ?_
  refine RA.seq hd ?_
  refine RA.region env_ok ?_
  by_cases hc3 : (lookZ cum ps tsn) = 1
  ·
   have hl1 := look_1 hc3
   refine OA.p (some 29) (.bool true) rfl rfl rfl (Eq.trans (r_bin rfl rfl rfl (b_eql rfl)) (dT hc3)) ?_
   refine OA.p (some 28) (.bool true) rfl rfl rfl rfl ?_
   refine OA.nil ?_
   intro _
   refine RA.condT rfl ?_
   refine RA.seq hd ?_
   refine RA.region env_ok ?_
   refine OA.p (some 30) (Pt g 0 0) rfl rfl rfl rfl ?_
   refine OA.p (some 31) (W tsn) rfl rfl rfl rfl ?_
   refine OA.p (some 32) (Pt g 0 0) rfl rfl rfl rfl ?_
   refine OA.p (some 33) (Pt g 0 0) rfl rfl rfl rfl ?_
   refine OA.p (some 34) (Pt g 0 0) rfl rfl rfl rfl ?_
   refine OA.p (some 35) (W cum) rfl rfl rfl (r_load1 rfl rfl rfl rfl rfl get_here rfl rfl) ?_
   refine OA.callP (dst := (some 36)) (all := [(W tsn), (W cum)]) (v := (.int .i64 (diffW tsn cum))) (hd.of (by omega) (kb6 (by omega))) rfl rfl rfl rfl rfl rfl rfl rfl (gDiff tsn cum) ?_
   intro n3 hn3
   refine OA.call (dst := (some 37)) (all := [(Pt g 0 0), (.int .i64 (diffW tsn cum))]) rfl rfl rfl rfl rfl rfl rfl rfl (CQ.imp (gPut (hd.of (by omega) (kb6 (by omega))) g n (n + 1) K M cum ps hps (by omega) (by omega) (diffW tsn cum) hl1.1 (by have := hl1.2.1; omega) get_here (gt4 (by omega) get_here)) ?_)
   rintro _ n4 _ ⟨jq, hq1, hq2, K1, hK1, hK2, rfl, rfl⟩ hn4
   show OA _ _ _ _ _ _ _ _ [(g, some ⟨[[(W cum), (.slice (some ⟨jq, 0, none⟩) K1 2), (.slice (some ⟨(n + 1), 0, none⟩) M 2)]], 3, 131, true⟩), (jq, some (oGap (putL ps (diffW tsn cum)))), (n, none), (g, some ⟨[[(W cum), (.slice (some ⟨n, 0, none⟩) K 2), (.slice (some ⟨(n + 1), 0, none⟩) M 2)]], 3, 131, true⟩), ((n + 1), some (oWx ds)), (jd, none), (g, some ⟨[[(W cum), (.slice (some ⟨n, 0, none⟩) K 2), (.slice (some ⟨jd, 0, none⟩) M 2)]], 3, 131, true⟩), (n, some (oGap ps)), (jp, none)] _
   refine OA.nil ?_
   intro _
   refine RA.region env_ok ?_
   refine OA.p (some 38) (Pt g 0 0) rfl rfl rfl rfl ?_
   refine OA.call (dst := (some 39)) (all := [(Pt g 0 0)]) rfl rfl rfl rfl rfl rfl rfl rfl (CQ.imp (gSet (hd.of (by omega) (kb9 (by omega))) g jq (n + 1) K1 M cum (putL ps (diffW tsn cum)) hK1 (by omega) (by omega) (okG_put hok hl1.1 (by have := hl1.2.1; omega)) get_here (get_there (by omega) get_here)) ?_)
   rintro _ n5 _ ⟨jr, hr1, hr2, K2, hL1, hL2, rfl, rfl⟩ hn5
   show OA _ _ _ _ _ _ _ _ [(g, some ⟨[(xGp31 cum ps tsn jr K2 n M)], 3, 131, true⟩), (jr, some (oGap (setl cum (putL ps (diffW tsn cum))).2)), (jq, none), (g, some ⟨[[(W cum), (.slice (some ⟨jq, 0, none⟩) K1 2), (.slice (some ⟨(n + 1), 0, none⟩) M 2)]], 3, 131, true⟩), (jq, some (oGap (putL ps (diffW tsn cum)))), (n, none), (g, some ⟨[[(W cum), (.slice (some ⟨n, 0, none⟩) K 2), (.slice (some ⟨(n + 1), 0, none⟩) M 2)]], 3, 131, true⟩), ((n + 1), some (oWx ds)), (jd, none), (g, some ⟨[[(W cum), (.slice (some ⟨n, 0, none⟩) K 2), (.slice (some ⟨jd, 0, none⟩) M 2)]], 3, 131, true⟩), (n, some (oGap ps)), (jp, none)] _
   refine OA.nil ?_
   intro _
   refine RA.weaken (D' := [(g, some ⟨[(xGp31 cum ps tsn jr K2 n M)], 3, 131, true⟩), (jr, some (oGap (setl cum (putL ps (diffW tsn cum))).2)), (jq, none), (n, none), ((n + 1), some (oWx ds)), (jd, none), (jp, none)]) hd (Less.of (fac (mm (fun _ => get_here) (fun _ => get_here)) (fac (mm (fun _ => (get_there (by omega) get_here)) (fun _ => (get_there (by omega) get_here))) (fac (mm (fun _ => (gt2 (by omega) get_here)) (fun _ => (gt2 (by omega) get_here))) (fac (mm (fun _ => (gt3 (by omega) get_here)) (fun _ => (gt5 (by omega) get_here))) (fac (mm (fun _ => (gt4 (by omega) get_here)) (fun _ => (gt7 (by omega) get_here))) (fac (mm (fun _ => (gt5 (by omega) get_here)) (fun _ => (gt8 (by omega) get_here))) (fac (mm (fun _ => (gt6 (by omega) get_here)) (fun _ => (gt11 (by omega) get_here))) fan))))))) (gone_of (by simp only [goneP, memP, List.cons_append, List.nil_append, true_or, or_true, true_and, and_true, or_false] <;> omega))) ?_
   refine RA.seq hd ?_
   refine RA.region env_ok ?_
   refine OA.p (some 40) (.int .i64 (lookZ cum ps tsn)) rfl rfl rfl rfl ?_
   refine OA.p (some 4) (.int .i64 (lookZ cum ps tsn)) rfl rfl rfl rfl ?_
   refine OA.nil ?_
   intro _
   refine RA.ret env_ok ?_
   refine ⟨.inr rfl, [(.int .i64 (lookZ cum ps tsn))], (resL_cons rfl resL_nil), [(g, some ⟨[(xGp31 cum ps tsn jr K2 n M)], 3, 131, true⟩), (jr, some (oGap (setl cum (putL ps (diffW tsn cum))).2)), ((n + 1), some (oWx ds)), (jp, none), (jd, none)], (Less.of (fac (mm (fun _ => get_here) (fun _ => get_here)) (fac (mm (fun _ => (get_there (by omega) get_here)) (fun _ => (get_there (by omega) get_here))) (fac (mm (fun _ => (gt2 (by omega) get_here)) (fun _ => (gt4 (by omega) get_here))) (fac (mm (fun _ => (gt3 (by omega) get_here)) (fun _ => (gt6 (by omega) get_here))) (fac (mm (fun _ => (gt4 (by omega) get_here)) (fun _ => (gt5 (by omega) get_here))) fan))))) (gone_of (by simp only [goneP, memP, List.cons_append, List.nil_append, true_or, or_true, true_and, and_true, or_false] <;> omega))), ⟨jr, (n + 1), by omega, by omega, by omega, by omega, by omega, K2, M, by rw [(show addS cum ps ds tsn = ((setl cum (putL ps (diffW tsn cum))).1, (setl cum (putL ps (diffW tsn cum))).2, ds) from (if_neg hc1).trans (if_pos hc3))]; exact (show (setl cum (putL ps (diffW tsn cum))).2.length = K2 from by rw [hL1]), by rw [(show addS cum ps ds tsn = ((setl cum (putL ps (diffW tsn cum))).1, (setl cum (putL ps (diffW tsn cum))).2, ds) from (if_neg hc1).trans (if_pos hc3))]; exact (show ds.length = M from by rw [hds]), by omega, by omega, rfl, by rw [(show addS cum ps ds tsn = ((setl cum (putL ps (diffW tsn cum))).1, (setl cum (putL ps (diffW tsn cum))).2, ds) from (if_neg hc1).trans (if_pos hc3))]⟩⟩
  ·
   refine OA.p (some 29) (.bool false) rfl rfl rfl (Eq.trans (r_bin rfl rfl rfl (b_eql rfl)) (dF hc3)) ?_
   refine OA.p (some 28) (.bool false) rfl rfl rfl rfl ?_
   refine OA.nil ?_
   intro _
   refine RA.condF rfl ?_
   refine RA.skip env_ok ?_
   intro _
   refine RA.seq hd ?_
   refine RA.region env_ok ?_
   refine OA.p (some 40) (.int .i64 (lookZ cum ps tsn)) rfl rfl rfl rfl ?_
   refine OA.p (some 4) (.int .i64 (lookZ cum ps tsn)) rfl rfl rfl rfl ?_
   refine OA.nil ?_
   intro _
   refine RA.ret env_ok ?_
   refine ⟨.inr rfl, [(.int .i64 (lookZ cum ps tsn))], (resL_cons rfl resL_nil), [(g, some ⟨[[(W cum), (.slice (some ⟨n, 0, none⟩) K 2), (.slice (some ⟨(n + 1), 0, none⟩) M 2)]], 3, 131, true⟩), (n, some (oGap ps)), ((n + 1), some (oWx ds)), (jp, none), (jd, none)], (Less.of (fac (mm (fun _ => get_here) (fun _ => get_here)) (fac (mm (fun _ => (get_there (by omega) get_here)) (fun _ => (gt4 (by omega) get_here))) (fac (mm (fun _ => (gt2 (by omega) get_here)) (fun _ => (get_there (by omega) get_here))) (fac (mm (fun _ => (gt3 (by omega) get_here)) (fun _ => (gt5 (by omega) get_here))) (fac (mm (fun _ => (gt4 (by omega) get_here)) (fun _ => (gt2 (by omega) get_here))) fan))))) (gone_of (by simp only [goneP, memP, List.cons_append, List.nil_append, true_or, or_true, true_and, and_true, or_false] <;> omega))), ⟨n, (n + 1), by omega, by omega, by omega, by omega, by omega, K, M, by rw [(show addS cum ps ds tsn = (cum, ps, ds) from (if_neg hc1).trans (if_neg hc3))]; exact (show ps.length = K from by rw [hps]), by rw [(show addS cum ps ds tsn = (cum, ps, ds) from (if_neg hc1).trans (if_neg hc3))]; exact (show ds.length = M from by rw [hds]), by omega, by omega, rfl, by rw [(show addS cum ps ds tsn = (cum, ps, ds) from (if_neg hc1).trans (if_neg hc3))]⟩⟩

theorem gCum {σ : Store} (g jp jd K M : Nat) (cum : BitVec 32) (hg : σ g = some ⟨[[(W cum), (.slice (some ⟨jp, 0, none⟩) K 2), (.slice (some ⟨jd, 0, none⟩) M 2)]], 3, 131, true⟩)  : PS Try.prog noDen 37 [(Pt g 0 0)] σ (W cum) := by
 refine PS.body (E := env) env_ok rfl rfl (by show _ ≤ _; exact of_decide_eq_true (by kernel_rfl)) (fun n hd => ?_)
 have lhg := hd.lt hg
 refine RA.seq hd ?_
 refine RA.region env_ok ?_
 refine OA.p (some 2) (.int .u32 0) rfl rfl rfl rfl ?_
 refine OA.nil ?_
 intro _
 refine RA.seq hd ?_
 refine RA.seq hd ?_
 refine RA.region env_ok ?_
 refine OA.p (some 3) (Pt g 0 0) rfl rfl rfl rfl ?_
 refine OA.p (some 4) (.bool false) rfl rfl rfl rfl ?_
 refine OA.nil ?_
 intro _
 refine RA.condF rfl ?_
 refine RA.skip env_ok ?_
 intro _
 refine RA.seq hd ?_
 refine RA.region env_ok ?_
 refine OA.p (some 5) (Pt g 0 0) rfl rfl rfl rfl ?_
 refine OA.p (some 6) (Pt g 0 0) rfl rfl rfl rfl ?_
 refine OA.p (some 7) (Pt g 0 0) rfl rfl rfl rfl ?_
 refine OA.p (some 8) (W cum) rfl rfl rfl (r_load1 rfl rfl rfl rfl rfl hg rfl rfl) ?_
 refine OA.p (some 2) (W cum) rfl rfl rfl rfl ?_
 refine OA.nil ?_
 intro _
 refine RA.ret env_ok ?_
 refine ⟨.inr rfl, [(W cum)], (resL_cons rfl resL_nil), rfl, (fun i hi => by cases hi)⟩

theorem gWhole {σ : Store} (g jp jd K M : Nat) (cum : BitVec 32) (hg : σ g = some ⟨[[(W cum), (.slice (some ⟨jp, 0, none⟩) K 2), (.slice (some ⟨jd, 0, none⟩) M 2)]], 3, 131, true⟩)  : PS Try.prog noDen 40 [(Pt g 0 0)] σ (.bool (decide (((K : Nat) : Int) = 0))) := by
 refine PS.body (E := env) env_ok rfl rfl (by show _ ≤ _; exact of_decide_eq_true (by kernel_rfl)) (fun n hd => ?_)
 have lhg := hd.lt hg
 refine RA.seq hd ?_
 refine RA.region env_ok ?_
 refine OA.p (some 2) (.bool false) rfl rfl rfl rfl ?_
 refine OA.nil ?_
 intro _
 refine RA.seq hd ?_
 refine RA.region env_ok ?_
 refine OA.p (some 3) (Pt g 0 0) rfl rfl rfl rfl ?_
 refine OA.p (some 4) (.bool true) rfl rfl rfl rfl ?_
 refine OA.p (some 5) (.bool true) rfl rfl rfl rfl ?_
 refine OA.p (some 6) (Pt g 0 0) rfl rfl rfl rfl ?_
 refine OA.p (some 7) (Pt g 0 0) rfl rfl rfl rfl ?_
 refine OA.p (some 8) (Pt g 0 1) rfl rfl rfl rfl ?_
 refine OA.p (some 9) (.slice (some ⟨jp, 0, none⟩) K 2) rfl rfl rfl (r_load1 rfl rfl rfl rfl rfl hg rfl rfl) ?_
 refine OA.p (some 10) (.int .i64 ((K : Nat) : Int)) rfl rfl rfl rfl ?_
 refine OA.p (some 11) (.bool (decide (((K : Nat) : Int) = 0))) rfl rfl rfl (r_bin rfl rfl rfl (b_eql rfl)) ?_
 refine OA.p (some 12) (.bool (decide (((K : Nat) : Int) = 0))) rfl rfl rfl rfl ?_
 refine OA.p (some 2) (.bool (decide (((K : Nat) : Int) = 0))) rfl rfl rfl rfl ?_
 refine OA.nil ?_
 intro _
 refine RA.ret env_ok ?_
 refine ⟨.inr rfl, [(.bool (decide (((K : Nat) : Int) = 0)))], (resL_cons rfl resL_nil), rfl, (fun i hi => by cases hi)⟩

theorem gNew {n : Nat} {σ : Store} (hd : Dom n σ) (cum : BitVec 32)   : CQ Try.prog noDen 34 [(W cum)] n σ (fun v n' d => n < n' ∧ v = (Pt n 0 0) ∧ d = [(n, some ⟨[[(W cum), (.slice none 0 0), (.slice none 0 0)]], 3, 131, true⟩)]) := by
 refine CQ.body (E := env) env_ok hd rfl rfl (by show _ ≤ _; exact of_decide_eq_true (by kernel_rfl)) ?_
 refine RA.seq hd ?_
 refine RA.region env_ok ?_
 refine OA.p (some 2) (.pointer none) rfl rfl rfl rfl ?_
 refine OA.nil ?_
 intro _
 refine RA.seq hd ?_
 refine RA.region env_ok ?_
 refine OA.p (some 3) (W cum) rfl rfl rfl rfl ?_
 refine OA.p (some 4) (.agg ⟨[(W cum), (.slice none 0 0), (.slice none 0 0)]⟩) rfl rfl rfl (by kernel_rfl) ?_
 refine OA.op1 (dst := (some 5)) (v := (Pt n 0 0)) (n1 := (n + 1)) (w := (n, some ⟨[[(W cum), (.slice none 0 0), (.slice none 0 0)]], 3, 131, true⟩)) rfl rfl rfl rfl (by omega) ?_
 refine OA.p (some 2) (Pt n 0 0) rfl rfl rfl rfl ?_
 refine OA.nil ?_
 intro _
 refine RA.ret env_ok ?_
 refine ⟨.inr rfl, [(Pt n 0 0)], (resL_cons rfl resL_nil), [(n, some ⟨[[(W cum), (.slice none 0 0), (.slice none 0 0)]], 3, 131, true⟩)], (Less.refl _ _ _), ⟨by omega, rfl, rfl⟩⟩

theorem gGaps {n : Nat} {σ : Store} (hd : Dom n σ) (g jp jd K M : Nat) (cum : BitVec 32) (ps : List Gap) (hps : ps.length = K) (hK : K ≤ 900) (h1 : g ≠ jp) (hg : σ g = some ⟨[[(W cum), (.slice (some ⟨jp, 0, none⟩) K 2), (.slice (some ⟨jd, 0, none⟩) M 2)]], 3, 131, true⟩) (hjp : σ jp = some (oGap ps))  : CQ Try.prog noDen 39 [(Pt g 0 0)] n σ (fun v n' d => ∃ i, n ≤ i ∧ i < n' ∧ v = .slice (some ⟨i, 0, none⟩) (min K 16) 2 ∧ d = [(i, some (oGap (ps.take (min K 16))))]) := by
 have lhg := hd.lt hg
 have lhjp := hd.lt hjp
 refine CQ.body (E := env) env_ok hd rfl rfl (by show _ ≤ _; exact of_decide_eq_true (by kernel_rfl)) ?_
 refine RA.seq hd ?_
 refine RA.region env_ok ?_
 refine OA.p (some 2) (.slice none 0 0) rfl rfl rfl rfl ?_
 refine OA.nil ?_
 intro _
 refine RA.seq hd ?_
 refine RA.seq hd ?_
 refine RA.region env_ok ?_
 refine OA.p (some 3) (Pt g 0 0) rfl rfl rfl rfl ?_
 refine OA.p (some 4) (.bool false) rfl rfl rfl rfl ?_
 refine OA.nil ?_
 intro _
 refine RA.condF rfl ?_
 refine RA.skip env_ok ?_
 intro _
 refine RA.seq hd ?_
 refine RA.par (md := [some [], some [], some [], some [g], some [], some [], some [], some [g], some [], some [], none, none, some []]) env_ok (hd.up (by omega)) (by kernel_rfl) ?_
 refine PQ.pure (dst := (some 5)) (v := (Pt g 0 0)) rfl rfl rfl noStore (none_ok _ _) rfl ?_
 refine PQ.pure (dst := (some 6)) (v := (Pt g 0 0)) rfl rfl rfl noStore (none_ok _ _) rfl ?_
 refine PQ.pure (dst := (some 7)) (v := (Pt g 0 1)) rfl rfl rfl noStore (none_ok _ _) rfl ?_
 refine PQ.pure (dst := (some 8)) (v := (.slice (some ⟨jp, 0, none⟩) K 2)) rfl rfl rfl (app [(g, some ⟨[[(W cum), (.slice (some ⟨jp, 0, none⟩) K 2), (.slice (some ⟨jd, 0, none⟩) M 2)]], 3, 131, true⟩)] noStore) (seen_one (V := []) (D := []) (by kernel_rfl) hg) (r_load1 rfl rfl rfl rfl rfl get_here rfl rfl) ?_
 refine PQ.pure (dst := (some 9)) (v := (Pt g 0 0)) rfl rfl rfl noStore (none_ok _ _) rfl ?_
 refine PQ.pure (dst := (some 10)) (v := (Pt g 0 0)) rfl rfl rfl noStore (none_ok _ _) rfl ?_
 refine PQ.pure (dst := (some 11)) (v := (Pt g 0 1)) rfl rfl rfl noStore (none_ok _ _) rfl ?_
 refine PQ.pure (dst := (some 12)) (v := (.slice (some ⟨jp, 0, none⟩) K 2)) rfl rfl rfl (app [(g, some ⟨[[(W cum), (.slice (some ⟨jp, 0, none⟩) K 2), (.slice (some ⟨jd, 0, none⟩) M 2)]], 3, 131, true⟩)] noStore) (seen_one (V := []) (D := []) (by kernel_rfl) hg) (r_load1 rfl rfl rfl rfl rfl get_here rfl rfl) ?_
 refine PQ.pure (dst := (some 13)) (v := (.int .i64 ((K : Nat) : Int))) rfl rfl rfl noStore (none_ok _ _) rfl ?_
 refine PQ.pure (dst := (some 14)) (v := (.int .i64 (((min K 16) : Nat) : Int))) rfl rfl rfl noStore (none_ok _ _) (r_min (a := K) (b := 16) rfl rfl rfl) ?_
 refine PQ.pure (dst := (some 15)) (v := (.slice (some ⟨jp, 0, none⟩) (min K 16) 2)) rfl rfl rfl _ (seen_any (V := []) (D := []) (by kernel_rfl)) (r_cut2 (a := 0) (b := (min K 16)) rfl rfl (fun _ => rfl) (fun _ => rfl) rfl rfl rfl rfl (bound_int (by omega)) hjp rfl (by omega) (by omega) (by rw [List.length_map, hps]; omega) (by omega) (by omega)) ?_
 refine PQ.call (dst := (some 16)) (all := [(.slice (some ⟨jp, 0, none⟩) (min K 16) 2)]) rfl rfl rfl rfl rfl rfl rfl rfl _ (seen_any (V := []) (D := []) (by kernel_rfl)) (CQ.imp (CQ.keys (gClo (hd.up (by omega)) jp K (min K 16) ps hps (by omega) (by omega) hjp)) ?_)
 rintro _ n1 _ ⟨hkn1, ⟨jq, hq1, hq2, rfl, rfl⟩⟩
 have hn1 := hkn1.1
 refine ⟨hn1, (kp1 (by first | exact wr_new (by omega) (by omega) | exact wr_tight (by kernel_rfl) (by omega))), ?_⟩
 refine PQ.pure (dst := (some 2)) (v := (.slice (some ⟨jq, 0, none⟩) (min K 16) 2)) rfl rfl rfl noStore (none_ok _ _) rfl ?_
 refine PQ.done (d := [(jq, some (oGap (ps.take (min K 16))))]) (by kernel_rfl) ?_
 intro _
 refine RA.ret env_ok ?_
 refine ⟨.inr rfl, [(.slice (some ⟨jq, 0, none⟩) (min K 16) 2)], (resL_cons rfl resL_nil), [(jq, some (oGap (ps.take (min K 16))))], (Less.refl _ _ _), ⟨jq, by omega, by omega, rfl, rfl⟩⟩

theorem gSame {σ : Store} (ja jb A B : Nat) (la lb : List Gap) (hla : la.length = A) (hlb : lb.length = B) (hA : A ≤ 100000) (hB : B ≤ 100000) (hja : σ ja = some (oGap la)) (hjb : σ jb = some (oGap lb))  : PS Try.prog noDen 38 [(.slice (some ⟨ja, 0, none⟩) A 2), (.slice (some ⟨jb, 0, none⟩) B 2)] σ (.bool (sameZ la lb)) := by
 refine PS.body (E := env) env_ok rfl rfl (by show _ ≤ _; exact of_decide_eq_true (by kernel_rfl)) (fun n hd => ?_)
 have lhja := hd.lt hja
 have lhjb := hd.lt hjb
 refine RA.seq hd ?_
 refine RA.region env_ok ?_
 refine OA.p (some 4) (.bool false) rfl rfl rfl rfl ?_
 refine OA.nil ?_
 intro _
 refine RA.seq hd ?_
 refine RA.seq hd ?_
 refine RA.region env_ok ?_
 refine OA.p (some 6) (.slice (some ⟨ja, 0, none⟩) A 2) rfl rfl rfl rfl ?_
 refine OA.p (some 7) (.int .i64 ((A : Nat) : Int)) rfl rfl rfl rfl ?_
 refine OA.p (some 8) (.slice (some ⟨jb, 0, none⟩) B 2) rfl rfl rfl rfl ?_
 refine OA.p (some 9) (.int .i64 ((B : Nat) : Int)) rfl rfl rfl rfl ?_
 by_cases hc1 : ((A : Nat) : Int) ≠ ((B : Nat) : Int)
 ·
  refine OA.p (some 10) (.bool true) rfl rfl rfl (Eq.trans (r_bin rfl rfl rfl (b_neq rfl)) (dT hc1)) ?_
  refine OA.nil ?_
  intro _
  refine RA.condT rfl ?_
  refine RA.seq hd ?_
  refine RA.region env_ok ?_
  refine OA.p (some 4) (.bool false) rfl rfl rfl rfl ?_
  refine OA.nil ?_
  intro _
  refine RA.ret env_ok ?_
  refine ⟨.inr rfl, [(.bool false)], (resL_cons rfl resL_nil), (congrArg Value.bool (decide_eq_false (fun hh : la = lb => by have h0 := congrArg List.length hh; omega)).symm), (fun i hi => by cases hi)⟩
 ·
  refine OA.p (some 10) (.bool false) rfl rfl rfl (Eq.trans (r_bin rfl rfl rfl (b_neq rfl)) (dF hc1)) ?_
  refine OA.nil ?_
  intro _
  refine RA.condF rfl ?_
  refine RA.skip env_ok ?_
  intro _
  refine RA.seq hd ?_
  refine RA.seq hd ?_
  refine RA.region env_ok ?_
  refine OA.p (some 5) (.int .i64 0) rfl rfl rfl rfl ?_
  refine OA.nil ?_
  intro _
  refine RA.block ?_
  refine RA.loop hd (fun kk_ τ n' D => ∃ i : Nat,  kk_ = (A - i) ∧ n ≤ n' ∧ Has τ [(0, (.slice (some ⟨ja, 0, none⟩) A 2)), (1, (.slice (some ⟨jb, 0, none⟩) B 2)), (5, (.int .i64 ((i : Nat) : Int)))] ∧ D = [] ∧ (∀ i ∈ keys D, i < n') ∧ i ≤ A ∧ la.take i = lb.take i) ((A - 0)) ⟨0, rfl, by omega, ⟨rfl, rfl, rfl, trivial⟩, rfl, (fun i hi => by cases hi), ⟨by omega, rfl⟩⟩ ?_
  rintro kn1 τ1 n1 _ ⟨i, rfl, hn1, hHn1, rfl, hKn1, hIn1⟩
  rw [Has.eq hHn1]
  simp only [keys, List.map, List.forall_mem_cons, List.mem_cons, List.not_mem_nil, false_imp_iff, implies_true, and_true] at hKn1
  obtain ⟨hi1, hi2⟩ := hIn1
  refine RA.seq hd ?_
  refine RA.seq hd ?_
  refine RA.region env_ok ?_
  refine OA.p (some 11) (.int .i64 ((i : Nat) : Int)) rfl rfl rfl rfl ?_
  refine OA.p (some 12) (.slice (some ⟨ja, 0, none⟩) A 2) rfl rfl rfl rfl ?_
  refine OA.p (some 13) (.int .i64 ((A : Nat) : Int)) rfl rfl rfl rfl ?_
  by_cases hc2 : ((i : Nat) : Int) < ((A : Nat) : Int)
  ·
   refine OA.p (some 14) (.bool true) rfl rfl rfl (Eq.trans (r_bin rfl rfl rfl (b_lss rfl)) (dT hc2)) ?_
   refine OA.nil ?_
   intro _
   refine RA.condT rfl ?_
   refine RA.skip env_ok ?_
   intro _
   refine RA.seq hd ?_
   refine RA.block ?_
   refine RA.seq hd ?_
   refine RA.par (md := [some [], some [], some [ja], some [ja], some [], some [], some [jb], some [jb], some []]) env_ok (hd.up (by omega)) (by kernel_rfl) ?_
   refine PQ.pure (dst := (some 17)) (v := (.slice (some ⟨ja, 0, none⟩) A 2)) rfl rfl rfl noStore (none_ok _ _) rfl ?_
   refine PQ.pure (dst := (some 18)) (v := (.int .i64 ((i : Nat) : Int))) rfl rfl rfl noStore (none_ok _ _) rfl ?_
   refine PQ.pure (dst := (some 19)) (v := (Pt ja i 0)) rfl rfl rfl (app [(ja, some (oGap la))] noStore) (seen_one (V := []) (D := []) (by kernel_rfl) hja) (r_iaS (l := i) rfl rfl rfl rfl rfl rfl (by omega) (by omega) get_here rfl (by omega)) ?_
   refine PQ.pure (dst := (some 20)) (v := (.agg ⟨(cGap (la.getD i dGap))⟩)) rfl rfl rfl (app [(ja, some (oGap la))] noStore) (seen_one (V := []) (D := []) (by kernel_rfl) hja) (r_loadR (c := cGap) dGap rfl rfl rfl rfl get_here (by rw [hla]; omega) rfl) ?_
   refine PQ.pure (dst := (some 21)) (v := (.slice (some ⟨jb, 0, none⟩) B 2)) rfl rfl rfl noStore (none_ok _ _) rfl ?_
   refine PQ.pure (dst := (some 22)) (v := (.int .i64 ((i : Nat) : Int))) rfl rfl rfl noStore (none_ok _ _) rfl ?_
   refine PQ.pure (dst := (some 23)) (v := (Pt jb i 0)) rfl rfl rfl (app [(jb, some (oGap lb))] noStore) (seen_one (V := []) (D := []) (by kernel_rfl) hjb) (r_iaS (l := i) rfl rfl rfl rfl rfl rfl (by omega) (by omega) get_here rfl (by omega)) ?_
   refine PQ.pure (dst := (some 24)) (v := (.agg ⟨(cGap (lb.getD i dGap))⟩)) rfl rfl rfl (app [(jb, some (oGap lb))] noStore) (seen_one (V := []) (D := []) (by kernel_rfl) hjb) (r_loadR (c := cGap) dGap rfl rfl rfl rfl get_here (by rw [hlb]; omega) rfl) ?_
   by_cases hc3 : (la.getD i dGap) = (lb.getD i dGap)
   ·
    refine PQ.pure (dst := (some 25)) (v := (.bool false)) rfl rfl rfl noStore (none_ok _ _) (Eq.trans (r_neqA (r := (decide ((la.getD i dGap) = (lb.getD i dGap)))) rfl rfl rfl (by kernel_rfl) (aeqG (la.getD i dGap) (lb.getD i dGap))) (ndT hc3)) ?_
    refine PQ.done (d := []) (by kernel_rfl) ?_
    intro _
    refine RA.condF rfl ?_
    refine RA.skip env_ok ?_
    intro _
    refine RA.region env_ok ?_
    refine OA.p (some 15) (.int .i64 ((i : Nat) : Int)) rfl rfl rfl rfl ?_
    refine OA.p (some 16) (.int .i64 (((i + 1) : Nat) : Int)) rfl rfl rfl (r_bin rfl rfl rfl (b_add (i64_eq (by omega)))) ?_
    refine OA.p (some 5) (.int .i64 (((i + 1) : Nat) : Int)) rfl rfl rfl rfl ?_
    refine OA.nil ?_
    refine ⟨(A - (i + 1)), by omega, [], (Less.refl _ _ _), (i + 1), rfl, by omega, ⟨rfl, rfl, rfl, trivial⟩, rfl, (fun i hi => by cases hi), ⟨by omega, by rw [take_succ_getD (d := dGap) (by omega), take_succ_getD (l := lb) (d := dGap) (by omega), hi2, hc3]⟩⟩
   ·
    refine PQ.pure (dst := (some 25)) (v := (.bool true)) rfl rfl rfl noStore (none_ok _ _) (Eq.trans (r_neqA (r := (decide ((la.getD i dGap) = (lb.getD i dGap)))) rfl rfl rfl (by kernel_rfl) (aeqG (la.getD i dGap) (lb.getD i dGap))) (ndF hc3)) ?_
    refine PQ.done (d := []) (by kernel_rfl) ?_
    intro _
    refine RA.condT rfl ?_
    refine RA.seq hd ?_
    refine RA.region env_ok ?_
    refine OA.p (some 4) (.bool false) rfl rfl rfl rfl ?_
    refine OA.nil ?_
    intro _
    refine RA.ret env_ok ?_
    refine ⟨.inr rfl, [(.bool false)], (resL_cons rfl resL_nil), (congrArg Value.bool (decide_eq_false (fun hh : la = lb => hc3 (by rw [hh]))).symm), (fun i hi => by cases hi)⟩
  ·
   refine OA.p (some 14) (.bool false) rfl rfl rfl (Eq.trans (r_bin rfl rfl rfl (b_lss rfl)) (dF hc2)) ?_
   refine OA.nil ?_
   intro _
   refine RA.condF rfl ?_
   refine RA.exit env_ok ?_
   intro _
   refine RA.seq hd ?_
   refine RA.region env_ok ?_
   refine OA.p (some 4) (.bool true) rfl rfl rfl rfl ?_
   refine OA.nil ?_
   intro _
   refine RA.ret env_ok ?_
   refine ⟨.inr rfl, [(.bool true)], (resL_cons rfl resL_nil), (congrArg Value.bool (decide_eq_true (by rw [← List.take_of_length_le (l := la) (i := A) (by omega), ← List.take_of_length_le (l := lb) (i := A) (by omega)]; rw [show A = i from by omega]; exact hi2)).symm), (fun i hi => by cases hi)⟩
end Go.Proofs.Ytmepflkodjdgdaa.Vt
