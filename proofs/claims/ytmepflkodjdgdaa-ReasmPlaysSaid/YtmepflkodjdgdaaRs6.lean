/- Rs6: walks through functions of the program, by the calculus; written by a program of this workplace. -/
import Derived.Test.YtmepflkodjdgdaaRs5
import Derived.Test.YtmepflkodjdgdaaVm6
namespace Go.Proofs.Ytmepflkodjdgdaa.Vt
open Go Go.Proofs Go.Proofs.YtmepflkodjdgdaaV
set_option maxRecDepth 100000
set_option linter.unusedVariables false
set_option linter.unusedSimpArgs false
structure Part where
  far : Int
  flags : Int
  st : Int
  data : ByteArray
deriving DecidableEq
def dPart : Part := ⟨0, 0, 0, ByteArray.empty⟩
abbrev cPart (e : Part) : List Value := [(.int .i64 e.far), (.int .i64 e.flags), (.int .i64 e.st), (.string e.data)]
abbrev oPart (l : List Part) : AObj := ⟨l.map cPart, 4, 71, true⟩
theorem srt_nil {t : BitVec 32} : srt t [] := ⟨List.Pairwise.nil, fun x hx => by cases hx⟩
theorem cut_le (d : ByteArray) : (d.extract 0 (min d.size 6)).size ≤ 6 := by rw [ByteArray.size_extract]; omega
theorem seen_more {t : BitVec 32} {ps l : List Prt} {sn : List Bo} {c : Prt} {f : Nat} (hl : sn.length = 64) (hc : far t c = f) (hf : f < 64) (h : ∀ x ∈ ps, (sn.getD (far t x) dBo).z = true) (hm : ∀ x ∈ l, x = c ∨ x ∈ ps) : ∀ x ∈ l, ((sn.set f (Bo.mk true)).getD (far t x) dBo).z = true := by
  intro x hx
  rw [List.getD_eq_getElem?_getD, List.getElem?_set]
  split
  · rw [if_pos (by omega)]; rfl
  · rename_i hne
    rcases hm x hx with rfl | h2
    · exact absurd hc.symm hne
    · rw [← List.getD_eq_getElem?_getD]; exact h x h2
abbrev xRs61 (prs : List Part) (i : Nat) (tsn : BitVec 32) : List Value := [(.int .i64 0), (.int .i64 (((andN (prs.getD i dPart).flags 7) : Nat) : Int)), (W (tsn + (BitVec.ofNat 32 (andN (prs.getD i dPart).far 63)))), (.int .i64 (((andN (prs.getD i dPart).st 1) : Nat) : Int)), (.int .i64 (((andN (Int.fdiv (prs.getD i dPart).st 2) 1) : Nat) : Int)), (W (BitVec.ofNat 32 (andN (prs.getD i dPart).far 63))), (.string ((prs.getD i dPart).data.extract 0 (min (prs.getD i dPart).data.size 6))), (.int .u32 0), (.int .u32 0), (.int .i64 0), (.int .i64 0), (.slice none 0 0), (.slice none 0 0), (.slice none 0 0), (.slice none 0 0)]
abbrev xRs62 (pn1 : Nat) (c : Prt) : List Value := [(.pointer (some ⟨pn1, 0, some 0⟩)), (.agg ⟨[(.int .i64 0), (.int .i64 ((c.fl.val : Nat) : Int)), (W c.tsn), (.int .i64 ((c.st : Nat) : Int)), (.int .i64 ((c.ssn : Nat) : Int)), (W c.proto), (.string c.data), (.int .u32 0), (.int .u32 0), (.int .i64 0), (.int .i64 0), (.slice none 0 0), (.slice none 0 0), (.slice none 0 0), (.slice none 0 0)]⟩)]
abbrev xRs63 (jq : Nat) (K : Nat) (c : Prt) : List Value := [(.slice (some ⟨jq, 0, none⟩) K 2), (.agg ⟨[(.int .i64 0), (.int .i64 ((c.fl.val : Nat) : Int)), (W c.tsn), (.int .i64 ((c.st : Nat) : Int)), (.int .i64 ((c.ssn : Nat) : Int)), (W c.proto), (.string c.data), (.int .u32 0), (.int .u32 0), (.int .i64 0), (.int .i64 0), (.slice none 0 0), (.slice none 0 0), (.slice none 0 0), (.slice none 0 0)]⟩)]
abbrev xRs64 (c : Prt) : List Value := [(.int .i64 0), (.int .i64 ((c.fl.val : Nat) : Int)), (W c.tsn), (.int .i64 ((c.st : Nat) : Int)), (.int .i64 ((c.ssn : Nat) : Int)), (W c.proto), (.string c.data), (.int .u32 0), (.int .u32 0), (.int .i64 0), (.int .i64 0), (.slice none 0 0), (.slice none 0 0), (.slice none 0 0), (.slice none 0 0)]
abbrev xRs65 : List Value := [(.int .i64 0), (.int .i64 0), (.int .u32 0), (.int .i64 0), (.int .i64 0), (.int .u32 0), (.string ByteArray.empty), (.int .u32 0), (.int .u32 0), (.int .i64 0), (.int .i64 0), (.slice none 0 0), (.slice none 0 0), (.slice none 0 0), (.slice none 0 0)]
set_option maxHeartbeats 8000000 in
theorem rsLaw {n : Nat} {σ : Store} (hd : Dom n σ) (hn0 : 0 < n) (tsn : BitVec 32) (va : Value) (prs : List Part) (hva : RowP σ 71 4 va (prs.map cPart))   : CQ Try.prog noDen 7 [(W tsn), va] n σ (fun v n' d => v = .bool true) := by
 refine CQ.body (E := env) env_ok hd rfl rfl (by show _ ≤ _; exact of_decide_eq_true (by kernel_rfl)) ?_
 refine RA.seq hd ?_
 refine RA.region env_ok ?_
 refine OA.p (some 4) (.bool false) rfl rfl rfl rfl ?_
 refine OA.nil ?_
 intro _
 refine RA.seq hd ?_
 refine RA.region env_ok ?_
 refine OA.call (dst := (some 19)) (all := []) rfl rfl rfl rfl rfl rfl rfl rfl (CQ.imp (sNew (hd.up (by omega))) ?_)
 rintro _ n1 _ ⟨pn1, p1n1, p2n1, rfl, rfl⟩ hn1
 refine OA.app1 ?_
 refine OA.op1 (dst := (some 20)) (v := (.slice (some ⟨n1, 0, none⟩) 0 0)) (n1 := (n1 + 1)) (w := (n1, some (oPrt ([] : List Prt)))) rfl rfl rfl (by kernel_rfl) (by omega) ?_
 refine OA.p (some 5) (Pt pn1 0 0) rfl rfl rfl rfl ?_
 refine OA.p (some 6) (.slice (some ⟨n1, 0, none⟩) 0 0) rfl rfl rfl rfl ?_
 refine OA.nil ?_
 intro _
 refine RA.seq hd ?_
 refine RA.region env_ok ?_
 refine OA.op1 (dst := (some 21)) (v := (.slice (some ⟨(n1 + 1), 0, none⟩) 64 0)) (n1 := (n1 + 2)) (w := ((n1 + 1), some (oBo (List.replicate 64 dBo)))) rfl rfl rfl (by kernel_rfl) (by omega) ?_
 refine OA.p (some 7) (.slice (some ⟨(n1 + 1), 0, none⟩) 64 0) rfl rfl rfl rfl ?_
 refine OA.nil ?_
 intro _
 refine RA.seq hd ?_
 refine RA.seq hd ?_
 refine RA.region env_ok ?_
 refine OA.callP (dst := (some 22)) (all := []) (v := (.bool true)) (hd.of (by omega) (kb3 (by omega))) rfl rfl rfl rfl rfl rfl rfl rfl awakeRs ?_
 intro n2 hn2
 refine OA.p (some 23) (.bool false) rfl rfl rfl rfl ?_
 refine OA.nil ?_
 intro _
 refine RA.condF rfl ?_
 refine RA.skip env_ok ?_
 intro _
 refine RA.seq hd ?_
 refine RA.seq hd ?_
 refine RA.region env_ok ?_
 refine OA.p (some 8) (.int .i64 0) rfl rfl rfl rfl ?_
 refine OA.nil ?_
 intro _
 refine RA.block ?_
 refine RA.ph (sz := 15) (t := 54) (by decide) ?_
 show RA _ _ _ _ _ _ _ _ [(n2, some (oPrt ([] : List Prt))), ((n1 + 1), some (oBo (List.replicate 64 dBo))), (n1, some (oPrt ([] : List Prt))), (pn1, some ⟨[[(.slice none 0 0)]], 1, 122, true⟩)] _
 refine RA.le (ob := ⟨[[(.slice none 0 0)]], 1, 122, true⟩) (ob' := ⟨[[(.slice (some ⟨n2, 0, none⟩) 0 2)]], 1, 122, true⟩) (gt3 (by omega) get_here) (OLe.one (cs := [(.slice none 0 0)]) (cs' := [(.slice (some ⟨n2, 0, none⟩) 0 2)]) ⟨(vle_nil _ _), trivial⟩ rfl) ?_
 refine RA.leT (t := 6) (v := (.slice (some ⟨n1, 0, none⟩) 0 0)) (v' := (.slice (some ⟨n1, 0, none⟩) 0 2)) rfl (vle_row _ _ _) ?_
 refine RA.weaken (D' := [(pn1, some ⟨[[(.slice (some ⟨n2, 0, none⟩) 0 2)]], 1, 122, true⟩), (n2, some (oPrt ([] : List Prt))), (n1, some (oPrt ([] : List Prt))), ((n1 + 1), some (oBo (List.replicate 64 dBo)))]) hd (Less.of (fac (mm (fun _ => get_here) (fun _ => get_here)) (fac (mm (fun _ => (get_there (by omega) get_here)) (fun _ => (get_there (by omega) get_here))) (fac (mm (fun _ => (gt2 (by omega) get_here)) (fun _ => (gt3 (by omega) get_here))) (fac (mm (fun _ => (gt3 (by omega) get_here)) (fun _ => (gt2 (by omega) get_here))) fan)))) (gone_of (by simp only [goneP, memP, List.cons_append, List.nil_append, true_or, or_true, true_and, and_true, or_false] <;> omega))) ?_
 refine RA.loop hd (fun kk_ τ n' D => (∃ i : Nat, ∃ K : Nat, ∃ ps : List Prt, ∃ q : List Prt, ∃ jp : Nat, ∃ jq : Nat, ∃ sn : List Bo, kk_ = 50 - i ∧ (n2 + 1) ≤ n' ∧ Has τ [(0, (W tsn)), (1, va), (5, (Pt pn1 0 0)), (6, (.slice (some ⟨jq, 0, none⟩) K 2)), (7, (.slice (some ⟨(n1 + 1), 0, none⟩) 64 0)), (8, (.int .i64 ((i : Nat) : Int)))] ∧ D = [(pn1, some ⟨[[(.slice (some ⟨jp, 0, none⟩) K 2)]], 1, 122, true⟩), (jp, some (oPrt ps)), (jq, some (oPrt q)), ((n1 + 1), some (oBo sn))] ∧ (∀ i ∈ keys D, i < n') ∧ i ≤ prs.length ∧ ps.length = K ∧ q.length = K ∧ (i ≤ 50 ∧ K ≤ i) ∧ srt tsn ps ∧ ps.Perm q ∧ sn.length = 64 ∧ (∀ x ∈ ps, (sn.getD (far tsn x) dBo).z = true) ∧ (∀ x ∈ ps, x.data.size ≤ 6) ∧ pn1 ≠ jp ∧ pn1 ≠ jq ∧ (n1 + 1) ≠ jp ∧ (n1 + 1) ≠ jq ∧ jp ≠ jq ∧ n ≤ jp ∧ n ≤ jq)) (50 - 0) (⟨0, 0, [], [], n2, n1, (List.replicate 64 dBo), rfl, by omega, ⟨rfl, rfl, rfl, rfl, rfl, rfl, trivial⟩, (by rfl), (kb4 (by omega)), ⟨by omega, rfl, rfl, by omega, srt_nil, List.Perm.refl _, List.length_replicate, (fun x hx => by cases hx), (fun x hx => by cases hx), by omega, by omega, by omega, by omega, by omega, by omega, by omega⟩⟩) ?_
 rintro kn3 τ3 n3 _ ⟨i, K, ps, q, jp, jq, sn, rfl, hn3, hHn3, rfl, hKn3, hIn3⟩
 rw [Has.eq hHn3]
 have hKn3_0 : pn1 < n3 := hKn3 _ (by simp only [keys, List.map_cons, List.map_nil, List.mem_cons, true_or, or_true])
 have hKn3_1 : jp < n3 := hKn3 _ (by simp only [keys, List.map_cons, List.map_nil, List.mem_cons, true_or, or_true])
 have hKn3_2 : jq < n3 := hKn3 _ (by simp only [keys, List.map_cons, List.map_nil, List.mem_cons, true_or, or_true])
 have hKn3_3 : (n1 + 1) < n3 := hKn3 _ (by simp only [keys, List.map_cons, List.map_nil, List.mem_cons, true_or, or_true])
 clear hKn3
 obtain ⟨hi1, hpsl, hql, ⟨hi50, hKi⟩, hsrt, hperm, hsnl, hsn, hszp, ho1, ho2, ho3, ho4, ho5, ho6, ho7⟩ := hIn3
 refine RA.seq hd ?_
 refine RA.seq hd ?_
 refine RA.region env_ok ?_
 refine OA.p (some 24) (.int .i64 ((i : Nat) : Int)) rfl rfl rfl rfl ?_
 refine OA.p (some 25) va rfl rfl rfl rfl ?_
 refine OA.p (some 26) (.int .i64 ((prs.length : Nat) : Int)) rfl rfl rfl (r_lenP (c := cPart) rfl rfl rfl rfl rfl rfl hva rfl) ?_
 by_cases hc1 : ((i : Nat) : Int) < ((prs.length : Nat) : Int)
 ·
  obtain ⟨rest, hat⟩ := hva.get (m := i) (by omega)
  have lathat := hd.lt hat
  refine OA.p (some 27) (.bool true) rfl rfl rfl (Eq.trans (r_bin rfl rfl rfl (b_lss rfl)) (dT hc1)) ?_
  refine OA.p (some 28) (.bool true) rfl rfl rfl rfl ?_
  refine OA.p (some 29) (.int .i64 ((i : Nat) : Int)) rfl rfl rfl rfl ?_
  by_cases hc2 : ((i : Nat) : Int) < 50
  ·
   refine OA.p (some 30) (.bool true) rfl rfl rfl (Eq.trans (r_bin rfl rfl rfl (b_lss rfl)) (dT hc2)) ?_
   refine OA.p (some 31) (.bool true) rfl rfl rfl rfl ?_
   refine OA.nil ?_
   intro _
   refine RA.condT rfl ?_
   refine RA.skip env_ok ?_
   intro _
   refine RA.seq hd ?_
   refine RA.block ?_
   refine RA.seq hd ?_
   refine RA.region env_ok ?_
   refine OA.p (some 34) va rfl rfl rfl rfl ?_
   refine OA.p (some 35) (.int .i64 ((i : Nat) : Int)) rfl rfl rfl rfl ?_
   refine OA.p (some 36) (.pointer (some ⟨(rk va), i, some 0⟩)) rfl rfl rfl (r_iaP (c := cPart) (m := i) rfl rfl rfl rfl rfl rfl hva rfl (by omega) (gt4 (by omega) hat) rfl) ?_
   refine OA.p (some 37) (.agg ⟨(cPart (prs.getD i dPart))⟩) rfl rfl rfl (r_loadA (e := cPart (prs.getD i dPart)) rfl rfl rfl rfl (gt4 (by omega) hat) (mp_getA (by omega)) rfl rfl) ?_
   refine OA.op1 (dst := (some 9)) (v := (Pt n3 0 0)) (n1 := (n3 + 1)) (w := (n3, some ⟨[[(.int .i64 0), (.int .i64 0), (.int .i64 0), (.string ByteArray.empty)]], 4, 71, true⟩)) rfl rfl rfl rfl (by omega) ?_
   refine OA.op1 (dst := none) (v := (.tuple #[])) (n1 := (n3 + 1)) (w := (n3, some ⟨[(cPart (prs.getD i dPart))], 4, 71, true⟩)) rfl rfl rfl (r_store rfl rfl rfl rfl rfl rfl rfl get_here rfl rfl (Nat.le_of_ble_eq_true rfl) rfl) (by omega) ?_
   refine OA.nil ?_
   intro _
   refine RA.seq hd ?_
   refine RA.region env_ok ?_
   refine OA.p (some 38) (Pt n3 0 0) rfl rfl rfl rfl ?_
   refine OA.p (some 39) (.int .i64 (prs.getD i dPart).far) rfl rfl rfl (r_load1 rfl rfl rfl rfl rfl get_here rfl rfl) ?_
   have hm4 := andN_le (prs.getD i dPart).far 63 (by decide)
   refine OA.p (some 40) (.int .i64 (((andN (prs.getD i dPart).far 63) : Nat) : Int)) rfl rfl rfl (r_bin rfl rfl rfl (b_andN (prs.getD i dPart).far 63 (by decide))) ?_
   refine OA.p (some 10) (.int .i64 (((andN (prs.getD i dPart).far 63) : Nat) : Int)) rfl rfl rfl rfl ?_
   refine OA.nil ?_
   intro _
   refine RA.seq hd ?_
   refine RA.seq hd ?_
   refine RA.region env_ok ?_
   refine OA.p (some 41) (.slice (some ⟨(n1 + 1), 0, none⟩) 64 0) rfl rfl rfl rfl ?_
   refine OA.p (some 42) (.int .i64 (((andN (prs.getD i dPart).far 63) : Nat) : Int)) rfl rfl rfl rfl ?_
   refine OA.p (some 43) (.pointer (some ⟨(n1 + 1), (andN (prs.getD i dPart).far 63), some 0⟩)) rfl rfl rfl (r_iaS (l := (andN (prs.getD i dPart).far 63)) rfl rfl rfl rfl rfl rfl (by omega) (by omega) (gt5 (by omega) get_here) rfl (by omega)) ?_
   by_cases hc3 : (sn.getD (andN (prs.getD i dPart).far 63) dBo).z = true
   ·
    refine OA.p (some 44) (.bool true) rfl rfl rfl (Eq.trans (r_loadF (c := cBo) dBo rfl rfl rfl rfl rfl (gt5 (by omega) get_here) (by rw [hsnl]; omega) rfl) (bT hc3)) ?_
    refine OA.nil ?_
    intro _
    refine RA.condT rfl ?_
    refine RA.exit env_ok ?_
    intro _
    refine RA.region env_ok ?_
    refine OA.p (some 32) (.int .i64 ((i : Nat) : Int)) rfl rfl rfl rfl ?_
    refine OA.p (some 33) (.int .i64 (((i + 1) : Nat) : Int)) rfl rfl rfl (r_bin rfl rfl rfl (b_add (i64_eq (by omega)))) ?_
    refine OA.p (some 8) (.int .i64 (((i + 1) : Nat) : Int)) rfl rfl rfl rfl ?_
    refine OA.nil ?_
    refine ⟨50 - (i + 1), by omega, [(pn1, some ⟨[[(.slice (some ⟨jp, 0, none⟩) K 2)]], 1, 122, true⟩), (jp, some (oPrt ps)), (jq, some (oPrt q)), ((n1 + 1), some (oBo sn))], (Less.of (fac (mm (fun _ => get_here) (fun _ => (gt2 (by omega) get_here))) (fac (mm (fun _ => (get_there (by omega) get_here)) (fun _ => (gt3 (by omega) get_here))) (fac (mm (fun _ => (gt2 (by omega) get_here)) (fun _ => (gt4 (by omega) get_here))) (fac (mm (fun _ => (gt3 (by omega) get_here)) (fun _ => (gt5 (by omega) get_here))) fan)))) (gone_of (by simp only [goneP, memP, List.cons_append, List.nil_append, true_or, or_true, true_and, and_true, or_false] <;> omega))), ⟨(i + 1), K, ps, q, jp, jq, sn, rfl, by omega, ⟨rfl, rfl, rfl, rfl, rfl, rfl, trivial⟩, rfl, (kb4 (by omega)), ⟨by omega, hpsl, hql, by omega, hsrt, hperm, hsnl, hsn, hszp, by omega, by omega, by omega, by omega, by omega, by omega, by omega⟩⟩⟩
   ·
    refine OA.p (some 44) (.bool false) rfl rfl rfl (Eq.trans (r_loadF (c := cBo) dBo rfl rfl rfl rfl rfl (gt5 (by omega) get_here) (by rw [hsnl]; omega) rfl) (bF hc3)) ?_
    refine OA.nil ?_
    intro _
    refine RA.condF rfl ?_
    refine RA.skip env_ok ?_
    intro _
    refine RA.seq hd ?_
    refine RA.region env_ok ?_
    refine OA.p (some 45) (.slice (some ⟨(n1 + 1), 0, none⟩) 64 0) rfl rfl rfl rfl ?_
    refine OA.p (some 46) (.int .i64 (((andN (prs.getD i dPart).far 63) : Nat) : Int)) rfl rfl rfl rfl ?_
    refine OA.p (some 47) (.pointer (some ⟨(n1 + 1), (andN (prs.getD i dPart).far 63), some 0⟩)) rfl rfl rfl (r_iaS (l := (andN (prs.getD i dPart).far 63)) rfl rfl rfl rfl rfl rfl (by omega) (by omega) (gt5 (by omega) get_here) rfl (by omega)) ?_
    refine OA.op1 (dst := none) (v := (.tuple #[])) (n1 := (n3 + 1)) (w := ((n1 + 1), some (oBo (sn.set (andN (prs.getD i dPart).far 63) (Bo.mk true))))) rfl rfl rfl (r_storeR (c := cBo) dBo (Bo.mk true) rfl rfl rfl rfl rfl rfl rfl (gt5 (by omega) get_here) (by rw [hsnl]; omega) (Nat.le_of_ble_eq_true rfl) rfl) (by omega) ?_
    refine OA.nil ?_
    intro _
    refine RA.rebase [(0, (W tsn)), (1, va), (5, (Pt pn1 0 0)), (6, (.slice (some ⟨jq, 0, none⟩) K 2)), (7, (.slice (some ⟨(n1 + 1), 0, none⟩) 64 0)), (8, (.int .i64 ((i : Nat) : Int))), (9, (Pt n3 0 0)), (10, (.int .i64 (((andN (prs.getD i dPart).far 63) : Nat) : Int))), (31, (.bool true)), (44, (.bool false))] ⟨rfl, rfl, rfl, rfl, rfl, rfl, rfl, rfl, rfl, rfl, trivial⟩ (fun τr5 => ?_)
    refine RA.seq hd ?_
    refine RA.par (md := [some [], some [], some [], some [], some [], some [n3], some [], some [], some [n3], some [], some [], some [n3], some [], some [], some [], some [], some [], some [n3], some [], some [n3], some [], some [], some [], some [], some [], none]) env_ok (hd.of (by omega) (kb7 (by omega))) (by kernel_rfl) ?_
    refine PQ.pure (dst := (some 48)) (v := (W tsn)) rfl rfl rfl noStore (none_ok _ _) rfl ?_
    refine PQ.pure (dst := (some 49)) (v := (.int .i64 (((andN (prs.getD i dPart).far 63) : Nat) : Int))) rfl rfl rfl noStore (none_ok _ _) rfl ?_
    refine PQ.pure (dst := (some 50)) (v := (W (BitVec.ofNat 32 (andN (prs.getD i dPart).far 63)))) rfl rfl rfl noStore (none_ok _ _) (r_cvt rfl rfl rfl rfl rfl ⟨_, rfl⟩ (wrap_ofNat32 _)) ?_
    refine PQ.pure (dst := (some 51)) (v := (W (tsn + (BitVec.ofNat 32 (andN (prs.getD i dPart).far 63))))) rfl rfl rfl noStore (none_ok _ _) (r_bin rfl rfl rfl (b_addW tsn (BitVec.ofNat 32 (andN (prs.getD i dPart).far 63)))) ?_
    refine PQ.pure (dst := (some 52)) (v := (Pt n3 0 1)) rfl rfl rfl noStore (none_ok _ _) rfl ?_
    refine PQ.pure (dst := (some 53)) (v := (.int .i64 (prs.getD i dPart).flags)) rfl rfl rfl (app [(n3, some ⟨[(cPart (prs.getD i dPart))], 4, 71, true⟩)] noStore) (seen_one (V := []) (D := [((n1 + 1), some (oBo (sn.set (andN (prs.getD i dPart).far 63) (Bo.mk true)))), (n3, some ⟨[(cPart (prs.getD i dPart))], 4, 71, true⟩), (n3, some ⟨[[(.int .i64 0), (.int .i64 0), (.int .i64 0), (.string ByteArray.empty)]], 4, 71, true⟩), (pn1, some ⟨[[(.slice (some ⟨jp, 0, none⟩) K 2)]], 1, 122, true⟩), (jp, some (oPrt ps)), (jq, some (oPrt q)), ((n1 + 1), some (oBo sn))]) (by kernel_rfl) (get_there (by omega) get_here)) (r_load1 rfl rfl rfl rfl rfl get_here rfl rfl) ?_
    have hm6 := andN_le (prs.getD i dPart).flags 7 (by decide)
    refine PQ.pure (dst := (some 54)) (v := (.int .i64 (((andN (prs.getD i dPart).flags 7) : Nat) : Int))) rfl rfl rfl noStore (none_ok _ _) (r_bin rfl rfl rfl (b_andN (prs.getD i dPart).flags 7 (by decide))) ?_
    refine PQ.pure (dst := (some 55)) (v := (Pt n3 0 2)) rfl rfl rfl noStore (none_ok _ _) rfl ?_
    refine PQ.pure (dst := (some 56)) (v := (.int .i64 (prs.getD i dPart).st)) rfl rfl rfl (app [(n3, some ⟨[(cPart (prs.getD i dPart))], 4, 71, true⟩)] noStore) (seen_one (V := []) (D := [((n1 + 1), some (oBo (sn.set (andN (prs.getD i dPart).far 63) (Bo.mk true)))), (n3, some ⟨[(cPart (prs.getD i dPart))], 4, 71, true⟩), (n3, some ⟨[[(.int .i64 0), (.int .i64 0), (.int .i64 0), (.string ByteArray.empty)]], 4, 71, true⟩), (pn1, some ⟨[[(.slice (some ⟨jp, 0, none⟩) K 2)]], 1, 122, true⟩), (jp, some (oPrt ps)), (jq, some (oPrt q)), ((n1 + 1), some (oBo sn))]) (by kernel_rfl) (get_there (by omega) get_here)) (r_load1 rfl rfl rfl rfl rfl get_here rfl rfl) ?_
    have hm7 := andN_le (prs.getD i dPart).st 1 (by decide)
    refine PQ.pure (dst := (some 57)) (v := (.int .i64 (((andN (prs.getD i dPart).st 1) : Nat) : Int))) rfl rfl rfl noStore (none_ok _ _) (r_bin rfl rfl rfl (b_andN (prs.getD i dPart).st 1 (by decide))) ?_
    refine PQ.pure (dst := (some 58)) (v := (Pt n3 0 2)) rfl rfl rfl noStore (none_ok _ _) rfl ?_
    refine PQ.pure (dst := (some 59)) (v := (.int .i64 (prs.getD i dPart).st)) rfl rfl rfl (app [(n3, some ⟨[(cPart (prs.getD i dPart))], 4, 71, true⟩)] noStore) (seen_one (V := []) (D := [((n1 + 1), some (oBo (sn.set (andN (prs.getD i dPart).far 63) (Bo.mk true)))), (n3, some ⟨[(cPart (prs.getD i dPart))], 4, 71, true⟩), (n3, some ⟨[[(.int .i64 0), (.int .i64 0), (.int .i64 0), (.string ByteArray.empty)]], 4, 71, true⟩), (pn1, some ⟨[[(.slice (some ⟨jp, 0, none⟩) K 2)]], 1, 122, true⟩), (jp, some (oPrt ps)), (jq, some (oPrt q)), ((n1 + 1), some (oBo sn))]) (by kernel_rfl) (get_there (by omega) get_here)) (r_load1 rfl rfl rfl rfl rfl get_here rfl rfl) ?_
    refine PQ.pure (dst := (some 60)) (v := (.int .i64 (Int.fdiv (prs.getD i dPart).st 2))) rfl rfl rfl noStore (none_ok _ _) (r_bin rfl rfl rfl (b_shr (by decide) rfl)) ?_
    have hm8 := andN_le (Int.fdiv (prs.getD i dPart).st 2) 1 (by decide)
    refine PQ.pure (dst := (some 61)) (v := (.int .i64 (((andN (Int.fdiv (prs.getD i dPart).st 2) 1) : Nat) : Int))) rfl rfl rfl noStore (none_ok _ _) (r_bin rfl rfl rfl (b_andN (Int.fdiv (prs.getD i dPart).st 2) 1 (by decide))) ?_
    refine PQ.pure (dst := (some 62)) (v := (.int .i64 (((andN (prs.getD i dPart).far 63) : Nat) : Int))) rfl rfl rfl noStore (none_ok _ _) rfl ?_
    refine PQ.pure (dst := (some 63)) (v := (W (BitVec.ofNat 32 (andN (prs.getD i dPart).far 63)))) rfl rfl rfl noStore (none_ok _ _) (r_cvt rfl rfl rfl rfl rfl ⟨_, rfl⟩ (wrap_ofNat32 _)) ?_
    refine PQ.pure (dst := (some 64)) (v := (Pt n3 0 3)) rfl rfl rfl noStore (none_ok _ _) rfl ?_
    refine PQ.pure (dst := (some 65)) (v := (.string (prs.getD i dPart).data)) rfl rfl rfl (app [(n3, some ⟨[(cPart (prs.getD i dPart))], 4, 71, true⟩)] noStore) (seen_one (V := []) (D := [((n1 + 1), some (oBo (sn.set (andN (prs.getD i dPart).far 63) (Bo.mk true)))), (n3, some ⟨[(cPart (prs.getD i dPart))], 4, 71, true⟩), (n3, some ⟨[[(.int .i64 0), (.int .i64 0), (.int .i64 0), (.string ByteArray.empty)]], 4, 71, true⟩), (pn1, some ⟨[[(.slice (some ⟨jp, 0, none⟩) K 2)]], 1, 122, true⟩), (jp, some (oPrt ps)), (jq, some (oPrt q)), ((n1 + 1), some (oBo sn))]) (by kernel_rfl) (get_there (by omega) get_here)) (r_load1 rfl rfl rfl rfl rfl get_here rfl rfl) ?_
    refine PQ.pure (dst := (some 66)) (v := (Pt n3 0 3)) rfl rfl rfl noStore (none_ok _ _) rfl ?_
    refine PQ.pure (dst := (some 67)) (v := (.string (prs.getD i dPart).data)) rfl rfl rfl (app [(n3, some ⟨[(cPart (prs.getD i dPart))], 4, 71, true⟩)] noStore) (seen_one (V := []) (D := [((n1 + 1), some (oBo (sn.set (andN (prs.getD i dPart).far 63) (Bo.mk true)))), (n3, some ⟨[(cPart (prs.getD i dPart))], 4, 71, true⟩), (n3, some ⟨[[(.int .i64 0), (.int .i64 0), (.int .i64 0), (.string ByteArray.empty)]], 4, 71, true⟩), (pn1, some ⟨[[(.slice (some ⟨jp, 0, none⟩) K 2)]], 1, 122, true⟩), (jp, some (oPrt ps)), (jq, some (oPrt q)), ((n1 + 1), some (oBo sn))]) (by kernel_rfl) (get_there (by omega) get_here)) (r_load1 rfl rfl rfl rfl rfl get_here rfl rfl) ?_
    refine PQ.pure (dst := (some 68)) (v := (.int .i64 (((prs.getD i dPart).data.size : Nat) : Int))) rfl rfl rfl noStore (none_ok _ _) rfl ?_
    refine PQ.pure (dst := (some 69)) (v := (.int .i64 (((min (prs.getD i dPart).data.size 6) : Nat) : Int))) rfl rfl rfl noStore (none_ok _ _) (r_min (a := (prs.getD i dPart).data.size) (b := 6) rfl rfl rfl) ?_
    refine PQ.pure (dst := (some 70)) (v := (.string ((prs.getD i dPart).data.extract 0 (min (prs.getD i dPart).data.size 6)))) rfl rfl rfl noStore (none_ok _ _) (r_cut (a := 0) (b := (min (prs.getD i dPart).data.size 6)) rfl rfl (fun _ => rfl) (fun _ => rfl) rfl rfl rfl bound_nat (by omega) (by omega) rfl) ?_
    refine PQ.pure (dst := (some 71)) (v := (.agg ⟨(xRs61 prs i tsn)⟩)) rfl rfl rfl noStore (none_ok _ _) (by kernel_rfl) ?_
    refine PQ.op (dst := (some 11)) (v := (.pointer (some ⟨(n3 + 1), 0, some 0⟩))) (n1 := (n3 + 2)) (d1 := [((n3 + 1), some ⟨[xRs65], 15, 54, true⟩)]) rfl rfl rfl noStore (none_ok _ _) rfl (by omega) (kp1 (wr_new (by omega) (by omega))) ?_
    refine PQ.op (dst := none) (v := (.tuple #[])) (n1 := (n3 + 2)) (d1 := [((n3 + 1), some ⟨[(xRs61 prs i tsn)], 15, 54, true⟩)]) rfl rfl rfl _ (seen_any (V := [((n3 + 1), some ⟨[xRs65], 15, 54, true⟩)]) (D := [((n1 + 1), some (oBo (sn.set (andN (prs.getD i dPart).far 63) (Bo.mk true)))), (n3, some ⟨[(cPart (prs.getD i dPart))], 4, 71, true⟩), (n3, some ⟨[[(.int .i64 0), (.int .i64 0), (.int .i64 0), (.string ByteArray.empty)]], 4, 71, true⟩), (pn1, some ⟨[[(.slice (some ⟨jp, 0, none⟩) K 2)]], 1, 122, true⟩), (jp, some (oPrt ps)), (jq, some (oPrt q)), ((n1 + 1), some (oBo sn))]) (by kernel_rfl)) (r_store rfl rfl rfl rfl rfl rfl rfl get_here rfl rfl (Nat.le_of_ble_eq_true rfl) rfl) (by omega) (kp1 (wr_tight (by kernel_rfl) (by omega))) ?_
    refine PQ.done (d := [((n3 + 1), some ⟨[(xRs61 prs i tsn)], 15, 54, true⟩), ((n3 + 1), some ⟨[xRs65], 15, 54, true⟩)]) (by kernel_rfl) ?_
    intro _
    refine RA.weaken (D' := [((n3 + 1), some ⟨[(xRs61 prs i tsn)], 15, 54, true⟩), ((n1 + 1), some (oBo (sn.set (andN (prs.getD i dPart).far 63) (Bo.mk true)))), (n3, some ⟨[(cPart (prs.getD i dPart))], 4, 71, true⟩), (pn1, some ⟨[[(.slice (some ⟨jp, 0, none⟩) K 2)]], 1, 122, true⟩), (jp, some (oPrt ps)), (jq, some (oPrt q))]) hd (Less.of (fac (mm (fun _ => get_here) (fun _ => get_here)) (fac (mm (fun _ => (get_there (by omega) get_here)) (fun _ => (gt2 (by omega) get_here))) (fac (mm (fun _ => (gt2 (by omega) get_here)) (fun _ => (gt3 (by omega) get_here))) (fac (mm (fun _ => (gt3 (by omega) get_here)) (fun _ => (gt5 (by omega) get_here))) (fac (mm (fun _ => (gt4 (by omega) get_here)) (fun _ => (gt6 (by omega) get_here))) (fac (mm (fun _ => (gt5 (by omega) get_here)) (fun _ => (gt7 (by omega) get_here))) fan)))))) (gone_of (by simp only [goneP, memP, List.cons_append, List.nil_append, true_or, or_true, true_and, and_true, or_false] <;> omega))) ?_
    obtain ⟨c, hc⟩ : ∃ c : Prt, c = (Prt.mk (fl7 (prs.getD i dPart).flags) (tsn + (BitVec.ofNat 32 (andN (prs.getD i dPart).far 63))) (andN (prs.getD i dPart).st 1) (andN (Int.fdiv (prs.getD i dPart).st 2) 1) (BitVec.ofNat 32 (andN (prs.getD i dPart).far 63)) ((prs.getD i dPart).data.extract 0 (min (prs.getD i dPart).data.size 6))) := ⟨_, rfl⟩
    have hcd : c.data.size ≤ 6 := by rw [hc]; exact cut_le _
    have hcf : far tsn c = (andN (prs.getD i dPart).far 63) := far_new (by omega) (by rw [hc])
    have hcf64 : far tsn c < 64 := by omega
    have hnew : ∀ x ∈ ps, far tsn x ≠ far tsn c := fun x hx he => hc3 (by have h0 := hsn x hx; rw [he, hcf] at h0; exact h0)
    have hsza : ∀ x ∈ (q ++ [c]), x.data.size ≤ 6 := fun x hx => (List.mem_append.1 hx).elim (fun h => hszp x (hperm.mem_iff.2 h)) (fun h => by rw [List.mem_singleton.1 h]; exact hcd)
    show RA _ _ _ _ _ _ _ _ [((n3 + 1), some ⟨[(cPrt (Prt.mk (fl7 (prs.getD i dPart).flags) (tsn + (BitVec.ofNat 32 (andN (prs.getD i dPart).far 63))) (andN (prs.getD i dPart).st 1) (andN (Int.fdiv (prs.getD i dPart).st 2) 1) (BitVec.ofNat 32 (andN (prs.getD i dPart).far 63)) ((prs.getD i dPart).data.extract 0 (min (prs.getD i dPart).data.size 6))))], 15, 54, true⟩), ((n1 + 1), some (oBo (sn.set (andN (prs.getD i dPart).far 63) (Bo.mk true)))), (n3, some ⟨[(cPart (prs.getD i dPart))], 4, 71, true⟩), (pn1, some ⟨[[(.slice (some ⟨jp, 0, none⟩) K 2)]], 1, 122, true⟩), (jp, some (oPrt ps)), (jq, some (oPrt q))] _
    rw [← hc]
    refine RA.rebase [(0, (W tsn)), (1, va), (5, (Pt pn1 0 0)), (6, (.slice (some ⟨jq, 0, none⟩) K 2)), (7, (.slice (some ⟨(n1 + 1), 0, none⟩) 64 0)), (8, (.int .i64 ((i : Nat) : Int))), (9, (Pt n3 0 0)), (10, (.int .i64 (((andN (prs.getD i dPart).far 63) : Nat) : Int))), (11, (.pointer (some ⟨(n3 + 1), 0, some 0⟩))), (31, (.bool true)), (44, (.bool false))] ⟨rfl, rfl, rfl, rfl, rfl, rfl, rfl, rfl, rfl, rfl, rfl, trivial⟩ (fun τr9 => ?_)
    refine RA.seq hd ?_
    refine RA.region env_ok ?_
    refine OA.p (some 73) (Pt pn1 0 0) rfl rfl rfl rfl ?_
    refine OA.p (some 74) (.agg ⟨(xRs64 c)⟩) rfl rfl rfl (r_loadA rfl rfl rfl rfl get_here rfl rfl rfl) ?_
    by_cases hc4 : arL (insL ps (ps.findIdx (lsP c)) c) (ps.findIdx (lsP c)) = none
    ·
     by_cases hc5 : refB (q ++ [c]) (K + 2) c = none
     ·
      refine OA.call (dst := (some 75)) (all := (xRs62 pn1 c)) rfl rfl rfl rfl rfl rfl rfl rfl (CQ.imp (sAddN (hd.of (by omega) (kb6 (by omega))) pn1 jp K ps hpsl (by omega) (by omega) c hc4 (gt3 (by omega) get_here) (gt4 (by omega) get_here)) ?_)
      rintro _ n10 _ ⟨jnn10, p1n10, p2n10, rfl, rfl⟩ hn10
      show OA _ _ _ _ _ _ _ _ [(pn1, some ⟨[[(.slice (some ⟨jnn10, 0, none⟩) (K + 1) 2)]], 1, 122, true⟩), (jnn10, some (oPrt (insL ps (ps.findIdx (lsP c)) c))), (jp, none), ((n3 + 1), some ⟨[(cPrt c)], 15, 54, true⟩), ((n1 + 1), some (oBo (sn.set (andN (prs.getD i dPart).far 63) (Bo.mk true)))), (n3, some ⟨[(cPart (prs.getD i dPart))], 4, 71, true⟩), (pn1, some ⟨[[(.slice (some ⟨jp, 0, none⟩) K 2)]], 1, 122, true⟩), (jp, some (oPrt ps)), (jq, some (oPrt q))] _
      refine OA.p (some 72) (.tuple ⟨[(.agg ⟨[(.int .i64 0), (.int .i64 0), (.bool false), (.int .u32 0), (.string ByteArray.empty)]⟩), (.bool false)]⟩) rfl rfl rfl rfl ?_
      refine OA.p (some 76) (.agg ⟨[(.int .i64 0), (.int .i64 0), (.bool false), (.int .u32 0), (.string ByteArray.empty)]⟩) rfl rfl rfl rfl ?_
      refine OA.p (some 77) (.bool false) rfl rfl rfl rfl ?_
      refine OA.op1 (dst := (some 12)) (v := (Pt n10 0 0)) (n1 := (n10 + 1)) (w := (n10, some ⟨[[(.int .i64 0), (.int .i64 0), (.bool false), (.int .u32 0), (.string ByteArray.empty)]], 5, 29, true⟩)) rfl rfl rfl rfl (by omega) ?_
      refine OA.op1 (dst := none) (v := (.tuple #[])) (n1 := (n10 + 1)) (w := (n10, some ⟨[[(.int .i64 0), (.int .i64 0), (.bool false), (.int .u32 0), (.string ByteArray.empty)]], 5, 29, true⟩)) rfl rfl rfl (r_store rfl rfl rfl rfl rfl rfl rfl get_here rfl rfl (Nat.le_of_ble_eq_true rfl) rfl) (by omega) ?_
      refine OA.p (some 13) (.bool false) rfl rfl rfl rfl ?_
      refine OA.nil ?_
      intro _
      refine RA.weaken (D' := [(n10, some ⟨[[(.int .i64 0), (.int .i64 0), (.bool false), (.int .u32 0), (.string ByteArray.empty)]], 5, 29, true⟩), (pn1, some ⟨[[(.slice (some ⟨jnn10, 0, none⟩) (K + 1) 2)]], 1, 122, true⟩), (jnn10, some (oPrt (insL ps (ps.findIdx (lsP c)) c))), (jp, none), ((n3 + 1), some ⟨[(cPrt c)], 15, 54, true⟩), ((n1 + 1), some (oBo (sn.set (andN (prs.getD i dPart).far 63) (Bo.mk true)))), (n3, some ⟨[(cPart (prs.getD i dPart))], 4, 71, true⟩), (jq, some (oPrt q))]) hd (Less.of (fac (mm (fun _ => get_here) (fun _ => get_here)) (fac (mm (fun _ => (get_there (by omega) get_here)) (fun _ => (gt2 (by omega) get_here))) (fac (mm (fun _ => (gt2 (by omega) get_here)) (fun _ => (gt3 (by omega) get_here))) (fac (mm (fun _ => (gt3 (by omega) get_here)) (fun _ => (gt4 (by omega) get_here))) (fac (mm (fun _ => (gt4 (by omega) get_here)) (fun _ => (gt5 (by omega) get_here))) (fac (mm (fun _ => (gt5 (by omega) get_here)) (fun _ => (gt6 (by omega) get_here))) (fac (mm (fun _ => (gt6 (by omega) get_here)) (fun _ => (gt7 (by omega) get_here))) (fac (mm (fun _ => (gt7 (by omega) get_here)) (fun _ => (gt10 (by omega) get_here))) fan)))))))) (gone_of (by simp only [goneP, memP, List.cons_append, List.nil_append, true_or, or_true, true_and, and_true, or_false] <;> omega))) ?_
      refine RA.seq hd ?_
      refine RA.region env_ok ?_
      refine OA.p (some 79) (.slice (some ⟨jq, 0, none⟩) K 2) rfl rfl rfl rfl ?_
      refine OA.p (some 80) (.agg ⟨(xRs64 c)⟩) rfl rfl rfl (r_loadA rfl rfl rfl rfl (gt4 (by omega) get_here) rfl rfl rfl) ?_
      refine OA.call (dst := (some 81)) (all := (xRs63 jq K c)) rfl rfl rfl rfl rfl rfl rfl rfl (CQ.imp (sRefB (hd.of (by omega) (kb8 (by omega))) jq K q hql (by omega) c hsza hcd hc5 (gt7 (by omega) get_here)) ?_)
      rintro _ n11 _ ⟨jan11, p1n11, p2n11, rfl, rfl⟩ hn11
      refine OA.app1 ?_
      refine OA.p (some 78) (.tuple ⟨[(.slice (some ⟨jan11, 0, none⟩) (K + 1) 2), (.agg ⟨[(.int .i64 0), (.int .i64 0), (.bool false), (.int .u32 0), (.string ByteArray.empty)]⟩), (.bool false)]⟩) rfl rfl rfl rfl ?_
      refine OA.p (some 82) (.slice (some ⟨jan11, 0, none⟩) (K + 1) 2) rfl rfl rfl rfl ?_
      refine OA.p (some 83) (.agg ⟨[(.int .i64 0), (.int .i64 0), (.bool false), (.int .u32 0), (.string ByteArray.empty)]⟩) rfl rfl rfl rfl ?_
      refine OA.p (some 84) (.bool false) rfl rfl rfl rfl ?_
      refine OA.op1 (dst := (some 15)) (v := (Pt n11 0 0)) (n1 := (n11 + 1)) (w := (n11, some ⟨[[(.int .i64 0), (.int .i64 0), (.bool false), (.int .u32 0), (.string ByteArray.empty)]], 5, 29, true⟩)) rfl rfl rfl rfl (by omega) ?_
      refine OA.p (some 14) (.slice (some ⟨jan11, 0, none⟩) (K + 1) 2) rfl rfl rfl rfl ?_
      refine OA.op1 (dst := none) (v := (.tuple #[])) (n1 := (n11 + 1)) (w := (n11, some ⟨[[(.int .i64 0), (.int .i64 0), (.bool false), (.int .u32 0), (.string ByteArray.empty)]], 5, 29, true⟩)) rfl rfl rfl (r_store rfl rfl rfl rfl rfl rfl rfl get_here rfl rfl (Nat.le_of_ble_eq_true rfl) rfl) (by omega) ?_
      refine OA.p (some 16) (.bool false) rfl rfl rfl rfl ?_
      refine OA.nil ?_
      intro _
      refine RA.weaken (D' := [(n11, some ⟨[[(.int .i64 0), (.int .i64 0), (.bool false), (.int .u32 0), (.string ByteArray.empty)]], 5, 29, true⟩), (jan11, some (oPrt (q ++ [c]))), (n10, some ⟨[[(.int .i64 0), (.int .i64 0), (.bool false), (.int .u32 0), (.string ByteArray.empty)]], 5, 29, true⟩), (pn1, some ⟨[[(.slice (some ⟨jnn10, 0, none⟩) (K + 1) 2)]], 1, 122, true⟩), (jnn10, some (oPrt (insL ps (ps.findIdx (lsP c)) c))), (jp, none), ((n3 + 1), some ⟨[(cPrt c)], 15, 54, true⟩), ((n1 + 1), some (oBo (sn.set (andN (prs.getD i dPart).far 63) (Bo.mk true)))), (n3, some ⟨[(cPart (prs.getD i dPart))], 4, 71, true⟩), (jq, some (oPrt q))]) hd (Less.of (fac (mm (fun _ => get_here) (fun _ => get_here)) (fac (mm (fun _ => (get_there (by omega) get_here)) (fun _ => (gt2 (by omega) get_here))) (fac (mm (fun _ => (gt2 (by omega) get_here)) (fun _ => (gt3 (by omega) get_here))) (fac (mm (fun _ => (gt3 (by omega) get_here)) (fun _ => (gt4 (by omega) get_here))) (fac (mm (fun _ => (gt4 (by omega) get_here)) (fun _ => (gt5 (by omega) get_here))) (fac (mm (fun _ => (gt5 (by omega) get_here)) (fun _ => (gt6 (by omega) get_here))) (fac (mm (fun _ => (gt6 (by omega) get_here)) (fun _ => (gt7 (by omega) get_here))) (fac (mm (fun _ => (gt7 (by omega) get_here)) (fun _ => (gt8 (by omega) get_here))) (fac (mm (fun _ => (gt8 (by omega) get_here)) (fun _ => (gt9 (by omega) get_here))) (fac (mm (fun _ => (gt9 (by omega) get_here)) (fun _ => (gt10 (by omega) get_here))) fan)))))))))) (gone_of (by simp only [goneP, memP, List.cons_append, List.nil_append, true_or, or_true, true_and, and_true, or_false] <;> omega))) ?_
      refine RA.seq hd ?_
      refine RA.region env_ok ?_
      refine OA.p (some 85) (.slice (some ⟨jan11, 0, none⟩) (K + 1) 2) rfl rfl rfl rfl ?_
      refine OA.p (some 6) (.slice (some ⟨jan11, 0, none⟩) (K + 1) 2) rfl rfl rfl rfl ?_
      refine OA.nil ?_
      intro _
      refine RA.seq hd ?_
      refine RA.region env_ok ?_
      refine OA.p (some 17) (.int .i64 0) rfl rfl rfl rfl ?_
      refine OA.nil ?_
      intro _
      refine RA.seq hd ?_
      refine RA.seq hd ?_
      refine RA.region env_ok ?_
      refine OA.p (some 18) (.int .i64 0) rfl rfl rfl rfl ?_
      refine OA.nil ?_
      intro _
      refine RA.block ?_
      have hszq : ∀ x ∈ (q ++ [c]), x.data.size ≤ 6 := fun x hx => (fun x hx => (ins_mem.1 hx).elim (fun e => by rw [e]; exact hcd) (hszp x)) x ((rs_all hperm).mem_iff.2 hx)
      have hXl : (q ++ [c]).length = (K + 1) := show (q ++ [c]).length = K + 1 from by rw [List.length_append, hql]; rfl
      refine RA.loop hd (fun kk_ τ n' D => ∃ k : Nat,  kk_ = ((K + 1) - k) ∧ (n11 + 1) ≤ n' ∧ Has τ [(0, (W tsn)), (1, va), (5, (Pt pn1 0 0)), (6, (.slice (some ⟨jan11, 0, none⟩) (K + 1) 2)), (7, (.slice (some ⟨(n1 + 1), 0, none⟩) 64 0)), (8, (.int .i64 ((i : Nat) : Int))), (12, (Pt n10 0 0)), (13, (.bool false)), (15, (Pt n11 0 0)), (16, (.bool false)), (17, (.int .i64 (((szP ((q ++ [c]).take k)) : Nat) : Int))), (18, (.int .i64 ((k : Nat) : Int)))] ∧ D = [(n11, some ⟨[[(.int .i64 0), (.int .i64 0), (.bool false), (.int .u32 0), (.string ByteArray.empty)]], 5, 29, true⟩), (jan11, some (oPrt (q ++ [c]))), (n10, some ⟨[[(.int .i64 0), (.int .i64 0), (.bool false), (.int .u32 0), (.string ByteArray.empty)]], 5, 29, true⟩), (pn1, some ⟨[[(.slice (some ⟨jnn10, 0, none⟩) (K + 1) 2)]], 1, 122, true⟩), (jnn10, some (oPrt (insL ps (ps.findIdx (lsP c)) c))), (jp, none), ((n3 + 1), some ⟨[(cPrt c)], 15, 54, true⟩), ((n1 + 1), some (oBo (sn.set (andN (prs.getD i dPart).far 63) (Bo.mk true)))), (n3, some ⟨[(cPart (prs.getD i dPart))], 4, 71, true⟩), (jq, some (oPrt q))] ∧ (∀ i ∈ keys D, i < n') ∧ k ≤ (K + 1)) (((K + 1) - 0)) ⟨0, rfl, by omega, ⟨rfl, rfl, rfl, rfl, rfl, rfl, rfl, rfl, rfl, rfl, (by rfl), rfl, trivial⟩, rfl, (kb10 (by omega)), by omega⟩ ?_
      rintro kn12 τ12 n12 _ ⟨k, rfl, hn12, hHn12, rfl, hKn12, hIn12⟩
      rw [Has.eq hHn12]
      have hKn12_0 : n11 < n12 := hKn12 _ (by simp only [keys, List.map_cons, List.map_nil, List.mem_cons, true_or, or_true])
      have hKn12_1 : jan11 < n12 := hKn12 _ (by simp only [keys, List.map_cons, List.map_nil, List.mem_cons, true_or, or_true])
      have hKn12_2 : n10 < n12 := hKn12 _ (by simp only [keys, List.map_cons, List.map_nil, List.mem_cons, true_or, or_true])
      have hKn12_3 : pn1 < n12 := hKn12 _ (by simp only [keys, List.map_cons, List.map_nil, List.mem_cons, true_or, or_true])
      have hKn12_4 : jnn10 < n12 := hKn12 _ (by simp only [keys, List.map_cons, List.map_nil, List.mem_cons, true_or, or_true])
      have hKn12_5 : jp < n12 := hKn12 _ (by simp only [keys, List.map_cons, List.map_nil, List.mem_cons, true_or, or_true])
      have hKn12_6 : (n3 + 1) < n12 := hKn12 _ (by simp only [keys, List.map_cons, List.map_nil, List.mem_cons, true_or, or_true])
      have hKn12_7 : (n1 + 1) < n12 := hKn12 _ (by simp only [keys, List.map_cons, List.map_nil, List.mem_cons, true_or, or_true])
      have hKn12_8 : n3 < n12 := hKn12 _ (by simp only [keys, List.map_cons, List.map_nil, List.mem_cons, true_or, or_true])
      have hKn12_9 : jq < n12 := hKn12 _ (by simp only [keys, List.map_cons, List.map_nil, List.mem_cons, true_or, or_true])
      simp only [keys, List.map, List.forall_mem_cons, List.mem_cons, List.not_mem_nil, false_imp_iff, implies_true, and_true] at hKn12
      refine RA.seq hd ?_
      refine RA.seq hd ?_
      refine RA.region env_ok ?_
      refine OA.p (some 86) (.int .i64 ((k : Nat) : Int)) rfl rfl rfl rfl ?_
      refine OA.p (some 87) (.slice (some ⟨jan11, 0, none⟩) (K + 1) 2) rfl rfl rfl rfl ?_
      refine OA.p (some 88) (.int .i64 (((K + 1) : Nat) : Int)) rfl rfl rfl rfl ?_
      by_cases hc6 : ((k : Nat) : Int) < (((K + 1) : Nat) : Int)
      ·
       have hs1 := szP_tk (i := k) hszq (by omega)
       have hs2 := hszq _ (getD_mem (d := dPrt) (l := (q ++ [c])) (i := k) (by omega))
       refine OA.p (some 89) (.bool true) rfl rfl rfl (Eq.trans (r_bin rfl rfl rfl (b_lss rfl)) (dT hc6)) ?_
       refine OA.nil ?_
       intro _
       refine RA.condT rfl ?_
       refine RA.skip env_ok ?_
       intro _
       refine RA.seq hd ?_
       refine RA.block ?_
       refine RA.region env_ok ?_
       refine OA.p (some 92) (.int .i64 (((szP ((q ++ [c]).take k)) : Nat) : Int)) rfl rfl rfl rfl ?_
       refine OA.p (some 93) (.slice (some ⟨jan11, 0, none⟩) (K + 1) 2) rfl rfl rfl rfl ?_
       refine OA.p (some 94) (.int .i64 ((k : Nat) : Int)) rfl rfl rfl rfl ?_
       refine OA.p (some 95) (Pt jan11 k 0) rfl rfl rfl (r_iaS (l := k) rfl rfl rfl rfl rfl rfl (by omega) (by omega) (get_there (by omega) get_here) rfl (by omega)) ?_
       refine OA.p (some 96) (Pt jan11 k 6) rfl rfl rfl rfl ?_
       refine OA.p (some 97) (.string ((q ++ [c]).getD k dPrt).data) rfl rfl rfl (r_loadF (c := cPrt) dPrt rfl rfl rfl rfl rfl (get_there (by omega) get_here) (by have := (show (q ++ [c]).length = K + 1 from by rw [List.length_append, hql]; rfl); omega) rfl) ?_
       refine OA.p (some 98) (.int .i64 ((((q ++ [c]).getD k dPrt).data.size : Nat) : Int)) rfl rfl rfl rfl ?_
       refine OA.p (some 99) (.int .i64 ((((szP ((q ++ [c]).take k)) + ((q ++ [c]).getD k dPrt).data.size) : Nat) : Int)) rfl rfl rfl (r_bin rfl rfl rfl (b_add (i64_eq (by omega)))) ?_
       refine OA.p (some 17) (.int .i64 ((((szP ((q ++ [c]).take k)) + ((q ++ [c]).getD k dPrt).data.size) : Nat) : Int)) rfl rfl rfl rfl ?_
       refine OA.nil ?_
       intro _
       refine RA.region env_ok ?_
       refine OA.p (some 90) (.int .i64 ((k : Nat) : Int)) rfl rfl rfl rfl ?_
       refine OA.p (some 91) (.int .i64 (((k + 1) : Nat) : Int)) rfl rfl rfl (r_bin rfl rfl rfl (b_add (i64_eq (by omega)))) ?_
       refine OA.p (some 18) (.int .i64 (((k + 1) : Nat) : Int)) rfl rfl rfl rfl ?_
       refine OA.nil ?_
       refine ⟨((K + 1) - (k + 1)), by omega, [(n11, some ⟨[[(.int .i64 0), (.int .i64 0), (.bool false), (.int .u32 0), (.string ByteArray.empty)]], 5, 29, true⟩), (jan11, some (oPrt (q ++ [c]))), (n10, some ⟨[[(.int .i64 0), (.int .i64 0), (.bool false), (.int .u32 0), (.string ByteArray.empty)]], 5, 29, true⟩), (pn1, some ⟨[[(.slice (some ⟨jnn10, 0, none⟩) (K + 1) 2)]], 1, 122, true⟩), (jnn10, some (oPrt (insL ps (ps.findIdx (lsP c)) c))), (jp, none), ((n3 + 1), some ⟨[(cPrt c)], 15, 54, true⟩), ((n1 + 1), some (oBo (sn.set (andN (prs.getD i dPart).far 63) (Bo.mk true)))), (n3, some ⟨[(cPart (prs.getD i dPart))], 4, 71, true⟩), (jq, some (oPrt q))], (Less.refl _ _ _), (k + 1), rfl, by omega, ⟨rfl, rfl, rfl, rfl, rfl, rfl, rfl, rfl, rfl, rfl, (by show Value.int _ _ = Value.int _ _; rw [szP_snoc (by omega)]), rfl, trivial⟩, rfl, (kb10 (by omega)), by omega⟩
      ·
       refine OA.p (some 89) (.bool false) rfl rfl rfl (Eq.trans (r_bin rfl rfl rfl (b_lss rfl)) (dF hc6)) ?_
       refine OA.nil ?_
       intro _
       refine RA.condF rfl ?_
       refine RA.exit env_ok ?_
       intro _
       rw [szP_all (l := (q ++ [c])) (i := k) (by omega)]
       refine RA.seq hd ?_
       refine RA.region env_ok ?_
       refine OA.p (some 100) (.bool false) rfl rfl rfl rfl ?_
       refine OA.p (some 101) (.bool false) rfl rfl rfl rfl ?_
       refine OA.p (some 102) (.bool false) rfl rfl rfl rfl ?_
       refine OA.p (some 103) (.bool false) rfl rfl rfl rfl ?_
       refine OA.p (some 104) (.agg ⟨[(.int .i64 0), (.int .i64 0), (.bool false), (.int .u32 0), (.string ByteArray.empty)]⟩) rfl rfl rfl (r_loadA rfl rfl rfl rfl (gt2 (by omega) get_here) rfl rfl rfl) ?_
       refine OA.p (some 105) (.agg ⟨[(.int .i64 0), (.int .i64 0), (.bool false), (.int .u32 0), (.string ByteArray.empty)]⟩) rfl rfl rfl (r_loadA rfl rfl rfl rfl get_here rfl rfl rfl) ?_
       refine OA.p (some 106) (.bool false) rfl rfl rfl (r_neqA (r := true) rfl rfl rfl (by kernel_rfl) (aeq_self _ _ _ (by kernel_rfl))) ?_
       refine OA.p (some 107) (.bool false) rfl rfl rfl rfl ?_
       refine OA.p (some 108) (.bool false) rfl rfl rfl rfl ?_
       refine OA.p (some 109) (Pt pn1 0 0) rfl rfl rfl rfl ?_
       refine OA.callP (dst := (some 110)) (all := [(Pt pn1 0 0)]) (v := (.int .i64 (((K + 1) : Nat) : Int))) (hd.of (by omega) (kb10 (by omega))) rfl rfl rfl rfl rfl rfl rfl rfl (sLen pn1 jnn10 (K + 1) (gt3 (by omega) get_here)) ?_
       intro n13 hn13
       refine OA.p (some 111) (.slice (some ⟨jan11, 0, none⟩) (K + 1) 2) rfl rfl rfl rfl ?_
       refine OA.p (some 112) (.int .i64 (((K + 1) : Nat) : Int)) rfl rfl rfl rfl ?_
       refine OA.p (some 113) (.bool false) rfl rfl rfl (r_bin rfl rfl rfl (b_neq (decide_eq_false (fun h => h rfl)))) ?_
       refine OA.p (some 114) (.bool false) rfl rfl rfl rfl ?_
       refine OA.p (some 115) (.bool false) rfl rfl rfl rfl ?_
       refine OA.p (some 116) (Pt pn1 0 0) rfl rfl rfl rfl ?_
       refine OA.callP (dst := (some 117)) (all := [(Pt pn1 0 0)]) (v := (.int .i64 (((szP (q ++ [c])) : Nat) : Int))) (hd.of (by omega) (kb10 (by omega))) rfl rfl rfl rfl rfl rfl rfl rfl (PS.to (sBytes pn1 jnn10 (K + 1) (insL ps (ps.findIdx (lsP c)) c) (show (insL ps (ps.findIdx (lsP c)) c).length = K + 1 from by rw [insL_len, hpsl]) (by omega) (fun x hx => (ins_mem.1 hx).elim (fun e => by rw [e]; exact hcd) (hszp x)) (gt3 (by omega) get_here) (gt4 (by omega) get_here)) (congrArg (fun z : Nat => Value.int .i64 (z : Int)) (szP_perm (rs_all hperm)))) ?_
       intro n14 hn14
       refine OA.p (some 118) (.int .i64 (((szP (q ++ [c])) : Nat) : Int)) rfl rfl rfl rfl ?_
       refine OA.p (some 119) (.bool false) rfl rfl rfl (r_bin rfl rfl rfl (b_neq (decide_eq_false (fun h => h rfl)))) ?_
       refine OA.p (some 120) (.bool false) rfl rfl rfl rfl ?_
       refine OA.nil ?_
       intro _
       refine RA.rebase [(0, (W tsn)), (1, va), (5, (Pt pn1 0 0)), (6, (.slice (some ⟨jan11, 0, none⟩) (K + 1) 2)), (7, (.slice (some ⟨(n1 + 1), 0, none⟩) 64 0)), (8, (.int .i64 ((i : Nat) : Int))), (12, (Pt n10 0 0)), (13, (.bool false)), (15, (Pt n11 0 0)), (16, (.bool false)), (17, (.int .i64 (((szP (q ++ [c])) : Nat) : Int))), (18, (.int .i64 ((k : Nat) : Int))), (89, (.bool false)), (120, (.bool false))] ⟨rfl, rfl, rfl, rfl, rfl, rfl, rfl, rfl, rfl, rfl, rfl, rfl, rfl, rfl, trivial⟩ (fun τr15 => ?_)
       refine RA.condF rfl ?_
       refine RA.skip env_ok ?_
       intro _
       refine RA.region env_ok ?_
       refine OA.p (some 32) (.int .i64 ((i : Nat) : Int)) rfl rfl rfl rfl ?_
       refine OA.p (some 33) (.int .i64 (((i + 1) : Nat) : Int)) rfl rfl rfl (r_bin rfl rfl rfl (b_add (i64_eq (by omega)))) ?_
       refine OA.p (some 8) (.int .i64 (((i + 1) : Nat) : Int)) rfl rfl rfl rfl ?_
       refine OA.nil ?_
       refine ⟨50 - (i + 1), by omega, [(pn1, some ⟨[[(.slice (some ⟨jnn10, 0, none⟩) (K + 1) 2)]], 1, 122, true⟩), (jnn10, some (oPrt (insL ps (ps.findIdx (lsP c)) c))), (jan11, some (oPrt (q ++ [c]))), ((n1 + 1), some (oBo (sn.set (andN (prs.getD i dPart).far 63) (Bo.mk true))))], (Less.of (fac (mm (fun _ => get_here) (fun _ => (gt3 (by omega) get_here))) (fac (mm (fun _ => (get_there (by omega) get_here)) (fun _ => (gt4 (by omega) get_here))) (fac (mm (fun _ => (gt2 (by omega) get_here)) (fun _ => (get_there (by omega) get_here))) (fac (mm (fun _ => (gt3 (by omega) get_here)) (fun _ => (gt7 (by omega) get_here))) fan)))) (gone_of (by simp only [goneP, memP, List.cons_append, List.nil_append, true_or, or_true, true_and, and_true, or_false] <;> omega))), ⟨(i + 1), (K + 1), (insL ps (ps.findIdx (lsP c)) c), (q ++ [c]), jnn10, jan11, (sn.set (andN (prs.getD i dPart).far 63) (Bo.mk true)), rfl, by omega, ⟨rfl, rfl, rfl, rfl, rfl, rfl, trivial⟩, rfl, (kb4 (by omega)), ⟨by omega, show (insL ps (ps.findIdx (lsP c)) c).length = K + 1 from by rw [insL_len, hpsl], show (q ++ [c]).length = K + 1 from by rw [List.length_append, hql]; rfl, by omega, (srt_new hsrt hcf64 hnew), (rs_all hperm), (by rw [List.length_set]; exact hsnl), seen_more hsnl hcf (by omega) hsn (fun x hx => ins_mem.1 hx), (fun x hx => (ins_mem.1 hx).elim (fun e => by rw [e]; exact hcd) (hszp x)), by omega, by omega, by omega, by omega, by omega, by omega, by omega⟩⟩⟩
     ·
      obtain ⟨pf, hB, hF⟩ := rs_none hsrt hperm hpsl hcf64 hnew hc4 hc5
      refine OA.call (dst := (some 75)) (all := (xRs62 pn1 c)) rfl rfl rfl rfl rfl rfl rfl rfl (CQ.imp (sAddN (hd.of (by omega) (kb6 (by omega))) pn1 jp K ps hpsl (by omega) (by omega) c hc4 (gt3 (by omega) get_here) (gt4 (by omega) get_here)) ?_)
      rintro _ n16 _ ⟨jnn16, p1n16, p2n16, rfl, rfl⟩ hn16
      show OA _ _ _ _ _ _ _ _ [(pn1, some ⟨[[(.slice (some ⟨jnn16, 0, none⟩) (K + 1) 2)]], 1, 122, true⟩), (jnn16, some (oPrt (insL ps (ps.findIdx (lsP c)) c))), (jp, none), ((n3 + 1), some ⟨[(cPrt c)], 15, 54, true⟩), ((n1 + 1), some (oBo (sn.set (andN (prs.getD i dPart).far 63) (Bo.mk true)))), (n3, some ⟨[(cPart (prs.getD i dPart))], 4, 71, true⟩), (pn1, some ⟨[[(.slice (some ⟨jp, 0, none⟩) K 2)]], 1, 122, true⟩), (jp, some (oPrt ps)), (jq, some (oPrt q))] _
      refine OA.p (some 72) (.tuple ⟨[(.agg ⟨[(.int .i64 0), (.int .i64 0), (.bool false), (.int .u32 0), (.string ByteArray.empty)]⟩), (.bool false)]⟩) rfl rfl rfl rfl ?_
      refine OA.p (some 76) (.agg ⟨[(.int .i64 0), (.int .i64 0), (.bool false), (.int .u32 0), (.string ByteArray.empty)]⟩) rfl rfl rfl rfl ?_
      refine OA.p (some 77) (.bool false) rfl rfl rfl rfl ?_
      refine OA.op1 (dst := (some 12)) (v := (Pt n16 0 0)) (n1 := (n16 + 1)) (w := (n16, some ⟨[[(.int .i64 0), (.int .i64 0), (.bool false), (.int .u32 0), (.string ByteArray.empty)]], 5, 29, true⟩)) rfl rfl rfl rfl (by omega) ?_
      refine OA.op1 (dst := none) (v := (.tuple #[])) (n1 := (n16 + 1)) (w := (n16, some ⟨[[(.int .i64 0), (.int .i64 0), (.bool false), (.int .u32 0), (.string ByteArray.empty)]], 5, 29, true⟩)) rfl rfl rfl (r_store rfl rfl rfl rfl rfl rfl rfl get_here rfl rfl (Nat.le_of_ble_eq_true rfl) rfl) (by omega) ?_
      refine OA.p (some 13) (.bool false) rfl rfl rfl rfl ?_
      refine OA.nil ?_
      intro _
      refine RA.weaken (D' := [(n16, some ⟨[[(.int .i64 0), (.int .i64 0), (.bool false), (.int .u32 0), (.string ByteArray.empty)]], 5, 29, true⟩), (pn1, some ⟨[[(.slice (some ⟨jnn16, 0, none⟩) (K + 1) 2)]], 1, 122, true⟩), (jnn16, some (oPrt (insL ps (ps.findIdx (lsP c)) c))), (jp, none), ((n3 + 1), some ⟨[(cPrt c)], 15, 54, true⟩), ((n1 + 1), some (oBo (sn.set (andN (prs.getD i dPart).far 63) (Bo.mk true)))), (n3, some ⟨[(cPart (prs.getD i dPart))], 4, 71, true⟩), (jq, some (oPrt q))]) hd (Less.of (fac (mm (fun _ => get_here) (fun _ => get_here)) (fac (mm (fun _ => (get_there (by omega) get_here)) (fun _ => (gt2 (by omega) get_here))) (fac (mm (fun _ => (gt2 (by omega) get_here)) (fun _ => (gt3 (by omega) get_here))) (fac (mm (fun _ => (gt3 (by omega) get_here)) (fun _ => (gt4 (by omega) get_here))) (fac (mm (fun _ => (gt4 (by omega) get_here)) (fun _ => (gt5 (by omega) get_here))) (fac (mm (fun _ => (gt5 (by omega) get_here)) (fun _ => (gt6 (by omega) get_here))) (fac (mm (fun _ => (gt6 (by omega) get_here)) (fun _ => (gt7 (by omega) get_here))) (fac (mm (fun _ => (gt7 (by omega) get_here)) (fun _ => (gt10 (by omega) get_here))) fan)))))))) (gone_of (by simp only [goneP, memP, List.cons_append, List.nil_append, true_or, or_true, true_and, and_true, or_false] <;> omega))) ?_
      refine RA.seq hd ?_
      refine RA.region env_ok ?_
      refine OA.p (some 79) (.slice (some ⟨jq, 0, none⟩) K 2) rfl rfl rfl rfl ?_
      refine OA.p (some 80) (.agg ⟨(xRs64 c)⟩) rfl rfl rfl (r_loadA rfl rfl rfl rfl (gt4 (by omega) get_here) rfl rfl rfl) ?_
      refine OA.call (dst := (some 81)) (all := (xRs63 jq K c)) rfl rfl rfl rfl rfl rfl rfl rfl (CQ.imp (sRefF (hd.of (by omega) (kb8 (by omega))) jq K q hql (by omega) c hsza hcd pf hB hF (gt7 (by omega) get_here)) ?_)
      rintro _ n17 _ ⟨jan17, p1n17, p2n17, rfl, rfl⟩ hn17
      refine OA.app1 ?_
      refine OA.p (some 78) (.tuple ⟨[(.slice (some ⟨jan17, 0, none⟩) (K + 1) 2), (.agg ⟨[(.int .i64 0), (.int .i64 0), (.bool false), (.int .u32 0), (.string ByteArray.empty)]⟩), (.bool false)]⟩) rfl rfl rfl rfl ?_
      refine OA.p (some 82) (.slice (some ⟨jan17, 0, none⟩) (K + 1) 2) rfl rfl rfl rfl ?_
      refine OA.p (some 83) (.agg ⟨[(.int .i64 0), (.int .i64 0), (.bool false), (.int .u32 0), (.string ByteArray.empty)]⟩) rfl rfl rfl rfl ?_
      refine OA.p (some 84) (.bool false) rfl rfl rfl rfl ?_
      refine OA.op1 (dst := (some 15)) (v := (Pt n17 0 0)) (n1 := (n17 + 1)) (w := (n17, some ⟨[[(.int .i64 0), (.int .i64 0), (.bool false), (.int .u32 0), (.string ByteArray.empty)]], 5, 29, true⟩)) rfl rfl rfl rfl (by omega) ?_
      refine OA.p (some 14) (.slice (some ⟨jan17, 0, none⟩) (K + 1) 2) rfl rfl rfl rfl ?_
      refine OA.op1 (dst := none) (v := (.tuple #[])) (n1 := (n17 + 1)) (w := (n17, some ⟨[[(.int .i64 0), (.int .i64 0), (.bool false), (.int .u32 0), (.string ByteArray.empty)]], 5, 29, true⟩)) rfl rfl rfl (r_store rfl rfl rfl rfl rfl rfl rfl get_here rfl rfl (Nat.le_of_ble_eq_true rfl) rfl) (by omega) ?_
      refine OA.p (some 16) (.bool false) rfl rfl rfl rfl ?_
      refine OA.nil ?_
      intro _
      refine RA.weaken (D' := [(n17, some ⟨[[(.int .i64 0), (.int .i64 0), (.bool false), (.int .u32 0), (.string ByteArray.empty)]], 5, 29, true⟩), (jan17, some (oPrt (q ++ [c]))), (n16, some ⟨[[(.int .i64 0), (.int .i64 0), (.bool false), (.int .u32 0), (.string ByteArray.empty)]], 5, 29, true⟩), (pn1, some ⟨[[(.slice (some ⟨jnn16, 0, none⟩) (K + 1) 2)]], 1, 122, true⟩), (jnn16, some (oPrt (insL ps (ps.findIdx (lsP c)) c))), (jp, none), ((n3 + 1), some ⟨[(cPrt c)], 15, 54, true⟩), ((n1 + 1), some (oBo (sn.set (andN (prs.getD i dPart).far 63) (Bo.mk true)))), (n3, some ⟨[(cPart (prs.getD i dPart))], 4, 71, true⟩), (jq, some (oPrt q))]) hd (Less.of (fac (mm (fun _ => get_here) (fun _ => get_here)) (fac (mm (fun _ => (get_there (by omega) get_here)) (fun _ => (gt2 (by omega) get_here))) (fac (mm (fun _ => (gt2 (by omega) get_here)) (fun _ => (gt3 (by omega) get_here))) (fac (mm (fun _ => (gt3 (by omega) get_here)) (fun _ => (gt4 (by omega) get_here))) (fac (mm (fun _ => (gt4 (by omega) get_here)) (fun _ => (gt5 (by omega) get_here))) (fac (mm (fun _ => (gt5 (by omega) get_here)) (fun _ => (gt6 (by omega) get_here))) (fac (mm (fun _ => (gt6 (by omega) get_here)) (fun _ => (gt7 (by omega) get_here))) (fac (mm (fun _ => (gt7 (by omega) get_here)) (fun _ => (gt8 (by omega) get_here))) (fac (mm (fun _ => (gt8 (by omega) get_here)) (fun _ => (gt9 (by omega) get_here))) (fac (mm (fun _ => (gt9 (by omega) get_here)) (fun _ => (gt10 (by omega) get_here))) fan)))))))))) (gone_of (by simp only [goneP, memP, List.cons_append, List.nil_append, true_or, or_true, true_and, and_true, or_false] <;> omega))) ?_
      refine RA.seq hd ?_
      refine RA.region env_ok ?_
      refine OA.p (some 85) (.slice (some ⟨jan17, 0, none⟩) (K + 1) 2) rfl rfl rfl rfl ?_
      refine OA.p (some 6) (.slice (some ⟨jan17, 0, none⟩) (K + 1) 2) rfl rfl rfl rfl ?_
      refine OA.nil ?_
      intro _
      refine RA.seq hd ?_
      refine RA.region env_ok ?_
      refine OA.p (some 17) (.int .i64 0) rfl rfl rfl rfl ?_
      refine OA.nil ?_
      intro _
      refine RA.seq hd ?_
      refine RA.seq hd ?_
      refine RA.region env_ok ?_
      refine OA.p (some 18) (.int .i64 0) rfl rfl rfl rfl ?_
      refine OA.nil ?_
      intro _
      refine RA.block ?_
      have hszq : ∀ x ∈ (q ++ [c]), x.data.size ≤ 6 := fun x hx => (fun x hx => (ins_mem.1 hx).elim (fun e => by rw [e]; exact hcd) (hszp x)) x ((rs_all hperm).mem_iff.2 hx)
      have hXl : (q ++ [c]).length = (K + 1) := show (q ++ [c]).length = K + 1 from by rw [List.length_append, hql]; rfl
      refine RA.loop hd (fun kk_ τ n' D => ∃ k : Nat,  kk_ = ((K + 1) - k) ∧ (n17 + 1) ≤ n' ∧ Has τ [(0, (W tsn)), (1, va), (5, (Pt pn1 0 0)), (6, (.slice (some ⟨jan17, 0, none⟩) (K + 1) 2)), (7, (.slice (some ⟨(n1 + 1), 0, none⟩) 64 0)), (8, (.int .i64 ((i : Nat) : Int))), (12, (Pt n16 0 0)), (13, (.bool false)), (15, (Pt n17 0 0)), (16, (.bool false)), (17, (.int .i64 (((szP ((q ++ [c]).take k)) : Nat) : Int))), (18, (.int .i64 ((k : Nat) : Int)))] ∧ D = [(n17, some ⟨[[(.int .i64 0), (.int .i64 0), (.bool false), (.int .u32 0), (.string ByteArray.empty)]], 5, 29, true⟩), (jan17, some (oPrt (q ++ [c]))), (n16, some ⟨[[(.int .i64 0), (.int .i64 0), (.bool false), (.int .u32 0), (.string ByteArray.empty)]], 5, 29, true⟩), (pn1, some ⟨[[(.slice (some ⟨jnn16, 0, none⟩) (K + 1) 2)]], 1, 122, true⟩), (jnn16, some (oPrt (insL ps (ps.findIdx (lsP c)) c))), (jp, none), ((n3 + 1), some ⟨[(cPrt c)], 15, 54, true⟩), ((n1 + 1), some (oBo (sn.set (andN (prs.getD i dPart).far 63) (Bo.mk true)))), (n3, some ⟨[(cPart (prs.getD i dPart))], 4, 71, true⟩), (jq, some (oPrt q))] ∧ (∀ i ∈ keys D, i < n') ∧ k ≤ (K + 1)) (((K + 1) - 0)) ⟨0, rfl, by omega, ⟨rfl, rfl, rfl, rfl, rfl, rfl, rfl, rfl, rfl, rfl, (by rfl), rfl, trivial⟩, rfl, (kb10 (by omega)), by omega⟩ ?_
      rintro kn18 τ18 n18 _ ⟨k, rfl, hn18, hHn18, rfl, hKn18, hIn18⟩
      rw [Has.eq hHn18]
      have hKn18_0 : n17 < n18 := hKn18 _ (by simp only [keys, List.map_cons, List.map_nil, List.mem_cons, true_or, or_true])
      have hKn18_1 : jan17 < n18 := hKn18 _ (by simp only [keys, List.map_cons, List.map_nil, List.mem_cons, true_or, or_true])
      have hKn18_2 : n16 < n18 := hKn18 _ (by simp only [keys, List.map_cons, List.map_nil, List.mem_cons, true_or, or_true])
      have hKn18_3 : pn1 < n18 := hKn18 _ (by simp only [keys, List.map_cons, List.map_nil, List.mem_cons, true_or, or_true])
      have hKn18_4 : jnn16 < n18 := hKn18 _ (by simp only [keys, List.map_cons, List.map_nil, List.mem_cons, true_or, or_true])
      have hKn18_5 : jp < n18 := hKn18 _ (by simp only [keys, List.map_cons, List.map_nil, List.mem_cons, true_or, or_true])
      have hKn18_6 : (n3 + 1) < n18 := hKn18 _ (by simp only [keys, List.map_cons, List.map_nil, List.mem_cons, true_or, or_true])
      have hKn18_7 : (n1 + 1) < n18 := hKn18 _ (by simp only [keys, List.map_cons, List.map_nil, List.mem_cons, true_or, or_true])
      have hKn18_8 : n3 < n18 := hKn18 _ (by simp only [keys, List.map_cons, List.map_nil, List.mem_cons, true_or, or_true])
      have hKn18_9 : jq < n18 := hKn18 _ (by simp only [keys, List.map_cons, List.map_nil, List.mem_cons, true_or, or_true])
      simp only [keys, List.map, List.forall_mem_cons, List.mem_cons, List.not_mem_nil, false_imp_iff, implies_true, and_true] at hKn18
      refine RA.seq hd ?_
      refine RA.seq hd ?_
      refine RA.region env_ok ?_
      refine OA.p (some 86) (.int .i64 ((k : Nat) : Int)) rfl rfl rfl rfl ?_
      refine OA.p (some 87) (.slice (some ⟨jan17, 0, none⟩) (K + 1) 2) rfl rfl rfl rfl ?_
      refine OA.p (some 88) (.int .i64 (((K + 1) : Nat) : Int)) rfl rfl rfl rfl ?_
      by_cases hc7 : ((k : Nat) : Int) < (((K + 1) : Nat) : Int)
      ·
       have hs1 := szP_tk (i := k) hszq (by omega)
       have hs2 := hszq _ (getD_mem (d := dPrt) (l := (q ++ [c])) (i := k) (by omega))
       refine OA.p (some 89) (.bool true) rfl rfl rfl (Eq.trans (r_bin rfl rfl rfl (b_lss rfl)) (dT hc7)) ?_
       refine OA.nil ?_
       intro _
       refine RA.condT rfl ?_
       refine RA.skip env_ok ?_
       intro _
       refine RA.seq hd ?_
       refine RA.block ?_
       refine RA.region env_ok ?_
       refine OA.p (some 92) (.int .i64 (((szP ((q ++ [c]).take k)) : Nat) : Int)) rfl rfl rfl rfl ?_
       refine OA.p (some 93) (.slice (some ⟨jan17, 0, none⟩) (K + 1) 2) rfl rfl rfl rfl ?_
       refine OA.p (some 94) (.int .i64 ((k : Nat) : Int)) rfl rfl rfl rfl ?_
       refine OA.p (some 95) (Pt jan17 k 0) rfl rfl rfl (r_iaS (l := k) rfl rfl rfl rfl rfl rfl (by omega) (by omega) (get_there (by omega) get_here) rfl (by omega)) ?_
       refine OA.p (some 96) (Pt jan17 k 6) rfl rfl rfl rfl ?_
       refine OA.p (some 97) (.string ((q ++ [c]).getD k dPrt).data) rfl rfl rfl (r_loadF (c := cPrt) dPrt rfl rfl rfl rfl rfl (get_there (by omega) get_here) (by have := (show (q ++ [c]).length = K + 1 from by rw [List.length_append, hql]; rfl); omega) rfl) ?_
       refine OA.p (some 98) (.int .i64 ((((q ++ [c]).getD k dPrt).data.size : Nat) : Int)) rfl rfl rfl rfl ?_
       refine OA.p (some 99) (.int .i64 ((((szP ((q ++ [c]).take k)) + ((q ++ [c]).getD k dPrt).data.size) : Nat) : Int)) rfl rfl rfl (r_bin rfl rfl rfl (b_add (i64_eq (by omega)))) ?_
       refine OA.p (some 17) (.int .i64 ((((szP ((q ++ [c]).take k)) + ((q ++ [c]).getD k dPrt).data.size) : Nat) : Int)) rfl rfl rfl rfl ?_
       refine OA.nil ?_
       intro _
       refine RA.region env_ok ?_
       refine OA.p (some 90) (.int .i64 ((k : Nat) : Int)) rfl rfl rfl rfl ?_
       refine OA.p (some 91) (.int .i64 (((k + 1) : Nat) : Int)) rfl rfl rfl (r_bin rfl rfl rfl (b_add (i64_eq (by omega)))) ?_
       refine OA.p (some 18) (.int .i64 (((k + 1) : Nat) : Int)) rfl rfl rfl rfl ?_
       refine OA.nil ?_
       refine ⟨((K + 1) - (k + 1)), by omega, [(n17, some ⟨[[(.int .i64 0), (.int .i64 0), (.bool false), (.int .u32 0), (.string ByteArray.empty)]], 5, 29, true⟩), (jan17, some (oPrt (q ++ [c]))), (n16, some ⟨[[(.int .i64 0), (.int .i64 0), (.bool false), (.int .u32 0), (.string ByteArray.empty)]], 5, 29, true⟩), (pn1, some ⟨[[(.slice (some ⟨jnn16, 0, none⟩) (K + 1) 2)]], 1, 122, true⟩), (jnn16, some (oPrt (insL ps (ps.findIdx (lsP c)) c))), (jp, none), ((n3 + 1), some ⟨[(cPrt c)], 15, 54, true⟩), ((n1 + 1), some (oBo (sn.set (andN (prs.getD i dPart).far 63) (Bo.mk true)))), (n3, some ⟨[(cPart (prs.getD i dPart))], 4, 71, true⟩), (jq, some (oPrt q))], (Less.refl _ _ _), (k + 1), rfl, by omega, ⟨rfl, rfl, rfl, rfl, rfl, rfl, rfl, rfl, rfl, rfl, (by show Value.int _ _ = Value.int _ _; rw [szP_snoc (by omega)]), rfl, trivial⟩, rfl, (kb10 (by omega)), by omega⟩
      ·
       refine OA.p (some 89) (.bool false) rfl rfl rfl (Eq.trans (r_bin rfl rfl rfl (b_lss rfl)) (dF hc7)) ?_
       refine OA.nil ?_
       intro _
       refine RA.condF rfl ?_
       refine RA.exit env_ok ?_
       intro _
       rw [szP_all (l := (q ++ [c])) (i := k) (by omega)]
       refine RA.seq hd ?_
       refine RA.region env_ok ?_
       refine OA.p (some 100) (.bool false) rfl rfl rfl rfl ?_
       refine OA.p (some 101) (.bool false) rfl rfl rfl rfl ?_
       refine OA.p (some 102) (.bool false) rfl rfl rfl rfl ?_
       refine OA.p (some 103) (.bool false) rfl rfl rfl rfl ?_
       refine OA.p (some 104) (.agg ⟨[(.int .i64 0), (.int .i64 0), (.bool false), (.int .u32 0), (.string ByteArray.empty)]⟩) rfl rfl rfl (r_loadA rfl rfl rfl rfl (gt2 (by omega) get_here) rfl rfl rfl) ?_
       refine OA.p (some 105) (.agg ⟨[(.int .i64 0), (.int .i64 0), (.bool false), (.int .u32 0), (.string ByteArray.empty)]⟩) rfl rfl rfl (r_loadA rfl rfl rfl rfl get_here rfl rfl rfl) ?_
       refine OA.p (some 106) (.bool false) rfl rfl rfl (r_neqA (r := true) rfl rfl rfl (by kernel_rfl) (aeq_self _ _ _ (by kernel_rfl))) ?_
       refine OA.p (some 107) (.bool false) rfl rfl rfl rfl ?_
       refine OA.p (some 108) (.bool false) rfl rfl rfl rfl ?_
       refine OA.p (some 109) (Pt pn1 0 0) rfl rfl rfl rfl ?_
       refine OA.callP (dst := (some 110)) (all := [(Pt pn1 0 0)]) (v := (.int .i64 (((K + 1) : Nat) : Int))) (hd.of (by omega) (kb10 (by omega))) rfl rfl rfl rfl rfl rfl rfl rfl (sLen pn1 jnn16 (K + 1) (gt3 (by omega) get_here)) ?_
       intro n19 hn19
       refine OA.p (some 111) (.slice (some ⟨jan17, 0, none⟩) (K + 1) 2) rfl rfl rfl rfl ?_
       refine OA.p (some 112) (.int .i64 (((K + 1) : Nat) : Int)) rfl rfl rfl rfl ?_
       refine OA.p (some 113) (.bool false) rfl rfl rfl (r_bin rfl rfl rfl (b_neq (decide_eq_false (fun h => h rfl)))) ?_
       refine OA.p (some 114) (.bool false) rfl rfl rfl rfl ?_
       refine OA.p (some 115) (.bool false) rfl rfl rfl rfl ?_
       refine OA.p (some 116) (Pt pn1 0 0) rfl rfl rfl rfl ?_
       refine OA.callP (dst := (some 117)) (all := [(Pt pn1 0 0)]) (v := (.int .i64 (((szP (q ++ [c])) : Nat) : Int))) (hd.of (by omega) (kb10 (by omega))) rfl rfl rfl rfl rfl rfl rfl rfl (PS.to (sBytes pn1 jnn16 (K + 1) (insL ps (ps.findIdx (lsP c)) c) (show (insL ps (ps.findIdx (lsP c)) c).length = K + 1 from by rw [insL_len, hpsl]) (by omega) (fun x hx => (ins_mem.1 hx).elim (fun e => by rw [e]; exact hcd) (hszp x)) (gt3 (by omega) get_here) (gt4 (by omega) get_here)) (congrArg (fun z : Nat => Value.int .i64 (z : Int)) (szP_perm (rs_all hperm)))) ?_
       intro n20 hn20
       refine OA.p (some 118) (.int .i64 (((szP (q ++ [c])) : Nat) : Int)) rfl rfl rfl rfl ?_
       refine OA.p (some 119) (.bool false) rfl rfl rfl (r_bin rfl rfl rfl (b_neq (decide_eq_false (fun h => h rfl)))) ?_
       refine OA.p (some 120) (.bool false) rfl rfl rfl rfl ?_
       refine OA.nil ?_
       intro _
       refine RA.rebase [(0, (W tsn)), (1, va), (5, (Pt pn1 0 0)), (6, (.slice (some ⟨jan17, 0, none⟩) (K + 1) 2)), (7, (.slice (some ⟨(n1 + 1), 0, none⟩) 64 0)), (8, (.int .i64 ((i : Nat) : Int))), (12, (Pt n16 0 0)), (13, (.bool false)), (15, (Pt n17 0 0)), (16, (.bool false)), (17, (.int .i64 (((szP (q ++ [c])) : Nat) : Int))), (18, (.int .i64 ((k : Nat) : Int))), (89, (.bool false)), (120, (.bool false))] ⟨rfl, rfl, rfl, rfl, rfl, rfl, rfl, rfl, rfl, rfl, rfl, rfl, rfl, rfl, trivial⟩ (fun τr21 => ?_)
       refine RA.condF rfl ?_
       refine RA.skip env_ok ?_
       intro _
       refine RA.region env_ok ?_
       refine OA.p (some 32) (.int .i64 ((i : Nat) : Int)) rfl rfl rfl rfl ?_
       refine OA.p (some 33) (.int .i64 (((i + 1) : Nat) : Int)) rfl rfl rfl (r_bin rfl rfl rfl (b_add (i64_eq (by omega)))) ?_
       refine OA.p (some 8) (.int .i64 (((i + 1) : Nat) : Int)) rfl rfl rfl rfl ?_
       refine OA.nil ?_
       refine ⟨50 - (i + 1), by omega, [(pn1, some ⟨[[(.slice (some ⟨jnn16, 0, none⟩) (K + 1) 2)]], 1, 122, true⟩), (jnn16, some (oPrt (insL ps (ps.findIdx (lsP c)) c))), (jan17, some (oPrt (q ++ [c]))), ((n1 + 1), some (oBo (sn.set (andN (prs.getD i dPart).far 63) (Bo.mk true))))], (Less.of (fac (mm (fun _ => get_here) (fun _ => (gt3 (by omega) get_here))) (fac (mm (fun _ => (get_there (by omega) get_here)) (fun _ => (gt4 (by omega) get_here))) (fac (mm (fun _ => (gt2 (by omega) get_here)) (fun _ => (get_there (by omega) get_here))) (fac (mm (fun _ => (gt3 (by omega) get_here)) (fun _ => (gt7 (by omega) get_here))) fan)))) (gone_of (by simp only [goneP, memP, List.cons_append, List.nil_append, true_or, or_true, true_and, and_true, or_false] <;> omega))), ⟨(i + 1), (K + 1), (insL ps (ps.findIdx (lsP c)) c), (q ++ [c]), jnn16, jan17, (sn.set (andN (prs.getD i dPart).far 63) (Bo.mk true)), rfl, by omega, ⟨rfl, rfl, rfl, rfl, rfl, rfl, trivial⟩, rfl, (kb4 (by omega)), ⟨by omega, show (insL ps (ps.findIdx (lsP c)) c).length = K + 1 from by rw [insL_len, hpsl], show (q ++ [c]).length = K + 1 from by rw [List.length_append, hql]; rfl, by omega, (srt_new hsrt hcf64 hnew), (rs_all hperm), (by rw [List.length_set]; exact hsnl), seen_more hsnl hcf (by omega) hsn (fun x hx => ins_mem.1 hx), (fun x hx => (ins_mem.1 hx).elim (fun e => by rw [e]; exact hcd) (hszp x)), by omega, by omega, by omega, by omega, by omega, by omega, by omega⟩⟩⟩
    ·
     obtain ⟨g, u, hA, hgu, huK, hB, hF, hsrt', hperm'⟩ := rs_some hsrt hperm hpsl hcf64 hnew hc4
     refine OA.call (dst := (some 75)) (all := (xRs62 pn1 c)) rfl rfl rfl rfl rfl rfl rfl rfl (CQ.imp (sAddY (hd.of (by omega) (kb6 (by omega))) pn1 jp K ps hpsl (by omega) (by omega) c g u hA hgu huK hszp hcd (gt3 (by omega) get_here) (gt4 (by omega) get_here)) ?_)
     rintro _ n22 _ ⟨jnn22, p1n22, p2n22, rfl, rfl⟩ hn22
     show OA _ _ _ _ _ _ _ _ [(pn1, some ⟨[[(.slice (some ⟨jnn22, 0, none⟩) (K + 1 - (u + 1 - g)) 2)]], 1, 122, true⟩), (jnn22, some (oPrt ((insL ps (ps.findIdx (lsP c)) c).take g ++ (insL ps (ps.findIdx (lsP c)) c).drop (u + 1)))), (jp, none), ((n3 + 1), some ⟨[(cPrt c)], 15, 54, true⟩), ((n1 + 1), some (oBo (sn.set (andN (prs.getD i dPart).far 63) (Bo.mk true)))), (n3, some ⟨[(cPart (prs.getD i dPart))], 4, 71, true⟩), (pn1, some ⟨[[(.slice (some ⟨jp, 0, none⟩) K 2)]], 1, 122, true⟩), (jp, some (oPrt ps)), (jq, some (oPrt q))] _
     refine OA.p (some 72) (.tuple ⟨[(.agg ⟨(cMsg (mkM c ((insL ps (ps.findIdx (lsP c)) c).getD g dPrt).proto (dcat ByteArray.empty (((insL ps (ps.findIdx (lsP c)) c).drop g).take (u + 1 - g)))))⟩), (.bool true)]⟩) rfl rfl rfl rfl ?_
     refine OA.p (some 76) (.agg ⟨(cMsg (mkM c ((insL ps (ps.findIdx (lsP c)) c).getD g dPrt).proto (dcat ByteArray.empty (((insL ps (ps.findIdx (lsP c)) c).drop g).take (u + 1 - g)))))⟩) rfl rfl rfl rfl ?_
     refine OA.p (some 77) (.bool true) rfl rfl rfl rfl ?_
     refine OA.op1 (dst := (some 12)) (v := (Pt n22 0 0)) (n1 := (n22 + 1)) (w := (n22, some ⟨[[(.int .i64 0), (.int .i64 0), (.bool false), (.int .u32 0), (.string ByteArray.empty)]], 5, 29, true⟩)) rfl rfl rfl rfl (by omega) ?_
     refine OA.op1 (dst := none) (v := (.tuple #[])) (n1 := (n22 + 1)) (w := (n22, some ⟨[(cMsg (mkM c ((insL ps (ps.findIdx (lsP c)) c).getD g dPrt).proto (dcat ByteArray.empty (((insL ps (ps.findIdx (lsP c)) c).drop g).take (u + 1 - g)))))], 5, 29, true⟩)) rfl rfl rfl (r_store rfl rfl rfl rfl rfl rfl rfl get_here rfl rfl (Nat.le_of_ble_eq_true rfl) rfl) (by omega) ?_
     refine OA.p (some 13) (.bool true) rfl rfl rfl rfl ?_
     refine OA.nil ?_
     intro _
     refine RA.weaken (D' := [(n22, some ⟨[(cMsg (mkM c ((insL ps (ps.findIdx (lsP c)) c).getD g dPrt).proto (dcat ByteArray.empty (((insL ps (ps.findIdx (lsP c)) c).drop g).take (u + 1 - g)))))], 5, 29, true⟩), (pn1, some ⟨[[(.slice (some ⟨jnn22, 0, none⟩) (K + 1 - (u + 1 - g)) 2)]], 1, 122, true⟩), (jnn22, some (oPrt ((insL ps (ps.findIdx (lsP c)) c).take g ++ (insL ps (ps.findIdx (lsP c)) c).drop (u + 1)))), (jp, none), ((n3 + 1), some ⟨[(cPrt c)], 15, 54, true⟩), ((n1 + 1), some (oBo (sn.set (andN (prs.getD i dPart).far 63) (Bo.mk true)))), (n3, some ⟨[(cPart (prs.getD i dPart))], 4, 71, true⟩), (jq, some (oPrt q))]) hd (Less.of (fac (mm (fun _ => get_here) (fun _ => get_here)) (fac (mm (fun _ => (get_there (by omega) get_here)) (fun _ => (gt2 (by omega) get_here))) (fac (mm (fun _ => (gt2 (by omega) get_here)) (fun _ => (gt3 (by omega) get_here))) (fac (mm (fun _ => (gt3 (by omega) get_here)) (fun _ => (gt4 (by omega) get_here))) (fac (mm (fun _ => (gt4 (by omega) get_here)) (fun _ => (gt5 (by omega) get_here))) (fac (mm (fun _ => (gt5 (by omega) get_here)) (fun _ => (gt6 (by omega) get_here))) (fac (mm (fun _ => (gt6 (by omega) get_here)) (fun _ => (gt7 (by omega) get_here))) (fac (mm (fun _ => (gt7 (by omega) get_here)) (fun _ => (gt10 (by omega) get_here))) fan)))))))) (gone_of (by simp only [goneP, memP, List.cons_append, List.nil_append, true_or, or_true, true_and, and_true, or_false] <;> omega))) ?_
     refine RA.seq hd ?_
     refine RA.region env_ok ?_
     refine OA.p (some 79) (.slice (some ⟨jq, 0, none⟩) K 2) rfl rfl rfl rfl ?_
     refine OA.p (some 80) (.agg ⟨(xRs64 c)⟩) rfl rfl rfl (r_loadA rfl rfl rfl rfl (gt4 (by omega) get_here) rfl rfl rfl) ?_
     refine OA.call (dst := (some 81)) (all := (xRs63 jq K c)) rfl rfl rfl rfl rfl rfl rfl rfl (CQ.imp (sRefY (hd.of (by omega) (kb8 (by omega))) jq K q hql (by omega) c hsza hcd ((insL ps (ps.findIdx (lsP c)) c).getD g dPrt) hB ((insL ps (ps.findIdx (lsP c)) c).getD u dPrt) (dcat ByteArray.empty (((insL ps (ps.findIdx (lsP c)) c).drop g).take (u + 1 - g))) hF (gt7 (by omega) get_here)) ?_)
     rintro _ n23 _ ⟨jan23, Mn23, p1n23, p2n23, hmn23, p3n23, rfl, rfl⟩ hn23
     refine OA.app1 ?_
     have hMn23 : Mn23 = (K + 1 - (u + 1 - g)) := by rw [← hmn23, ← hperm'.length_eq]; exact cut_len (by rw [insL_len, hpsl]) hgu huK
     subst hMn23
     refine OA.p (some 78) (.tuple ⟨[(.slice (some ⟨jan23, 0, none⟩) (K + 1 - (u + 1 - g)) 2), (.agg ⟨(cMsg (mkM c ((insL ps (ps.findIdx (lsP c)) c).getD g dPrt).proto (dcat ByteArray.empty (((insL ps (ps.findIdx (lsP c)) c).drop g).take (u + 1 - g)))))⟩), (.bool true)]⟩) rfl rfl rfl rfl ?_
     refine OA.p (some 82) (.slice (some ⟨jan23, 0, none⟩) (K + 1 - (u + 1 - g)) 2) rfl rfl rfl rfl ?_
     refine OA.p (some 83) (.agg ⟨(cMsg (mkM c ((insL ps (ps.findIdx (lsP c)) c).getD g dPrt).proto (dcat ByteArray.empty (((insL ps (ps.findIdx (lsP c)) c).drop g).take (u + 1 - g)))))⟩) rfl rfl rfl rfl ?_
     refine OA.p (some 84) (.bool true) rfl rfl rfl rfl ?_
     refine OA.op1 (dst := (some 15)) (v := (Pt n23 0 0)) (n1 := (n23 + 1)) (w := (n23, some ⟨[[(.int .i64 0), (.int .i64 0), (.bool false), (.int .u32 0), (.string ByteArray.empty)]], 5, 29, true⟩)) rfl rfl rfl rfl (by omega) ?_
     refine OA.p (some 14) (.slice (some ⟨jan23, 0, none⟩) (K + 1 - (u + 1 - g)) 2) rfl rfl rfl rfl ?_
     refine OA.op1 (dst := none) (v := (.tuple #[])) (n1 := (n23 + 1)) (w := (n23, some ⟨[(cMsg (mkM c ((insL ps (ps.findIdx (lsP c)) c).getD g dPrt).proto (dcat ByteArray.empty (((insL ps (ps.findIdx (lsP c)) c).drop g).take (u + 1 - g)))))], 5, 29, true⟩)) rfl rfl rfl (r_store rfl rfl rfl rfl rfl rfl rfl get_here rfl rfl (Nat.le_of_ble_eq_true rfl) rfl) (by omega) ?_
     refine OA.p (some 16) (.bool true) rfl rfl rfl rfl ?_
     refine OA.nil ?_
     intro _
     refine RA.weaken (D' := [(n23, some ⟨[(cMsg (mkM c ((insL ps (ps.findIdx (lsP c)) c).getD g dPrt).proto (dcat ByteArray.empty (((insL ps (ps.findIdx (lsP c)) c).drop g).take (u + 1 - g)))))], 5, 29, true⟩), (jan23, some (oPrt ((q ++ [c]).filter (keepP ((insL ps (ps.findIdx (lsP c)) c).getD g dPrt) ((insL ps (ps.findIdx (lsP c)) c).getD u dPrt))))), (n22, some ⟨[(cMsg (mkM c ((insL ps (ps.findIdx (lsP c)) c).getD g dPrt).proto (dcat ByteArray.empty (((insL ps (ps.findIdx (lsP c)) c).drop g).take (u + 1 - g)))))], 5, 29, true⟩), (pn1, some ⟨[[(.slice (some ⟨jnn22, 0, none⟩) (K + 1 - (u + 1 - g)) 2)]], 1, 122, true⟩), (jnn22, some (oPrt ((insL ps (ps.findIdx (lsP c)) c).take g ++ (insL ps (ps.findIdx (lsP c)) c).drop (u + 1)))), (jp, none), ((n3 + 1), some ⟨[(cPrt c)], 15, 54, true⟩), ((n1 + 1), some (oBo (sn.set (andN (prs.getD i dPart).far 63) (Bo.mk true)))), (n3, some ⟨[(cPart (prs.getD i dPart))], 4, 71, true⟩), (jq, some (oPrt q))]) hd (Less.of (fac (mm (fun _ => get_here) (fun _ => get_here)) (fac (mm (fun _ => (get_there (by omega) get_here)) (fun _ => (gt2 (by omega) get_here))) (fac (mm (fun _ => (gt2 (by omega) get_here)) (fun _ => (gt3 (by omega) get_here))) (fac (mm (fun _ => (gt3 (by omega) get_here)) (fun _ => (gt4 (by omega) get_here))) (fac (mm (fun _ => (gt4 (by omega) get_here)) (fun _ => (gt5 (by omega) get_here))) (fac (mm (fun _ => (gt5 (by omega) get_here)) (fun _ => (gt6 (by omega) get_here))) (fac (mm (fun _ => (gt6 (by omega) get_here)) (fun _ => (gt7 (by omega) get_here))) (fac (mm (fun _ => (gt7 (by omega) get_here)) (fun _ => (gt8 (by omega) get_here))) (fac (mm (fun _ => (gt8 (by omega) get_here)) (fun _ => (gt9 (by omega) get_here))) (fac (mm (fun _ => (gt9 (by omega) get_here)) (fun _ => (gt10 (by omega) get_here))) fan)))))))))) (gone_of (by simp only [goneP, memP, List.cons_append, List.nil_append, true_or, or_true, true_and, and_true, or_false] <;> omega))) ?_
     refine RA.seq hd ?_
     refine RA.region env_ok ?_
     refine OA.p (some 85) (.slice (some ⟨jan23, 0, none⟩) (K + 1 - (u + 1 - g)) 2) rfl rfl rfl rfl ?_
     refine OA.p (some 6) (.slice (some ⟨jan23, 0, none⟩) (K + 1 - (u + 1 - g)) 2) rfl rfl rfl rfl ?_
     refine OA.nil ?_
     intro _
     refine RA.seq hd ?_
     refine RA.region env_ok ?_
     refine OA.p (some 17) (.int .i64 0) rfl rfl rfl rfl ?_
     refine OA.nil ?_
     intro _
     refine RA.seq hd ?_
     refine RA.seq hd ?_
     refine RA.region env_ok ?_
     refine OA.p (some 18) (.int .i64 0) rfl rfl rfl rfl ?_
     refine OA.nil ?_
     intro _
     refine RA.block ?_
     have hszq : ∀ x ∈ ((q ++ [c]).filter (keepP ((insL ps (ps.findIdx (lsP c)) c).getD g dPrt) ((insL ps (ps.findIdx (lsP c)) c).getD u dPrt))), x.data.size ≤ 6 := fun x hx => (fun x hx => (ins_mem.1 ((List.mem_append.1 hx).elim List.mem_of_mem_take List.mem_of_mem_drop)).elim (fun e => by rw [e]; exact hcd) (hszp x)) x (hperm'.mem_iff.2 hx)
     have hXl : ((q ++ [c]).filter (keepP ((insL ps (ps.findIdx (lsP c)) c).getD g dPrt) ((insL ps (ps.findIdx (lsP c)) c).getD u dPrt))).length = (K + 1 - (u + 1 - g)) := show ((q ++ [c]).filter (keepP ((insL ps (ps.findIdx (lsP c)) c).getD g dPrt) ((insL ps (ps.findIdx (lsP c)) c).getD u dPrt))).length = (K + 1 - (u + 1 - g)) from hmn23
     refine RA.loop hd (fun kk_ τ n' D => ∃ k : Nat,  kk_ = ((K + 1 - (u + 1 - g)) - k) ∧ (n23 + 1) ≤ n' ∧ Has τ [(0, (W tsn)), (1, va), (5, (Pt pn1 0 0)), (6, (.slice (some ⟨jan23, 0, none⟩) (K + 1 - (u + 1 - g)) 2)), (7, (.slice (some ⟨(n1 + 1), 0, none⟩) 64 0)), (8, (.int .i64 ((i : Nat) : Int))), (12, (Pt n22 0 0)), (13, (.bool true)), (15, (Pt n23 0 0)), (16, (.bool true)), (17, (.int .i64 (((szP (((q ++ [c]).filter (keepP ((insL ps (ps.findIdx (lsP c)) c).getD g dPrt) ((insL ps (ps.findIdx (lsP c)) c).getD u dPrt))).take k)) : Nat) : Int))), (18, (.int .i64 ((k : Nat) : Int)))] ∧ D = [(n23, some ⟨[(cMsg (mkM c ((insL ps (ps.findIdx (lsP c)) c).getD g dPrt).proto (dcat ByteArray.empty (((insL ps (ps.findIdx (lsP c)) c).drop g).take (u + 1 - g)))))], 5, 29, true⟩), (jan23, some (oPrt ((q ++ [c]).filter (keepP ((insL ps (ps.findIdx (lsP c)) c).getD g dPrt) ((insL ps (ps.findIdx (lsP c)) c).getD u dPrt))))), (n22, some ⟨[(cMsg (mkM c ((insL ps (ps.findIdx (lsP c)) c).getD g dPrt).proto (dcat ByteArray.empty (((insL ps (ps.findIdx (lsP c)) c).drop g).take (u + 1 - g)))))], 5, 29, true⟩), (pn1, some ⟨[[(.slice (some ⟨jnn22, 0, none⟩) (K + 1 - (u + 1 - g)) 2)]], 1, 122, true⟩), (jnn22, some (oPrt ((insL ps (ps.findIdx (lsP c)) c).take g ++ (insL ps (ps.findIdx (lsP c)) c).drop (u + 1)))), (jp, none), ((n3 + 1), some ⟨[(cPrt c)], 15, 54, true⟩), ((n1 + 1), some (oBo (sn.set (andN (prs.getD i dPart).far 63) (Bo.mk true)))), (n3, some ⟨[(cPart (prs.getD i dPart))], 4, 71, true⟩), (jq, some (oPrt q))] ∧ (∀ i ∈ keys D, i < n') ∧ k ≤ (K + 1 - (u + 1 - g))) (((K + 1 - (u + 1 - g)) - 0)) ⟨0, rfl, by omega, ⟨rfl, rfl, rfl, rfl, rfl, rfl, rfl, rfl, rfl, rfl, (by rfl), rfl, trivial⟩, rfl, (kb10 (by omega)), by omega⟩ ?_
     rintro kn24 τ24 n24 _ ⟨k, rfl, hn24, hHn24, rfl, hKn24, hIn24⟩
     rw [Has.eq hHn24]
     have hKn24_0 : n23 < n24 := hKn24 _ (by simp only [keys, List.map_cons, List.map_nil, List.mem_cons, true_or, or_true])
     have hKn24_1 : jan23 < n24 := hKn24 _ (by simp only [keys, List.map_cons, List.map_nil, List.mem_cons, true_or, or_true])
     have hKn24_2 : n22 < n24 := hKn24 _ (by simp only [keys, List.map_cons, List.map_nil, List.mem_cons, true_or, or_true])
     have hKn24_3 : pn1 < n24 := hKn24 _ (by simp only [keys, List.map_cons, List.map_nil, List.mem_cons, true_or, or_true])
     have hKn24_4 : jnn22 < n24 := hKn24 _ (by simp only [keys, List.map_cons, List.map_nil, List.mem_cons, true_or, or_true])
     have hKn24_5 : jp < n24 := hKn24 _ (by simp only [keys, List.map_cons, List.map_nil, List.mem_cons, true_or, or_true])
     have hKn24_6 : (n3 + 1) < n24 := hKn24 _ (by simp only [keys, List.map_cons, List.map_nil, List.mem_cons, true_or, or_true])
     have hKn24_7 : (n1 + 1) < n24 := hKn24 _ (by simp only [keys, List.map_cons, List.map_nil, List.mem_cons, true_or, or_true])
     have hKn24_8 : n3 < n24 := hKn24 _ (by simp only [keys, List.map_cons, List.map_nil, List.mem_cons, true_or, or_true])
     have hKn24_9 : jq < n24 := hKn24 _ (by simp only [keys, List.map_cons, List.map_nil, List.mem_cons, true_or, or_true])
     simp only [keys, List.map, List.forall_mem_cons, List.mem_cons, List.not_mem_nil, false_imp_iff, implies_true, and_true] at hKn24
     refine RA.seq hd ?_
     refine RA.seq hd ?_
     refine RA.region env_ok ?_
     refine OA.p (some 86) (.int .i64 ((k : Nat) : Int)) rfl rfl rfl rfl ?_
     refine OA.p (some 87) (.slice (some ⟨jan23, 0, none⟩) (K + 1 - (u + 1 - g)) 2) rfl rfl rfl rfl ?_
     refine OA.p (some 88) (.int .i64 (((K + 1 - (u + 1 - g)) : Nat) : Int)) rfl rfl rfl rfl ?_
     by_cases hc8 : ((k : Nat) : Int) < (((K + 1 - (u + 1 - g)) : Nat) : Int)
     ·
      have hs1 := szP_tk (i := k) hszq (by omega)
      have hs2 := hszq _ (getD_mem (d := dPrt) (l := ((q ++ [c]).filter (keepP ((insL ps (ps.findIdx (lsP c)) c).getD g dPrt) ((insL ps (ps.findIdx (lsP c)) c).getD u dPrt)))) (i := k) (by omega))
      refine OA.p (some 89) (.bool true) rfl rfl rfl (Eq.trans (r_bin rfl rfl rfl (b_lss rfl)) (dT hc8)) ?_
      refine OA.nil ?_
      intro _
      refine RA.condT rfl ?_
      refine RA.skip env_ok ?_
      intro _
      refine RA.seq hd ?_
      refine RA.block ?_
      refine RA.region env_ok ?_
      refine OA.p (some 92) (.int .i64 (((szP (((q ++ [c]).filter (keepP ((insL ps (ps.findIdx (lsP c)) c).getD g dPrt) ((insL ps (ps.findIdx (lsP c)) c).getD u dPrt))).take k)) : Nat) : Int)) rfl rfl rfl rfl ?_
      refine OA.p (some 93) (.slice (some ⟨jan23, 0, none⟩) (K + 1 - (u + 1 - g)) 2) rfl rfl rfl rfl ?_
      refine OA.p (some 94) (.int .i64 ((k : Nat) : Int)) rfl rfl rfl rfl ?_
      refine OA.p (some 95) (Pt jan23 k 0) rfl rfl rfl (r_iaS (l := k) rfl rfl rfl rfl rfl rfl (by omega) (by omega) (get_there (by omega) get_here) rfl (by omega)) ?_
      refine OA.p (some 96) (Pt jan23 k 6) rfl rfl rfl rfl ?_
      refine OA.p (some 97) (.string (((q ++ [c]).filter (keepP ((insL ps (ps.findIdx (lsP c)) c).getD g dPrt) ((insL ps (ps.findIdx (lsP c)) c).getD u dPrt))).getD k dPrt).data) rfl rfl rfl (r_loadF (c := cPrt) dPrt rfl rfl rfl rfl rfl (get_there (by omega) get_here) (by have := (show ((q ++ [c]).filter (keepP ((insL ps (ps.findIdx (lsP c)) c).getD g dPrt) ((insL ps (ps.findIdx (lsP c)) c).getD u dPrt))).length = (K + 1 - (u + 1 - g)) from hmn23); omega) rfl) ?_
      refine OA.p (some 98) (.int .i64 (((((q ++ [c]).filter (keepP ((insL ps (ps.findIdx (lsP c)) c).getD g dPrt) ((insL ps (ps.findIdx (lsP c)) c).getD u dPrt))).getD k dPrt).data.size : Nat) : Int)) rfl rfl rfl rfl ?_
      refine OA.p (some 99) (.int .i64 ((((szP (((q ++ [c]).filter (keepP ((insL ps (ps.findIdx (lsP c)) c).getD g dPrt) ((insL ps (ps.findIdx (lsP c)) c).getD u dPrt))).take k)) + (((q ++ [c]).filter (keepP ((insL ps (ps.findIdx (lsP c)) c).getD g dPrt) ((insL ps (ps.findIdx (lsP c)) c).getD u dPrt))).getD k dPrt).data.size) : Nat) : Int)) rfl rfl rfl (r_bin rfl rfl rfl (b_add (i64_eq (by omega)))) ?_
      refine OA.p (some 17) (.int .i64 ((((szP (((q ++ [c]).filter (keepP ((insL ps (ps.findIdx (lsP c)) c).getD g dPrt) ((insL ps (ps.findIdx (lsP c)) c).getD u dPrt))).take k)) + (((q ++ [c]).filter (keepP ((insL ps (ps.findIdx (lsP c)) c).getD g dPrt) ((insL ps (ps.findIdx (lsP c)) c).getD u dPrt))).getD k dPrt).data.size) : Nat) : Int)) rfl rfl rfl rfl ?_
      refine OA.nil ?_
      intro _
      refine RA.region env_ok ?_
      refine OA.p (some 90) (.int .i64 ((k : Nat) : Int)) rfl rfl rfl rfl ?_
      refine OA.p (some 91) (.int .i64 (((k + 1) : Nat) : Int)) rfl rfl rfl (r_bin rfl rfl rfl (b_add (i64_eq (by omega)))) ?_
      refine OA.p (some 18) (.int .i64 (((k + 1) : Nat) : Int)) rfl rfl rfl rfl ?_
      refine OA.nil ?_
      refine ⟨((K + 1 - (u + 1 - g)) - (k + 1)), by omega, [(n23, some ⟨[(cMsg (mkM c ((insL ps (ps.findIdx (lsP c)) c).getD g dPrt).proto (dcat ByteArray.empty (((insL ps (ps.findIdx (lsP c)) c).drop g).take (u + 1 - g)))))], 5, 29, true⟩), (jan23, some (oPrt ((q ++ [c]).filter (keepP ((insL ps (ps.findIdx (lsP c)) c).getD g dPrt) ((insL ps (ps.findIdx (lsP c)) c).getD u dPrt))))), (n22, some ⟨[(cMsg (mkM c ((insL ps (ps.findIdx (lsP c)) c).getD g dPrt).proto (dcat ByteArray.empty (((insL ps (ps.findIdx (lsP c)) c).drop g).take (u + 1 - g)))))], 5, 29, true⟩), (pn1, some ⟨[[(.slice (some ⟨jnn22, 0, none⟩) (K + 1 - (u + 1 - g)) 2)]], 1, 122, true⟩), (jnn22, some (oPrt ((insL ps (ps.findIdx (lsP c)) c).take g ++ (insL ps (ps.findIdx (lsP c)) c).drop (u + 1)))), (jp, none), ((n3 + 1), some ⟨[(cPrt c)], 15, 54, true⟩), ((n1 + 1), some (oBo (sn.set (andN (prs.getD i dPart).far 63) (Bo.mk true)))), (n3, some ⟨[(cPart (prs.getD i dPart))], 4, 71, true⟩), (jq, some (oPrt q))], (Less.refl _ _ _), (k + 1), rfl, by omega, ⟨rfl, rfl, rfl, rfl, rfl, rfl, rfl, rfl, rfl, rfl, (by show Value.int _ _ = Value.int _ _; rw [szP_snoc (by omega)]), rfl, trivial⟩, rfl, (kb10 (by omega)), by omega⟩
     ·
      refine OA.p (some 89) (.bool false) rfl rfl rfl (Eq.trans (r_bin rfl rfl rfl (b_lss rfl)) (dF hc8)) ?_
      refine OA.nil ?_
      intro _
      refine RA.condF rfl ?_
      refine RA.exit env_ok ?_
      intro _
      rw [szP_all (l := ((q ++ [c]).filter (keepP ((insL ps (ps.findIdx (lsP c)) c).getD g dPrt) ((insL ps (ps.findIdx (lsP c)) c).getD u dPrt)))) (i := k) (by omega)]
      refine RA.seq hd ?_
      refine RA.region env_ok ?_
      refine OA.p (some 100) (.bool true) rfl rfl rfl rfl ?_
      refine OA.p (some 101) (.bool true) rfl rfl rfl rfl ?_
      refine OA.p (some 102) (.bool false) rfl rfl rfl rfl ?_
      refine OA.p (some 103) (.bool false) rfl rfl rfl rfl ?_
      refine OA.p (some 104) (.agg ⟨[(.int .i64 (mkM c ((insL ps (ps.findIdx (lsP c)) c).getD g dPrt).proto (dcat ByteArray.empty (((insL ps (ps.findIdx (lsP c)) c).drop g).take (u + 1 - g)))).st), (.int .i64 (mkM c ((insL ps (ps.findIdx (lsP c)) c).getD g dPrt).proto (dcat ByteArray.empty (((insL ps (ps.findIdx (lsP c)) c).drop g).take (u + 1 - g)))).ssn), (.bool (mkM c ((insL ps (ps.findIdx (lsP c)) c).getD g dPrt).proto (dcat ByteArray.empty (((insL ps (ps.findIdx (lsP c)) c).drop g).take (u + 1 - g)))).loose), (W (mkM c ((insL ps (ps.findIdx (lsP c)) c).getD g dPrt).proto (dcat ByteArray.empty (((insL ps (ps.findIdx (lsP c)) c).drop g).take (u + 1 - g)))).proto), (.string (mkM c ((insL ps (ps.findIdx (lsP c)) c).getD g dPrt).proto (dcat ByteArray.empty (((insL ps (ps.findIdx (lsP c)) c).drop g).take (u + 1 - g)))).data)]⟩) rfl rfl rfl (r_loadA rfl rfl rfl rfl (gt2 (by omega) get_here) rfl rfl rfl) ?_
      refine OA.p (some 105) (.agg ⟨[(.int .i64 (mkM c ((insL ps (ps.findIdx (lsP c)) c).getD g dPrt).proto (dcat ByteArray.empty (((insL ps (ps.findIdx (lsP c)) c).drop g).take (u + 1 - g)))).st), (.int .i64 (mkM c ((insL ps (ps.findIdx (lsP c)) c).getD g dPrt).proto (dcat ByteArray.empty (((insL ps (ps.findIdx (lsP c)) c).drop g).take (u + 1 - g)))).ssn), (.bool (mkM c ((insL ps (ps.findIdx (lsP c)) c).getD g dPrt).proto (dcat ByteArray.empty (((insL ps (ps.findIdx (lsP c)) c).drop g).take (u + 1 - g)))).loose), (W (mkM c ((insL ps (ps.findIdx (lsP c)) c).getD g dPrt).proto (dcat ByteArray.empty (((insL ps (ps.findIdx (lsP c)) c).drop g).take (u + 1 - g)))).proto), (.string (mkM c ((insL ps (ps.findIdx (lsP c)) c).getD g dPrt).proto (dcat ByteArray.empty (((insL ps (ps.findIdx (lsP c)) c).drop g).take (u + 1 - g)))).data)]⟩) rfl rfl rfl (r_loadA rfl rfl rfl rfl get_here rfl rfl rfl) ?_
      refine OA.p (some 106) (.bool false) rfl rfl rfl (r_neqA (r := true) rfl rfl rfl (by kernel_rfl) (aeq_self _ _ _ (by kernel_rfl))) ?_
      refine OA.p (some 107) (.bool false) rfl rfl rfl rfl ?_
      refine OA.p (some 108) (.bool false) rfl rfl rfl rfl ?_
      refine OA.p (some 109) (Pt pn1 0 0) rfl rfl rfl rfl ?_
      refine OA.callP (dst := (some 110)) (all := [(Pt pn1 0 0)]) (v := (.int .i64 (((K + 1 - (u + 1 - g)) : Nat) : Int))) (hd.of (by omega) (kb10 (by omega))) rfl rfl rfl rfl rfl rfl rfl rfl (sLen pn1 jnn22 (K + 1 - (u + 1 - g)) (gt3 (by omega) get_here)) ?_
      intro n25 hn25
      refine OA.p (some 111) (.slice (some ⟨jan23, 0, none⟩) (K + 1 - (u + 1 - g)) 2) rfl rfl rfl rfl ?_
      refine OA.p (some 112) (.int .i64 (((K + 1 - (u + 1 - g)) : Nat) : Int)) rfl rfl rfl rfl ?_
      refine OA.p (some 113) (.bool false) rfl rfl rfl (r_bin rfl rfl rfl (b_neq (decide_eq_false (fun h => h rfl)))) ?_
      refine OA.p (some 114) (.bool false) rfl rfl rfl rfl ?_
      refine OA.p (some 115) (.bool false) rfl rfl rfl rfl ?_
      refine OA.p (some 116) (Pt pn1 0 0) rfl rfl rfl rfl ?_
      refine OA.callP (dst := (some 117)) (all := [(Pt pn1 0 0)]) (v := (.int .i64 (((szP ((q ++ [c]).filter (keepP ((insL ps (ps.findIdx (lsP c)) c).getD g dPrt) ((insL ps (ps.findIdx (lsP c)) c).getD u dPrt)))) : Nat) : Int))) (hd.of (by omega) (kb10 (by omega))) rfl rfl rfl rfl rfl rfl rfl rfl (PS.to (sBytes pn1 jnn22 (K + 1 - (u + 1 - g)) ((insL ps (ps.findIdx (lsP c)) c).take g ++ (insL ps (ps.findIdx (lsP c)) c).drop (u + 1)) (show ((insL ps (ps.findIdx (lsP c)) c).take g ++ (insL ps (ps.findIdx (lsP c)) c).drop (u + 1)).length = (K + 1 - (u + 1 - g)) from cut_len (by rw [insL_len, hpsl]) hgu huK) (by omega) (fun x hx => (ins_mem.1 ((List.mem_append.1 hx).elim List.mem_of_mem_take List.mem_of_mem_drop)).elim (fun e => by rw [e]; exact hcd) (hszp x)) (gt3 (by omega) get_here) (gt4 (by omega) get_here)) (congrArg (fun z : Nat => Value.int .i64 (z : Int)) (szP_perm hperm'))) ?_
      intro n26 hn26
      refine OA.p (some 118) (.int .i64 (((szP ((q ++ [c]).filter (keepP ((insL ps (ps.findIdx (lsP c)) c).getD g dPrt) ((insL ps (ps.findIdx (lsP c)) c).getD u dPrt)))) : Nat) : Int)) rfl rfl rfl rfl ?_
      refine OA.p (some 119) (.bool false) rfl rfl rfl (r_bin rfl rfl rfl (b_neq (decide_eq_false (fun h => h rfl)))) ?_
      refine OA.p (some 120) (.bool false) rfl rfl rfl rfl ?_
      refine OA.nil ?_
      intro _
      refine RA.rebase [(0, (W tsn)), (1, va), (5, (Pt pn1 0 0)), (6, (.slice (some ⟨jan23, 0, none⟩) (K + 1 - (u + 1 - g)) 2)), (7, (.slice (some ⟨(n1 + 1), 0, none⟩) 64 0)), (8, (.int .i64 ((i : Nat) : Int))), (12, (Pt n22 0 0)), (13, (.bool true)), (15, (Pt n23 0 0)), (16, (.bool true)), (17, (.int .i64 (((szP ((q ++ [c]).filter (keepP ((insL ps (ps.findIdx (lsP c)) c).getD g dPrt) ((insL ps (ps.findIdx (lsP c)) c).getD u dPrt)))) : Nat) : Int))), (18, (.int .i64 ((k : Nat) : Int))), (89, (.bool false)), (120, (.bool false))] ⟨rfl, rfl, rfl, rfl, rfl, rfl, rfl, rfl, rfl, rfl, rfl, rfl, rfl, rfl, trivial⟩ (fun τr27 => ?_)
      refine RA.condF rfl ?_
      refine RA.skip env_ok ?_
      intro _
      refine RA.region env_ok ?_
      refine OA.p (some 32) (.int .i64 ((i : Nat) : Int)) rfl rfl rfl rfl ?_
      refine OA.p (some 33) (.int .i64 (((i + 1) : Nat) : Int)) rfl rfl rfl (r_bin rfl rfl rfl (b_add (i64_eq (by omega)))) ?_
      refine OA.p (some 8) (.int .i64 (((i + 1) : Nat) : Int)) rfl rfl rfl rfl ?_
      refine OA.nil ?_
      refine ⟨50 - (i + 1), by omega, [(pn1, some ⟨[[(.slice (some ⟨jnn22, 0, none⟩) (K + 1 - (u + 1 - g)) 2)]], 1, 122, true⟩), (jnn22, some (oPrt ((insL ps (ps.findIdx (lsP c)) c).take g ++ (insL ps (ps.findIdx (lsP c)) c).drop (u + 1)))), (jan23, some (oPrt ((q ++ [c]).filter (keepP ((insL ps (ps.findIdx (lsP c)) c).getD g dPrt) ((insL ps (ps.findIdx (lsP c)) c).getD u dPrt))))), ((n1 + 1), some (oBo (sn.set (andN (prs.getD i dPart).far 63) (Bo.mk true))))], (Less.of (fac (mm (fun _ => get_here) (fun _ => (gt3 (by omega) get_here))) (fac (mm (fun _ => (get_there (by omega) get_here)) (fun _ => (gt4 (by omega) get_here))) (fac (mm (fun _ => (gt2 (by omega) get_here)) (fun _ => (get_there (by omega) get_here))) (fac (mm (fun _ => (gt3 (by omega) get_here)) (fun _ => (gt7 (by omega) get_here))) fan)))) (gone_of (by simp only [goneP, memP, List.cons_append, List.nil_append, true_or, or_true, true_and, and_true, or_false] <;> omega))), ⟨(i + 1), (K + 1 - (u + 1 - g)), ((insL ps (ps.findIdx (lsP c)) c).take g ++ (insL ps (ps.findIdx (lsP c)) c).drop (u + 1)), ((q ++ [c]).filter (keepP ((insL ps (ps.findIdx (lsP c)) c).getD g dPrt) ((insL ps (ps.findIdx (lsP c)) c).getD u dPrt))), jnn22, jan23, (sn.set (andN (prs.getD i dPart).far 63) (Bo.mk true)), rfl, by omega, ⟨rfl, rfl, rfl, rfl, rfl, rfl, trivial⟩, rfl, (kb4 (by omega)), ⟨by omega, show ((insL ps (ps.findIdx (lsP c)) c).take g ++ (insL ps (ps.findIdx (lsP c)) c).drop (u + 1)).length = (K + 1 - (u + 1 - g)) from cut_len (by rw [insL_len, hpsl]) hgu huK, show ((q ++ [c]).filter (keepP ((insL ps (ps.findIdx (lsP c)) c).getD g dPrt) ((insL ps (ps.findIdx (lsP c)) c).getD u dPrt))).length = (K + 1 - (u + 1 - g)) from hmn23, by omega, hsrt', hperm', (by rw [List.length_set]; exact hsnl), seen_more hsnl hcf (by omega) hsn (fun x hx => ins_mem.1 ((List.mem_append.1 hx).elim List.mem_of_mem_take List.mem_of_mem_drop)), (fun x hx => (ins_mem.1 ((List.mem_append.1 hx).elim List.mem_of_mem_take List.mem_of_mem_drop)).elim (fun e => by rw [e]; exact hcd) (hszp x)), by omega, by omega, by omega, by omega, by omega, by omega, by omega⟩⟩⟩
  ·
   refine OA.p (some 30) (.bool false) rfl rfl rfl (Eq.trans (r_bin rfl rfl rfl (b_lss rfl)) (dF hc2)) ?_
   refine OA.p (some 31) (.bool false) rfl rfl rfl rfl ?_
   refine OA.nil ?_
   intro _
   refine RA.condF rfl ?_
   refine RA.exit env_ok ?_
   intro _
   refine RA.seq hd ?_
   refine RA.region env_ok ?_
   refine OA.p (some 4) (.bool true) rfl rfl rfl rfl ?_
   refine OA.nil ?_
   intro _
   refine RA.ret env_ok ?_
   refine ⟨.inr rfl, [(.bool true)], (resL_cons rfl resL_nil), [], (Less.of (fun p hp => by simp at hp) (gone_of (by simp only [goneP, memP, List.cons_append, List.nil_append, true_or, or_true, true_and, and_true, or_false] <;> omega))), rfl⟩
 ·
  refine OA.p (some 27) (.bool false) rfl rfl rfl (Eq.trans (r_bin rfl rfl rfl (b_lss rfl)) (dF hc1)) ?_
  refine OA.p (some 28) (.bool false) rfl rfl rfl rfl ?_
  refine OA.off (dst := (some 29)) rfl rfl rfl ?_
  refine OA.off (dst := (some 30)) rfl rfl rfl ?_
  refine OA.p (some 31) (.bool false) rfl rfl rfl rfl ?_
  refine OA.nil ?_
  intro _
  refine RA.condF rfl ?_
  refine RA.exit env_ok ?_
  intro _
  refine RA.seq hd ?_
  refine RA.region env_ok ?_
  refine OA.p (some 4) (.bool true) rfl rfl rfl rfl ?_
  refine OA.nil ?_
  intro _
  refine RA.ret env_ok ?_
  refine ⟨.inr rfl, [(.bool true)], (resL_cons rfl resL_nil), [], (Less.of (fun p hp => by simp at hp) (gone_of (by simp only [goneP, memP, List.cons_append, List.nil_append, true_or, or_true, true_and, and_true, or_false] <;> omega))), rfl⟩
end Go.Proofs.Ytmepflkodjdgdaa.Vt
