/- Pa8: walks through functions of the program, by the calculus; written by a program of this workplace. -/
import Derived.Test.YtnjknabighmedaaPa7
import Derived.Test.YtnjknabighmedaaVm6
namespace Go.Proofs.Ytnjknabighmedaa.Vt
open Go Go.Proofs Go.Proofs.YtnjknabighmedaaV
set_option maxRecDepth 100000
set_option linter.unusedVariables false
set_option linter.unusedSimpArgs false
structure Act where
  what : Int
  loc : Int
  peer : Int
  num : Int
deriving DecidableEq
def dAct : Act := ⟨0, 0, 0, 0⟩
abbrev cAct (e : Act) : List Value := [(.int .i64 e.what), (.int .i64 e.loc), (.int .i64 e.peer), (.int .i64 e.num)]
abbrev oAct (l : List Act) : AObj := ⟨l.map cAct, 4, 91, true⟩
theorem okP_one : okP [newP 1#32 9#32] := by
  intro e he
  rw [List.mem_singleton] at he
  subst he
  exact ⟨by decide, by decide, by decide, by decide⟩
abbrev xPa81 (l : List Pth) (acts : List Act) (i : Nat) (to : BitVec 32) (f : Nat) (k : Nat) : List Value := [(W (l.getD ((drL l (BitVec.ofNat 32 (andN (acts.getD i dAct).loc 3)) to (acts.getD i dAct).num ((f : Nat) : Int)).getD k dInn).z.toNat dPth).own), (W (l.getD ((drL l (BitVec.ofNat 32 (andN (acts.getD i dAct).loc 3)) to (acts.getD i dAct).num ((f : Nat) : Int)).getD k dInn).z.toNat dPth).peer), (.int .i64 (l.getD ((drL l (BitVec.ofNat 32 (andN (acts.getD i dAct).loc 3)) to (acts.getD i dAct).num ((f : Nat) : Int)).getD k dInn).z.toNat dPth).state), (.int .i64 (l.getD ((drL l (BitVec.ofNat 32 (andN (acts.getD i dAct).loc 3)) to (acts.getD i dAct).num ((f : Nat) : Int)).getD k dInn).z.toNat dPth).f3), (.int .i64 (l.getD ((drL l (BitVec.ofNat 32 (andN (acts.getD i dAct).loc 3)) to (acts.getD i dAct).num ((f : Nat) : Int)).getD k dInn).z.toNat dPth).f4), (.int .i64 (l.getD ((drL l (BitVec.ofNat 32 (andN (acts.getD i dAct).loc 3)) to (acts.getD i dAct).num ((f : Nat) : Int)).getD k dInn).z.toNat dPth).f5), (.int .i64 (l.getD ((drL l (BitVec.ofNat 32 (andN (acts.getD i dAct).loc 3)) to (acts.getD i dAct).num ((f : Nat) : Int)).getD k dInn).z.toNat dPth).f6), (.bool (l.getD ((drL l (BitVec.ofNat 32 (andN (acts.getD i dAct).loc 3)) to (acts.getD i dAct).num ((f : Nat) : Int)).getD k dInn).z.toNat dPth).f7), (.int .i64 (l.getD ((drL l (BitVec.ofNat 32 (andN (acts.getD i dAct).loc 3)) to (acts.getD i dAct).num ((f : Nat) : Int)).getD k dInn).z.toNat dPth).f8), (.int .i64 (l.getD ((drL l (BitVec.ofNat 32 (andN (acts.getD i dAct).loc 3)) to (acts.getD i dAct).num ((f : Nat) : Int)).getD k dInn).z.toNat dPth).f9), (.int .i64 (l.getD ((drL l (BitVec.ofNat 32 (andN (acts.getD i dAct).loc 3)) to (acts.getD i dAct).num ((f : Nat) : Int)).getD k dInn).z.toNat dPth).f10), (.int .i64 (l.getD ((drL l (BitVec.ofNat 32 (andN (acts.getD i dAct).loc 3)) to (acts.getD i dAct).num ((f : Nat) : Int)).getD k dInn).z.toNat dPth).f11), (.int .i64 (l.getD ((drL l (BitVec.ofNat 32 (andN (acts.getD i dAct).loc 3)) to (acts.getD i dAct).num ((f : Nat) : Int)).getD k dInn).z.toNat dPth).f12), (W (l.getD ((drL l (BitVec.ofNat 32 (andN (acts.getD i dAct).loc 3)) to (acts.getD i dAct).num ((f : Nat) : Int)).getD k dInn).z.toNat dPth).f13), (.int .i64 (l.getD ((drL l (BitVec.ofNat 32 (andN (acts.getD i dAct).loc 3)) to (acts.getD i dAct).num ((f : Nat) : Int)).getD k dInn).z.toNat dPth).f14)]
abbrev xPa82 (acts : List Act) (i : Nat) : List Value := [(W (newP ((BitVec.ofNat 32 (andN (acts.getD i dAct).loc 3)) + (1#32)) ((BitVec.ofNat 32 (andN (acts.getD i dAct).peer 3)) + (8#32))).own), (W (newP ((BitVec.ofNat 32 (andN (acts.getD i dAct).loc 3)) + (1#32)) ((BitVec.ofNat 32 (andN (acts.getD i dAct).peer 3)) + (8#32))).peer), (.int .i64 (newP ((BitVec.ofNat 32 (andN (acts.getD i dAct).loc 3)) + (1#32)) ((BitVec.ofNat 32 (andN (acts.getD i dAct).peer 3)) + (8#32))).state), (.int .i64 (newP ((BitVec.ofNat 32 (andN (acts.getD i dAct).loc 3)) + (1#32)) ((BitVec.ofNat 32 (andN (acts.getD i dAct).peer 3)) + (8#32))).f3), (.int .i64 (newP ((BitVec.ofNat 32 (andN (acts.getD i dAct).loc 3)) + (1#32)) ((BitVec.ofNat 32 (andN (acts.getD i dAct).peer 3)) + (8#32))).f4), (.int .i64 (newP ((BitVec.ofNat 32 (andN (acts.getD i dAct).loc 3)) + (1#32)) ((BitVec.ofNat 32 (andN (acts.getD i dAct).peer 3)) + (8#32))).f5), (.int .i64 (newP ((BitVec.ofNat 32 (andN (acts.getD i dAct).loc 3)) + (1#32)) ((BitVec.ofNat 32 (andN (acts.getD i dAct).peer 3)) + (8#32))).f6), (.bool (newP ((BitVec.ofNat 32 (andN (acts.getD i dAct).loc 3)) + (1#32)) ((BitVec.ofNat 32 (andN (acts.getD i dAct).peer 3)) + (8#32))).f7), (.int .i64 (newP ((BitVec.ofNat 32 (andN (acts.getD i dAct).loc 3)) + (1#32)) ((BitVec.ofNat 32 (andN (acts.getD i dAct).peer 3)) + (8#32))).f8), (.int .i64 (newP ((BitVec.ofNat 32 (andN (acts.getD i dAct).loc 3)) + (1#32)) ((BitVec.ofNat 32 (andN (acts.getD i dAct).peer 3)) + (8#32))).f9), (.int .i64 (newP ((BitVec.ofNat 32 (andN (acts.getD i dAct).loc 3)) + (1#32)) ((BitVec.ofNat 32 (andN (acts.getD i dAct).peer 3)) + (8#32))).f10), (.int .i64 (newP ((BitVec.ofNat 32 (andN (acts.getD i dAct).loc 3)) + (1#32)) ((BitVec.ofNat 32 (andN (acts.getD i dAct).peer 3)) + (8#32))).f11), (.int .i64 (newP ((BitVec.ofNat 32 (andN (acts.getD i dAct).loc 3)) + (1#32)) ((BitVec.ofNat 32 (andN (acts.getD i dAct).peer 3)) + (8#32))).f12), (W (newP ((BitVec.ofNat 32 (andN (acts.getD i dAct).loc 3)) + (1#32)) ((BitVec.ofNat 32 (andN (acts.getD i dAct).peer 3)) + (8#32))).f13), (.int .i64 (newP ((BitVec.ofNat 32 (andN (acts.getD i dAct).loc 3)) + (1#32)) ((BitVec.ofNat 32 (andN (acts.getD i dAct).peer 3)) + (8#32))).f14)]
abbrev xPa83 (l : List Pth) (acts : List Act) (i : Nat) (K : Nat) : List Value := [(W (l.getD (nrmN (acts.getD i dAct).num K) dPth).own), (W (l.getD (nrmN (acts.getD i dAct).num K) dPth).peer), (.int .i64 ((((andN (acts.getD i dAct).peer 3) % 3) : Nat) : Int)), (.int .i64 (l.getD (nrmN (acts.getD i dAct).num K) dPth).f3), (.int .i64 (l.getD (nrmN (acts.getD i dAct).num K) dPth).f4), (.int .i64 (l.getD (nrmN (acts.getD i dAct).num K) dPth).f5), (.int .i64 (l.getD (nrmN (acts.getD i dAct).num K) dPth).f6), (.bool (l.getD (nrmN (acts.getD i dAct).num K) dPth).f7), (.int .i64 (l.getD (nrmN (acts.getD i dAct).num K) dPth).f8), (.int .i64 (l.getD (nrmN (acts.getD i dAct).num K) dPth).f9), (.int .i64 (l.getD (nrmN (acts.getD i dAct).num K) dPth).f10), (.int .i64 (l.getD (nrmN (acts.getD i dAct).num K) dPth).f11), (.int .i64 (l.getD (nrmN (acts.getD i dAct).num K) dPth).f12), (W (l.getD (nrmN (acts.getD i dAct).num K) dPth).f13), (.int .i64 (l.getD (nrmN (acts.getD i dAct).num K) dPth).f14)]
abbrev xPa84 (l : List Pth) (acts : List Act) (i : Nat) (K : Nat) : Pth := (Pth.mk ((l.getD (nrmN (acts.getD i dAct).num K) dPth).own) ((l.getD (nrmN (acts.getD i dAct).num K) dPth).peer) ((((andN (acts.getD i dAct).peer 3) % 3) : Nat) : Int) ((l.getD (nrmN (acts.getD i dAct).num K) dPth).f3) ((l.getD (nrmN (acts.getD i dAct).num K) dPth).f4) ((l.getD (nrmN (acts.getD i dAct).num K) dPth).f5) ((l.getD (nrmN (acts.getD i dAct).num K) dPth).f6) ((l.getD (nrmN (acts.getD i dAct).num K) dPth).f7) ((l.getD (nrmN (acts.getD i dAct).num K) dPth).f8) ((l.getD (nrmN (acts.getD i dAct).num K) dPth).f9) ((l.getD (nrmN (acts.getD i dAct).num K) dPth).f10) ((l.getD (nrmN (acts.getD i dAct).num K) dPth).f11) ((l.getD (nrmN (acts.getD i dAct).num K) dPth).f12) ((l.getD (nrmN (acts.getD i dAct).num K) dPth).f13) ((l.getD (nrmN (acts.getD i dAct).num K) dPth).f14))
abbrev xPa85 (j2n22 : Nat) (M : Nat) (f : Nat) (l : List Pth) (acts : List Act) (i : Nat) (to : BitVec 32) : List Value := [(.slice (some ⟨j2n22, 0, none⟩) M 2), (.int .i64 (((atF f (drL l (BitVec.ofNat 32 (andN (acts.getD i dAct).loc 3)) to (acts.getD i dAct).num ((f : Nat) : Int))) : Nat) : Int))]
abbrev xPa86 (qn1 : Nat) (acts : List Act) (i : Nat) : List Value := [(.pointer (some ⟨qn1, 0, some 0⟩)), (W ((BitVec.ofNat 32 (andN (acts.getD i dAct).loc 3)) + (1#32))), (W ((BitVec.ofNat 32 (andN (acts.getD i dAct).peer 3)) + (8#32)))]
abbrev xPa87 (qn1 : Nat) (jq : Nat) (K : Nat) (f : Nat) (acts : List Act) (i : Nat) : List Value := [(.pointer (some ⟨qn1, 0, some 0⟩)), (.slice (some ⟨jq, 0, none⟩) K 2), (.int .i64 ((f : Nat) : Int)), (.int .i64 (acts.getD i dAct).num)]
abbrev xPa88 (jp : Nat) (K : Nat) (acts : List Act) (i : Nat) : List Value := [(.slice (some ⟨jp, 0, none⟩) K 2), (.int .i64 (((acts.getD i dAct).num.toNat : Nat) : Int))]
set_option maxHeartbeats 4000000 in
theorem pLaw {n : Nat} {σ : Store} (hd : Dom n σ) (hn0 : 0 < n) (va : Value) (acts : List Act) (hva : RowP σ 91 4 va (acts.map cAct))   : CQ Try.prog noDen 12 [va] n σ (fun v n' d => v = .bool true) := by
 refine CQ.body (E := env) env_ok hd rfl rfl (by show _ ≤ _; exact of_decide_eq_true (by kernel_rfl)) ?_
 refine RA.seq hd ?_
 refine RA.region env_ok ?_
 refine OA.p (some 2) (.bool false) rfl rfl rfl rfl ?_
 refine OA.nil ?_
 intro _
 refine RA.seq hd ?_
 refine RA.region env_ok ?_
 refine OA.call (dst := (some 19)) (all := [(.int .u32 1), (.int .u32 9)]) rfl rfl rfl rfl rfl rfl rfl rfl (CQ.imp (pNew (hd.up (by omega)) 1#32 9#32) ?_)
 rintro _ n1 _ ⟨qn1, jn1, b1n1, b2n1, b3n1, b4n1, b5n1, rfl, rfl⟩ hn1
 refine OA.app2 ?_
 refine OA.callP (dst := (some 20)) (all := [(.int .u32 1), (.int .u32 9)]) (v := (.agg ⟨(cPth (newP 1#32 9#32))⟩)) (hd.of (by omega) (kb2 (by omega))) rfl rfl rfl rfl rfl rfl rfl rfl (pPNew 1#32 9#32) ?_
 intro n2 hn2
 refine OA.op1 (dst := (some 21)) (v := (.slice (some ⟨n2, 0, none⟩) 1 0)) (n1 := (n2 + 1)) (w := (n2, some ⟨[[(W (newP 1#32 9#32).own), (W (newP 1#32 9#32).peer), (.int .i64 (newP 1#32 9#32).state), (.int .i64 (newP 1#32 9#32).f3), (.int .i64 (newP 1#32 9#32).f4), (.int .i64 (newP 1#32 9#32).f5), (.int .i64 (newP 1#32 9#32).f6), (.bool (newP 1#32 9#32).f7), (.int .i64 (newP 1#32 9#32).f8), (.int .i64 (newP 1#32 9#32).f9), (.int .i64 (newP 1#32 9#32).f10), (.int .i64 (newP 1#32 9#32).f11), (.int .i64 (newP 1#32 9#32).f12), (W (newP 1#32 9#32).f13), (.int .i64 (newP 1#32 9#32).f14)]], 15, 87, true⟩)) rfl rfl rfl (by kernel_rfl) (by omega) ?_
 refine OA.p (some 3) (Pt qn1 0 0) rfl rfl rfl rfl ?_
 refine OA.p (some 4) (.slice (some ⟨n2, 0, none⟩) 1 0) rfl rfl rfl rfl ?_
 refine OA.p (some 5) (.int .i64 0) rfl rfl rfl rfl ?_
 refine OA.nil ?_
 intro _
 refine RA.seq hd ?_
 refine RA.seq hd ?_
 refine RA.region env_ok ?_
 refine OA.callP (dst := (some 22)) (all := []) (v := (.bool true)) (hd.of (by omega) (kb3 (by omega))) rfl rfl rfl rfl rfl rfl rfl rfl awakeP ?_
 intro n3 hn3
 refine OA.p (some 23) (.bool false) rfl rfl rfl rfl ?_
 refine OA.nil ?_
 intro _
 refine RA.condF rfl ?_
 refine RA.skip env_ok ?_
 intro _
 refine RA.seq hd ?_
 refine RA.seq hd ?_
 refine RA.region env_ok ?_
 refine OA.p (some 6) (.int .i64 0) rfl rfl rfl rfl ?_
 refine OA.nil ?_
 intro _
 refine RA.block ?_
 refine RA.le (ob := ⟨[[(.slice (some ⟨jn1, 0, none⟩) 1 0), (.int .i64 0)]], 2, 131, true⟩) (ob' := ⟨[[(.slice (some ⟨jn1, 0, none⟩) 1 2), (.int .i64 0)]], 2, 131, true⟩) (get_there (by omega) get_here) (OLe.one (cs := [(.slice (some ⟨jn1, 0, none⟩) 1 0), (.int .i64 0)]) (cs' := [(.slice (some ⟨jn1, 0, none⟩) 1 2), (.int .i64 0)]) ⟨(vle_row _ _ _), VLe.refl _, trivial⟩ rfl) ?_
 show RA _ _ _ _ _ _ _ _ [(qn1, some ⟨[[(.slice (some ⟨jn1, 0, none⟩) 1 2), (.int .i64 0)]], 2, 131, true⟩), (n2, some (oPth [newP 1#32 9#32])), (qn1, some ⟨[[(.slice (some ⟨jn1, 0, none⟩) 1 0), (.int .i64 0)]], 2, 131, true⟩), (jn1, some (oPth [newP 1#32 9#32]))] _
 refine RA.leT (t := 4) (v := (.slice (some ⟨n2, 0, none⟩) 1 0)) (v' := (.slice (some ⟨n2, 0, none⟩) 1 2)) rfl (vle_row _ _ _) ?_
 refine RA.weaken (D' := [(qn1, some ⟨[[(.slice (some ⟨jn1, 0, none⟩) 1 2), (.int .i64 0)]], 2, 131, true⟩), (jn1, some (oPth [newP 1#32 9#32])), (n2, some (oPth [newP 1#32 9#32]))]) hd (Less.of (fac (mm (fun _ => get_here) (fun _ => get_here)) (fac (mm (fun _ => (get_there (by omega) get_here)) (fun _ => (gt3 (by omega) get_here))) (fac (mm (fun _ => (gt2 (by omega) get_here)) (fun _ => (get_there (by omega) get_here))) fan))) (gone_of (by simp only [goneP, memP, List.cons_append, List.nil_append, true_or, or_true, true_and, and_true, or_false] <;> omega))) ?_
 refine RA.loop hd (fun kk_ τ n' D => (∃ i : Nat, ∃ jp : Nat, ∃ K : Nat, ∃ f : Nat, ∃ l : List Pth, ∃ jq : Nat, kk_ = acts.length - i ∧ n3 ≤ n' ∧ Has τ [(0, va), (3, (Pt qn1 0 0)), (4, (.slice (some ⟨jq, 0, none⟩) K 2)), (5, (.int .i64 ((f : Nat) : Int))), (6, (.int .i64 ((i : Nat) : Int)))] ∧ D = [(qn1, some ⟨[[(.slice (some ⟨jp, 0, none⟩) K 2), (.int .i64 ((f : Nat) : Int))]], 2, 131, true⟩), (jp, some (oPth l)), (jq, some (oPth l))] ∧ (∀ i ∈ keys D, i < n') ∧ i ≤ acts.length ∧ l.length = K ∧ okP l ∧ 0 < K ∧ K ≤ 8 ∧ f < K ∧ n ≤ jp ∧ n ≤ jq ∧ jp ≠ jq ∧ qn1 ≠ jp ∧ qn1 ≠ jq)) (acts.length - 0) (⟨0, jn1, 1, 0, [newP 1#32 9#32], n2, rfl, by omega, ⟨rfl, rfl, rfl, rfl, rfl, trivial⟩, (by rfl), (kb3 (by omega)), ⟨by omega, rfl, okP_one, by omega, by omega, by omega, by omega, by omega, by omega, by omega, by omega⟩⟩) ?_
 rintro kn4 τ4 n4 _ ⟨i, jp, K, f, l, jq, rfl, hn4, hHn4, rfl, hKn4, hIn4⟩
 rw [Has.eq hHn4]
 have hKn4_0 : qn1 < n4 := hKn4 _ (by simp only [keys, List.map_cons, List.map_nil, List.mem_cons, true_or, or_true])
 have hKn4_1 : jp < n4 := hKn4 _ (by simp only [keys, List.map_cons, List.map_nil, List.mem_cons, true_or, or_true])
 have hKn4_2 : jq < n4 := hKn4 _ (by simp only [keys, List.map_cons, List.map_nil, List.mem_cons, true_or, or_true])
 clear hKn4
 obtain ⟨hi1, hl, hok, hK0, hK8, hf, hg1, hg2, hg3, hg4, hg5⟩ := hIn4
 refine RA.seq hd ?_
 refine RA.seq hd ?_
 refine RA.region env_ok ?_
 refine OA.p (some 24) (.int .i64 ((i : Nat) : Int)) rfl rfl rfl rfl ?_
 refine OA.p (some 25) va rfl rfl rfl rfl ?_
 refine OA.p (some 26) (.int .i64 ((acts.length : Nat) : Int)) rfl rfl rfl (r_lenP (c := cAct) rfl rfl rfl rfl rfl rfl hva rfl) ?_
 by_cases hc1 : ((i : Nat) : Int) < ((acts.length : Nat) : Int)
 ·
  obtain ⟨rest, hat⟩ := hva.get (m := i) (by omega)
  have lathat := hd.lt hat
  refine OA.p (some 27) (.bool true) rfl rfl rfl (Eq.trans (r_bin rfl rfl rfl (b_lss rfl)) (dT hc1)) ?_
  refine OA.p (some 28) (.bool true) rfl rfl rfl rfl ?_
  refine OA.p (some 29) (.int .i64 ((i : Nat) : Int)) rfl rfl rfl rfl ?_
  by_cases hc2 : ((i : Nat) : Int) < 50
  ·
   refine OA.p (some 30) (.bool true) rfl rfl rfl (Eq.trans (r_bin rfl rfl rfl (b_lss rfl)) (dT hc2)) ?_
   refine OA.p (some 31) (.bool true) rfl rfl rfl rfl ?_
   refine OA.nil ?_
   intro _
   refine RA.condT rfl ?_
   refine RA.skip env_ok ?_
   intro _
   refine RA.seq hd ?_
   refine RA.block ?_
   refine RA.seq hd ?_
   refine RA.region env_ok ?_
   refine OA.p (some 34) va rfl rfl rfl rfl ?_
   refine OA.p (some 35) (.int .i64 ((i : Nat) : Int)) rfl rfl rfl rfl ?_
   refine OA.p (some 36) (.pointer (some ⟨(rk va), i, some 0⟩)) rfl rfl rfl (r_iaP (c := cAct) (m := i) rfl rfl rfl rfl rfl rfl hva rfl (by omega) (gt3 (by omega) hat) rfl) ?_
   refine OA.p (some 37) (.agg ⟨(cAct (acts.getD i dAct))⟩) rfl rfl rfl (r_loadA (e := cAct (acts.getD i dAct)) rfl rfl rfl rfl (gt3 (by omega) hat) (mp_getA (by omega)) rfl rfl) ?_
   refine OA.op1 (dst := (some 7)) (v := (Pt n4 0 0)) (n1 := (n4 + 1)) (w := (n4, some ⟨[[(.int .i64 0), (.int .i64 0), (.int .i64 0), (.int .i64 0)]], 4, 91, true⟩)) rfl rfl rfl rfl (by omega) ?_
   refine OA.op1 (dst := none) (v := (.tuple #[])) (n1 := (n4 + 1)) (w := (n4, some ⟨[(cAct (acts.getD i dAct))], 4, 91, true⟩)) rfl rfl rfl (r_store rfl rfl rfl rfl rfl rfl rfl get_here rfl rfl (Nat.le_of_ble_eq_true rfl) rfl) (by omega) ?_
   refine OA.nil ?_
   intro _
   refine RA.seq hd ?_
   refine RA.par (md := [some [], some [n4], some [], some [], some [], some [n4], some [], some [], some [], some []]) env_ok (hd.of (by omega) (kb5 (by omega))) (by kernel_rfl) ?_
   refine PQ.pure (dst := (some 38)) (v := (Pt n4 0 1)) rfl rfl rfl noStore (none_ok _ _) rfl ?_
   refine PQ.pure (dst := (some 39)) (v := (.int .i64 (acts.getD i dAct).loc)) rfl rfl rfl (app [(n4, some ⟨[(cAct (acts.getD i dAct))], 4, 91, true⟩)] noStore) (seen_one (V := []) (D := [(n4, some ⟨[(cAct (acts.getD i dAct))], 4, 91, true⟩), (n4, some ⟨[[(.int .i64 0), (.int .i64 0), (.int .i64 0), (.int .i64 0)]], 4, 91, true⟩), (qn1, some ⟨[[(.slice (some ⟨jp, 0, none⟩) K 2), (.int .i64 ((f : Nat) : Int))]], 2, 131, true⟩), (jp, some (oPth l)), (jq, some (oPth l))]) (by kernel_rfl) get_here) (r_load1 rfl rfl rfl rfl rfl get_here rfl rfl) ?_
   have hm5 := andN_le (acts.getD i dAct).loc 3 (by decide)
   refine PQ.pure (dst := (some 40)) (v := (.int .i64 (((andN (acts.getD i dAct).loc 3) : Nat) : Int))) rfl rfl rfl noStore (none_ok _ _) (r_bin rfl rfl rfl (b_andN (acts.getD i dAct).loc 3 (by decide))) ?_
   refine PQ.pure (dst := (some 41)) (v := (W (BitVec.ofNat 32 (andN (acts.getD i dAct).loc 3)))) rfl rfl rfl noStore (none_ok _ _) (r_cvt rfl rfl rfl rfl rfl ⟨_, rfl⟩ (wrap_ofNat32 _)) ?_
   refine PQ.pure (dst := (some 42)) (v := (Pt n4 0 2)) rfl rfl rfl noStore (none_ok _ _) rfl ?_
   refine PQ.pure (dst := (some 43)) (v := (.int .i64 (acts.getD i dAct).peer)) rfl rfl rfl (app [(n4, some ⟨[(cAct (acts.getD i dAct))], 4, 91, true⟩)] noStore) (seen_one (V := []) (D := [(n4, some ⟨[(cAct (acts.getD i dAct))], 4, 91, true⟩), (n4, some ⟨[[(.int .i64 0), (.int .i64 0), (.int .i64 0), (.int .i64 0)]], 4, 91, true⟩), (qn1, some ⟨[[(.slice (some ⟨jp, 0, none⟩) K 2), (.int .i64 ((f : Nat) : Int))]], 2, 131, true⟩), (jp, some (oPth l)), (jq, some (oPth l))]) (by kernel_rfl) get_here) (r_load1 rfl rfl rfl rfl rfl get_here rfl rfl) ?_
   have hm6 := andN_le (acts.getD i dAct).peer 3 (by decide)
   refine PQ.pure (dst := (some 44)) (v := (.int .i64 (((andN (acts.getD i dAct).peer 3) : Nat) : Int))) rfl rfl rfl noStore (none_ok _ _) (r_bin rfl rfl rfl (b_andN (acts.getD i dAct).peer 3 (by decide))) ?_
   refine PQ.pure (dst := (some 45)) (v := (W (BitVec.ofNat 32 (andN (acts.getD i dAct).peer 3)))) rfl rfl rfl noStore (none_ok _ _) (r_cvt rfl rfl rfl rfl rfl ⟨_, rfl⟩ (wrap_ofNat32 _)) ?_
   refine PQ.pure (dst := (some 8)) (v := (W (BitVec.ofNat 32 (andN (acts.getD i dAct).loc 3)))) rfl rfl rfl noStore (none_ok _ _) rfl ?_
   refine PQ.pure (dst := (some 9)) (v := (W (BitVec.ofNat 32 (andN (acts.getD i dAct).peer 3)))) rfl rfl rfl noStore (none_ok _ _) rfl ?_
   refine PQ.done (d := []) (by kernel_rfl) ?_
   intro _
   refine RA.seq hd ?_
   refine RA.seq hd ?_
   refine RA.region env_ok ?_
   refine OA.p (some 46) (Pt n4 0 0) rfl rfl rfl rfl ?_
   refine OA.p (some 47) (.int .i64 (acts.getD i dAct).what) rfl rfl rfl (r_load1 rfl rfl rfl rfl rfl get_here rfl rfl) ?_
   have hm7 := andN_le (acts.getD i dAct).what 3 (by decide)
   refine OA.p (some 48) (.int .i64 (((andN (acts.getD i dAct).what 3) : Nat) : Int)) rfl rfl rfl (r_bin rfl rfl rfl (b_andN (acts.getD i dAct).what 3 (by decide))) ?_
   refine OA.nil ?_
   intro _
   refine RA.rebase [(0, va), (3, (Pt qn1 0 0)), (4, (.slice (some ⟨jq, 0, none⟩) K 2)), (5, (.int .i64 ((f : Nat) : Int))), (6, (.int .i64 ((i : Nat) : Int))), (7, (Pt n4 0 0)), (8, (W (BitVec.ofNat 32 (andN (acts.getD i dAct).loc 3)))), (9, (W (BitVec.ofNat 32 (andN (acts.getD i dAct).peer 3)))), (31, (.bool true)), (48, (.int .i64 (((andN (acts.getD i dAct).what 3) : Nat) : Int)))] ⟨rfl, rfl, rfl, rfl, rfl, rfl, rfl, rfl, rfl, rfl, trivial⟩ (fun τr8 => ?_)
   refine RA.block ?_
   refine RA.seq hd ?_
   refine RA.region env_ok ?_
   by_cases hc3 : (((andN (acts.getD i dAct).what 3) : Nat) : Int) = 0
   ·
    refine OA.p (some 98) (.bool true) rfl rfl rfl (Eq.trans (r_bin rfl rfl rfl (b_eql rfl)) (dT hc3)) ?_
    refine OA.p (some 97) (.bool true) rfl rfl rfl rfl ?_
    refine OA.nil ?_
    intro _
    refine RA.condT rfl ?_
    refine RA.seq hd ?_
    refine RA.region env_ok ?_
    refine OA.p (some 99) (.slice (some ⟨jq, 0, none⟩) K 2) rfl rfl rfl rfl ?_
    refine OA.p (some 100) (W (BitVec.ofNat 32 (andN (acts.getD i dAct).loc 3))) rfl rfl rfl rfl ?_
    refine OA.p (some 101) (W ((BitVec.ofNat 32 (andN (acts.getD i dAct).loc 3)) + (1#32))) rfl rfl rfl (r_bin rfl rfl rfl (b_addW (BitVec.ofNat 32 (andN (acts.getD i dAct).loc 3)) (1#32))) ?_
    refine OA.p (some 102) (W (BitVec.ofNat 32 (andN (acts.getD i dAct).peer 3))) rfl rfl rfl rfl ?_
    refine OA.p (some 103) (W ((BitVec.ofNat 32 (andN (acts.getD i dAct).peer 3)) + (8#32))) rfl rfl rfl (r_bin rfl rfl rfl (b_addW (BitVec.ofNat 32 (andN (acts.getD i dAct).peer 3)) (8#32))) ?_
    have hA1 := small_add (andN (acts.getD i dAct).loc 3) 1 (by omega) (by omega)
    have hB1 := small_add (andN (acts.getD i dAct).peer 3) 8 (by omega) (by omega)
    refine OA.callP (dst := (some 104)) (all := [(.slice (some ⟨jq, 0, none⟩) K 2), (W ((BitVec.ofNat 32 (andN (acts.getD i dAct).loc 3)) + (1#32))), (W ((BitVec.ofNat 32 (andN (acts.getD i dAct).peer 3)) + (8#32)))]) (v := (.int .i64 (idxZ (eqP ((BitVec.ofNat 32 (andN (acts.getD i dAct).loc 3)) + (1#32)) ((BitVec.ofNat 32 (andN (acts.getD i dAct).peer 3)) + (8#32))) l))) (hd.of (by omega) (kb5 (by omega))) rfl rfl rfl rfl rfl rfl rfl rfl (PS.to (pFind jq K l hl (by omega) ((BitVec.ofNat 32 (andN (acts.getD i dAct).loc 3)) + (1#32)) ((BitVec.ofNat 32 (andN (acts.getD i dAct).peer 3)) + (8#32)) (gt4 (by omega) get_here)) (congrArg (Value.int .i64) (hit_eq (by omega)))) ?_
    intro n9 hn9
    refine OA.p (some 10) (.int .i64 (idxZ (eqP ((BitVec.ofNat 32 (andN (acts.getD i dAct).loc 3)) + (1#32)) ((BitVec.ofNat 32 (andN (acts.getD i dAct).peer 3)) + (8#32))) l)) rfl rfl rfl rfl ?_
    refine OA.nil ?_
    intro _
    refine RA.seq hd ?_
    refine RA.seq hd ?_
    refine RA.region env_ok ?_
    refine OA.p (some 105) (.int .i64 (idxZ (eqP ((BitVec.ofNat 32 (andN (acts.getD i dAct).loc 3)) + (1#32)) ((BitVec.ofNat 32 (andN (acts.getD i dAct).peer 3)) + (8#32))) l)) rfl rfl rfl rfl ?_
    by_cases hc4 : (idxZ (eqP ((BitVec.ofNat 32 (andN (acts.getD i dAct).loc 3)) + (1#32)) ((BitVec.ofNat 32 (andN (acts.getD i dAct).peer 3)) + (8#32))) l) < 0
    ·
     refine OA.p (some 106) (.bool true) rfl rfl rfl (Eq.trans (r_bin rfl rfl rfl (b_lss rfl)) (dT hc4)) ?_
     refine OA.p (some 107) (.bool true) rfl rfl rfl rfl ?_
     refine OA.p (some 108) (.slice (some ⟨jq, 0, none⟩) K 2) rfl rfl rfl rfl ?_
     refine OA.p (some 109) (.int .i64 ((K : Nat) : Int)) rfl rfl rfl rfl ?_
     by_cases hc5 : ((K : Nat) : Int) < 8
     ·
      refine OA.p (some 110) (.bool true) rfl rfl rfl (Eq.trans (r_bin rfl rfl rfl (b_lss rfl)) (dT hc5)) ?_
      refine OA.p (some 111) (.bool true) rfl rfl rfl rfl ?_
      refine OA.nil ?_
      intro _
      refine RA.condT rfl ?_
      refine RA.seq hd ?_
      refine RA.region env_ok ?_
      refine OA.p (some 112) (.slice (some ⟨jq, 0, none⟩) K 2) rfl rfl rfl rfl ?_
      refine OA.p (some 113) (.int .i64 ((K : Nat) : Int)) rfl rfl rfl rfl ?_
      refine OA.p (some 10) (.int .i64 ((K : Nat) : Int)) rfl rfl rfl rfl ?_
      refine OA.nil ?_
      intro _
      refine RA.region env_ok ?_
      refine OA.op1 (dst := (some 114)) (v := (.slice (some ⟨n9, 0, none⟩) 0 0)) (n1 := (n9 + 1)) (w := (n9, some (oPth ([] : List Pth)))) rfl rfl rfl (by kernel_rfl) (by omega) ?_
      refine OA.p (some 115) (.slice (some ⟨jq, 0, none⟩) K 2) rfl rfl rfl rfl ?_
      refine OA.op (dst := (some 116)) (v := (.slice (some ⟨(n9 + 1), 0, none⟩) K 0)) (n1 := (n9 + 2)) (d1 := [((n9 + 1), some (oPth l)), (n9, none)]) (D' := [((n9 + 1), some (oPth l)), (n9, none), (n9, some (oPth ([] : List Pth))), (n4, some ⟨[(cAct (acts.getD i dAct))], 4, 91, true⟩), (n4, some ⟨[[(.int .i64 0), (.int .i64 0), (.int .i64 0), (.int .i64 0)]], 4, 91, true⟩), (qn1, some ⟨[[(.slice (some ⟨jp, 0, none⟩) K 2), (.int .i64 ((f : Nat) : Int))]], 2, 131, true⟩), (jp, some (oPth l)), (jq, some (oPth l))]) rfl rfl rfl (r_appendL (c := cPth) (l' := l) rfl rfl rfl rfl rfl rfl rfl rfl rfl rfl (by decide) get_here (gt5 (by omega) get_here) (by rw [show ([] : List Pth).length = 0 from rfl]) (by omega) (by rw [hl]; omega) (by rw [List.nil_append, take_all' (by rw [hl])]) (by omega) (of_decide_eq_true (by kernel_rfl)) (by omega)) (by omega) rfl ?_
      refine OA.p (some 117) (W (BitVec.ofNat 32 (andN (acts.getD i dAct).loc 3))) rfl rfl rfl rfl ?_
      refine OA.p (some 118) (W ((BitVec.ofNat 32 (andN (acts.getD i dAct).loc 3)) + (1#32))) rfl rfl rfl (r_bin rfl rfl rfl (b_addW (BitVec.ofNat 32 (andN (acts.getD i dAct).loc 3)) (1#32))) ?_
      refine OA.p (some 119) (W (BitVec.ofNat 32 (andN (acts.getD i dAct).peer 3))) rfl rfl rfl rfl ?_
      refine OA.p (some 120) (W ((BitVec.ofNat 32 (andN (acts.getD i dAct).peer 3)) + (8#32))) rfl rfl rfl (r_bin rfl rfl rfl (b_addW (BitVec.ofNat 32 (andN (acts.getD i dAct).peer 3)) (8#32))) ?_
      refine OA.callP (dst := (some 121)) (all := [(W ((BitVec.ofNat 32 (andN (acts.getD i dAct).loc 3)) + (1#32))), (W ((BitVec.ofNat 32 (andN (acts.getD i dAct).peer 3)) + (8#32)))]) (v := (.agg ⟨(cPth (newP ((BitVec.ofNat 32 (andN (acts.getD i dAct).loc 3)) + (1#32)) ((BitVec.ofNat 32 (andN (acts.getD i dAct).peer 3)) + (8#32))))⟩)) (hd.of (by omega) (kb8 (by omega))) rfl rfl rfl rfl rfl rfl rfl rfl (pPNew ((BitVec.ofNat 32 (andN (acts.getD i dAct).loc 3)) + (1#32)) ((BitVec.ofNat 32 (andN (acts.getD i dAct).peer 3)) + (8#32))) ?_
      intro n10 hn10
      refine OA.op1 (dst := (some 122)) (v := (.slice (some ⟨n10, 0, none⟩) 1 0)) (n1 := (n10 + 1)) (w := (n10, some ⟨[(xPa82 acts i)], 15, 87, true⟩)) rfl rfl rfl (by kernel_rfl) (by omega) ?_
      refine OA.op (dst := (some 123)) (v := (.slice (some ⟨(n10 + 1), 0, none⟩) (K + 1) 0)) (n1 := (n10 + 2)) (d1 := [((n10 + 1), some (oPth (l ++ [(newP ((BitVec.ofNat 32 (andN (acts.getD i dAct).loc 3)) + (1#32)) ((BitVec.ofNat 32 (andN (acts.getD i dAct).peer 3)) + (8#32)))]))), ((n9 + 1), none)]) (D' := [((n10 + 1), some (oPth (l ++ [(newP ((BitVec.ofNat 32 (andN (acts.getD i dAct).loc 3)) + (1#32)) ((BitVec.ofNat 32 (andN (acts.getD i dAct).peer 3)) + (8#32)))]))), ((n9 + 1), none), (n10, some ⟨[(xPa82 acts i)], 15, 87, true⟩), ((n9 + 1), some (oPth l)), (n9, none), (n9, some (oPth ([] : List Pth))), (n4, some ⟨[(cAct (acts.getD i dAct))], 4, 91, true⟩), (n4, some ⟨[[(.int .i64 0), (.int .i64 0), (.int .i64 0), (.int .i64 0)]], 4, 91, true⟩), (qn1, some ⟨[[(.slice (some ⟨jp, 0, none⟩) K 2), (.int .i64 ((f : Nat) : Int))]], 2, 131, true⟩), (jp, some (oPth l)), (jq, some (oPth l))]) rfl rfl rfl (r_appendR (c := cPth) (l' := (l ++ [(newP ((BitVec.ofNat 32 (andN (acts.getD i dAct).loc 3)) + (1#32)) ((BitVec.ofNat 32 (andN (acts.getD i dAct).peer 3)) + (8#32)))])) rfl rfl rfl rfl rfl rfl rfl rfl rfl rfl (by decide) (get_there (by omega) get_here) get_here (by rw [show l.length = K from hl]) (mp_snoc (c := cPth) (x := (newP ((BitVec.ofNat 32 (andN (acts.getD i dAct).loc 3)) + (1#32)) ((BitVec.ofNat 32 (andN (acts.getD i dAct).peer 3)) + (8#32))))) (by omega) (of_decide_eq_true (by kernel_rfl)) (by omega)) (by omega) rfl ?_
      refine OA.p (some 4) (.slice (some ⟨(n10 + 1), 0, none⟩) (K + 1) 0) rfl rfl rfl rfl ?_
      refine OA.nil ?_
      intro _
      refine RA.weaken (D' := [((n10 + 1), some (oPth (l ++ [(newP ((BitVec.ofNat 32 (andN (acts.getD i dAct).loc 3)) + (1#32)) ((BitVec.ofNat 32 (andN (acts.getD i dAct).peer 3)) + (8#32)))]))), ((n9 + 1), none), (n10, some ⟨[(xPa82 acts i)], 15, 87, true⟩), (n9, none), (n4, some ⟨[(cAct (acts.getD i dAct))], 4, 91, true⟩), (qn1, some ⟨[[(.slice (some ⟨jp, 0, none⟩) K 2), (.int .i64 ((f : Nat) : Int))]], 2, 131, true⟩), (jp, some (oPth l)), (jq, some (oPth l))]) hd (Less.of (fac (mm (fun _ => get_here) (fun _ => get_here)) (fac (mm (fun _ => (get_there (by omega) get_here)) (fun _ => (get_there (by omega) get_here))) (fac (mm (fun _ => (gt2 (by omega) get_here)) (fun _ => (gt2 (by omega) get_here))) (fac (mm (fun _ => (gt3 (by omega) get_here)) (fun _ => (gt4 (by omega) get_here))) (fac (mm (fun _ => (gt4 (by omega) get_here)) (fun _ => (gt6 (by omega) get_here))) (fac (mm (fun _ => (gt5 (by omega) get_here)) (fun _ => (gt8 (by omega) get_here))) (fac (mm (fun _ => (gt6 (by omega) get_here)) (fun _ => (gt9 (by omega) get_here))) (fac (mm (fun _ => (gt7 (by omega) get_here)) (fun _ => (gt10 (by omega) get_here))) fan)))))))) (gone_of (by simp only [goneP, memP, List.cons_append, List.nil_append, true_or, or_true, true_and, and_true, or_false] <;> omega))) ?_
      refine RA.rebase [(0, va), (3, (Pt qn1 0 0)), (4, (.slice (some ⟨(n10 + 1), 0, none⟩) (K + 1) 0)), (5, (.int .i64 ((f : Nat) : Int))), (6, (.int .i64 ((i : Nat) : Int))), (7, (Pt n4 0 0)), (8, (W (BitVec.ofNat 32 (andN (acts.getD i dAct).loc 3)))), (9, (W (BitVec.ofNat 32 (andN (acts.getD i dAct).peer 3)))), (10, (.int .i64 ((K : Nat) : Int))), (31, (.bool true)), (48, (.int .i64 (((andN (acts.getD i dAct).what 3) : Nat) : Int))), (97, (.bool true)), (111, (.bool true))] ⟨rfl, rfl, rfl, rfl, rfl, rfl, rfl, rfl, rfl, rfl, rfl, rfl, rfl, trivial⟩ (fun τr11 => ?_)
      refine RA.seq hd ?_
      refine RA.region env_ok ?_
      refine OA.p (some 124) (Pt qn1 0 0) rfl rfl rfl rfl ?_
      refine OA.p (some 125) (W (BitVec.ofNat 32 (andN (acts.getD i dAct).loc 3))) rfl rfl rfl rfl ?_
      refine OA.p (some 126) (W ((BitVec.ofNat 32 (andN (acts.getD i dAct).loc 3)) + (1#32))) rfl rfl rfl (r_bin rfl rfl rfl (b_addW (BitVec.ofNat 32 (andN (acts.getD i dAct).loc 3)) (1#32))) ?_
      refine OA.p (some 127) (W (BitVec.ofNat 32 (andN (acts.getD i dAct).peer 3))) rfl rfl rfl rfl ?_
      refine OA.p (some 128) (W ((BitVec.ofNat 32 (andN (acts.getD i dAct).peer 3)) + (8#32))) rfl rfl rfl (r_bin rfl rfl rfl (b_addW (BitVec.ofNat 32 (andN (acts.getD i dAct).peer 3)) (8#32))) ?_
      refine OA.call (dst := (some 129)) (all := (xPa86 qn1 acts i)) rfl rfl rfl rfl rfl rfl rfl rfl (CQ.imp (pAddB (hd.of (by omega) (kb8 (by omega))) qn1 jp K f l hl (by omega) (by omega) ((BitVec.ofNat 32 (andN (acts.getD i dAct).loc 3)) + (1#32)) ((BitVec.ofNat 32 (andN (acts.getD i dAct).peer 3)) + (8#32)) (gt5 (by omega) get_here) (gt6 (by omega) get_here) (by omega) (by omega)) ?_)
      rintro _ n12 _ ⟨jnn12, c1n12, c2n12, rfl, rfl⟩ hn12
      show OA _ _ _ _ _ _ _ _ [(qn1, some ⟨[[(.slice (some ⟨jnn12, 0, none⟩) (K + 1) 2), (.int .i64 ((f : Nat) : Int))]], 2, 131, true⟩), (jnn12, some (oPth (l ++ [newP ((BitVec.ofNat 32 (andN (acts.getD i dAct).loc 3)) + (1#32)) ((BitVec.ofNat 32 (andN (acts.getD i dAct).peer 3)) + (8#32))]))), (jp, none), ((n10 + 1), some (oPth (l ++ [(newP ((BitVec.ofNat 32 (andN (acts.getD i dAct).loc 3)) + (1#32)) ((BitVec.ofNat 32 (andN (acts.getD i dAct).peer 3)) + (8#32)))]))), ((n9 + 1), none), (n10, some ⟨[(xPa82 acts i)], 15, 87, true⟩), (n9, none), (n4, some ⟨[(cAct (acts.getD i dAct))], 4, 91, true⟩), (qn1, some ⟨[[(.slice (some ⟨jp, 0, none⟩) K 2), (.int .i64 ((f : Nat) : Int))]], 2, 131, true⟩), (jp, some (oPth l)), (jq, some (oPth l))] _
      refine OA.p (some 130) (.int .i64 ((K : Nat) : Int)) rfl rfl rfl rfl ?_
      refine OA.p (some 131) (.bool false) rfl rfl rfl (r_bin rfl rfl rfl (b_neq (decide_eq_false (fun h => h rfl)))) ?_
      refine OA.nil ?_
      intro _
      refine RA.weaken (D' := [(qn1, some ⟨[[(.slice (some ⟨jnn12, 0, none⟩) (K + 1) 2), (.int .i64 ((f : Nat) : Int))]], 2, 131, true⟩), (jnn12, some (oPth (l ++ [newP ((BitVec.ofNat 32 (andN (acts.getD i dAct).loc 3)) + (1#32)) ((BitVec.ofNat 32 (andN (acts.getD i dAct).peer 3)) + (8#32))]))), (jp, none), ((n10 + 1), some (oPth (l ++ [(newP ((BitVec.ofNat 32 (andN (acts.getD i dAct).loc 3)) + (1#32)) ((BitVec.ofNat 32 (andN (acts.getD i dAct).peer 3)) + (8#32)))]))), ((n9 + 1), none), (n10, some ⟨[(xPa82 acts i)], 15, 87, true⟩), (n9, none), (n4, some ⟨[(cAct (acts.getD i dAct))], 4, 91, true⟩), (jq, some (oPth l))]) hd (Less.of (fac (mm (fun _ => get_here) (fun _ => get_here)) (fac (mm (fun _ => (get_there (by omega) get_here)) (fun _ => (get_there (by omega) get_here))) (fac (mm (fun _ => (gt2 (by omega) get_here)) (fun _ => (gt2 (by omega) get_here))) (fac (mm (fun _ => (gt3 (by omega) get_here)) (fun _ => (gt3 (by omega) get_here))) (fac (mm (fun _ => (gt4 (by omega) get_here)) (fun _ => (gt4 (by omega) get_here))) (fac (mm (fun _ => (gt5 (by omega) get_here)) (fun _ => (gt5 (by omega) get_here))) (fac (mm (fun _ => (gt6 (by omega) get_here)) (fun _ => (gt6 (by omega) get_here))) (fac (mm (fun _ => (gt7 (by omega) get_here)) (fun _ => (gt7 (by omega) get_here))) (fac (mm (fun _ => (gt8 (by omega) get_here)) (fun _ => (gt10 (by omega) get_here))) fan))))))))) (gone_of (by simp only [goneP, memP, List.cons_append, List.nil_append, true_or, or_true, true_and, and_true, or_false] <;> omega))) ?_
      refine RA.condF rfl ?_
      refine RA.skip env_ok ?_
      intro _
      refine RA.leT (t := 4) (v := (.slice (some ⟨(n10 + 1), 0, none⟩) (K + 1) 0)) (v' := (.slice (some ⟨(n10 + 1), 0, none⟩) (K + 1) 2)) rfl (vle_row _ _ _) ?_
      refine RA.seq hd ?_
      refine RA.region env_ok ?_
      refine OA.p (some 226) (Pt qn1 0 0) rfl rfl rfl rfl ?_
      refine OA.p (some 227) (.slice (some ⟨(n10 + 1), 0, none⟩) (K + 1) 2) rfl rfl rfl rfl ?_
      refine OA.p (some 228) (.int .i64 ((f : Nat) : Int)) rfl rfl rfl rfl ?_
      refine OA.p (some 229) (Pt n4 0 3) rfl rfl rfl rfl ?_
      refine OA.p (some 230) (.int .i64 (acts.getD i dAct).num) rfl rfl rfl (r_load1 rfl rfl rfl rfl rfl (gt7 (by omega) get_here) rfl rfl) ?_
      refine OA.callP (dst := (some 231)) (all := [(Pt qn1 0 0), (.slice (some ⟨(n10 + 1), 0, none⟩) (K + 1) 2), (.int .i64 ((f : Nat) : Int)), (.int .i64 (acts.getD i dAct).num)]) (v := (.bool true)) (hd.of (by omega) (kb9 (by omega))) rfl rfl rfl rfl rfl rfl rfl rfl (pSameL qn1 jnn12 (n10 + 1) (K + 1) f (l ++ [newP ((BitVec.ofNat 32 (andN (acts.getD i dAct).loc 3)) + (1#32)) ((BitVec.ofNat 32 (andN (acts.getD i dAct).peer 3)) + (8#32))]) (show (l ++ [newP ((BitVec.ofNat 32 (andN (acts.getD i dAct).loc 3)) + (1#32)) ((BitVec.ofNat 32 (andN (acts.getD i dAct).peer 3)) + (8#32))]).length = K + 1 from by rw [List.length_append, hl]; rfl) (by omega) (by omega) (by omega) (okP_add hok ⟨by omega, by omega⟩ ⟨by omega, by omega⟩) (acts.getD i dAct).num get_here (get_there (by omega) get_here) (gt3 (by omega) get_here)) ?_
      intro n13 hn13
      refine OA.p (some 232) (.bool false) rfl rfl rfl rfl ?_
      refine OA.nil ?_
      intro _
      refine RA.condF rfl ?_
      refine RA.skip env_ok ?_
      intro _
      refine RA.region env_ok ?_
      refine OA.p (some 32) (.int .i64 ((i : Nat) : Int)) rfl rfl rfl rfl ?_
      refine OA.p (some 33) (.int .i64 (((i + 1) : Nat) : Int)) rfl rfl rfl (r_bin rfl rfl rfl (b_add (i64_eq (by omega)))) ?_
      refine OA.p (some 6) (.int .i64 (((i + 1) : Nat) : Int)) rfl rfl rfl rfl ?_
      refine OA.nil ?_
      refine ⟨acts.length - (i + 1), by omega, [(qn1, some ⟨[[(.slice (some ⟨jnn12, 0, none⟩) (K + 1) 2), (.int .i64 ((f : Nat) : Int))]], 2, 131, true⟩), (jnn12, some (oPth (l ++ [newP ((BitVec.ofNat 32 (andN (acts.getD i dAct).loc 3)) + (1#32)) ((BitVec.ofNat 32 (andN (acts.getD i dAct).peer 3)) + (8#32))]))), ((n10 + 1), some (oPth (l ++ [(newP ((BitVec.ofNat 32 (andN (acts.getD i dAct).loc 3)) + (1#32)) ((BitVec.ofNat 32 (andN (acts.getD i dAct).peer 3)) + (8#32)))])))], (Less.of (fac (mm (fun _ => get_here) (fun _ => get_here)) (fac (mm (fun _ => (get_there (by omega) get_here)) (fun _ => (get_there (by omega) get_here))) (fac (mm (fun _ => (gt2 (by omega) get_here)) (fun _ => (gt3 (by omega) get_here))) fan))) (gone_of (by simp only [goneP, memP, List.cons_append, List.nil_append, true_or, or_true, true_and, and_true, or_false] <;> omega))), ⟨(i + 1), jnn12, (K + 1), f, (l ++ [newP ((BitVec.ofNat 32 (andN (acts.getD i dAct).loc 3)) + (1#32)) ((BitVec.ofNat 32 (andN (acts.getD i dAct).peer 3)) + (8#32))]), (n10 + 1), rfl, by omega, ⟨rfl, rfl, rfl, rfl, rfl, trivial⟩, rfl, (kb3 (by omega)), ⟨by omega, show (l ++ [newP ((BitVec.ofNat 32 (andN (acts.getD i dAct).loc 3)) + (1#32)) ((BitVec.ofNat 32 (andN (acts.getD i dAct).peer 3)) + (8#32))]).length = K + 1 from by rw [List.length_append, hl]; rfl, (okP_add hok ⟨by omega, by omega⟩ ⟨by omega, by omega⟩), by omega, by omega, by omega, by omega, by omega, by omega, by omega, by omega⟩⟩⟩
     ·
      refine OA.p (some 110) (.bool false) rfl rfl rfl (Eq.trans (r_bin rfl rfl rfl (b_lss rfl)) (dF hc5)) ?_
      refine OA.p (some 111) (.bool false) rfl rfl rfl rfl ?_
      refine OA.nil ?_
      intro _
      refine RA.condF rfl ?_
      refine RA.skip env_ok ?_
      intro _
      refine RA.seq hd ?_
      refine RA.region env_ok ?_
      refine OA.p (some 124) (Pt qn1 0 0) rfl rfl rfl rfl ?_
      refine OA.p (some 125) (W (BitVec.ofNat 32 (andN (acts.getD i dAct).loc 3))) rfl rfl rfl rfl ?_
      refine OA.p (some 126) (W ((BitVec.ofNat 32 (andN (acts.getD i dAct).loc 3)) + (1#32))) rfl rfl rfl (r_bin rfl rfl rfl (b_addW (BitVec.ofNat 32 (andN (acts.getD i dAct).loc 3)) (1#32))) ?_
      refine OA.p (some 127) (W (BitVec.ofNat 32 (andN (acts.getD i dAct).peer 3))) rfl rfl rfl rfl ?_
      refine OA.p (some 128) (W ((BitVec.ofNat 32 (andN (acts.getD i dAct).peer 3)) + (8#32))) rfl rfl rfl (r_bin rfl rfl rfl (b_addW (BitVec.ofNat 32 (andN (acts.getD i dAct).peer 3)) (8#32))) ?_
      refine OA.call (dst := (some 129)) (all := (xPa86 qn1 acts i)) rfl rfl rfl rfl rfl rfl rfl rfl (CQ.imp (pAddA (hd.of (by omega) (kb5 (by omega))) qn1 jp K f l hl (by omega) (by omega) ((BitVec.ofNat 32 (andN (acts.getD i dAct).loc 3)) + (1#32)) ((BitVec.ofNat 32 (andN (acts.getD i dAct).peer 3)) + (8#32)) (gt2 (by omega) get_here) (gt3 (by omega) get_here) (by omega)) ?_)
      rintro _ n14 _ ⟨jnn14, c1n14, c2n14, rfl, rfl⟩ hn14
      show OA _ _ _ _ _ _ _ _ [(qn1, some ⟨[[(.slice (some ⟨jnn14, 0, none⟩) K 2), (.int .i64 ((f : Nat) : Int))]], 2, 131, true⟩), (jnn14, some (oPth l)), (jp, none), (n4, some ⟨[(cAct (acts.getD i dAct))], 4, 91, true⟩), (n4, some ⟨[[(.int .i64 0), (.int .i64 0), (.int .i64 0), (.int .i64 0)]], 4, 91, true⟩), (qn1, some ⟨[[(.slice (some ⟨jp, 0, none⟩) K 2), (.int .i64 ((f : Nat) : Int))]], 2, 131, true⟩), (jp, some (oPth l)), (jq, some (oPth l))] _
      refine OA.p (some 130) (.int .i64 (idxZ (eqP ((BitVec.ofNat 32 (andN (acts.getD i dAct).loc 3)) + (1#32)) ((BitVec.ofNat 32 (andN (acts.getD i dAct).peer 3)) + (8#32))) l)) rfl rfl rfl rfl ?_
      refine OA.p (some 131) (.bool false) rfl rfl rfl (r_bin rfl rfl rfl (b_neq (decide_eq_false (fun h => h rfl)))) ?_
      refine OA.nil ?_
      intro _
      refine RA.condF rfl ?_
      refine RA.skip env_ok ?_
      intro _
      refine RA.seq hd ?_
      refine RA.region env_ok ?_
      refine OA.p (some 226) (Pt qn1 0 0) rfl rfl rfl rfl ?_
      refine OA.p (some 227) (.slice (some ⟨jq, 0, none⟩) K 2) rfl rfl rfl rfl ?_
      refine OA.p (some 228) (.int .i64 ((f : Nat) : Int)) rfl rfl rfl rfl ?_
      refine OA.p (some 229) (Pt n4 0 3) rfl rfl rfl rfl ?_
      refine OA.p (some 230) (.int .i64 (acts.getD i dAct).num) rfl rfl rfl (r_load1 rfl rfl rfl rfl rfl (gt3 (by omega) get_here) rfl rfl) ?_
      refine OA.callP (dst := (some 231)) (all := (xPa87 qn1 jq K f acts i)) (v := (.bool true)) (hd.of (by omega) (kb8 (by omega))) rfl rfl rfl rfl rfl rfl rfl rfl (pSameL qn1 jnn14 jq K f l (by rw [hl]) (by omega) (by omega) (by omega) hok (acts.getD i dAct).num get_here (get_there (by omega) get_here) (gt7 (by omega) get_here)) ?_
      intro n15 hn15
      refine OA.p (some 232) (.bool false) rfl rfl rfl rfl ?_
      refine OA.nil ?_
      intro _
      refine RA.rebase [(0, va), (3, (Pt qn1 0 0)), (4, (.slice (some ⟨jq, 0, none⟩) K 2)), (5, (.int .i64 ((f : Nat) : Int))), (6, (.int .i64 ((i : Nat) : Int))), (7, (Pt n4 0 0)), (8, (W (BitVec.ofNat 32 (andN (acts.getD i dAct).loc 3)))), (9, (W (BitVec.ofNat 32 (andN (acts.getD i dAct).peer 3)))), (10, (.int .i64 (idxZ (eqP ((BitVec.ofNat 32 (andN (acts.getD i dAct).loc 3)) + (1#32)) ((BitVec.ofNat 32 (andN (acts.getD i dAct).peer 3)) + (8#32))) l))), (31, (.bool true)), (48, (.int .i64 (((andN (acts.getD i dAct).what 3) : Nat) : Int))), (97, (.bool true)), (111, (.bool false)), (131, (.bool false)), (232, (.bool false))] ⟨rfl, rfl, rfl, rfl, rfl, rfl, rfl, rfl, rfl, rfl, rfl, rfl, rfl, rfl, rfl, trivial⟩ (fun τr16 => ?_)
      refine RA.condF rfl ?_
      refine RA.skip env_ok ?_
      intro _
      refine RA.region env_ok ?_
      refine OA.p (some 32) (.int .i64 ((i : Nat) : Int)) rfl rfl rfl rfl ?_
      refine OA.p (some 33) (.int .i64 (((i + 1) : Nat) : Int)) rfl rfl rfl (r_bin rfl rfl rfl (b_add (i64_eq (by omega)))) ?_
      refine OA.p (some 6) (.int .i64 (((i + 1) : Nat) : Int)) rfl rfl rfl rfl ?_
      refine OA.nil ?_
      refine ⟨acts.length - (i + 1), by omega, [(qn1, some ⟨[[(.slice (some ⟨jnn14, 0, none⟩) K 2), (.int .i64 ((f : Nat) : Int))]], 2, 131, true⟩), (jnn14, some (oPth l)), (jq, some (oPth l))], (Less.of (fac (mm (fun _ => get_here) (fun _ => get_here)) (fac (mm (fun _ => (get_there (by omega) get_here)) (fun _ => (get_there (by omega) get_here))) (fac (mm (fun _ => (gt2 (by omega) get_here)) (fun _ => (gt7 (by omega) get_here))) fan))) (gone_of (by simp only [goneP, memP, List.cons_append, List.nil_append, true_or, or_true, true_and, and_true, or_false] <;> omega))), ⟨(i + 1), jnn14, K, f, l, jq, rfl, by omega, ⟨rfl, rfl, rfl, rfl, rfl, trivial⟩, rfl, (kb3 (by omega)), ⟨by omega, by rw [hl], hok, by omega, by omega, by omega, by omega, by omega, by omega, by omega, by omega⟩⟩⟩
    ·
     refine OA.p (some 106) (.bool false) rfl rfl rfl (Eq.trans (r_bin rfl rfl rfl (b_lss rfl)) (dF hc4)) ?_
     refine OA.p (some 107) (.bool false) rfl rfl rfl rfl ?_
     refine OA.off (dst := (some 108)) rfl rfl rfl ?_
     refine OA.off (dst := (some 109)) rfl rfl rfl ?_
     refine OA.off (dst := (some 110)) rfl rfl rfl ?_
     refine OA.p (some 111) (.bool false) rfl rfl rfl rfl ?_
     refine OA.nil ?_
     intro _
     refine RA.condF rfl ?_
     refine RA.skip env_ok ?_
     intro _
     refine RA.seq hd ?_
     refine RA.region env_ok ?_
     refine OA.p (some 124) (Pt qn1 0 0) rfl rfl rfl rfl ?_
     refine OA.p (some 125) (W (BitVec.ofNat 32 (andN (acts.getD i dAct).loc 3))) rfl rfl rfl rfl ?_
     refine OA.p (some 126) (W ((BitVec.ofNat 32 (andN (acts.getD i dAct).loc 3)) + (1#32))) rfl rfl rfl (r_bin rfl rfl rfl (b_addW (BitVec.ofNat 32 (andN (acts.getD i dAct).loc 3)) (1#32))) ?_
     refine OA.p (some 127) (W (BitVec.ofNat 32 (andN (acts.getD i dAct).peer 3))) rfl rfl rfl rfl ?_
     refine OA.p (some 128) (W ((BitVec.ofNat 32 (andN (acts.getD i dAct).peer 3)) + (8#32))) rfl rfl rfl (r_bin rfl rfl rfl (b_addW (BitVec.ofNat 32 (andN (acts.getD i dAct).peer 3)) (8#32))) ?_
     refine OA.call (dst := (some 129)) (all := (xPa86 qn1 acts i)) rfl rfl rfl rfl rfl rfl rfl rfl (CQ.imp (pAddA (hd.of (by omega) (kb5 (by omega))) qn1 jp K f l hl (by omega) (by omega) ((BitVec.ofNat 32 (andN (acts.getD i dAct).loc 3)) + (1#32)) ((BitVec.ofNat 32 (andN (acts.getD i dAct).peer 3)) + (8#32)) (gt2 (by omega) get_here) (gt3 (by omega) get_here) (by omega)) ?_)
     rintro _ n17 _ ⟨jnn17, c1n17, c2n17, rfl, rfl⟩ hn17
     show OA _ _ _ _ _ _ _ _ [(qn1, some ⟨[[(.slice (some ⟨jnn17, 0, none⟩) K 2), (.int .i64 ((f : Nat) : Int))]], 2, 131, true⟩), (jnn17, some (oPth l)), (jp, none), (n4, some ⟨[(cAct (acts.getD i dAct))], 4, 91, true⟩), (n4, some ⟨[[(.int .i64 0), (.int .i64 0), (.int .i64 0), (.int .i64 0)]], 4, 91, true⟩), (qn1, some ⟨[[(.slice (some ⟨jp, 0, none⟩) K 2), (.int .i64 ((f : Nat) : Int))]], 2, 131, true⟩), (jp, some (oPth l)), (jq, some (oPth l))] _
     refine OA.p (some 130) (.int .i64 (idxZ (eqP ((BitVec.ofNat 32 (andN (acts.getD i dAct).loc 3)) + (1#32)) ((BitVec.ofNat 32 (andN (acts.getD i dAct).peer 3)) + (8#32))) l)) rfl rfl rfl rfl ?_
     refine OA.p (some 131) (.bool false) rfl rfl rfl (r_bin rfl rfl rfl (b_neq (decide_eq_false (fun h => h rfl)))) ?_
     refine OA.nil ?_
     intro _
     refine RA.condF rfl ?_
     refine RA.skip env_ok ?_
     intro _
     refine RA.seq hd ?_
     refine RA.region env_ok ?_
     refine OA.p (some 226) (Pt qn1 0 0) rfl rfl rfl rfl ?_
     refine OA.p (some 227) (.slice (some ⟨jq, 0, none⟩) K 2) rfl rfl rfl rfl ?_
     refine OA.p (some 228) (.int .i64 ((f : Nat) : Int)) rfl rfl rfl rfl ?_
     refine OA.p (some 229) (Pt n4 0 3) rfl rfl rfl rfl ?_
     refine OA.p (some 230) (.int .i64 (acts.getD i dAct).num) rfl rfl rfl (r_load1 rfl rfl rfl rfl rfl (gt3 (by omega) get_here) rfl rfl) ?_
     refine OA.callP (dst := (some 231)) (all := (xPa87 qn1 jq K f acts i)) (v := (.bool true)) (hd.of (by omega) (kb8 (by omega))) rfl rfl rfl rfl rfl rfl rfl rfl (pSameL qn1 jnn17 jq K f l (by rw [hl]) (by omega) (by omega) (by omega) hok (acts.getD i dAct).num get_here (get_there (by omega) get_here) (gt7 (by omega) get_here)) ?_
     intro n18 hn18
     refine OA.p (some 232) (.bool false) rfl rfl rfl rfl ?_
     refine OA.nil ?_
     intro _
     refine RA.rebase [(0, va), (3, (Pt qn1 0 0)), (4, (.slice (some ⟨jq, 0, none⟩) K 2)), (5, (.int .i64 ((f : Nat) : Int))), (6, (.int .i64 ((i : Nat) : Int))), (7, (Pt n4 0 0)), (8, (W (BitVec.ofNat 32 (andN (acts.getD i dAct).loc 3)))), (9, (W (BitVec.ofNat 32 (andN (acts.getD i dAct).peer 3)))), (10, (.int .i64 (idxZ (eqP ((BitVec.ofNat 32 (andN (acts.getD i dAct).loc 3)) + (1#32)) ((BitVec.ofNat 32 (andN (acts.getD i dAct).peer 3)) + (8#32))) l))), (31, (.bool true)), (48, (.int .i64 (((andN (acts.getD i dAct).what 3) : Nat) : Int))), (97, (.bool true)), (111, (.bool false)), (131, (.bool false)), (232, (.bool false))] ⟨rfl, rfl, rfl, rfl, rfl, rfl, rfl, rfl, rfl, rfl, rfl, rfl, rfl, rfl, rfl, trivial⟩ (fun τr19 => ?_)
     refine RA.condF rfl ?_
     refine RA.skip env_ok ?_
     intro _
     refine RA.region env_ok ?_
     refine OA.p (some 32) (.int .i64 ((i : Nat) : Int)) rfl rfl rfl rfl ?_
     refine OA.p (some 33) (.int .i64 (((i + 1) : Nat) : Int)) rfl rfl rfl (r_bin rfl rfl rfl (b_add (i64_eq (by omega)))) ?_
     refine OA.p (some 6) (.int .i64 (((i + 1) : Nat) : Int)) rfl rfl rfl rfl ?_
     refine OA.nil ?_
     refine ⟨acts.length - (i + 1), by omega, [(qn1, some ⟨[[(.slice (some ⟨jnn17, 0, none⟩) K 2), (.int .i64 ((f : Nat) : Int))]], 2, 131, true⟩), (jnn17, some (oPth l)), (jq, some (oPth l))], (Less.of (fac (mm (fun _ => get_here) (fun _ => get_here)) (fac (mm (fun _ => (get_there (by omega) get_here)) (fun _ => (get_there (by omega) get_here))) (fac (mm (fun _ => (gt2 (by omega) get_here)) (fun _ => (gt7 (by omega) get_here))) fan))) (gone_of (by simp only [goneP, memP, List.cons_append, List.nil_append, true_or, or_true, true_and, and_true, or_false] <;> omega))), ⟨(i + 1), jnn17, K, f, l, jq, rfl, by omega, ⟨rfl, rfl, rfl, rfl, rfl, trivial⟩, rfl, (kb3 (by omega)), ⟨by omega, by rw [hl], hok, by omega, by omega, by omega, by omega, by omega, by omega, by omega, by omega⟩⟩⟩
   ·
    refine OA.p (some 98) (.bool false) rfl rfl rfl (Eq.trans (r_bin rfl rfl rfl (b_eql rfl)) (dF hc3)) ?_
    refine OA.p (some 97) (.bool false) rfl rfl rfl rfl ?_
    refine OA.nil ?_
    intro _
    refine RA.condF rfl ?_
    refine RA.seq hd ?_
    refine RA.region env_ok ?_
    by_cases hc6 : (((andN (acts.getD i dAct).what 3) : Nat) : Int) = 1
    ·
     refine OA.p (some 133) (.bool true) rfl rfl rfl (Eq.trans (r_bin rfl rfl rfl (b_eql rfl)) (dT hc6)) ?_
     refine OA.p (some 132) (.bool true) rfl rfl rfl rfl ?_
     refine OA.nil ?_
     intro _
     refine RA.condT rfl ?_
     refine RA.seq hd ?_
     refine RA.region env_ok ?_
     refine OA.p (some 11) (.int .u32 0) rfl rfl rfl rfl ?_
     refine OA.nil ?_
     intro _
     refine RA.seq hd (RA.imp (Q := fun x τ' n' D' => x = .normal ∧ ((∃ to : BitVec 32, Has τ' [(0, va), (3, (Pt qn1 0 0)), (4, (.slice (some ⟨jq, 0, none⟩) K 2)), (5, (.int .i64 ((f : Nat) : Int))), (6, (.int .i64 ((i : Nat) : Int))), (7, (Pt n4 0 0)), (8, (W (BitVec.ofNat 32 (andN (acts.getD i dAct).loc 3)))), (11, (W to))] ∧ (∃ D2, Less n n' D' D2 ∧ D2 = [(qn1, some ⟨[[(.slice (some ⟨jp, 0, none⟩) K 2), (.int .i64 ((f : Nat) : Int))]], 2, 131, true⟩), (jp, some (oPth l)), (jq, some (oPth l)), (n4, some ⟨[(cAct (acts.getD i dAct))], 4, 91, true⟩)]) ∧ (n4 + 1) ≤ n' ∧ (∀ i_ ∈ keys [(qn1, some ⟨[[(.slice (some ⟨jp, 0, none⟩) K 2), (.int .i64 ((f : Nat) : Int))]], 2, 131, true⟩), (jp, some (oPth l)), (jq, some (oPth l)), (n4, some ⟨[(cAct (acts.getD i dAct))], 4, 91, true⟩)], i_ < n') ∧ True))) ?_ ?_)
     ·
      refine RA.seq hd ?_
      refine RA.region env_ok ?_
      refine OA.p (some 134) (W (BitVec.ofNat 32 (andN (acts.getD i dAct).peer 3))) rfl rfl rfl rfl ?_
      by_cases hc7 : 0 < ((BitVec.ofNat 32 (andN (acts.getD i dAct).peer 3)).toNat : Int)
      ·
       refine OA.p (some 135) (.bool true) rfl rfl rfl (Eq.trans (r_bin rfl rfl rfl (b_gtr rfl)) (dT hc7)) ?_
       refine OA.nil ?_
       intro _
       refine RA.condT rfl ?_
       refine RA.region env_ok ?_
       refine OA.p (some 136) (W (BitVec.ofNat 32 (andN (acts.getD i dAct).peer 3))) rfl rfl rfl rfl ?_
       refine OA.p (some 137) (W ((BitVec.ofNat 32 (andN (acts.getD i dAct).peer 3)) + (8#32))) rfl rfl rfl (r_bin rfl rfl rfl (b_addW (BitVec.ofNat 32 (andN (acts.getD i dAct).peer 3)) (8#32))) ?_
       refine OA.p (some 11) (W ((BitVec.ofNat 32 (andN (acts.getD i dAct).peer 3)) + (8#32))) rfl rfl rfl rfl ?_
       refine OA.nil ?_
       exact ⟨rfl, ⟨((BitVec.ofNat 32 (andN (acts.getD i dAct).peer 3)) + (8#32)), ⟨rfl, rfl, rfl, rfl, rfl, rfl, rfl, rfl, trivial⟩, ⟨[(qn1, some ⟨[[(.slice (some ⟨jp, 0, none⟩) K 2), (.int .i64 ((f : Nat) : Int))]], 2, 131, true⟩), (jp, some (oPth l)), (jq, some (oPth l)), (n4, some ⟨[(cAct (acts.getD i dAct))], 4, 91, true⟩)], (Less.of (fac (mm (fun _ => get_here) (fun _ => (gt2 (by omega) get_here))) (fac (mm (fun _ => (get_there (by omega) get_here)) (fun _ => (gt3 (by omega) get_here))) (fac (mm (fun _ => (gt2 (by omega) get_here)) (fun _ => (gt4 (by omega) get_here))) (fac (mm (fun _ => (gt3 (by omega) get_here)) (fun _ => get_here)) fan)))) (gone_of (by simp only [goneP, memP, List.cons_append, List.nil_append, true_or, or_true, true_and, and_true, or_false] <;> omega))), rfl⟩, by omega, (kb4 (by omega)), trivial⟩⟩
      ·
       refine OA.p (some 135) (.bool false) rfl rfl rfl (Eq.trans (r_bin rfl rfl rfl (b_gtr rfl)) (dF hc7)) ?_
       refine OA.nil ?_
       intro _
       refine RA.condF rfl ?_
       refine RA.skip env_ok ?_
       exact ⟨rfl, ⟨0#32, ⟨rfl, rfl, rfl, rfl, rfl, rfl, rfl, rfl, trivial⟩, ⟨[(qn1, some ⟨[[(.slice (some ⟨jp, 0, none⟩) K 2), (.int .i64 ((f : Nat) : Int))]], 2, 131, true⟩), (jp, some (oPth l)), (jq, some (oPth l)), (n4, some ⟨[(cAct (acts.getD i dAct))], 4, 91, true⟩)], (Less.of (fac (mm (fun _ => get_here) (fun _ => (gt2 (by omega) get_here))) (fac (mm (fun _ => (get_there (by omega) get_here)) (fun _ => (gt3 (by omega) get_here))) (fac (mm (fun _ => (gt2 (by omega) get_here)) (fun _ => (gt4 (by omega) get_here))) (fac (mm (fun _ => (gt3 (by omega) get_here)) (fun _ => get_here)) fan)))) (gone_of (by simp only [goneP, memP, List.cons_append, List.nil_append, true_or, or_true, true_and, and_true, or_false] <;> omega))), rfl⟩, by omega, (kb4 (by omega)), trivial⟩⟩
     ·
      rintro _ τ20 n20 Dn20 hmn20 ⟨rfl, hSn20⟩
      rcases hSn20 with ⟨to, hHn20, ⟨_, hLn20, rfl⟩, hn20, hKn20, hIn20⟩
      intro _
      refine RA.weaken hd hLn20 ?_
      rw [Has.eq hHn20]
      have hKn20_0 : qn1 < n20 := hKn20 _ (by simp only [keys, List.map_cons, List.map_nil, List.mem_cons, true_or, or_true])
      have hKn20_1 : jp < n20 := hKn20 _ (by simp only [keys, List.map_cons, List.map_nil, List.mem_cons, true_or, or_true])
      have hKn20_2 : jq < n20 := hKn20 _ (by simp only [keys, List.map_cons, List.map_nil, List.mem_cons, true_or, or_true])
      have hKn20_3 : n4 < n20 := hKn20 _ (by simp only [keys, List.map_cons, List.map_nil, List.mem_cons, true_or, or_true])
      clear hKn20
      refine RA.seq hd ?_
      refine RA.region env_ok ?_
      refine OA.p (some 138) (.slice (some ⟨jq, 0, none⟩) K 2) rfl rfl rfl rfl ?_
      refine OA.p (some 139) (W (BitVec.ofNat 32 (andN (acts.getD i dAct).loc 3))) rfl rfl rfl rfl ?_
      refine OA.p (some 140) (W to) rfl rfl rfl rfl ?_
      refine OA.p (some 141) (Pt n4 0 3) rfl rfl rfl rfl ?_
      refine OA.p (some 142) (.int .i64 (acts.getD i dAct).num) rfl rfl rfl (r_load1 rfl rfl rfl rfl rfl (gt3 (by omega) get_here) rfl rfl) ?_
      refine OA.p (some 143) (.int .i64 ((f : Nat) : Int)) rfl rfl rfl rfl ?_
      obtain ⟨M, hM⟩ : ∃ M, (drL l (BitVec.ofNat 32 (andN (acts.getD i dAct).loc 3)) to (acts.getD i dAct).num ((f : Nat) : Int)).length = M := ⟨_, rfl⟩
      have hM0 : 0 < M := by rw [← hM]; exact drL_pos
      have hM8 : M ≤ K := by rw [← hM]; exact drL_le hl (by omega)
      have hokd : okI K (drL l (BitVec.ofNat 32 (andN (acts.getD i dAct).loc 3)) to (acts.getD i dAct).num ((f : Nat) : Int)) := drL_ok hl hf
      have hatf : atF f (drL l (BitVec.ofNat 32 (andN (acts.getD i dAct).loc 3)) to (acts.getD i dAct).num ((f : Nat) : Int)) < M := by rw [← hM]; exact atF_lt (by rw [hM]; exact hM0)
      refine OA.call (dst := (some 144)) (all := [(.slice (some ⟨jq, 0, none⟩) K 2), (W (BitVec.ofNat 32 (andN (acts.getD i dAct).loc 3))), (W to), (.int .i64 (acts.getD i dAct).num), (.int .i64 ((f : Nat) : Int))]) rfl rfl rfl rfl rfl rfl rfl rfl (CQ.imp (pDropR2 (hd.of (by omega) (kb4 (by omega))) jq K l hl (by omega) (BitVec.ofNat 32 (andN (acts.getD i dAct).loc 3)) to (acts.getD i dAct).num ((f : Nat) : Int) M hM (gt2 (by omega) get_here)) ?_)
      rintro _ n21 _ ⟨iln21, d1n21, d2n21, rfl, rfl⟩ hn21
      refine OA.app1 ?_
      refine OA.p (some 12) (.slice (some ⟨iln21, 0, none⟩) M 2) rfl rfl rfl rfl ?_
      refine OA.nil ?_
      intro _
      refine RA.seq hd ?_
      refine RA.region env_ok ?_
      refine OA.p (some 145) (Pt qn1 0 0) rfl rfl rfl rfl ?_
      refine OA.p (some 146) (W (BitVec.ofNat 32 (andN (acts.getD i dAct).loc 3))) rfl rfl rfl rfl ?_
      refine OA.p (some 147) (W to) rfl rfl rfl rfl ?_
      refine OA.p (some 148) (Pt n4 0 3) rfl rfl rfl rfl ?_
      refine OA.p (some 149) (.int .i64 (acts.getD i dAct).num) rfl rfl rfl (r_load1 rfl rfl rfl rfl rfl (gt4 (by omega) get_here) rfl rfl) ?_
      refine OA.call (dst := (some 150)) (all := [(Pt qn1 0 0), (W (BitVec.ofNat 32 (andN (acts.getD i dAct).loc 3))), (W to), (.int .i64 (acts.getD i dAct).num)]) rfl rfl rfl rfl rfl rfl rfl rfl (CQ.imp (pDrop2 (hd.of (by omega) (kb5 (by omega))) qn1 jp K f l hl (by omega) (by omega) hf (BitVec.ofNat 32 (andN (acts.getD i dAct).loc 3)) to (acts.getD i dAct).num M hM (get_there (by omega) get_here) (gt2 (by omega) get_here)) ?_)
      rintro _ n22 _ ⟨ign22, j2n22, e1n22, e2n22, e3n22, e4n22, e5n22, rfl, rfl⟩ hn22
      show OA _ _ _ _ _ _ _ _ [(qn1, some ⟨[(xPa85 j2n22 M f l acts i to)], 2, 131, true⟩), (ign22, some (oInn (drL l (BitVec.ofNat 32 (andN (acts.getD i dAct).loc 3)) to (acts.getD i dAct).num ((f : Nat) : Int)))), (j2n22, some (oPth (restA l (drL l (BitVec.ofNat 32 (andN (acts.getD i dAct).loc 3)) to (acts.getD i dAct).num ((f : Nat) : Int))))), (iln21, some (oInn (drL l (BitVec.ofNat 32 (andN (acts.getD i dAct).loc 3)) to (acts.getD i dAct).num ((f : Nat) : Int)))), (qn1, some ⟨[[(.slice (some ⟨jp, 0, none⟩) K 2), (.int .i64 ((f : Nat) : Int))]], 2, 131, true⟩), (jp, some (oPth l)), (jq, some (oPth l)), (n4, some ⟨[(cAct (acts.getD i dAct))], 4, 91, true⟩)] _
      refine OA.p (some 13) (.slice (some ⟨ign22, 0, none⟩) M 2) rfl rfl rfl rfl ?_
      refine OA.nil ?_
      intro _
      refine RA.weaken (D' := [(qn1, some ⟨[(xPa85 j2n22 M f l acts i to)], 2, 131, true⟩), (ign22, some (oInn (drL l (BitVec.ofNat 32 (andN (acts.getD i dAct).loc 3)) to (acts.getD i dAct).num ((f : Nat) : Int)))), (j2n22, some (oPth (restA l (drL l (BitVec.ofNat 32 (andN (acts.getD i dAct).loc 3)) to (acts.getD i dAct).num ((f : Nat) : Int))))), (iln21, some (oInn (drL l (BitVec.ofNat 32 (andN (acts.getD i dAct).loc 3)) to (acts.getD i dAct).num ((f : Nat) : Int)))), (jp, some (oPth l)), (jq, some (oPth l)), (n4, some ⟨[(cAct (acts.getD i dAct))], 4, 91, true⟩)]) hd (Less.of (fac (mm (fun _ => get_here) (fun _ => get_here)) (fac (mm (fun _ => (get_there (by omega) get_here)) (fun _ => (get_there (by omega) get_here))) (fac (mm (fun _ => (gt2 (by omega) get_here)) (fun _ => (gt2 (by omega) get_here))) (fac (mm (fun _ => (gt3 (by omega) get_here)) (fun _ => (gt3 (by omega) get_here))) (fac (mm (fun _ => (gt4 (by omega) get_here)) (fun _ => (gt5 (by omega) get_here))) (fac (mm (fun _ => (gt5 (by omega) get_here)) (fun _ => (gt6 (by omega) get_here))) (fac (mm (fun _ => (gt6 (by omega) get_here)) (fun _ => (gt7 (by omega) get_here))) fan))))))) (gone_of (by simp only [goneP, memP, List.cons_append, List.nil_append, true_or, or_true, true_and, and_true, or_false] <;> omega))) ?_
      refine RA.seq hd ?_
      refine RA.region env_ok ?_
      refine OA.op1 (dst := (some 151)) (v := (.slice (some ⟨n22, 0, none⟩) 0 0)) (n1 := (n22 + 1)) (w := (n22, some (oPth ([] : List Pth)))) rfl rfl rfl (by kernel_rfl) (by omega) ?_
      refine OA.p (some 14) (.slice (some ⟨n22, 0, none⟩) 0 0) rfl rfl rfl rfl ?_
      refine OA.p (some 15) (.int .i64 0) rfl rfl rfl rfl ?_
      refine OA.nil ?_
      intro _
      refine RA.seq hd ?_
      refine RA.seq hd ?_
      refine RA.region env_ok ?_
      refine OA.p (some 16) (.int .i64 0) rfl rfl rfl rfl ?_
      refine OA.nil ?_
      intro _
      refine RA.block ?_
      refine RA.leT (t := 14) (v := (.slice (some ⟨n22, 0, none⟩) 0 0)) (v' := (.slice (some ⟨n22, 0, none⟩) 0 2)) rfl (vle_row _ _ _) ?_
      refine RA.weaken (D' := [(qn1, some ⟨[(xPa85 j2n22 M f l acts i to)], 2, 131, true⟩), (j2n22, some (oPth (restA l (drL l (BitVec.ofNat 32 (andN (acts.getD i dAct).loc 3)) to (acts.getD i dAct).num ((f : Nat) : Int))))), (jq, some (oPth l)), (iln21, some (oInn (drL l (BitVec.ofNat 32 (andN (acts.getD i dAct).loc 3)) to (acts.getD i dAct).num ((f : Nat) : Int)))), (ign22, some (oInn (drL l (BitVec.ofNat 32 (andN (acts.getD i dAct).loc 3)) to (acts.getD i dAct).num ((f : Nat) : Int)))), (n4, some ⟨[(cAct (acts.getD i dAct))], 4, 91, true⟩), (n22, some (oPth ([] : List Pth)))]) hd (Less.of (fac (mm (fun _ => get_here) (fun _ => (get_there (by omega) get_here))) (fac (mm (fun _ => (get_there (by omega) get_here)) (fun _ => (gt3 (by omega) get_here))) (fac (mm (fun _ => (gt2 (by omega) get_here)) (fun _ => (gt6 (by omega) get_here))) (fac (mm (fun _ => (gt3 (by omega) get_here)) (fun _ => (gt4 (by omega) get_here))) (fac (mm (fun _ => (gt4 (by omega) get_here)) (fun _ => (gt2 (by omega) get_here))) (fac (mm (fun _ => (gt5 (by omega) get_here)) (fun _ => (gt7 (by omega) get_here))) (fac (mm (fun _ => (gt6 (by omega) get_here)) (fun _ => get_here)) fan))))))) (gone_of (by simp only [goneP, memP, List.cons_append, List.nil_append, true_or, or_true, true_and, and_true, or_false] <;> omega))) ?_
      refine RA.loop hd (fun kk_ τ n' D => (∃ k : Nat, ∃ kr : Nat, ∃ o : Nat, kk_ = M - k ∧ (n22 + 1) ≤ n' ∧ Has τ [(0, va), (3, (Pt qn1 0 0)), (4, (.slice (some ⟨jq, 0, none⟩) K 2)), (5, (.int .i64 ((f : Nat) : Int))), (6, (.int .i64 ((i : Nat) : Int))), (7, (Pt n4 0 0)), (12, (.slice (some ⟨iln21, 0, none⟩) M 2)), (13, (.slice (some ⟨ign22, 0, none⟩) M 2)), (14, (.slice (some ⟨kr, 0, none⟩) k 2)), (15, (.int .i64 ((o : Nat) : Int))), (16, (.int .i64 ((k : Nat) : Int)))] ∧ D = [(qn1, some ⟨[(xPa85 j2n22 M f l acts i to)], 2, 131, true⟩), (j2n22, some (oPth (restA l (drL l (BitVec.ofNat 32 (andN (acts.getD i dAct).loc 3)) to (acts.getD i dAct).num ((f : Nat) : Int))))), (jq, some (oPth l)), (iln21, some (oInn (drL l (BitVec.ofNat 32 (andN (acts.getD i dAct).loc 3)) to (acts.getD i dAct).num ((f : Nat) : Int)))), (ign22, some (oInn (drL l (BitVec.ofNat 32 (andN (acts.getD i dAct).loc 3)) to (acts.getD i dAct).num ((f : Nat) : Int)))), (n4, some ⟨[(cAct (acts.getD i dAct))], 4, 91, true⟩), (kr, some (oPth (restL l (drL l (BitVec.ofNat 32 (andN (acts.getD i dAct).loc 3)) to (acts.getD i dAct).num ((f : Nat) : Int)) k)))] ∧ (∀ i ∈ keys D, i < n') ∧ k ≤ M ∧ atP (drL l (BitVec.ofNat 32 (andN (acts.getD i dAct).loc 3)) to (acts.getD i dAct).num ((f : Nat) : Int)) f k o ∧ n ≤ kr ∧ kr ≠ qn1 ∧ kr ≠ j2n22 ∧ kr ≠ jq ∧ kr ≠ iln21 ∧ kr ≠ ign22 ∧ kr ≠ n4)) (M - 0) (⟨0, n22, 0, rfl, by omega, ⟨rfl, rfl, rfl, rfl, rfl, rfl, rfl, rfl, rfl, rfl, rfl, trivial⟩, (by rfl), (kb7 (by omega)), ⟨by omega, atP_0, by omega, by omega, by omega, by omega, by omega, by omega, by omega⟩⟩) ?_
      rintro kn23 τ23 n23 _ ⟨k, kr, o, rfl, hn23, hHn23, rfl, hKn23, hIn23⟩
      rw [Has.eq hHn23]
      have hKn23_0 : qn1 < n23 := hKn23 _ (by simp only [keys, List.map_cons, List.map_nil, List.mem_cons, true_or, or_true])
      have hKn23_1 : j2n22 < n23 := hKn23 _ (by simp only [keys, List.map_cons, List.map_nil, List.mem_cons, true_or, or_true])
      have hKn23_2 : jq < n23 := hKn23 _ (by simp only [keys, List.map_cons, List.map_nil, List.mem_cons, true_or, or_true])
      have hKn23_3 : iln21 < n23 := hKn23 _ (by simp only [keys, List.map_cons, List.map_nil, List.mem_cons, true_or, or_true])
      have hKn23_4 : ign22 < n23 := hKn23 _ (by simp only [keys, List.map_cons, List.map_nil, List.mem_cons, true_or, or_true])
      have hKn23_5 : n4 < n23 := hKn23 _ (by simp only [keys, List.map_cons, List.map_nil, List.mem_cons, true_or, or_true])
      have hKn23_6 : kr < n23 := hKn23 _ (by simp only [keys, List.map_cons, List.map_nil, List.mem_cons, true_or, or_true])
      clear hKn23
      obtain ⟨hk1, hk2, hr0, hr1, hr2, hr3, hr4, hr5, hr6⟩ := hIn23
      refine RA.seq hd ?_
      refine RA.seq hd ?_
      refine RA.region env_ok ?_
      refine OA.p (some 152) (.int .i64 ((k : Nat) : Int)) rfl rfl rfl rfl ?_
      refine OA.p (some 153) (.slice (some ⟨iln21, 0, none⟩) M 2) rfl rfl rfl rfl ?_
      refine OA.p (some 154) (.int .i64 ((M : Nat) : Int)) rfl rfl rfl rfl ?_
      by_cases hc8 : ((k : Nat) : Int) < ((M : Nat) : Int)
      ·
       have hz := hokd _ (getD_mem (d := dInn) (l := (drL l (BitVec.ofNat 32 (andN (acts.getD i dAct).loc 3)) to (acts.getD i dAct).num ((f : Nat) : Int))) (i := k) (by omega))
       refine OA.p (some 155) (.bool true) rfl rfl rfl (Eq.trans (r_bin rfl rfl rfl (b_lss rfl)) (dT hc8)) ?_
       refine OA.nil ?_
       intro _
       refine RA.condT rfl ?_
       refine RA.skip env_ok ?_
       intro _
       refine RA.seq hd ?_
       refine RA.block ?_
       refine RA.seq hd ?_
       refine RA.region env_ok ?_
       refine OA.p (some 158) (.slice (some ⟨kr, 0, none⟩) k 2) rfl rfl rfl rfl ?_
       refine OA.p (some 159) (.slice (some ⟨jq, 0, none⟩) K 2) rfl rfl rfl rfl ?_
       refine OA.p (some 160) (.slice (some ⟨iln21, 0, none⟩) M 2) rfl rfl rfl rfl ?_
       refine OA.p (some 161) (.int .i64 ((k : Nat) : Int)) rfl rfl rfl rfl ?_
       refine OA.p (some 162) (Pt iln21 k 0) rfl rfl rfl (r_iaS (l := k) rfl rfl rfl rfl rfl rfl (by omega) (by omega) (gt3 (by omega) get_here) rfl (by omega)) ?_
       refine OA.p (some 163) (.int .i64 ((drL l (BitVec.ofNat 32 (andN (acts.getD i dAct).loc 3)) to (acts.getD i dAct).num ((f : Nat) : Int)).getD k dInn).z) rfl rfl rfl (r_loadF (c := cInn) dInn rfl rfl rfl rfl rfl (gt3 (by omega) get_here) (by rw [hM]; omega) rfl) ?_
       refine OA.p (some 164) (.pointer (some ⟨jq, ((drL l (BitVec.ofNat 32 (andN (acts.getD i dAct).loc 3)) to (acts.getD i dAct).num ((f : Nat) : Int)).getD k dInn).z.toNat, some 0⟩)) rfl rfl rfl (r_iaS (l := ((drL l (BitVec.ofNat 32 (andN (acts.getD i dAct).loc 3)) to (acts.getD i dAct).num ((f : Nat) : Int)).getD k dInn).z.toNat) rfl rfl rfl rfl rfl rfl (by omega) (by omega) (gt2 (by omega) get_here) rfl (by omega)) ?_
       refine OA.p (some 165) (.agg ⟨(cPth (l.getD ((drL l (BitVec.ofNat 32 (andN (acts.getD i dAct).loc 3)) to (acts.getD i dAct).num ((f : Nat) : Int)).getD k dInn).z.toNat dPth))⟩) rfl rfl rfl (r_loadR (c := cPth) dPth rfl rfl rfl rfl (gt2 (by omega) get_here) (by rw [hl]; omega) rfl) ?_
       refine OA.op1 (dst := (some 166)) (v := (.slice (some ⟨n23, 0, none⟩) 1 0)) (n1 := (n23 + 1)) (w := (n23, some ⟨[(xPa81 l acts i to f k)], 15, 87, true⟩)) rfl rfl rfl (by kernel_rfl) (by omega) ?_
       refine OA.op (dst := (some 167)) (v := (.slice (some ⟨(n23 + 1), 0, none⟩) (k + 1) 2)) (n1 := (n23 + 2)) (d1 := [((n23 + 1), some (oPth ((restL l (drL l (BitVec.ofNat 32 (andN (acts.getD i dAct).loc 3)) to (acts.getD i dAct).num ((f : Nat) : Int)) k) ++ [(l.getD ((drL l (BitVec.ofNat 32 (andN (acts.getD i dAct).loc 3)) to (acts.getD i dAct).num ((f : Nat) : Int)).getD k dInn).z.toNat dPth)]))), (kr, none)]) (D' := [((n23 + 1), some (oPth ((restL l (drL l (BitVec.ofNat 32 (andN (acts.getD i dAct).loc 3)) to (acts.getD i dAct).num ((f : Nat) : Int)) k) ++ [(l.getD ((drL l (BitVec.ofNat 32 (andN (acts.getD i dAct).loc 3)) to (acts.getD i dAct).num ((f : Nat) : Int)).getD k dInn).z.toNat dPth)]))), (kr, none), (n23, some ⟨[(xPa81 l acts i to f k)], 15, 87, true⟩), (qn1, some ⟨[(xPa85 j2n22 M f l acts i to)], 2, 131, true⟩), (j2n22, some (oPth (restA l (drL l (BitVec.ofNat 32 (andN (acts.getD i dAct).loc 3)) to (acts.getD i dAct).num ((f : Nat) : Int))))), (jq, some (oPth l)), (iln21, some (oInn (drL l (BitVec.ofNat 32 (andN (acts.getD i dAct).loc 3)) to (acts.getD i dAct).num ((f : Nat) : Int)))), (ign22, some (oInn (drL l (BitVec.ofNat 32 (andN (acts.getD i dAct).loc 3)) to (acts.getD i dAct).num ((f : Nat) : Int)))), (n4, some ⟨[(cAct (acts.getD i dAct))], 4, 91, true⟩), (kr, some (oPth (restL l (drL l (BitVec.ofNat 32 (andN (acts.getD i dAct).loc 3)) to (acts.getD i dAct).num ((f : Nat) : Int)) k)))]) rfl rfl rfl (r_append2x (c := cPth) (x := (l.getD ((drL l (BitVec.ofNat 32 (andN (acts.getD i dAct).loc 3)) to (acts.getD i dAct).num ((f : Nat) : Int)).getD k dInn).z.toNat dPth)) (l' := ((restL l (drL l (BitVec.ofNat 32 (andN (acts.getD i dAct).loc 3)) to (acts.getD i dAct).num ((f : Nat) : Int)) k) ++ [(l.getD ((drL l (BitVec.ofNat 32 (andN (acts.getD i dAct).loc 3)) to (acts.getD i dAct).num ((f : Nat) : Int)).getD k dInn).z.toNat dPth)])) rfl rfl rfl rfl rfl rfl rfl rfl rfl rfl (by decide) (gt7 (by omega) get_here) get_here (by rw [show (restL l (drL l (BitVec.ofNat 32 (andN (acts.getD i dAct).loc 3)) to (acts.getD i dAct).num ((f : Nat) : Int)) k).length = k from restL_len (by omega)]; omega) (by rw [take_all' (show (restL l (drL l (BitVec.ofNat 32 (andN (acts.getD i dAct).loc 3)) to (acts.getD i dAct).num ((f : Nat) : Int)) k).length = k from restL_len (by omega))]) (by omega) (of_decide_eq_true (by kernel_rfl)) (by omega)) (by omega) rfl ?_
       refine OA.p (some 14) (.slice (some ⟨(n23 + 1), 0, none⟩) (k + 1) 2) rfl rfl rfl rfl ?_
       refine OA.nil ?_
       intro _
       refine RA.weaken (D' := [((n23 + 1), some (oPth ((restL l (drL l (BitVec.ofNat 32 (andN (acts.getD i dAct).loc 3)) to (acts.getD i dAct).num ((f : Nat) : Int)) k) ++ [(l.getD ((drL l (BitVec.ofNat 32 (andN (acts.getD i dAct).loc 3)) to (acts.getD i dAct).num ((f : Nat) : Int)).getD k dInn).z.toNat dPth)]))), (kr, none), (n23, some ⟨[(xPa81 l acts i to f k)], 15, 87, true⟩), (qn1, some ⟨[(xPa85 j2n22 M f l acts i to)], 2, 131, true⟩), (j2n22, some (oPth (restA l (drL l (BitVec.ofNat 32 (andN (acts.getD i dAct).loc 3)) to (acts.getD i dAct).num ((f : Nat) : Int))))), (jq, some (oPth l)), (iln21, some (oInn (drL l (BitVec.ofNat 32 (andN (acts.getD i dAct).loc 3)) to (acts.getD i dAct).num ((f : Nat) : Int)))), (ign22, some (oInn (drL l (BitVec.ofNat 32 (andN (acts.getD i dAct).loc 3)) to (acts.getD i dAct).num ((f : Nat) : Int)))), (n4, some ⟨[(cAct (acts.getD i dAct))], 4, 91, true⟩)]) hd (Less.of (fac (mm (fun _ => get_here) (fun _ => get_here)) (fac (mm (fun _ => (get_there (by omega) get_here)) (fun _ => (get_there (by omega) get_here))) (fac (mm (fun _ => (gt2 (by omega) get_here)) (fun _ => (gt2 (by omega) get_here))) (fac (mm (fun _ => (gt3 (by omega) get_here)) (fun _ => (gt3 (by omega) get_here))) (fac (mm (fun _ => (gt4 (by omega) get_here)) (fun _ => (gt4 (by omega) get_here))) (fac (mm (fun _ => (gt5 (by omega) get_here)) (fun _ => (gt5 (by omega) get_here))) (fac (mm (fun _ => (gt6 (by omega) get_here)) (fun _ => (gt6 (by omega) get_here))) (fac (mm (fun _ => (gt7 (by omega) get_here)) (fun _ => (gt7 (by omega) get_here))) (fac (mm (fun _ => (gt8 (by omega) get_here)) (fun _ => (gt8 (by omega) get_here))) fan))))))))) (gone_of (by simp only [goneP, memP, List.cons_append, List.nil_append, true_or, or_true, true_and, and_true, or_false] <;> omega))) ?_
       refine RA.seq hd ?_
       refine RA.seq hd ?_
       refine RA.region env_ok ?_
       refine OA.p (some 168) (.slice (some ⟨iln21, 0, none⟩) M 2) rfl rfl rfl rfl ?_
       refine OA.p (some 169) (.int .i64 ((k : Nat) : Int)) rfl rfl rfl rfl ?_
       refine OA.p (some 170) (Pt iln21 k 0) rfl rfl rfl (r_iaS (l := k) rfl rfl rfl rfl rfl rfl (by omega) (by omega) (gt6 (by omega) get_here) rfl (by omega)) ?_
       refine OA.p (some 171) (.int .i64 ((drL l (BitVec.ofNat 32 (andN (acts.getD i dAct).loc 3)) to (acts.getD i dAct).num ((f : Nat) : Int)).getD k dInn).z) rfl rfl rfl (r_loadF (c := cInn) dInn rfl rfl rfl rfl rfl (gt6 (by omega) get_here) (by rw [hM]; omega) rfl) ?_
       refine OA.p (some 172) (.int .i64 ((f : Nat) : Int)) rfl rfl rfl rfl ?_
       by_cases hc9 : ((drL l (BitVec.ofNat 32 (andN (acts.getD i dAct).loc 3)) to (acts.getD i dAct).num ((f : Nat) : Int)).getD k dInn).z = ((f : Nat) : Int)
       ·
        refine OA.p (some 173) (.bool true) rfl rfl rfl (Eq.trans (r_bin rfl rfl rfl (b_eql rfl)) (dT hc9)) ?_
        refine OA.nil ?_
        intro _
        refine RA.condT rfl ?_
        refine RA.region env_ok ?_
        refine OA.p (some 174) (.int .i64 ((k : Nat) : Int)) rfl rfl rfl rfl ?_
        refine OA.p (some 15) (.int .i64 ((k : Nat) : Int)) rfl rfl rfl rfl ?_
        refine OA.nil ?_
        intro _
        refine RA.seq hd ?_
        refine RA.par (md := [some [], some [], some [], some [], some [], some [], some [], some [ign22], some [ign22], some [], some [], some [iln21], some [iln21], some [], some []]) env_ok (hd.of (by omega) (kb9 (by omega))) (by kernel_rfl) ?_
        refine PQ.pure (dst := (some 175)) (v := (.int .i64 ((k : Nat) : Int))) rfl rfl rfl noStore (none_ok _ _) rfl ?_
        refine PQ.pure (dst := (some 176)) (v := (.slice (some ⟨ign22, 0, none⟩) M 2)) rfl rfl rfl noStore (none_ok _ _) rfl ?_
        refine PQ.pure (dst := (some 177)) (v := (.int .i64 ((M : Nat) : Int))) rfl rfl rfl noStore (none_ok _ _) rfl ?_
        have hc10 : ¬ (((M : Nat) : Int) ≤ ((k : Nat) : Int)) := fun hdd => by exfalso; omega
        refine PQ.pure (dst := (some 178)) (v := (.bool false)) rfl rfl rfl noStore (none_ok _ _) (Eq.trans (r_bin rfl rfl rfl (b_geq rfl)) (dF hc10)) ?_
        refine PQ.pure (dst := (some 179)) (v := (.bool false)) rfl rfl rfl noStore (none_ok _ _) rfl ?_
        refine PQ.pure (dst := (some 180)) (v := (.slice (some ⟨ign22, 0, none⟩) M 2)) rfl rfl rfl noStore (none_ok _ _) rfl ?_
        refine PQ.pure (dst := (some 181)) (v := (.int .i64 ((k : Nat) : Int))) rfl rfl rfl noStore (none_ok _ _) rfl ?_
        refine PQ.pure (dst := (some 182)) (v := (Pt ign22 k 0)) rfl rfl rfl (app [(ign22, some (oInn (drL l (BitVec.ofNat 32 (andN (acts.getD i dAct).loc 3)) to (acts.getD i dAct).num ((f : Nat) : Int))))] noStore) (seen_one (V := []) (D := [((n23 + 1), some (oPth ((restL l (drL l (BitVec.ofNat 32 (andN (acts.getD i dAct).loc 3)) to (acts.getD i dAct).num ((f : Nat) : Int)) k) ++ [(l.getD ((drL l (BitVec.ofNat 32 (andN (acts.getD i dAct).loc 3)) to (acts.getD i dAct).num ((f : Nat) : Int)).getD k dInn).z.toNat dPth)]))), (kr, none), (n23, some ⟨[(xPa81 l acts i to f k)], 15, 87, true⟩), (qn1, some ⟨[(xPa85 j2n22 M f l acts i to)], 2, 131, true⟩), (j2n22, some (oPth (restA l (drL l (BitVec.ofNat 32 (andN (acts.getD i dAct).loc 3)) to (acts.getD i dAct).num ((f : Nat) : Int))))), (jq, some (oPth l)), (iln21, some (oInn (drL l (BitVec.ofNat 32 (andN (acts.getD i dAct).loc 3)) to (acts.getD i dAct).num ((f : Nat) : Int)))), (ign22, some (oInn (drL l (BitVec.ofNat 32 (andN (acts.getD i dAct).loc 3)) to (acts.getD i dAct).num ((f : Nat) : Int)))), (n4, some ⟨[(cAct (acts.getD i dAct))], 4, 91, true⟩)]) (by kernel_rfl) (gt7 (by omega) get_here)) (r_iaS (l := k) rfl rfl rfl rfl rfl rfl (by omega) (by omega) get_here rfl (by omega)) ?_
        refine PQ.pure (dst := (some 183)) (v := (.int .i64 ((drL l (BitVec.ofNat 32 (andN (acts.getD i dAct).loc 3)) to (acts.getD i dAct).num ((f : Nat) : Int)).getD k dInn).z)) rfl rfl rfl (app [(ign22, some (oInn (drL l (BitVec.ofNat 32 (andN (acts.getD i dAct).loc 3)) to (acts.getD i dAct).num ((f : Nat) : Int))))] noStore) (seen_one (V := []) (D := [((n23 + 1), some (oPth ((restL l (drL l (BitVec.ofNat 32 (andN (acts.getD i dAct).loc 3)) to (acts.getD i dAct).num ((f : Nat) : Int)) k) ++ [(l.getD ((drL l (BitVec.ofNat 32 (andN (acts.getD i dAct).loc 3)) to (acts.getD i dAct).num ((f : Nat) : Int)).getD k dInn).z.toNat dPth)]))), (kr, none), (n23, some ⟨[(xPa81 l acts i to f k)], 15, 87, true⟩), (qn1, some ⟨[(xPa85 j2n22 M f l acts i to)], 2, 131, true⟩), (j2n22, some (oPth (restA l (drL l (BitVec.ofNat 32 (andN (acts.getD i dAct).loc 3)) to (acts.getD i dAct).num ((f : Nat) : Int))))), (jq, some (oPth l)), (iln21, some (oInn (drL l (BitVec.ofNat 32 (andN (acts.getD i dAct).loc 3)) to (acts.getD i dAct).num ((f : Nat) : Int)))), (ign22, some (oInn (drL l (BitVec.ofNat 32 (andN (acts.getD i dAct).loc 3)) to (acts.getD i dAct).num ((f : Nat) : Int)))), (n4, some ⟨[(cAct (acts.getD i dAct))], 4, 91, true⟩)]) (by kernel_rfl) (gt7 (by omega) get_here)) (r_loadF (c := cInn) dInn rfl rfl rfl rfl rfl get_here (by rw [hM]; omega) rfl) ?_
        refine PQ.pure (dst := (some 184)) (v := (.slice (some ⟨iln21, 0, none⟩) M 2)) rfl rfl rfl noStore (none_ok _ _) rfl ?_
        refine PQ.pure (dst := (some 185)) (v := (.int .i64 ((k : Nat) : Int))) rfl rfl rfl noStore (none_ok _ _) rfl ?_
        refine PQ.pure (dst := (some 186)) (v := (Pt iln21 k 0)) rfl rfl rfl (app [(iln21, some (oInn (drL l (BitVec.ofNat 32 (andN (acts.getD i dAct).loc 3)) to (acts.getD i dAct).num ((f : Nat) : Int))))] noStore) (seen_one (V := []) (D := [((n23 + 1), some (oPth ((restL l (drL l (BitVec.ofNat 32 (andN (acts.getD i dAct).loc 3)) to (acts.getD i dAct).num ((f : Nat) : Int)) k) ++ [(l.getD ((drL l (BitVec.ofNat 32 (andN (acts.getD i dAct).loc 3)) to (acts.getD i dAct).num ((f : Nat) : Int)).getD k dInn).z.toNat dPth)]))), (kr, none), (n23, some ⟨[(xPa81 l acts i to f k)], 15, 87, true⟩), (qn1, some ⟨[(xPa85 j2n22 M f l acts i to)], 2, 131, true⟩), (j2n22, some (oPth (restA l (drL l (BitVec.ofNat 32 (andN (acts.getD i dAct).loc 3)) to (acts.getD i dAct).num ((f : Nat) : Int))))), (jq, some (oPth l)), (iln21, some (oInn (drL l (BitVec.ofNat 32 (andN (acts.getD i dAct).loc 3)) to (acts.getD i dAct).num ((f : Nat) : Int)))), (ign22, some (oInn (drL l (BitVec.ofNat 32 (andN (acts.getD i dAct).loc 3)) to (acts.getD i dAct).num ((f : Nat) : Int)))), (n4, some ⟨[(cAct (acts.getD i dAct))], 4, 91, true⟩)]) (by kernel_rfl) (gt6 (by omega) get_here)) (r_iaS (l := k) rfl rfl rfl rfl rfl rfl (by omega) (by omega) get_here rfl (by omega)) ?_
        refine PQ.pure (dst := (some 187)) (v := (.int .i64 ((drL l (BitVec.ofNat 32 (andN (acts.getD i dAct).loc 3)) to (acts.getD i dAct).num ((f : Nat) : Int)).getD k dInn).z)) rfl rfl rfl (app [(iln21, some (oInn (drL l (BitVec.ofNat 32 (andN (acts.getD i dAct).loc 3)) to (acts.getD i dAct).num ((f : Nat) : Int))))] noStore) (seen_one (V := []) (D := [((n23 + 1), some (oPth ((restL l (drL l (BitVec.ofNat 32 (andN (acts.getD i dAct).loc 3)) to (acts.getD i dAct).num ((f : Nat) : Int)) k) ++ [(l.getD ((drL l (BitVec.ofNat 32 (andN (acts.getD i dAct).loc 3)) to (acts.getD i dAct).num ((f : Nat) : Int)).getD k dInn).z.toNat dPth)]))), (kr, none), (n23, some ⟨[(xPa81 l acts i to f k)], 15, 87, true⟩), (qn1, some ⟨[(xPa85 j2n22 M f l acts i to)], 2, 131, true⟩), (j2n22, some (oPth (restA l (drL l (BitVec.ofNat 32 (andN (acts.getD i dAct).loc 3)) to (acts.getD i dAct).num ((f : Nat) : Int))))), (jq, some (oPth l)), (iln21, some (oInn (drL l (BitVec.ofNat 32 (andN (acts.getD i dAct).loc 3)) to (acts.getD i dAct).num ((f : Nat) : Int)))), (ign22, some (oInn (drL l (BitVec.ofNat 32 (andN (acts.getD i dAct).loc 3)) to (acts.getD i dAct).num ((f : Nat) : Int)))), (n4, some ⟨[(cAct (acts.getD i dAct))], 4, 91, true⟩)]) (by kernel_rfl) (gt6 (by omega) get_here)) (r_loadF (c := cInn) dInn rfl rfl rfl rfl rfl get_here (by rw [hM]; omega) rfl) ?_
        refine PQ.pure (dst := (some 188)) (v := (.bool false)) rfl rfl rfl noStore (none_ok _ _) (r_bin rfl rfl rfl (b_neq (decide_eq_false (fun h => h rfl)))) ?_
        refine PQ.pure (dst := (some 189)) (v := (.bool false)) rfl rfl rfl noStore (none_ok _ _) rfl ?_
        refine PQ.done (d := []) (by kernel_rfl) ?_
        intro _
        refine RA.rebase [(0, va), (3, (Pt qn1 0 0)), (4, (.slice (some ⟨jq, 0, none⟩) K 2)), (5, (.int .i64 ((f : Nat) : Int))), (6, (.int .i64 ((i : Nat) : Int))), (7, (Pt n4 0 0)), (12, (.slice (some ⟨iln21, 0, none⟩) M 2)), (13, (.slice (some ⟨ign22, 0, none⟩) M 2)), (14, (.slice (some ⟨(n23 + 1), 0, none⟩) (k + 1) 2)), (15, (.int .i64 ((k : Nat) : Int))), (16, (.int .i64 ((k : Nat) : Int))), (155, (.bool true)), (173, (.bool true)), (189, (.bool false))] ⟨rfl, rfl, rfl, rfl, rfl, rfl, rfl, rfl, rfl, rfl, rfl, rfl, rfl, rfl, trivial⟩ (fun τr24 => ?_)
        refine RA.condF rfl ?_
        refine RA.skip env_ok ?_
        intro _
        refine RA.region env_ok ?_
        refine OA.p (some 156) (.int .i64 ((k : Nat) : Int)) rfl rfl rfl rfl ?_
        refine OA.p (some 157) (.int .i64 (((k + 1) : Nat) : Int)) rfl rfl rfl (r_bin rfl rfl rfl (b_add (i64_eq (by omega)))) ?_
        refine OA.p (some 16) (.int .i64 (((k + 1) : Nat) : Int)) rfl rfl rfl rfl ?_
        refine OA.nil ?_
        refine ⟨M - (k + 1), by omega, [(qn1, some ⟨[(xPa85 j2n22 M f l acts i to)], 2, 131, true⟩), (j2n22, some (oPth (restA l (drL l (BitVec.ofNat 32 (andN (acts.getD i dAct).loc 3)) to (acts.getD i dAct).num ((f : Nat) : Int))))), (jq, some (oPth l)), (iln21, some (oInn (drL l (BitVec.ofNat 32 (andN (acts.getD i dAct).loc 3)) to (acts.getD i dAct).num ((f : Nat) : Int)))), (ign22, some (oInn (drL l (BitVec.ofNat 32 (andN (acts.getD i dAct).loc 3)) to (acts.getD i dAct).num ((f : Nat) : Int)))), (n4, some ⟨[(cAct (acts.getD i dAct))], 4, 91, true⟩), ((n23 + 1), some (oPth ((restL l (drL l (BitVec.ofNat 32 (andN (acts.getD i dAct).loc 3)) to (acts.getD i dAct).num ((f : Nat) : Int)) k) ++ [(l.getD ((drL l (BitVec.ofNat 32 (andN (acts.getD i dAct).loc 3)) to (acts.getD i dAct).num ((f : Nat) : Int)).getD k dInn).z.toNat dPth)])))], (Less.of (fac (mm (fun _ => get_here) (fun _ => (gt3 (by omega) get_here))) (fac (mm (fun _ => (get_there (by omega) get_here)) (fun _ => (gt4 (by omega) get_here))) (fac (mm (fun _ => (gt2 (by omega) get_here)) (fun _ => (gt5 (by omega) get_here))) (fac (mm (fun _ => (gt3 (by omega) get_here)) (fun _ => (gt6 (by omega) get_here))) (fac (mm (fun _ => (gt4 (by omega) get_here)) (fun _ => (gt7 (by omega) get_here))) (fac (mm (fun _ => (gt5 (by omega) get_here)) (fun _ => (gt8 (by omega) get_here))) (fac (mm (fun _ => (gt6 (by omega) get_here)) (fun _ => get_here)) fan))))))) (gone_of (by simp only [goneP, memP, List.cons_append, List.nil_append, true_or, or_true, true_and, and_true, or_false] <;> omega))), ⟨(k + 1), (n23 + 1), k, rfl, by omega, ⟨rfl, rfl, rfl, rfl, rfl, rfl, rfl, rfl, rfl, rfl, rfl, trivial⟩, (by rw [restL_step (by omega)]), (kb7 (by omega)), ⟨by omega, atP_y (o := 0) drL_asc (by omega) hc9, by omega, by omega, by omega, by omega, by omega, by omega, by omega⟩⟩⟩
       ·
        refine OA.p (some 173) (.bool false) rfl rfl rfl (Eq.trans (r_bin rfl rfl rfl (b_eql rfl)) (dF hc9)) ?_
        refine OA.nil ?_
        intro _
        refine RA.condF rfl ?_
        refine RA.skip env_ok ?_
        intro _
        refine RA.seq hd ?_
        refine RA.par (md := [some [], some [], some [], some [], some [], some [], some [], some [ign22], some [ign22], some [], some [], some [iln21], some [iln21], some [], some []]) env_ok (hd.of (by omega) (kb9 (by omega))) (by kernel_rfl) ?_
        refine PQ.pure (dst := (some 175)) (v := (.int .i64 ((k : Nat) : Int))) rfl rfl rfl noStore (none_ok _ _) rfl ?_
        refine PQ.pure (dst := (some 176)) (v := (.slice (some ⟨ign22, 0, none⟩) M 2)) rfl rfl rfl noStore (none_ok _ _) rfl ?_
        refine PQ.pure (dst := (some 177)) (v := (.int .i64 ((M : Nat) : Int))) rfl rfl rfl noStore (none_ok _ _) rfl ?_
        have hc11 : ¬ (((M : Nat) : Int) ≤ ((k : Nat) : Int)) := fun hdd => by exfalso; omega
        refine PQ.pure (dst := (some 178)) (v := (.bool false)) rfl rfl rfl noStore (none_ok _ _) (Eq.trans (r_bin rfl rfl rfl (b_geq rfl)) (dF hc11)) ?_
        refine PQ.pure (dst := (some 179)) (v := (.bool false)) rfl rfl rfl noStore (none_ok _ _) rfl ?_
        refine PQ.pure (dst := (some 180)) (v := (.slice (some ⟨ign22, 0, none⟩) M 2)) rfl rfl rfl noStore (none_ok _ _) rfl ?_
        refine PQ.pure (dst := (some 181)) (v := (.int .i64 ((k : Nat) : Int))) rfl rfl rfl noStore (none_ok _ _) rfl ?_
        refine PQ.pure (dst := (some 182)) (v := (Pt ign22 k 0)) rfl rfl rfl (app [(ign22, some (oInn (drL l (BitVec.ofNat 32 (andN (acts.getD i dAct).loc 3)) to (acts.getD i dAct).num ((f : Nat) : Int))))] noStore) (seen_one (V := []) (D := [((n23 + 1), some (oPth ((restL l (drL l (BitVec.ofNat 32 (andN (acts.getD i dAct).loc 3)) to (acts.getD i dAct).num ((f : Nat) : Int)) k) ++ [(l.getD ((drL l (BitVec.ofNat 32 (andN (acts.getD i dAct).loc 3)) to (acts.getD i dAct).num ((f : Nat) : Int)).getD k dInn).z.toNat dPth)]))), (kr, none), (n23, some ⟨[(xPa81 l acts i to f k)], 15, 87, true⟩), (qn1, some ⟨[(xPa85 j2n22 M f l acts i to)], 2, 131, true⟩), (j2n22, some (oPth (restA l (drL l (BitVec.ofNat 32 (andN (acts.getD i dAct).loc 3)) to (acts.getD i dAct).num ((f : Nat) : Int))))), (jq, some (oPth l)), (iln21, some (oInn (drL l (BitVec.ofNat 32 (andN (acts.getD i dAct).loc 3)) to (acts.getD i dAct).num ((f : Nat) : Int)))), (ign22, some (oInn (drL l (BitVec.ofNat 32 (andN (acts.getD i dAct).loc 3)) to (acts.getD i dAct).num ((f : Nat) : Int)))), (n4, some ⟨[(cAct (acts.getD i dAct))], 4, 91, true⟩)]) (by kernel_rfl) (gt7 (by omega) get_here)) (r_iaS (l := k) rfl rfl rfl rfl rfl rfl (by omega) (by omega) get_here rfl (by omega)) ?_
        refine PQ.pure (dst := (some 183)) (v := (.int .i64 ((drL l (BitVec.ofNat 32 (andN (acts.getD i dAct).loc 3)) to (acts.getD i dAct).num ((f : Nat) : Int)).getD k dInn).z)) rfl rfl rfl (app [(ign22, some (oInn (drL l (BitVec.ofNat 32 (andN (acts.getD i dAct).loc 3)) to (acts.getD i dAct).num ((f : Nat) : Int))))] noStore) (seen_one (V := []) (D := [((n23 + 1), some (oPth ((restL l (drL l (BitVec.ofNat 32 (andN (acts.getD i dAct).loc 3)) to (acts.getD i dAct).num ((f : Nat) : Int)) k) ++ [(l.getD ((drL l (BitVec.ofNat 32 (andN (acts.getD i dAct).loc 3)) to (acts.getD i dAct).num ((f : Nat) : Int)).getD k dInn).z.toNat dPth)]))), (kr, none), (n23, some ⟨[(xPa81 l acts i to f k)], 15, 87, true⟩), (qn1, some ⟨[(xPa85 j2n22 M f l acts i to)], 2, 131, true⟩), (j2n22, some (oPth (restA l (drL l (BitVec.ofNat 32 (andN (acts.getD i dAct).loc 3)) to (acts.getD i dAct).num ((f : Nat) : Int))))), (jq, some (oPth l)), (iln21, some (oInn (drL l (BitVec.ofNat 32 (andN (acts.getD i dAct).loc 3)) to (acts.getD i dAct).num ((f : Nat) : Int)))), (ign22, some (oInn (drL l (BitVec.ofNat 32 (andN (acts.getD i dAct).loc 3)) to (acts.getD i dAct).num ((f : Nat) : Int)))), (n4, some ⟨[(cAct (acts.getD i dAct))], 4, 91, true⟩)]) (by kernel_rfl) (gt7 (by omega) get_here)) (r_loadF (c := cInn) dInn rfl rfl rfl rfl rfl get_here (by rw [hM]; omega) rfl) ?_
        refine PQ.pure (dst := (some 184)) (v := (.slice (some ⟨iln21, 0, none⟩) M 2)) rfl rfl rfl noStore (none_ok _ _) rfl ?_
        refine PQ.pure (dst := (some 185)) (v := (.int .i64 ((k : Nat) : Int))) rfl rfl rfl noStore (none_ok _ _) rfl ?_
        refine PQ.pure (dst := (some 186)) (v := (Pt iln21 k 0)) rfl rfl rfl (app [(iln21, some (oInn (drL l (BitVec.ofNat 32 (andN (acts.getD i dAct).loc 3)) to (acts.getD i dAct).num ((f : Nat) : Int))))] noStore) (seen_one (V := []) (D := [((n23 + 1), some (oPth ((restL l (drL l (BitVec.ofNat 32 (andN (acts.getD i dAct).loc 3)) to (acts.getD i dAct).num ((f : Nat) : Int)) k) ++ [(l.getD ((drL l (BitVec.ofNat 32 (andN (acts.getD i dAct).loc 3)) to (acts.getD i dAct).num ((f : Nat) : Int)).getD k dInn).z.toNat dPth)]))), (kr, none), (n23, some ⟨[(xPa81 l acts i to f k)], 15, 87, true⟩), (qn1, some ⟨[(xPa85 j2n22 M f l acts i to)], 2, 131, true⟩), (j2n22, some (oPth (restA l (drL l (BitVec.ofNat 32 (andN (acts.getD i dAct).loc 3)) to (acts.getD i dAct).num ((f : Nat) : Int))))), (jq, some (oPth l)), (iln21, some (oInn (drL l (BitVec.ofNat 32 (andN (acts.getD i dAct).loc 3)) to (acts.getD i dAct).num ((f : Nat) : Int)))), (ign22, some (oInn (drL l (BitVec.ofNat 32 (andN (acts.getD i dAct).loc 3)) to (acts.getD i dAct).num ((f : Nat) : Int)))), (n4, some ⟨[(cAct (acts.getD i dAct))], 4, 91, true⟩)]) (by kernel_rfl) (gt6 (by omega) get_here)) (r_iaS (l := k) rfl rfl rfl rfl rfl rfl (by omega) (by omega) get_here rfl (by omega)) ?_
        refine PQ.pure (dst := (some 187)) (v := (.int .i64 ((drL l (BitVec.ofNat 32 (andN (acts.getD i dAct).loc 3)) to (acts.getD i dAct).num ((f : Nat) : Int)).getD k dInn).z)) rfl rfl rfl (app [(iln21, some (oInn (drL l (BitVec.ofNat 32 (andN (acts.getD i dAct).loc 3)) to (acts.getD i dAct).num ((f : Nat) : Int))))] noStore) (seen_one (V := []) (D := [((n23 + 1), some (oPth ((restL l (drL l (BitVec.ofNat 32 (andN (acts.getD i dAct).loc 3)) to (acts.getD i dAct).num ((f : Nat) : Int)) k) ++ [(l.getD ((drL l (BitVec.ofNat 32 (andN (acts.getD i dAct).loc 3)) to (acts.getD i dAct).num ((f : Nat) : Int)).getD k dInn).z.toNat dPth)]))), (kr, none), (n23, some ⟨[(xPa81 l acts i to f k)], 15, 87, true⟩), (qn1, some ⟨[(xPa85 j2n22 M f l acts i to)], 2, 131, true⟩), (j2n22, some (oPth (restA l (drL l (BitVec.ofNat 32 (andN (acts.getD i dAct).loc 3)) to (acts.getD i dAct).num ((f : Nat) : Int))))), (jq, some (oPth l)), (iln21, some (oInn (drL l (BitVec.ofNat 32 (andN (acts.getD i dAct).loc 3)) to (acts.getD i dAct).num ((f : Nat) : Int)))), (ign22, some (oInn (drL l (BitVec.ofNat 32 (andN (acts.getD i dAct).loc 3)) to (acts.getD i dAct).num ((f : Nat) : Int)))), (n4, some ⟨[(cAct (acts.getD i dAct))], 4, 91, true⟩)]) (by kernel_rfl) (gt6 (by omega) get_here)) (r_loadF (c := cInn) dInn rfl rfl rfl rfl rfl get_here (by rw [hM]; omega) rfl) ?_
        refine PQ.pure (dst := (some 188)) (v := (.bool false)) rfl rfl rfl noStore (none_ok _ _) (r_bin rfl rfl rfl (b_neq (decide_eq_false (fun h => h rfl)))) ?_
        refine PQ.pure (dst := (some 189)) (v := (.bool false)) rfl rfl rfl noStore (none_ok _ _) rfl ?_
        refine PQ.done (d := []) (by kernel_rfl) ?_
        intro _
        refine RA.rebase [(0, va), (3, (Pt qn1 0 0)), (4, (.slice (some ⟨jq, 0, none⟩) K 2)), (5, (.int .i64 ((f : Nat) : Int))), (6, (.int .i64 ((i : Nat) : Int))), (7, (Pt n4 0 0)), (12, (.slice (some ⟨iln21, 0, none⟩) M 2)), (13, (.slice (some ⟨ign22, 0, none⟩) M 2)), (14, (.slice (some ⟨(n23 + 1), 0, none⟩) (k + 1) 2)), (15, (.int .i64 ((o : Nat) : Int))), (16, (.int .i64 ((k : Nat) : Int))), (155, (.bool true)), (173, (.bool false)), (189, (.bool false))] ⟨rfl, rfl, rfl, rfl, rfl, rfl, rfl, rfl, rfl, rfl, rfl, rfl, rfl, rfl, trivial⟩ (fun τr25 => ?_)
        refine RA.condF rfl ?_
        refine RA.skip env_ok ?_
        intro _
        refine RA.region env_ok ?_
        refine OA.p (some 156) (.int .i64 ((k : Nat) : Int)) rfl rfl rfl rfl ?_
        refine OA.p (some 157) (.int .i64 (((k + 1) : Nat) : Int)) rfl rfl rfl (r_bin rfl rfl rfl (b_add (i64_eq (by omega)))) ?_
        refine OA.p (some 16) (.int .i64 (((k + 1) : Nat) : Int)) rfl rfl rfl rfl ?_
        refine OA.nil ?_
        refine ⟨M - (k + 1), by omega, [(qn1, some ⟨[(xPa85 j2n22 M f l acts i to)], 2, 131, true⟩), (j2n22, some (oPth (restA l (drL l (BitVec.ofNat 32 (andN (acts.getD i dAct).loc 3)) to (acts.getD i dAct).num ((f : Nat) : Int))))), (jq, some (oPth l)), (iln21, some (oInn (drL l (BitVec.ofNat 32 (andN (acts.getD i dAct).loc 3)) to (acts.getD i dAct).num ((f : Nat) : Int)))), (ign22, some (oInn (drL l (BitVec.ofNat 32 (andN (acts.getD i dAct).loc 3)) to (acts.getD i dAct).num ((f : Nat) : Int)))), (n4, some ⟨[(cAct (acts.getD i dAct))], 4, 91, true⟩), ((n23 + 1), some (oPth ((restL l (drL l (BitVec.ofNat 32 (andN (acts.getD i dAct).loc 3)) to (acts.getD i dAct).num ((f : Nat) : Int)) k) ++ [(l.getD ((drL l (BitVec.ofNat 32 (andN (acts.getD i dAct).loc 3)) to (acts.getD i dAct).num ((f : Nat) : Int)).getD k dInn).z.toNat dPth)])))], (Less.of (fac (mm (fun _ => get_here) (fun _ => (gt3 (by omega) get_here))) (fac (mm (fun _ => (get_there (by omega) get_here)) (fun _ => (gt4 (by omega) get_here))) (fac (mm (fun _ => (gt2 (by omega) get_here)) (fun _ => (gt5 (by omega) get_here))) (fac (mm (fun _ => (gt3 (by omega) get_here)) (fun _ => (gt6 (by omega) get_here))) (fac (mm (fun _ => (gt4 (by omega) get_here)) (fun _ => (gt7 (by omega) get_here))) (fac (mm (fun _ => (gt5 (by omega) get_here)) (fun _ => (gt8 (by omega) get_here))) (fac (mm (fun _ => (gt6 (by omega) get_here)) (fun _ => get_here)) fan))))))) (gone_of (by simp only [goneP, memP, List.cons_append, List.nil_append, true_or, or_true, true_and, and_true, or_false] <;> omega))), ⟨(k + 1), (n23 + 1), o, rfl, by omega, ⟨rfl, rfl, rfl, rfl, rfl, rfl, rfl, rfl, rfl, rfl, rfl, trivial⟩, (by rw [restL_step (by omega)]), (kb7 (by omega)), ⟨by omega, atP_n hc9 hk2, by omega, by omega, by omega, by omega, by omega, by omega, by omega⟩⟩⟩
      ·
       refine OA.p (some 155) (.bool false) rfl rfl rfl (Eq.trans (r_bin rfl rfl rfl (b_lss rfl)) (dF hc8)) ?_
       refine OA.nil ?_
       intro _
       refine RA.condF rfl ?_
       refine RA.exit env_ok ?_
       intro _
       have hko : k = M := by omega
       have hoo : o = atF f (drL l (BitVec.ofNat 32 (andN (acts.getD i dAct).loc 3)) to (acts.getD i dAct).num ((f : Nat) : Int)) := atP_end (by omega) hk2
       rw [hoo, hko]
       rw [restL_end (l := l) (k := M) (show (drL l (BitVec.ofNat 32 (andN (acts.getD i dAct).loc 3)) to (acts.getD i dAct).num ((f : Nat) : Int)).length ≤ M by omega)]
       refine RA.seq hd ?_
       refine RA.seq hd ?_
       refine RA.region env_ok ?_
       refine OA.p (some 190) (.slice (some ⟨ign22, 0, none⟩) M 2) rfl rfl rfl rfl ?_
       refine OA.p (some 191) (.int .i64 ((M : Nat) : Int)) rfl rfl rfl rfl ?_
       refine OA.p (some 192) (.slice (some ⟨iln21, 0, none⟩) M 2) rfl rfl rfl rfl ?_
       refine OA.p (some 193) (.int .i64 ((M : Nat) : Int)) rfl rfl rfl rfl ?_
       refine OA.p (some 194) (.bool false) rfl rfl rfl (r_bin rfl rfl rfl (b_neq (decide_eq_false (fun h => h rfl)))) ?_
       refine OA.nil ?_
       intro _
       refine RA.condF rfl ?_
       refine RA.skip env_ok ?_
       intro _
       refine RA.region env_ok ?_
       refine OA.p (some 195) (.slice (some ⟨kr, 0, none⟩) M 2) rfl rfl rfl rfl ?_
       refine OA.p (some 196) (.int .i64 (((atF f (drL l (BitVec.ofNat 32 (andN (acts.getD i dAct).loc 3)) to (acts.getD i dAct).num ((f : Nat) : Int))) : Nat) : Int)) rfl rfl rfl rfl ?_
       refine OA.p (some 4) (.slice (some ⟨kr, 0, none⟩) M 2) rfl rfl rfl rfl ?_
       refine OA.p (some 5) (.int .i64 (((atF f (drL l (BitVec.ofNat 32 (andN (acts.getD i dAct).loc 3)) to (acts.getD i dAct).num ((f : Nat) : Int))) : Nat) : Int)) rfl rfl rfl rfl ?_
       refine OA.nil ?_
       intro _
       refine RA.seq hd ?_
       refine RA.region env_ok ?_
       refine OA.p (some 226) (Pt qn1 0 0) rfl rfl rfl rfl ?_
       refine OA.p (some 227) (.slice (some ⟨kr, 0, none⟩) M 2) rfl rfl rfl rfl ?_
       refine OA.p (some 228) (.int .i64 (((atF f (drL l (BitVec.ofNat 32 (andN (acts.getD i dAct).loc 3)) to (acts.getD i dAct).num ((f : Nat) : Int))) : Nat) : Int)) rfl rfl rfl rfl ?_
       refine OA.p (some 229) (Pt n4 0 3) rfl rfl rfl rfl ?_
       refine OA.p (some 230) (.int .i64 (acts.getD i dAct).num) rfl rfl rfl (r_load1 rfl rfl rfl rfl rfl (gt5 (by omega) get_here) rfl rfl) ?_
       refine OA.callP (dst := (some 231)) (all := [(Pt qn1 0 0), (.slice (some ⟨kr, 0, none⟩) M 2), (.int .i64 (((atF f (drL l (BitVec.ofNat 32 (andN (acts.getD i dAct).loc 3)) to (acts.getD i dAct).num ((f : Nat) : Int))) : Nat) : Int)), (.int .i64 (acts.getD i dAct).num)]) (v := (.bool true)) (hd.of (by omega) (kb7 (by omega))) rfl rfl rfl rfl rfl rfl rfl rfl (pSameL qn1 j2n22 kr M (atF f (drL l (BitVec.ofNat 32 (andN (acts.getD i dAct).loc 3)) to (acts.getD i dAct).num ((f : Nat) : Int))) (restA l (drL l (BitVec.ofNat 32 (andN (acts.getD i dAct).loc 3)) to (acts.getD i dAct).num ((f : Nat) : Int))) (show (restA l (drL l (BitVec.ofNat 32 (andN (acts.getD i dAct).loc 3)) to (acts.getD i dAct).num ((f : Nat) : Int))).length = M from (List.length_map ..).trans hM) (by omega) (by omega) (by omega) (okP_rest hl hok hokd) (acts.getD i dAct).num get_here (get_there (by omega) get_here) (gt6 (by omega) get_here)) ?_
       intro n26 hn26
       refine OA.p (some 232) (.bool false) rfl rfl rfl rfl ?_
       refine OA.nil ?_
       intro _
       refine RA.condF rfl ?_
       refine RA.skip env_ok ?_
       intro _
       refine RA.region env_ok ?_
       refine OA.p (some 32) (.int .i64 ((i : Nat) : Int)) rfl rfl rfl rfl ?_
       refine OA.p (some 33) (.int .i64 (((i + 1) : Nat) : Int)) rfl rfl rfl (r_bin rfl rfl rfl (b_add (i64_eq (by omega)))) ?_
       refine OA.p (some 6) (.int .i64 (((i + 1) : Nat) : Int)) rfl rfl rfl rfl ?_
       refine OA.nil ?_
       refine ⟨acts.length - (i + 1), by omega, [(qn1, some ⟨[(xPa85 j2n22 M f l acts i to)], 2, 131, true⟩), (j2n22, some (oPth (restA l (drL l (BitVec.ofNat 32 (andN (acts.getD i dAct).loc 3)) to (acts.getD i dAct).num ((f : Nat) : Int))))), (kr, some (oPth (restA l (drL l (BitVec.ofNat 32 (andN (acts.getD i dAct).loc 3)) to (acts.getD i dAct).num ((f : Nat) : Int)))))], (Less.of (fac (mm (fun _ => get_here) (fun _ => get_here)) (fac (mm (fun _ => (get_there (by omega) get_here)) (fun _ => (get_there (by omega) get_here))) (fac (mm (fun _ => (gt2 (by omega) get_here)) (fun _ => (gt6 (by omega) get_here))) fan))) (gone_of (by simp only [goneP, memP, List.cons_append, List.nil_append, true_or, or_true, true_and, and_true, or_false] <;> omega))), ⟨(i + 1), j2n22, M, (atF f (drL l (BitVec.ofNat 32 (andN (acts.getD i dAct).loc 3)) to (acts.getD i dAct).num ((f : Nat) : Int))), (restA l (drL l (BitVec.ofNat 32 (andN (acts.getD i dAct).loc 3)) to (acts.getD i dAct).num ((f : Nat) : Int))), kr, rfl, by omega, ⟨rfl, rfl, rfl, rfl, rfl, trivial⟩, rfl, (kb3 (by omega)), ⟨by omega, show (restA l (drL l (BitVec.ofNat 32 (andN (acts.getD i dAct).loc 3)) to (acts.getD i dAct).num ((f : Nat) : Int))).length = M from (List.length_map ..).trans hM, (okP_rest hl hok hokd), by omega, by omega, by omega, by omega, by omega, by omega, by omega, by omega⟩⟩⟩
    ·
     refine OA.p (some 133) (.bool false) rfl rfl rfl (Eq.trans (r_bin rfl rfl rfl (b_eql rfl)) (dF hc6)) ?_
     refine OA.p (some 132) (.bool false) rfl rfl rfl rfl ?_
     refine OA.nil ?_
     intro _
     refine RA.condF rfl ?_
     refine RA.seq hd ?_
     refine RA.region env_ok ?_
     by_cases hc12 : (((andN (acts.getD i dAct).what 3) : Nat) : Int) = 2
     ·
      refine OA.p (some 198) (.bool true) rfl rfl rfl (Eq.trans (r_bin rfl rfl rfl (b_eql rfl)) (dT hc12)) ?_
      refine OA.p (some 197) (.bool true) rfl rfl rfl rfl ?_
      refine OA.nil ?_
      intro _
      refine RA.condT rfl ?_
      refine RA.seq hd ?_
      refine RA.seq hd ?_
      refine RA.par (md := [some [], some [], some [n4], none, some [], some [n4], some [], some [], some [], some [n4], some [], some [], some [], some [], some []]) env_ok (hd.of (by omega) (kb5 (by omega))) (by kernel_rfl) ?_
      refine PQ.pure (dst := (some 199)) (v := (Pt qn1 0 0)) rfl rfl rfl noStore (none_ok _ _) rfl ?_
      refine PQ.pure (dst := (some 200)) (v := (Pt n4 0 3)) rfl rfl rfl noStore (none_ok _ _) rfl ?_
      refine PQ.pure (dst := (some 201)) (v := (.int .i64 (acts.getD i dAct).num)) rfl rfl rfl (app [(n4, some ⟨[(cAct (acts.getD i dAct))], 4, 91, true⟩)] noStore) (seen_one (V := []) (D := [(n4, some ⟨[(cAct (acts.getD i dAct))], 4, 91, true⟩), (n4, some ⟨[[(.int .i64 0), (.int .i64 0), (.int .i64 0), (.int .i64 0)]], 4, 91, true⟩), (qn1, some ⟨[[(.slice (some ⟨jp, 0, none⟩) K 2), (.int .i64 ((f : Nat) : Int))]], 2, 131, true⟩), (jp, some (oPth l)), (jq, some (oPth l))]) (by kernel_rfl) get_here) (r_load1 rfl rfl rfl rfl rfl get_here rfl rfl) ?_
      by_cases hc13 : 0 ≤ (acts.getD i dAct).num ∧ (acts.getD i dAct).num < ((K : Nat) : Int)
      ·
       refine PQ.call (dst := (some 202)) (all := [(Pt qn1 0 0), (.int .i64 (acts.getD i dAct).num)]) rfl rfl rfl rfl rfl rfl rfl rfl _ (seen_any (V := []) (D := [(n4, some ⟨[(cAct (acts.getD i dAct))], 4, 91, true⟩), (n4, some ⟨[[(.int .i64 0), (.int .i64 0), (.int .i64 0), (.int .i64 0)]], 4, 91, true⟩), (qn1, some ⟨[[(.slice (some ⟨jp, 0, none⟩) K 2), (.int .i64 ((f : Nat) : Int))]], 2, 131, true⟩), (jp, some (oPth l)), (jq, some (oPth l))]) (by kernel_rfl)) (CQ.imp (CQ.keys (pChooseY (hd.of (by omega) (kb5 (by omega))) qn1 jp K f (acts.getD i dAct).num (gt2 (by omega) get_here) hc13)) ?_)
       rintro _ n27 _ ⟨hkn27, ⟨rfl, rfl⟩⟩
       have hn27 := hkn27.1
       refine ⟨hn27, (kp1 (by first | exact wr_new (by omega) (by omega) | exact wr_old [4, 5, 6] (by kernel_rfl) (by omega) (by omega) (fac (lo0 rfl) (fac (lo1 rfl (by omega)) (fac (lo0 rfl) fan))))), ?_⟩
       refine PQ.pure (dst := (some 203)) (v := (Pt n4 0 3)) rfl rfl rfl noStore (none_ok _ _) rfl ?_
       refine PQ.pure (dst := (some 204)) (v := (.int .i64 (acts.getD i dAct).num)) rfl rfl rfl (app [(n4, some ⟨[(cAct (acts.getD i dAct))], 4, 91, true⟩)] noStore) (seen_one (V := []) (D := [(n4, some ⟨[(cAct (acts.getD i dAct))], 4, 91, true⟩), (n4, some ⟨[[(.int .i64 0), (.int .i64 0), (.int .i64 0), (.int .i64 0)]], 4, 91, true⟩), (qn1, some ⟨[[(.slice (some ⟨jp, 0, none⟩) K 2), (.int .i64 ((f : Nat) : Int))]], 2, 131, true⟩), (jp, some (oPth l)), (jq, some (oPth l))]) (by kernel_rfl) get_here) (r_load1 rfl rfl rfl rfl rfl get_here rfl rfl) ?_
       refine PQ.pure (dst := (some 205)) (v := (.bool true)) rfl rfl rfl noStore (none_ok _ _) (r_bin rfl rfl rfl (b_geq (decide_eq_true hc13.1))) ?_
       refine PQ.pure (dst := (some 206)) (v := (.bool true)) rfl rfl rfl noStore (none_ok _ _) rfl ?_
       refine PQ.pure (dst := (some 207)) (v := (Pt n4 0 3)) rfl rfl rfl noStore (none_ok _ _) rfl ?_
       refine PQ.pure (dst := (some 208)) (v := (.int .i64 (acts.getD i dAct).num)) rfl rfl rfl (app [(n4, some ⟨[(cAct (acts.getD i dAct))], 4, 91, true⟩)] noStore) (seen_one (V := [(qn1, some ⟨[(xPa88 jp K acts i)], 2, 131, true⟩)]) (D := [(n4, some ⟨[(cAct (acts.getD i dAct))], 4, 91, true⟩), (n4, some ⟨[[(.int .i64 0), (.int .i64 0), (.int .i64 0), (.int .i64 0)]], 4, 91, true⟩), (qn1, some ⟨[[(.slice (some ⟨jp, 0, none⟩) K 2), (.int .i64 ((f : Nat) : Int))]], 2, 131, true⟩), (jp, some (oPth l)), (jq, some (oPth l))]) (by kernel_rfl) (get_there (by omega) get_here)) (r_load1 rfl rfl rfl rfl rfl get_here rfl rfl) ?_
       refine PQ.pure (dst := (some 209)) (v := (.slice (some ⟨jq, 0, none⟩) K 2)) rfl rfl rfl noStore (none_ok _ _) rfl ?_
       refine PQ.pure (dst := (some 210)) (v := (.int .i64 ((K : Nat) : Int))) rfl rfl rfl noStore (none_ok _ _) rfl ?_
       refine PQ.pure (dst := (some 211)) (v := (.bool true)) rfl rfl rfl noStore (none_ok _ _) (r_bin rfl rfl rfl (b_lss (decide_eq_true hc13.2))) ?_
       refine PQ.pure (dst := (some 212)) (v := (.bool true)) rfl rfl rfl noStore (none_ok _ _) rfl ?_
       refine PQ.pure (dst := (some 213)) (v := (.bool false)) rfl rfl rfl noStore (none_ok _ _) rfl ?_
       refine PQ.done (d := [(qn1, some ⟨[(xPa88 jp K acts i)], 2, 131, true⟩)]) (by kernel_rfl) ?_
       intro _
       refine RA.condF rfl ?_
       refine RA.skip env_ok ?_
       intro _
       refine RA.seq hd ?_
       refine RA.region env_ok ?_
       refine OA.p (some 214) (Pt n4 0 3) rfl rfl rfl rfl ?_
       refine OA.p (some 215) (.int .i64 (acts.getD i dAct).num) rfl rfl rfl (r_load1 rfl rfl rfl rfl rfl (get_there (by omega) get_here) rfl rfl) ?_
       refine OA.p (some 216) (.bool true) rfl rfl rfl (r_bin rfl rfl rfl (b_geq (decide_eq_true hc13.1))) ?_
       refine OA.p (some 217) (.bool true) rfl rfl rfl rfl ?_
       refine OA.p (some 218) (Pt n4 0 3) rfl rfl rfl rfl ?_
       refine OA.p (some 219) (.int .i64 (acts.getD i dAct).num) rfl rfl rfl (r_load1 rfl rfl rfl rfl rfl (get_there (by omega) get_here) rfl rfl) ?_
       refine OA.p (some 220) (.slice (some ⟨jq, 0, none⟩) K 2) rfl rfl rfl rfl ?_
       refine OA.p (some 221) (.int .i64 ((K : Nat) : Int)) rfl rfl rfl rfl ?_
       refine OA.p (some 222) (.bool true) rfl rfl rfl (r_bin rfl rfl rfl (b_lss (decide_eq_true hc13.2))) ?_
       refine OA.p (some 223) (.bool true) rfl rfl rfl rfl ?_
       refine OA.nil ?_
       intro _
       refine RA.rebase [(0, va), (3, (Pt qn1 0 0)), (4, (.slice (some ⟨jq, 0, none⟩) K 2)), (5, (.int .i64 ((f : Nat) : Int))), (6, (.int .i64 ((i : Nat) : Int))), (7, (Pt n4 0 0)), (8, (W (BitVec.ofNat 32 (andN (acts.getD i dAct).loc 3)))), (9, (W (BitVec.ofNat 32 (andN (acts.getD i dAct).peer 3)))), (31, (.bool true)), (48, (.int .i64 (((andN (acts.getD i dAct).what 3) : Nat) : Int))), (97, (.bool false)), (132, (.bool false)), (197, (.bool true)), (213, (.bool false)), (223, (.bool true))] ⟨rfl, rfl, rfl, rfl, rfl, rfl, rfl, rfl, rfl, rfl, rfl, rfl, rfl, rfl, rfl, trivial⟩ (fun τr28 => ?_)
       refine RA.condT rfl ?_
       refine RA.region env_ok ?_
       refine OA.p (some 224) (Pt n4 0 3) rfl rfl rfl rfl ?_
       refine OA.p (some 225) (.int .i64 (acts.getD i dAct).num) rfl rfl rfl (r_load1 rfl rfl rfl rfl rfl (get_there (by omega) get_here) rfl rfl) ?_
       refine OA.p (some 5) (.int .i64 (acts.getD i dAct).num) rfl rfl rfl rfl ?_
       refine OA.nil ?_
       intro _
       refine RA.leT (t := 5) (v := (.int .i64 (acts.getD i dAct).num)) (v' := (.int .i64 (((acts.getD i dAct).num.toNat : Nat) : Int))) rfl (by rw [show (((acts.getD i dAct).num.toNat : Nat) : Int) = (acts.getD i dAct).num from by omega]; exact VLe.refl _) ?_
       refine RA.seq hd ?_
       refine RA.region env_ok ?_
       refine OA.p (some 226) (Pt qn1 0 0) rfl rfl rfl rfl ?_
       refine OA.p (some 227) (.slice (some ⟨jq, 0, none⟩) K 2) rfl rfl rfl rfl ?_
       refine OA.p (some 228) (.int .i64 (((acts.getD i dAct).num.toNat : Nat) : Int)) rfl rfl rfl rfl ?_
       refine OA.p (some 229) (Pt n4 0 3) rfl rfl rfl rfl ?_
       refine OA.p (some 230) (.int .i64 (acts.getD i dAct).num) rfl rfl rfl (r_load1 rfl rfl rfl rfl rfl (get_there (by omega) get_here) rfl rfl) ?_
       refine OA.callP (dst := (some 231)) (all := [(Pt qn1 0 0), (.slice (some ⟨jq, 0, none⟩) K 2), (.int .i64 (((acts.getD i dAct).num.toNat : Nat) : Int)), (.int .i64 (acts.getD i dAct).num)]) (v := (.bool true)) (hd.of (by omega) (kb6 (by omega))) rfl rfl rfl rfl rfl rfl rfl rfl (pSameL qn1 jp jq K (acts.getD i dAct).num.toNat l (by rw [hl]) (by omega) (by omega) (by omega) hok (acts.getD i dAct).num get_here (gt4 (by omega) get_here) (gt5 (by omega) get_here)) ?_
       intro n29 hn29
       refine OA.p (some 232) (.bool false) rfl rfl rfl rfl ?_
       refine OA.nil ?_
       intro _
       refine RA.condF rfl ?_
       refine RA.skip env_ok ?_
       intro _
       refine RA.region env_ok ?_
       refine OA.p (some 32) (.int .i64 ((i : Nat) : Int)) rfl rfl rfl rfl ?_
       refine OA.p (some 33) (.int .i64 (((i + 1) : Nat) : Int)) rfl rfl rfl (r_bin rfl rfl rfl (b_add (i64_eq (by omega)))) ?_
       refine OA.p (some 6) (.int .i64 (((i + 1) : Nat) : Int)) rfl rfl rfl rfl ?_
       refine OA.nil ?_
       refine ⟨acts.length - (i + 1), by omega, [(qn1, some ⟨[(xPa88 jp K acts i)], 2, 131, true⟩), (jp, some (oPth l)), (jq, some (oPth l))], (Less.of (fac (mm (fun _ => get_here) (fun _ => get_here)) (fac (mm (fun _ => (get_there (by omega) get_here)) (fun _ => (gt4 (by omega) get_here))) (fac (mm (fun _ => (gt2 (by omega) get_here)) (fun _ => (gt5 (by omega) get_here))) fan))) (gone_of (by simp only [goneP, memP, List.cons_append, List.nil_append, true_or, or_true, true_and, and_true, or_false] <;> omega))), ⟨(i + 1), jp, K, (acts.getD i dAct).num.toNat, l, jq, rfl, by omega, ⟨rfl, rfl, rfl, rfl, rfl, trivial⟩, rfl, (kb3 (by omega)), ⟨by omega, by rw [hl], hok, by omega, by omega, by omega, by omega, by omega, by omega, by omega, by omega⟩⟩⟩
      ·
       refine PQ.call (dst := (some 202)) (all := [(Pt qn1 0 0), (.int .i64 (acts.getD i dAct).num)]) rfl rfl rfl rfl rfl rfl rfl rfl _ (seen_any (V := []) (D := [(n4, some ⟨[(cAct (acts.getD i dAct))], 4, 91, true⟩), (n4, some ⟨[[(.int .i64 0), (.int .i64 0), (.int .i64 0), (.int .i64 0)]], 4, 91, true⟩), (qn1, some ⟨[[(.slice (some ⟨jp, 0, none⟩) K 2), (.int .i64 ((f : Nat) : Int))]], 2, 131, true⟩), (jp, some (oPth l)), (jq, some (oPth l))]) (by kernel_rfl)) (CQ.imp (CQ.keys (pChooseN (hd.of (by omega) (kb5 (by omega))) qn1 jp K f (acts.getD i dAct).num (gt2 (by omega) get_here) hc13)) ?_)
       rintro _ n30 _ ⟨hkn30, ⟨rfl, rfl⟩⟩
       have hn30 := hkn30.1
       refine ⟨hn30, (fun x hx => by simp [keys] at hx), ?_⟩
       refine PQ.pure (dst := (some 203)) (v := (Pt n4 0 3)) rfl rfl rfl noStore (none_ok _ _) rfl ?_
       refine PQ.pure (dst := (some 204)) (v := (.int .i64 (acts.getD i dAct).num)) rfl rfl rfl (app [(n4, some ⟨[(cAct (acts.getD i dAct))], 4, 91, true⟩)] noStore) (seen_one (V := []) (D := [(n4, some ⟨[(cAct (acts.getD i dAct))], 4, 91, true⟩), (n4, some ⟨[[(.int .i64 0), (.int .i64 0), (.int .i64 0), (.int .i64 0)]], 4, 91, true⟩), (qn1, some ⟨[[(.slice (some ⟨jp, 0, none⟩) K 2), (.int .i64 ((f : Nat) : Int))]], 2, 131, true⟩), (jp, some (oPth l)), (jq, some (oPth l))]) (by kernel_rfl) get_here) (r_load1 rfl rfl rfl rfl rfl get_here rfl rfl) ?_
       by_cases hc14 : 0 ≤ (acts.getD i dAct).num
       ·
        refine PQ.pure (dst := (some 205)) (v := (.bool true)) rfl rfl rfl noStore (none_ok _ _) (Eq.trans (r_bin rfl rfl rfl (b_geq rfl)) (dT hc14)) ?_
        refine PQ.pure (dst := (some 206)) (v := (.bool true)) rfl rfl rfl noStore (none_ok _ _) rfl ?_
        refine PQ.pure (dst := (some 207)) (v := (Pt n4 0 3)) rfl rfl rfl noStore (none_ok _ _) rfl ?_
        refine PQ.pure (dst := (some 208)) (v := (.int .i64 (acts.getD i dAct).num)) rfl rfl rfl (app [(n4, some ⟨[(cAct (acts.getD i dAct))], 4, 91, true⟩)] noStore) (seen_one (V := []) (D := [(n4, some ⟨[(cAct (acts.getD i dAct))], 4, 91, true⟩), (n4, some ⟨[[(.int .i64 0), (.int .i64 0), (.int .i64 0), (.int .i64 0)]], 4, 91, true⟩), (qn1, some ⟨[[(.slice (some ⟨jp, 0, none⟩) K 2), (.int .i64 ((f : Nat) : Int))]], 2, 131, true⟩), (jp, some (oPth l)), (jq, some (oPth l))]) (by kernel_rfl) get_here) (r_load1 rfl rfl rfl rfl rfl get_here rfl rfl) ?_
        refine PQ.pure (dst := (some 209)) (v := (.slice (some ⟨jq, 0, none⟩) K 2)) rfl rfl rfl noStore (none_ok _ _) rfl ?_
        refine PQ.pure (dst := (some 210)) (v := (.int .i64 ((K : Nat) : Int))) rfl rfl rfl noStore (none_ok _ _) rfl ?_
        have hc15 : ¬ ((acts.getD i dAct).num < ((K : Nat) : Int)) := fun hdd => by exfalso; omega
        refine PQ.pure (dst := (some 211)) (v := (.bool false)) rfl rfl rfl noStore (none_ok _ _) (Eq.trans (r_bin rfl rfl rfl (b_lss rfl)) (dF hc15)) ?_
        refine PQ.pure (dst := (some 212)) (v := (.bool false)) rfl rfl rfl noStore (none_ok _ _) rfl ?_
        refine PQ.pure (dst := (some 213)) (v := (.bool false)) rfl rfl rfl noStore (none_ok _ _) rfl ?_
        refine PQ.done (d := []) (by kernel_rfl) ?_
        intro _
        refine RA.condF rfl ?_
        refine RA.skip env_ok ?_
        intro _
        refine RA.seq hd ?_
        refine RA.region env_ok ?_
        refine OA.p (some 214) (Pt n4 0 3) rfl rfl rfl rfl ?_
        refine OA.p (some 215) (.int .i64 (acts.getD i dAct).num) rfl rfl rfl (r_load1 rfl rfl rfl rfl rfl get_here rfl rfl) ?_
        refine OA.p (some 216) (.bool true) rfl rfl rfl (Eq.trans (r_bin rfl rfl rfl (b_geq rfl)) (dT hc14)) ?_
        refine OA.p (some 217) (.bool true) rfl rfl rfl rfl ?_
        refine OA.p (some 218) (Pt n4 0 3) rfl rfl rfl rfl ?_
        refine OA.p (some 219) (.int .i64 (acts.getD i dAct).num) rfl rfl rfl (r_load1 rfl rfl rfl rfl rfl get_here rfl rfl) ?_
        refine OA.p (some 220) (.slice (some ⟨jq, 0, none⟩) K 2) rfl rfl rfl rfl ?_
        refine OA.p (some 221) (.int .i64 ((K : Nat) : Int)) rfl rfl rfl rfl ?_
        refine OA.p (some 222) (.bool false) rfl rfl rfl (Eq.trans (r_bin rfl rfl rfl (b_lss rfl)) (dF hc15)) ?_
        refine OA.p (some 223) (.bool false) rfl rfl rfl rfl ?_
        refine OA.nil ?_
        intro _
        refine RA.rebase [(0, va), (3, (Pt qn1 0 0)), (4, (.slice (some ⟨jq, 0, none⟩) K 2)), (5, (.int .i64 ((f : Nat) : Int))), (6, (.int .i64 ((i : Nat) : Int))), (7, (Pt n4 0 0)), (8, (W (BitVec.ofNat 32 (andN (acts.getD i dAct).loc 3)))), (9, (W (BitVec.ofNat 32 (andN (acts.getD i dAct).peer 3)))), (31, (.bool true)), (48, (.int .i64 (((andN (acts.getD i dAct).what 3) : Nat) : Int))), (97, (.bool false)), (132, (.bool false)), (197, (.bool true)), (213, (.bool false)), (223, (.bool false))] ⟨rfl, rfl, rfl, rfl, rfl, rfl, rfl, rfl, rfl, rfl, rfl, rfl, rfl, rfl, rfl, trivial⟩ (fun τr31 => ?_)
        refine RA.condF rfl ?_
        refine RA.skip env_ok ?_
        intro _
        refine RA.seq hd ?_
        refine RA.region env_ok ?_
        refine OA.p (some 226) (Pt qn1 0 0) rfl rfl rfl rfl ?_
        refine OA.p (some 227) (.slice (some ⟨jq, 0, none⟩) K 2) rfl rfl rfl rfl ?_
        refine OA.p (some 228) (.int .i64 ((f : Nat) : Int)) rfl rfl rfl rfl ?_
        refine OA.p (some 229) (Pt n4 0 3) rfl rfl rfl rfl ?_
        refine OA.p (some 230) (.int .i64 (acts.getD i dAct).num) rfl rfl rfl (r_load1 rfl rfl rfl rfl rfl get_here rfl rfl) ?_
        refine OA.callP (dst := (some 231)) (all := (xPa87 qn1 jq K f acts i)) (v := (.bool true)) (hd.of (by omega) (kb5 (by omega))) rfl rfl rfl rfl rfl rfl rfl rfl (pSameL qn1 jp jq K f l (by rw [hl]) (by omega) (by omega) (by omega) hok (acts.getD i dAct).num (gt2 (by omega) get_here) (gt3 (by omega) get_here) (gt4 (by omega) get_here)) ?_
        intro n32 hn32
        refine OA.p (some 232) (.bool false) rfl rfl rfl rfl ?_
        refine OA.nil ?_
        intro _
        refine RA.condF rfl ?_
        refine RA.skip env_ok ?_
        intro _
        refine RA.region env_ok ?_
        refine OA.p (some 32) (.int .i64 ((i : Nat) : Int)) rfl rfl rfl rfl ?_
        refine OA.p (some 33) (.int .i64 (((i + 1) : Nat) : Int)) rfl rfl rfl (r_bin rfl rfl rfl (b_add (i64_eq (by omega)))) ?_
        refine OA.p (some 6) (.int .i64 (((i + 1) : Nat) : Int)) rfl rfl rfl rfl ?_
        refine OA.nil ?_
        refine ⟨acts.length - (i + 1), by omega, [(qn1, some ⟨[[(.slice (some ⟨jp, 0, none⟩) K 2), (.int .i64 ((f : Nat) : Int))]], 2, 131, true⟩), (jp, some (oPth l)), (jq, some (oPth l))], (Less.of (fac (mm (fun _ => get_here) (fun _ => (gt2 (by omega) get_here))) (fac (mm (fun _ => (get_there (by omega) get_here)) (fun _ => (gt3 (by omega) get_here))) (fac (mm (fun _ => (gt2 (by omega) get_here)) (fun _ => (gt4 (by omega) get_here))) fan))) (gone_of (by simp only [goneP, memP, List.cons_append, List.nil_append, true_or, or_true, true_and, and_true, or_false] <;> omega))), ⟨(i + 1), jp, K, f, l, jq, rfl, by omega, ⟨rfl, rfl, rfl, rfl, rfl, trivial⟩, rfl, (kb3 (by omega)), ⟨by omega, by rw [hl], hok, by omega, by omega, by omega, by omega, by omega, by omega, by omega, by omega⟩⟩⟩
       ·
        refine PQ.pure (dst := (some 205)) (v := (.bool false)) rfl rfl rfl noStore (none_ok _ _) (Eq.trans (r_bin rfl rfl rfl (b_geq rfl)) (dF hc14)) ?_
        refine PQ.pure (dst := (some 206)) (v := (.bool false)) rfl rfl rfl noStore (none_ok _ _) rfl ?_
        refine PQ.off (dst := (some 207)) rfl rfl rfl ?_
        refine PQ.off (dst := (some 208)) rfl rfl rfl ?_
        refine PQ.off (dst := (some 209)) rfl rfl rfl ?_
        refine PQ.off (dst := (some 210)) rfl rfl rfl ?_
        refine PQ.off (dst := (some 211)) rfl rfl rfl ?_
        refine PQ.pure (dst := (some 212)) (v := (.bool false)) rfl rfl rfl noStore (none_ok _ _) rfl ?_
        refine PQ.pure (dst := (some 213)) (v := (.bool false)) rfl rfl rfl noStore (none_ok _ _) rfl ?_
        refine PQ.done (d := []) (by kernel_rfl) ?_
        intro _
        refine RA.condF rfl ?_
        refine RA.skip env_ok ?_
        intro _
        refine RA.seq hd ?_
        refine RA.region env_ok ?_
        refine OA.p (some 214) (Pt n4 0 3) rfl rfl rfl rfl ?_
        refine OA.p (some 215) (.int .i64 (acts.getD i dAct).num) rfl rfl rfl (r_load1 rfl rfl rfl rfl rfl get_here rfl rfl) ?_
        refine OA.p (some 216) (.bool false) rfl rfl rfl (Eq.trans (r_bin rfl rfl rfl (b_geq rfl)) (dF hc14)) ?_
        refine OA.p (some 217) (.bool false) rfl rfl rfl rfl ?_
        refine OA.off (dst := (some 218)) rfl rfl rfl ?_
        refine OA.off (dst := (some 219)) rfl rfl rfl ?_
        refine OA.off (dst := (some 220)) rfl rfl rfl ?_
        refine OA.off (dst := (some 221)) rfl rfl rfl ?_
        refine OA.off (dst := (some 222)) rfl rfl rfl ?_
        refine OA.p (some 223) (.bool false) rfl rfl rfl rfl ?_
        refine OA.nil ?_
        intro _
        refine RA.rebase [(0, va), (3, (Pt qn1 0 0)), (4, (.slice (some ⟨jq, 0, none⟩) K 2)), (5, (.int .i64 ((f : Nat) : Int))), (6, (.int .i64 ((i : Nat) : Int))), (7, (Pt n4 0 0)), (8, (W (BitVec.ofNat 32 (andN (acts.getD i dAct).loc 3)))), (9, (W (BitVec.ofNat 32 (andN (acts.getD i dAct).peer 3)))), (31, (.bool true)), (48, (.int .i64 (((andN (acts.getD i dAct).what 3) : Nat) : Int))), (97, (.bool false)), (132, (.bool false)), (197, (.bool true)), (213, (.bool false)), (223, (.bool false))] ⟨rfl, rfl, rfl, rfl, rfl, rfl, rfl, rfl, rfl, rfl, rfl, rfl, rfl, rfl, rfl, trivial⟩ (fun τr33 => ?_)
        refine RA.condF rfl ?_
        refine RA.skip env_ok ?_
        intro _
        refine RA.seq hd ?_
        refine RA.region env_ok ?_
        refine OA.p (some 226) (Pt qn1 0 0) rfl rfl rfl rfl ?_
        refine OA.p (some 227) (.slice (some ⟨jq, 0, none⟩) K 2) rfl rfl rfl rfl ?_
        refine OA.p (some 228) (.int .i64 ((f : Nat) : Int)) rfl rfl rfl rfl ?_
        refine OA.p (some 229) (Pt n4 0 3) rfl rfl rfl rfl ?_
        refine OA.p (some 230) (.int .i64 (acts.getD i dAct).num) rfl rfl rfl (r_load1 rfl rfl rfl rfl rfl get_here rfl rfl) ?_
        refine OA.callP (dst := (some 231)) (all := (xPa87 qn1 jq K f acts i)) (v := (.bool true)) (hd.of (by omega) (kb5 (by omega))) rfl rfl rfl rfl rfl rfl rfl rfl (pSameL qn1 jp jq K f l (by rw [hl]) (by omega) (by omega) (by omega) hok (acts.getD i dAct).num (gt2 (by omega) get_here) (gt3 (by omega) get_here) (gt4 (by omega) get_here)) ?_
        intro n34 hn34
        refine OA.p (some 232) (.bool false) rfl rfl rfl rfl ?_
        refine OA.nil ?_
        intro _
        refine RA.condF rfl ?_
        refine RA.skip env_ok ?_
        intro _
        refine RA.region env_ok ?_
        refine OA.p (some 32) (.int .i64 ((i : Nat) : Int)) rfl rfl rfl rfl ?_
        refine OA.p (some 33) (.int .i64 (((i + 1) : Nat) : Int)) rfl rfl rfl (r_bin rfl rfl rfl (b_add (i64_eq (by omega)))) ?_
        refine OA.p (some 6) (.int .i64 (((i + 1) : Nat) : Int)) rfl rfl rfl rfl ?_
        refine OA.nil ?_
        refine ⟨acts.length - (i + 1), by omega, [(qn1, some ⟨[[(.slice (some ⟨jp, 0, none⟩) K 2), (.int .i64 ((f : Nat) : Int))]], 2, 131, true⟩), (jp, some (oPth l)), (jq, some (oPth l))], (Less.of (fac (mm (fun _ => get_here) (fun _ => (gt2 (by omega) get_here))) (fac (mm (fun _ => (get_there (by omega) get_here)) (fun _ => (gt3 (by omega) get_here))) (fac (mm (fun _ => (gt2 (by omega) get_here)) (fun _ => (gt4 (by omega) get_here))) fan))) (gone_of (by simp only [goneP, memP, List.cons_append, List.nil_append, true_or, or_true, true_and, and_true, or_false] <;> omega))), ⟨(i + 1), jp, K, f, l, jq, rfl, by omega, ⟨rfl, rfl, rfl, rfl, rfl, trivial⟩, rfl, (kb3 (by omega)), ⟨by omega, by rw [hl], hok, by omega, by omega, by omega, by omega, by omega, by omega, by omega, by omega⟩⟩⟩
     ·
      refine OA.p (some 198) (.bool false) rfl rfl rfl (Eq.trans (r_bin rfl rfl rfl (b_eql rfl)) (dF hc12)) ?_
      refine OA.p (some 197) (.bool false) rfl rfl rfl rfl ?_
      refine OA.nil ?_
      intro _
      refine RA.condF rfl ?_
      refine RA.seq hd ?_
      refine RA.region env_ok ?_
      refine OA.p (some 49) (Pt n4 0 3) rfl rfl rfl rfl ?_
      refine OA.p (some 50) (.int .i64 (acts.getD i dAct).num) rfl rfl rfl (r_load1 rfl rfl rfl rfl rfl get_here rfl rfl) ?_
      refine OA.p (some 51) (.slice (some ⟨jq, 0, none⟩) K 2) rfl rfl rfl rfl ?_
      refine OA.p (some 52) (.int .i64 ((K : Nat) : Int)) rfl rfl rfl rfl ?_
      have htm35 := tmod_lt (x := (acts.getD i dAct).num) (K := K) (by omega)
      refine OA.p (some 53) (.int .i64 (Int.tmod (acts.getD i dAct).num ((K : Nat) : Int))) rfl rfl rfl (r_bin rfl rfl rfl (b_rem (by omega) rfl)) ?_
      refine OA.p (some 54) (.slice (some ⟨jq, 0, none⟩) K 2) rfl rfl rfl rfl ?_
      refine OA.p (some 55) (.int .i64 ((K : Nat) : Int)) rfl rfl rfl rfl ?_
      refine OA.p (some 56) (.int .i64 ((Int.tmod (acts.getD i dAct).num ((K : Nat) : Int)) + ((K : Nat) : Int))) rfl rfl rfl (r_bin rfl rfl rfl (b_add (i64_eq (by omega)))) ?_
      refine OA.p (some 57) (.slice (some ⟨jq, 0, none⟩) K 2) rfl rfl rfl rfl ?_
      refine OA.p (some 58) (.int .i64 ((K : Nat) : Int)) rfl rfl rfl rfl ?_
      have hnm36 := nrm_lt (x := (acts.getD i dAct).num) (K := K) (by omega)
      refine OA.p (some 59) (.int .i64 (((nrmN (acts.getD i dAct).num K) : Nat) : Int)) rfl rfl rfl (r_bin rfl rfl rfl (b_rem (by omega) (nrm_eq (by omega)))) ?_
      refine OA.p (some 17) (.int .i64 (((nrmN (acts.getD i dAct).num K) : Nat) : Int)) rfl rfl rfl rfl ?_
      refine OA.nil ?_
      intro _
      refine RA.seq hd ?_
      refine RA.region env_ok ?_
      refine OA.p (some 60) (.slice (some ⟨jq, 0, none⟩) K 2) rfl rfl rfl rfl ?_
      refine OA.p (some 61) (.int .i64 (((nrmN (acts.getD i dAct).num K) : Nat) : Int)) rfl rfl rfl rfl ?_
      refine OA.p (some 62) (.pointer (some ⟨jq, (nrmN (acts.getD i dAct).num K), some 0⟩)) rfl rfl rfl (r_iaS (l := (nrmN (acts.getD i dAct).num K)) rfl rfl rfl rfl rfl rfl (by omega) (by omega) (gt4 (by omega) get_here) rfl (by omega)) ?_
      refine OA.p (some 63) (.agg ⟨(cPth (l.getD (nrmN (acts.getD i dAct).num K) dPth))⟩) rfl rfl rfl (r_loadR (c := cPth) dPth rfl rfl rfl rfl (gt4 (by omega) get_here) (by rw [hl]; omega) rfl) ?_
      refine OA.op1 (dst := (some 18)) (v := (.pointer (some ⟨(n4 + 1), 0, some 0⟩))) (n1 := (n4 + 2)) (w := ((n4 + 1), some ⟨[[(.int .u32 0), (.int .u32 0), (.int .i64 0), (.int .i64 0), (.int .i64 0), (.int .i64 0), (.int .i64 0), (.bool false), (.int .i64 0), (.int .i64 0), (.int .i64 0), (.int .i64 0), (.int .i64 0), (.int .u32 0), (.int .i64 0)]], 15, 87, true⟩)) rfl rfl rfl rfl (by omega) ?_
      refine OA.op1 (dst := none) (v := (.tuple #[])) (n1 := (n4 + 2)) (w := ((n4 + 1), some ⟨[(cPth (l.getD (nrmN (acts.getD i dAct).num K) dPth))], 15, 87, true⟩)) rfl rfl rfl (r_store rfl rfl rfl rfl rfl rfl rfl get_here rfl rfl (Nat.le_of_ble_eq_true rfl) rfl) (by omega) ?_
      refine OA.nil ?_
      intro _
      refine RA.weaken (D' := [((n4 + 1), some ⟨[(cPth (l.getD (nrmN (acts.getD i dAct).num K) dPth))], 15, 87, true⟩), (n4, some ⟨[(cAct (acts.getD i dAct))], 4, 91, true⟩), (qn1, some ⟨[[(.slice (some ⟨jp, 0, none⟩) K 2), (.int .i64 ((f : Nat) : Int))]], 2, 131, true⟩), (jp, some (oPth l)), (jq, some (oPth l))]) hd (Less.of (fac (mm (fun _ => get_here) (fun _ => get_here)) (fac (mm (fun _ => (get_there (by omega) get_here)) (fun _ => (gt2 (by omega) get_here))) (fac (mm (fun _ => (gt2 (by omega) get_here)) (fun _ => (gt4 (by omega) get_here))) (fac (mm (fun _ => (gt3 (by omega) get_here)) (fun _ => (gt5 (by omega) get_here))) (fac (mm (fun _ => (gt4 (by omega) get_here)) (fun _ => (gt6 (by omega) get_here))) fan))))) (gone_of (by simp only [goneP, memP, List.cons_append, List.nil_append, true_or, or_true, true_and, and_true, or_false] <;> omega))) ?_
      refine RA.seq hd ?_
      refine RA.region env_ok ?_
      refine OA.p (some 64) (Pt n4 0 2) rfl rfl rfl rfl ?_
      refine OA.p (some 65) (.int .i64 (acts.getD i dAct).peer) rfl rfl rfl (r_load1 rfl rfl rfl rfl rfl (get_there (by omega) get_here) rfl rfl) ?_
      have hm37 := andN_le (acts.getD i dAct).peer 3 (by decide)
      refine OA.p (some 66) (.int .i64 (((andN (acts.getD i dAct).peer 3) : Nat) : Int)) rfl rfl rfl (r_bin rfl rfl rfl (b_andN (acts.getD i dAct).peer 3 (by decide))) ?_
      refine OA.p (some 67) (.int .i64 ((((andN (acts.getD i dAct).peer 3) % 3) : Nat) : Int)) rfl rfl rfl (r_bin rfl rfl rfl (b_remN (a := (andN (acts.getD i dAct).peer 3)) (c := 3) (by decide))) ?_
      refine OA.p (some 68) (.pointer (some ⟨(n4 + 1), 0, some 2⟩)) rfl rfl rfl rfl ?_
      refine OA.op1 (dst := none) (v := (.tuple #[])) (n1 := (n4 + 2)) (w := ((n4 + 1), some ⟨[(xPa83 l acts i K)], 15, 87, true⟩)) rfl rfl rfl (r_store rfl rfl rfl rfl rfl rfl rfl get_here rfl rfl (Nat.le_of_ble_eq_true rfl) rfl) (by omega) ?_
      refine OA.nil ?_
      intro _
      refine RA.weaken (D' := [((n4 + 1), some ⟨[(xPa83 l acts i K)], 15, 87, true⟩), (n4, some ⟨[(cAct (acts.getD i dAct))], 4, 91, true⟩), (qn1, some ⟨[[(.slice (some ⟨jp, 0, none⟩) K 2), (.int .i64 ((f : Nat) : Int))]], 2, 131, true⟩), (jp, some (oPth l)), (jq, some (oPth l))]) hd (Less.of (fac (mm (fun _ => get_here) (fun _ => get_here)) (fac (mm (fun _ => (get_there (by omega) get_here)) (fun _ => (gt2 (by omega) get_here))) (fac (mm (fun _ => (gt2 (by omega) get_here)) (fun _ => (gt3 (by omega) get_here))) (fac (mm (fun _ => (gt3 (by omega) get_here)) (fun _ => (gt4 (by omega) get_here))) (fac (mm (fun _ => (gt4 (by omega) get_here)) (fun _ => (gt5 (by omega) get_here))) fan))))) (gone_of (by simp only [goneP, memP, List.cons_append, List.nil_append, true_or, or_true, true_and, and_true, or_false] <;> omega))) ?_
      refine RA.rebase [(0, va), (3, (Pt qn1 0 0)), (4, (.slice (some ⟨jq, 0, none⟩) K 2)), (5, (.int .i64 ((f : Nat) : Int))), (6, (.int .i64 ((i : Nat) : Int))), (7, (Pt n4 0 0)), (8, (W (BitVec.ofNat 32 (andN (acts.getD i dAct).loc 3)))), (9, (W (BitVec.ofNat 32 (andN (acts.getD i dAct).peer 3)))), (17, (.int .i64 (((nrmN (acts.getD i dAct).num K) : Nat) : Int))), (18, (.pointer (some ⟨(n4 + 1), 0, some 0⟩))), (31, (.bool true)), (48, (.int .i64 (((andN (acts.getD i dAct).what 3) : Nat) : Int))), (97, (.bool false)), (132, (.bool false)), (197, (.bool false))] ⟨rfl, rfl, rfl, rfl, rfl, rfl, rfl, rfl, rfl, rfl, rfl, rfl, rfl, rfl, rfl, trivial⟩ (fun τr38 => ?_)
      refine RA.seq hd ?_
      refine RA.region env_ok ?_
      refine OA.op1 (dst := (some 69)) (v := (.slice (some ⟨(n4 + 2), 0, none⟩) 0 0)) (n1 := (n4 + 3)) (w := ((n4 + 2), some (oPth ([] : List Pth)))) rfl rfl rfl (by kernel_rfl) (by omega) ?_
      refine OA.p (some 70) (.slice (some ⟨jq, 0, none⟩) K 2) rfl rfl rfl rfl ?_
      refine OA.op (dst := (some 71)) (v := (.slice (some ⟨(n4 + 3), 0, none⟩) K 0)) (n1 := (n4 + 4)) (d1 := [((n4 + 3), some (oPth l)), ((n4 + 2), none)]) (D' := [((n4 + 3), some (oPth l)), ((n4 + 2), none), ((n4 + 2), some (oPth ([] : List Pth))), ((n4 + 1), some ⟨[(xPa83 l acts i K)], 15, 87, true⟩), (n4, some ⟨[(cAct (acts.getD i dAct))], 4, 91, true⟩), (qn1, some ⟨[[(.slice (some ⟨jp, 0, none⟩) K 2), (.int .i64 ((f : Nat) : Int))]], 2, 131, true⟩), (jp, some (oPth l)), (jq, some (oPth l))]) rfl rfl rfl (r_appendL (c := cPth) (l' := l) rfl rfl rfl rfl rfl rfl rfl rfl rfl rfl (by decide) get_here (gt5 (by omega) get_here) (by rw [show ([] : List Pth).length = 0 from rfl]) (by omega) (by rw [hl]; omega) (by rw [List.nil_append, take_all' (by rw [hl])]) (by omega) (of_decide_eq_true (by kernel_rfl)) (by omega)) (by omega) rfl ?_
      refine OA.p (some 4) (.slice (some ⟨(n4 + 3), 0, none⟩) K 0) rfl rfl rfl rfl ?_
      refine OA.nil ?_
      intro _
      refine RA.weaken (D' := [((n4 + 3), some (oPth l)), ((n4 + 2), none), ((n4 + 1), some ⟨[(xPa83 l acts i K)], 15, 87, true⟩), (n4, some ⟨[(cAct (acts.getD i dAct))], 4, 91, true⟩), (qn1, some ⟨[[(.slice (some ⟨jp, 0, none⟩) K 2), (.int .i64 ((f : Nat) : Int))]], 2, 131, true⟩), (jp, some (oPth l)), (jq, some (oPth l))]) hd (Less.of (fac (mm (fun _ => get_here) (fun _ => get_here)) (fac (mm (fun _ => (get_there (by omega) get_here)) (fun _ => (get_there (by omega) get_here))) (fac (mm (fun _ => (gt2 (by omega) get_here)) (fun _ => (gt3 (by omega) get_here))) (fac (mm (fun _ => (gt3 (by omega) get_here)) (fun _ => (gt4 (by omega) get_here))) (fac (mm (fun _ => (gt4 (by omega) get_here)) (fun _ => (gt5 (by omega) get_here))) (fac (mm (fun _ => (gt5 (by omega) get_here)) (fun _ => (gt6 (by omega) get_here))) (fac (mm (fun _ => (gt6 (by omega) get_here)) (fun _ => (gt7 (by omega) get_here))) fan))))))) (gone_of (by simp only [goneP, memP, List.cons_append, List.nil_append, true_or, or_true, true_and, and_true, or_false] <;> omega))) ?_
      refine RA.seq hd ?_
      refine RA.region env_ok ?_
      refine OA.p (some 72) (.slice (some ⟨(n4 + 3), 0, none⟩) K 0) rfl rfl rfl rfl ?_
      refine OA.p (some 73) (.int .i64 (((nrmN (acts.getD i dAct).num K) : Nat) : Int)) rfl rfl rfl rfl ?_
      refine OA.p (some 74) (.agg ⟨(xPa83 l acts i K)⟩) rfl rfl rfl (r_loadA rfl rfl rfl rfl (gt2 (by omega) get_here) rfl rfl rfl) ?_
      refine OA.p (some 75) (.pointer (some ⟨(n4 + 3), (nrmN (acts.getD i dAct).num K), some 0⟩)) rfl rfl rfl (r_iaS (l := (nrmN (acts.getD i dAct).num K)) rfl rfl rfl rfl rfl rfl (by omega) (by omega) get_here rfl (by omega)) ?_
      refine OA.op1 (dst := none) (v := (.tuple #[])) (n1 := (n4 + 4)) (w := ((n4 + 3), some (oPth (l.set (nrmN (acts.getD i dAct).num K) (xPa84 l acts i K))))) rfl rfl rfl (r_storeR (c := cPth) dPth (xPa84 l acts i K) rfl rfl rfl rfl rfl rfl rfl get_here (by have := (show l.length = K from hl); omega) (Nat.le_of_ble_eq_true rfl) rfl) (by omega) ?_
      refine OA.nil ?_
      intro _
      refine RA.weaken (D' := [((n4 + 3), some (oPth (l.set (nrmN (acts.getD i dAct).num K) (xPa84 l acts i K)))), ((n4 + 2), none), ((n4 + 1), some ⟨[(xPa83 l acts i K)], 15, 87, true⟩), (n4, some ⟨[(cAct (acts.getD i dAct))], 4, 91, true⟩), (qn1, some ⟨[[(.slice (some ⟨jp, 0, none⟩) K 2), (.int .i64 ((f : Nat) : Int))]], 2, 131, true⟩), (jp, some (oPth l)), (jq, some (oPth l))]) hd (Less.of (fac (mm (fun _ => get_here) (fun _ => get_here)) (fac (mm (fun _ => (get_there (by omega) get_here)) (fun _ => (gt2 (by omega) get_here))) (fac (mm (fun _ => (gt2 (by omega) get_here)) (fun _ => (gt3 (by omega) get_here))) (fac (mm (fun _ => (gt3 (by omega) get_here)) (fun _ => (gt4 (by omega) get_here))) (fac (mm (fun _ => (gt4 (by omega) get_here)) (fun _ => (gt5 (by omega) get_here))) (fac (mm (fun _ => (gt5 (by omega) get_here)) (fun _ => (gt6 (by omega) get_here))) (fac (mm (fun _ => (gt6 (by omega) get_here)) (fun _ => (gt7 (by omega) get_here))) fan))))))) (gone_of (by simp only [goneP, memP, List.cons_append, List.nil_append, true_or, or_true, true_and, and_true, or_false] <;> omega))) ?_
      refine RA.seq hd ?_
      refine RA.region env_ok ?_
      refine OA.p (some 76) (Pt qn1 0 0) rfl rfl rfl rfl ?_
      refine OA.p (some 77) (.int .i64 (((nrmN (acts.getD i dAct).num K) : Nat) : Int)) rfl rfl rfl rfl ?_
      refine OA.p (some 78) (.agg ⟨(xPa83 l acts i K)⟩) rfl rfl rfl (r_loadA rfl rfl rfl rfl (gt2 (by omega) get_here) rfl rfl rfl) ?_
      refine OA.call (dst := (some 79)) (all := [(Pt qn1 0 0), (.int .i64 (((nrmN (acts.getD i dAct).num K) : Nat) : Int)), (.agg ⟨(xPa83 l acts i K)⟩)]) rfl rfl rfl rfl rfl rfl rfl rfl (CQ.imp (pSetY (hd.of (by omega) (kb7 (by omega))) qn1 jp K f l hl (by omega) (nrmN (acts.getD i dAct).num K) (by omega) (xPa84 l acts i K) (gt4 (by omega) get_here) (gt5 (by omega) get_here) (eqP_self rfl rfl)) ?_)
      rintro _ n39 _ ⟨rfl, rfl⟩ hn39
      refine OA.app1 ?_
      refine OA.p (some 80) (.bool false) rfl rfl rfl rfl ?_
      refine OA.p (some 81) (.bool false) rfl rfl rfl rfl ?_
      refine OA.p (some 82) (Pt qn1 0 0) rfl rfl rfl rfl ?_
      refine OA.p (some 83) (.int .i64 (((nrmN (acts.getD i dAct).num K) : Nat) : Int)) rfl rfl rfl rfl ?_
      refine OA.p (some 84) (.pointer (some ⟨(n4 + 1), 0, some 0⟩)) rfl rfl rfl rfl ?_
      refine OA.p (some 85) (W (l.getD (nrmN (acts.getD i dAct).num K) dPth).own) rfl rfl rfl (r_load1 rfl rfl rfl rfl rfl (gt3 (by omega) get_here) rfl rfl) ?_
      refine OA.p (some 86) (.pointer (some ⟨(n4 + 1), 0, some 1⟩)) rfl rfl rfl rfl ?_
      refine OA.p (some 87) (W (l.getD (nrmN (acts.getD i dAct).num K) dPth).peer) rfl rfl rfl (r_load1 rfl rfl rfl rfl rfl (gt3 (by omega) get_here) rfl rfl) ?_
      refine OA.p (some 88) (W ((l.getD (nrmN (acts.getD i dAct).num K) dPth).peer + (100#32))) rfl rfl rfl (r_bin rfl rfl rfl (b_addW (l.getD (nrmN (acts.getD i dAct).num K) dPth).peer (100#32))) ?_
      refine OA.p (some 89) (.agg ⟨[(W (l.getD (nrmN (acts.getD i dAct).num K) dPth).own), (W ((l.getD (nrmN (acts.getD i dAct).num K) dPth).peer + (100#32))), (.int .i64 0), (.int .i64 0), (.int .i64 0), (.int .i64 0), (.int .i64 0), (.bool false), (.int .i64 0), (.int .i64 0), (.int .i64 0), (.int .i64 0), (.int .i64 0), (.int .u32 0), (.int .i64 0)]⟩) rfl rfl rfl (by kernel_rfl) ?_
      refine OA.call (dst := (some 90)) (all := [(Pt qn1 0 0), (.int .i64 (((nrmN (acts.getD i dAct).num K) : Nat) : Int)), (.agg ⟨[(W (l.getD (nrmN (acts.getD i dAct).num K) dPth).own), (W ((l.getD (nrmN (acts.getD i dAct).num K) dPth).peer + (100#32))), (.int .i64 0), (.int .i64 0), (.int .i64 0), (.int .i64 0), (.int .i64 0), (.bool false), (.int .i64 0), (.int .i64 0), (.int .i64 0), (.int .i64 0), (.int .i64 0), (.int .u32 0), (.int .i64 0)]⟩)]) rfl rfl rfl rfl rfl rfl rfl rfl (CQ.imp (pSetX (hd.of (by omega) (kb8 (by omega))) qn1 jp K f (l.set (nrmN (acts.getD i dAct).num K) (xPa84 l acts i K)) (by rw [List.length_set, hl]) (by omega) (nrmN (acts.getD i dAct).num K) (by omega) (Pth.mk ((l.getD (nrmN (acts.getD i dAct).num K) dPth).own) ((l.getD (nrmN (acts.getD i dAct).num K) dPth).peer + (100#32)) 0 0 0 0 0 false 0 0 0 0 0 (0#32) 0) (gt5 (by omega) get_here) get_here (by rw [set_getD (by omega)]; exact eqP_far (far100 _))) ?_)
      rintro _ n40 _ ⟨rfl, rfl⟩ hn40
      refine OA.app0 ?_
      refine OA.p (some 91) (.bool false) rfl rfl rfl rfl ?_
      refine OA.p (some 92) (.bool false) rfl rfl rfl rfl ?_
      refine OA.p (some 93) (Pt qn1 0 0) rfl rfl rfl rfl ?_
      refine OA.p (some 94) (.agg ⟨(xPa83 l acts i K)⟩) rfl rfl rfl (r_loadA rfl rfl rfl rfl (gt3 (by omega) get_here) rfl rfl rfl) ?_
      refine OA.callP (dst := (some 95)) (all := [(Pt qn1 0 0), (.int .i64 (-1)), (.agg ⟨(xPa83 l acts i K)⟩)]) (v := (.bool false)) (hd.of (by omega) (kb8 (by omega))) rfl rfl rfl rfl rfl rfl rfl rfl (pSetN qn1 jp K ((f : Nat) : Int) (l.set (nrmN (acts.getD i dAct).num K) (xPa84 l acts i K)) (by rw [List.length_set, hl]) (by omega) (xPa84 l acts i K) (gt5 (by omega) get_here) get_here) ?_
      intro n41 hn41
      refine OA.p (some 96) (.bool false) rfl rfl rfl rfl ?_
      refine OA.nil ?_
      intro _
      refine RA.weaken (D' := [(jp, some (oPth (l.set (nrmN (acts.getD i dAct).num K) (xPa84 l acts i K)))), ((n4 + 3), some (oPth (l.set (nrmN (acts.getD i dAct).num K) (xPa84 l acts i K)))), ((n4 + 2), none), ((n4 + 1), some ⟨[(xPa83 l acts i K)], 15, 87, true⟩), (n4, some ⟨[(cAct (acts.getD i dAct))], 4, 91, true⟩), (qn1, some ⟨[[(.slice (some ⟨jp, 0, none⟩) K 2), (.int .i64 ((f : Nat) : Int))]], 2, 131, true⟩), (jq, some (oPth l))]) hd (Less.of (fac (mm (fun _ => get_here) (fun _ => get_here)) (fac (mm (fun _ => (get_there (by omega) get_here)) (fun _ => (get_there (by omega) get_here))) (fac (mm (fun _ => (gt2 (by omega) get_here)) (fun _ => (gt2 (by omega) get_here))) (fac (mm (fun _ => (gt3 (by omega) get_here)) (fun _ => (gt3 (by omega) get_here))) (fac (mm (fun _ => (gt4 (by omega) get_here)) (fun _ => (gt4 (by omega) get_here))) (fac (mm (fun _ => (gt5 (by omega) get_here)) (fun _ => (gt5 (by omega) get_here))) (fac (mm (fun _ => (gt6 (by omega) get_here)) (fun _ => (gt7 (by omega) get_here))) fan))))))) (gone_of (by simp only [goneP, memP, List.cons_append, List.nil_append, true_or, or_true, true_and, and_true, or_false] <;> omega))) ?_
      refine RA.rebase [(0, va), (3, (Pt qn1 0 0)), (4, (.slice (some ⟨(n4 + 3), 0, none⟩) K 0)), (5, (.int .i64 ((f : Nat) : Int))), (6, (.int .i64 ((i : Nat) : Int))), (7, (Pt n4 0 0)), (8, (W (BitVec.ofNat 32 (andN (acts.getD i dAct).loc 3)))), (9, (W (BitVec.ofNat 32 (andN (acts.getD i dAct).peer 3)))), (17, (.int .i64 (((nrmN (acts.getD i dAct).num K) : Nat) : Int))), (18, (.pointer (some ⟨(n4 + 1), 0, some 0⟩))), (31, (.bool true)), (48, (.int .i64 (((andN (acts.getD i dAct).what 3) : Nat) : Int))), (96, (.bool false)), (97, (.bool false)), (132, (.bool false)), (197, (.bool false))] ⟨rfl, rfl, rfl, rfl, rfl, rfl, rfl, rfl, rfl, rfl, rfl, rfl, rfl, rfl, rfl, rfl, trivial⟩ (fun τr42 => ?_)
      refine RA.condF rfl ?_
      refine RA.skip env_ok ?_
      intro _
      refine RA.leT (t := 4) (v := (.slice (some ⟨(n4 + 3), 0, none⟩) K 0)) (v' := (.slice (some ⟨(n4 + 3), 0, none⟩) K 2)) rfl (vle_row _ _ _) ?_
      refine RA.seq hd ?_
      refine RA.region env_ok ?_
      refine OA.p (some 226) (Pt qn1 0 0) rfl rfl rfl rfl ?_
      refine OA.p (some 227) (.slice (some ⟨(n4 + 3), 0, none⟩) K 2) rfl rfl rfl rfl ?_
      refine OA.p (some 228) (.int .i64 ((f : Nat) : Int)) rfl rfl rfl rfl ?_
      refine OA.p (some 229) (Pt n4 0 3) rfl rfl rfl rfl ?_
      refine OA.p (some 230) (.int .i64 (acts.getD i dAct).num) rfl rfl rfl (r_load1 rfl rfl rfl rfl rfl (gt4 (by omega) get_here) rfl rfl) ?_
      refine OA.callP (dst := (some 231)) (all := [(Pt qn1 0 0), (.slice (some ⟨(n4 + 3), 0, none⟩) K 2), (.int .i64 ((f : Nat) : Int)), (.int .i64 (acts.getD i dAct).num)]) (v := (.bool true)) (hd.of (by omega) (kb7 (by omega))) rfl rfl rfl rfl rfl rfl rfl rfl (pSameL qn1 jp (n4 + 3) K f (l.set (nrmN (acts.getD i dAct).num K) (xPa84 l acts i K)) (by rw [List.length_set, hl]) (by omega) (by omega) (by omega) (okP_set hok (by omega) rfl rfl) (acts.getD i dAct).num (gt5 (by omega) get_here) get_here (get_there (by omega) get_here)) ?_
      intro n43 hn43
      refine OA.p (some 232) (.bool false) rfl rfl rfl rfl ?_
      refine OA.nil ?_
      intro _
      refine RA.condF rfl ?_
      refine RA.skip env_ok ?_
      intro _
      refine RA.region env_ok ?_
      refine OA.p (some 32) (.int .i64 ((i : Nat) : Int)) rfl rfl rfl rfl ?_
      refine OA.p (some 33) (.int .i64 (((i + 1) : Nat) : Int)) rfl rfl rfl (r_bin rfl rfl rfl (b_add (i64_eq (by omega)))) ?_
      refine OA.p (some 6) (.int .i64 (((i + 1) : Nat) : Int)) rfl rfl rfl rfl ?_
      refine OA.nil ?_
      refine ⟨acts.length - (i + 1), by omega, [(qn1, some ⟨[[(.slice (some ⟨jp, 0, none⟩) K 2), (.int .i64 ((f : Nat) : Int))]], 2, 131, true⟩), (jp, some (oPth (l.set (nrmN (acts.getD i dAct).num K) (xPa84 l acts i K)))), ((n4 + 3), some (oPth (l.set (nrmN (acts.getD i dAct).num K) (xPa84 l acts i K))))], (Less.of (fac (mm (fun _ => get_here) (fun _ => (gt5 (by omega) get_here))) (fac (mm (fun _ => (get_there (by omega) get_here)) (fun _ => get_here)) (fac (mm (fun _ => (gt2 (by omega) get_here)) (fun _ => (get_there (by omega) get_here))) fan))) (gone_of (by simp only [goneP, memP, List.cons_append, List.nil_append, true_or, or_true, true_and, and_true, or_false] <;> omega))), ⟨(i + 1), jp, K, f, (l.set (nrmN (acts.getD i dAct).num K) (xPa84 l acts i K)), (n4 + 3), rfl, by omega, ⟨rfl, rfl, rfl, rfl, rfl, trivial⟩, rfl, (kb3 (by omega)), ⟨by omega, by rw [List.length_set, hl], (okP_set hok (by omega) rfl rfl), by omega, by omega, by omega, by omega, by omega, by omega, by omega, by omega⟩⟩⟩
  ·
   refine OA.p (some 30) (.bool false) rfl rfl rfl (Eq.trans (r_bin rfl rfl rfl (b_lss rfl)) (dF hc2)) ?_
   refine OA.p (some 31) (.bool false) rfl rfl rfl rfl ?_
   refine OA.nil ?_
   intro _
   refine RA.condF rfl ?_
   refine RA.exit env_ok ?_
   intro _
   refine RA.seq hd ?_
   refine RA.region env_ok ?_
   refine OA.p (some 2) (.bool true) rfl rfl rfl rfl ?_
   refine OA.nil ?_
   intro _
   refine RA.ret env_ok ?_
   refine ⟨.inr rfl, [(.bool true)], (resL_cons rfl resL_nil), [], (Less.of (fun p hp => by simp at hp) (gone_of (by simp only [goneP, memP, List.cons_append, List.nil_append, true_or, or_true, true_and, and_true, or_false] <;> omega))), rfl⟩
 ·
  refine OA.p (some 27) (.bool false) rfl rfl rfl (Eq.trans (r_bin rfl rfl rfl (b_lss rfl)) (dF hc1)) ?_
  refine OA.p (some 28) (.bool false) rfl rfl rfl rfl ?_
  refine OA.off (dst := (some 29)) rfl rfl rfl ?_
  refine OA.off (dst := (some 30)) rfl rfl rfl ?_
  refine OA.p (some 31) (.bool false) rfl rfl rfl rfl ?_
  refine OA.nil ?_
  intro _
  refine RA.condF rfl ?_
  refine RA.exit env_ok ?_
  intro _
  refine RA.seq hd ?_
  refine RA.region env_ok ?_
  refine OA.p (some 2) (.bool true) rfl rfl rfl rfl ?_
  refine OA.nil ?_
  intro _
  refine RA.ret env_ok ?_
  refine ⟨.inr rfl, [(.bool true)], (resL_cons rfl resL_nil), [], (Less.of (fun p hp => by simp at hp) (gone_of (by simp only [goneP, memP, List.cons_append, List.nil_append, true_or, or_true, true_and, and_true, or_false] <;> omega))), rfl⟩
end Go.Proofs.Ytnjknabighmedaa.Vt
