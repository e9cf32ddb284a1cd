/- Pa6: walks through functions of the program, by the calculus; written by a program of this workplace. -/
import Derived.Test.YtnjknabighmedaaPa5
import Derived.Test.YtnjknabighmedaaVm6
namespace Go.Proofs.Ytnjknabighmedaa.Vt
open Go Go.Proofs Go.Proofs.YtnjknabighmedaaV
set_option maxRecDepth 100000
set_option linter.unusedVariables false
set_option linter.unusedSimpArgs false
def okP (l : List Pth) : Prop := ∀ e ∈ l, 1 ≤ e.own.toNat ∧ e.own.toNat ≤ 4 ∧ 8 ≤ e.peer.toNat ∧ e.peer.toNat ≤ 11
theorem idx_none {α : Type} {p : α → Bool} {l : List α} (h : ∀ e ∈ l, p e = false) : idxZ p l = -1 := by
  unfold idxZ
  rw [if_neg]
  intro h1
  have h2 := List.findIdx_getElem (p := p) (xs := l) (w := h1)
  rw [h _ (List.getElem_mem h1)] at h2
  cases h2
theorem idx_congr {α : Type} {p q : α → Bool} {l : List α} (h : ∀ e ∈ l, p e = q e) : idxZ p l = idxZ q l := by
  have e : l.findIdx p = l.findIdx q := by
    induction l with
    | nil => rfl
    | cons a l ih =>
      rw [List.findIdx_cons, List.findIdx_cons, h a (List.mem_cons_self ..), ih (fun e he => h e (List.mem_cons_of_mem _ he))]
  unfold idxZ; rw [e]
theorem hit_eq {l : List Pth} {a b : BitVec 32} (h : ¬ (a.toNat : Int) = 0) : idxZ (hitP a b) l = idxZ (eqP a b) l := by
  refine idx_congr (fun e _ => ?_)
  unfold hitP eqP
  exact decide_eq_decide.2 ⟨fun ⟨h1, h2⟩ => ⟨h1.resolve_left h, h2⟩, fun ⟨h1, h2⟩ => ⟨.inr h1, h2⟩⟩
theorem hit_pe {l : List Pth} {a b : BitVec 32} (h : (a.toNat : Int) = 0) : idxZ (hitP a b) l = idxZ (peP b) l := by
  refine idx_congr (fun e _ => ?_)
  unfold hitP peP
  exact decide_eq_decide.2 ⟨fun h1 => h1.2, fun h1 => ⟨.inl h, h1⟩⟩
theorem eq99 {l : List Pth} (h : okP l) : idxZ (eqP 99#32 99#32) l = -1 :=
  idx_none (fun e he => decide_eq_false (fun h1 => by have h2 := h e he; have h3 : ((99#32).toNat : Int) = 99 := rfl; omega))
theorem pe99 {l : List Pth} (h : okP l) : idxZ (peP 99#32) l = -1 :=
  idx_none (fun e he => decide_eq_false (fun h1 => by have h2 := h e he; have h3 : ((99#32).toNat : Int) = 99 := rfl; omega))
theorem any_yes {l : List Pth} {i : Nat} (h : i < l.length) (hs : (l.getD i dPth).state ≠ 2) : (l.take (i + 1)).any upP = true := by
  rw [List.take_succ_eq_append_getElem h, List.any_append, List.any_cons]
  rw [List.getD_eq_getElem?_getD, List.getElem?_eq_getElem h] at hs
  rw [show upP l[i] = true from decide_eq_true hs, Bool.true_or, Bool.or_true]
theorem any_more {l : List Pth} {i : Nat} (h : i < l.length) (ha : (l.take i).any upP = true) : (l.take (i + 1)).any upP = true := by
  rw [List.take_succ_eq_append_getElem h, List.any_append, ha, Bool.true_or]
theorem any_no {l : List Pth} {i : Nat} (h : i < l.length) (ha : (l.take i).any upP = false) (hs : ¬ (l.getD i dPth).state ≠ 2) : (l.take (i + 1)).any upP = false := by
  rw [List.take_succ_eq_append_getElem h, List.any_append, ha, List.any_cons]
  rw [List.getD_eq_getElem?_getD, List.getElem?_eq_getElem h] at hs
  rw [show upP l[i] = false from decide_eq_false hs]; rfl
theorem any_end {l : List Pth} {i : Nat} {b : Bool} (h : l.length ≤ i) (ha : (l.take i).any upP = b) : l.any upP = b := by
  rw [List.take_of_length_le h] at ha; exact ha
abbrev xPa61 : List Value := [(.int .u32 0), (.int .u32 0), (.int .i64 0), (.int .i64 0), (.int .i64 0), (.int .i64 0), (.int .i64 0), (.bool false), (.int .i64 0), (.int .i64 0), (.int .i64 0), (.int .i64 0), (.int .i64 0), (.int .u32 0), (.int .i64 0)]
theorem pSameL {σ : Store} (p jp jq K f : Nat) (l : List Pth) (hl : l.length = K) (hK : K ≤ 8) (hK0 : 0 < K) (hf : f < K) (hok : okP l) (x : Int) (hp : σ p = some ⟨[[(.slice (some ⟨jp, 0, none⟩) K 2), (.int .i64 ((f : Nat) : Int))]], 2, 131, true⟩) (hjp : σ jp = some (oPth l)) (hjq : σ jq = some (oPth l))  : PS Try.prog noDen 59 [(Pt p 0 0), (.slice (some ⟨jq, 0, none⟩) K 2), (.int .i64 ((f : Nat) : Int)), (.int .i64 x)] σ (.bool true) := by
 have hK1 : K ≤ 1000 := by omega
 refine PS.body (E := env) env_ok rfl rfl (by show _ ≤ _; exact of_decide_eq_true (by kernel_rfl)) (fun n hd => ?_)
 have lhp := hd.lt hp
 have lhjp := hd.lt hjp
 have lhjq := hd.lt hjq
 refine RA.seq hd ?_
 refine RA.region env_ok ?_
 refine OA.p (some 8) (.bool false) rfl rfl rfl rfl ?_
 refine OA.nil ?_
 intro _
 refine RA.seq hd ?_
 refine RA.region env_ok ?_
 refine OA.p (some 16) (Pt p 0 0) rfl rfl rfl rfl ?_
 refine OA.call (dst := (some 17)) (all := [(Pt p 0 0)]) rfl rfl rfl rfl rfl rfl rfl rfl (CQ.imp (pAll (hd.up (by omega)) p jp K ((f : Nat) : Int) l hl hK1 hp hjp) ?_)
 rintro _ n1 _ ⟨jan1, a1n1, a2n1, rfl, rfl⟩ hn1
 refine OA.app1 ?_
 refine OA.p (some 9) (.slice (some ⟨jan1, 0, none⟩) K 2) rfl rfl rfl rfl ?_
 refine OA.nil ?_
 intro _
 refine RA.seq hd ?_
 refine RA.seq hd ?_
 refine RA.region env_ok ?_
 refine OA.p (some 18) (.slice (some ⟨jan1, 0, none⟩) K 2) rfl rfl rfl rfl ?_
 refine OA.p (some 19) (.int .i64 ((K : Nat) : Int)) rfl rfl rfl rfl ?_
 refine OA.p (some 20) (.slice (some ⟨jq, 0, none⟩) K 2) rfl rfl rfl rfl ?_
 refine OA.p (some 21) (.int .i64 ((K : Nat) : Int)) rfl rfl rfl rfl ?_
 refine OA.p (some 22) (.bool false) rfl rfl rfl (r_bin rfl rfl rfl (b_neq (decide_eq_false (fun h => h rfl)))) ?_
 refine OA.p (some 23) (.bool false) rfl rfl rfl rfl ?_
 refine OA.p (some 24) (Pt p 0 0) rfl rfl rfl rfl ?_
 refine OA.callP (dst := (some 25)) (all := [(Pt p 0 0)]) (v := (.int .i64 ((f : Nat) : Int))) (hd.of (by omega) (kb1 (by omega))) rfl rfl rfl rfl rfl rfl rfl rfl (pFirst p jp K ((f : Nat) : Int) (get_there (by omega) hp)) ?_
 intro n2 hn2
 refine OA.p (some 26) (.int .i64 ((f : Nat) : Int)) rfl rfl rfl rfl ?_
 refine OA.p (some 27) (.bool false) rfl rfl rfl (r_bin rfl rfl rfl (b_neq (decide_eq_false (fun h => h rfl)))) ?_
 refine OA.p (some 28) (.bool false) rfl rfl rfl rfl ?_
 refine OA.p (some 29) (.bool false) rfl rfl rfl rfl ?_
 refine OA.p (some 30) (Pt p 0 0) rfl rfl rfl rfl ?_
 refine OA.callP (dst := (some 31)) (all := [(Pt p 0 0)]) (v := (.int .i64 (((useN l f) : Nat) : Int))) (hd.of (by omega) (kb1 (by omega))) rfl rfl rfl rfl rfl rfl rfl rfl (pUse p jp K f l hl hK1 hf (get_there (by omega) hp) (get_there (by omega) hjp)) ?_
 intro n3 hn3
 refine OA.p (some 32) (.slice (some ⟨jq, 0, none⟩) K 2) rfl rfl rfl rfl ?_
 refine OA.p (some 33) (.int .i64 ((f : Nat) : Int)) rfl rfl rfl rfl ?_
 refine OA.callP (dst := (some 34)) (all := [(.slice (some ⟨jq, 0, none⟩) K 2), (.int .i64 ((f : Nat) : Int))]) (v := (.int .i64 (((useN l f) : Nat) : Int))) (hd.of (by omega) (kb1 (by omega))) rfl rfl rfl rfl rfl rfl rfl rfl (pUsl jq K f l hl hK1 hf (get_there (by omega) hjq)) ?_
 intro n4 hn4
 refine OA.p (some 35) (.bool false) rfl rfl rfl (r_bin rfl rfl rfl (b_neq (decide_eq_false (fun h => h rfl)))) ?_
 refine OA.p (some 36) (.bool false) rfl rfl rfl rfl ?_
 refine OA.nil ?_
 intro _
 refine RA.condF rfl ?_
 refine RA.skip env_ok ?_
 intro _
 refine RA.seq hd ?_
 refine RA.region env_ok ?_
 refine OA.p (some 10) (.bool false) rfl rfl rfl rfl ?_
 refine OA.nil ?_
 intro _
 refine RA.seq hd ?_
 refine RA.seq hd ?_
 refine RA.region env_ok ?_
 refine OA.p (some 11) (.int .i64 0) rfl rfl rfl rfl ?_
 refine OA.nil ?_
 intro _
 refine RA.rebase [(0, (Pt p 0 0)), (1, (.slice (some ⟨jq, 0, none⟩) K 2)), (2, (.int .i64 ((f : Nat) : Int))), (3, (.int .i64 x)), (8, (.bool false)), (9, (.slice (some ⟨jan1, 0, none⟩) K 2)), (10, (.bool false)), (11, (.int .i64 0)), (36, (.bool false))] ⟨rfl, rfl, rfl, rfl, rfl, rfl, rfl, rfl, rfl, trivial⟩ (fun τr5 => ?_)
 refine RA.block ?_
 refine RA.loop hd (fun kk_ τ n' D => (∃ i : Nat, kk_ = K - i ∧ n4 ≤ n' ∧ Has τ [(0, (Pt p 0 0)), (1, (.slice (some ⟨jq, 0, none⟩) K 2)), (2, (.int .i64 ((f : Nat) : Int))), (3, (.int .i64 x)), (9, (.slice (some ⟨jan1, 0, none⟩) K 2)), (10, (.bool false)), (11, (.int .i64 ((i : Nat) : Int)))] ∧ D = [(jan1, some (oPth l))] ∧ (∀ i ∈ keys D, i < n') ∧ i ≤ K ∧ (l.take i).any upP = false) ∨ (∃ i : Nat, kk_ = K - i ∧ n4 ≤ n' ∧ Has τ [(0, (Pt p 0 0)), (1, (.slice (some ⟨jq, 0, none⟩) K 2)), (2, (.int .i64 ((f : Nat) : Int))), (3, (.int .i64 x)), (9, (.slice (some ⟨jan1, 0, none⟩) K 2)), (10, (.bool true)), (11, (.int .i64 ((i : Nat) : Int)))] ∧ D = [(jan1, some (oPth l))] ∧ (∀ i ∈ keys D, i < n') ∧ i ≤ K ∧ (l.take i).any upP = true)) (K - 0) (.inl (⟨0, rfl, by omega, ⟨rfl, rfl, rfl, rfl, rfl, rfl, rfl, trivial⟩, rfl, (kb1 (by omega)), ⟨by omega, by rw [List.take_zero]; rfl⟩⟩)) ?_
 rintro kn6 τ6 n6 Dn6 hSn6
 rcases hSn6 with ⟨i, rfl, hn6, hHn6, rfl, hKn6, hIn6⟩ | ⟨i, rfl, hn6, hHn6, rfl, hKn6, hIn6⟩
 ·
  rw [Has.eq hHn6]
  have hKn6_0 : jan1 < n6 := hKn6 _ (by simp only [keys, List.map_cons, List.map_nil, List.mem_cons, true_or, or_true])
  clear hKn6
  obtain ⟨hi1, hi2⟩ := hIn6
  refine RA.seq hd ?_
  refine RA.seq hd ?_
  refine RA.region env_ok ?_
  refine OA.p (some 37) (.int .i64 ((i : Nat) : Int)) rfl rfl rfl rfl ?_
  refine OA.p (some 38) (.slice (some ⟨jq, 0, none⟩) K 2) rfl rfl rfl rfl ?_
  refine OA.p (some 39) (.int .i64 ((K : Nat) : Int)) rfl rfl rfl rfl ?_
  by_cases hc1 : ((i : Nat) : Int) < ((K : Nat) : Int)
  ·
   refine OA.p (some 40) (.bool true) rfl rfl rfl (Eq.trans (r_bin rfl rfl rfl (b_lss rfl)) (dT hc1)) ?_
   refine OA.nil ?_
   intro _
   refine RA.condT rfl ?_
   refine RA.skip env_ok ?_
   intro _
   refine RA.seq hd ?_
   refine RA.block ?_
   refine RA.seq hd ?_
   refine RA.seq hd ?_
   refine RA.par (md := [some [], some [], some [jan1], some [jan1], some [], some [], some [jq], some [jq], some [], some [], some [], some [], none, some [], some [], some [jq], some [jq], some [], some [], some [], some [], some [], some [], some [jq], some [], some [jq], some [], some [], some [jq], some [], some [jq], none, some [], some [], some [], some [jq], some [], some [jq], some [], some [], some [jq], some [], some [jq], none, some [], some [], some [], some [], some [], some [], some [jq], some [], some [jq], none, some [], some [], some [], some [jq], some [], some [jq], none, some [], some []]) env_ok (hd.of (by omega) (kb1 (by omega))) (by kernel_rfl) ?_
   refine PQ.pure (dst := (some 43)) (v := (.slice (some ⟨jan1, 0, none⟩) K 2)) rfl rfl rfl noStore (none_ok _ _) rfl ?_
   refine PQ.pure (dst := (some 44)) (v := (.int .i64 ((i : Nat) : Int))) rfl rfl rfl noStore (none_ok _ _) rfl ?_
   refine PQ.pure (dst := (some 45)) (v := (Pt jan1 i 0)) rfl rfl rfl (app [(jan1, some (oPth l))] noStore) (seen_one (V := []) (D := [(jan1, some (oPth l))]) (by kernel_rfl) get_here) (r_iaS (l := i) rfl rfl rfl rfl rfl rfl (by omega) (by omega) get_here rfl (by omega)) ?_
   refine PQ.pure (dst := (some 46)) (v := (.agg ⟨(cPth (l.getD i dPth))⟩)) rfl rfl rfl (app [(jan1, some (oPth l))] noStore) (seen_one (V := []) (D := [(jan1, some (oPth l))]) (by kernel_rfl) get_here) (r_loadR (c := cPth) dPth rfl rfl rfl rfl get_here (by rw [hl]; omega) rfl) ?_
   refine PQ.pure (dst := (some 47)) (v := (.slice (some ⟨jq, 0, none⟩) K 2)) rfl rfl rfl noStore (none_ok _ _) rfl ?_
   refine PQ.pure (dst := (some 48)) (v := (.int .i64 ((i : Nat) : Int))) rfl rfl rfl noStore (none_ok _ _) rfl ?_
   refine PQ.pure (dst := (some 49)) (v := (Pt jq i 0)) rfl rfl rfl (app [(jq, some (oPth l))] noStore) (seen_one (V := []) (D := [(jan1, some (oPth l))]) (by kernel_rfl) (get_there (by omega) hjq)) (r_iaS (l := i) rfl rfl rfl rfl rfl rfl (by omega) (by omega) get_here rfl (by omega)) ?_
   refine PQ.pure (dst := (some 50)) (v := (.agg ⟨(cPth (l.getD i dPth))⟩)) rfl rfl rfl (app [(jq, some (oPth l))] noStore) (seen_one (V := []) (D := [(jan1, some (oPth l))]) (by kernel_rfl) (get_there (by omega) hjq)) (r_loadR (c := cPth) dPth rfl rfl rfl rfl get_here (by rw [hl]; omega) rfl) ?_
   refine PQ.pure (dst := (some 51)) (v := (.bool false)) rfl rfl rfl noStore (none_ok _ _) (r_neqA (r := true) rfl rfl rfl (by kernel_rfl) (aeq_self _ _ _ (by kernel_rfl))) ?_
   refine PQ.pure (dst := (some 52)) (v := (.bool false)) rfl rfl rfl noStore (none_ok _ _) rfl ?_
   refine PQ.pure (dst := (some 53)) (v := (Pt p 0 0)) rfl rfl rfl noStore (none_ok _ _) rfl ?_
   refine PQ.pure (dst := (some 54)) (v := (.int .i64 ((i : Nat) : Int))) rfl rfl rfl noStore (none_ok _ _) rfl ?_
   refine PQ.callP (dst := (some 55)) (all := [(Pt p 0 0), (.int .i64 ((i : Nat) : Int))]) (v := (.agg ⟨(cPth (l.getD i dPth))⟩)) _ (hd.of (by omega) (kb1 (by omega))) rfl rfl rfl rfl rfl rfl rfl rfl (seen_any (V := []) (D := [(jan1, some (oPth l))]) (by kernel_rfl)) (pAt p jp K ((f : Nat) : Int) l hl hK1 i (by omega) (get_there (by omega) hp) (get_there (by omega) hjp)) ?_
   intro n7 hn7
   refine PQ.pure (dst := (some 56)) (v := (.slice (some ⟨jq, 0, none⟩) K 2)) rfl rfl rfl noStore (none_ok _ _) rfl ?_
   refine PQ.pure (dst := (some 57)) (v := (.int .i64 ((i : Nat) : Int))) rfl rfl rfl noStore (none_ok _ _) rfl ?_
   refine PQ.pure (dst := (some 58)) (v := (Pt jq i 0)) rfl rfl rfl (app [(jq, some (oPth l))] noStore) (seen_one (V := []) (D := [(jan1, some (oPth l))]) (by kernel_rfl) (get_there (by omega) hjq)) (r_iaS (l := i) rfl rfl rfl rfl rfl rfl (by omega) (by omega) get_here rfl (by omega)) ?_
   refine PQ.pure (dst := (some 59)) (v := (.agg ⟨(cPth (l.getD i dPth))⟩)) rfl rfl rfl (app [(jq, some (oPth l))] noStore) (seen_one (V := []) (D := [(jan1, some (oPth l))]) (by kernel_rfl) (get_there (by omega) hjq)) (r_loadR (c := cPth) dPth rfl rfl rfl rfl get_here (by rw [hl]; omega) rfl) ?_
   refine PQ.pure (dst := (some 60)) (v := (.bool false)) rfl rfl rfl noStore (none_ok _ _) (r_neqA (r := true) rfl rfl rfl (by kernel_rfl) (aeq_self _ _ _ (by kernel_rfl))) ?_
   refine PQ.pure (dst := (some 61)) (v := (.bool false)) rfl rfl rfl noStore (none_ok _ _) rfl ?_
   refine PQ.pure (dst := (some 62)) (v := (.bool false)) rfl rfl rfl noStore (none_ok _ _) rfl ?_
   refine PQ.pure (dst := (some 63)) (v := (Pt p 0 0)) rfl rfl rfl noStore (none_ok _ _) rfl ?_
   refine PQ.pure (dst := (some 64)) (v := (.slice (some ⟨jq, 0, none⟩) K 2)) rfl rfl rfl noStore (none_ok _ _) rfl ?_
   refine PQ.pure (dst := (some 65)) (v := (.int .i64 ((i : Nat) : Int))) rfl rfl rfl noStore (none_ok _ _) rfl ?_
   refine PQ.pure (dst := (some 66)) (v := (Pt jq i 0)) rfl rfl rfl (app [(jq, some (oPth l))] noStore) (seen_one (V := []) (D := [(jan1, some (oPth l))]) (by kernel_rfl) (get_there (by omega) hjq)) (r_iaS (l := i) rfl rfl rfl rfl rfl rfl (by omega) (by omega) get_here rfl (by omega)) ?_
   refine PQ.pure (dst := (some 67)) (v := (Pt jq i 0)) rfl rfl rfl noStore (none_ok _ _) rfl ?_
   refine PQ.pure (dst := (some 68)) (v := (W (l.getD i dPth).own)) rfl rfl rfl (app [(jq, some (oPth l))] noStore) (seen_one (V := []) (D := [(jan1, some (oPth l))]) (by kernel_rfl) (get_there (by omega) hjq)) (r_loadF (c := cPth) dPth rfl rfl rfl rfl rfl get_here (by rw [hl]; omega) rfl) ?_
   refine PQ.pure (dst := (some 69)) (v := (.slice (some ⟨jq, 0, none⟩) K 2)) rfl rfl rfl noStore (none_ok _ _) rfl ?_
   refine PQ.pure (dst := (some 70)) (v := (.int .i64 ((i : Nat) : Int))) rfl rfl rfl noStore (none_ok _ _) rfl ?_
   refine PQ.pure (dst := (some 71)) (v := (Pt jq i 0)) rfl rfl rfl (app [(jq, some (oPth l))] noStore) (seen_one (V := []) (D := [(jan1, some (oPth l))]) (by kernel_rfl) (get_there (by omega) hjq)) (r_iaS (l := i) rfl rfl rfl rfl rfl rfl (by omega) (by omega) get_here rfl (by omega)) ?_
   refine PQ.pure (dst := (some 72)) (v := (Pt jq i 1)) rfl rfl rfl noStore (none_ok _ _) rfl ?_
   refine PQ.pure (dst := (some 73)) (v := (W (l.getD i dPth).peer)) rfl rfl rfl (app [(jq, some (oPth l))] noStore) (seen_one (V := []) (D := [(jan1, some (oPth l))]) (by kernel_rfl) (get_there (by omega) hjq)) (r_loadF (c := cPth) dPth rfl rfl rfl rfl rfl get_here (by rw [hl]; omega) rfl) ?_
   refine PQ.callP (dst := (some 74)) (all := [(Pt p 0 0), (W (l.getD i dPth).own), (W (l.getD i dPth).peer)]) (v := (.int .i64 (idxZ (eqP (l.getD i dPth).own (l.getD i dPth).peer) l))) _ (hd.of (by omega) (kb1 (by omega))) rfl rfl rfl rfl rfl rfl rfl rfl (seen_any (V := []) (D := [(jan1, some (oPth l))]) (by kernel_rfl)) (pFindP p jp K ((f : Nat) : Int) l hl hK1 (l.getD i dPth).own (l.getD i dPth).peer (get_there (by omega) hp) (get_there (by omega) hjp)) ?_
   intro n8 hn8
   refine PQ.pure (dst := (some 75)) (v := (.slice (some ⟨jq, 0, none⟩) K 2)) rfl rfl rfl noStore (none_ok _ _) rfl ?_
   refine PQ.pure (dst := (some 76)) (v := (.slice (some ⟨jq, 0, none⟩) K 2)) rfl rfl rfl noStore (none_ok _ _) rfl ?_
   refine PQ.pure (dst := (some 77)) (v := (.int .i64 ((i : Nat) : Int))) rfl rfl rfl noStore (none_ok _ _) rfl ?_
   refine PQ.pure (dst := (some 78)) (v := (Pt jq i 0)) rfl rfl rfl (app [(jq, some (oPth l))] noStore) (seen_one (V := []) (D := [(jan1, some (oPth l))]) (by kernel_rfl) (get_there (by omega) hjq)) (r_iaS (l := i) rfl rfl rfl rfl rfl rfl (by omega) (by omega) get_here rfl (by omega)) ?_
   refine PQ.pure (dst := (some 79)) (v := (Pt jq i 0)) rfl rfl rfl noStore (none_ok _ _) rfl ?_
   refine PQ.pure (dst := (some 80)) (v := (W (l.getD i dPth).own)) rfl rfl rfl (app [(jq, some (oPth l))] noStore) (seen_one (V := []) (D := [(jan1, some (oPth l))]) (by kernel_rfl) (get_there (by omega) hjq)) (r_loadF (c := cPth) dPth rfl rfl rfl rfl rfl get_here (by rw [hl]; omega) rfl) ?_
   refine PQ.pure (dst := (some 81)) (v := (.slice (some ⟨jq, 0, none⟩) K 2)) rfl rfl rfl noStore (none_ok _ _) rfl ?_
   refine PQ.pure (dst := (some 82)) (v := (.int .i64 ((i : Nat) : Int))) rfl rfl rfl noStore (none_ok _ _) rfl ?_
   refine PQ.pure (dst := (some 83)) (v := (Pt jq i 0)) rfl rfl rfl (app [(jq, some (oPth l))] noStore) (seen_one (V := []) (D := [(jan1, some (oPth l))]) (by kernel_rfl) (get_there (by omega) hjq)) (r_iaS (l := i) rfl rfl rfl rfl rfl rfl (by omega) (by omega) get_here rfl (by omega)) ?_
   refine PQ.pure (dst := (some 84)) (v := (Pt jq i 1)) rfl rfl rfl noStore (none_ok _ _) rfl ?_
   refine PQ.pure (dst := (some 85)) (v := (W (l.getD i dPth).peer)) rfl rfl rfl (app [(jq, some (oPth l))] noStore) (seen_one (V := []) (D := [(jan1, some (oPth l))]) (by kernel_rfl) (get_there (by omega) hjq)) (r_loadF (c := cPth) dPth rfl rfl rfl rfl rfl get_here (by rw [hl]; omega) rfl) ?_
   refine PQ.callP (dst := (some 86)) (all := [(.slice (some ⟨jq, 0, none⟩) K 2), (W (l.getD i dPth).own), (W (l.getD i dPth).peer)]) (v := (.int .i64 (idxZ (eqP (l.getD i dPth).own (l.getD i dPth).peer) l))) _ (hd.of (by omega) (kb1 (by omega))) rfl rfl rfl rfl rfl rfl rfl rfl (seen_any (V := []) (D := [(jan1, some (oPth l))]) (by kernel_rfl)) (PS.to (pFind jq K l hl hK1 (l.getD i dPth).own (l.getD i dPth).peer (get_there (by omega) hjq)) (congrArg (Value.int .i64) (hit_eq (by have := (hok _ (getD_mem (d := dPth) (l := l) (i := i) (by omega))).1; omega)))) ?_
   intro n9 hn9
   refine PQ.pure (dst := (some 87)) (v := (.bool false)) rfl rfl rfl noStore (none_ok _ _) (r_bin rfl rfl rfl (b_neq (decide_eq_false (fun h => h rfl)))) ?_
   refine PQ.pure (dst := (some 88)) (v := (.bool false)) rfl rfl rfl noStore (none_ok _ _) rfl ?_
   refine PQ.pure (dst := (some 89)) (v := (.bool false)) rfl rfl rfl noStore (none_ok _ _) rfl ?_
   refine PQ.pure (dst := (some 90)) (v := (Pt p 0 0)) rfl rfl rfl noStore (none_ok _ _) rfl ?_
   refine PQ.pure (dst := (some 91)) (v := (.slice (some ⟨jq, 0, none⟩) K 2)) rfl rfl rfl noStore (none_ok _ _) rfl ?_
   refine PQ.pure (dst := (some 92)) (v := (.int .i64 ((i : Nat) : Int))) rfl rfl rfl noStore (none_ok _ _) rfl ?_
   refine PQ.pure (dst := (some 93)) (v := (Pt jq i 0)) rfl rfl rfl (app [(jq, some (oPth l))] noStore) (seen_one (V := []) (D := [(jan1, some (oPth l))]) (by kernel_rfl) (get_there (by omega) hjq)) (r_iaS (l := i) rfl rfl rfl rfl rfl rfl (by omega) (by omega) get_here rfl (by omega)) ?_
   refine PQ.pure (dst := (some 94)) (v := (Pt jq i 1)) rfl rfl rfl noStore (none_ok _ _) rfl ?_
   refine PQ.pure (dst := (some 95)) (v := (W (l.getD i dPth).peer)) rfl rfl rfl (app [(jq, some (oPth l))] noStore) (seen_one (V := []) (D := [(jan1, some (oPth l))]) (by kernel_rfl) (get_there (by omega) hjq)) (r_loadF (c := cPth) dPth rfl rfl rfl rfl rfl get_here (by rw [hl]; omega) rfl) ?_
   refine PQ.callP (dst := (some 96)) (all := [(Pt p 0 0), (W (l.getD i dPth).peer)]) (v := (.int .i64 (idxZ (peP (l.getD i dPth).peer) l))) _ (hd.of (by omega) (kb1 (by omega))) rfl rfl rfl rfl rfl rfl rfl rfl (seen_any (V := []) (D := [(jan1, some (oPth l))]) (by kernel_rfl)) (pPeer p jp K ((f : Nat) : Int) l hl hK1 (l.getD i dPth).peer (get_there (by omega) hp) (get_there (by omega) hjp)) ?_
   intro n10 hn10
   refine PQ.pure (dst := (some 97)) (v := (.slice (some ⟨jq, 0, none⟩) K 2)) rfl rfl rfl noStore (none_ok _ _) rfl ?_
   refine PQ.pure (dst := (some 98)) (v := (.slice (some ⟨jq, 0, none⟩) K 2)) rfl rfl rfl noStore (none_ok _ _) rfl ?_
   refine PQ.pure (dst := (some 99)) (v := (.int .i64 ((i : Nat) : Int))) rfl rfl rfl noStore (none_ok _ _) rfl ?_
   refine PQ.pure (dst := (some 100)) (v := (Pt jq i 0)) rfl rfl rfl (app [(jq, some (oPth l))] noStore) (seen_one (V := []) (D := [(jan1, some (oPth l))]) (by kernel_rfl) (get_there (by omega) hjq)) (r_iaS (l := i) rfl rfl rfl rfl rfl rfl (by omega) (by omega) get_here rfl (by omega)) ?_
   refine PQ.pure (dst := (some 101)) (v := (Pt jq i 1)) rfl rfl rfl noStore (none_ok _ _) rfl ?_
   refine PQ.pure (dst := (some 102)) (v := (W (l.getD i dPth).peer)) rfl rfl rfl (app [(jq, some (oPth l))] noStore) (seen_one (V := []) (D := [(jan1, some (oPth l))]) (by kernel_rfl) (get_there (by omega) hjq)) (r_loadF (c := cPth) dPth rfl rfl rfl rfl rfl get_here (by rw [hl]; omega) rfl) ?_
   refine PQ.callP (dst := (some 103)) (all := [(.slice (some ⟨jq, 0, none⟩) K 2), (.int .u32 0), (W (l.getD i dPth).peer)]) (v := (.int .i64 (idxZ (peP (l.getD i dPth).peer) l))) _ (hd.of (by omega) (kb1 (by omega))) rfl rfl rfl rfl rfl rfl rfl rfl (seen_any (V := []) (D := [(jan1, some (oPth l))]) (by kernel_rfl)) (PS.to (pFind jq K l hl hK1 0#32 (l.getD i dPth).peer (get_there (by omega) hjq)) (congrArg (Value.int .i64) (hit_pe rfl))) ?_
   intro n11 hn11
   refine PQ.pure (dst := (some 104)) (v := (.bool false)) rfl rfl rfl noStore (none_ok _ _) (r_bin rfl rfl rfl (b_neq (decide_eq_false (fun h => h rfl)))) ?_
   refine PQ.pure (dst := (some 105)) (v := (.bool false)) rfl rfl rfl noStore (none_ok _ _) rfl ?_
   refine PQ.done (d := []) (by kernel_rfl) ?_
   intro _
   refine RA.rebase [(0, (Pt p 0 0)), (1, (.slice (some ⟨jq, 0, none⟩) K 2)), (2, (.int .i64 ((f : Nat) : Int))), (3, (.int .i64 x)), (9, (.slice (some ⟨jan1, 0, none⟩) K 2)), (10, (.bool false)), (11, (.int .i64 ((i : Nat) : Int))), (40, (.bool true)), (105, (.bool false))] ⟨rfl, rfl, rfl, rfl, rfl, rfl, rfl, rfl, rfl, trivial⟩ (fun τr12 => ?_)
   refine RA.condF rfl ?_
   refine RA.skip env_ok ?_
   intro _
   refine RA.region env_ok ?_
   refine OA.p (some 106) (.bool false) rfl rfl rfl rfl ?_
   refine OA.p (some 107) (.bool false) rfl rfl rfl rfl ?_
   refine OA.p (some 108) (.slice (some ⟨jq, 0, none⟩) K 2) rfl rfl rfl rfl ?_
   refine OA.p (some 109) (.int .i64 ((i : Nat) : Int)) rfl rfl rfl rfl ?_
   refine OA.p (some 110) (Pt jq i 0) rfl rfl rfl (r_iaS (l := i) rfl rfl rfl rfl rfl rfl (by omega) (by omega) (get_there (by omega) hjq) rfl (by omega)) ?_
   refine OA.p (some 111) (Pt jq i 2) rfl rfl rfl rfl ?_
   refine OA.p (some 112) (.int .i64 (l.getD i dPth).state) rfl rfl rfl (r_loadF (c := cPth) dPth rfl rfl rfl rfl rfl (get_there (by omega) hjq) (by rw [hl]; omega) rfl) ?_
   by_cases hc2 : (l.getD i dPth).state ≠ 2
   ·
    refine OA.p (some 113) (.bool true) rfl rfl rfl (Eq.trans (r_bin rfl rfl rfl (b_neq rfl)) (dT hc2)) ?_
    refine OA.p (some 114) (.bool true) rfl rfl rfl rfl ?_
    refine OA.p (some 10) (.bool true) rfl rfl rfl rfl ?_
    refine OA.nil ?_
    intro _
    refine RA.region env_ok ?_
    refine OA.p (some 41) (.int .i64 ((i : Nat) : Int)) rfl rfl rfl rfl ?_
    refine OA.p (some 42) (.int .i64 (((i + 1) : Nat) : Int)) rfl rfl rfl (r_bin rfl rfl rfl (b_add (i64_eq (by omega)))) ?_
    refine OA.p (some 11) (.int .i64 (((i + 1) : Nat) : Int)) rfl rfl rfl rfl ?_
    refine OA.nil ?_
    refine ⟨K - (i + 1), by omega, [(jan1, some (oPth l))], (Less.refl _ _ _), .inr (⟨(i + 1), rfl, by omega, ⟨rfl, rfl, rfl, rfl, rfl, rfl, rfl, trivial⟩, rfl, (kb1 (by omega)), ⟨by omega, any_yes (by omega) hc2⟩⟩)⟩
   ·
    refine OA.p (some 113) (.bool false) rfl rfl rfl (Eq.trans (r_bin rfl rfl rfl (b_neq rfl)) (dF hc2)) ?_
    refine OA.p (some 114) (.bool false) rfl rfl rfl rfl ?_
    refine OA.p (some 10) (.bool false) rfl rfl rfl rfl ?_
    refine OA.nil ?_
    intro _
    refine RA.region env_ok ?_
    refine OA.p (some 41) (.int .i64 ((i : Nat) : Int)) rfl rfl rfl rfl ?_
    refine OA.p (some 42) (.int .i64 (((i + 1) : Nat) : Int)) rfl rfl rfl (r_bin rfl rfl rfl (b_add (i64_eq (by omega)))) ?_
    refine OA.p (some 11) (.int .i64 (((i + 1) : Nat) : Int)) rfl rfl rfl rfl ?_
    refine OA.nil ?_
    refine ⟨K - (i + 1), by omega, [(jan1, some (oPth l))], (Less.refl _ _ _), .inl (⟨(i + 1), rfl, by omega, ⟨rfl, rfl, rfl, rfl, rfl, rfl, rfl, trivial⟩, rfl, (kb1 (by omega)), ⟨by omega, any_no (by omega) hi2 hc2⟩⟩)⟩
  ·
   refine OA.p (some 40) (.bool false) rfl rfl rfl (Eq.trans (r_bin rfl rfl rfl (b_lss rfl)) (dF hc1)) ?_
   refine OA.nil ?_
   intro _
   refine RA.condF rfl ?_
   refine RA.exit env_ok ?_
   intro _
   refine RA.seq hd ?_
   refine RA.region env_ok ?_
   refine OA.p (some 115) (.int .i64 x) rfl rfl rfl rfl ?_
   refine OA.p (some 116) (.slice (some ⟨jq, 0, none⟩) K 2) rfl rfl rfl rfl ?_
   refine OA.p (some 117) (.int .i64 ((K : Nat) : Int)) rfl rfl rfl rfl ?_
   have htm13 := tmod_lt (x := x) (K := K) (by omega)
   refine OA.p (some 118) (.int .i64 (Int.tmod x ((K : Nat) : Int))) rfl rfl rfl (r_bin rfl rfl rfl (b_rem (by omega) rfl)) ?_
   refine OA.p (some 119) (.slice (some ⟨jq, 0, none⟩) K 2) rfl rfl rfl rfl ?_
   refine OA.p (some 120) (.int .i64 ((K : Nat) : Int)) rfl rfl rfl rfl ?_
   refine OA.p (some 121) (.int .i64 ((Int.tmod x ((K : Nat) : Int)) + ((K : Nat) : Int))) rfl rfl rfl (r_bin rfl rfl rfl (b_add (i64_eq (by omega)))) ?_
   refine OA.p (some 122) (.slice (some ⟨jq, 0, none⟩) K 2) rfl rfl rfl rfl ?_
   refine OA.p (some 123) (.int .i64 ((K : Nat) : Int)) rfl rfl rfl rfl ?_
   have hnm14 := nrm_lt (x := x) (K := K) (by omega)
   refine OA.p (some 124) (.int .i64 (((nrmN x K) : Nat) : Int)) rfl rfl rfl (r_bin rfl rfl rfl (b_rem (by omega) (nrm_eq (by omega)))) ?_
   refine OA.p (some 12) (.int .i64 (((nrmN x K) : Nat) : Int)) rfl rfl rfl rfl ?_
   refine OA.nil ?_
   intro _
   refine RA.seq hd ?_
   refine RA.region env_ok ?_
   refine OA.p (some 125) (.int .i64 (((nrmN x K) : Nat) : Int)) rfl rfl rfl rfl ?_
   refine OA.p (some 13) (.int .i64 (((nrmN x K) : Nat) : Int)) rfl rfl rfl rfl ?_
   refine OA.nil ?_
   intro _
   refine RA.seq hd ?_
   refine RA.seq hd ?_
   refine RA.region env_ok ?_
   refine OA.p (some 126) (.slice (some ⟨jq, 0, none⟩) K 2) rfl rfl rfl rfl ?_
   refine OA.p (some 127) (.int .i64 ((K : Nat) : Int)) rfl rfl rfl rfl ?_
   refine OA.p (some 128) (.int .i64 (((K - 1) : Nat) : Int)) rfl rfl rfl (r_bin rfl rfl rfl (b_sub (i64_eq (by omega)))) ?_
   refine OA.p (some 14) (.int .i64 (((K - 1) : Nat) : Int)) rfl rfl rfl rfl ?_
   refine OA.nil ?_
   intro _
   refine RA.block ?_
   refine RA.weaken (D' := []) hd (Less.of (fun p hp => by simp at hp) (gone_of (by simp only [goneP, memP, List.cons_append, List.nil_append, true_or, or_true, true_and, and_true, or_false] <;> omega))) ?_
   refine RA.loop hd (fun kk_ τ n' D => ∃ o : Nat, ∃ m : Nat,  kk_ = (2 * m) ∧ n6 ≤ n' ∧ Has τ [(0, (Pt p 0 0)), (1, (.slice (some ⟨jq, 0, none⟩) K 2)), (10, (.bool false)), (12, (.int .i64 (((nrmN x K) : Nat) : Int))), (13, (.int .i64 ((o : Nat) : Int))), (14, (.int .i64 ((m : Nat) : Int)))] ∧ D = [] ∧ (∀ i ∈ keys D, i < n') ∧ m < K ∧ o < K ∧ othI l (nrmN x K) m o) ((2 * (K - 1))) ⟨(nrmN x K), (K - 1), rfl, by omega, ⟨rfl, rfl, rfl, rfl, rfl, rfl, trivial⟩, rfl, (fun i hi => by cases hi), ⟨by omega, by omega, othI_0 (by omega)⟩⟩ ?_
   rintro kn15 τ15 n15 _ ⟨o, m, rfl, hn15, hHn15, rfl, hKn15, hIn15⟩
   rw [Has.eq hHn15]
   simp only [keys, List.map, List.forall_mem_cons, List.mem_cons, List.not_mem_nil, false_imp_iff, implies_true, and_true] at hKn15
   obtain ⟨ho1, ho2, ho3⟩ := hIn15
   refine RA.seq hd ?_
   refine RA.seq hd ?_
   refine RA.region env_ok ?_
   refine OA.p (some 129) (.int .i64 ((m : Nat) : Int)) rfl rfl rfl rfl ?_
   by_cases hc3 : 1 ≤ ((m : Nat) : Int)
   ·
    refine OA.p (some 130) (.bool true) rfl rfl rfl (Eq.trans (r_bin rfl rfl rfl (b_geq rfl)) (dT hc3)) ?_
    refine OA.nil ?_
    intro _
    refine RA.condT rfl ?_
    refine RA.skip env_ok ?_
    intro _
    refine RA.seq hd ?_
    refine RA.block ?_
    refine RA.seq hd ?_
    refine RA.region env_ok ?_
    refine OA.p (some 133) (.int .i64 (((nrmN x K) : Nat) : Int)) rfl rfl rfl rfl ?_
    refine OA.p (some 134) (.int .i64 ((m : Nat) : Int)) rfl rfl rfl rfl ?_
    refine OA.p (some 135) (.int .i64 ((((nrmN x K) + m) : Nat) : Int)) rfl rfl rfl (r_bin rfl rfl rfl (b_add (i64_eq (by omega)))) ?_
    refine OA.p (some 136) (.slice (some ⟨jq, 0, none⟩) K 2) rfl rfl rfl rfl ?_
    refine OA.p (some 137) (.int .i64 ((K : Nat) : Int)) rfl rfl rfl rfl ?_
    have hmd16 := Nat.mod_lt ((nrmN x K) + m) (show 0 < K by omega)
    refine OA.p (some 138) (.int .i64 (((((nrmN x K) + m) % K) : Nat) : Int)) rfl rfl rfl (r_bin rfl rfl rfl (b_remN (a := ((nrmN x K) + m)) (c := K) (by omega))) ?_
    refine OA.p (some 15) (.int .i64 (((((nrmN x K) + m) % K) : Nat) : Int)) rfl rfl rfl rfl ?_
    refine OA.nil ?_
    intro _
    refine RA.seq hd ?_
    refine RA.region env_ok ?_
    refine OA.p (some 139) (.slice (some ⟨jq, 0, none⟩) K 2) rfl rfl rfl rfl ?_
    refine OA.p (some 140) (.int .i64 (((((nrmN x K) + m) % K) : Nat) : Int)) rfl rfl rfl rfl ?_
    refine OA.p (some 141) (.pointer (some ⟨jq, (((nrmN x K) + m) % K), some 0⟩)) rfl rfl rfl (r_iaS (l := (((nrmN x K) + m) % K)) rfl rfl rfl rfl rfl rfl (by omega) (by omega) hjq rfl (by omega)) ?_
    refine OA.p (some 142) (.pointer (some ⟨jq, (((nrmN x K) + m) % K), some 2⟩)) rfl rfl rfl rfl ?_
    refine OA.p (some 143) (.int .i64 (l.getD (((nrmN x K) + m) % K) dPth).state) rfl rfl rfl (r_loadF (c := cPth) dPth rfl rfl rfl rfl rfl hjq (by rw [hl]; omega) rfl) ?_
    by_cases hc4 : (l.getD (((nrmN x K) + m) % K) dPth).state = 1
    ·
     refine OA.p (some 144) (.bool true) rfl rfl rfl (Eq.trans (r_bin rfl rfl rfl (b_eql rfl)) (dT hc4)) ?_
     refine OA.nil ?_
     intro _
     refine RA.condT rfl ?_
     refine RA.region env_ok ?_
     refine OA.p (some 145) (.int .i64 (((((nrmN x K) + m) % K) : Nat) : Int)) rfl rfl rfl rfl ?_
     refine OA.p (some 13) (.int .i64 (((((nrmN x K) + m) % K) : Nat) : Int)) rfl rfl rfl rfl ?_
     refine OA.nil ?_
     intro _
     refine RA.region env_ok ?_
     refine OA.p (some 131) (.int .i64 ((m : Nat) : Int)) rfl rfl rfl rfl ?_
     refine OA.p (some 132) (.int .i64 (((m - 1) : Nat) : Int)) rfl rfl rfl (r_bin rfl rfl rfl (b_sub (i64_eq (by omega)))) ?_
     refine OA.p (some 14) (.int .i64 (((m - 1) : Nat) : Int)) rfl rfl rfl rfl ?_
     refine OA.nil ?_
     refine ⟨(2 * (m - 1)), by omega, [], (Less.refl _ _ _), (((nrmN x K) + m) % K), (m - 1), rfl, by omega, ⟨rfl, rfl, rfl, rfl, rfl, rfl, trivial⟩, rfl, (fun i hi => by cases hi), ⟨by omega, by omega, othI_y (o := 0) hl (by omega) (by omega) hc4⟩⟩
    ·
     refine OA.p (some 144) (.bool false) rfl rfl rfl (Eq.trans (r_bin rfl rfl rfl (b_eql rfl)) (dF hc4)) ?_
     refine OA.nil ?_
     intro _
     refine RA.condF rfl ?_
     refine RA.skip env_ok ?_
     intro _
     refine RA.region env_ok ?_
     refine OA.p (some 131) (.int .i64 ((m : Nat) : Int)) rfl rfl rfl rfl ?_
     refine OA.p (some 132) (.int .i64 (((m - 1) : Nat) : Int)) rfl rfl rfl (r_bin rfl rfl rfl (b_sub (i64_eq (by omega)))) ?_
     refine OA.p (some 14) (.int .i64 (((m - 1) : Nat) : Int)) rfl rfl rfl rfl ?_
     refine OA.nil ?_
     refine ⟨(2 * (m - 1)), by omega, [], (Less.refl _ _ _), o, (m - 1), rfl, by omega, ⟨rfl, rfl, rfl, rfl, rfl, rfl, trivial⟩, rfl, (fun i hi => by cases hi), ⟨by omega, by omega, othI_n hl (by omega) hc4 ho3⟩⟩
   ·
    refine OA.p (some 130) (.bool false) rfl rfl rfl (Eq.trans (r_bin rfl rfl rfl (b_geq rfl)) (dF hc3)) ?_
    refine OA.nil ?_
    intro _
    refine RA.condF rfl ?_
    refine RA.exit env_ok ?_
    intro _
    refine RA.seq hd ?_
    refine RA.region env_ok ?_
    refine OA.p (some 146) (Pt p 0 0) rfl rfl rfl rfl ?_
    refine OA.p (some 147) (.int .i64 (((nrmN x K) : Nat) : Int)) rfl rfl rfl rfl ?_
    refine OA.callP (dst := (some 148)) (all := [(Pt p 0 0), (.int .i64 (((nrmN x K) : Nat) : Int))]) (v := (.int .i64 ((o : Nat) : Int))) (hd.up (by omega)) rfl rfl rfl rfl rfl rfl rfl rfl (PS.to (pOther p jp K f l hl hK1 hf (nrmN x K) (by omega) hp hjp) (congrArg (fun z : Nat => Value.int .i64 (z : Int)) (othI_e (by omega) ho3))) ?_
    intro n17 hn17
    refine OA.p (some 149) (.int .i64 ((o : Nat) : Int)) rfl rfl rfl rfl ?_
    refine OA.p (some 150) (.bool true) rfl rfl rfl (r_bin rfl rfl rfl (b_eql (decide_eq_true rfl))) ?_
    refine OA.p (some 151) (.bool true) rfl rfl rfl rfl ?_
    refine OA.p (some 152) (Pt p 0 0) rfl rfl rfl rfl ?_
    refine OA.callP (dst := (some 153)) (all := [(Pt p 0 0)]) (v := (.bool false)) (hd.up (by omega)) rfl rfl rfl rfl rfl rfl rfl rfl (PS.to (pAlive p jp K ((f : Nat) : Int) l hl hK1 hp hjp) (congrArg Value.bool (any_end (by omega) hi2))) ?_
    intro n18 hn18
    refine OA.p (some 154) (.bool false) rfl rfl rfl rfl ?_
    refine OA.p (some 155) (.bool true) rfl rfl rfl rfl ?_
    refine OA.p (some 156) (.bool true) rfl rfl rfl rfl ?_
    refine OA.p (some 157) (.bool true) rfl rfl rfl rfl ?_
    refine OA.p (some 158) (Pt p 0 0) rfl rfl rfl rfl ?_
    refine OA.callP (dst := (some 159)) (all := [(Pt p 0 0), (.int .u32 99), (.int .u32 99)]) (v := (.int .i64 (-1))) (hd.up (by omega)) rfl rfl rfl rfl rfl rfl rfl rfl (PS.to (pFindP p jp K ((f : Nat) : Int) l hl hK1 99#32 99#32 hp hjp) (congrArg (Value.int .i64) (eq99 hok))) ?_
    intro n19 hn19
    refine OA.p (some 160) (.bool true) rfl rfl rfl (r_bin rfl rfl rfl (b_eql rfl)) ?_
    refine OA.p (some 161) (.bool true) rfl rfl rfl rfl ?_
    refine OA.p (some 162) (.bool true) rfl rfl rfl rfl ?_
    refine OA.p (some 163) (Pt p 0 0) rfl rfl rfl rfl ?_
    refine OA.callP (dst := (some 164)) (all := [(Pt p 0 0), (.int .u32 99)]) (v := (.int .i64 (-1))) (hd.up (by omega)) rfl rfl rfl rfl rfl rfl rfl rfl (PS.to (pPeer p jp K ((f : Nat) : Int) l hl hK1 99#32 hp hjp) (congrArg (Value.int .i64) (pe99 hok))) ?_
    intro n20 hn20
    refine OA.p (some 165) (.bool true) rfl rfl rfl (r_bin rfl rfl rfl (b_eql rfl)) ?_
    refine OA.p (some 166) (.bool true) rfl rfl rfl rfl ?_
    refine OA.p (some 167) (.bool true) rfl rfl rfl rfl ?_
    refine OA.p (some 168) (Pt p 0 0) rfl rfl rfl rfl ?_
    refine OA.callP (dst := (some 169)) (all := [(Pt p 0 0), (.int .i64 (-1))]) (v := (.agg ⟨xPa61⟩)) (hd.up (by omega)) rfl rfl rfl rfl rfl rfl rfl rfl (pAtN p jp K ((f : Nat) : Int) l hl hK1 hp hjp) ?_
    intro n21 hn21
    refine OA.p (some 170) (.agg ⟨xPa61⟩) rfl rfl rfl (by kernel_rfl) ?_
    refine OA.p (some 171) (.bool true) rfl rfl rfl (r_eqlA (r := true) rfl rfl rfl (by kernel_rfl) (aeq_self _ _ _ (by kernel_rfl))) ?_
    refine OA.p (some 172) (.bool true) rfl rfl rfl rfl ?_
    refine OA.p (some 8) (.bool true) rfl rfl rfl rfl ?_
    refine OA.nil ?_
    intro _
    refine RA.rebase [(0, (Pt p 0 0)), (1, (.slice (some ⟨jq, 0, none⟩) K 2)), (8, (.bool true)), (10, (.bool false)), (12, (.int .i64 (((nrmN x K) : Nat) : Int))), (13, (.int .i64 ((o : Nat) : Int))), (14, (.int .i64 ((m : Nat) : Int))), (130, (.bool false))] ⟨rfl, rfl, rfl, rfl, rfl, rfl, rfl, rfl, trivial⟩ (fun τr22 => ?_)
    refine RA.ret env_ok ?_
    refine ⟨.inr rfl, [(.bool true)], (resL_cons rfl resL_nil), rfl, (fun i hi => by cases hi)⟩
 ·
  rw [Has.eq hHn6]
  have hKn6_0 : jan1 < n6 := hKn6 _ (by simp only [keys, List.map_cons, List.map_nil, List.mem_cons, true_or, or_true])
  clear hKn6
  obtain ⟨hi1, hi2⟩ := hIn6
  refine RA.seq hd ?_
  refine RA.seq hd ?_
  refine RA.region env_ok ?_
  refine OA.p (some 37) (.int .i64 ((i : Nat) : Int)) rfl rfl rfl rfl ?_
  refine OA.p (some 38) (.slice (some ⟨jq, 0, none⟩) K 2) rfl rfl rfl rfl ?_
  refine OA.p (some 39) (.int .i64 ((K : Nat) : Int)) rfl rfl rfl rfl ?_
  by_cases hc5 : ((i : Nat) : Int) < ((K : Nat) : Int)
  ·
   refine OA.p (some 40) (.bool true) rfl rfl rfl (Eq.trans (r_bin rfl rfl rfl (b_lss rfl)) (dT hc5)) ?_
   refine OA.nil ?_
   intro _
   refine RA.condT rfl ?_
   refine RA.skip env_ok ?_
   intro _
   refine RA.seq hd ?_
   refine RA.block ?_
   refine RA.seq hd ?_
   refine RA.seq hd ?_
   refine RA.par (md := [some [], some [], some [jan1], some [jan1], some [], some [], some [jq], some [jq], some [], some [], some [], some [], none, some [], some [], some [jq], some [jq], some [], some [], some [], some [], some [], some [], some [jq], some [], some [jq], some [], some [], some [jq], some [], some [jq], none, some [], some [], some [], some [jq], some [], some [jq], some [], some [], some [jq], some [], some [jq], none, some [], some [], some [], some [], some [], some [], some [jq], some [], some [jq], none, some [], some [], some [], some [jq], some [], some [jq], none, some [], some []]) env_ok (hd.of (by omega) (kb1 (by omega))) (by kernel_rfl) ?_
   refine PQ.pure (dst := (some 43)) (v := (.slice (some ⟨jan1, 0, none⟩) K 2)) rfl rfl rfl noStore (none_ok _ _) rfl ?_
   refine PQ.pure (dst := (some 44)) (v := (.int .i64 ((i : Nat) : Int))) rfl rfl rfl noStore (none_ok _ _) rfl ?_
   refine PQ.pure (dst := (some 45)) (v := (Pt jan1 i 0)) rfl rfl rfl (app [(jan1, some (oPth l))] noStore) (seen_one (V := []) (D := [(jan1, some (oPth l))]) (by kernel_rfl) get_here) (r_iaS (l := i) rfl rfl rfl rfl rfl rfl (by omega) (by omega) get_here rfl (by omega)) ?_
   refine PQ.pure (dst := (some 46)) (v := (.agg ⟨(cPth (l.getD i dPth))⟩)) rfl rfl rfl (app [(jan1, some (oPth l))] noStore) (seen_one (V := []) (D := [(jan1, some (oPth l))]) (by kernel_rfl) get_here) (r_loadR (c := cPth) dPth rfl rfl rfl rfl get_here (by rw [hl]; omega) rfl) ?_
   refine PQ.pure (dst := (some 47)) (v := (.slice (some ⟨jq, 0, none⟩) K 2)) rfl rfl rfl noStore (none_ok _ _) rfl ?_
   refine PQ.pure (dst := (some 48)) (v := (.int .i64 ((i : Nat) : Int))) rfl rfl rfl noStore (none_ok _ _) rfl ?_
   refine PQ.pure (dst := (some 49)) (v := (Pt jq i 0)) rfl rfl rfl (app [(jq, some (oPth l))] noStore) (seen_one (V := []) (D := [(jan1, some (oPth l))]) (by kernel_rfl) (get_there (by omega) hjq)) (r_iaS (l := i) rfl rfl rfl rfl rfl rfl (by omega) (by omega) get_here rfl (by omega)) ?_
   refine PQ.pure (dst := (some 50)) (v := (.agg ⟨(cPth (l.getD i dPth))⟩)) rfl rfl rfl (app [(jq, some (oPth l))] noStore) (seen_one (V := []) (D := [(jan1, some (oPth l))]) (by kernel_rfl) (get_there (by omega) hjq)) (r_loadR (c := cPth) dPth rfl rfl rfl rfl get_here (by rw [hl]; omega) rfl) ?_
   refine PQ.pure (dst := (some 51)) (v := (.bool false)) rfl rfl rfl noStore (none_ok _ _) (r_neqA (r := true) rfl rfl rfl (by kernel_rfl) (aeq_self _ _ _ (by kernel_rfl))) ?_
   refine PQ.pure (dst := (some 52)) (v := (.bool false)) rfl rfl rfl noStore (none_ok _ _) rfl ?_
   refine PQ.pure (dst := (some 53)) (v := (Pt p 0 0)) rfl rfl rfl noStore (none_ok _ _) rfl ?_
   refine PQ.pure (dst := (some 54)) (v := (.int .i64 ((i : Nat) : Int))) rfl rfl rfl noStore (none_ok _ _) rfl ?_
   refine PQ.callP (dst := (some 55)) (all := [(Pt p 0 0), (.int .i64 ((i : Nat) : Int))]) (v := (.agg ⟨(cPth (l.getD i dPth))⟩)) _ (hd.of (by omega) (kb1 (by omega))) rfl rfl rfl rfl rfl rfl rfl rfl (seen_any (V := []) (D := [(jan1, some (oPth l))]) (by kernel_rfl)) (pAt p jp K ((f : Nat) : Int) l hl hK1 i (by omega) (get_there (by omega) hp) (get_there (by omega) hjp)) ?_
   intro n23 hn23
   refine PQ.pure (dst := (some 56)) (v := (.slice (some ⟨jq, 0, none⟩) K 2)) rfl rfl rfl noStore (none_ok _ _) rfl ?_
   refine PQ.pure (dst := (some 57)) (v := (.int .i64 ((i : Nat) : Int))) rfl rfl rfl noStore (none_ok _ _) rfl ?_
   refine PQ.pure (dst := (some 58)) (v := (Pt jq i 0)) rfl rfl rfl (app [(jq, some (oPth l))] noStore) (seen_one (V := []) (D := [(jan1, some (oPth l))]) (by kernel_rfl) (get_there (by omega) hjq)) (r_iaS (l := i) rfl rfl rfl rfl rfl rfl (by omega) (by omega) get_here rfl (by omega)) ?_
   refine PQ.pure (dst := (some 59)) (v := (.agg ⟨(cPth (l.getD i dPth))⟩)) rfl rfl rfl (app [(jq, some (oPth l))] noStore) (seen_one (V := []) (D := [(jan1, some (oPth l))]) (by kernel_rfl) (get_there (by omega) hjq)) (r_loadR (c := cPth) dPth rfl rfl rfl rfl get_here (by rw [hl]; omega) rfl) ?_
   refine PQ.pure (dst := (some 60)) (v := (.bool false)) rfl rfl rfl noStore (none_ok _ _) (r_neqA (r := true) rfl rfl rfl (by kernel_rfl) (aeq_self _ _ _ (by kernel_rfl))) ?_
   refine PQ.pure (dst := (some 61)) (v := (.bool false)) rfl rfl rfl noStore (none_ok _ _) rfl ?_
   refine PQ.pure (dst := (some 62)) (v := (.bool false)) rfl rfl rfl noStore (none_ok _ _) rfl ?_
   refine PQ.pure (dst := (some 63)) (v := (Pt p 0 0)) rfl rfl rfl noStore (none_ok _ _) rfl ?_
   refine PQ.pure (dst := (some 64)) (v := (.slice (some ⟨jq, 0, none⟩) K 2)) rfl rfl rfl noStore (none_ok _ _) rfl ?_
   refine PQ.pure (dst := (some 65)) (v := (.int .i64 ((i : Nat) : Int))) rfl rfl rfl noStore (none_ok _ _) rfl ?_
   refine PQ.pure (dst := (some 66)) (v := (Pt jq i 0)) rfl rfl rfl (app [(jq, some (oPth l))] noStore) (seen_one (V := []) (D := [(jan1, some (oPth l))]) (by kernel_rfl) (get_there (by omega) hjq)) (r_iaS (l := i) rfl rfl rfl rfl rfl rfl (by omega) (by omega) get_here rfl (by omega)) ?_
   refine PQ.pure (dst := (some 67)) (v := (Pt jq i 0)) rfl rfl rfl noStore (none_ok _ _) rfl ?_
   refine PQ.pure (dst := (some 68)) (v := (W (l.getD i dPth).own)) rfl rfl rfl (app [(jq, some (oPth l))] noStore) (seen_one (V := []) (D := [(jan1, some (oPth l))]) (by kernel_rfl) (get_there (by omega) hjq)) (r_loadF (c := cPth) dPth rfl rfl rfl rfl rfl get_here (by rw [hl]; omega) rfl) ?_
   refine PQ.pure (dst := (some 69)) (v := (.slice (some ⟨jq, 0, none⟩) K 2)) rfl rfl rfl noStore (none_ok _ _) rfl ?_
   refine PQ.pure (dst := (some 70)) (v := (.int .i64 ((i : Nat) : Int))) rfl rfl rfl noStore (none_ok _ _) rfl ?_
   refine PQ.pure (dst := (some 71)) (v := (Pt jq i 0)) rfl rfl rfl (app [(jq, some (oPth l))] noStore) (seen_one (V := []) (D := [(jan1, some (oPth l))]) (by kernel_rfl) (get_there (by omega) hjq)) (r_iaS (l := i) rfl rfl rfl rfl rfl rfl (by omega) (by omega) get_here rfl (by omega)) ?_
   refine PQ.pure (dst := (some 72)) (v := (Pt jq i 1)) rfl rfl rfl noStore (none_ok _ _) rfl ?_
   refine PQ.pure (dst := (some 73)) (v := (W (l.getD i dPth).peer)) rfl rfl rfl (app [(jq, some (oPth l))] noStore) (seen_one (V := []) (D := [(jan1, some (oPth l))]) (by kernel_rfl) (get_there (by omega) hjq)) (r_loadF (c := cPth) dPth rfl rfl rfl rfl rfl get_here (by rw [hl]; omega) rfl) ?_
   refine PQ.callP (dst := (some 74)) (all := [(Pt p 0 0), (W (l.getD i dPth).own), (W (l.getD i dPth).peer)]) (v := (.int .i64 (idxZ (eqP (l.getD i dPth).own (l.getD i dPth).peer) l))) _ (hd.of (by omega) (kb1 (by omega))) rfl rfl rfl rfl rfl rfl rfl rfl (seen_any (V := []) (D := [(jan1, some (oPth l))]) (by kernel_rfl)) (pFindP p jp K ((f : Nat) : Int) l hl hK1 (l.getD i dPth).own (l.getD i dPth).peer (get_there (by omega) hp) (get_there (by omega) hjp)) ?_
   intro n24 hn24
   refine PQ.pure (dst := (some 75)) (v := (.slice (some ⟨jq, 0, none⟩) K 2)) rfl rfl rfl noStore (none_ok _ _) rfl ?_
   refine PQ.pure (dst := (some 76)) (v := (.slice (some ⟨jq, 0, none⟩) K 2)) rfl rfl rfl noStore (none_ok _ _) rfl ?_
   refine PQ.pure (dst := (some 77)) (v := (.int .i64 ((i : Nat) : Int))) rfl rfl rfl noStore (none_ok _ _) rfl ?_
   refine PQ.pure (dst := (some 78)) (v := (Pt jq i 0)) rfl rfl rfl (app [(jq, some (oPth l))] noStore) (seen_one (V := []) (D := [(jan1, some (oPth l))]) (by kernel_rfl) (get_there (by omega) hjq)) (r_iaS (l := i) rfl rfl rfl rfl rfl rfl (by omega) (by omega) get_here rfl (by omega)) ?_
   refine PQ.pure (dst := (some 79)) (v := (Pt jq i 0)) rfl rfl rfl noStore (none_ok _ _) rfl ?_
   refine PQ.pure (dst := (some 80)) (v := (W (l.getD i dPth).own)) rfl rfl rfl (app [(jq, some (oPth l))] noStore) (seen_one (V := []) (D := [(jan1, some (oPth l))]) (by kernel_rfl) (get_there (by omega) hjq)) (r_loadF (c := cPth) dPth rfl rfl rfl rfl rfl get_here (by rw [hl]; omega) rfl) ?_
   refine PQ.pure (dst := (some 81)) (v := (.slice (some ⟨jq, 0, none⟩) K 2)) rfl rfl rfl noStore (none_ok _ _) rfl ?_
   refine PQ.pure (dst := (some 82)) (v := (.int .i64 ((i : Nat) : Int))) rfl rfl rfl noStore (none_ok _ _) rfl ?_
   refine PQ.pure (dst := (some 83)) (v := (Pt jq i 0)) rfl rfl rfl (app [(jq, some (oPth l))] noStore) (seen_one (V := []) (D := [(jan1, some (oPth l))]) (by kernel_rfl) (get_there (by omega) hjq)) (r_iaS (l := i) rfl rfl rfl rfl rfl rfl (by omega) (by omega) get_here rfl (by omega)) ?_
   refine PQ.pure (dst := (some 84)) (v := (Pt jq i 1)) rfl rfl rfl noStore (none_ok _ _) rfl ?_
   refine PQ.pure (dst := (some 85)) (v := (W (l.getD i dPth).peer)) rfl rfl rfl (app [(jq, some (oPth l))] noStore) (seen_one (V := []) (D := [(jan1, some (oPth l))]) (by kernel_rfl) (get_there (by omega) hjq)) (r_loadF (c := cPth) dPth rfl rfl rfl rfl rfl get_here (by rw [hl]; omega) rfl) ?_
   refine PQ.callP (dst := (some 86)) (all := [(.slice (some ⟨jq, 0, none⟩) K 2), (W (l.getD i dPth).own), (W (l.getD i dPth).peer)]) (v := (.int .i64 (idxZ (eqP (l.getD i dPth).own (l.getD i dPth).peer) l))) _ (hd.of (by omega) (kb1 (by omega))) rfl rfl rfl rfl rfl rfl rfl rfl (seen_any (V := []) (D := [(jan1, some (oPth l))]) (by kernel_rfl)) (PS.to (pFind jq K l hl hK1 (l.getD i dPth).own (l.getD i dPth).peer (get_there (by omega) hjq)) (congrArg (Value.int .i64) (hit_eq (by have := (hok _ (getD_mem (d := dPth) (l := l) (i := i) (by omega))).1; omega)))) ?_
   intro n25 hn25
   refine PQ.pure (dst := (some 87)) (v := (.bool false)) rfl rfl rfl noStore (none_ok _ _) (r_bin rfl rfl rfl (b_neq (decide_eq_false (fun h => h rfl)))) ?_
   refine PQ.pure (dst := (some 88)) (v := (.bool false)) rfl rfl rfl noStore (none_ok _ _) rfl ?_
   refine PQ.pure (dst := (some 89)) (v := (.bool false)) rfl rfl rfl noStore (none_ok _ _) rfl ?_
   refine PQ.pure (dst := (some 90)) (v := (Pt p 0 0)) rfl rfl rfl noStore (none_ok _ _) rfl ?_
   refine PQ.pure (dst := (some 91)) (v := (.slice (some ⟨jq, 0, none⟩) K 2)) rfl rfl rfl noStore (none_ok _ _) rfl ?_
   refine PQ.pure (dst := (some 92)) (v := (.int .i64 ((i : Nat) : Int))) rfl rfl rfl noStore (none_ok _ _) rfl ?_
   refine PQ.pure (dst := (some 93)) (v := (Pt jq i 0)) rfl rfl rfl (app [(jq, some (oPth l))] noStore) (seen_one (V := []) (D := [(jan1, some (oPth l))]) (by kernel_rfl) (get_there (by omega) hjq)) (r_iaS (l := i) rfl rfl rfl rfl rfl rfl (by omega) (by omega) get_here rfl (by omega)) ?_
   refine PQ.pure (dst := (some 94)) (v := (Pt jq i 1)) rfl rfl rfl noStore (none_ok _ _) rfl ?_
   refine PQ.pure (dst := (some 95)) (v := (W (l.getD i dPth).peer)) rfl rfl rfl (app [(jq, some (oPth l))] noStore) (seen_one (V := []) (D := [(jan1, some (oPth l))]) (by kernel_rfl) (get_there (by omega) hjq)) (r_loadF (c := cPth) dPth rfl rfl rfl rfl rfl get_here (by rw [hl]; omega) rfl) ?_
   refine PQ.callP (dst := (some 96)) (all := [(Pt p 0 0), (W (l.getD i dPth).peer)]) (v := (.int .i64 (idxZ (peP (l.getD i dPth).peer) l))) _ (hd.of (by omega) (kb1 (by omega))) rfl rfl rfl rfl rfl rfl rfl rfl (seen_any (V := []) (D := [(jan1, some (oPth l))]) (by kernel_rfl)) (pPeer p jp K ((f : Nat) : Int) l hl hK1 (l.getD i dPth).peer (get_there (by omega) hp) (get_there (by omega) hjp)) ?_
   intro n26 hn26
   refine PQ.pure (dst := (some 97)) (v := (.slice (some ⟨jq, 0, none⟩) K 2)) rfl rfl rfl noStore (none_ok _ _) rfl ?_
   refine PQ.pure (dst := (some 98)) (v := (.slice (some ⟨jq, 0, none⟩) K 2)) rfl rfl rfl noStore (none_ok _ _) rfl ?_
   refine PQ.pure (dst := (some 99)) (v := (.int .i64 ((i : Nat) : Int))) rfl rfl rfl noStore (none_ok _ _) rfl ?_
   refine PQ.pure (dst := (some 100)) (v := (Pt jq i 0)) rfl rfl rfl (app [(jq, some (oPth l))] noStore) (seen_one (V := []) (D := [(jan1, some (oPth l))]) (by kernel_rfl) (get_there (by omega) hjq)) (r_iaS (l := i) rfl rfl rfl rfl rfl rfl (by omega) (by omega) get_here rfl (by omega)) ?_
   refine PQ.pure (dst := (some 101)) (v := (Pt jq i 1)) rfl rfl rfl noStore (none_ok _ _) rfl ?_
   refine PQ.pure (dst := (some 102)) (v := (W (l.getD i dPth).peer)) rfl rfl rfl (app [(jq, some (oPth l))] noStore) (seen_one (V := []) (D := [(jan1, some (oPth l))]) (by kernel_rfl) (get_there (by omega) hjq)) (r_loadF (c := cPth) dPth rfl rfl rfl rfl rfl get_here (by rw [hl]; omega) rfl) ?_
   refine PQ.callP (dst := (some 103)) (all := [(.slice (some ⟨jq, 0, none⟩) K 2), (.int .u32 0), (W (l.getD i dPth).peer)]) (v := (.int .i64 (idxZ (peP (l.getD i dPth).peer) l))) _ (hd.of (by omega) (kb1 (by omega))) rfl rfl rfl rfl rfl rfl rfl rfl (seen_any (V := []) (D := [(jan1, some (oPth l))]) (by kernel_rfl)) (PS.to (pFind jq K l hl hK1 0#32 (l.getD i dPth).peer (get_there (by omega) hjq)) (congrArg (Value.int .i64) (hit_pe rfl))) ?_
   intro n27 hn27
   refine PQ.pure (dst := (some 104)) (v := (.bool false)) rfl rfl rfl noStore (none_ok _ _) (r_bin rfl rfl rfl (b_neq (decide_eq_false (fun h => h rfl)))) ?_
   refine PQ.pure (dst := (some 105)) (v := (.bool false)) rfl rfl rfl noStore (none_ok _ _) rfl ?_
   refine PQ.done (d := []) (by kernel_rfl) ?_
   intro _
   refine RA.rebase [(0, (Pt p 0 0)), (1, (.slice (some ⟨jq, 0, none⟩) K 2)), (2, (.int .i64 ((f : Nat) : Int))), (3, (.int .i64 x)), (9, (.slice (some ⟨jan1, 0, none⟩) K 2)), (10, (.bool true)), (11, (.int .i64 ((i : Nat) : Int))), (40, (.bool true)), (105, (.bool false))] ⟨rfl, rfl, rfl, rfl, rfl, rfl, rfl, rfl, rfl, trivial⟩ (fun τr28 => ?_)
   refine RA.condF rfl ?_
   refine RA.skip env_ok ?_
   intro _
   refine RA.region env_ok ?_
   refine OA.p (some 106) (.bool true) rfl rfl rfl rfl ?_
   refine OA.p (some 107) (.bool true) rfl rfl rfl rfl ?_
   refine OA.off (dst := (some 108)) rfl rfl rfl ?_
   refine OA.off (dst := (some 109)) rfl rfl rfl ?_
   refine OA.off (dst := (some 110)) rfl rfl rfl ?_
   refine OA.off (dst := (some 111)) rfl rfl rfl ?_
   refine OA.off (dst := (some 112)) rfl rfl rfl ?_
   refine OA.off (dst := (some 113)) rfl rfl rfl ?_
   refine OA.p (some 114) (.bool true) rfl rfl rfl rfl ?_
   refine OA.p (some 10) (.bool true) rfl rfl rfl rfl ?_
   refine OA.nil ?_
   intro _
   refine RA.region env_ok ?_
   refine OA.p (some 41) (.int .i64 ((i : Nat) : Int)) rfl rfl rfl rfl ?_
   refine OA.p (some 42) (.int .i64 (((i + 1) : Nat) : Int)) rfl rfl rfl (r_bin rfl rfl rfl (b_add (i64_eq (by omega)))) ?_
   refine OA.p (some 11) (.int .i64 (((i + 1) : Nat) : Int)) rfl rfl rfl rfl ?_
   refine OA.nil ?_
   refine ⟨K - (i + 1), by omega, [(jan1, some (oPth l))], (Less.refl _ _ _), .inr (⟨(i + 1), rfl, by omega, ⟨rfl, rfl, rfl, rfl, rfl, rfl, rfl, trivial⟩, rfl, (kb1 (by omega)), ⟨by omega, any_more (by omega) hi2⟩⟩)⟩
  ·
   refine OA.p (some 40) (.bool false) rfl rfl rfl (Eq.trans (r_bin rfl rfl rfl (b_lss rfl)) (dF hc5)) ?_
   refine OA.nil ?_
   intro _
   refine RA.condF rfl ?_
   refine RA.exit env_ok ?_
   intro _
   refine RA.seq hd ?_
   refine RA.region env_ok ?_
   refine OA.p (some 115) (.int .i64 x) rfl rfl rfl rfl ?_
   refine OA.p (some 116) (.slice (some ⟨jq, 0, none⟩) K 2) rfl rfl rfl rfl ?_
   refine OA.p (some 117) (.int .i64 ((K : Nat) : Int)) rfl rfl rfl rfl ?_
   have htm29 := tmod_lt (x := x) (K := K) (by omega)
   refine OA.p (some 118) (.int .i64 (Int.tmod x ((K : Nat) : Int))) rfl rfl rfl (r_bin rfl rfl rfl (b_rem (by omega) rfl)) ?_
   refine OA.p (some 119) (.slice (some ⟨jq, 0, none⟩) K 2) rfl rfl rfl rfl ?_
   refine OA.p (some 120) (.int .i64 ((K : Nat) : Int)) rfl rfl rfl rfl ?_
   refine OA.p (some 121) (.int .i64 ((Int.tmod x ((K : Nat) : Int)) + ((K : Nat) : Int))) rfl rfl rfl (r_bin rfl rfl rfl (b_add (i64_eq (by omega)))) ?_
   refine OA.p (some 122) (.slice (some ⟨jq, 0, none⟩) K 2) rfl rfl rfl rfl ?_
   refine OA.p (some 123) (.int .i64 ((K : Nat) : Int)) rfl rfl rfl rfl ?_
   have hnm30 := nrm_lt (x := x) (K := K) (by omega)
   refine OA.p (some 124) (.int .i64 (((nrmN x K) : Nat) : Int)) rfl rfl rfl (r_bin rfl rfl rfl (b_rem (by omega) (nrm_eq (by omega)))) ?_
   refine OA.p (some 12) (.int .i64 (((nrmN x K) : Nat) : Int)) rfl rfl rfl rfl ?_
   refine OA.nil ?_
   intro _
   refine RA.seq hd ?_
   refine RA.region env_ok ?_
   refine OA.p (some 125) (.int .i64 (((nrmN x K) : Nat) : Int)) rfl rfl rfl rfl ?_
   refine OA.p (some 13) (.int .i64 (((nrmN x K) : Nat) : Int)) rfl rfl rfl rfl ?_
   refine OA.nil ?_
   intro _
   refine RA.seq hd ?_
   refine RA.seq hd ?_
   refine RA.region env_ok ?_
   refine OA.p (some 126) (.slice (some ⟨jq, 0, none⟩) K 2) rfl rfl rfl rfl ?_
   refine OA.p (some 127) (.int .i64 ((K : Nat) : Int)) rfl rfl rfl rfl ?_
   refine OA.p (some 128) (.int .i64 (((K - 1) : Nat) : Int)) rfl rfl rfl (r_bin rfl rfl rfl (b_sub (i64_eq (by omega)))) ?_
   refine OA.p (some 14) (.int .i64 (((K - 1) : Nat) : Int)) rfl rfl rfl rfl ?_
   refine OA.nil ?_
   intro _
   refine RA.block ?_
   refine RA.weaken (D' := []) hd (Less.of (fun p hp => by simp at hp) (gone_of (by simp only [goneP, memP, List.cons_append, List.nil_append, true_or, or_true, true_and, and_true, or_false] <;> omega))) ?_
   refine RA.loop hd (fun kk_ τ n' D => ∃ o : Nat, ∃ m : Nat,  kk_ = (2 * m) ∧ n6 ≤ n' ∧ Has τ [(0, (Pt p 0 0)), (1, (.slice (some ⟨jq, 0, none⟩) K 2)), (10, (.bool true)), (12, (.int .i64 (((nrmN x K) : Nat) : Int))), (13, (.int .i64 ((o : Nat) : Int))), (14, (.int .i64 ((m : Nat) : Int)))] ∧ D = [] ∧ (∀ i ∈ keys D, i < n') ∧ m < K ∧ o < K ∧ othI l (nrmN x K) m o) ((2 * (K - 1))) ⟨(nrmN x K), (K - 1), rfl, by omega, ⟨rfl, rfl, rfl, rfl, rfl, rfl, trivial⟩, rfl, (fun i hi => by cases hi), ⟨by omega, by omega, othI_0 (by omega)⟩⟩ ?_
   rintro kn31 τ31 n31 _ ⟨o, m, rfl, hn31, hHn31, rfl, hKn31, hIn31⟩
   rw [Has.eq hHn31]
   simp only [keys, List.map, List.forall_mem_cons, List.mem_cons, List.not_mem_nil, false_imp_iff, implies_true, and_true] at hKn31
   obtain ⟨ho1, ho2, ho3⟩ := hIn31
   refine RA.seq hd ?_
   refine RA.seq hd ?_
   refine RA.region env_ok ?_
   refine OA.p (some 129) (.int .i64 ((m : Nat) : Int)) rfl rfl rfl rfl ?_
   by_cases hc6 : 1 ≤ ((m : Nat) : Int)
   ·
    refine OA.p (some 130) (.bool true) rfl rfl rfl (Eq.trans (r_bin rfl rfl rfl (b_geq rfl)) (dT hc6)) ?_
    refine OA.nil ?_
    intro _
    refine RA.condT rfl ?_
    refine RA.skip env_ok ?_
    intro _
    refine RA.seq hd ?_
    refine RA.block ?_
    refine RA.seq hd ?_
    refine RA.region env_ok ?_
    refine OA.p (some 133) (.int .i64 (((nrmN x K) : Nat) : Int)) rfl rfl rfl rfl ?_
    refine OA.p (some 134) (.int .i64 ((m : Nat) : Int)) rfl rfl rfl rfl ?_
    refine OA.p (some 135) (.int .i64 ((((nrmN x K) + m) : Nat) : Int)) rfl rfl rfl (r_bin rfl rfl rfl (b_add (i64_eq (by omega)))) ?_
    refine OA.p (some 136) (.slice (some ⟨jq, 0, none⟩) K 2) rfl rfl rfl rfl ?_
    refine OA.p (some 137) (.int .i64 ((K : Nat) : Int)) rfl rfl rfl rfl ?_
    have hmd32 := Nat.mod_lt ((nrmN x K) + m) (show 0 < K by omega)
    refine OA.p (some 138) (.int .i64 (((((nrmN x K) + m) % K) : Nat) : Int)) rfl rfl rfl (r_bin rfl rfl rfl (b_remN (a := ((nrmN x K) + m)) (c := K) (by omega))) ?_
    refine OA.p (some 15) (.int .i64 (((((nrmN x K) + m) % K) : Nat) : Int)) rfl rfl rfl rfl ?_
    refine OA.nil ?_
    intro _
    refine RA.seq hd ?_
    refine RA.region env_ok ?_
    refine OA.p (some 139) (.slice (some ⟨jq, 0, none⟩) K 2) rfl rfl rfl rfl ?_
    refine OA.p (some 140) (.int .i64 (((((nrmN x K) + m) % K) : Nat) : Int)) rfl rfl rfl rfl ?_
    refine OA.p (some 141) (.pointer (some ⟨jq, (((nrmN x K) + m) % K), some 0⟩)) rfl rfl rfl (r_iaS (l := (((nrmN x K) + m) % K)) rfl rfl rfl rfl rfl rfl (by omega) (by omega) hjq rfl (by omega)) ?_
    refine OA.p (some 142) (.pointer (some ⟨jq, (((nrmN x K) + m) % K), some 2⟩)) rfl rfl rfl rfl ?_
    refine OA.p (some 143) (.int .i64 (l.getD (((nrmN x K) + m) % K) dPth).state) rfl rfl rfl (r_loadF (c := cPth) dPth rfl rfl rfl rfl rfl hjq (by rw [hl]; omega) rfl) ?_
    by_cases hc7 : (l.getD (((nrmN x K) + m) % K) dPth).state = 1
    ·
     refine OA.p (some 144) (.bool true) rfl rfl rfl (Eq.trans (r_bin rfl rfl rfl (b_eql rfl)) (dT hc7)) ?_
     refine OA.nil ?_
     intro _
     refine RA.condT rfl ?_
     refine RA.region env_ok ?_
     refine OA.p (some 145) (.int .i64 (((((nrmN x K) + m) % K) : Nat) : Int)) rfl rfl rfl rfl ?_
     refine OA.p (some 13) (.int .i64 (((((nrmN x K) + m) % K) : Nat) : Int)) rfl rfl rfl rfl ?_
     refine OA.nil ?_
     intro _
     refine RA.region env_ok ?_
     refine OA.p (some 131) (.int .i64 ((m : Nat) : Int)) rfl rfl rfl rfl ?_
     refine OA.p (some 132) (.int .i64 (((m - 1) : Nat) : Int)) rfl rfl rfl (r_bin rfl rfl rfl (b_sub (i64_eq (by omega)))) ?_
     refine OA.p (some 14) (.int .i64 (((m - 1) : Nat) : Int)) rfl rfl rfl rfl ?_
     refine OA.nil ?_
     refine ⟨(2 * (m - 1)), by omega, [], (Less.refl _ _ _), (((nrmN x K) + m) % K), (m - 1), rfl, by omega, ⟨rfl, rfl, rfl, rfl, rfl, rfl, trivial⟩, rfl, (fun i hi => by cases hi), ⟨by omega, by omega, othI_y (o := 0) hl (by omega) (by omega) hc7⟩⟩
    ·
     refine OA.p (some 144) (.bool false) rfl rfl rfl (Eq.trans (r_bin rfl rfl rfl (b_eql rfl)) (dF hc7)) ?_
     refine OA.nil ?_
     intro _
     refine RA.condF rfl ?_
     refine RA.skip env_ok ?_
     intro _
     refine RA.region env_ok ?_
     refine OA.p (some 131) (.int .i64 ((m : Nat) : Int)) rfl rfl rfl rfl ?_
     refine OA.p (some 132) (.int .i64 (((m - 1) : Nat) : Int)) rfl rfl rfl (r_bin rfl rfl rfl (b_sub (i64_eq (by omega)))) ?_
     refine OA.p (some 14) (.int .i64 (((m - 1) : Nat) : Int)) rfl rfl rfl rfl ?_
     refine OA.nil ?_
     refine ⟨(2 * (m - 1)), by omega, [], (Less.refl _ _ _), o, (m - 1), rfl, by omega, ⟨rfl, rfl, rfl, rfl, rfl, rfl, trivial⟩, rfl, (fun i hi => by cases hi), ⟨by omega, by omega, othI_n hl (by omega) hc7 ho3⟩⟩
   ·
    refine OA.p (some 130) (.bool false) rfl rfl rfl (Eq.trans (r_bin rfl rfl rfl (b_geq rfl)) (dF hc6)) ?_
    refine OA.nil ?_
    intro _
    refine RA.condF rfl ?_
    refine RA.exit env_ok ?_
    intro _
    refine RA.seq hd ?_
    refine RA.region env_ok ?_
    refine OA.p (some 146) (Pt p 0 0) rfl rfl rfl rfl ?_
    refine OA.p (some 147) (.int .i64 (((nrmN x K) : Nat) : Int)) rfl rfl rfl rfl ?_
    refine OA.callP (dst := (some 148)) (all := [(Pt p 0 0), (.int .i64 (((nrmN x K) : Nat) : Int))]) (v := (.int .i64 ((o : Nat) : Int))) (hd.up (by omega)) rfl rfl rfl rfl rfl rfl rfl rfl (PS.to (pOther p jp K f l hl hK1 hf (nrmN x K) (by omega) hp hjp) (congrArg (fun z : Nat => Value.int .i64 (z : Int)) (othI_e (by omega) ho3))) ?_
    intro n33 hn33
    refine OA.p (some 149) (.int .i64 ((o : Nat) : Int)) rfl rfl rfl rfl ?_
    refine OA.p (some 150) (.bool true) rfl rfl rfl (r_bin rfl rfl rfl (b_eql (decide_eq_true rfl))) ?_
    refine OA.p (some 151) (.bool true) rfl rfl rfl rfl ?_
    refine OA.p (some 152) (Pt p 0 0) rfl rfl rfl rfl ?_
    refine OA.callP (dst := (some 153)) (all := [(Pt p 0 0)]) (v := (.bool true)) (hd.up (by omega)) rfl rfl rfl rfl rfl rfl rfl rfl (PS.to (pAlive p jp K ((f : Nat) : Int) l hl hK1 hp hjp) (congrArg Value.bool (any_end (by omega) hi2))) ?_
    intro n34 hn34
    refine OA.p (some 154) (.bool true) rfl rfl rfl rfl ?_
    refine OA.p (some 155) (.bool true) rfl rfl rfl rfl ?_
    refine OA.p (some 156) (.bool true) rfl rfl rfl rfl ?_
    refine OA.p (some 157) (.bool true) rfl rfl rfl rfl ?_
    refine OA.p (some 158) (Pt p 0 0) rfl rfl rfl rfl ?_
    refine OA.callP (dst := (some 159)) (all := [(Pt p 0 0), (.int .u32 99), (.int .u32 99)]) (v := (.int .i64 (-1))) (hd.up (by omega)) rfl rfl rfl rfl rfl rfl rfl rfl (PS.to (pFindP p jp K ((f : Nat) : Int) l hl hK1 99#32 99#32 hp hjp) (congrArg (Value.int .i64) (eq99 hok))) ?_
    intro n35 hn35
    refine OA.p (some 160) (.bool true) rfl rfl rfl (r_bin rfl rfl rfl (b_eql rfl)) ?_
    refine OA.p (some 161) (.bool true) rfl rfl rfl rfl ?_
    refine OA.p (some 162) (.bool true) rfl rfl rfl rfl ?_
    refine OA.p (some 163) (Pt p 0 0) rfl rfl rfl rfl ?_
    refine OA.callP (dst := (some 164)) (all := [(Pt p 0 0), (.int .u32 99)]) (v := (.int .i64 (-1))) (hd.up (by omega)) rfl rfl rfl rfl rfl rfl rfl rfl (PS.to (pPeer p jp K ((f : Nat) : Int) l hl hK1 99#32 hp hjp) (congrArg (Value.int .i64) (pe99 hok))) ?_
    intro n36 hn36
    refine OA.p (some 165) (.bool true) rfl rfl rfl (r_bin rfl rfl rfl (b_eql rfl)) ?_
    refine OA.p (some 166) (.bool true) rfl rfl rfl rfl ?_
    refine OA.p (some 167) (.bool true) rfl rfl rfl rfl ?_
    refine OA.p (some 168) (Pt p 0 0) rfl rfl rfl rfl ?_
    refine OA.callP (dst := (some 169)) (all := [(Pt p 0 0), (.int .i64 (-1))]) (v := (.agg ⟨xPa61⟩)) (hd.up (by omega)) rfl rfl rfl rfl rfl rfl rfl rfl (pAtN p jp K ((f : Nat) : Int) l hl hK1 hp hjp) ?_
    intro n37 hn37
    refine OA.p (some 170) (.agg ⟨xPa61⟩) rfl rfl rfl (by kernel_rfl) ?_
    refine OA.p (some 171) (.bool true) rfl rfl rfl (r_eqlA (r := true) rfl rfl rfl (by kernel_rfl) (aeq_self _ _ _ (by kernel_rfl))) ?_
    refine OA.p (some 172) (.bool true) rfl rfl rfl rfl ?_
    refine OA.p (some 8) (.bool true) rfl rfl rfl rfl ?_
    refine OA.nil ?_
    intro _
    refine RA.rebase [(0, (Pt p 0 0)), (1, (.slice (some ⟨jq, 0, none⟩) K 2)), (8, (.bool true)), (10, (.bool true)), (12, (.int .i64 (((nrmN x K) : Nat) : Int))), (13, (.int .i64 ((o : Nat) : Int))), (14, (.int .i64 ((m : Nat) : Int))), (130, (.bool false))] ⟨rfl, rfl, rfl, rfl, rfl, rfl, rfl, rfl, trivial⟩ (fun τr38 => ?_)
    refine RA.ret env_ok ?_
    refine ⟨.inr rfl, [(.bool true)], (resL_cons rfl resL_nil), rfl, (fun i hi => by cases hi)⟩
end Go.Proofs.Ytnjknabighmedaa.Vt
