/- Rs4: walks through functions of the program, by the calculus; written by a program of this workplace. -/
import Derived.Test.YtmepflkodjdgdaaRs3
import Derived.Test.YtmepflkodjdgdaaVm6
namespace Go.Proofs.Ytmepflkodjdgdaa.Vt
open Go Go.Proofs Go.Proofs.YtmepflkodjdgdaaV
set_option maxRecDepth 100000
set_option linter.unusedVariables false
set_option linter.unusedSimpArgs false
theorem refB_stop {l : List Prt} {k : Nat} {x : Prt} (h : k = 0 ∨ ¬ ((((x.fl.val / 2) % 2 : Nat) : Int) = 0)) : refB l k x = some x := by
  cases k with
  | zero => rfl
  | succ k => unfold refB; rw [if_pos (by unfold isB; omega)]
theorem refB_no {l : List Prt} {k : Nat} {x : Prt} (hk : 0 < k) (hb : (((x.fl.val / 2) % 2 : Nat) : Int) = 0) (h : atL l (x.tsn - 1#32) = none) : refB l k x = none := by
  cases k with
  | zero => omega
  | succ k => unfold refB; rw [if_neg (by unfold isB; omega), h]
theorem refB_bad {l : List Prt} {k : Nat} {x y : Prt} (hk : 0 < k) (hb : (((x.fl.val / 2) % 2 : Nat) : Int) = 0) (h : atL l (x.tsn - 1#32) = some y) (he : (((y.fl.val % 2) : Nat) : Int) = 1 ∨ ¬ alike y x) : refB l k x = none := by
  cases k with
  | zero => omega
  | succ k => unfold refB; rw [if_neg (by unfold isB; omega), h]; exact if_pos (he.imp_left (fun g => by unfold isE; omega))
theorem refB_go {l : List Prt} {k : Nat} {x y : Prt} (hk : 0 < k) (hb : (((x.fl.val / 2) % 2 : Nat) : Int) = 0) (h : atL l (x.tsn - 1#32) = some y) (he : ¬ (((y.fl.val % 2) : Nat) : Int) = 1) (ha : alike y x) : refB l k x = refB l (k - 1) y := by
  cases k with
  | zero => omega
  | succ k =>
    conv => lhs; unfold refB
    rw [if_neg (by unfold isB; omega), h]
    exact if_neg (fun g => g.elim (fun q => by unfold isE at q; omega) (fun q => q ha))
theorem refF_stop {l : List Prt} {k : Nat} {x : Prt} {d : ByteArray} (h : k = 0 ∨ ¬ ((((x.fl.val) % 2 : Nat) : Int) = 0)) : refF l k x d = some (x, d) := by
  cases k with
  | zero => rfl
  | succ k => unfold refF; rw [if_pos (by unfold isE; omega)]
theorem refF_no {l : List Prt} {k : Nat} {x : Prt} {d : ByteArray} (hk : 0 < k) (hb : (((x.fl.val) % 2 : Nat) : Int) = 0) (h : atL l (x.tsn + 1#32) = none) : refF l k x d = none := by
  cases k with
  | zero => omega
  | succ k => unfold refF; rw [if_neg (by unfold isE; omega), h]
theorem refF_bad {l : List Prt} {k : Nat} {x y : Prt} {d : ByteArray} (hk : 0 < k) (hb : (((x.fl.val) % 2 : Nat) : Int) = 0) (h : atL l (x.tsn + 1#32) = some y) (he : ((((y.fl.val / 2) % 2) : Nat) : Int) = 1 ∨ ¬ alike y x) : refF l k x d = none := by
  cases k with
  | zero => omega
  | succ k => unfold refF; rw [if_neg (by unfold isE; omega), h]; exact if_pos (he.imp_left (fun g => by unfold isB; omega))
theorem refF_go {l : List Prt} {k : Nat} {x y : Prt} {d : ByteArray} (hk : 0 < k) (hb : (((x.fl.val) % 2 : Nat) : Int) = 0) (h : atL l (x.tsn + 1#32) = some y) (he : ¬ ((((y.fl.val / 2) % 2) : Nat) : Int) = 1) (ha : alike y x) : refF l k x d = refF l (k - 1) y (d ++ y.data) := by
  cases k with
  | zero => omega
  | succ k =>
    conv => lhs; unfold refF
    rw [if_neg (by unfold isE; omega), h]
    exact if_neg (fun g => g.elim (fun q => by unfold isB at q; omega) (fun q => q ha))
theorem at_in {l : List Prt} {u : BitVec 32} {y : Prt} (h : atL l u = some y) : y ∈ l := List.mem_of_find?_eq_some h
theorem flt_yes {q : Prt → Bool} {l : List Prt} {i : Nat} (h : i < l.length) (hq : q (l.getD i dPrt) = true) : (l.take (i + 1)).filter q = (l.take i).filter q ++ [l.getD i dPrt] := by
  rw [List.take_succ_eq_append_getElem h, List.filter_append, ← get_d h, List.filter_cons, if_pos hq]; rfl
theorem flt_no {q : Prt → Bool} {l : List Prt} {i : Nat} (h : i < l.length) (hq : ¬ q (l.getD i dPrt) = true) : (l.take (i + 1)).filter q = (l.take i).filter q := by
  rw [List.take_succ_eq_append_getElem h, List.filter_append, ← get_d h, List.filter_cons, if_neg hq]; exact List.append_nil _
theorem nil_of {α : Type} {l : List α} {k : Nat} (h : l.length = k) (h0 : k = 0) : l = [] := List.length_eq_zero_iff.1 (by omega)
abbrev xRs41 (c : Prt) : List Value := [(.int .i64 0), (.int .i64 ((c.fl.val : Nat) : Int)), (W c.tsn), (.int .i64 ((c.st : Nat) : Int)), (.int .i64 ((c.ssn : Nat) : Int)), (W c.proto), (.string c.data), (.int .u32 0), (.int .u32 0), (.int .i64 0), (.int .i64 0), (.slice none 0 0), (.slice none 0 0), (.slice none 0 0), (.slice none 0 0)]
abbrev xRs42 (y : Prt) : List Value := [(.int .i64 0), (.int .i64 ((y.fl.val : Nat) : Int)), (W y.tsn), (.int .i64 ((y.st : Nat) : Int)), (.int .i64 ((y.ssn : Nat) : Int)), (W y.proto), (.string y.data), (.int .u32 0), (.int .u32 0), (.int .i64 0), (.int .i64 0), (.slice none 0 0), (.slice none 0 0), (.slice none 0 0), (.slice none 0 0)]
abbrev xRs43 (x : Prt) : List Value := [(.int .i64 0), (.int .i64 ((x.fl.val : Nat) : Int)), (W x.tsn), (.int .i64 ((x.st : Nat) : Int)), (.int .i64 ((x.ssn : Nat) : Int)), (W x.proto), (.string x.data), (.int .u32 0), (.int .u32 0), (.int .i64 0), (.int .i64 0), (.slice none 0 0), (.slice none 0 0), (.slice none 0 0), (.slice none 0 0)]
abbrev xRs44 (z : Prt) : List Value := [(.int .i64 0), (.int .i64 ((z.fl.val : Nat) : Int)), (W z.tsn), (.int .i64 ((z.st : Nat) : Int)), (.int .i64 ((z.ssn : Nat) : Int)), (W z.proto), (.string z.data), (.int .u32 0), (.int .u32 0), (.int .i64 0), (.int .i64 0), (.slice none 0 0), (.slice none 0 0), (.slice none 0 0), (.slice none 0 0)]
abbrev xRs45 : List Value := [(.int .i64 0), (.int .i64 0), (.int .u32 0), (.int .i64 0), (.int .i64 0), (.int .u32 0), (.string ByteArray.empty), (.int .u32 0), (.int .u32 0), (.int .i64 0), (.int .i64 0), (.slice none 0 0), (.slice none 0 0), (.slice none 0 0), (.slice none 0 0)]
abbrev xRs46 (ja : Nat) (K : Nat) : List Value := [(.slice (some ⟨ja, 0, none⟩) (K + 1) 2), (.agg ⟨[(.int .i64 0), (.int .i64 0), (.bool false), (.int .u32 0), (.string ByteArray.empty)]⟩), (.bool false)]
set_option maxHeartbeats 4000000 in
theorem sRefB {n : Nat} {σ : Store} (hd : Dom n σ) (jv K : Nat) (q : List Prt) (hq : q.length = K) (hK : K ≤ 900) (c : Prt) (hsz : ∀ x ∈ (q ++ [c]), x.data.size ≤ 6) (hsc : c.data.size ≤ 6) (hB : refB (q ++ [c]) (K + 2) c = none) (hjv : σ jv = some (oPrt q))  : CQ Try.prog noDen 31 [(.slice (some ⟨jv, 0, none⟩) K 2), (.agg ⟨(cPrt c)⟩)] n σ (fun v n' d => ∃ ja, n ≤ ja ∧ ja < n' ∧ v = .tuple #[.slice (some ⟨ja, 0, none⟩) (K + 1) 2, (.agg ⟨[(.int .i64 0), (.int .i64 0), (.bool false), (.int .u32 0), (.string ByteArray.empty)]⟩), .bool false] ∧ d = [(ja, some (oPrt (q ++ [c])))]) := by
 have lhjv := hd.lt hjv
 refine CQ.body (E := env) env_ok hd rfl rfl (by show _ ≤ _; exact of_decide_eq_true (by kernel_rfl)) ?_
 refine RA.seq hd ?_
 refine RA.region env_ok ?_
 refine OA.op1 (dst := (some 3)) (v := (Pt n 0 0)) (n1 := (n + 1)) (w := (n, some ⟨[(cPrt c)], 15, 54, true⟩)) rfl rfl rfl rfl (by omega) ?_
 refine OA.p (some 4) (.slice none 0 0) rfl rfl rfl rfl ?_
 refine OA.op1 (dst := (some 5)) (v := (.pointer (some ⟨(n + 1), 0, some 0⟩))) (n1 := (n + 2)) (w := ((n + 1), some ⟨[[(.int .i64 0), (.int .i64 0), (.bool false), (.int .u32 0), (.string ByteArray.empty)]], 5, 29, true⟩)) rfl rfl rfl rfl (by omega) ?_
 refine OA.p (some 6) (.bool false) rfl rfl rfl rfl ?_
 refine OA.nil ?_
 intro _
 refine RA.seq hd (RA.imp (Q := fun x τ' n' D' => x = .normal ∧ ((∃ ja : Nat, Has τ' [(3, (Pt n 0 0)), (5, (.pointer (some ⟨(n + 1), 0, some 0⟩))), (7, (.slice (some ⟨ja, 0, none⟩) (K + 1) 0))] ∧ (∃ D2, Less n n' D' D2 ∧ D2 = [(n, some ⟨[(cPrt c)], 15, 54, true⟩), ((n + 1), some ⟨[[(.int .i64 0), (.int .i64 0), (.bool false), (.int .u32 0), (.string ByteArray.empty)]], 5, 29, true⟩), (ja, some (oPrt (q ++ [c])))]) ∧ (n + 2) ≤ n' ∧ (∀ i_ ∈ keys [(n, some ⟨[(cPrt c)], 15, 54, true⟩), ((n + 1), some ⟨[[(.int .i64 0), (.int .i64 0), (.bool false), (.int .u32 0), (.string ByteArray.empty)]], 5, 29, true⟩), (ja, some (oPrt (q ++ [c])))], i_ < n') ∧ (n + 1) < ja))) ?_ ?_)
 ·
  refine RA.par (md := [some [], some [], none, some [n], some [], none, some []]) env_ok (hd.of (by omega) (kb2 (by omega))) (by kernel_rfl) ?_
  refine PQ.op (dst := (some 20)) (v := (.slice (some ⟨(n + 2), 0, none⟩) 0 0)) (n1 := (n + 3)) (d1 := [((n + 2), some (oPrt ([] : List Prt)))]) rfl rfl rfl noStore (none_ok _ _) (by kernel_rfl) (by omega) (kp1 (wr_new (by omega) (by omega))) ?_
  refine PQ.pure (dst := (some 21)) (v := (.slice (some ⟨jv, 0, none⟩) K 2)) rfl rfl rfl noStore (none_ok _ _) rfl ?_
  by_cases hc1 : K = 0
  ·
   refine PQ.pure (dst := (some 22)) (v := (.slice (some ⟨(n + 2), 0, none⟩) 0 0)) rfl rfl rfl _ (seen_any (V := [((n + 2), some (oPrt ([] : List Prt)))]) (D := [((n + 1), some ⟨[[(.int .i64 0), (.int .i64 0), (.bool false), (.int .u32 0), (.string ByteArray.empty)]], 5, 29, true⟩), (n, some ⟨[(cPrt c)], 15, 54, true⟩)]) (by kernel_rfl)) (r_appendZ rfl rfl rfl rfl (.inl ⟨_, _, _, rfl, by decide⟩) rfl rfl rfl rfl rfl (by decide) (by omega)) ?_
   refine PQ.pure (dst := (some 23)) (v := (.agg ⟨(xRs41 c)⟩)) rfl rfl rfl (app [(n, some ⟨[(cPrt c)], 15, 54, true⟩)] noStore) (seen_one (V := []) (D := [((n + 1), some ⟨[[(.int .i64 0), (.int .i64 0), (.bool false), (.int .u32 0), (.string ByteArray.empty)]], 5, 29, true⟩), (n, some ⟨[(cPrt c)], 15, 54, true⟩)]) (by kernel_rfl) (get_there (by omega) get_here)) (r_loadA rfl rfl rfl rfl get_here rfl rfl rfl) ?_
   refine PQ.op (dst := (some 24)) (v := (.slice (some ⟨(n + 3), 0, none⟩) 1 0)) (n1 := (n + 4)) (d1 := [((n + 3), some ⟨[(xRs41 c)], 15, 54, true⟩)]) rfl rfl rfl noStore (none_ok _ _) (by kernel_rfl) (by omega) (kp1 (wr_new (by omega) (by omega))) ?_
   refine PQ.op (dst := (some 25)) (v := (.slice (some ⟨(n + 4), 0, none⟩) 1 0)) (n1 := (n + 5)) (d1 := [((n + 4), some (oPrt (q ++ [c]))), ((n + 2), none)]) rfl rfl rfl _ (seen_any (V := [((n + 3), some ⟨[(xRs41 c)], 15, 54, true⟩), ((n + 2), some (oPrt ([] : List Prt)))]) (D := [((n + 1), some ⟨[[(.int .i64 0), (.int .i64 0), (.bool false), (.int .u32 0), (.string ByteArray.empty)]], 5, 29, true⟩), (n, some ⟨[(cPrt c)], 15, 54, true⟩)]) (by kernel_rfl)) (r_appendR (c := cPrt) (l' := (q ++ [c])) rfl rfl rfl rfl rfl rfl rfl rfl rfl rfl (by decide) (get_there (by omega) get_here) get_here (by rw [show ([] : List Prt).length = 0 from rfl]) (by rw [nil_of hq (by omega)]; rfl) (by omega) (of_decide_eq_true (by kernel_rfl)) (by omega)) (by omega) (kp2 (wr_new (by omega) (by omega)) (wr_tight (by kernel_rfl) (by omega))) ?_
   refine PQ.pure (dst := (some 7)) (v := (.slice (some ⟨(n + 4), 0, none⟩) 1 0)) rfl rfl rfl noStore (none_ok _ _) rfl ?_
   refine PQ.done (d := [((n + 4), some (oPrt (q ++ [c]))), ((n + 2), none), ((n + 3), some ⟨[(xRs41 c)], 15, 54, true⟩), ((n + 2), some (oPrt ([] : List Prt)))]) (by kernel_rfl) ?_
   exact ⟨rfl, ⟨(n + 4), ⟨rfl, rfl, (by have hK0 : K = 0 := (by omega); subst hK0; rfl), trivial⟩, ⟨[(n, some ⟨[(cPrt c)], 15, 54, true⟩), ((n + 1), some ⟨[[(.int .i64 0), (.int .i64 0), (.bool false), (.int .u32 0), (.string ByteArray.empty)]], 5, 29, true⟩), ((n + 4), some (oPrt (q ++ [c])))], (Less.of (fac (mm (fun _ => get_here) (fun _ => (gt5 (by omega) get_here))) (fac (mm (fun _ => (get_there (by omega) get_here)) (fun _ => (gt4 (by omega) get_here))) (fac (mm (fun _ => (gt2 (by omega) get_here)) (fun _ => get_here)) fan))) (gone_of (by simp only [goneP, memP, List.cons_append, List.nil_append, true_or, or_true, true_and, and_true, or_false] <;> omega))), rfl⟩, by omega, (kb3 (by omega)), by omega⟩⟩
  ·
   refine PQ.op (dst := (some 22)) (v := (.slice (some ⟨(n + 3), 0, none⟩) K 0)) (n1 := (n + 4)) (d1 := [((n + 3), some (oPrt q)), ((n + 2), none)]) rfl rfl rfl _ (seen_any (V := [((n + 2), some (oPrt ([] : List Prt)))]) (D := [((n + 1), some ⟨[[(.int .i64 0), (.int .i64 0), (.bool false), (.int .u32 0), (.string ByteArray.empty)]], 5, 29, true⟩), (n, some ⟨[(cPrt c)], 15, 54, true⟩)]) (by kernel_rfl)) (r_appendL (c := cPrt) (l' := q) rfl rfl rfl rfl rfl rfl rfl rfl rfl rfl (by decide) get_here (gt3 (by omega) hjv) (by rw [show ([] : List Prt).length = 0 from rfl]) (by omega) (by rw [hq]; omega) (by rw [List.nil_append, take_all' (by rw [hq])]) (by omega) (of_decide_eq_true (by kernel_rfl)) (by omega)) (by omega) (kp2 (wr_new (by omega) (by omega)) (wr_late [3, 4] (by kernel_rfl) (by kernel_rfl) (by omega) 0 (by kernel_rfl) (by simp [keys]) (fac (lo1 rfl (by omega)) (fac (lo0 rfl) fan)))) ?_
   refine PQ.pure (dst := (some 23)) (v := (.agg ⟨(xRs41 c)⟩)) rfl rfl rfl (app [(n, some ⟨[(cPrt c)], 15, 54, true⟩)] noStore) (seen_one (V := []) (D := [((n + 1), some ⟨[[(.int .i64 0), (.int .i64 0), (.bool false), (.int .u32 0), (.string ByteArray.empty)]], 5, 29, true⟩), (n, some ⟨[(cPrt c)], 15, 54, true⟩)]) (by kernel_rfl) (get_there (by omega) get_here)) (r_loadA rfl rfl rfl rfl get_here rfl rfl rfl) ?_
   refine PQ.op (dst := (some 24)) (v := (.slice (some ⟨(n + 4), 0, none⟩) 1 0)) (n1 := (n + 5)) (d1 := [((n + 4), some ⟨[(xRs41 c)], 15, 54, true⟩)]) rfl rfl rfl noStore (none_ok _ _) (by kernel_rfl) (by omega) (kp1 (wr_new (by omega) (by omega))) ?_
   refine PQ.op (dst := (some 25)) (v := (.slice (some ⟨(n + 5), 0, none⟩) (K + 1) 0)) (n1 := (n + 6)) (d1 := [((n + 5), some (oPrt (q ++ [c]))), ((n + 3), none)]) rfl rfl rfl _ (seen_any (V := [((n + 4), some ⟨[(xRs41 c)], 15, 54, true⟩), ((n + 3), some (oPrt q)), ((n + 2), none), ((n + 2), some (oPrt ([] : List Prt)))]) (D := [((n + 1), some ⟨[[(.int .i64 0), (.int .i64 0), (.bool false), (.int .u32 0), (.string ByteArray.empty)]], 5, 29, true⟩), (n, some ⟨[(cPrt c)], 15, 54, true⟩)]) (by kernel_rfl)) (r_appendR (c := cPrt) (l' := (q ++ [c])) rfl rfl rfl rfl rfl rfl rfl rfl rfl rfl (by decide) (get_there (by omega) get_here) get_here (by rw [hq]) (mp_snoc (c := cPrt) (x := c)) (by omega) (of_decide_eq_true (by kernel_rfl)) (by omega)) (by omega) (kp2 (wr_new (by omega) (by omega)) (wr_tight (by kernel_rfl) (by omega))) ?_
   refine PQ.pure (dst := (some 7)) (v := (.slice (some ⟨(n + 5), 0, none⟩) (K + 1) 0)) rfl rfl rfl noStore (none_ok _ _) rfl ?_
   refine PQ.done (d := [((n + 5), some (oPrt (q ++ [c]))), ((n + 3), none), ((n + 4), some ⟨[(xRs41 c)], 15, 54, true⟩), ((n + 3), some (oPrt q)), ((n + 2), none), ((n + 2), some (oPrt ([] : List Prt)))]) (by kernel_rfl) ?_
   exact ⟨rfl, ⟨(n + 5), ⟨rfl, rfl, rfl, trivial⟩, ⟨[(n, some ⟨[(cPrt c)], 15, 54, true⟩), ((n + 1), some ⟨[[(.int .i64 0), (.int .i64 0), (.bool false), (.int .u32 0), (.string ByteArray.empty)]], 5, 29, true⟩), ((n + 5), some (oPrt (q ++ [c])))], (Less.of (fac (mm (fun _ => get_here) (fun _ => (gt7 (by omega) get_here))) (fac (mm (fun _ => (get_there (by omega) get_here)) (fun _ => (gt6 (by omega) get_here))) (fac (mm (fun _ => (gt2 (by omega) get_here)) (fun _ => get_here)) fan))) (gone_of (by simp only [goneP, memP, List.cons_append, List.nil_append, true_or, or_true, true_and, and_true, or_false] <;> omega))), rfl⟩, by omega, (kb3 (by omega)), by omega⟩⟩
 ·
  rintro _ τ1 n1 Dn1 hmn1 ⟨rfl, hSn1⟩
  rcases hSn1 with ⟨ja, hHn1, ⟨_, hLn1, rfl⟩, hn1, hKn1, hIn1⟩
  intro _
  refine RA.weaken hd hLn1 ?_
  rw [Has.eq hHn1]
  have hKn1_0 : n < n1 := hKn1 _ (by simp only [keys, List.map_cons, List.map_nil, List.mem_cons, true_or, or_true])
  have hKn1_1 : (n + 1) < n1 := hKn1 _ (by simp only [keys, List.map_cons, List.map_nil, List.mem_cons, true_or, or_true])
  have hKn1_2 : ja < n1 := hKn1 _ (by simp only [keys, List.map_cons, List.map_nil, List.mem_cons, true_or, or_true])
  clear hKn1
  have hja := hIn1
  have hsa : ∀ x ∈ (q ++ [c]), x.data.size ≤ 6 := hsz
  refine RA.seq hd ?_
  refine RA.region env_ok ?_
  refine OA.p (some 26) (.agg ⟨(xRs41 c)⟩) rfl rfl rfl (r_loadA rfl rfl rfl rfl get_here rfl rfl rfl) ?_
  refine OA.op1 (dst := (some 8)) (v := (Pt n1 0 0)) (n1 := (n1 + 1)) (w := (n1, some ⟨[xRs45], 15, 54, true⟩)) rfl rfl rfl rfl (by omega) ?_
  refine OA.op1 (dst := none) (v := (.tuple #[])) (n1 := (n1 + 1)) (w := (n1, some ⟨[(xRs41 c)], 15, 54, true⟩)) rfl rfl rfl (r_store rfl rfl rfl rfl rfl rfl rfl get_here rfl rfl (Nat.le_of_ble_eq_true rfl) rfl) (by omega) ?_
  refine OA.nil ?_
  intro _
  refine RA.leT (t := 7) (v := (.slice (some ⟨ja, 0, none⟩) (K + 1) 0)) (v' := (.slice (some ⟨ja, 0, none⟩) (K + 1) 2)) rfl (vle_row _ _ _) ?_
  refine RA.weaken (D' := [(n1, some ⟨[(xRs41 c)], 15, 54, true⟩), (n, some ⟨[(cPrt c)], 15, 54, true⟩), ((n + 1), some ⟨[[(.int .i64 0), (.int .i64 0), (.bool false), (.int .u32 0), (.string ByteArray.empty)]], 5, 29, true⟩), (ja, some (oPrt (q ++ [c])))]) hd (Less.of (fac (mm (fun _ => get_here) (fun _ => get_here)) (fac (mm (fun _ => (get_there (by omega) get_here)) (fun _ => (gt2 (by omega) get_here))) (fac (mm (fun _ => (gt2 (by omega) get_here)) (fun _ => (gt3 (by omega) get_here))) (fac (mm (fun _ => (gt3 (by omega) get_here)) (fun _ => (gt4 (by omega) get_here))) fan)))) (gone_of (by simp only [goneP, memP, List.cons_append, List.nil_append, true_or, or_true, true_and, and_true, or_false] <;> omega))) ?_
  refine RA.seq hd ?_
  refine RA.seq hd ?_
  refine RA.region env_ok ?_
  refine OA.p (some 9) (.int .i64 0) rfl rfl rfl rfl ?_
  refine OA.nil ?_
  intro _
  refine RA.block ?_
  refine RA.weaken (D' := [(n, some ⟨[(cPrt c)], 15, 54, true⟩), ((n + 1), some ⟨[[(.int .i64 0), (.int .i64 0), (.bool false), (.int .u32 0), (.string ByteArray.empty)]], 5, 29, true⟩), (ja, some (oPrt (q ++ [c]))), (n1, some ⟨[(xRs41 c)], 15, 54, true⟩)]) hd (Less.of (fac (mm (fun _ => get_here) (fun _ => (get_there (by omega) get_here))) (fac (mm (fun _ => (get_there (by omega) get_here)) (fun _ => (gt2 (by omega) get_here))) (fac (mm (fun _ => (gt2 (by omega) get_here)) (fun _ => (gt3 (by omega) get_here))) (fac (mm (fun _ => (gt3 (by omega) get_here)) (fun _ => get_here)) fan)))) (gone_of (by simp only [goneP, memP, List.cons_append, List.nil_append, true_or, or_true, true_and, and_true, or_false] <;> omega))) ?_
  refine RA.loop hd (fun kk_ τ n' D => (∃ k : Nat, ∃ x : Prt, kk_ = K + 2 - k ∧ (n1 + 1) ≤ n' ∧ Has τ [(3, (Pt n 0 0)), (5, (.pointer (some ⟨(n + 1), 0, some 0⟩))), (7, (.slice (some ⟨ja, 0, none⟩) (K + 1) 2)), (8, (Pt n1 0 0)), (9, (.int .i64 ((k : Nat) : Int)))] ∧ D = [(n, some ⟨[(cPrt c)], 15, 54, true⟩), ((n + 1), some ⟨[[(.int .i64 0), (.int .i64 0), (.bool false), (.int .u32 0), (.string ByteArray.empty)]], 5, 29, true⟩), (ja, some (oPrt (q ++ [c]))), (n1, some ⟨[(cPrt x)], 15, 54, true⟩)] ∧ (∀ i ∈ keys D, i < n') ∧ k ≤ K + 2 ∧ refB (q ++ [c]) (K + 2 - k) x = none ∧ x.data.size ≤ 6)) (K + 2 - 0) (⟨0, c, rfl, by omega, ⟨rfl, rfl, rfl, rfl, rfl, trivial⟩, (by rfl), (kb4 (by omega)), ⟨by omega, hB, hsc⟩⟩) ?_
  rintro kn2 τ2 n2 _ ⟨k, x, rfl, hn2, hHn2, rfl, hKn2, hIn2⟩
  rw [Has.eq hHn2]
  have hKn2_0 : n < n2 := hKn2 _ (by simp only [keys, List.map_cons, List.map_nil, List.mem_cons, true_or, or_true])
  have hKn2_1 : (n + 1) < n2 := hKn2 _ (by simp only [keys, List.map_cons, List.map_nil, List.mem_cons, true_or, or_true])
  have hKn2_2 : ja < n2 := hKn2 _ (by simp only [keys, List.map_cons, List.map_nil, List.mem_cons, true_or, or_true])
  have hKn2_3 : n1 < n2 := hKn2 _ (by simp only [keys, List.map_cons, List.map_nil, List.mem_cons, true_or, or_true])
  clear hKn2
  obtain ⟨hk1, hkB, hxd⟩ := hIn2
  refine RA.seq hd ?_
  refine RA.seq hd ?_
  refine RA.region env_ok ?_
  refine OA.p (some 27) (.int .i64 ((k : Nat) : Int)) rfl rfl rfl rfl ?_
  refine OA.p (some 28) (.slice (some ⟨ja, 0, none⟩) (K + 1) 2) rfl rfl rfl rfl ?_
  refine OA.p (some 29) (.int .i64 (((K + 1) : Nat) : Int)) rfl rfl rfl rfl ?_
  by_cases hc2 : ((k : Nat) : Int) ≤ (((K + 1) : Nat) : Int)
  ·
   refine OA.p (some 30) (.bool true) rfl rfl rfl (Eq.trans (r_bin rfl rfl rfl (b_leq rfl)) (dT hc2)) ?_
   refine OA.p (some 31) (.bool true) rfl rfl rfl rfl ?_
   refine OA.p (some 32) (Pt n1 0 1) rfl rfl rfl rfl ?_
   refine OA.p (some 33) (.int .i64 ((x.fl.val : Nat) : Int)) rfl rfl rfl (r_load1 rfl rfl rfl rfl rfl (gt3 (by omega) get_here) rfl rfl) ?_
   refine OA.p (some 34) (.int .i64 (((x.fl.val / 2) : Nat) : Int)) rfl rfl rfl (r_bin rfl rfl rfl (b_quoN (a := x.fl.val) (c := 2) (by decide) (i64_eq (by omega)))) ?_
   refine OA.p (some 35) (.int .i64 ((((x.fl.val / 2) % 2) : Nat) : Int)) rfl rfl rfl (r_bin rfl rfl rfl (b_remN (a := (x.fl.val / 2)) (c := 2) (by decide))) ?_
   by_cases hc3 : ((((x.fl.val / 2) % 2) : Nat) : Int) = 0
   ·
    refine OA.p (some 36) (.bool true) rfl rfl rfl (Eq.trans (r_bin rfl rfl rfl (b_eql rfl)) (dT hc3)) ?_
    refine OA.p (some 37) (.bool true) rfl rfl rfl rfl ?_
    refine OA.nil ?_
    intro _
    refine RA.condT rfl ?_
    refine RA.skip env_ok ?_
    intro _
    refine RA.seq hd ?_
    refine RA.block ?_
    refine RA.seq hd ?_
    refine RA.region env_ok ?_
    refine OA.p (some 41) (.slice (some ⟨ja, 0, none⟩) (K + 1) 2) rfl rfl rfl rfl ?_
    refine OA.p (some 42) (Pt n1 0 2) rfl rfl rfl rfl ?_
    refine OA.p (some 43) (W x.tsn) rfl rfl rfl (r_load1 rfl rfl rfl rfl rfl (gt3 (by omega) get_here) rfl rfl) ?_
    refine OA.p (some 44) (W (x.tsn - (1#32))) rfl rfl rfl (r_bin rfl rfl rfl (b_subW x.tsn (1#32))) ?_
    by_cases hc4 : atL (q ++ [c]) (x.tsn - (1#32)) = none
    ·
     refine OA.callP (dst := (some 45)) (all := [(.slice (some ⟨ja, 0, none⟩) (K + 1) 2), (W (x.tsn - (1#32)))]) (v := (.tuple ⟨[(.agg ⟨xRs45⟩), (.bool false)]⟩)) (hd.of (by omega) (kb4 (by omega))) rfl rfl rfl rfl rfl rfl rfl rfl (PS.to (sAt ja (K + 1) (q ++ [c]) (show (q ++ [c]).length = K + 1 from by rw [List.length_append, hq]; rfl) (by omega) (x.tsn - (1#32)) (gt2 (by omega) get_here)) (by rw [hc4]; rfl)) ?_
     intro n3 hn3
     refine OA.p (some 40) (.tuple ⟨[(.agg ⟨xRs45⟩), (.bool false)]⟩) rfl rfl rfl rfl ?_
     refine OA.p (some 46) (.agg ⟨xRs45⟩) rfl rfl rfl rfl ?_
     refine OA.p (some 47) (.bool false) rfl rfl rfl rfl ?_
     refine OA.op1 (dst := (some 10)) (v := (Pt n3 0 0)) (n1 := (n3 + 1)) (w := (n3, some ⟨[xRs45], 15, 54, true⟩)) rfl rfl rfl rfl (by omega) ?_
     refine OA.op1 (dst := none) (v := (.tuple #[])) (n1 := (n3 + 1)) (w := (n3, some ⟨[xRs45], 15, 54, true⟩)) rfl rfl rfl (r_store rfl rfl rfl rfl rfl rfl rfl get_here rfl rfl (Nat.le_of_ble_eq_true rfl) rfl) (by omega) ?_
     refine OA.p (some 11) (.bool false) rfl rfl rfl rfl ?_
     refine OA.nil ?_
     intro _
     refine RA.weaken (D' := [(n3, some ⟨[xRs45], 15, 54, true⟩), (n, some ⟨[(cPrt c)], 15, 54, true⟩), ((n + 1), some ⟨[[(.int .i64 0), (.int .i64 0), (.bool false), (.int .u32 0), (.string ByteArray.empty)]], 5, 29, true⟩), (ja, some (oPrt (q ++ [c]))), (n1, some ⟨[(cPrt x)], 15, 54, true⟩)]) hd (Less.of (fac (mm (fun _ => get_here) (fun _ => get_here)) (fac (mm (fun _ => (get_there (by omega) get_here)) (fun _ => (gt2 (by omega) get_here))) (fac (mm (fun _ => (gt2 (by omega) get_here)) (fun _ => (gt3 (by omega) get_here))) (fac (mm (fun _ => (gt3 (by omega) get_here)) (fun _ => (gt4 (by omega) get_here))) (fac (mm (fun _ => (gt4 (by omega) get_here)) (fun _ => (gt5 (by omega) get_here))) fan))))) (gone_of (by simp only [goneP, memP, List.cons_append, List.nil_append, true_or, or_true, true_and, and_true, or_false] <;> omega))) ?_
     refine RA.seq hd ?_
     refine RA.seq hd ?_
     refine RA.region env_ok ?_
     refine OA.p (some 48) (.bool false) rfl rfl rfl rfl ?_
     refine OA.p (some 49) (.bool true) rfl rfl rfl rfl ?_
     refine OA.p (some 50) (.bool true) rfl rfl rfl rfl ?_
     refine OA.off (dst := (some 51)) rfl rfl rfl ?_
     refine OA.off (dst := (some 52)) rfl rfl rfl ?_
     refine OA.off (dst := (some 53)) rfl rfl rfl ?_
     refine OA.off (dst := (some 54)) rfl rfl rfl ?_
     refine OA.p (some 55) (.bool true) rfl rfl rfl rfl ?_
     refine OA.p (some 56) (.bool true) rfl rfl rfl rfl ?_
     refine OA.off (dst := (some 57)) rfl rfl rfl ?_
     refine OA.off (dst := (some 58)) rfl rfl rfl ?_
     refine OA.off (dst := (some 59)) rfl rfl rfl ?_
     refine OA.off (dst := (some 60)) rfl rfl rfl ?_
     refine OA.p (some 61) (.bool true) rfl rfl rfl rfl ?_
     refine OA.nil ?_
     intro _
     refine RA.rebase [(3, (Pt n 0 0)), (5, (.pointer (some ⟨(n + 1), 0, some 0⟩))), (7, (.slice (some ⟨ja, 0, none⟩) (K + 1) 2)), (8, (Pt n1 0 0)), (9, (.int .i64 ((k : Nat) : Int))), (10, (Pt n3 0 0)), (11, (.bool false)), (37, (.bool true)), (61, (.bool true))] ⟨rfl, rfl, rfl, rfl, rfl, rfl, rfl, rfl, rfl, trivial⟩ (fun τr4 => ?_)
     refine RA.condT rfl ?_
     refine RA.seq hd ?_
     refine RA.region env_ok ?_
     refine OA.p (some 62) (.slice (some ⟨ja, 0, none⟩) (K + 1) 2) rfl rfl rfl rfl ?_
     refine OA.p (some 63) (.agg ⟨[(.int .i64 0), (.int .i64 0), (.bool false), (.int .u32 0), (.string ByteArray.empty)]⟩) rfl rfl rfl (by kernel_rfl) ?_
     refine OA.p (some 4) (.slice (some ⟨ja, 0, none⟩) (K + 1) 2) rfl rfl rfl rfl ?_
     refine OA.op1 (dst := none) (v := (.tuple #[])) (n1 := (n3 + 1)) (w := ((n + 1), some ⟨[[(.int .i64 0), (.int .i64 0), (.bool false), (.int .u32 0), (.string ByteArray.empty)]], 5, 29, true⟩)) rfl rfl rfl (r_store rfl rfl rfl rfl rfl rfl rfl (gt2 (by omega) get_here) rfl rfl (Nat.le_of_ble_eq_true rfl) rfl) (by omega) ?_
     refine OA.p (some 6) (.bool false) rfl rfl rfl rfl ?_
     refine OA.nil ?_
     intro _
     refine RA.weaken (D' := [((n + 1), some ⟨[[(.int .i64 0), (.int .i64 0), (.bool false), (.int .u32 0), (.string ByteArray.empty)]], 5, 29, true⟩), (n3, some ⟨[xRs45], 15, 54, true⟩), (n, some ⟨[(cPrt c)], 15, 54, true⟩), (ja, some (oPrt (q ++ [c]))), (n1, some ⟨[(cPrt x)], 15, 54, true⟩)]) hd (Less.of (fac (mm (fun _ => get_here) (fun _ => get_here)) (fac (mm (fun _ => (get_there (by omega) get_here)) (fun _ => (get_there (by omega) get_here))) (fac (mm (fun _ => (gt2 (by omega) get_here)) (fun _ => (gt2 (by omega) get_here))) (fac (mm (fun _ => (gt3 (by omega) get_here)) (fun _ => (gt4 (by omega) get_here))) (fac (mm (fun _ => (gt4 (by omega) get_here)) (fun _ => (gt5 (by omega) get_here))) fan))))) (gone_of (by simp only [goneP, memP, List.cons_append, List.nil_append, true_or, or_true, true_and, and_true, or_false] <;> omega))) ?_
     refine RA.ret env_ok ?_
     refine ⟨.inr rfl, (xRs46 ja K), (resL_cons rfl (resL_cons (res_cellA rfl rfl rfl get_here rfl rfl rfl) (resL_cons rfl resL_nil))), [(ja, some (oPrt (q ++ [c])))], (Less.of (fac (mm (fun _ => get_here) (fun _ => (gt3 (by omega) get_here))) fan) (gone_of (by simp only [goneP, memP, List.cons_append, List.nil_append, true_or, or_true, true_and, and_true, or_false] <;> omega))), ⟨ja, by omega, by omega, by rfl, rfl⟩⟩
    ·
     obtain ⟨y, hy⟩ := Option.ne_none_iff_exists'.1 hc4
     have hyd := hsz y (at_in hy)
     refine OA.callP (dst := (some 45)) (all := [(.slice (some ⟨ja, 0, none⟩) (K + 1) 2), (W (x.tsn - (1#32)))]) (v := (.tuple ⟨[(.agg ⟨(cPrt y)⟩), (.bool true)]⟩)) (hd.of (by omega) (kb4 (by omega))) rfl rfl rfl rfl rfl rfl rfl rfl (PS.to (sAt ja (K + 1) (q ++ [c]) (show (q ++ [c]).length = K + 1 from by rw [List.length_append, hq]; rfl) (by omega) (x.tsn - (1#32)) (gt2 (by omega) get_here)) (by rw [hy]; rfl)) ?_
     intro n5 hn5
     refine OA.p (some 40) (.tuple ⟨[(.agg ⟨(cPrt y)⟩), (.bool true)]⟩) rfl rfl rfl rfl ?_
     refine OA.p (some 46) (.agg ⟨(cPrt y)⟩) rfl rfl rfl rfl ?_
     refine OA.p (some 47) (.bool true) rfl rfl rfl rfl ?_
     refine OA.op1 (dst := (some 10)) (v := (Pt n5 0 0)) (n1 := (n5 + 1)) (w := (n5, some ⟨[xRs45], 15, 54, true⟩)) rfl rfl rfl rfl (by omega) ?_
     refine OA.op1 (dst := none) (v := (.tuple #[])) (n1 := (n5 + 1)) (w := (n5, some ⟨[(cPrt y)], 15, 54, true⟩)) rfl rfl rfl (r_store rfl rfl rfl rfl rfl rfl rfl get_here rfl rfl (Nat.le_of_ble_eq_true rfl) rfl) (by omega) ?_
     refine OA.p (some 11) (.bool true) rfl rfl rfl rfl ?_
     refine OA.nil ?_
     intro _
     refine RA.seq hd ?_
     refine RA.seq hd ?_
     refine RA.region env_ok ?_
     refine OA.p (some 48) (.bool true) rfl rfl rfl rfl ?_
     refine OA.p (some 49) (.bool false) rfl rfl rfl rfl ?_
     refine OA.p (some 50) (.bool false) rfl rfl rfl rfl ?_
     refine OA.p (some 51) (Pt n5 0 1) rfl rfl rfl rfl ?_
     refine OA.p (some 52) (.int .i64 ((y.fl.val : Nat) : Int)) rfl rfl rfl (r_load1 rfl rfl rfl rfl rfl get_here rfl rfl) ?_
     refine OA.p (some 53) (.int .i64 (((y.fl.val % 2) : Nat) : Int)) rfl rfl rfl (r_bin rfl rfl rfl (b_remN (a := y.fl.val) (c := 2) (by decide))) ?_
     by_cases hc5 : (((y.fl.val % 2) : Nat) : Int) = 1
     ·
      refine OA.p (some 54) (.bool true) rfl rfl rfl (Eq.trans (r_bin rfl rfl rfl (b_eql rfl)) (dT hc5)) ?_
      refine OA.p (some 55) (.bool true) rfl rfl rfl rfl ?_
      refine OA.p (some 56) (.bool true) rfl rfl rfl rfl ?_
      refine OA.off (dst := (some 57)) rfl rfl rfl ?_
      refine OA.off (dst := (some 58)) rfl rfl rfl ?_
      refine OA.off (dst := (some 59)) rfl rfl rfl ?_
      refine OA.off (dst := (some 60)) rfl rfl rfl ?_
      refine OA.p (some 61) (.bool true) rfl rfl rfl rfl ?_
      refine OA.nil ?_
      intro _
      refine RA.rebase [(3, (Pt n 0 0)), (5, (.pointer (some ⟨(n + 1), 0, some 0⟩))), (7, (.slice (some ⟨ja, 0, none⟩) (K + 1) 2)), (8, (Pt n1 0 0)), (9, (.int .i64 ((k : Nat) : Int))), (10, (Pt n5 0 0)), (11, (.bool true)), (37, (.bool true)), (61, (.bool true))] ⟨rfl, rfl, rfl, rfl, rfl, rfl, rfl, rfl, rfl, trivial⟩ (fun τr6 => ?_)
      refine RA.condT rfl ?_
      refine RA.seq hd ?_
      refine RA.region env_ok ?_
      refine OA.p (some 62) (.slice (some ⟨ja, 0, none⟩) (K + 1) 2) rfl rfl rfl rfl ?_
      refine OA.p (some 63) (.agg ⟨[(.int .i64 0), (.int .i64 0), (.bool false), (.int .u32 0), (.string ByteArray.empty)]⟩) rfl rfl rfl (by kernel_rfl) ?_
      refine OA.p (some 4) (.slice (some ⟨ja, 0, none⟩) (K + 1) 2) rfl rfl rfl rfl ?_
      refine OA.op1 (dst := none) (v := (.tuple #[])) (n1 := (n5 + 1)) (w := ((n + 1), some ⟨[[(.int .i64 0), (.int .i64 0), (.bool false), (.int .u32 0), (.string ByteArray.empty)]], 5, 29, true⟩)) rfl rfl rfl (r_store rfl rfl rfl rfl rfl rfl rfl (gt3 (by omega) get_here) rfl rfl (Nat.le_of_ble_eq_true rfl) rfl) (by omega) ?_
      refine OA.p (some 6) (.bool false) rfl rfl rfl rfl ?_
      refine OA.nil ?_
      intro _
      refine RA.weaken (D' := [((n + 1), some ⟨[[(.int .i64 0), (.int .i64 0), (.bool false), (.int .u32 0), (.string ByteArray.empty)]], 5, 29, true⟩), (n5, some ⟨[(cPrt y)], 15, 54, true⟩), (n, some ⟨[(cPrt c)], 15, 54, true⟩), (ja, some (oPrt (q ++ [c]))), (n1, some ⟨[(cPrt x)], 15, 54, true⟩)]) hd (Less.of (fac (mm (fun _ => get_here) (fun _ => get_here)) (fac (mm (fun _ => (get_there (by omega) get_here)) (fun _ => (get_there (by omega) get_here))) (fac (mm (fun _ => (gt2 (by omega) get_here)) (fun _ => (gt3 (by omega) get_here))) (fac (mm (fun _ => (gt3 (by omega) get_here)) (fun _ => (gt5 (by omega) get_here))) (fac (mm (fun _ => (gt4 (by omega) get_here)) (fun _ => (gt6 (by omega) get_here))) fan))))) (gone_of (by simp only [goneP, memP, List.cons_append, List.nil_append, true_or, or_true, true_and, and_true, or_false] <;> omega))) ?_
      refine RA.ret env_ok ?_
      refine ⟨.inr rfl, (xRs46 ja K), (resL_cons rfl (resL_cons (res_cellA rfl rfl rfl get_here rfl rfl rfl) (resL_cons rfl resL_nil))), [(ja, some (oPrt (q ++ [c])))], (Less.of (fac (mm (fun _ => get_here) (fun _ => (gt3 (by omega) get_here))) fan) (gone_of (by simp only [goneP, memP, List.cons_append, List.nil_append, true_or, or_true, true_and, and_true, or_false] <;> omega))), ⟨ja, by omega, by omega, by rfl, rfl⟩⟩
     ·
      refine OA.p (some 54) (.bool false) rfl rfl rfl (Eq.trans (r_bin rfl rfl rfl (b_eql rfl)) (dF hc5)) ?_
      refine OA.p (some 55) (.bool false) rfl rfl rfl rfl ?_
      refine OA.p (some 56) (.bool false) rfl rfl rfl rfl ?_
      refine OA.p (some 57) (.agg ⟨(xRs42 y)⟩) rfl rfl rfl (r_loadA rfl rfl rfl rfl get_here rfl rfl rfl) ?_
      refine OA.p (some 58) (.agg ⟨(xRs43 x)⟩) rfl rfl rfl (r_loadA rfl rfl rfl rfl (gt5 (by omega) get_here) rfl rfl rfl) ?_
      by_cases hc6 : alike y x
      ·
       refine OA.callP (dst := (some 59)) (all := [(.agg ⟨(xRs42 y)⟩), (.agg ⟨(xRs43 x)⟩)]) (v := (.bool true)) (hd.of (by omega) (kb6 (by omega))) rfl rfl rfl rfl rfl rfl rfl rfl (PS.to (sAl y x) (show (.bool (decide (alike y x))) = ((.bool true) : Value) from (by first | (rw [decide_eq_true hc6]; done) | (rw [decide_eq_true hc6]; rfl)))) ?_
       intro n7 hn7
       refine OA.p (some 60) (.bool false) rfl rfl rfl rfl ?_
       refine OA.p (some 61) (.bool false) rfl rfl rfl rfl ?_
       refine OA.nil ?_
       intro _
       refine RA.rebase [(3, (Pt n 0 0)), (5, (.pointer (some ⟨(n + 1), 0, some 0⟩))), (7, (.slice (some ⟨ja, 0, none⟩) (K + 1) 2)), (8, (Pt n1 0 0)), (9, (.int .i64 ((k : Nat) : Int))), (10, (Pt n5 0 0)), (11, (.bool true)), (37, (.bool true)), (61, (.bool false))] ⟨rfl, rfl, rfl, rfl, rfl, rfl, rfl, rfl, rfl, trivial⟩ (fun τr8 => ?_)
       refine RA.condF rfl ?_
       refine RA.skip env_ok ?_
       intro _
       refine RA.region env_ok ?_
       refine OA.p (some 64) (.agg ⟨(xRs42 y)⟩) rfl rfl rfl (r_loadA rfl rfl rfl rfl get_here rfl rfl rfl) ?_
       refine OA.op1 (dst := none) (v := (.tuple #[])) (n1 := n7) (w := (n1, some ⟨[(xRs42 y)], 15, 54, true⟩)) rfl rfl rfl (r_store rfl rfl rfl rfl rfl rfl rfl (gt5 (by omega) get_here) rfl rfl (Nat.le_of_ble_eq_true rfl) rfl) (by omega) ?_
       refine OA.nil ?_
       intro _
       refine RA.weaken (D' := [(n1, some ⟨[(xRs42 y)], 15, 54, true⟩), (n5, some ⟨[(cPrt y)], 15, 54, true⟩), (n, some ⟨[(cPrt c)], 15, 54, true⟩), ((n + 1), some ⟨[[(.int .i64 0), (.int .i64 0), (.bool false), (.int .u32 0), (.string ByteArray.empty)]], 5, 29, true⟩), (ja, some (oPrt (q ++ [c])))]) hd (Less.of (fac (mm (fun _ => get_here) (fun _ => get_here)) (fac (mm (fun _ => (get_there (by omega) get_here)) (fun _ => (get_there (by omega) get_here))) (fac (mm (fun _ => (gt2 (by omega) get_here)) (fun _ => (gt3 (by omega) get_here))) (fac (mm (fun _ => (gt3 (by omega) get_here)) (fun _ => (gt4 (by omega) get_here))) (fac (mm (fun _ => (gt4 (by omega) get_here)) (fun _ => (gt5 (by omega) get_here))) fan))))) (gone_of (by simp only [goneP, memP, List.cons_append, List.nil_append, true_or, or_true, true_and, and_true, or_false] <;> omega))) ?_
       refine RA.region env_ok ?_
       refine OA.p (some 38) (.int .i64 ((k : Nat) : Int)) rfl rfl rfl rfl ?_
       refine OA.p (some 39) (.int .i64 (((k + 1) : Nat) : Int)) rfl rfl rfl (r_bin rfl rfl rfl (b_add (i64_eq (by omega)))) ?_
       refine OA.p (some 9) (.int .i64 (((k + 1) : Nat) : Int)) rfl rfl rfl rfl ?_
       refine OA.nil ?_
       refine ⟨K + 2 - (k + 1), by omega, [(n, some ⟨[(cPrt c)], 15, 54, true⟩), ((n + 1), some ⟨[[(.int .i64 0), (.int .i64 0), (.bool false), (.int .u32 0), (.string ByteArray.empty)]], 5, 29, true⟩), (ja, some (oPrt (q ++ [c]))), (n1, some ⟨[(xRs42 y)], 15, 54, true⟩)], (Less.of (fac (mm (fun _ => get_here) (fun _ => (gt2 (by omega) get_here))) (fac (mm (fun _ => (get_there (by omega) get_here)) (fun _ => (gt3 (by omega) get_here))) (fac (mm (fun _ => (gt2 (by omega) get_here)) (fun _ => (gt4 (by omega) get_here))) (fac (mm (fun _ => (gt3 (by omega) get_here)) (fun _ => get_here)) fan)))) (gone_of (by simp only [goneP, memP, List.cons_append, List.nil_append, true_or, or_true, true_and, and_true, or_false] <;> omega))), ⟨(k + 1), y, rfl, by omega, ⟨rfl, rfl, rfl, rfl, rfl, trivial⟩, (by rfl), (kb4 (by omega)), ⟨by omega, by rw [show K + 2 - (k + 1) = K + 2 - k - 1 from by omega, ← refB_go (by omega) hc3 hy hc5 hc6]; exact hkB, hyd⟩⟩⟩
      ·
       refine OA.callP (dst := (some 59)) (all := [(.agg ⟨(xRs42 y)⟩), (.agg ⟨(xRs43 x)⟩)]) (v := (.bool false)) (hd.of (by omega) (kb6 (by omega))) rfl rfl rfl rfl rfl rfl rfl rfl (PS.to (sAl y x) (show (.bool (decide (alike y x))) = ((.bool false) : Value) from (by first | (rw [decide_eq_false hc6]; done) | (rw [decide_eq_false hc6]; rfl)))) ?_
       intro n9 hn9
       refine OA.p (some 60) (.bool true) rfl rfl rfl rfl ?_
       refine OA.p (some 61) (.bool true) rfl rfl rfl rfl ?_
       refine OA.nil ?_
       intro _
       refine RA.rebase [(3, (Pt n 0 0)), (5, (.pointer (some ⟨(n + 1), 0, some 0⟩))), (7, (.slice (some ⟨ja, 0, none⟩) (K + 1) 2)), (8, (Pt n1 0 0)), (9, (.int .i64 ((k : Nat) : Int))), (10, (Pt n5 0 0)), (11, (.bool true)), (37, (.bool true)), (61, (.bool true))] ⟨rfl, rfl, rfl, rfl, rfl, rfl, rfl, rfl, rfl, trivial⟩ (fun τr10 => ?_)
       refine RA.condT rfl ?_
       refine RA.seq hd ?_
       refine RA.region env_ok ?_
       refine OA.p (some 62) (.slice (some ⟨ja, 0, none⟩) (K + 1) 2) rfl rfl rfl rfl ?_
       refine OA.p (some 63) (.agg ⟨[(.int .i64 0), (.int .i64 0), (.bool false), (.int .u32 0), (.string ByteArray.empty)]⟩) rfl rfl rfl (by kernel_rfl) ?_
       refine OA.p (some 4) (.slice (some ⟨ja, 0, none⟩) (K + 1) 2) rfl rfl rfl rfl ?_
       refine OA.op1 (dst := none) (v := (.tuple #[])) (n1 := n9) (w := ((n + 1), some ⟨[[(.int .i64 0), (.int .i64 0), (.bool false), (.int .u32 0), (.string ByteArray.empty)]], 5, 29, true⟩)) rfl rfl rfl (r_store rfl rfl rfl rfl rfl rfl rfl (gt3 (by omega) get_here) rfl rfl (Nat.le_of_ble_eq_true rfl) rfl) (by omega) ?_
       refine OA.p (some 6) (.bool false) rfl rfl rfl rfl ?_
       refine OA.nil ?_
       intro _
       refine RA.weaken (D' := [((n + 1), some ⟨[[(.int .i64 0), (.int .i64 0), (.bool false), (.int .u32 0), (.string ByteArray.empty)]], 5, 29, true⟩), (n5, some ⟨[(cPrt y)], 15, 54, true⟩), (n, some ⟨[(cPrt c)], 15, 54, true⟩), (ja, some (oPrt (q ++ [c]))), (n1, some ⟨[(cPrt x)], 15, 54, true⟩)]) hd (Less.of (fac (mm (fun _ => get_here) (fun _ => get_here)) (fac (mm (fun _ => (get_there (by omega) get_here)) (fun _ => (get_there (by omega) get_here))) (fac (mm (fun _ => (gt2 (by omega) get_here)) (fun _ => (gt3 (by omega) get_here))) (fac (mm (fun _ => (gt3 (by omega) get_here)) (fun _ => (gt5 (by omega) get_here))) (fac (mm (fun _ => (gt4 (by omega) get_here)) (fun _ => (gt6 (by omega) get_here))) fan))))) (gone_of (by simp only [goneP, memP, List.cons_append, List.nil_append, true_or, or_true, true_and, and_true, or_false] <;> omega))) ?_
       refine RA.ret env_ok ?_
       refine ⟨.inr rfl, (xRs46 ja K), (resL_cons rfl (resL_cons (res_cellA rfl rfl rfl get_here rfl rfl rfl) (resL_cons rfl resL_nil))), [(ja, some (oPrt (q ++ [c])))], (Less.of (fac (mm (fun _ => get_here) (fun _ => (gt3 (by omega) get_here))) fan) (gone_of (by simp only [goneP, memP, List.cons_append, List.nil_append, true_or, or_true, true_and, and_true, or_false] <;> omega))), ⟨ja, by omega, by omega, by rfl, rfl⟩⟩
   ·
    refine OA.p (some 36) (.bool false) rfl rfl rfl (Eq.trans (r_bin rfl rfl rfl (b_eql rfl)) (dF hc3)) ?_
    refine OA.p (some 37) (.bool false) rfl rfl rfl rfl ?_
    refine OA.nil ?_
    intro _
    refine RA.condF rfl ?_
    refine RA.exit env_ok ?_
    have hxs : refB (q ++ [c]) (K + 2 - k) x = some x := refB_stop (.inr hc3)
    have hxp := hxs.symm.trans hkB
    cases hxp
  ·
   refine OA.p (some 30) (.bool false) rfl rfl rfl (Eq.trans (r_bin rfl rfl rfl (b_leq rfl)) (dF hc2)) ?_
   refine OA.p (some 31) (.bool false) rfl rfl rfl rfl ?_
   refine OA.off (dst := (some 32)) rfl rfl rfl ?_
   refine OA.off (dst := (some 33)) rfl rfl rfl ?_
   refine OA.off (dst := (some 34)) rfl rfl rfl ?_
   refine OA.off (dst := (some 35)) rfl rfl rfl ?_
   refine OA.off (dst := (some 36)) rfl rfl rfl ?_
   refine OA.p (some 37) (.bool false) rfl rfl rfl rfl ?_
   refine OA.nil ?_
   intro _
   refine RA.condF rfl ?_
   refine RA.exit env_ok ?_
   have hxs : refB (q ++ [c]) (K + 2 - k) x = some x := refB_stop (.inl (by omega))
   have hxp := hxs.symm.trans hkB
   cases hxp

set_option maxHeartbeats 4000000 in
theorem sRefF {n : Nat} {σ : Store} (hd : Dom n σ) (jv K : Nat) (q : List Prt) (hq : q.length = K) (hK : K ≤ 900) (c : Prt) (hsz : ∀ x ∈ (q ++ [c]), x.data.size ≤ 6) (hsc : c.data.size ≤ 6) (pf : Prt) (hB : refB (q ++ [c]) (K + 2) c = some pf) (hF : refF (q ++ [c]) (K + 2) pf pf.data = none) (hjv : σ jv = some (oPrt q))  : CQ Try.prog noDen 31 [(.slice (some ⟨jv, 0, none⟩) K 2), (.agg ⟨(cPrt c)⟩)] n σ (fun v n' d => ∃ ja, n ≤ ja ∧ ja < n' ∧ v = .tuple #[.slice (some ⟨ja, 0, none⟩) (K + 1) 2, (.agg ⟨[(.int .i64 0), (.int .i64 0), (.bool false), (.int .u32 0), (.string ByteArray.empty)]⟩), .bool false] ∧ d = [(ja, some (oPrt (q ++ [c])))]) := by
 have lhjv := hd.lt hjv
 refine CQ.body (E := env) env_ok hd rfl rfl (by show _ ≤ _; exact of_decide_eq_true (by kernel_rfl)) ?_
 refine RA.seq hd ?_
 refine RA.region env_ok ?_
 refine OA.op1 (dst := (some 3)) (v := (Pt n 0 0)) (n1 := (n + 1)) (w := (n, some ⟨[(cPrt c)], 15, 54, true⟩)) rfl rfl rfl rfl (by omega) ?_
 refine OA.p (some 4) (.slice none 0 0) rfl rfl rfl rfl ?_
 refine OA.op1 (dst := (some 5)) (v := (.pointer (some ⟨(n + 1), 0, some 0⟩))) (n1 := (n + 2)) (w := ((n + 1), some ⟨[[(.int .i64 0), (.int .i64 0), (.bool false), (.int .u32 0), (.string ByteArray.empty)]], 5, 29, true⟩)) rfl rfl rfl rfl (by omega) ?_
 refine OA.p (some 6) (.bool false) rfl rfl rfl rfl ?_
 refine OA.nil ?_
 intro _
 refine RA.seq hd (RA.imp (Q := fun x τ' n' D' => x = .normal ∧ ((∃ ja : Nat, Has τ' [(3, (Pt n 0 0)), (5, (.pointer (some ⟨(n + 1), 0, some 0⟩))), (7, (.slice (some ⟨ja, 0, none⟩) (K + 1) 0))] ∧ (∃ D2, Less n n' D' D2 ∧ D2 = [(n, some ⟨[(cPrt c)], 15, 54, true⟩), ((n + 1), some ⟨[[(.int .i64 0), (.int .i64 0), (.bool false), (.int .u32 0), (.string ByteArray.empty)]], 5, 29, true⟩), (ja, some (oPrt (q ++ [c])))]) ∧ (n + 2) ≤ n' ∧ (∀ i_ ∈ keys [(n, some ⟨[(cPrt c)], 15, 54, true⟩), ((n + 1), some ⟨[[(.int .i64 0), (.int .i64 0), (.bool false), (.int .u32 0), (.string ByteArray.empty)]], 5, 29, true⟩), (ja, some (oPrt (q ++ [c])))], i_ < n') ∧ (n + 1) < ja))) ?_ ?_)
 ·
  refine RA.par (md := [some [], some [], none, some [n], some [], none, some []]) env_ok (hd.of (by omega) (kb2 (by omega))) (by kernel_rfl) ?_
  refine PQ.op (dst := (some 20)) (v := (.slice (some ⟨(n + 2), 0, none⟩) 0 0)) (n1 := (n + 3)) (d1 := [((n + 2), some (oPrt ([] : List Prt)))]) rfl rfl rfl noStore (none_ok _ _) (by kernel_rfl) (by omega) (kp1 (wr_new (by omega) (by omega))) ?_
  refine PQ.pure (dst := (some 21)) (v := (.slice (some ⟨jv, 0, none⟩) K 2)) rfl rfl rfl noStore (none_ok _ _) rfl ?_
  by_cases hc1 : K = 0
  ·
   refine PQ.pure (dst := (some 22)) (v := (.slice (some ⟨(n + 2), 0, none⟩) 0 0)) rfl rfl rfl _ (seen_any (V := [((n + 2), some (oPrt ([] : List Prt)))]) (D := [((n + 1), some ⟨[[(.int .i64 0), (.int .i64 0), (.bool false), (.int .u32 0), (.string ByteArray.empty)]], 5, 29, true⟩), (n, some ⟨[(cPrt c)], 15, 54, true⟩)]) (by kernel_rfl)) (r_appendZ rfl rfl rfl rfl (.inl ⟨_, _, _, rfl, by decide⟩) rfl rfl rfl rfl rfl (by decide) (by omega)) ?_
   refine PQ.pure (dst := (some 23)) (v := (.agg ⟨(xRs41 c)⟩)) rfl rfl rfl (app [(n, some ⟨[(cPrt c)], 15, 54, true⟩)] noStore) (seen_one (V := []) (D := [((n + 1), some ⟨[[(.int .i64 0), (.int .i64 0), (.bool false), (.int .u32 0), (.string ByteArray.empty)]], 5, 29, true⟩), (n, some ⟨[(cPrt c)], 15, 54, true⟩)]) (by kernel_rfl) (get_there (by omega) get_here)) (r_loadA rfl rfl rfl rfl get_here rfl rfl rfl) ?_
   refine PQ.op (dst := (some 24)) (v := (.slice (some ⟨(n + 3), 0, none⟩) 1 0)) (n1 := (n + 4)) (d1 := [((n + 3), some ⟨[(xRs41 c)], 15, 54, true⟩)]) rfl rfl rfl noStore (none_ok _ _) (by kernel_rfl) (by omega) (kp1 (wr_new (by omega) (by omega))) ?_
   refine PQ.op (dst := (some 25)) (v := (.slice (some ⟨(n + 4), 0, none⟩) 1 0)) (n1 := (n + 5)) (d1 := [((n + 4), some (oPrt (q ++ [c]))), ((n + 2), none)]) rfl rfl rfl _ (seen_any (V := [((n + 3), some ⟨[(xRs41 c)], 15, 54, true⟩), ((n + 2), some (oPrt ([] : List Prt)))]) (D := [((n + 1), some ⟨[[(.int .i64 0), (.int .i64 0), (.bool false), (.int .u32 0), (.string ByteArray.empty)]], 5, 29, true⟩), (n, some ⟨[(cPrt c)], 15, 54, true⟩)]) (by kernel_rfl)) (r_appendR (c := cPrt) (l' := (q ++ [c])) rfl rfl rfl rfl rfl rfl rfl rfl rfl rfl (by decide) (get_there (by omega) get_here) get_here (by rw [show ([] : List Prt).length = 0 from rfl]) (by rw [nil_of hq (by omega)]; rfl) (by omega) (of_decide_eq_true (by kernel_rfl)) (by omega)) (by omega) (kp2 (wr_new (by omega) (by omega)) (wr_tight (by kernel_rfl) (by omega))) ?_
   refine PQ.pure (dst := (some 7)) (v := (.slice (some ⟨(n + 4), 0, none⟩) 1 0)) rfl rfl rfl noStore (none_ok _ _) rfl ?_
   refine PQ.done (d := [((n + 4), some (oPrt (q ++ [c]))), ((n + 2), none), ((n + 3), some ⟨[(xRs41 c)], 15, 54, true⟩), ((n + 2), some (oPrt ([] : List Prt)))]) (by kernel_rfl) ?_
   exact ⟨rfl, ⟨(n + 4), ⟨rfl, rfl, (by have hK0 : K = 0 := (by omega); subst hK0; rfl), trivial⟩, ⟨[(n, some ⟨[(cPrt c)], 15, 54, true⟩), ((n + 1), some ⟨[[(.int .i64 0), (.int .i64 0), (.bool false), (.int .u32 0), (.string ByteArray.empty)]], 5, 29, true⟩), ((n + 4), some (oPrt (q ++ [c])))], (Less.of (fac (mm (fun _ => get_here) (fun _ => (gt5 (by omega) get_here))) (fac (mm (fun _ => (get_there (by omega) get_here)) (fun _ => (gt4 (by omega) get_here))) (fac (mm (fun _ => (gt2 (by omega) get_here)) (fun _ => get_here)) fan))) (gone_of (by simp only [goneP, memP, List.cons_append, List.nil_append, true_or, or_true, true_and, and_true, or_false] <;> omega))), rfl⟩, by omega, (kb3 (by omega)), by omega⟩⟩
  ·
   refine PQ.op (dst := (some 22)) (v := (.slice (some ⟨(n + 3), 0, none⟩) K 0)) (n1 := (n + 4)) (d1 := [((n + 3), some (oPrt q)), ((n + 2), none)]) rfl rfl rfl _ (seen_any (V := [((n + 2), some (oPrt ([] : List Prt)))]) (D := [((n + 1), some ⟨[[(.int .i64 0), (.int .i64 0), (.bool false), (.int .u32 0), (.string ByteArray.empty)]], 5, 29, true⟩), (n, some ⟨[(cPrt c)], 15, 54, true⟩)]) (by kernel_rfl)) (r_appendL (c := cPrt) (l' := q) rfl rfl rfl rfl rfl rfl rfl rfl rfl rfl (by decide) get_here (gt3 (by omega) hjv) (by rw [show ([] : List Prt).length = 0 from rfl]) (by omega) (by rw [hq]; omega) (by rw [List.nil_append, take_all' (by rw [hq])]) (by omega) (of_decide_eq_true (by kernel_rfl)) (by omega)) (by omega) (kp2 (wr_new (by omega) (by omega)) (wr_late [3, 4] (by kernel_rfl) (by kernel_rfl) (by omega) 0 (by kernel_rfl) (by simp [keys]) (fac (lo1 rfl (by omega)) (fac (lo0 rfl) fan)))) ?_
   refine PQ.pure (dst := (some 23)) (v := (.agg ⟨(xRs41 c)⟩)) rfl rfl rfl (app [(n, some ⟨[(cPrt c)], 15, 54, true⟩)] noStore) (seen_one (V := []) (D := [((n + 1), some ⟨[[(.int .i64 0), (.int .i64 0), (.bool false), (.int .u32 0), (.string ByteArray.empty)]], 5, 29, true⟩), (n, some ⟨[(cPrt c)], 15, 54, true⟩)]) (by kernel_rfl) (get_there (by omega) get_here)) (r_loadA rfl rfl rfl rfl get_here rfl rfl rfl) ?_
   refine PQ.op (dst := (some 24)) (v := (.slice (some ⟨(n + 4), 0, none⟩) 1 0)) (n1 := (n + 5)) (d1 := [((n + 4), some ⟨[(xRs41 c)], 15, 54, true⟩)]) rfl rfl rfl noStore (none_ok _ _) (by kernel_rfl) (by omega) (kp1 (wr_new (by omega) (by omega))) ?_
   refine PQ.op (dst := (some 25)) (v := (.slice (some ⟨(n + 5), 0, none⟩) (K + 1) 0)) (n1 := (n + 6)) (d1 := [((n + 5), some (oPrt (q ++ [c]))), ((n + 3), none)]) rfl rfl rfl _ (seen_any (V := [((n + 4), some ⟨[(xRs41 c)], 15, 54, true⟩), ((n + 3), some (oPrt q)), ((n + 2), none), ((n + 2), some (oPrt ([] : List Prt)))]) (D := [((n + 1), some ⟨[[(.int .i64 0), (.int .i64 0), (.bool false), (.int .u32 0), (.string ByteArray.empty)]], 5, 29, true⟩), (n, some ⟨[(cPrt c)], 15, 54, true⟩)]) (by kernel_rfl)) (r_appendR (c := cPrt) (l' := (q ++ [c])) rfl rfl rfl rfl rfl rfl rfl rfl rfl rfl (by decide) (get_there (by omega) get_here) get_here (by rw [hq]) (mp_snoc (c := cPrt) (x := c)) (by omega) (of_decide_eq_true (by kernel_rfl)) (by omega)) (by omega) (kp2 (wr_new (by omega) (by omega)) (wr_tight (by kernel_rfl) (by omega))) ?_
   refine PQ.pure (dst := (some 7)) (v := (.slice (some ⟨(n + 5), 0, none⟩) (K + 1) 0)) rfl rfl rfl noStore (none_ok _ _) rfl ?_
   refine PQ.done (d := [((n + 5), some (oPrt (q ++ [c]))), ((n + 3), none), ((n + 4), some ⟨[(xRs41 c)], 15, 54, true⟩), ((n + 3), some (oPrt q)), ((n + 2), none), ((n + 2), some (oPrt ([] : List Prt)))]) (by kernel_rfl) ?_
   exact ⟨rfl, ⟨(n + 5), ⟨rfl, rfl, rfl, trivial⟩, ⟨[(n, some ⟨[(cPrt c)], 15, 54, true⟩), ((n + 1), some ⟨[[(.int .i64 0), (.int .i64 0), (.bool false), (.int .u32 0), (.string ByteArray.empty)]], 5, 29, true⟩), ((n + 5), some (oPrt (q ++ [c])))], (Less.of (fac (mm (fun _ => get_here) (fun _ => (gt7 (by omega) get_here))) (fac (mm (fun _ => (get_there (by omega) get_here)) (fun _ => (gt6 (by omega) get_here))) (fac (mm (fun _ => (gt2 (by omega) get_here)) (fun _ => get_here)) fan))) (gone_of (by simp only [goneP, memP, List.cons_append, List.nil_append, true_or, or_true, true_and, and_true, or_false] <;> omega))), rfl⟩, by omega, (kb3 (by omega)), by omega⟩⟩
 ·
  rintro _ τ1 n1 Dn1 hmn1 ⟨rfl, hSn1⟩
  rcases hSn1 with ⟨ja, hHn1, ⟨_, hLn1, rfl⟩, hn1, hKn1, hIn1⟩
  intro _
  refine RA.weaken hd hLn1 ?_
  rw [Has.eq hHn1]
  have hKn1_0 : n < n1 := hKn1 _ (by simp only [keys, List.map_cons, List.map_nil, List.mem_cons, true_or, or_true])
  have hKn1_1 : (n + 1) < n1 := hKn1 _ (by simp only [keys, List.map_cons, List.map_nil, List.mem_cons, true_or, or_true])
  have hKn1_2 : ja < n1 := hKn1 _ (by simp only [keys, List.map_cons, List.map_nil, List.mem_cons, true_or, or_true])
  clear hKn1
  have hja := hIn1
  have hsa : ∀ x ∈ (q ++ [c]), x.data.size ≤ 6 := hsz
  refine RA.seq hd ?_
  refine RA.region env_ok ?_
  refine OA.p (some 26) (.agg ⟨(xRs41 c)⟩) rfl rfl rfl (r_loadA rfl rfl rfl rfl get_here rfl rfl rfl) ?_
  refine OA.op1 (dst := (some 8)) (v := (Pt n1 0 0)) (n1 := (n1 + 1)) (w := (n1, some ⟨[xRs45], 15, 54, true⟩)) rfl rfl rfl rfl (by omega) ?_
  refine OA.op1 (dst := none) (v := (.tuple #[])) (n1 := (n1 + 1)) (w := (n1, some ⟨[(xRs41 c)], 15, 54, true⟩)) rfl rfl rfl (r_store rfl rfl rfl rfl rfl rfl rfl get_here rfl rfl (Nat.le_of_ble_eq_true rfl) rfl) (by omega) ?_
  refine OA.nil ?_
  intro _
  refine RA.leT (t := 7) (v := (.slice (some ⟨ja, 0, none⟩) (K + 1) 0)) (v' := (.slice (some ⟨ja, 0, none⟩) (K + 1) 2)) rfl (vle_row _ _ _) ?_
  refine RA.weaken (D' := [(n1, some ⟨[(xRs41 c)], 15, 54, true⟩), (n, some ⟨[(cPrt c)], 15, 54, true⟩), ((n + 1), some ⟨[[(.int .i64 0), (.int .i64 0), (.bool false), (.int .u32 0), (.string ByteArray.empty)]], 5, 29, true⟩), (ja, some (oPrt (q ++ [c])))]) hd (Less.of (fac (mm (fun _ => get_here) (fun _ => get_here)) (fac (mm (fun _ => (get_there (by omega) get_here)) (fun _ => (gt2 (by omega) get_here))) (fac (mm (fun _ => (gt2 (by omega) get_here)) (fun _ => (gt3 (by omega) get_here))) (fac (mm (fun _ => (gt3 (by omega) get_here)) (fun _ => (gt4 (by omega) get_here))) fan)))) (gone_of (by simp only [goneP, memP, List.cons_append, List.nil_append, true_or, or_true, true_and, and_true, or_false] <;> omega))) ?_
  refine RA.seq hd ?_
  refine RA.seq hd ?_
  refine RA.region env_ok ?_
  refine OA.p (some 9) (.int .i64 0) rfl rfl rfl rfl ?_
  refine OA.nil ?_
  intro _
  refine RA.block ?_
  refine RA.weaken (D' := [(n, some ⟨[(cPrt c)], 15, 54, true⟩), ((n + 1), some ⟨[[(.int .i64 0), (.int .i64 0), (.bool false), (.int .u32 0), (.string ByteArray.empty)]], 5, 29, true⟩), (ja, some (oPrt (q ++ [c]))), (n1, some ⟨[(xRs41 c)], 15, 54, true⟩)]) hd (Less.of (fac (mm (fun _ => get_here) (fun _ => (get_there (by omega) get_here))) (fac (mm (fun _ => (get_there (by omega) get_here)) (fun _ => (gt2 (by omega) get_here))) (fac (mm (fun _ => (gt2 (by omega) get_here)) (fun _ => (gt3 (by omega) get_here))) (fac (mm (fun _ => (gt3 (by omega) get_here)) (fun _ => get_here)) fan)))) (gone_of (by simp only [goneP, memP, List.cons_append, List.nil_append, true_or, or_true, true_and, and_true, or_false] <;> omega))) ?_
  refine RA.loop hd (fun kk_ τ n' D => (∃ k : Nat, ∃ x : Prt, kk_ = K + 2 - k ∧ (n1 + 1) ≤ n' ∧ Has τ [(3, (Pt n 0 0)), (5, (.pointer (some ⟨(n + 1), 0, some 0⟩))), (7, (.slice (some ⟨ja, 0, none⟩) (K + 1) 2)), (8, (Pt n1 0 0)), (9, (.int .i64 ((k : Nat) : Int)))] ∧ D = [(n, some ⟨[(cPrt c)], 15, 54, true⟩), ((n + 1), some ⟨[[(.int .i64 0), (.int .i64 0), (.bool false), (.int .u32 0), (.string ByteArray.empty)]], 5, 29, true⟩), (ja, some (oPrt (q ++ [c]))), (n1, some ⟨[(cPrt x)], 15, 54, true⟩)] ∧ (∀ i ∈ keys D, i < n') ∧ k ≤ K + 2 ∧ refB (q ++ [c]) (K + 2 - k) x = some pf ∧ x.data.size ≤ 6)) (K + 2 - 0) (⟨0, c, rfl, by omega, ⟨rfl, rfl, rfl, rfl, rfl, trivial⟩, (by rfl), (kb4 (by omega)), ⟨by omega, hB, hsc⟩⟩) ?_
  rintro kn2 τ2 n2 _ ⟨k, x, rfl, hn2, hHn2, rfl, hKn2, hIn2⟩
  rw [Has.eq hHn2]
  have hKn2_0 : n < n2 := hKn2 _ (by simp only [keys, List.map_cons, List.map_nil, List.mem_cons, true_or, or_true])
  have hKn2_1 : (n + 1) < n2 := hKn2 _ (by simp only [keys, List.map_cons, List.map_nil, List.mem_cons, true_or, or_true])
  have hKn2_2 : ja < n2 := hKn2 _ (by simp only [keys, List.map_cons, List.map_nil, List.mem_cons, true_or, or_true])
  have hKn2_3 : n1 < n2 := hKn2 _ (by simp only [keys, List.map_cons, List.map_nil, List.mem_cons, true_or, or_true])
  clear hKn2
  obtain ⟨hk1, hkB, hxd⟩ := hIn2
  refine RA.seq hd ?_
  refine RA.seq hd ?_
  refine RA.region env_ok ?_
  refine OA.p (some 27) (.int .i64 ((k : Nat) : Int)) rfl rfl rfl rfl ?_
  refine OA.p (some 28) (.slice (some ⟨ja, 0, none⟩) (K + 1) 2) rfl rfl rfl rfl ?_
  refine OA.p (some 29) (.int .i64 (((K + 1) : Nat) : Int)) rfl rfl rfl rfl ?_
  by_cases hc2 : ((k : Nat) : Int) ≤ (((K + 1) : Nat) : Int)
  ·
   refine OA.p (some 30) (.bool true) rfl rfl rfl (Eq.trans (r_bin rfl rfl rfl (b_leq rfl)) (dT hc2)) ?_
   refine OA.p (some 31) (.bool true) rfl rfl rfl rfl ?_
   refine OA.p (some 32) (Pt n1 0 1) rfl rfl rfl rfl ?_
   refine OA.p (some 33) (.int .i64 ((x.fl.val : Nat) : Int)) rfl rfl rfl (r_load1 rfl rfl rfl rfl rfl (gt3 (by omega) get_here) rfl rfl) ?_
   refine OA.p (some 34) (.int .i64 (((x.fl.val / 2) : Nat) : Int)) rfl rfl rfl (r_bin rfl rfl rfl (b_quoN (a := x.fl.val) (c := 2) (by decide) (i64_eq (by omega)))) ?_
   refine OA.p (some 35) (.int .i64 ((((x.fl.val / 2) % 2) : Nat) : Int)) rfl rfl rfl (r_bin rfl rfl rfl (b_remN (a := (x.fl.val / 2)) (c := 2) (by decide))) ?_
   by_cases hc3 : ((((x.fl.val / 2) % 2) : Nat) : Int) = 0
   ·
    refine OA.p (some 36) (.bool true) rfl rfl rfl (Eq.trans (r_bin rfl rfl rfl (b_eql rfl)) (dT hc3)) ?_
    refine OA.p (some 37) (.bool true) rfl rfl rfl rfl ?_
    refine OA.nil ?_
    intro _
    refine RA.condT rfl ?_
    refine RA.skip env_ok ?_
    intro _
    refine RA.seq hd ?_
    refine RA.block ?_
    refine RA.seq hd ?_
    refine RA.region env_ok ?_
    refine OA.p (some 41) (.slice (some ⟨ja, 0, none⟩) (K + 1) 2) rfl rfl rfl rfl ?_
    refine OA.p (some 42) (Pt n1 0 2) rfl rfl rfl rfl ?_
    refine OA.p (some 43) (W x.tsn) rfl rfl rfl (r_load1 rfl rfl rfl rfl rfl (gt3 (by omega) get_here) rfl rfl) ?_
    refine OA.p (some 44) (W (x.tsn - (1#32))) rfl rfl rfl (r_bin rfl rfl rfl (b_subW x.tsn (1#32))) ?_
    by_cases hc4 : atL (q ++ [c]) (x.tsn - (1#32)) = none
    ·
     refine OA.callP (dst := (some 45)) (all := [(.slice (some ⟨ja, 0, none⟩) (K + 1) 2), (W (x.tsn - (1#32)))]) (v := (.tuple ⟨[(.agg ⟨xRs45⟩), (.bool false)]⟩)) (hd.of (by omega) (kb4 (by omega))) rfl rfl rfl rfl rfl rfl rfl rfl (PS.to (sAt ja (K + 1) (q ++ [c]) (show (q ++ [c]).length = K + 1 from by rw [List.length_append, hq]; rfl) (by omega) (x.tsn - (1#32)) (gt2 (by omega) get_here)) (by rw [hc4]; rfl)) ?_
     intro n3 hn3
     refine OA.p (some 40) (.tuple ⟨[(.agg ⟨xRs45⟩), (.bool false)]⟩) rfl rfl rfl rfl ?_
     refine OA.p (some 46) (.agg ⟨xRs45⟩) rfl rfl rfl rfl ?_
     refine OA.p (some 47) (.bool false) rfl rfl rfl rfl ?_
     refine OA.op1 (dst := (some 10)) (v := (Pt n3 0 0)) (n1 := (n3 + 1)) (w := (n3, some ⟨[xRs45], 15, 54, true⟩)) rfl rfl rfl rfl (by omega) ?_
     refine OA.op1 (dst := none) (v := (.tuple #[])) (n1 := (n3 + 1)) (w := (n3, some ⟨[xRs45], 15, 54, true⟩)) rfl rfl rfl (r_store rfl rfl rfl rfl rfl rfl rfl get_here rfl rfl (Nat.le_of_ble_eq_true rfl) rfl) (by omega) ?_
     refine OA.p (some 11) (.bool false) rfl rfl rfl rfl ?_
     refine OA.nil ?_
     intro _
     refine RA.weaken (D' := [(n3, some ⟨[xRs45], 15, 54, true⟩), (n, some ⟨[(cPrt c)], 15, 54, true⟩), ((n + 1), some ⟨[[(.int .i64 0), (.int .i64 0), (.bool false), (.int .u32 0), (.string ByteArray.empty)]], 5, 29, true⟩), (ja, some (oPrt (q ++ [c]))), (n1, some ⟨[(cPrt x)], 15, 54, true⟩)]) hd (Less.of (fac (mm (fun _ => get_here) (fun _ => get_here)) (fac (mm (fun _ => (get_there (by omega) get_here)) (fun _ => (gt2 (by omega) get_here))) (fac (mm (fun _ => (gt2 (by omega) get_here)) (fun _ => (gt3 (by omega) get_here))) (fac (mm (fun _ => (gt3 (by omega) get_here)) (fun _ => (gt4 (by omega) get_here))) (fac (mm (fun _ => (gt4 (by omega) get_here)) (fun _ => (gt5 (by omega) get_here))) fan))))) (gone_of (by simp only [goneP, memP, List.cons_append, List.nil_append, true_or, or_true, true_and, and_true, or_false] <;> omega))) ?_
     refine RA.seq hd ?_
     refine RA.seq hd ?_
     refine RA.region env_ok ?_
     refine OA.p (some 48) (.bool false) rfl rfl rfl rfl ?_
     refine OA.p (some 49) (.bool true) rfl rfl rfl rfl ?_
     refine OA.p (some 50) (.bool true) rfl rfl rfl rfl ?_
     refine OA.off (dst := (some 51)) rfl rfl rfl ?_
     refine OA.off (dst := (some 52)) rfl rfl rfl ?_
     refine OA.off (dst := (some 53)) rfl rfl rfl ?_
     refine OA.off (dst := (some 54)) rfl rfl rfl ?_
     refine OA.p (some 55) (.bool true) rfl rfl rfl rfl ?_
     refine OA.p (some 56) (.bool true) rfl rfl rfl rfl ?_
     refine OA.off (dst := (some 57)) rfl rfl rfl ?_
     refine OA.off (dst := (some 58)) rfl rfl rfl ?_
     refine OA.off (dst := (some 59)) rfl rfl rfl ?_
     refine OA.off (dst := (some 60)) rfl rfl rfl ?_
     refine OA.p (some 61) (.bool true) rfl rfl rfl rfl ?_
     refine OA.nil ?_
     intro _
     refine RA.rebase [(3, (Pt n 0 0)), (5, (.pointer (some ⟨(n + 1), 0, some 0⟩))), (7, (.slice (some ⟨ja, 0, none⟩) (K + 1) 2)), (8, (Pt n1 0 0)), (9, (.int .i64 ((k : Nat) : Int))), (10, (Pt n3 0 0)), (11, (.bool false)), (37, (.bool true)), (61, (.bool true))] ⟨rfl, rfl, rfl, rfl, rfl, rfl, rfl, rfl, rfl, trivial⟩ (fun τr4 => ?_)
     refine RA.condT rfl ?_
     refine RA.seq hd ?_
     refine RA.region env_ok ?_
     refine OA.p (some 62) (.slice (some ⟨ja, 0, none⟩) (K + 1) 2) rfl rfl rfl rfl ?_
     refine OA.p (some 63) (.agg ⟨[(.int .i64 0), (.int .i64 0), (.bool false), (.int .u32 0), (.string ByteArray.empty)]⟩) rfl rfl rfl (by kernel_rfl) ?_
     refine OA.p (some 4) (.slice (some ⟨ja, 0, none⟩) (K + 1) 2) rfl rfl rfl rfl ?_
     refine OA.op1 (dst := none) (v := (.tuple #[])) (n1 := (n3 + 1)) (w := ((n + 1), some ⟨[[(.int .i64 0), (.int .i64 0), (.bool false), (.int .u32 0), (.string ByteArray.empty)]], 5, 29, true⟩)) rfl rfl rfl (r_store rfl rfl rfl rfl rfl rfl rfl (gt2 (by omega) get_here) rfl rfl (Nat.le_of_ble_eq_true rfl) rfl) (by omega) ?_
     refine OA.p (some 6) (.bool false) rfl rfl rfl rfl ?_
     refine OA.nil ?_
     intro _
     refine RA.weaken (D' := [((n + 1), some ⟨[[(.int .i64 0), (.int .i64 0), (.bool false), (.int .u32 0), (.string ByteArray.empty)]], 5, 29, true⟩), (n3, some ⟨[xRs45], 15, 54, true⟩), (n, some ⟨[(cPrt c)], 15, 54, true⟩), (ja, some (oPrt (q ++ [c]))), (n1, some ⟨[(cPrt x)], 15, 54, true⟩)]) hd (Less.of (fac (mm (fun _ => get_here) (fun _ => get_here)) (fac (mm (fun _ => (get_there (by omega) get_here)) (fun _ => (get_there (by omega) get_here))) (fac (mm (fun _ => (gt2 (by omega) get_here)) (fun _ => (gt2 (by omega) get_here))) (fac (mm (fun _ => (gt3 (by omega) get_here)) (fun _ => (gt4 (by omega) get_here))) (fac (mm (fun _ => (gt4 (by omega) get_here)) (fun _ => (gt5 (by omega) get_here))) fan))))) (gone_of (by simp only [goneP, memP, List.cons_append, List.nil_append, true_or, or_true, true_and, and_true, or_false] <;> omega))) ?_
     refine RA.ret env_ok ?_
     refine ⟨.inr rfl, (xRs46 ja K), (resL_cons rfl (resL_cons (res_cellA rfl rfl rfl get_here rfl rfl rfl) (resL_cons rfl resL_nil))), [(ja, some (oPrt (q ++ [c])))], (Less.of (fac (mm (fun _ => get_here) (fun _ => (gt3 (by omega) get_here))) fan) (gone_of (by simp only [goneP, memP, List.cons_append, List.nil_append, true_or, or_true, true_and, and_true, or_false] <;> omega))), ⟨ja, by omega, by omega, by rfl, rfl⟩⟩
    ·
     obtain ⟨y, hy⟩ := Option.ne_none_iff_exists'.1 hc4
     have hyd := hsz y (at_in hy)
     refine OA.callP (dst := (some 45)) (all := [(.slice (some ⟨ja, 0, none⟩) (K + 1) 2), (W (x.tsn - (1#32)))]) (v := (.tuple ⟨[(.agg ⟨(cPrt y)⟩), (.bool true)]⟩)) (hd.of (by omega) (kb4 (by omega))) rfl rfl rfl rfl rfl rfl rfl rfl (PS.to (sAt ja (K + 1) (q ++ [c]) (show (q ++ [c]).length = K + 1 from by rw [List.length_append, hq]; rfl) (by omega) (x.tsn - (1#32)) (gt2 (by omega) get_here)) (by rw [hy]; rfl)) ?_
     intro n5 hn5
     refine OA.p (some 40) (.tuple ⟨[(.agg ⟨(cPrt y)⟩), (.bool true)]⟩) rfl rfl rfl rfl ?_
     refine OA.p (some 46) (.agg ⟨(cPrt y)⟩) rfl rfl rfl rfl ?_
     refine OA.p (some 47) (.bool true) rfl rfl rfl rfl ?_
     refine OA.op1 (dst := (some 10)) (v := (Pt n5 0 0)) (n1 := (n5 + 1)) (w := (n5, some ⟨[xRs45], 15, 54, true⟩)) rfl rfl rfl rfl (by omega) ?_
     refine OA.op1 (dst := none) (v := (.tuple #[])) (n1 := (n5 + 1)) (w := (n5, some ⟨[(cPrt y)], 15, 54, true⟩)) rfl rfl rfl (r_store rfl rfl rfl rfl rfl rfl rfl get_here rfl rfl (Nat.le_of_ble_eq_true rfl) rfl) (by omega) ?_
     refine OA.p (some 11) (.bool true) rfl rfl rfl rfl ?_
     refine OA.nil ?_
     intro _
     refine RA.seq hd ?_
     refine RA.seq hd ?_
     refine RA.region env_ok ?_
     refine OA.p (some 48) (.bool true) rfl rfl rfl rfl ?_
     refine OA.p (some 49) (.bool false) rfl rfl rfl rfl ?_
     refine OA.p (some 50) (.bool false) rfl rfl rfl rfl ?_
     refine OA.p (some 51) (Pt n5 0 1) rfl rfl rfl rfl ?_
     refine OA.p (some 52) (.int .i64 ((y.fl.val : Nat) : Int)) rfl rfl rfl (r_load1 rfl rfl rfl rfl rfl get_here rfl rfl) ?_
     refine OA.p (some 53) (.int .i64 (((y.fl.val % 2) : Nat) : Int)) rfl rfl rfl (r_bin rfl rfl rfl (b_remN (a := y.fl.val) (c := 2) (by decide))) ?_
     by_cases hc5 : (((y.fl.val % 2) : Nat) : Int) = 1
     ·
      refine OA.p (some 54) (.bool true) rfl rfl rfl (Eq.trans (r_bin rfl rfl rfl (b_eql rfl)) (dT hc5)) ?_
      refine OA.p (some 55) (.bool true) rfl rfl rfl rfl ?_
      refine OA.p (some 56) (.bool true) rfl rfl rfl rfl ?_
      refine OA.off (dst := (some 57)) rfl rfl rfl ?_
      refine OA.off (dst := (some 58)) rfl rfl rfl ?_
      refine OA.off (dst := (some 59)) rfl rfl rfl ?_
      refine OA.off (dst := (some 60)) rfl rfl rfl ?_
      refine OA.p (some 61) (.bool true) rfl rfl rfl rfl ?_
      refine OA.nil ?_
      intro _
      refine RA.rebase [(3, (Pt n 0 0)), (5, (.pointer (some ⟨(n + 1), 0, some 0⟩))), (7, (.slice (some ⟨ja, 0, none⟩) (K + 1) 2)), (8, (Pt n1 0 0)), (9, (.int .i64 ((k : Nat) : Int))), (10, (Pt n5 0 0)), (11, (.bool true)), (37, (.bool true)), (61, (.bool true))] ⟨rfl, rfl, rfl, rfl, rfl, rfl, rfl, rfl, rfl, trivial⟩ (fun τr6 => ?_)
      refine RA.condT rfl ?_
      refine RA.seq hd ?_
      refine RA.region env_ok ?_
      refine OA.p (some 62) (.slice (some ⟨ja, 0, none⟩) (K + 1) 2) rfl rfl rfl rfl ?_
      refine OA.p (some 63) (.agg ⟨[(.int .i64 0), (.int .i64 0), (.bool false), (.int .u32 0), (.string ByteArray.empty)]⟩) rfl rfl rfl (by kernel_rfl) ?_
      refine OA.p (some 4) (.slice (some ⟨ja, 0, none⟩) (K + 1) 2) rfl rfl rfl rfl ?_
      refine OA.op1 (dst := none) (v := (.tuple #[])) (n1 := (n5 + 1)) (w := ((n + 1), some ⟨[[(.int .i64 0), (.int .i64 0), (.bool false), (.int .u32 0), (.string ByteArray.empty)]], 5, 29, true⟩)) rfl rfl rfl (r_store rfl rfl rfl rfl rfl rfl rfl (gt3 (by omega) get_here) rfl rfl (Nat.le_of_ble_eq_true rfl) rfl) (by omega) ?_
      refine OA.p (some 6) (.bool false) rfl rfl rfl rfl ?_
      refine OA.nil ?_
      intro _
      refine RA.weaken (D' := [((n + 1), some ⟨[[(.int .i64 0), (.int .i64 0), (.bool false), (.int .u32 0), (.string ByteArray.empty)]], 5, 29, true⟩), (n5, some ⟨[(cPrt y)], 15, 54, true⟩), (n, some ⟨[(cPrt c)], 15, 54, true⟩), (ja, some (oPrt (q ++ [c]))), (n1, some ⟨[(cPrt x)], 15, 54, true⟩)]) hd (Less.of (fac (mm (fun _ => get_here) (fun _ => get_here)) (fac (mm (fun _ => (get_there (by omega) get_here)) (fun _ => (get_there (by omega) get_here))) (fac (mm (fun _ => (gt2 (by omega) get_here)) (fun _ => (gt3 (by omega) get_here))) (fac (mm (fun _ => (gt3 (by omega) get_here)) (fun _ => (gt5 (by omega) get_here))) (fac (mm (fun _ => (gt4 (by omega) get_here)) (fun _ => (gt6 (by omega) get_here))) fan))))) (gone_of (by simp only [goneP, memP, List.cons_append, List.nil_append, true_or, or_true, true_and, and_true, or_false] <;> omega))) ?_
      refine RA.ret env_ok ?_
      refine ⟨.inr rfl, (xRs46 ja K), (resL_cons rfl (resL_cons (res_cellA rfl rfl rfl get_here rfl rfl rfl) (resL_cons rfl resL_nil))), [(ja, some (oPrt (q ++ [c])))], (Less.of (fac (mm (fun _ => get_here) (fun _ => (gt3 (by omega) get_here))) fan) (gone_of (by simp only [goneP, memP, List.cons_append, List.nil_append, true_or, or_true, true_and, and_true, or_false] <;> omega))), ⟨ja, by omega, by omega, by rfl, rfl⟩⟩
     ·
      refine OA.p (some 54) (.bool false) rfl rfl rfl (Eq.trans (r_bin rfl rfl rfl (b_eql rfl)) (dF hc5)) ?_
      refine OA.p (some 55) (.bool false) rfl rfl rfl rfl ?_
      refine OA.p (some 56) (.bool false) rfl rfl rfl rfl ?_
      refine OA.p (some 57) (.agg ⟨(xRs42 y)⟩) rfl rfl rfl (r_loadA rfl rfl rfl rfl get_here rfl rfl rfl) ?_
      refine OA.p (some 58) (.agg ⟨(xRs43 x)⟩) rfl rfl rfl (r_loadA rfl rfl rfl rfl (gt5 (by omega) get_here) rfl rfl rfl) ?_
      by_cases hc6 : alike y x
      ·
       refine OA.callP (dst := (some 59)) (all := [(.agg ⟨(xRs42 y)⟩), (.agg ⟨(xRs43 x)⟩)]) (v := (.bool true)) (hd.of (by omega) (kb6 (by omega))) rfl rfl rfl rfl rfl rfl rfl rfl (PS.to (sAl y x) (show (.bool (decide (alike y x))) = ((.bool true) : Value) from (by first | (rw [decide_eq_true hc6]; done) | (rw [decide_eq_true hc6]; rfl)))) ?_
       intro n7 hn7
       refine OA.p (some 60) (.bool false) rfl rfl rfl rfl ?_
       refine OA.p (some 61) (.bool false) rfl rfl rfl rfl ?_
       refine OA.nil ?_
       intro _
       refine RA.rebase [(3, (Pt n 0 0)), (5, (.pointer (some ⟨(n + 1), 0, some 0⟩))), (7, (.slice (some ⟨ja, 0, none⟩) (K + 1) 2)), (8, (Pt n1 0 0)), (9, (.int .i64 ((k : Nat) : Int))), (10, (Pt n5 0 0)), (11, (.bool true)), (37, (.bool true)), (61, (.bool false))] ⟨rfl, rfl, rfl, rfl, rfl, rfl, rfl, rfl, rfl, trivial⟩ (fun τr8 => ?_)
       refine RA.condF rfl ?_
       refine RA.skip env_ok ?_
       intro _
       refine RA.region env_ok ?_
       refine OA.p (some 64) (.agg ⟨(xRs42 y)⟩) rfl rfl rfl (r_loadA rfl rfl rfl rfl get_here rfl rfl rfl) ?_
       refine OA.op1 (dst := none) (v := (.tuple #[])) (n1 := n7) (w := (n1, some ⟨[(xRs42 y)], 15, 54, true⟩)) rfl rfl rfl (r_store rfl rfl rfl rfl rfl rfl rfl (gt5 (by omega) get_here) rfl rfl (Nat.le_of_ble_eq_true rfl) rfl) (by omega) ?_
       refine OA.nil ?_
       intro _
       refine RA.weaken (D' := [(n1, some ⟨[(xRs42 y)], 15, 54, true⟩), (n5, some ⟨[(cPrt y)], 15, 54, true⟩), (n, some ⟨[(cPrt c)], 15, 54, true⟩), ((n + 1), some ⟨[[(.int .i64 0), (.int .i64 0), (.bool false), (.int .u32 0), (.string ByteArray.empty)]], 5, 29, true⟩), (ja, some (oPrt (q ++ [c])))]) hd (Less.of (fac (mm (fun _ => get_here) (fun _ => get_here)) (fac (mm (fun _ => (get_there (by omega) get_here)) (fun _ => (get_there (by omega) get_here))) (fac (mm (fun _ => (gt2 (by omega) get_here)) (fun _ => (gt3 (by omega) get_here))) (fac (mm (fun _ => (gt3 (by omega) get_here)) (fun _ => (gt4 (by omega) get_here))) (fac (mm (fun _ => (gt4 (by omega) get_here)) (fun _ => (gt5 (by omega) get_here))) fan))))) (gone_of (by simp only [goneP, memP, List.cons_append, List.nil_append, true_or, or_true, true_and, and_true, or_false] <;> omega))) ?_
       refine RA.region env_ok ?_
       refine OA.p (some 38) (.int .i64 ((k : Nat) : Int)) rfl rfl rfl rfl ?_
       refine OA.p (some 39) (.int .i64 (((k + 1) : Nat) : Int)) rfl rfl rfl (r_bin rfl rfl rfl (b_add (i64_eq (by omega)))) ?_
       refine OA.p (some 9) (.int .i64 (((k + 1) : Nat) : Int)) rfl rfl rfl rfl ?_
       refine OA.nil ?_
       refine ⟨K + 2 - (k + 1), by omega, [(n, some ⟨[(cPrt c)], 15, 54, true⟩), ((n + 1), some ⟨[[(.int .i64 0), (.int .i64 0), (.bool false), (.int .u32 0), (.string ByteArray.empty)]], 5, 29, true⟩), (ja, some (oPrt (q ++ [c]))), (n1, some ⟨[(xRs42 y)], 15, 54, true⟩)], (Less.of (fac (mm (fun _ => get_here) (fun _ => (gt2 (by omega) get_here))) (fac (mm (fun _ => (get_there (by omega) get_here)) (fun _ => (gt3 (by omega) get_here))) (fac (mm (fun _ => (gt2 (by omega) get_here)) (fun _ => (gt4 (by omega) get_here))) (fac (mm (fun _ => (gt3 (by omega) get_here)) (fun _ => get_here)) fan)))) (gone_of (by simp only [goneP, memP, List.cons_append, List.nil_append, true_or, or_true, true_and, and_true, or_false] <;> omega))), ⟨(k + 1), y, rfl, by omega, ⟨rfl, rfl, rfl, rfl, rfl, trivial⟩, (by rfl), (kb4 (by omega)), ⟨by omega, by rw [show K + 2 - (k + 1) = K + 2 - k - 1 from by omega, ← refB_go (by omega) hc3 hy hc5 hc6]; exact hkB, hyd⟩⟩⟩
      ·
       refine OA.callP (dst := (some 59)) (all := [(.agg ⟨(xRs42 y)⟩), (.agg ⟨(xRs43 x)⟩)]) (v := (.bool false)) (hd.of (by omega) (kb6 (by omega))) rfl rfl rfl rfl rfl rfl rfl rfl (PS.to (sAl y x) (show (.bool (decide (alike y x))) = ((.bool false) : Value) from (by first | (rw [decide_eq_false hc6]; done) | (rw [decide_eq_false hc6]; rfl)))) ?_
       intro n9 hn9
       refine OA.p (some 60) (.bool true) rfl rfl rfl rfl ?_
       refine OA.p (some 61) (.bool true) rfl rfl rfl rfl ?_
       refine OA.nil ?_
       intro _
       refine RA.rebase [(3, (Pt n 0 0)), (5, (.pointer (some ⟨(n + 1), 0, some 0⟩))), (7, (.slice (some ⟨ja, 0, none⟩) (K + 1) 2)), (8, (Pt n1 0 0)), (9, (.int .i64 ((k : Nat) : Int))), (10, (Pt n5 0 0)), (11, (.bool true)), (37, (.bool true)), (61, (.bool true))] ⟨rfl, rfl, rfl, rfl, rfl, rfl, rfl, rfl, rfl, trivial⟩ (fun τr10 => ?_)
       refine RA.condT rfl ?_
       refine RA.seq hd ?_
       refine RA.region env_ok ?_
       refine OA.p (some 62) (.slice (some ⟨ja, 0, none⟩) (K + 1) 2) rfl rfl rfl rfl ?_
       refine OA.p (some 63) (.agg ⟨[(.int .i64 0), (.int .i64 0), (.bool false), (.int .u32 0), (.string ByteArray.empty)]⟩) rfl rfl rfl (by kernel_rfl) ?_
       refine OA.p (some 4) (.slice (some ⟨ja, 0, none⟩) (K + 1) 2) rfl rfl rfl rfl ?_
       refine OA.op1 (dst := none) (v := (.tuple #[])) (n1 := n9) (w := ((n + 1), some ⟨[[(.int .i64 0), (.int .i64 0), (.bool false), (.int .u32 0), (.string ByteArray.empty)]], 5, 29, true⟩)) rfl rfl rfl (r_store rfl rfl rfl rfl rfl rfl rfl (gt3 (by omega) get_here) rfl rfl (Nat.le_of_ble_eq_true rfl) rfl) (by omega) ?_
       refine OA.p (some 6) (.bool false) rfl rfl rfl rfl ?_
       refine OA.nil ?_
       intro _
       refine RA.weaken (D' := [((n + 1), some ⟨[[(.int .i64 0), (.int .i64 0), (.bool false), (.int .u32 0), (.string ByteArray.empty)]], 5, 29, true⟩), (n5, some ⟨[(cPrt y)], 15, 54, true⟩), (n, some ⟨[(cPrt c)], 15, 54, true⟩), (ja, some (oPrt (q ++ [c]))), (n1, some ⟨[(cPrt x)], 15, 54, true⟩)]) hd (Less.of (fac (mm (fun _ => get_here) (fun _ => get_here)) (fac (mm (fun _ => (get_there (by omega) get_here)) (fun _ => (get_there (by omega) get_here))) (fac (mm (fun _ => (gt2 (by omega) get_here)) (fun _ => (gt3 (by omega) get_here))) (fac (mm (fun _ => (gt3 (by omega) get_here)) (fun _ => (gt5 (by omega) get_here))) (fac (mm (fun _ => (gt4 (by omega) get_here)) (fun _ => (gt6 (by omega) get_here))) fan))))) (gone_of (by simp only [goneP, memP, List.cons_append, List.nil_append, true_or, or_true, true_and, and_true, or_false] <;> omega))) ?_
       refine RA.ret env_ok ?_
       refine ⟨.inr rfl, (xRs46 ja K), (resL_cons rfl (resL_cons (res_cellA rfl rfl rfl get_here rfl rfl rfl) (resL_cons rfl resL_nil))), [(ja, some (oPrt (q ++ [c])))], (Less.of (fac (mm (fun _ => get_here) (fun _ => (gt3 (by omega) get_here))) fan) (gone_of (by simp only [goneP, memP, List.cons_append, List.nil_append, true_or, or_true, true_and, and_true, or_false] <;> omega))), ⟨ja, by omega, by omega, by rfl, rfl⟩⟩
   ·
    refine OA.p (some 36) (.bool false) rfl rfl rfl (Eq.trans (r_bin rfl rfl rfl (b_eql rfl)) (dF hc3)) ?_
    refine OA.p (some 37) (.bool false) rfl rfl rfl rfl ?_
    refine OA.nil ?_
    intro _
    refine RA.condF rfl ?_
    refine RA.exit env_ok ?_
    have hxs : refB (q ++ [c]) (K + 2 - k) x = some x := refB_stop (.inr hc3)
    have hxp := Option.some.inj (hxs.symm.trans hkB)
    intro _
    refine RA.seq hd ?_
    refine RA.par (md := [some [n1], some [], some [n1], some [], none, some []]) env_ok (hd.of (by omega) (kb4 (by omega))) (by kernel_rfl) ?_
    refine PQ.pure (dst := (some 65)) (v := (.agg ⟨(xRs43 x)⟩)) rfl rfl rfl (app [(n1, some ⟨[(cPrt x)], 15, 54, true⟩)] noStore) (seen_one (V := []) (D := [(n, some ⟨[(cPrt c)], 15, 54, true⟩), ((n + 1), some ⟨[[(.int .i64 0), (.int .i64 0), (.bool false), (.int .u32 0), (.string ByteArray.empty)]], 5, 29, true⟩), (ja, some (oPrt (q ++ [c]))), (n1, some ⟨[(cPrt x)], 15, 54, true⟩)]) (by kernel_rfl) (gt3 (by omega) get_here)) (r_loadA rfl rfl rfl rfl get_here rfl rfl rfl) ?_
    refine PQ.pure (dst := (some 66)) (v := (Pt n1 0 6)) rfl rfl rfl noStore (none_ok _ _) rfl ?_
    refine PQ.pure (dst := (some 67)) (v := (.string x.data)) rfl rfl rfl (app [(n1, some ⟨[(cPrt x)], 15, 54, true⟩)] noStore) (seen_one (V := []) (D := [(n, some ⟨[(cPrt c)], 15, 54, true⟩), ((n + 1), some ⟨[[(.int .i64 0), (.int .i64 0), (.bool false), (.int .u32 0), (.string ByteArray.empty)]], 5, 29, true⟩), (ja, some (oPrt (q ++ [c]))), (n1, some ⟨[(cPrt x)], 15, 54, true⟩)]) (by kernel_rfl) (gt3 (by omega) get_here)) (r_load1 rfl rfl rfl rfl rfl get_here rfl rfl) ?_
    refine PQ.op (dst := (some 12)) (v := (Pt n2 0 0)) (n1 := (n2 + 1)) (d1 := [(n2, some ⟨[xRs45], 15, 54, true⟩)]) rfl rfl rfl noStore (none_ok _ _) rfl (by omega) (kp1 (wr_new (by omega) (by omega))) ?_
    refine PQ.op (dst := none) (v := (.tuple #[])) (n1 := (n2 + 1)) (d1 := [(n2, some ⟨[(xRs43 x)], 15, 54, true⟩)]) rfl rfl rfl _ (seen_any (V := [(n2, some ⟨[xRs45], 15, 54, true⟩)]) (D := [(n, some ⟨[(cPrt c)], 15, 54, true⟩), ((n + 1), some ⟨[[(.int .i64 0), (.int .i64 0), (.bool false), (.int .u32 0), (.string ByteArray.empty)]], 5, 29, true⟩), (ja, some (oPrt (q ++ [c]))), (n1, some ⟨[(cPrt x)], 15, 54, true⟩)]) (by kernel_rfl)) (r_store rfl rfl rfl rfl rfl rfl rfl get_here rfl rfl (Nat.le_of_ble_eq_true rfl) rfl) (by omega) (kp1 (wr_late [1, 2] (by kernel_rfl) (by kernel_rfl) (by omega) 3 (by kernel_rfl) (by simp [keys]) (fac (lo0 rfl) (fac (lo1 rfl (by omega)) fan)))) ?_
    refine PQ.pure (dst := (some 13)) (v := (.string x.data)) rfl rfl rfl noStore (none_ok _ _) rfl ?_
    refine PQ.done (d := [(n2, some ⟨[(xRs43 x)], 15, 54, true⟩), (n2, some ⟨[xRs45], 15, 54, true⟩)]) (by kernel_rfl) ?_
    intro _
    refine RA.weaken (D' := [(n2, some ⟨[(xRs43 x)], 15, 54, true⟩), (n, some ⟨[(cPrt c)], 15, 54, true⟩), ((n + 1), some ⟨[[(.int .i64 0), (.int .i64 0), (.bool false), (.int .u32 0), (.string ByteArray.empty)]], 5, 29, true⟩), (ja, some (oPrt (q ++ [c]))), (n1, some ⟨[(cPrt x)], 15, 54, true⟩)]) hd (Less.of (fac (mm (fun _ => get_here) (fun _ => get_here)) (fac (mm (fun _ => (get_there (by omega) get_here)) (fun _ => (gt2 (by omega) get_here))) (fac (mm (fun _ => (gt2 (by omega) get_here)) (fun _ => (gt3 (by omega) get_here))) (fac (mm (fun _ => (gt3 (by omega) get_here)) (fun _ => (gt4 (by omega) get_here))) (fac (mm (fun _ => (gt4 (by omega) get_here)) (fun _ => (gt5 (by omega) get_here))) fan))))) (gone_of (by simp only [goneP, memP, List.cons_append, List.nil_append, true_or, or_true, true_and, and_true, or_false] <;> omega))) ?_
    refine RA.seq hd ?_
    refine RA.seq hd ?_
    refine RA.region env_ok ?_
    refine OA.p (some 14) (.int .i64 0) rfl rfl rfl rfl ?_
    refine OA.nil ?_
    intro _
    refine RA.block ?_
    rw [← hxp] at hF
    refine RA.weaken (D' := [(n, some ⟨[(cPrt c)], 15, 54, true⟩), ((n + 1), some ⟨[[(.int .i64 0), (.int .i64 0), (.bool false), (.int .u32 0), (.string ByteArray.empty)]], 5, 29, true⟩), (ja, some (oPrt (q ++ [c]))), (n1, some ⟨[(cPrt x)], 15, 54, true⟩), (n2, some ⟨[(xRs43 x)], 15, 54, true⟩)]) hd (Less.of (fac (mm (fun _ => get_here) (fun _ => (get_there (by omega) get_here))) (fac (mm (fun _ => (get_there (by omega) get_here)) (fun _ => (gt2 (by omega) get_here))) (fac (mm (fun _ => (gt2 (by omega) get_here)) (fun _ => (gt3 (by omega) get_here))) (fac (mm (fun _ => (gt3 (by omega) get_here)) (fun _ => (gt4 (by omega) get_here))) (fac (mm (fun _ => (gt4 (by omega) get_here)) (fun _ => get_here)) fan))))) (gone_of (by simp only [goneP, memP, List.cons_append, List.nil_append, true_or, or_true, true_and, and_true, or_false] <;> omega))) ?_
    refine RA.loop hd (fun kk_ τ n' D => (∃ k : Nat, ∃ z : Prt, ∃ d : ByteArray, kk_ = K + 2 - k ∧ (n2 + 1) ≤ n' ∧ Has τ [(3, (Pt n 0 0)), (5, (.pointer (some ⟨(n + 1), 0, some 0⟩))), (7, (.slice (some ⟨ja, 0, none⟩) (K + 1) 2)), (8, (Pt n1 0 0)), (12, (Pt n2 0 0)), (13, (.string d)), (14, (.int .i64 ((k : Nat) : Int)))] ∧ D = [(n, some ⟨[(cPrt c)], 15, 54, true⟩), ((n + 1), some ⟨[[(.int .i64 0), (.int .i64 0), (.bool false), (.int .u32 0), (.string ByteArray.empty)]], 5, 29, true⟩), (ja, some (oPrt (q ++ [c]))), (n1, some ⟨[(cPrt x)], 15, 54, true⟩), (n2, some ⟨[(cPrt z)], 15, 54, true⟩)] ∧ (∀ i ∈ keys D, i < n') ∧ k ≤ K + 2 ∧ refF (q ++ [c]) (K + 2 - k) z d = none ∧ d.size ≤ 6 * (k + 1))) (K + 2 - 0) (⟨0, x, x.data, rfl, by omega, ⟨rfl, rfl, rfl, rfl, rfl, rfl, rfl, trivial⟩, (by rfl), (kb5 (by omega)), ⟨by omega, hF, by omega⟩⟩) ?_
    rintro kn11 τ11 n11 _ ⟨k, z, d, rfl, hn11, hHn11, rfl, hKn11, hIn11⟩
    rw [Has.eq hHn11]
    have hKn11_0 : n < n11 := hKn11 _ (by simp only [keys, List.map_cons, List.map_nil, List.mem_cons, true_or, or_true])
    have hKn11_1 : (n + 1) < n11 := hKn11 _ (by simp only [keys, List.map_cons, List.map_nil, List.mem_cons, true_or, or_true])
    have hKn11_2 : ja < n11 := hKn11 _ (by simp only [keys, List.map_cons, List.map_nil, List.mem_cons, true_or, or_true])
    have hKn11_3 : n1 < n11 := hKn11 _ (by simp only [keys, List.map_cons, List.map_nil, List.mem_cons, true_or, or_true])
    have hKn11_4 : n2 < n11 := hKn11 _ (by simp only [keys, List.map_cons, List.map_nil, List.mem_cons, true_or, or_true])
    clear hKn11
    obtain ⟨hk1, hkF, hdd⟩ := hIn11
    refine RA.seq hd ?_
    refine RA.seq hd ?_
    refine RA.region env_ok ?_
    refine OA.p (some 68) (.int .i64 ((k : Nat) : Int)) rfl rfl rfl rfl ?_
    refine OA.p (some 69) (.slice (some ⟨ja, 0, none⟩) (K + 1) 2) rfl rfl rfl rfl ?_
    refine OA.p (some 70) (.int .i64 (((K + 1) : Nat) : Int)) rfl rfl rfl rfl ?_
    by_cases hc7 : ((k : Nat) : Int) ≤ (((K + 1) : Nat) : Int)
    ·
     refine OA.p (some 71) (.bool true) rfl rfl rfl (Eq.trans (r_bin rfl rfl rfl (b_leq rfl)) (dT hc7)) ?_
     refine OA.p (some 72) (.bool true) rfl rfl rfl rfl ?_
     refine OA.p (some 73) (Pt n2 0 1) rfl rfl rfl rfl ?_
     refine OA.p (some 74) (.int .i64 ((z.fl.val : Nat) : Int)) rfl rfl rfl (r_load1 rfl rfl rfl rfl rfl (gt4 (by omega) get_here) rfl rfl) ?_
     refine OA.p (some 75) (.int .i64 (((z.fl.val % 2) : Nat) : Int)) rfl rfl rfl (r_bin rfl rfl rfl (b_remN (a := z.fl.val) (c := 2) (by decide))) ?_
     by_cases hc8 : (((z.fl.val % 2) : Nat) : Int) = 0
     ·
      refine OA.p (some 76) (.bool true) rfl rfl rfl (Eq.trans (r_bin rfl rfl rfl (b_eql rfl)) (dT hc8)) ?_
      refine OA.p (some 77) (.bool true) rfl rfl rfl rfl ?_
      refine OA.nil ?_
      intro _
      refine RA.condT rfl ?_
      refine RA.skip env_ok ?_
      intro _
      refine RA.seq hd ?_
      refine RA.block ?_
      refine RA.seq hd ?_
      refine RA.region env_ok ?_
      refine OA.p (some 81) (.slice (some ⟨ja, 0, none⟩) (K + 1) 2) rfl rfl rfl rfl ?_
      refine OA.p (some 82) (Pt n2 0 2) rfl rfl rfl rfl ?_
      refine OA.p (some 83) (W z.tsn) rfl rfl rfl (r_load1 rfl rfl rfl rfl rfl (gt4 (by omega) get_here) rfl rfl) ?_
      refine OA.p (some 84) (W (z.tsn + (1#32))) rfl rfl rfl (r_bin rfl rfl rfl (b_addW z.tsn (1#32))) ?_
      by_cases hc9 : atL (q ++ [c]) (z.tsn + (1#32)) = none
      ·
       refine OA.callP (dst := (some 85)) (all := [(.slice (some ⟨ja, 0, none⟩) (K + 1) 2), (W (z.tsn + (1#32)))]) (v := (.tuple ⟨[(.agg ⟨xRs45⟩), (.bool false)]⟩)) (hd.of (by omega) (kb5 (by omega))) rfl rfl rfl rfl rfl rfl rfl rfl (PS.to (sAt ja (K + 1) (q ++ [c]) (show (q ++ [c]).length = K + 1 from by rw [List.length_append, hq]; rfl) (by omega) (z.tsn + (1#32)) (gt2 (by omega) get_here)) (by rw [hc9]; rfl)) ?_
       intro n12 hn12
       refine OA.p (some 80) (.tuple ⟨[(.agg ⟨xRs45⟩), (.bool false)]⟩) rfl rfl rfl rfl ?_
       refine OA.p (some 86) (.agg ⟨xRs45⟩) rfl rfl rfl rfl ?_
       refine OA.p (some 87) (.bool false) rfl rfl rfl rfl ?_
       refine OA.op1 (dst := (some 15)) (v := (Pt n12 0 0)) (n1 := (n12 + 1)) (w := (n12, some ⟨[xRs45], 15, 54, true⟩)) rfl rfl rfl rfl (by omega) ?_
       refine OA.op1 (dst := none) (v := (.tuple #[])) (n1 := (n12 + 1)) (w := (n12, some ⟨[xRs45], 15, 54, true⟩)) rfl rfl rfl (r_store rfl rfl rfl rfl rfl rfl rfl get_here rfl rfl (Nat.le_of_ble_eq_true rfl) rfl) (by omega) ?_
       refine OA.p (some 16) (.bool false) rfl rfl rfl rfl ?_
       refine OA.nil ?_
       intro _
       refine RA.weaken (D' := [(n12, some ⟨[xRs45], 15, 54, true⟩), (n, some ⟨[(cPrt c)], 15, 54, true⟩), ((n + 1), some ⟨[[(.int .i64 0), (.int .i64 0), (.bool false), (.int .u32 0), (.string ByteArray.empty)]], 5, 29, true⟩), (ja, some (oPrt (q ++ [c]))), (n1, some ⟨[(cPrt x)], 15, 54, true⟩), (n2, some ⟨[(cPrt z)], 15, 54, true⟩)]) hd (Less.of (fac (mm (fun _ => get_here) (fun _ => get_here)) (fac (mm (fun _ => (get_there (by omega) get_here)) (fun _ => (gt2 (by omega) get_here))) (fac (mm (fun _ => (gt2 (by omega) get_here)) (fun _ => (gt3 (by omega) get_here))) (fac (mm (fun _ => (gt3 (by omega) get_here)) (fun _ => (gt4 (by omega) get_here))) (fac (mm (fun _ => (gt4 (by omega) get_here)) (fun _ => (gt5 (by omega) get_here))) (fac (mm (fun _ => (gt5 (by omega) get_here)) (fun _ => (gt6 (by omega) get_here))) fan)))))) (gone_of (by simp only [goneP, memP, List.cons_append, List.nil_append, true_or, or_true, true_and, and_true, or_false] <;> omega))) ?_
       refine RA.seq hd ?_
       refine RA.seq hd ?_
       refine RA.region env_ok ?_
       refine OA.p (some 88) (.bool false) rfl rfl rfl rfl ?_
       refine OA.p (some 89) (.bool true) rfl rfl rfl rfl ?_
       refine OA.p (some 90) (.bool true) rfl rfl rfl rfl ?_
       refine OA.off (dst := (some 91)) rfl rfl rfl ?_
       refine OA.off (dst := (some 92)) rfl rfl rfl ?_
       refine OA.off (dst := (some 93)) rfl rfl rfl ?_
       refine OA.off (dst := (some 94)) rfl rfl rfl ?_
       refine OA.off (dst := (some 95)) rfl rfl rfl ?_
       refine OA.p (some 96) (.bool true) rfl rfl rfl rfl ?_
       refine OA.p (some 97) (.bool true) rfl rfl rfl rfl ?_
       refine OA.off (dst := (some 98)) rfl rfl rfl ?_
       refine OA.off (dst := (some 99)) rfl rfl rfl ?_
       refine OA.off (dst := (some 100)) rfl rfl rfl ?_
       refine OA.off (dst := (some 101)) rfl rfl rfl ?_
       refine OA.p (some 102) (.bool true) rfl rfl rfl rfl ?_
       refine OA.nil ?_
       intro _
       refine RA.rebase [(3, (Pt n 0 0)), (5, (.pointer (some ⟨(n + 1), 0, some 0⟩))), (7, (.slice (some ⟨ja, 0, none⟩) (K + 1) 2)), (8, (Pt n1 0 0)), (12, (Pt n2 0 0)), (13, (.string d)), (14, (.int .i64 ((k : Nat) : Int))), (15, (Pt n12 0 0)), (16, (.bool false)), (77, (.bool true)), (102, (.bool true))] ⟨rfl, rfl, rfl, rfl, rfl, rfl, rfl, rfl, rfl, rfl, rfl, trivial⟩ (fun τr13 => ?_)
       refine RA.condT rfl ?_
       refine RA.seq hd ?_
       refine RA.region env_ok ?_
       refine OA.p (some 103) (.slice (some ⟨ja, 0, none⟩) (K + 1) 2) rfl rfl rfl rfl ?_
       refine OA.p (some 104) (.agg ⟨[(.int .i64 0), (.int .i64 0), (.bool false), (.int .u32 0), (.string ByteArray.empty)]⟩) rfl rfl rfl (by kernel_rfl) ?_
       refine OA.p (some 4) (.slice (some ⟨ja, 0, none⟩) (K + 1) 2) rfl rfl rfl rfl ?_
       refine OA.op1 (dst := none) (v := (.tuple #[])) (n1 := (n12 + 1)) (w := ((n + 1), some ⟨[[(.int .i64 0), (.int .i64 0), (.bool false), (.int .u32 0), (.string ByteArray.empty)]], 5, 29, true⟩)) rfl rfl rfl (r_store rfl rfl rfl rfl rfl rfl rfl (gt2 (by omega) get_here) rfl rfl (Nat.le_of_ble_eq_true rfl) rfl) (by omega) ?_
       refine OA.p (some 6) (.bool false) rfl rfl rfl rfl ?_
       refine OA.nil ?_
       intro _
       refine RA.weaken (D' := [((n + 1), some ⟨[[(.int .i64 0), (.int .i64 0), (.bool false), (.int .u32 0), (.string ByteArray.empty)]], 5, 29, true⟩), (n12, some ⟨[xRs45], 15, 54, true⟩), (n, some ⟨[(cPrt c)], 15, 54, true⟩), (ja, some (oPrt (q ++ [c]))), (n1, some ⟨[(cPrt x)], 15, 54, true⟩), (n2, some ⟨[(cPrt z)], 15, 54, true⟩)]) hd (Less.of (fac (mm (fun _ => get_here) (fun _ => get_here)) (fac (mm (fun _ => (get_there (by omega) get_here)) (fun _ => (get_there (by omega) get_here))) (fac (mm (fun _ => (gt2 (by omega) get_here)) (fun _ => (gt2 (by omega) get_here))) (fac (mm (fun _ => (gt3 (by omega) get_here)) (fun _ => (gt4 (by omega) get_here))) (fac (mm (fun _ => (gt4 (by omega) get_here)) (fun _ => (gt5 (by omega) get_here))) (fac (mm (fun _ => (gt5 (by omega) get_here)) (fun _ => (gt6 (by omega) get_here))) fan)))))) (gone_of (by simp only [goneP, memP, List.cons_append, List.nil_append, true_or, or_true, true_and, and_true, or_false] <;> omega))) ?_
       refine RA.ret env_ok ?_
       refine ⟨.inr rfl, (xRs46 ja K), (resL_cons rfl (resL_cons (res_cellA rfl rfl rfl get_here rfl rfl rfl) (resL_cons rfl resL_nil))), [(ja, some (oPrt (q ++ [c])))], (Less.of (fac (mm (fun _ => get_here) (fun _ => (gt3 (by omega) get_here))) fan) (gone_of (by simp only [goneP, memP, List.cons_append, List.nil_append, true_or, or_true, true_and, and_true, or_false] <;> omega))), ⟨ja, by omega, by omega, by rfl, rfl⟩⟩
      ·
       obtain ⟨y, hy⟩ := Option.ne_none_iff_exists'.1 hc9
       have hyd := hsz y (at_in hy)
       refine OA.callP (dst := (some 85)) (all := [(.slice (some ⟨ja, 0, none⟩) (K + 1) 2), (W (z.tsn + (1#32)))]) (v := (.tuple ⟨[(.agg ⟨(cPrt y)⟩), (.bool true)]⟩)) (hd.of (by omega) (kb5 (by omega))) rfl rfl rfl rfl rfl rfl rfl rfl (PS.to (sAt ja (K + 1) (q ++ [c]) (show (q ++ [c]).length = K + 1 from by rw [List.length_append, hq]; rfl) (by omega) (z.tsn + (1#32)) (gt2 (by omega) get_here)) (by rw [hy]; rfl)) ?_
       intro n14 hn14
       refine OA.p (some 80) (.tuple ⟨[(.agg ⟨(cPrt y)⟩), (.bool true)]⟩) rfl rfl rfl rfl ?_
       refine OA.p (some 86) (.agg ⟨(cPrt y)⟩) rfl rfl rfl rfl ?_
       refine OA.p (some 87) (.bool true) rfl rfl rfl rfl ?_
       refine OA.op1 (dst := (some 15)) (v := (Pt n14 0 0)) (n1 := (n14 + 1)) (w := (n14, some ⟨[xRs45], 15, 54, true⟩)) rfl rfl rfl rfl (by omega) ?_
       refine OA.op1 (dst := none) (v := (.tuple #[])) (n1 := (n14 + 1)) (w := (n14, some ⟨[(cPrt y)], 15, 54, true⟩)) rfl rfl rfl (r_store rfl rfl rfl rfl rfl rfl rfl get_here rfl rfl (Nat.le_of_ble_eq_true rfl) rfl) (by omega) ?_
       refine OA.p (some 16) (.bool true) rfl rfl rfl rfl ?_
       refine OA.nil ?_
       intro _
       refine RA.seq hd ?_
       refine RA.seq hd ?_
       refine RA.region env_ok ?_
       refine OA.p (some 88) (.bool true) rfl rfl rfl rfl ?_
       refine OA.p (some 89) (.bool false) rfl rfl rfl rfl ?_
       refine OA.p (some 90) (.bool false) rfl rfl rfl rfl ?_
       refine OA.p (some 91) (Pt n14 0 1) rfl rfl rfl rfl ?_
       refine OA.p (some 92) (.int .i64 ((y.fl.val : Nat) : Int)) rfl rfl rfl (r_load1 rfl rfl rfl rfl rfl get_here rfl rfl) ?_
       refine OA.p (some 93) (.int .i64 (((y.fl.val / 2) : Nat) : Int)) rfl rfl rfl (r_bin rfl rfl rfl (b_quoN (a := y.fl.val) (c := 2) (by decide) (i64_eq (by omega)))) ?_
       refine OA.p (some 94) (.int .i64 ((((y.fl.val / 2) % 2) : Nat) : Int)) rfl rfl rfl (r_bin rfl rfl rfl (b_remN (a := (y.fl.val / 2)) (c := 2) (by decide))) ?_
       by_cases hc10 : ((((y.fl.val / 2) % 2) : Nat) : Int) = 1
       ·
        refine OA.p (some 95) (.bool true) rfl rfl rfl (Eq.trans (r_bin rfl rfl rfl (b_eql rfl)) (dT hc10)) ?_
        refine OA.p (some 96) (.bool true) rfl rfl rfl rfl ?_
        refine OA.p (some 97) (.bool true) rfl rfl rfl rfl ?_
        refine OA.off (dst := (some 98)) rfl rfl rfl ?_
        refine OA.off (dst := (some 99)) rfl rfl rfl ?_
        refine OA.off (dst := (some 100)) rfl rfl rfl ?_
        refine OA.off (dst := (some 101)) rfl rfl rfl ?_
        refine OA.p (some 102) (.bool true) rfl rfl rfl rfl ?_
        refine OA.nil ?_
        intro _
        refine RA.rebase [(3, (Pt n 0 0)), (5, (.pointer (some ⟨(n + 1), 0, some 0⟩))), (7, (.slice (some ⟨ja, 0, none⟩) (K + 1) 2)), (8, (Pt n1 0 0)), (12, (Pt n2 0 0)), (13, (.string d)), (14, (.int .i64 ((k : Nat) : Int))), (15, (Pt n14 0 0)), (16, (.bool true)), (77, (.bool true)), (102, (.bool true))] ⟨rfl, rfl, rfl, rfl, rfl, rfl, rfl, rfl, rfl, rfl, rfl, trivial⟩ (fun τr15 => ?_)
        refine RA.condT rfl ?_
        refine RA.seq hd ?_
        refine RA.region env_ok ?_
        refine OA.p (some 103) (.slice (some ⟨ja, 0, none⟩) (K + 1) 2) rfl rfl rfl rfl ?_
        refine OA.p (some 104) (.agg ⟨[(.int .i64 0), (.int .i64 0), (.bool false), (.int .u32 0), (.string ByteArray.empty)]⟩) rfl rfl rfl (by kernel_rfl) ?_
        refine OA.p (some 4) (.slice (some ⟨ja, 0, none⟩) (K + 1) 2) rfl rfl rfl rfl ?_
        refine OA.op1 (dst := none) (v := (.tuple #[])) (n1 := (n14 + 1)) (w := ((n + 1), some ⟨[[(.int .i64 0), (.int .i64 0), (.bool false), (.int .u32 0), (.string ByteArray.empty)]], 5, 29, true⟩)) rfl rfl rfl (r_store rfl rfl rfl rfl rfl rfl rfl (gt3 (by omega) get_here) rfl rfl (Nat.le_of_ble_eq_true rfl) rfl) (by omega) ?_
        refine OA.p (some 6) (.bool false) rfl rfl rfl rfl ?_
        refine OA.nil ?_
        intro _
        refine RA.weaken (D' := [((n + 1), some ⟨[[(.int .i64 0), (.int .i64 0), (.bool false), (.int .u32 0), (.string ByteArray.empty)]], 5, 29, true⟩), (n14, some ⟨[(cPrt y)], 15, 54, true⟩), (n, some ⟨[(cPrt c)], 15, 54, true⟩), (ja, some (oPrt (q ++ [c]))), (n1, some ⟨[(cPrt x)], 15, 54, true⟩), (n2, some ⟨[(cPrt z)], 15, 54, true⟩)]) hd (Less.of (fac (mm (fun _ => get_here) (fun _ => get_here)) (fac (mm (fun _ => (get_there (by omega) get_here)) (fun _ => (get_there (by omega) get_here))) (fac (mm (fun _ => (gt2 (by omega) get_here)) (fun _ => (gt3 (by omega) get_here))) (fac (mm (fun _ => (gt3 (by omega) get_here)) (fun _ => (gt5 (by omega) get_here))) (fac (mm (fun _ => (gt4 (by omega) get_here)) (fun _ => (gt6 (by omega) get_here))) (fac (mm (fun _ => (gt5 (by omega) get_here)) (fun _ => (gt7 (by omega) get_here))) fan)))))) (gone_of (by simp only [goneP, memP, List.cons_append, List.nil_append, true_or, or_true, true_and, and_true, or_false] <;> omega))) ?_
        refine RA.ret env_ok ?_
        refine ⟨.inr rfl, (xRs46 ja K), (resL_cons rfl (resL_cons (res_cellA rfl rfl rfl get_here rfl rfl rfl) (resL_cons rfl resL_nil))), [(ja, some (oPrt (q ++ [c])))], (Less.of (fac (mm (fun _ => get_here) (fun _ => (gt3 (by omega) get_here))) fan) (gone_of (by simp only [goneP, memP, List.cons_append, List.nil_append, true_or, or_true, true_and, and_true, or_false] <;> omega))), ⟨ja, by omega, by omega, by rfl, rfl⟩⟩
       ·
        refine OA.p (some 95) (.bool false) rfl rfl rfl (Eq.trans (r_bin rfl rfl rfl (b_eql rfl)) (dF hc10)) ?_
        refine OA.p (some 96) (.bool false) rfl rfl rfl rfl ?_
        refine OA.p (some 97) (.bool false) rfl rfl rfl rfl ?_
        refine OA.p (some 98) (.agg ⟨(xRs42 y)⟩) rfl rfl rfl (r_loadA rfl rfl rfl rfl get_here rfl rfl rfl) ?_
        refine OA.p (some 99) (.agg ⟨(xRs44 z)⟩) rfl rfl rfl (r_loadA rfl rfl rfl rfl (gt6 (by omega) get_here) rfl rfl rfl) ?_
        by_cases hc11 : alike y z
        ·
         refine OA.callP (dst := (some 100)) (all := [(.agg ⟨(xRs42 y)⟩), (.agg ⟨(xRs44 z)⟩)]) (v := (.bool true)) (hd.of (by omega) (kb7 (by omega))) rfl rfl rfl rfl rfl rfl rfl rfl (PS.to (sAl y z) (show (.bool (decide (alike y z))) = ((.bool true) : Value) from (by first | (rw [decide_eq_true hc11]; done) | (rw [decide_eq_true hc11]; rfl)))) ?_
         intro n16 hn16
         refine OA.p (some 101) (.bool false) rfl rfl rfl rfl ?_
         refine OA.p (some 102) (.bool false) rfl rfl rfl rfl ?_
         refine OA.nil ?_
         intro _
         refine RA.rebase [(3, (Pt n 0 0)), (5, (.pointer (some ⟨(n + 1), 0, some 0⟩))), (7, (.slice (some ⟨ja, 0, none⟩) (K + 1) 2)), (8, (Pt n1 0 0)), (12, (Pt n2 0 0)), (13, (.string d)), (14, (.int .i64 ((k : Nat) : Int))), (15, (Pt n14 0 0)), (16, (.bool true)), (77, (.bool true)), (102, (.bool false))] ⟨rfl, rfl, rfl, rfl, rfl, rfl, rfl, rfl, rfl, rfl, rfl, trivial⟩ (fun τr17 => ?_)
         refine RA.condF rfl ?_
         refine RA.skip env_ok ?_
         intro _
         refine RA.par (md := [some [n14], some [], some [], some [n14], some [], none, some []]) env_ok (hd.of (by omega) (kb7 (by omega))) (by kernel_rfl) ?_
         refine PQ.pure (dst := (some 105)) (v := (.agg ⟨(xRs42 y)⟩)) rfl rfl rfl (app [(n14, some ⟨[(cPrt y)], 15, 54, true⟩)] noStore) (seen_one (V := []) (D := [(n14, some ⟨[(cPrt y)], 15, 54, true⟩), (n14, some ⟨[xRs45], 15, 54, true⟩), (n, some ⟨[(cPrt c)], 15, 54, true⟩), ((n + 1), some ⟨[[(.int .i64 0), (.int .i64 0), (.bool false), (.int .u32 0), (.string ByteArray.empty)]], 5, 29, true⟩), (ja, some (oPrt (q ++ [c]))), (n1, some ⟨[(cPrt x)], 15, 54, true⟩), (n2, some ⟨[(cPrt z)], 15, 54, true⟩)]) (by kernel_rfl) get_here) (r_loadA rfl rfl rfl rfl get_here rfl rfl rfl) ?_
         refine PQ.pure (dst := (some 106)) (v := (.string d)) rfl rfl rfl noStore (none_ok _ _) rfl ?_
         refine PQ.pure (dst := (some 107)) (v := (Pt n14 0 6)) rfl rfl rfl noStore (none_ok _ _) rfl ?_
         refine PQ.pure (dst := (some 108)) (v := (.string y.data)) rfl rfl rfl (app [(n14, some ⟨[(cPrt y)], 15, 54, true⟩)] noStore) (seen_one (V := []) (D := [(n14, some ⟨[(cPrt y)], 15, 54, true⟩), (n14, some ⟨[xRs45], 15, 54, true⟩), (n, some ⟨[(cPrt c)], 15, 54, true⟩), ((n + 1), some ⟨[[(.int .i64 0), (.int .i64 0), (.bool false), (.int .u32 0), (.string ByteArray.empty)]], 5, 29, true⟩), (ja, some (oPrt (q ++ [c]))), (n1, some ⟨[(cPrt x)], 15, 54, true⟩), (n2, some ⟨[(cPrt z)], 15, 54, true⟩)]) (by kernel_rfl) get_here) (r_load1 rfl rfl rfl rfl rfl get_here rfl rfl) ?_
         refine PQ.pure (dst := (some 109)) (v := (.string (d ++ y.data))) rfl rfl rfl noStore (none_ok _ _) (r_cat rfl rfl rfl (by (try simp only [ByteArray.size_append, bstr_size, size_lit, List.size_toArray, List.length_cons, List.length_nil, List.length_take, List.length_drop, List.length_replicate]); try omega)) ?_
         refine PQ.op (dst := none) (v := (.tuple #[])) (n1 := n16) (d1 := [(n2, some ⟨[(xRs42 y)], 15, 54, true⟩)]) rfl rfl rfl _ (seen_any (V := []) (D := [(n14, some ⟨[(cPrt y)], 15, 54, true⟩), (n14, some ⟨[xRs45], 15, 54, true⟩), (n, some ⟨[(cPrt c)], 15, 54, true⟩), ((n + 1), some ⟨[[(.int .i64 0), (.int .i64 0), (.bool false), (.int .u32 0), (.string ByteArray.empty)]], 5, 29, true⟩), (ja, some (oPrt (q ++ [c]))), (n1, some ⟨[(cPrt x)], 15, 54, true⟩), (n2, some ⟨[(cPrt z)], 15, 54, true⟩)]) (by kernel_rfl)) (r_store rfl rfl rfl rfl rfl rfl rfl (gt6 (by omega) get_here) rfl rfl (Nat.le_of_ble_eq_true rfl) rfl) (by omega) (kp1 (wr_old [1, 2, 3, 4] (by kernel_rfl) (by omega) (by omega) (fac (lo0 rfl) (fac (lo0 rfl) (fac (lo1 rfl (by omega)) (fac (lo0 rfl) fan)))))) ?_
         refine PQ.pure (dst := (some 13)) (v := (.string (d ++ y.data))) rfl rfl rfl noStore (none_ok _ _) rfl ?_
         refine PQ.done (d := [(n2, some ⟨[(xRs42 y)], 15, 54, true⟩)]) (by kernel_rfl) ?_
         intro _
         refine RA.weaken (D' := [(n2, some ⟨[(xRs42 y)], 15, 54, true⟩), (n14, some ⟨[(cPrt y)], 15, 54, true⟩), (n, some ⟨[(cPrt c)], 15, 54, true⟩), ((n + 1), some ⟨[[(.int .i64 0), (.int .i64 0), (.bool false), (.int .u32 0), (.string ByteArray.empty)]], 5, 29, true⟩), (ja, some (oPrt (q ++ [c]))), (n1, some ⟨[(cPrt x)], 15, 54, true⟩)]) hd (Less.of (fac (mm (fun _ => get_here) (fun _ => get_here)) (fac (mm (fun _ => (get_there (by omega) get_here)) (fun _ => (get_there (by omega) get_here))) (fac (mm (fun _ => (gt2 (by omega) get_here)) (fun _ => (gt3 (by omega) get_here))) (fac (mm (fun _ => (gt3 (by omega) get_here)) (fun _ => (gt4 (by omega) get_here))) (fac (mm (fun _ => (gt4 (by omega) get_here)) (fun _ => (gt5 (by omega) get_here))) (fac (mm (fun _ => (gt5 (by omega) get_here)) (fun _ => (gt6 (by omega) get_here))) fan)))))) (gone_of (by simp only [goneP, memP, List.cons_append, List.nil_append, true_or, or_true, true_and, and_true, or_false] <;> omega))) ?_
         refine RA.region env_ok ?_
         refine OA.p (some 78) (.int .i64 ((k : Nat) : Int)) rfl rfl rfl rfl ?_
         refine OA.p (some 79) (.int .i64 (((k + 1) : Nat) : Int)) rfl rfl rfl (r_bin rfl rfl rfl (b_add (i64_eq (by omega)))) ?_
         refine OA.p (some 14) (.int .i64 (((k + 1) : Nat) : Int)) rfl rfl rfl rfl ?_
         refine OA.nil ?_
         refine ⟨K + 2 - (k + 1), by omega, [(n, some ⟨[(cPrt c)], 15, 54, true⟩), ((n + 1), some ⟨[[(.int .i64 0), (.int .i64 0), (.bool false), (.int .u32 0), (.string ByteArray.empty)]], 5, 29, true⟩), (ja, some (oPrt (q ++ [c]))), (n1, some ⟨[(cPrt x)], 15, 54, true⟩), (n2, some ⟨[(xRs42 y)], 15, 54, true⟩)], (Less.of (fac (mm (fun _ => get_here) (fun _ => (gt2 (by omega) get_here))) (fac (mm (fun _ => (get_there (by omega) get_here)) (fun _ => (gt3 (by omega) get_here))) (fac (mm (fun _ => (gt2 (by omega) get_here)) (fun _ => (gt4 (by omega) get_here))) (fac (mm (fun _ => (gt3 (by omega) get_here)) (fun _ => (gt5 (by omega) get_here))) (fac (mm (fun _ => (gt4 (by omega) get_here)) (fun _ => get_here)) fan))))) (gone_of (by simp only [goneP, memP, List.cons_append, List.nil_append, true_or, or_true, true_and, and_true, or_false] <;> omega))), ⟨(k + 1), y, (d ++ y.data), rfl, by omega, ⟨rfl, rfl, rfl, rfl, rfl, rfl, rfl, trivial⟩, (by rfl), (kb5 (by omega)), ⟨by omega, by rw [show K + 2 - (k + 1) = K + 2 - k - 1 from by omega, ← refF_go (by omega) hc8 hy hc10 hc11]; exact hkF, by rw [ByteArray.size_append]; omega⟩⟩⟩
        ·
         refine OA.callP (dst := (some 100)) (all := [(.agg ⟨(xRs42 y)⟩), (.agg ⟨(xRs44 z)⟩)]) (v := (.bool false)) (hd.of (by omega) (kb7 (by omega))) rfl rfl rfl rfl rfl rfl rfl rfl (PS.to (sAl y z) (show (.bool (decide (alike y z))) = ((.bool false) : Value) from (by first | (rw [decide_eq_false hc11]; done) | (rw [decide_eq_false hc11]; rfl)))) ?_
         intro n18 hn18
         refine OA.p (some 101) (.bool true) rfl rfl rfl rfl ?_
         refine OA.p (some 102) (.bool true) rfl rfl rfl rfl ?_
         refine OA.nil ?_
         intro _
         refine RA.rebase [(3, (Pt n 0 0)), (5, (.pointer (some ⟨(n + 1), 0, some 0⟩))), (7, (.slice (some ⟨ja, 0, none⟩) (K + 1) 2)), (8, (Pt n1 0 0)), (12, (Pt n2 0 0)), (13, (.string d)), (14, (.int .i64 ((k : Nat) : Int))), (15, (Pt n14 0 0)), (16, (.bool true)), (77, (.bool true)), (102, (.bool true))] ⟨rfl, rfl, rfl, rfl, rfl, rfl, rfl, rfl, rfl, rfl, rfl, trivial⟩ (fun τr19 => ?_)
         refine RA.condT rfl ?_
         refine RA.seq hd ?_
         refine RA.region env_ok ?_
         refine OA.p (some 103) (.slice (some ⟨ja, 0, none⟩) (K + 1) 2) rfl rfl rfl rfl ?_
         refine OA.p (some 104) (.agg ⟨[(.int .i64 0), (.int .i64 0), (.bool false), (.int .u32 0), (.string ByteArray.empty)]⟩) rfl rfl rfl (by kernel_rfl) ?_
         refine OA.p (some 4) (.slice (some ⟨ja, 0, none⟩) (K + 1) 2) rfl rfl rfl rfl ?_
         refine OA.op1 (dst := none) (v := (.tuple #[])) (n1 := n18) (w := ((n + 1), some ⟨[[(.int .i64 0), (.int .i64 0), (.bool false), (.int .u32 0), (.string ByteArray.empty)]], 5, 29, true⟩)) rfl rfl rfl (r_store rfl rfl rfl rfl rfl rfl rfl (gt3 (by omega) get_here) rfl rfl (Nat.le_of_ble_eq_true rfl) rfl) (by omega) ?_
         refine OA.p (some 6) (.bool false) rfl rfl rfl rfl ?_
         refine OA.nil ?_
         intro _
         refine RA.weaken (D' := [((n + 1), some ⟨[[(.int .i64 0), (.int .i64 0), (.bool false), (.int .u32 0), (.string ByteArray.empty)]], 5, 29, true⟩), (n14, some ⟨[(cPrt y)], 15, 54, true⟩), (n, some ⟨[(cPrt c)], 15, 54, true⟩), (ja, some (oPrt (q ++ [c]))), (n1, some ⟨[(cPrt x)], 15, 54, true⟩), (n2, some ⟨[(cPrt z)], 15, 54, true⟩)]) hd (Less.of (fac (mm (fun _ => get_here) (fun _ => get_here)) (fac (mm (fun _ => (get_there (by omega) get_here)) (fun _ => (get_there (by omega) get_here))) (fac (mm (fun _ => (gt2 (by omega) get_here)) (fun _ => (gt3 (by omega) get_here))) (fac (mm (fun _ => (gt3 (by omega) get_here)) (fun _ => (gt5 (by omega) get_here))) (fac (mm (fun _ => (gt4 (by omega) get_here)) (fun _ => (gt6 (by omega) get_here))) (fac (mm (fun _ => (gt5 (by omega) get_here)) (fun _ => (gt7 (by omega) get_here))) fan)))))) (gone_of (by simp only [goneP, memP, List.cons_append, List.nil_append, true_or, or_true, true_and, and_true, or_false] <;> omega))) ?_
         refine RA.ret env_ok ?_
         refine ⟨.inr rfl, (xRs46 ja K), (resL_cons rfl (resL_cons (res_cellA rfl rfl rfl get_here rfl rfl rfl) (resL_cons rfl resL_nil))), [(ja, some (oPrt (q ++ [c])))], (Less.of (fac (mm (fun _ => get_here) (fun _ => (gt3 (by omega) get_here))) fan) (gone_of (by simp only [goneP, memP, List.cons_append, List.nil_append, true_or, or_true, true_and, and_true, or_false] <;> omega))), ⟨ja, by omega, by omega, by rfl, rfl⟩⟩
     ·
      refine OA.p (some 76) (.bool false) rfl rfl rfl (Eq.trans (r_bin rfl rfl rfl (b_eql rfl)) (dF hc8)) ?_
      refine OA.p (some 77) (.bool false) rfl rfl rfl rfl ?_
      refine OA.nil ?_
      intro _
      refine RA.condF rfl ?_
      refine RA.exit env_ok ?_
      have hzs : refF (q ++ [c]) (K + 2 - k) z d = some (z, d) := refF_stop (.inr hc8)
      cases hzs.symm.trans hkF
    ·
     refine OA.p (some 71) (.bool false) rfl rfl rfl (Eq.trans (r_bin rfl rfl rfl (b_leq rfl)) (dF hc7)) ?_
     refine OA.p (some 72) (.bool false) rfl rfl rfl rfl ?_
     refine OA.off (dst := (some 73)) rfl rfl rfl ?_
     refine OA.off (dst := (some 74)) rfl rfl rfl ?_
     refine OA.off (dst := (some 75)) rfl rfl rfl ?_
     refine OA.off (dst := (some 76)) rfl rfl rfl ?_
     refine OA.p (some 77) (.bool false) rfl rfl rfl rfl ?_
     refine OA.nil ?_
     intro _
     refine RA.condF rfl ?_
     refine RA.exit env_ok ?_
     have hzs : refF (q ++ [c]) (K + 2 - k) z d = some (z, d) := refF_stop (.inl (by omega))
     cases hzs.symm.trans hkF
  ·
   refine OA.p (some 30) (.bool false) rfl rfl rfl (Eq.trans (r_bin rfl rfl rfl (b_leq rfl)) (dF hc2)) ?_
   refine OA.p (some 31) (.bool false) rfl rfl rfl rfl ?_
   refine OA.off (dst := (some 32)) rfl rfl rfl ?_
   refine OA.off (dst := (some 33)) rfl rfl rfl ?_
   refine OA.off (dst := (some 34)) rfl rfl rfl ?_
   refine OA.off (dst := (some 35)) rfl rfl rfl ?_
   refine OA.off (dst := (some 36)) rfl rfl rfl ?_
   refine OA.p (some 37) (.bool false) rfl rfl rfl rfl ?_
   refine OA.nil ?_
   intro _
   refine RA.condF rfl ?_
   refine RA.exit env_ok ?_
   have hxs : refB (q ++ [c]) (K + 2 - k) x = some x := refB_stop (.inl (by omega))
   have hxp := Option.some.inj (hxs.symm.trans hkB)
   intro _
   refine RA.seq hd ?_
   refine RA.par (md := [some [n1], some [], some [n1], some [], none, some []]) env_ok (hd.of (by omega) (kb4 (by omega))) (by kernel_rfl) ?_
   refine PQ.pure (dst := (some 65)) (v := (.agg ⟨(xRs43 x)⟩)) rfl rfl rfl (app [(n1, some ⟨[(cPrt x)], 15, 54, true⟩)] noStore) (seen_one (V := []) (D := [(n, some ⟨[(cPrt c)], 15, 54, true⟩), ((n + 1), some ⟨[[(.int .i64 0), (.int .i64 0), (.bool false), (.int .u32 0), (.string ByteArray.empty)]], 5, 29, true⟩), (ja, some (oPrt (q ++ [c]))), (n1, some ⟨[(cPrt x)], 15, 54, true⟩)]) (by kernel_rfl) (gt3 (by omega) get_here)) (r_loadA rfl rfl rfl rfl get_here rfl rfl rfl) ?_
   refine PQ.pure (dst := (some 66)) (v := (Pt n1 0 6)) rfl rfl rfl noStore (none_ok _ _) rfl ?_
   refine PQ.pure (dst := (some 67)) (v := (.string x.data)) rfl rfl rfl (app [(n1, some ⟨[(cPrt x)], 15, 54, true⟩)] noStore) (seen_one (V := []) (D := [(n, some ⟨[(cPrt c)], 15, 54, true⟩), ((n + 1), some ⟨[[(.int .i64 0), (.int .i64 0), (.bool false), (.int .u32 0), (.string ByteArray.empty)]], 5, 29, true⟩), (ja, some (oPrt (q ++ [c]))), (n1, some ⟨[(cPrt x)], 15, 54, true⟩)]) (by kernel_rfl) (gt3 (by omega) get_here)) (r_load1 rfl rfl rfl rfl rfl get_here rfl rfl) ?_
   refine PQ.op (dst := (some 12)) (v := (Pt n2 0 0)) (n1 := (n2 + 1)) (d1 := [(n2, some ⟨[xRs45], 15, 54, true⟩)]) rfl rfl rfl noStore (none_ok _ _) rfl (by omega) (kp1 (wr_new (by omega) (by omega))) ?_
   refine PQ.op (dst := none) (v := (.tuple #[])) (n1 := (n2 + 1)) (d1 := [(n2, some ⟨[(xRs43 x)], 15, 54, true⟩)]) rfl rfl rfl _ (seen_any (V := [(n2, some ⟨[xRs45], 15, 54, true⟩)]) (D := [(n, some ⟨[(cPrt c)], 15, 54, true⟩), ((n + 1), some ⟨[[(.int .i64 0), (.int .i64 0), (.bool false), (.int .u32 0), (.string ByteArray.empty)]], 5, 29, true⟩), (ja, some (oPrt (q ++ [c]))), (n1, some ⟨[(cPrt x)], 15, 54, true⟩)]) (by kernel_rfl)) (r_store rfl rfl rfl rfl rfl rfl rfl get_here rfl rfl (Nat.le_of_ble_eq_true rfl) rfl) (by omega) (kp1 (wr_late [1, 2] (by kernel_rfl) (by kernel_rfl) (by omega) 3 (by kernel_rfl) (by simp [keys]) (fac (lo0 rfl) (fac (lo1 rfl (by omega)) fan)))) ?_
   refine PQ.pure (dst := (some 13)) (v := (.string x.data)) rfl rfl rfl noStore (none_ok _ _) rfl ?_
   refine PQ.done (d := [(n2, some ⟨[(xRs43 x)], 15, 54, true⟩), (n2, some ⟨[xRs45], 15, 54, true⟩)]) (by kernel_rfl) ?_
   intro _
   refine RA.weaken (D' := [(n2, some ⟨[(xRs43 x)], 15, 54, true⟩), (n, some ⟨[(cPrt c)], 15, 54, true⟩), ((n + 1), some ⟨[[(.int .i64 0), (.int .i64 0), (.bool false), (.int .u32 0), (.string ByteArray.empty)]], 5, 29, true⟩), (ja, some (oPrt (q ++ [c]))), (n1, some ⟨[(cPrt x)], 15, 54, true⟩)]) hd (Less.of (fac (mm (fun _ => get_here) (fun _ => get_here)) (fac (mm (fun _ => (get_there (by omega) get_here)) (fun _ => (gt2 (by omega) get_here))) (fac (mm (fun _ => (gt2 (by omega) get_here)) (fun _ => (gt3 (by omega) get_here))) (fac (mm (fun _ => (gt3 (by omega) get_here)) (fun _ => (gt4 (by omega) get_here))) (fac (mm (fun _ => (gt4 (by omega) get_here)) (fun _ => (gt5 (by omega) get_here))) fan))))) (gone_of (by simp only [goneP, memP, List.cons_append, List.nil_append, true_or, or_true, true_and, and_true, or_false] <;> omega))) ?_
   refine RA.seq hd ?_
   refine RA.seq hd ?_
   refine RA.region env_ok ?_
   refine OA.p (some 14) (.int .i64 0) rfl rfl rfl rfl ?_
   refine OA.nil ?_
   intro _
   refine RA.block ?_
   rw [← hxp] at hF
   refine RA.weaken (D' := [(n, some ⟨[(cPrt c)], 15, 54, true⟩), ((n + 1), some ⟨[[(.int .i64 0), (.int .i64 0), (.bool false), (.int .u32 0), (.string ByteArray.empty)]], 5, 29, true⟩), (ja, some (oPrt (q ++ [c]))), (n1, some ⟨[(cPrt x)], 15, 54, true⟩), (n2, some ⟨[(xRs43 x)], 15, 54, true⟩)]) hd (Less.of (fac (mm (fun _ => get_here) (fun _ => (get_there (by omega) get_here))) (fac (mm (fun _ => (get_there (by omega) get_here)) (fun _ => (gt2 (by omega) get_here))) (fac (mm (fun _ => (gt2 (by omega) get_here)) (fun _ => (gt3 (by omega) get_here))) (fac (mm (fun _ => (gt3 (by omega) get_here)) (fun _ => (gt4 (by omega) get_here))) (fac (mm (fun _ => (gt4 (by omega) get_here)) (fun _ => get_here)) fan))))) (gone_of (by simp only [goneP, memP, List.cons_append, List.nil_append, true_or, or_true, true_and, and_true, or_false] <;> omega))) ?_
   refine RA.loop hd (fun kk_ τ n' D => (∃ k : Nat, ∃ z : Prt, ∃ d : ByteArray, kk_ = K + 2 - k ∧ (n2 + 1) ≤ n' ∧ Has τ [(3, (Pt n 0 0)), (5, (.pointer (some ⟨(n + 1), 0, some 0⟩))), (7, (.slice (some ⟨ja, 0, none⟩) (K + 1) 2)), (8, (Pt n1 0 0)), (12, (Pt n2 0 0)), (13, (.string d)), (14, (.int .i64 ((k : Nat) : Int)))] ∧ D = [(n, some ⟨[(cPrt c)], 15, 54, true⟩), ((n + 1), some ⟨[[(.int .i64 0), (.int .i64 0), (.bool false), (.int .u32 0), (.string ByteArray.empty)]], 5, 29, true⟩), (ja, some (oPrt (q ++ [c]))), (n1, some ⟨[(cPrt x)], 15, 54, true⟩), (n2, some ⟨[(cPrt z)], 15, 54, true⟩)] ∧ (∀ i ∈ keys D, i < n') ∧ k ≤ K + 2 ∧ refF (q ++ [c]) (K + 2 - k) z d = none ∧ d.size ≤ 6 * (k + 1))) (K + 2 - 0) (⟨0, x, x.data, rfl, by omega, ⟨rfl, rfl, rfl, rfl, rfl, rfl, rfl, trivial⟩, (by rfl), (kb5 (by omega)), ⟨by omega, hF, by omega⟩⟩) ?_
   rintro kn20 τ20 n20 _ ⟨k, z, d, rfl, hn20, hHn20, rfl, hKn20, hIn20⟩
   rw [Has.eq hHn20]
   have hKn20_0 : n < n20 := hKn20 _ (by simp only [keys, List.map_cons, List.map_nil, List.mem_cons, true_or, or_true])
   have hKn20_1 : (n + 1) < n20 := hKn20 _ (by simp only [keys, List.map_cons, List.map_nil, List.mem_cons, true_or, or_true])
   have hKn20_2 : ja < n20 := hKn20 _ (by simp only [keys, List.map_cons, List.map_nil, List.mem_cons, true_or, or_true])
   have hKn20_3 : n1 < n20 := hKn20 _ (by simp only [keys, List.map_cons, List.map_nil, List.mem_cons, true_or, or_true])
   have hKn20_4 : n2 < n20 := hKn20 _ (by simp only [keys, List.map_cons, List.map_nil, List.mem_cons, true_or, or_true])
   clear hKn20
   obtain ⟨hk1, hkF, hdd⟩ := hIn20
   refine RA.seq hd ?_
   refine RA.seq hd ?_
   refine RA.region env_ok ?_
   refine OA.p (some 68) (.int .i64 ((k : Nat) : Int)) rfl rfl rfl rfl ?_
   refine OA.p (some 69) (.slice (some ⟨ja, 0, none⟩) (K + 1) 2) rfl rfl rfl rfl ?_
   refine OA.p (some 70) (.int .i64 (((K + 1) : Nat) : Int)) rfl rfl rfl rfl ?_
   by_cases hc12 : ((k : Nat) : Int) ≤ (((K + 1) : Nat) : Int)
   ·
    refine OA.p (some 71) (.bool true) rfl rfl rfl (Eq.trans (r_bin rfl rfl rfl (b_leq rfl)) (dT hc12)) ?_
    refine OA.p (some 72) (.bool true) rfl rfl rfl rfl ?_
    refine OA.p (some 73) (Pt n2 0 1) rfl rfl rfl rfl ?_
    refine OA.p (some 74) (.int .i64 ((z.fl.val : Nat) : Int)) rfl rfl rfl (r_load1 rfl rfl rfl rfl rfl (gt4 (by omega) get_here) rfl rfl) ?_
    refine OA.p (some 75) (.int .i64 (((z.fl.val % 2) : Nat) : Int)) rfl rfl rfl (r_bin rfl rfl rfl (b_remN (a := z.fl.val) (c := 2) (by decide))) ?_
    by_cases hc13 : (((z.fl.val % 2) : Nat) : Int) = 0
    ·
     refine OA.p (some 76) (.bool true) rfl rfl rfl (Eq.trans (r_bin rfl rfl rfl (b_eql rfl)) (dT hc13)) ?_
     refine OA.p (some 77) (.bool true) rfl rfl rfl rfl ?_
     refine OA.nil ?_
     intro _
     refine RA.condT rfl ?_
     refine RA.skip env_ok ?_
     intro _
     refine RA.seq hd ?_
     refine RA.block ?_
     refine RA.seq hd ?_
     refine RA.region env_ok ?_
     refine OA.p (some 81) (.slice (some ⟨ja, 0, none⟩) (K + 1) 2) rfl rfl rfl rfl ?_
     refine OA.p (some 82) (Pt n2 0 2) rfl rfl rfl rfl ?_
     refine OA.p (some 83) (W z.tsn) rfl rfl rfl (r_load1 rfl rfl rfl rfl rfl (gt4 (by omega) get_here) rfl rfl) ?_
     refine OA.p (some 84) (W (z.tsn + (1#32))) rfl rfl rfl (r_bin rfl rfl rfl (b_addW z.tsn (1#32))) ?_
     by_cases hc14 : atL (q ++ [c]) (z.tsn + (1#32)) = none
     ·
      refine OA.callP (dst := (some 85)) (all := [(.slice (some ⟨ja, 0, none⟩) (K + 1) 2), (W (z.tsn + (1#32)))]) (v := (.tuple ⟨[(.agg ⟨xRs45⟩), (.bool false)]⟩)) (hd.of (by omega) (kb5 (by omega))) rfl rfl rfl rfl rfl rfl rfl rfl (PS.to (sAt ja (K + 1) (q ++ [c]) (show (q ++ [c]).length = K + 1 from by rw [List.length_append, hq]; rfl) (by omega) (z.tsn + (1#32)) (gt2 (by omega) get_here)) (by rw [hc14]; rfl)) ?_
      intro n21 hn21
      refine OA.p (some 80) (.tuple ⟨[(.agg ⟨xRs45⟩), (.bool false)]⟩) rfl rfl rfl rfl ?_
      refine OA.p (some 86) (.agg ⟨xRs45⟩) rfl rfl rfl rfl ?_
      refine OA.p (some 87) (.bool false) rfl rfl rfl rfl ?_
      refine OA.op1 (dst := (some 15)) (v := (Pt n21 0 0)) (n1 := (n21 + 1)) (w := (n21, some ⟨[xRs45], 15, 54, true⟩)) rfl rfl rfl rfl (by omega) ?_
      refine OA.op1 (dst := none) (v := (.tuple #[])) (n1 := (n21 + 1)) (w := (n21, some ⟨[xRs45], 15, 54, true⟩)) rfl rfl rfl (r_store rfl rfl rfl rfl rfl rfl rfl get_here rfl rfl (Nat.le_of_ble_eq_true rfl) rfl) (by omega) ?_
      refine OA.p (some 16) (.bool false) rfl rfl rfl rfl ?_
      refine OA.nil ?_
      intro _
      refine RA.weaken (D' := [(n21, some ⟨[xRs45], 15, 54, true⟩), (n, some ⟨[(cPrt c)], 15, 54, true⟩), ((n + 1), some ⟨[[(.int .i64 0), (.int .i64 0), (.bool false), (.int .u32 0), (.string ByteArray.empty)]], 5, 29, true⟩), (ja, some (oPrt (q ++ [c]))), (n1, some ⟨[(cPrt x)], 15, 54, true⟩), (n2, some ⟨[(cPrt z)], 15, 54, true⟩)]) hd (Less.of (fac (mm (fun _ => get_here) (fun _ => get_here)) (fac (mm (fun _ => (get_there (by omega) get_here)) (fun _ => (gt2 (by omega) get_here))) (fac (mm (fun _ => (gt2 (by omega) get_here)) (fun _ => (gt3 (by omega) get_here))) (fac (mm (fun _ => (gt3 (by omega) get_here)) (fun _ => (gt4 (by omega) get_here))) (fac (mm (fun _ => (gt4 (by omega) get_here)) (fun _ => (gt5 (by omega) get_here))) (fac (mm (fun _ => (gt5 (by omega) get_here)) (fun _ => (gt6 (by omega) get_here))) fan)))))) (gone_of (by simp only [goneP, memP, List.cons_append, List.nil_append, true_or, or_true, true_and, and_true, or_false] <;> omega))) ?_
      refine RA.seq hd ?_
      refine RA.seq hd ?_
      refine RA.region env_ok ?_
      refine OA.p (some 88) (.bool false) rfl rfl rfl rfl ?_
      refine OA.p (some 89) (.bool true) rfl rfl rfl rfl ?_
      refine OA.p (some 90) (.bool true) rfl rfl rfl rfl ?_
      refine OA.off (dst := (some 91)) rfl rfl rfl ?_
      refine OA.off (dst := (some 92)) rfl rfl rfl ?_
      refine OA.off (dst := (some 93)) rfl rfl rfl ?_
      refine OA.off (dst := (some 94)) rfl rfl rfl ?_
      refine OA.off (dst := (some 95)) rfl rfl rfl ?_
      refine OA.p (some 96) (.bool true) rfl rfl rfl rfl ?_
      refine OA.p (some 97) (.bool true) rfl rfl rfl rfl ?_
      refine OA.off (dst := (some 98)) rfl rfl rfl ?_
      refine OA.off (dst := (some 99)) rfl rfl rfl ?_
      refine OA.off (dst := (some 100)) rfl rfl rfl ?_
      refine OA.off (dst := (some 101)) rfl rfl rfl ?_
      refine OA.p (some 102) (.bool true) rfl rfl rfl rfl ?_
      refine OA.nil ?_
      intro _
      refine RA.rebase [(3, (Pt n 0 0)), (5, (.pointer (some ⟨(n + 1), 0, some 0⟩))), (7, (.slice (some ⟨ja, 0, none⟩) (K + 1) 2)), (8, (Pt n1 0 0)), (12, (Pt n2 0 0)), (13, (.string d)), (14, (.int .i64 ((k : Nat) : Int))), (15, (Pt n21 0 0)), (16, (.bool false)), (77, (.bool true)), (102, (.bool true))] ⟨rfl, rfl, rfl, rfl, rfl, rfl, rfl, rfl, rfl, rfl, rfl, trivial⟩ (fun τr22 => ?_)
      refine RA.condT rfl ?_
      refine RA.seq hd ?_
      refine RA.region env_ok ?_
      refine OA.p (some 103) (.slice (some ⟨ja, 0, none⟩) (K + 1) 2) rfl rfl rfl rfl ?_
      refine OA.p (some 104) (.agg ⟨[(.int .i64 0), (.int .i64 0), (.bool false), (.int .u32 0), (.string ByteArray.empty)]⟩) rfl rfl rfl (by kernel_rfl) ?_
      refine OA.p (some 4) (.slice (some ⟨ja, 0, none⟩) (K + 1) 2) rfl rfl rfl rfl ?_
      refine OA.op1 (dst := none) (v := (.tuple #[])) (n1 := (n21 + 1)) (w := ((n + 1), some ⟨[[(.int .i64 0), (.int .i64 0), (.bool false), (.int .u32 0), (.string ByteArray.empty)]], 5, 29, true⟩)) rfl rfl rfl (r_store rfl rfl rfl rfl rfl rfl rfl (gt2 (by omega) get_here) rfl rfl (Nat.le_of_ble_eq_true rfl) rfl) (by omega) ?_
      refine OA.p (some 6) (.bool false) rfl rfl rfl rfl ?_
      refine OA.nil ?_
      intro _
      refine RA.weaken (D' := [((n + 1), some ⟨[[(.int .i64 0), (.int .i64 0), (.bool false), (.int .u32 0), (.string ByteArray.empty)]], 5, 29, true⟩), (n21, some ⟨[xRs45], 15, 54, true⟩), (n, some ⟨[(cPrt c)], 15, 54, true⟩), (ja, some (oPrt (q ++ [c]))), (n1, some ⟨[(cPrt x)], 15, 54, true⟩), (n2, some ⟨[(cPrt z)], 15, 54, true⟩)]) hd (Less.of (fac (mm (fun _ => get_here) (fun _ => get_here)) (fac (mm (fun _ => (get_there (by omega) get_here)) (fun _ => (get_there (by omega) get_here))) (fac (mm (fun _ => (gt2 (by omega) get_here)) (fun _ => (gt2 (by omega) get_here))) (fac (mm (fun _ => (gt3 (by omega) get_here)) (fun _ => (gt4 (by omega) get_here))) (fac (mm (fun _ => (gt4 (by omega) get_here)) (fun _ => (gt5 (by omega) get_here))) (fac (mm (fun _ => (gt5 (by omega) get_here)) (fun _ => (gt6 (by omega) get_here))) fan)))))) (gone_of (by simp only [goneP, memP, List.cons_append, List.nil_append, true_or, or_true, true_and, and_true, or_false] <;> omega))) ?_
      refine RA.ret env_ok ?_
      refine ⟨.inr rfl, (xRs46 ja K), (resL_cons rfl (resL_cons (res_cellA rfl rfl rfl get_here rfl rfl rfl) (resL_cons rfl resL_nil))), [(ja, some (oPrt (q ++ [c])))], (Less.of (fac (mm (fun _ => get_here) (fun _ => (gt3 (by omega) get_here))) fan) (gone_of (by simp only [goneP, memP, List.cons_append, List.nil_append, true_or, or_true, true_and, and_true, or_false] <;> omega))), ⟨ja, by omega, by omega, by rfl, rfl⟩⟩
     ·
      obtain ⟨y, hy⟩ := Option.ne_none_iff_exists'.1 hc14
      have hyd := hsz y (at_in hy)
      refine OA.callP (dst := (some 85)) (all := [(.slice (some ⟨ja, 0, none⟩) (K + 1) 2), (W (z.tsn + (1#32)))]) (v := (.tuple ⟨[(.agg ⟨(cPrt y)⟩), (.bool true)]⟩)) (hd.of (by omega) (kb5 (by omega))) rfl rfl rfl rfl rfl rfl rfl rfl (PS.to (sAt ja (K + 1) (q ++ [c]) (show (q ++ [c]).length = K + 1 from by rw [List.length_append, hq]; rfl) (by omega) (z.tsn + (1#32)) (gt2 (by omega) get_here)) (by rw [hy]; rfl)) ?_
      intro n23 hn23
      refine OA.p (some 80) (.tuple ⟨[(.agg ⟨(cPrt y)⟩), (.bool true)]⟩) rfl rfl rfl rfl ?_
      refine OA.p (some 86) (.agg ⟨(cPrt y)⟩) rfl rfl rfl rfl ?_
      refine OA.p (some 87) (.bool true) rfl rfl rfl rfl ?_
      refine OA.op1 (dst := (some 15)) (v := (Pt n23 0 0)) (n1 := (n23 + 1)) (w := (n23, some ⟨[xRs45], 15, 54, true⟩)) rfl rfl rfl rfl (by omega) ?_
      refine OA.op1 (dst := none) (v := (.tuple #[])) (n1 := (n23 + 1)) (w := (n23, some ⟨[(cPrt y)], 15, 54, true⟩)) rfl rfl rfl (r_store rfl rfl rfl rfl rfl rfl rfl get_here rfl rfl (Nat.le_of_ble_eq_true rfl) rfl) (by omega) ?_
      refine OA.p (some 16) (.bool true) rfl rfl rfl rfl ?_
      refine OA.nil ?_
      intro _
      refine RA.seq hd ?_
      refine RA.seq hd ?_
      refine RA.region env_ok ?_
      refine OA.p (some 88) (.bool true) rfl rfl rfl rfl ?_
      refine OA.p (some 89) (.bool false) rfl rfl rfl rfl ?_
      refine OA.p (some 90) (.bool false) rfl rfl rfl rfl ?_
      refine OA.p (some 91) (Pt n23 0 1) rfl rfl rfl rfl ?_
      refine OA.p (some 92) (.int .i64 ((y.fl.val : Nat) : Int)) rfl rfl rfl (r_load1 rfl rfl rfl rfl rfl get_here rfl rfl) ?_
      refine OA.p (some 93) (.int .i64 (((y.fl.val / 2) : Nat) : Int)) rfl rfl rfl (r_bin rfl rfl rfl (b_quoN (a := y.fl.val) (c := 2) (by decide) (i64_eq (by omega)))) ?_
      refine OA.p (some 94) (.int .i64 ((((y.fl.val / 2) % 2) : Nat) : Int)) rfl rfl rfl (r_bin rfl rfl rfl (b_remN (a := (y.fl.val / 2)) (c := 2) (by decide))) ?_
      by_cases hc15 : ((((y.fl.val / 2) % 2) : Nat) : Int) = 1
      ·
       refine OA.p (some 95) (.bool true) rfl rfl rfl (Eq.trans (r_bin rfl rfl rfl (b_eql rfl)) (dT hc15)) ?_
       refine OA.p (some 96) (.bool true) rfl rfl rfl rfl ?_
       refine OA.p (some 97) (.bool true) rfl rfl rfl rfl ?_
       refine OA.off (dst := (some 98)) rfl rfl rfl ?_
       refine OA.off (dst := (some 99)) rfl rfl rfl ?_
       refine OA.off (dst := (some 100)) rfl rfl rfl ?_
       refine OA.off (dst := (some 101)) rfl rfl rfl ?_
       refine OA.p (some 102) (.bool true) rfl rfl rfl rfl ?_
       refine OA.nil ?_
       intro _
       refine RA.rebase [(3, (Pt n 0 0)), (5, (.pointer (some ⟨(n + 1), 0, some 0⟩))), (7, (.slice (some ⟨ja, 0, none⟩) (K + 1) 2)), (8, (Pt n1 0 0)), (12, (Pt n2 0 0)), (13, (.string d)), (14, (.int .i64 ((k : Nat) : Int))), (15, (Pt n23 0 0)), (16, (.bool true)), (77, (.bool true)), (102, (.bool true))] ⟨rfl, rfl, rfl, rfl, rfl, rfl, rfl, rfl, rfl, rfl, rfl, trivial⟩ (fun τr24 => ?_)
       refine RA.condT rfl ?_
       refine RA.seq hd ?_
       refine RA.region env_ok ?_
       refine OA.p (some 103) (.slice (some ⟨ja, 0, none⟩) (K + 1) 2) rfl rfl rfl rfl ?_
       refine OA.p (some 104) (.agg ⟨[(.int .i64 0), (.int .i64 0), (.bool false), (.int .u32 0), (.string ByteArray.empty)]⟩) rfl rfl rfl (by kernel_rfl) ?_
       refine OA.p (some 4) (.slice (some ⟨ja, 0, none⟩) (K + 1) 2) rfl rfl rfl rfl ?_
       refine OA.op1 (dst := none) (v := (.tuple #[])) (n1 := (n23 + 1)) (w := ((n + 1), some ⟨[[(.int .i64 0), (.int .i64 0), (.bool false), (.int .u32 0), (.string ByteArray.empty)]], 5, 29, true⟩)) rfl rfl rfl (r_store rfl rfl rfl rfl rfl rfl rfl (gt3 (by omega) get_here) rfl rfl (Nat.le_of_ble_eq_true rfl) rfl) (by omega) ?_
       refine OA.p (some 6) (.bool false) rfl rfl rfl rfl ?_
       refine OA.nil ?_
       intro _
       refine RA.weaken (D' := [((n + 1), some ⟨[[(.int .i64 0), (.int .i64 0), (.bool false), (.int .u32 0), (.string ByteArray.empty)]], 5, 29, true⟩), (n23, some ⟨[(cPrt y)], 15, 54, true⟩), (n, some ⟨[(cPrt c)], 15, 54, true⟩), (ja, some (oPrt (q ++ [c]))), (n1, some ⟨[(cPrt x)], 15, 54, true⟩), (n2, some ⟨[(cPrt z)], 15, 54, true⟩)]) hd (Less.of (fac (mm (fun _ => get_here) (fun _ => get_here)) (fac (mm (fun _ => (get_there (by omega) get_here)) (fun _ => (get_there (by omega) get_here))) (fac (mm (fun _ => (gt2 (by omega) get_here)) (fun _ => (gt3 (by omega) get_here))) (fac (mm (fun _ => (gt3 (by omega) get_here)) (fun _ => (gt5 (by omega) get_here))) (fac (mm (fun _ => (gt4 (by omega) get_here)) (fun _ => (gt6 (by omega) get_here))) (fac (mm (fun _ => (gt5 (by omega) get_here)) (fun _ => (gt7 (by omega) get_here))) fan)))))) (gone_of (by simp only [goneP, memP, List.cons_append, List.nil_append, true_or, or_true, true_and, and_true, or_false] <;> omega))) ?_
       refine RA.ret env_ok ?_
       refine ⟨.inr rfl, (xRs46 ja K), (resL_cons rfl (resL_cons (res_cellA rfl rfl rfl get_here rfl rfl rfl) (resL_cons rfl resL_nil))), [(ja, some (oPrt (q ++ [c])))], (Less.of (fac (mm (fun _ => get_here) (fun _ => (gt3 (by omega) get_here))) fan) (gone_of (by simp only [goneP, memP, List.cons_append, List.nil_append, true_or, or_true, true_and, and_true, or_false] <;> omega))), ⟨ja, by omega, by omega, by rfl, rfl⟩⟩
      ·
       refine OA.p (some 95) (.bool false) rfl rfl rfl (Eq.trans (r_bin rfl rfl rfl (b_eql rfl)) (dF hc15)) ?_
       refine OA.p (some 96) (.bool false) rfl rfl rfl rfl ?_
       refine OA.p (some 97) (.bool false) rfl rfl rfl rfl ?_
       refine OA.p (some 98) (.agg ⟨(xRs42 y)⟩) rfl rfl rfl (r_loadA rfl rfl rfl rfl get_here rfl rfl rfl) ?_
       refine OA.p (some 99) (.agg ⟨(xRs44 z)⟩) rfl rfl rfl (r_loadA rfl rfl rfl rfl (gt6 (by omega) get_here) rfl rfl rfl) ?_
       by_cases hc16 : alike y z
       ·
        refine OA.callP (dst := (some 100)) (all := [(.agg ⟨(xRs42 y)⟩), (.agg ⟨(xRs44 z)⟩)]) (v := (.bool true)) (hd.of (by omega) (kb7 (by omega))) rfl rfl rfl rfl rfl rfl rfl rfl (PS.to (sAl y z) (show (.bool (decide (alike y z))) = ((.bool true) : Value) from (by first | (rw [decide_eq_true hc16]; done) | (rw [decide_eq_true hc16]; rfl)))) ?_
        intro n25 hn25
        refine OA.p (some 101) (.bool false) rfl rfl rfl rfl ?_
        refine OA.p (some 102) (.bool false) rfl rfl rfl rfl ?_
        refine OA.nil ?_
        intro _
        refine RA.rebase [(3, (Pt n 0 0)), (5, (.pointer (some ⟨(n + 1), 0, some 0⟩))), (7, (.slice (some ⟨ja, 0, none⟩) (K + 1) 2)), (8, (Pt n1 0 0)), (12, (Pt n2 0 0)), (13, (.string d)), (14, (.int .i64 ((k : Nat) : Int))), (15, (Pt n23 0 0)), (16, (.bool true)), (77, (.bool true)), (102, (.bool false))] ⟨rfl, rfl, rfl, rfl, rfl, rfl, rfl, rfl, rfl, rfl, rfl, trivial⟩ (fun τr26 => ?_)
        refine RA.condF rfl ?_
        refine RA.skip env_ok ?_
        intro _
        refine RA.par (md := [some [n23], some [], some [], some [n23], some [], none, some []]) env_ok (hd.of (by omega) (kb7 (by omega))) (by kernel_rfl) ?_
        refine PQ.pure (dst := (some 105)) (v := (.agg ⟨(xRs42 y)⟩)) rfl rfl rfl (app [(n23, some ⟨[(cPrt y)], 15, 54, true⟩)] noStore) (seen_one (V := []) (D := [(n23, some ⟨[(cPrt y)], 15, 54, true⟩), (n23, some ⟨[xRs45], 15, 54, true⟩), (n, some ⟨[(cPrt c)], 15, 54, true⟩), ((n + 1), some ⟨[[(.int .i64 0), (.int .i64 0), (.bool false), (.int .u32 0), (.string ByteArray.empty)]], 5, 29, true⟩), (ja, some (oPrt (q ++ [c]))), (n1, some ⟨[(cPrt x)], 15, 54, true⟩), (n2, some ⟨[(cPrt z)], 15, 54, true⟩)]) (by kernel_rfl) get_here) (r_loadA rfl rfl rfl rfl get_here rfl rfl rfl) ?_
        refine PQ.pure (dst := (some 106)) (v := (.string d)) rfl rfl rfl noStore (none_ok _ _) rfl ?_
        refine PQ.pure (dst := (some 107)) (v := (Pt n23 0 6)) rfl rfl rfl noStore (none_ok _ _) rfl ?_
        refine PQ.pure (dst := (some 108)) (v := (.string y.data)) rfl rfl rfl (app [(n23, some ⟨[(cPrt y)], 15, 54, true⟩)] noStore) (seen_one (V := []) (D := [(n23, some ⟨[(cPrt y)], 15, 54, true⟩), (n23, some ⟨[xRs45], 15, 54, true⟩), (n, some ⟨[(cPrt c)], 15, 54, true⟩), ((n + 1), some ⟨[[(.int .i64 0), (.int .i64 0), (.bool false), (.int .u32 0), (.string ByteArray.empty)]], 5, 29, true⟩), (ja, some (oPrt (q ++ [c]))), (n1, some ⟨[(cPrt x)], 15, 54, true⟩), (n2, some ⟨[(cPrt z)], 15, 54, true⟩)]) (by kernel_rfl) get_here) (r_load1 rfl rfl rfl rfl rfl get_here rfl rfl) ?_
        refine PQ.pure (dst := (some 109)) (v := (.string (d ++ y.data))) rfl rfl rfl noStore (none_ok _ _) (r_cat rfl rfl rfl (by (try simp only [ByteArray.size_append, bstr_size, size_lit, List.size_toArray, List.length_cons, List.length_nil, List.length_take, List.length_drop, List.length_replicate]); try omega)) ?_
        refine PQ.op (dst := none) (v := (.tuple #[])) (n1 := n25) (d1 := [(n2, some ⟨[(xRs42 y)], 15, 54, true⟩)]) rfl rfl rfl _ (seen_any (V := []) (D := [(n23, some ⟨[(cPrt y)], 15, 54, true⟩), (n23, some ⟨[xRs45], 15, 54, true⟩), (n, some ⟨[(cPrt c)], 15, 54, true⟩), ((n + 1), some ⟨[[(.int .i64 0), (.int .i64 0), (.bool false), (.int .u32 0), (.string ByteArray.empty)]], 5, 29, true⟩), (ja, some (oPrt (q ++ [c]))), (n1, some ⟨[(cPrt x)], 15, 54, true⟩), (n2, some ⟨[(cPrt z)], 15, 54, true⟩)]) (by kernel_rfl)) (r_store rfl rfl rfl rfl rfl rfl rfl (gt6 (by omega) get_here) rfl rfl (Nat.le_of_ble_eq_true rfl) rfl) (by omega) (kp1 (wr_old [1, 2, 3, 4] (by kernel_rfl) (by omega) (by omega) (fac (lo0 rfl) (fac (lo0 rfl) (fac (lo1 rfl (by omega)) (fac (lo0 rfl) fan)))))) ?_
        refine PQ.pure (dst := (some 13)) (v := (.string (d ++ y.data))) rfl rfl rfl noStore (none_ok _ _) rfl ?_
        refine PQ.done (d := [(n2, some ⟨[(xRs42 y)], 15, 54, true⟩)]) (by kernel_rfl) ?_
        intro _
        refine RA.weaken (D' := [(n2, some ⟨[(xRs42 y)], 15, 54, true⟩), (n23, some ⟨[(cPrt y)], 15, 54, true⟩), (n, some ⟨[(cPrt c)], 15, 54, true⟩), ((n + 1), some ⟨[[(.int .i64 0), (.int .i64 0), (.bool false), (.int .u32 0), (.string ByteArray.empty)]], 5, 29, true⟩), (ja, some (oPrt (q ++ [c]))), (n1, some ⟨[(cPrt x)], 15, 54, true⟩)]) hd (Less.of (fac (mm (fun _ => get_here) (fun _ => get_here)) (fac (mm (fun _ => (get_there (by omega) get_here)) (fun _ => (get_there (by omega) get_here))) (fac (mm (fun _ => (gt2 (by omega) get_here)) (fun _ => (gt3 (by omega) get_here))) (fac (mm (fun _ => (gt3 (by omega) get_here)) (fun _ => (gt4 (by omega) get_here))) (fac (mm (fun _ => (gt4 (by omega) get_here)) (fun _ => (gt5 (by omega) get_here))) (fac (mm (fun _ => (gt5 (by omega) get_here)) (fun _ => (gt6 (by omega) get_here))) fan)))))) (gone_of (by simp only [goneP, memP, List.cons_append, List.nil_append, true_or, or_true, true_and, and_true, or_false] <;> omega))) ?_
        refine RA.region env_ok ?_
        refine OA.p (some 78) (.int .i64 ((k : Nat) : Int)) rfl rfl rfl rfl ?_
        refine OA.p (some 79) (.int .i64 (((k + 1) : Nat) : Int)) rfl rfl rfl (r_bin rfl rfl rfl (b_add (i64_eq (by omega)))) ?_
        refine OA.p (some 14) (.int .i64 (((k + 1) : Nat) : Int)) rfl rfl rfl rfl ?_
        refine OA.nil ?_
        refine ⟨K + 2 - (k + 1), by omega, [(n, some ⟨[(cPrt c)], 15, 54, true⟩), ((n + 1), some ⟨[[(.int .i64 0), (.int .i64 0), (.bool false), (.int .u32 0), (.string ByteArray.empty)]], 5, 29, true⟩), (ja, some (oPrt (q ++ [c]))), (n1, some ⟨[(cPrt x)], 15, 54, true⟩), (n2, some ⟨[(xRs42 y)], 15, 54, true⟩)], (Less.of (fac (mm (fun _ => get_here) (fun _ => (gt2 (by omega) get_here))) (fac (mm (fun _ => (get_there (by omega) get_here)) (fun _ => (gt3 (by omega) get_here))) (fac (mm (fun _ => (gt2 (by omega) get_here)) (fun _ => (gt4 (by omega) get_here))) (fac (mm (fun _ => (gt3 (by omega) get_here)) (fun _ => (gt5 (by omega) get_here))) (fac (mm (fun _ => (gt4 (by omega) get_here)) (fun _ => get_here)) fan))))) (gone_of (by simp only [goneP, memP, List.cons_append, List.nil_append, true_or, or_true, true_and, and_true, or_false] <;> omega))), ⟨(k + 1), y, (d ++ y.data), rfl, by omega, ⟨rfl, rfl, rfl, rfl, rfl, rfl, rfl, trivial⟩, (by rfl), (kb5 (by omega)), ⟨by omega, by rw [show K + 2 - (k + 1) = K + 2 - k - 1 from by omega, ← refF_go (by omega) hc13 hy hc15 hc16]; exact hkF, by rw [ByteArray.size_append]; omega⟩⟩⟩
       ·
        refine OA.callP (dst := (some 100)) (all := [(.agg ⟨(xRs42 y)⟩), (.agg ⟨(xRs44 z)⟩)]) (v := (.bool false)) (hd.of (by omega) (kb7 (by omega))) rfl rfl rfl rfl rfl rfl rfl rfl (PS.to (sAl y z) (show (.bool (decide (alike y z))) = ((.bool false) : Value) from (by first | (rw [decide_eq_false hc16]; done) | (rw [decide_eq_false hc16]; rfl)))) ?_
        intro n27 hn27
        refine OA.p (some 101) (.bool true) rfl rfl rfl rfl ?_
        refine OA.p (some 102) (.bool true) rfl rfl rfl rfl ?_
        refine OA.nil ?_
        intro _
        refine RA.rebase [(3, (Pt n 0 0)), (5, (.pointer (some ⟨(n + 1), 0, some 0⟩))), (7, (.slice (some ⟨ja, 0, none⟩) (K + 1) 2)), (8, (Pt n1 0 0)), (12, (Pt n2 0 0)), (13, (.string d)), (14, (.int .i64 ((k : Nat) : Int))), (15, (Pt n23 0 0)), (16, (.bool true)), (77, (.bool true)), (102, (.bool true))] ⟨rfl, rfl, rfl, rfl, rfl, rfl, rfl, rfl, rfl, rfl, rfl, trivial⟩ (fun τr28 => ?_)
        refine RA.condT rfl ?_
        refine RA.seq hd ?_
        refine RA.region env_ok ?_
        refine OA.p (some 103) (.slice (some ⟨ja, 0, none⟩) (K + 1) 2) rfl rfl rfl rfl ?_
        refine OA.p (some 104) (.agg ⟨[(.int .i64 0), (.int .i64 0), (.bool false), (.int .u32 0), (.string ByteArray.empty)]⟩) rfl rfl rfl (by kernel_rfl) ?_
        refine OA.p (some 4) (.slice (some ⟨ja, 0, none⟩) (K + 1) 2) rfl rfl rfl rfl ?_
        refine OA.op1 (dst := none) (v := (.tuple #[])) (n1 := n27) (w := ((n + 1), some ⟨[[(.int .i64 0), (.int .i64 0), (.bool false), (.int .u32 0), (.string ByteArray.empty)]], 5, 29, true⟩)) rfl rfl rfl (r_store rfl rfl rfl rfl rfl rfl rfl (gt3 (by omega) get_here) rfl rfl (Nat.le_of_ble_eq_true rfl) rfl) (by omega) ?_
        refine OA.p (some 6) (.bool false) rfl rfl rfl rfl ?_
        refine OA.nil ?_
        intro _
        refine RA.weaken (D' := [((n + 1), some ⟨[[(.int .i64 0), (.int .i64 0), (.bool false), (.int .u32 0), (.string ByteArray.empty)]], 5, 29, true⟩), (n23, some ⟨[(cPrt y)], 15, 54, true⟩), (n, some ⟨[(cPrt c)], 15, 54, true⟩), (ja, some (oPrt (q ++ [c]))), (n1, some ⟨[(cPrt x)], 15, 54, true⟩), (n2, some ⟨[(cPrt z)], 15, 54, true⟩)]) hd (Less.of (fac (mm (fun _ => get_here) (fun _ => get_here)) (fac (mm (fun _ => (get_there (by omega) get_here)) (fun _ => (get_there (by omega) get_here))) (fac (mm (fun _ => (gt2 (by omega) get_here)) (fun _ => (gt3 (by omega) get_here))) (fac (mm (fun _ => (gt3 (by omega) get_here)) (fun _ => (gt5 (by omega) get_here))) (fac (mm (fun _ => (gt4 (by omega) get_here)) (fun _ => (gt6 (by omega) get_here))) (fac (mm (fun _ => (gt5 (by omega) get_here)) (fun _ => (gt7 (by omega) get_here))) fan)))))) (gone_of (by simp only [goneP, memP, List.cons_append, List.nil_append, true_or, or_true, true_and, and_true, or_false] <;> omega))) ?_
        refine RA.ret env_ok ?_
        refine ⟨.inr rfl, (xRs46 ja K), (resL_cons rfl (resL_cons (res_cellA rfl rfl rfl get_here rfl rfl rfl) (resL_cons rfl resL_nil))), [(ja, some (oPrt (q ++ [c])))], (Less.of (fac (mm (fun _ => get_here) (fun _ => (gt3 (by omega) get_here))) fan) (gone_of (by simp only [goneP, memP, List.cons_append, List.nil_append, true_or, or_true, true_and, and_true, or_false] <;> omega))), ⟨ja, by omega, by omega, by rfl, rfl⟩⟩
    ·
     refine OA.p (some 76) (.bool false) rfl rfl rfl (Eq.trans (r_bin rfl rfl rfl (b_eql rfl)) (dF hc13)) ?_
     refine OA.p (some 77) (.bool false) rfl rfl rfl rfl ?_
     refine OA.nil ?_
     intro _
     refine RA.condF rfl ?_
     refine RA.exit env_ok ?_
     have hzs : refF (q ++ [c]) (K + 2 - k) z d = some (z, d) := refF_stop (.inr hc13)
     cases hzs.symm.trans hkF
   ·
    refine OA.p (some 71) (.bool false) rfl rfl rfl (Eq.trans (r_bin rfl rfl rfl (b_leq rfl)) (dF hc12)) ?_
    refine OA.p (some 72) (.bool false) rfl rfl rfl rfl ?_
    refine OA.off (dst := (some 73)) rfl rfl rfl ?_
    refine OA.off (dst := (some 74)) rfl rfl rfl ?_
    refine OA.off (dst := (some 75)) rfl rfl rfl ?_
    refine OA.off (dst := (some 76)) rfl rfl rfl ?_
    refine OA.p (some 77) (.bool false) rfl rfl rfl rfl ?_
    refine OA.nil ?_
    intro _
    refine RA.condF rfl ?_
    refine RA.exit env_ok ?_
    have hzs : refF (q ++ [c]) (K + 2 - k) z d = some (z, d) := refF_stop (.inl (by omega))
    cases hzs.symm.trans hkF
end Go.Proofs.Ytmepflkodjdgdaa.Vt
