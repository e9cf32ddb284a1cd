/- Rs7: walks through functions of the program, by the calculus; written by a program of this workplace. -/
import Derived.Test.YtmepflkodjdgdaaRs4
import Derived.Test.YtmepflkodjdgdaaVm6
namespace Go.Proofs.Ytmepflkodjdgdaa.Vt
open Go Go.Proofs Go.Proofs.YtmepflkodjdgdaaV
set_option maxRecDepth 100000
set_option linter.unusedVariables false
set_option linter.unusedSimpArgs false
abbrev xRs71 (q : List Prt) (c : Prt) (i : Nat) : List Value := [(.int .i64 0), (.int .i64 ((((q ++ [c]).getD i dPrt).fl.val : Nat) : Int)), (W ((q ++ [c]).getD i dPrt).tsn), (.int .i64 ((((q ++ [c]).getD i dPrt).st : Nat) : Int)), (.int .i64 ((((q ++ [c]).getD i dPrt).ssn : Nat) : Int)), (W ((q ++ [c]).getD i dPrt).proto), (.string ((q ++ [c]).getD i dPrt).data), (.int .u32 0), (.int .u32 0), (.int .i64 0), (.int .i64 0), (.slice none 0 0), (.slice none 0 0), (.slice none 0 0), (.slice none 0 0)]
abbrev xRs72 (c : Prt) : List Value := [(.int .i64 0), (.int .i64 ((c.fl.val : Nat) : Int)), (W c.tsn), (.int .i64 ((c.st : Nat) : Int)), (.int .i64 ((c.ssn : Nat) : Int)), (W c.proto), (.string c.data), (.int .u32 0), (.int .u32 0), (.int .i64 0), (.int .i64 0), (.slice none 0 0), (.slice none 0 0), (.slice none 0 0), (.slice none 0 0)]
abbrev xRs73 (y : Prt) : List Value := [(.int .i64 0), (.int .i64 ((y.fl.val : Nat) : Int)), (W y.tsn), (.int .i64 ((y.st : Nat) : Int)), (.int .i64 ((y.ssn : Nat) : Int)), (W y.proto), (.string y.data), (.int .u32 0), (.int .u32 0), (.int .i64 0), (.int .i64 0), (.slice none 0 0), (.slice none 0 0), (.slice none 0 0), (.slice none 0 0)]
abbrev xRs74 (x : Prt) : List Value := [(.int .i64 0), (.int .i64 ((x.fl.val : Nat) : Int)), (W x.tsn), (.int .i64 ((x.st : Nat) : Int)), (.int .i64 ((x.ssn : Nat) : Int)), (W x.proto), (.string x.data), (.int .u32 0), (.int .u32 0), (.int .i64 0), (.int .i64 0), (.slice none 0 0), (.slice none 0 0), (.slice none 0 0), (.slice none 0 0)]
abbrev xRs75 (z : Prt) : List Value := [(.int .i64 0), (.int .i64 ((z.fl.val : Nat) : Int)), (W z.tsn), (.int .i64 ((z.st : Nat) : Int)), (.int .i64 ((z.ssn : Nat) : Int)), (W z.proto), (.string z.data), (.int .u32 0), (.int .u32 0), (.int .i64 0), (.int .i64 0), (.slice none 0 0), (.slice none 0 0), (.slice none 0 0), (.slice none 0 0)]
abbrev xRs76 : List Value := [(.int .i64 0), (.int .i64 0), (.int .u32 0), (.int .i64 0), (.int .i64 0), (.int .u32 0), (.string ByteArray.empty), (.int .u32 0), (.int .u32 0), (.int .i64 0), (.int .i64 0), (.slice none 0 0), (.slice none 0 0), (.slice none 0 0), (.slice none 0 0)]
abbrev xRs77 (jr : Nat) (M : Nat) (c : Prt) (x : Prt) (d : ByteArray) : List Value := [(.slice (some ⟨jr, 0, none⟩) M 2), (.agg ⟨[(.int .i64 ((c.st : Nat) : Int)), (.int .i64 ((c.ssn : Nat) : Int)), (.bool false), (W x.proto), (.string d)]⟩), (.bool true)]
abbrev xRs78 (ja : Nat) (K : Nat) : List Value := [(.slice (some ⟨ja, 0, none⟩) (K + 1) 2), (.agg ⟨[(.int .i64 0), (.int .i64 0), (.bool false), (.int .u32 0), (.string ByteArray.empty)]⟩), (.bool false)]
abbrev xRs79 (jr : Nat) (M : Nat) (c : Prt) (x : Prt) (d : ByteArray) : List Value := [(.slice (some ⟨jr, 0, none⟩) M 2), (.agg ⟨[(.int .i64 ((c.st : Nat) : Int)), (.int .i64 0), (.bool true), (W x.proto), (.string d)]⟩), (.bool true)]
abbrev xRs710 (c : Prt) (x : Prt) (d : ByteArray) : List Value := [(.int .i64 ((c.st : Nat) : Int)), (.int .i64 ((c.ssn : Nat) : Int)), (.bool false), (W x.proto), (.string d)]
abbrev xRs711 (c : Prt) (x : Prt) (d : ByteArray) : List Value := [(.int .i64 ((c.st : Nat) : Int)), (.int .i64 ((c.ssn : Nat) : Int)), (.bool true), (W x.proto), (.string d)]
set_option maxHeartbeats 4000000 in
theorem sRefY {n : Nat} {σ : Store} (hd : Dom n σ) (jv K : Nat) (q : List Prt) (hq : q.length = K) (hK : K ≤ 900) (c : Prt) (hsz : ∀ x ∈ (q ++ [c]), x.data.size ≤ 6) (hsc : c.data.size ≤ 6) (pf : Prt) (hB : refB (q ++ [c]) (K + 2) c = some pf) (pl : Prt) (dd : ByteArray) (hF : refF (q ++ [c]) (K + 2) pf pf.data = some (pl, dd)) (hjv : σ jv = some (oPrt q))  : CQ Try.prog noDen 31 [(.slice (some ⟨jv, 0, none⟩) K 2), (.agg ⟨(cPrt c)⟩)] n σ (fun v n' d => ∃ ja M, n ≤ ja ∧ ja < n' ∧ ((q ++ [c]).filter (keepP pf pl)).length = M ∧ M ≤ K + 1 ∧ v = .tuple #[.slice (some ⟨ja, 0, none⟩) M 2, (.agg ⟨(cMsg (mkM c pf.proto dd))⟩), .bool true] ∧ d = [(ja, some (oPrt ((q ++ [c]).filter (keepP pf pl))))]) := by
 have lhjv := hd.lt hjv
 refine CQ.body (E := env) env_ok hd rfl rfl (by show _ ≤ _; exact of_decide_eq_true (by kernel_rfl)) ?_
 refine RA.seq hd ?_
 refine RA.region env_ok ?_
 refine OA.op1 (dst := (some 3)) (v := (Pt n 0 0)) (n1 := (n + 1)) (w := (n, some ⟨[(cPrt c)], 15, 54, true⟩)) rfl rfl rfl rfl (by omega) ?_
 refine OA.p (some 4) (.slice none 0 0) rfl rfl rfl rfl ?_
 refine OA.op1 (dst := (some 5)) (v := (.pointer (some ⟨(n + 1), 0, some 0⟩))) (n1 := (n + 2)) (w := ((n + 1), some ⟨[[(.int .i64 0), (.int .i64 0), (.bool false), (.int .u32 0), (.string ByteArray.empty)]], 5, 29, true⟩)) rfl rfl rfl rfl (by omega) ?_
 refine OA.p (some 6) (.bool false) rfl rfl rfl rfl ?_
 refine OA.nil ?_
 intro _
 refine RA.seq hd (RA.imp (Q := fun x τ' n' D' => x = .normal ∧ ((∃ ja : Nat, Has τ' [(3, (Pt n 0 0)), (5, (.pointer (some ⟨(n + 1), 0, some 0⟩))), (7, (.slice (some ⟨ja, 0, none⟩) (K + 1) 0))] ∧ (∃ D2, Less n n' D' D2 ∧ D2 = [(n, some ⟨[(cPrt c)], 15, 54, true⟩), ((n + 1), some ⟨[[(.int .i64 0), (.int .i64 0), (.bool false), (.int .u32 0), (.string ByteArray.empty)]], 5, 29, true⟩), (ja, some (oPrt (q ++ [c])))]) ∧ (n + 2) ≤ n' ∧ (∀ i_ ∈ keys [(n, some ⟨[(cPrt c)], 15, 54, true⟩), ((n + 1), some ⟨[[(.int .i64 0), (.int .i64 0), (.bool false), (.int .u32 0), (.string ByteArray.empty)]], 5, 29, true⟩), (ja, some (oPrt (q ++ [c])))], i_ < n') ∧ (n + 1) < ja))) ?_ ?_)
 ·
  refine RA.par (md := [some [], some [], none, some [n], some [], none, some []]) env_ok (hd.of (by omega) (kb2 (by omega))) (by kernel_rfl) ?_
  refine PQ.op (dst := (some 20)) (v := (.slice (some ⟨(n + 2), 0, none⟩) 0 0)) (n1 := (n + 3)) (d1 := [((n + 2), some (oPrt ([] : List Prt)))]) rfl rfl rfl noStore (none_ok _ _) (by kernel_rfl) (by omega) (kp1 (wr_new (by omega) (by omega))) ?_
  refine PQ.pure (dst := (some 21)) (v := (.slice (some ⟨jv, 0, none⟩) K 2)) rfl rfl rfl noStore (none_ok _ _) rfl ?_
  by_cases hc1 : K = 0
  ·
   refine PQ.pure (dst := (some 22)) (v := (.slice (some ⟨(n + 2), 0, none⟩) 0 0)) rfl rfl rfl _ (seen_any (V := [((n + 2), some (oPrt ([] : List Prt)))]) (D := [((n + 1), some ⟨[[(.int .i64 0), (.int .i64 0), (.bool false), (.int .u32 0), (.string ByteArray.empty)]], 5, 29, true⟩), (n, some ⟨[(cPrt c)], 15, 54, true⟩)]) (by kernel_rfl)) (r_appendZ rfl rfl rfl rfl (.inl ⟨_, _, _, rfl, by decide⟩) rfl rfl rfl rfl rfl (by decide) (by omega)) ?_
   refine PQ.pure (dst := (some 23)) (v := (.agg ⟨(xRs72 c)⟩)) rfl rfl rfl (app [(n, some ⟨[(cPrt c)], 15, 54, true⟩)] noStore) (seen_one (V := []) (D := [((n + 1), some ⟨[[(.int .i64 0), (.int .i64 0), (.bool false), (.int .u32 0), (.string ByteArray.empty)]], 5, 29, true⟩), (n, some ⟨[(cPrt c)], 15, 54, true⟩)]) (by kernel_rfl) (get_there (by omega) get_here)) (r_loadA rfl rfl rfl rfl get_here rfl rfl rfl) ?_
   refine PQ.op (dst := (some 24)) (v := (.slice (some ⟨(n + 3), 0, none⟩) 1 0)) (n1 := (n + 4)) (d1 := [((n + 3), some ⟨[(xRs72 c)], 15, 54, true⟩)]) rfl rfl rfl noStore (none_ok _ _) (by kernel_rfl) (by omega) (kp1 (wr_new (by omega) (by omega))) ?_
   refine PQ.op (dst := (some 25)) (v := (.slice (some ⟨(n + 4), 0, none⟩) 1 0)) (n1 := (n + 5)) (d1 := [((n + 4), some (oPrt (q ++ [c]))), ((n + 2), none)]) rfl rfl rfl _ (seen_any (V := [((n + 3), some ⟨[(xRs72 c)], 15, 54, true⟩), ((n + 2), some (oPrt ([] : List Prt)))]) (D := [((n + 1), some ⟨[[(.int .i64 0), (.int .i64 0), (.bool false), (.int .u32 0), (.string ByteArray.empty)]], 5, 29, true⟩), (n, some ⟨[(cPrt c)], 15, 54, true⟩)]) (by kernel_rfl)) (r_appendR (c := cPrt) (l' := (q ++ [c])) rfl rfl rfl rfl rfl rfl rfl rfl rfl rfl (by decide) (get_there (by omega) get_here) get_here (by rw [show ([] : List Prt).length = 0 from rfl]) (by rw [nil_of hq (by omega)]; rfl) (by omega) (of_decide_eq_true (by kernel_rfl)) (by omega)) (by omega) (kp2 (wr_new (by omega) (by omega)) (wr_tight (by kernel_rfl) (by omega))) ?_
   refine PQ.pure (dst := (some 7)) (v := (.slice (some ⟨(n + 4), 0, none⟩) 1 0)) rfl rfl rfl noStore (none_ok _ _) rfl ?_
   refine PQ.done (d := [((n + 4), some (oPrt (q ++ [c]))), ((n + 2), none), ((n + 3), some ⟨[(xRs72 c)], 15, 54, true⟩), ((n + 2), some (oPrt ([] : List Prt)))]) (by kernel_rfl) ?_
   exact ⟨rfl, ⟨(n + 4), ⟨rfl, rfl, (by have hK0 : K = 0 := (by omega); subst hK0; rfl), trivial⟩, ⟨[(n, some ⟨[(cPrt c)], 15, 54, true⟩), ((n + 1), some ⟨[[(.int .i64 0), (.int .i64 0), (.bool false), (.int .u32 0), (.string ByteArray.empty)]], 5, 29, true⟩), ((n + 4), some (oPrt (q ++ [c])))], (Less.of (fac (mm (fun _ => get_here) (fun _ => (gt5 (by omega) get_here))) (fac (mm (fun _ => (get_there (by omega) get_here)) (fun _ => (gt4 (by omega) get_here))) (fac (mm (fun _ => (gt2 (by omega) get_here)) (fun _ => get_here)) fan))) (gone_of (by simp only [goneP, memP, List.cons_append, List.nil_append, true_or, or_true, true_and, and_true, or_false] <;> omega))), rfl⟩, by omega, (kb3 (by omega)), by omega⟩⟩
  ·
   refine PQ.op (dst := (some 22)) (v := (.slice (some ⟨(n + 3), 0, none⟩) K 0)) (n1 := (n + 4)) (d1 := [((n + 3), some (oPrt q)), ((n + 2), none)]) rfl rfl rfl _ (seen_any (V := [((n + 2), some (oPrt ([] : List Prt)))]) (D := [((n + 1), some ⟨[[(.int .i64 0), (.int .i64 0), (.bool false), (.int .u32 0), (.string ByteArray.empty)]], 5, 29, true⟩), (n, some ⟨[(cPrt c)], 15, 54, true⟩)]) (by kernel_rfl)) (r_appendL (c := cPrt) (l' := q) rfl rfl rfl rfl rfl rfl rfl rfl rfl rfl (by decide) get_here (gt3 (by omega) hjv) (by rw [show ([] : List Prt).length = 0 from rfl]) (by omega) (by rw [hq]; omega) (by rw [List.nil_append, take_all' (by rw [hq])]) (by omega) (of_decide_eq_true (by kernel_rfl)) (by omega)) (by omega) (kp2 (wr_new (by omega) (by omega)) (wr_late [3, 4] (by kernel_rfl) (by kernel_rfl) (by omega) 0 (by kernel_rfl) (by simp [keys]) (fac (lo1 rfl (by omega)) (fac (lo0 rfl) fan)))) ?_
   refine PQ.pure (dst := (some 23)) (v := (.agg ⟨(xRs72 c)⟩)) rfl rfl rfl (app [(n, some ⟨[(cPrt c)], 15, 54, true⟩)] noStore) (seen_one (V := []) (D := [((n + 1), some ⟨[[(.int .i64 0), (.int .i64 0), (.bool false), (.int .u32 0), (.string ByteArray.empty)]], 5, 29, true⟩), (n, some ⟨[(cPrt c)], 15, 54, true⟩)]) (by kernel_rfl) (get_there (by omega) get_here)) (r_loadA rfl rfl rfl rfl get_here rfl rfl rfl) ?_
   refine PQ.op (dst := (some 24)) (v := (.slice (some ⟨(n + 4), 0, none⟩) 1 0)) (n1 := (n + 5)) (d1 := [((n + 4), some ⟨[(xRs72 c)], 15, 54, true⟩)]) rfl rfl rfl noStore (none_ok _ _) (by kernel_rfl) (by omega) (kp1 (wr_new (by omega) (by omega))) ?_
   refine PQ.op (dst := (some 25)) (v := (.slice (some ⟨(n + 5), 0, none⟩) (K + 1) 0)) (n1 := (n + 6)) (d1 := [((n + 5), some (oPrt (q ++ [c]))), ((n + 3), none)]) rfl rfl rfl _ (seen_any (V := [((n + 4), some ⟨[(xRs72 c)], 15, 54, true⟩), ((n + 3), some (oPrt q)), ((n + 2), none), ((n + 2), some (oPrt ([] : List Prt)))]) (D := [((n + 1), some ⟨[[(.int .i64 0), (.int .i64 0), (.bool false), (.int .u32 0), (.string ByteArray.empty)]], 5, 29, true⟩), (n, some ⟨[(cPrt c)], 15, 54, true⟩)]) (by kernel_rfl)) (r_appendR (c := cPrt) (l' := (q ++ [c])) rfl rfl rfl rfl rfl rfl rfl rfl rfl rfl (by decide) (get_there (by omega) get_here) get_here (by rw [hq]) (mp_snoc (c := cPrt) (x := c)) (by omega) (of_decide_eq_true (by kernel_rfl)) (by omega)) (by omega) (kp2 (wr_new (by omega) (by omega)) (wr_tight (by kernel_rfl) (by omega))) ?_
   refine PQ.pure (dst := (some 7)) (v := (.slice (some ⟨(n + 5), 0, none⟩) (K + 1) 0)) rfl rfl rfl noStore (none_ok _ _) rfl ?_
   refine PQ.done (d := [((n + 5), some (oPrt (q ++ [c]))), ((n + 3), none), ((n + 4), some ⟨[(xRs72 c)], 15, 54, true⟩), ((n + 3), some (oPrt q)), ((n + 2), none), ((n + 2), some (oPrt ([] : List Prt)))]) (by kernel_rfl) ?_
   exact ⟨rfl, ⟨(n + 5), ⟨rfl, rfl, rfl, trivial⟩, ⟨[(n, some ⟨[(cPrt c)], 15, 54, true⟩), ((n + 1), some ⟨[[(.int .i64 0), (.int .i64 0), (.bool false), (.int .u32 0), (.string ByteArray.empty)]], 5, 29, true⟩), ((n + 5), some (oPrt (q ++ [c])))], (Less.of (fac (mm (fun _ => get_here) (fun _ => (gt7 (by omega) get_here))) (fac (mm (fun _ => (get_there (by omega) get_here)) (fun _ => (gt6 (by omega) get_here))) (fac (mm (fun _ => (gt2 (by omega) get_here)) (fun _ => get_here)) fan))) (gone_of (by simp only [goneP, memP, List.cons_append, List.nil_append, true_or, or_true, true_and, and_true, or_false] <;> omega))), rfl⟩, by omega, (kb3 (by omega)), by omega⟩⟩
 ·
  rintro _ τ1 n1 Dn1 hmn1 ⟨rfl, hSn1⟩
  rcases hSn1 with ⟨ja, hHn1, ⟨_, hLn1, rfl⟩, hn1, hKn1, hIn1⟩
  intro _
  refine RA.weaken hd hLn1 ?_
  rw [Has.eq hHn1]
  have hKn1_0 : n < n1 := hKn1 _ (by simp only [keys, List.map_cons, List.map_nil, List.mem_cons, true_or, or_true])
  have hKn1_1 : (n + 1) < n1 := hKn1 _ (by simp only [keys, List.map_cons, List.map_nil, List.mem_cons, true_or, or_true])
  have hKn1_2 : ja < n1 := hKn1 _ (by simp only [keys, List.map_cons, List.map_nil, List.mem_cons, true_or, or_true])
  clear hKn1
  have hja := hIn1
  have hsa : ∀ x ∈ (q ++ [c]), x.data.size ≤ 6 := hsz
  refine RA.seq hd ?_
  refine RA.region env_ok ?_
  refine OA.p (some 26) (.agg ⟨(xRs72 c)⟩) rfl rfl rfl (r_loadA rfl rfl rfl rfl get_here rfl rfl rfl) ?_
  refine OA.op1 (dst := (some 8)) (v := (Pt n1 0 0)) (n1 := (n1 + 1)) (w := (n1, some ⟨[xRs76], 15, 54, true⟩)) rfl rfl rfl rfl (by omega) ?_
  refine OA.op1 (dst := none) (v := (.tuple #[])) (n1 := (n1 + 1)) (w := (n1, some ⟨[(xRs72 c)], 15, 54, true⟩)) rfl rfl rfl (r_store rfl rfl rfl rfl rfl rfl rfl get_here rfl rfl (Nat.le_of_ble_eq_true rfl) rfl) (by omega) ?_
  refine OA.nil ?_
  intro _
  refine RA.leT (t := 7) (v := (.slice (some ⟨ja, 0, none⟩) (K + 1) 0)) (v' := (.slice (some ⟨ja, 0, none⟩) (K + 1) 2)) rfl (vle_row _ _ _) ?_
  refine RA.weaken (D' := [(n1, some ⟨[(xRs72 c)], 15, 54, true⟩), (n, some ⟨[(cPrt c)], 15, 54, true⟩), ((n + 1), some ⟨[[(.int .i64 0), (.int .i64 0), (.bool false), (.int .u32 0), (.string ByteArray.empty)]], 5, 29, true⟩), (ja, some (oPrt (q ++ [c])))]) hd (Less.of (fac (mm (fun _ => get_here) (fun _ => get_here)) (fac (mm (fun _ => (get_there (by omega) get_here)) (fun _ => (gt2 (by omega) get_here))) (fac (mm (fun _ => (gt2 (by omega) get_here)) (fun _ => (gt3 (by omega) get_here))) (fac (mm (fun _ => (gt3 (by omega) get_here)) (fun _ => (gt4 (by omega) get_here))) fan)))) (gone_of (by simp only [goneP, memP, List.cons_append, List.nil_append, true_or, or_true, true_and, and_true, or_false] <;> omega))) ?_
  refine RA.seq hd ?_
  refine RA.seq hd ?_
  refine RA.region env_ok ?_
  refine OA.p (some 9) (.int .i64 0) rfl rfl rfl rfl ?_
  refine OA.nil ?_
  intro _
  refine RA.block ?_
  refine RA.weaken (D' := [(n, some ⟨[(cPrt c)], 15, 54, true⟩), ((n + 1), some ⟨[[(.int .i64 0), (.int .i64 0), (.bool false), (.int .u32 0), (.string ByteArray.empty)]], 5, 29, true⟩), (ja, some (oPrt (q ++ [c]))), (n1, some ⟨[(xRs72 c)], 15, 54, true⟩)]) hd (Less.of (fac (mm (fun _ => get_here) (fun _ => (get_there (by omega) get_here))) (fac (mm (fun _ => (get_there (by omega) get_here)) (fun _ => (gt2 (by omega) get_here))) (fac (mm (fun _ => (gt2 (by omega) get_here)) (fun _ => (gt3 (by omega) get_here))) (fac (mm (fun _ => (gt3 (by omega) get_here)) (fun _ => get_here)) fan)))) (gone_of (by simp only [goneP, memP, List.cons_append, List.nil_append, true_or, or_true, true_and, and_true, or_false] <;> omega))) ?_
  refine RA.loop hd (fun kk_ τ n' D => (∃ k : Nat, ∃ x : Prt, kk_ = K + 2 - k ∧ (n1 + 1) ≤ n' ∧ Has τ [(3, (Pt n 0 0)), (5, (.pointer (some ⟨(n + 1), 0, some 0⟩))), (7, (.slice (some ⟨ja, 0, none⟩) (K + 1) 2)), (8, (Pt n1 0 0)), (9, (.int .i64 ((k : Nat) : Int)))] ∧ D = [(n, some ⟨[(cPrt c)], 15, 54, true⟩), ((n + 1), some ⟨[[(.int .i64 0), (.int .i64 0), (.bool false), (.int .u32 0), (.string ByteArray.empty)]], 5, 29, true⟩), (ja, some (oPrt (q ++ [c]))), (n1, some ⟨[(cPrt x)], 15, 54, true⟩)] ∧ (∀ i ∈ keys D, i < n') ∧ k ≤ K + 2 ∧ refB (q ++ [c]) (K + 2 - k) x = some pf ∧ x.data.size ≤ 6)) (K + 2 - 0) (⟨0, c, rfl, by omega, ⟨rfl, rfl, rfl, rfl, rfl, trivial⟩, (by rfl), (kb4 (by omega)), ⟨by omega, hB, hsc⟩⟩) ?_
  rintro kn2 τ2 n2 _ ⟨k, x, rfl, hn2, hHn2, rfl, hKn2, hIn2⟩
  rw [Has.eq hHn2]
  have hKn2_0 : n < n2 := hKn2 _ (by simp only [keys, List.map_cons, List.map_nil, List.mem_cons, true_or, or_true])
  have hKn2_1 : (n + 1) < n2 := hKn2 _ (by simp only [keys, List.map_cons, List.map_nil, List.mem_cons, true_or, or_true])
  have hKn2_2 : ja < n2 := hKn2 _ (by simp only [keys, List.map_cons, List.map_nil, List.mem_cons, true_or, or_true])
  have hKn2_3 : n1 < n2 := hKn2 _ (by simp only [keys, List.map_cons, List.map_nil, List.mem_cons, true_or, or_true])
  clear hKn2
  obtain ⟨hk1, hkB, hxd⟩ := hIn2
  refine RA.seq hd ?_
  refine RA.seq hd ?_
  refine RA.region env_ok ?_
  refine OA.p (some 27) (.int .i64 ((k : Nat) : Int)) rfl rfl rfl rfl ?_
  refine OA.p (some 28) (.slice (some ⟨ja, 0, none⟩) (K + 1) 2) rfl rfl rfl rfl ?_
  refine OA.p (some 29) (.int .i64 (((K + 1) : Nat) : Int)) rfl rfl rfl rfl ?_
  by_cases hc2 : ((k : Nat) : Int) ≤ (((K + 1) : Nat) : Int)
  ·
   refine OA.p (some 30) (.bool true) rfl rfl rfl (Eq.trans (r_bin rfl rfl rfl (b_leq rfl)) (dT hc2)) ?_
   refine OA.p (some 31) (.bool true) rfl rfl rfl rfl ?_
   refine OA.p (some 32) (Pt n1 0 1) rfl rfl rfl rfl ?_
   refine OA.p (some 33) (.int .i64 ((x.fl.val : Nat) : Int)) rfl rfl rfl (r_load1 rfl rfl rfl rfl rfl (gt3 (by omega) get_here) rfl rfl) ?_
   refine OA.p (some 34) (.int .i64 (((x.fl.val / 2) : Nat) : Int)) rfl rfl rfl (r_bin rfl rfl rfl (b_quoN (a := x.fl.val) (c := 2) (by decide) (i64_eq (by omega)))) ?_
   refine OA.p (some 35) (.int .i64 ((((x.fl.val / 2) % 2) : Nat) : Int)) rfl rfl rfl (r_bin rfl rfl rfl (b_remN (a := (x.fl.val / 2)) (c := 2) (by decide))) ?_
   by_cases hc3 : ((((x.fl.val / 2) % 2) : Nat) : Int) = 0
   ·
    refine OA.p (some 36) (.bool true) rfl rfl rfl (Eq.trans (r_bin rfl rfl rfl (b_eql rfl)) (dT hc3)) ?_
    refine OA.p (some 37) (.bool true) rfl rfl rfl rfl ?_
    refine OA.nil ?_
    intro _
    refine RA.condT rfl ?_
    refine RA.skip env_ok ?_
    intro _
    refine RA.seq hd ?_
    refine RA.block ?_
    refine RA.seq hd ?_
    refine RA.region env_ok ?_
    refine OA.p (some 41) (.slice (some ⟨ja, 0, none⟩) (K + 1) 2) rfl rfl rfl rfl ?_
    refine OA.p (some 42) (Pt n1 0 2) rfl rfl rfl rfl ?_
    refine OA.p (some 43) (W x.tsn) rfl rfl rfl (r_load1 rfl rfl rfl rfl rfl (gt3 (by omega) get_here) rfl rfl) ?_
    refine OA.p (some 44) (W (x.tsn - (1#32))) rfl rfl rfl (r_bin rfl rfl rfl (b_subW x.tsn (1#32))) ?_
    by_cases hc4 : atL (q ++ [c]) (x.tsn - (1#32)) = none
    ·
     refine OA.callP (dst := (some 45)) (all := [(.slice (some ⟨ja, 0, none⟩) (K + 1) 2), (W (x.tsn - (1#32)))]) (v := (.tuple ⟨[(.agg ⟨xRs76⟩), (.bool false)]⟩)) (hd.of (by omega) (kb4 (by omega))) rfl rfl rfl rfl rfl rfl rfl rfl (PS.to (sAt ja (K + 1) (q ++ [c]) (show (q ++ [c]).length = K + 1 from by rw [List.length_append, hq]; rfl) (by omega) (x.tsn - (1#32)) (gt2 (by omega) get_here)) (by rw [hc4]; rfl)) ?_
     intro n3 hn3
     refine OA.p (some 40) (.tuple ⟨[(.agg ⟨xRs76⟩), (.bool false)]⟩) rfl rfl rfl rfl ?_
     refine OA.p (some 46) (.agg ⟨xRs76⟩) rfl rfl rfl rfl ?_
     refine OA.p (some 47) (.bool false) rfl rfl rfl rfl ?_
     refine OA.op1 (dst := (some 10)) (v := (Pt n3 0 0)) (n1 := (n3 + 1)) (w := (n3, some ⟨[xRs76], 15, 54, true⟩)) rfl rfl rfl rfl (by omega) ?_
     refine OA.op1 (dst := none) (v := (.tuple #[])) (n1 := (n3 + 1)) (w := (n3, some ⟨[xRs76], 15, 54, true⟩)) rfl rfl rfl (r_store rfl rfl rfl rfl rfl rfl rfl get_here rfl rfl (Nat.le_of_ble_eq_true rfl) rfl) (by omega) ?_
     refine OA.p (some 11) (.bool false) rfl rfl rfl rfl ?_
     refine OA.nil ?_
     intro _
     refine RA.weaken (D' := [(n3, some ⟨[xRs76], 15, 54, true⟩), (n, some ⟨[(cPrt c)], 15, 54, true⟩), ((n + 1), some ⟨[[(.int .i64 0), (.int .i64 0), (.bool false), (.int .u32 0), (.string ByteArray.empty)]], 5, 29, true⟩), (ja, some (oPrt (q ++ [c]))), (n1, some ⟨[(cPrt x)], 15, 54, true⟩)]) hd (Less.of (fac (mm (fun _ => get_here) (fun _ => get_here)) (fac (mm (fun _ => (get_there (by omega) get_here)) (fun _ => (gt2 (by omega) get_here))) (fac (mm (fun _ => (gt2 (by omega) get_here)) (fun _ => (gt3 (by omega) get_here))) (fac (mm (fun _ => (gt3 (by omega) get_here)) (fun _ => (gt4 (by omega) get_here))) (fac (mm (fun _ => (gt4 (by omega) get_here)) (fun _ => (gt5 (by omega) get_here))) fan))))) (gone_of (by simp only [goneP, memP, List.cons_append, List.nil_append, true_or, or_true, true_and, and_true, or_false] <;> omega))) ?_
     refine RA.seq hd ?_
     refine RA.seq hd ?_
     refine RA.region env_ok ?_
     refine OA.p (some 48) (.bool false) rfl rfl rfl rfl ?_
     refine OA.p (some 49) (.bool true) rfl rfl rfl rfl ?_
     refine OA.p (some 50) (.bool true) rfl rfl rfl rfl ?_
     refine OA.off (dst := (some 51)) rfl rfl rfl ?_
     refine OA.off (dst := (some 52)) rfl rfl rfl ?_
     refine OA.off (dst := (some 53)) rfl rfl rfl ?_
     refine OA.off (dst := (some 54)) rfl rfl rfl ?_
     refine OA.p (some 55) (.bool true) rfl rfl rfl rfl ?_
     refine OA.p (some 56) (.bool true) rfl rfl rfl rfl ?_
     refine OA.off (dst := (some 57)) rfl rfl rfl ?_
     refine OA.off (dst := (some 58)) rfl rfl rfl ?_
     refine OA.off (dst := (some 59)) rfl rfl rfl ?_
     refine OA.off (dst := (some 60)) rfl rfl rfl ?_
     refine OA.p (some 61) (.bool true) rfl rfl rfl rfl ?_
     refine OA.nil ?_
     intro _
     refine RA.rebase [(3, (Pt n 0 0)), (5, (.pointer (some ⟨(n + 1), 0, some 0⟩))), (7, (.slice (some ⟨ja, 0, none⟩) (K + 1) 2)), (8, (Pt n1 0 0)), (9, (.int .i64 ((k : Nat) : Int))), (10, (Pt n3 0 0)), (11, (.bool false)), (37, (.bool true)), (61, (.bool true))] ⟨rfl, rfl, rfl, rfl, rfl, rfl, rfl, rfl, rfl, trivial⟩ (fun τr4 => ?_)
     refine RA.condT rfl ?_
     refine RA.seq hd ?_
     refine RA.region env_ok ?_
     refine OA.p (some 62) (.slice (some ⟨ja, 0, none⟩) (K + 1) 2) rfl rfl rfl rfl ?_
     refine OA.p (some 63) (.agg ⟨[(.int .i64 0), (.int .i64 0), (.bool false), (.int .u32 0), (.string ByteArray.empty)]⟩) rfl rfl rfl (by kernel_rfl) ?_
     refine OA.p (some 4) (.slice (some ⟨ja, 0, none⟩) (K + 1) 2) rfl rfl rfl rfl ?_
     refine OA.op1 (dst := none) (v := (.tuple #[])) (n1 := (n3 + 1)) (w := ((n + 1), some ⟨[[(.int .i64 0), (.int .i64 0), (.bool false), (.int .u32 0), (.string ByteArray.empty)]], 5, 29, true⟩)) rfl rfl rfl (r_store rfl rfl rfl rfl rfl rfl rfl (gt2 (by omega) get_here) rfl rfl (Nat.le_of_ble_eq_true rfl) rfl) (by omega) ?_
     refine OA.p (some 6) (.bool false) rfl rfl rfl rfl ?_
     refine OA.nil ?_
     intro _
     refine RA.weaken (D' := [((n + 1), some ⟨[[(.int .i64 0), (.int .i64 0), (.bool false), (.int .u32 0), (.string ByteArray.empty)]], 5, 29, true⟩), (n3, some ⟨[xRs76], 15, 54, true⟩), (n, some ⟨[(cPrt c)], 15, 54, true⟩), (ja, some (oPrt (q ++ [c]))), (n1, some ⟨[(cPrt x)], 15, 54, true⟩)]) hd (Less.of (fac (mm (fun _ => get_here) (fun _ => get_here)) (fac (mm (fun _ => (get_there (by omega) get_here)) (fun _ => (get_there (by omega) get_here))) (fac (mm (fun _ => (gt2 (by omega) get_here)) (fun _ => (gt2 (by omega) get_here))) (fac (mm (fun _ => (gt3 (by omega) get_here)) (fun _ => (gt4 (by omega) get_here))) (fac (mm (fun _ => (gt4 (by omega) get_here)) (fun _ => (gt5 (by omega) get_here))) fan))))) (gone_of (by simp only [goneP, memP, List.cons_append, List.nil_append, true_or, or_true, true_and, and_true, or_false] <;> omega))) ?_
     refine RA.ret env_ok ?_
     refine ⟨.inr rfl, (xRs78 ja K), (resL_cons rfl (resL_cons (res_cellA rfl rfl rfl get_here rfl rfl rfl) (resL_cons rfl resL_nil))), [], (Less.of (fun p hp => by simp at hp) (gone_of (by simp only [goneP, memP, List.cons_append, List.nil_append, true_or, or_true, true_and, and_true, or_false] <;> omega))), (by exfalso; cases (refB_no (by omega) hc3 hc4).symm.trans hkB)⟩
    ·
     obtain ⟨y, hy⟩ := Option.ne_none_iff_exists'.1 hc4
     have hyd := hsz y (at_in hy)
     refine OA.callP (dst := (some 45)) (all := [(.slice (some ⟨ja, 0, none⟩) (K + 1) 2), (W (x.tsn - (1#32)))]) (v := (.tuple ⟨[(.agg ⟨(cPrt y)⟩), (.bool true)]⟩)) (hd.of (by omega) (kb4 (by omega))) rfl rfl rfl rfl rfl rfl rfl rfl (PS.to (sAt ja (K + 1) (q ++ [c]) (show (q ++ [c]).length = K + 1 from by rw [List.length_append, hq]; rfl) (by omega) (x.tsn - (1#32)) (gt2 (by omega) get_here)) (by rw [hy]; rfl)) ?_
     intro n5 hn5
     refine OA.p (some 40) (.tuple ⟨[(.agg ⟨(cPrt y)⟩), (.bool true)]⟩) rfl rfl rfl rfl ?_
     refine OA.p (some 46) (.agg ⟨(cPrt y)⟩) rfl rfl rfl rfl ?_
     refine OA.p (some 47) (.bool true) rfl rfl rfl rfl ?_
     refine OA.op1 (dst := (some 10)) (v := (Pt n5 0 0)) (n1 := (n5 + 1)) (w := (n5, some ⟨[xRs76], 15, 54, true⟩)) rfl rfl rfl rfl (by omega) ?_
     refine OA.op1 (dst := none) (v := (.tuple #[])) (n1 := (n5 + 1)) (w := (n5, some ⟨[(cPrt y)], 15, 54, true⟩)) rfl rfl rfl (r_store rfl rfl rfl rfl rfl rfl rfl get_here rfl rfl (Nat.le_of_ble_eq_true rfl) rfl) (by omega) ?_
     refine OA.p (some 11) (.bool true) rfl rfl rfl rfl ?_
     refine OA.nil ?_
     intro _
     refine RA.seq hd ?_
     refine RA.seq hd ?_
     refine RA.region env_ok ?_
     refine OA.p (some 48) (.bool true) rfl rfl rfl rfl ?_
     refine OA.p (some 49) (.bool false) rfl rfl rfl rfl ?_
     refine OA.p (some 50) (.bool false) rfl rfl rfl rfl ?_
     refine OA.p (some 51) (Pt n5 0 1) rfl rfl rfl rfl ?_
     refine OA.p (some 52) (.int .i64 ((y.fl.val : Nat) : Int)) rfl rfl rfl (r_load1 rfl rfl rfl rfl rfl get_here rfl rfl) ?_
     refine OA.p (some 53) (.int .i64 (((y.fl.val % 2) : Nat) : Int)) rfl rfl rfl (r_bin rfl rfl rfl (b_remN (a := y.fl.val) (c := 2) (by decide))) ?_
     by_cases hc5 : (((y.fl.val % 2) : Nat) : Int) = 1
     ·
      refine OA.p (some 54) (.bool true) rfl rfl rfl (Eq.trans (r_bin rfl rfl rfl (b_eql rfl)) (dT hc5)) ?_
      refine OA.p (some 55) (.bool true) rfl rfl rfl rfl ?_
      refine OA.p (some 56) (.bool true) rfl rfl rfl rfl ?_
      refine OA.off (dst := (some 57)) rfl rfl rfl ?_
      refine OA.off (dst := (some 58)) rfl rfl rfl ?_
      refine OA.off (dst := (some 59)) rfl rfl rfl ?_
      refine OA.off (dst := (some 60)) rfl rfl rfl ?_
      refine OA.p (some 61) (.bool true) rfl rfl rfl rfl ?_
      refine OA.nil ?_
      intro _
      refine RA.rebase [(3, (Pt n 0 0)), (5, (.pointer (some ⟨(n + 1), 0, some 0⟩))), (7, (.slice (some ⟨ja, 0, none⟩) (K + 1) 2)), (8, (Pt n1 0 0)), (9, (.int .i64 ((k : Nat) : Int))), (10, (Pt n5 0 0)), (11, (.bool true)), (37, (.bool true)), (61, (.bool true))] ⟨rfl, rfl, rfl, rfl, rfl, rfl, rfl, rfl, rfl, trivial⟩ (fun τr6 => ?_)
      refine RA.condT rfl ?_
      refine RA.seq hd ?_
      refine RA.region env_ok ?_
      refine OA.p (some 62) (.slice (some ⟨ja, 0, none⟩) (K + 1) 2) rfl rfl rfl rfl ?_
      refine OA.p (some 63) (.agg ⟨[(.int .i64 0), (.int .i64 0), (.bool false), (.int .u32 0), (.string ByteArray.empty)]⟩) rfl rfl rfl (by kernel_rfl) ?_
      refine OA.p (some 4) (.slice (some ⟨ja, 0, none⟩) (K + 1) 2) rfl rfl rfl rfl ?_
      refine OA.op1 (dst := none) (v := (.tuple #[])) (n1 := (n5 + 1)) (w := ((n + 1), some ⟨[[(.int .i64 0), (.int .i64 0), (.bool false), (.int .u32 0), (.string ByteArray.empty)]], 5, 29, true⟩)) rfl rfl rfl (r_store rfl rfl rfl rfl rfl rfl rfl (gt3 (by omega) get_here) rfl rfl (Nat.le_of_ble_eq_true rfl) rfl) (by omega) ?_
      refine OA.p (some 6) (.bool false) rfl rfl rfl rfl ?_
      refine OA.nil ?_
      intro _
      refine RA.weaken (D' := [((n + 1), some ⟨[[(.int .i64 0), (.int .i64 0), (.bool false), (.int .u32 0), (.string ByteArray.empty)]], 5, 29, true⟩), (n5, some ⟨[(cPrt y)], 15, 54, true⟩), (n, some ⟨[(cPrt c)], 15, 54, true⟩), (ja, some (oPrt (q ++ [c]))), (n1, some ⟨[(cPrt x)], 15, 54, true⟩)]) hd (Less.of (fac (mm (fun _ => get_here) (fun _ => get_here)) (fac (mm (fun _ => (get_there (by omega) get_here)) (fun _ => (get_there (by omega) get_here))) (fac (mm (fun _ => (gt2 (by omega) get_here)) (fun _ => (gt3 (by omega) get_here))) (fac (mm (fun _ => (gt3 (by omega) get_here)) (fun _ => (gt5 (by omega) get_here))) (fac (mm (fun _ => (gt4 (by omega) get_here)) (fun _ => (gt6 (by omega) get_here))) fan))))) (gone_of (by simp only [goneP, memP, List.cons_append, List.nil_append, true_or, or_true, true_and, and_true, or_false] <;> omega))) ?_
      refine RA.ret env_ok ?_
      refine ⟨.inr rfl, (xRs78 ja K), (resL_cons rfl (resL_cons (res_cellA rfl rfl rfl get_here rfl rfl rfl) (resL_cons rfl resL_nil))), [], (Less.of (fun p hp => by simp at hp) (gone_of (by simp only [goneP, memP, List.cons_append, List.nil_append, true_or, or_true, true_and, and_true, or_false] <;> omega))), (by exfalso; cases (refB_bad (by omega) hc3 hy (.inl hc5)).symm.trans hkB)⟩
     ·
      refine OA.p (some 54) (.bool false) rfl rfl rfl (Eq.trans (r_bin rfl rfl rfl (b_eql rfl)) (dF hc5)) ?_
      refine OA.p (some 55) (.bool false) rfl rfl rfl rfl ?_
      refine OA.p (some 56) (.bool false) rfl rfl rfl rfl ?_
      refine OA.p (some 57) (.agg ⟨(xRs73 y)⟩) rfl rfl rfl (r_loadA rfl rfl rfl rfl get_here rfl rfl rfl) ?_
      refine OA.p (some 58) (.agg ⟨(xRs74 x)⟩) rfl rfl rfl (r_loadA rfl rfl rfl rfl (gt5 (by omega) get_here) rfl rfl rfl) ?_
      by_cases hc6 : alike y x
      ·
       refine OA.callP (dst := (some 59)) (all := [(.agg ⟨(xRs73 y)⟩), (.agg ⟨(xRs74 x)⟩)]) (v := (.bool true)) (hd.of (by omega) (kb6 (by omega))) rfl rfl rfl rfl rfl rfl rfl rfl (PS.to (sAl y x) (show (.bool (decide (alike y x))) = ((.bool true) : Value) from (by first | (rw [decide_eq_true hc6]; done) | (rw [decide_eq_true hc6]; rfl)))) ?_
       intro n7 hn7
       refine OA.p (some 60) (.bool false) rfl rfl rfl rfl ?_
       refine OA.p (some 61) (.bool false) rfl rfl rfl rfl ?_
       refine OA.nil ?_
       intro _
       refine RA.rebase [(3, (Pt n 0 0)), (5, (.pointer (some ⟨(n + 1), 0, some 0⟩))), (7, (.slice (some ⟨ja, 0, none⟩) (K + 1) 2)), (8, (Pt n1 0 0)), (9, (.int .i64 ((k : Nat) : Int))), (10, (Pt n5 0 0)), (11, (.bool true)), (37, (.bool true)), (61, (.bool false))] ⟨rfl, rfl, rfl, rfl, rfl, rfl, rfl, rfl, rfl, trivial⟩ (fun τr8 => ?_)
       refine RA.condF rfl ?_
       refine RA.skip env_ok ?_
       intro _
       refine RA.region env_ok ?_
       refine OA.p (some 64) (.agg ⟨(xRs73 y)⟩) rfl rfl rfl (r_loadA rfl rfl rfl rfl get_here rfl rfl rfl) ?_
       refine OA.op1 (dst := none) (v := (.tuple #[])) (n1 := n7) (w := (n1, some ⟨[(xRs73 y)], 15, 54, true⟩)) rfl rfl rfl (r_store rfl rfl rfl rfl rfl rfl rfl (gt5 (by omega) get_here) rfl rfl (Nat.le_of_ble_eq_true rfl) rfl) (by omega) ?_
       refine OA.nil ?_
       intro _
       refine RA.weaken (D' := [(n1, some ⟨[(xRs73 y)], 15, 54, true⟩), (n5, some ⟨[(cPrt y)], 15, 54, true⟩), (n, some ⟨[(cPrt c)], 15, 54, true⟩), ((n + 1), some ⟨[[(.int .i64 0), (.int .i64 0), (.bool false), (.int .u32 0), (.string ByteArray.empty)]], 5, 29, true⟩), (ja, some (oPrt (q ++ [c])))]) hd (Less.of (fac (mm (fun _ => get_here) (fun _ => get_here)) (fac (mm (fun _ => (get_there (by omega) get_here)) (fun _ => (get_there (by omega) get_here))) (fac (mm (fun _ => (gt2 (by omega) get_here)) (fun _ => (gt3 (by omega) get_here))) (fac (mm (fun _ => (gt3 (by omega) get_here)) (fun _ => (gt4 (by omega) get_here))) (fac (mm (fun _ => (gt4 (by omega) get_here)) (fun _ => (gt5 (by omega) get_here))) fan))))) (gone_of (by simp only [goneP, memP, List.cons_append, List.nil_append, true_or, or_true, true_and, and_true, or_false] <;> omega))) ?_
       refine RA.region env_ok ?_
       refine OA.p (some 38) (.int .i64 ((k : Nat) : Int)) rfl rfl rfl rfl ?_
       refine OA.p (some 39) (.int .i64 (((k + 1) : Nat) : Int)) rfl rfl rfl (r_bin rfl rfl rfl (b_add (i64_eq (by omega)))) ?_
       refine OA.p (some 9) (.int .i64 (((k + 1) : Nat) : Int)) rfl rfl rfl rfl ?_
       refine OA.nil ?_
       refine ⟨K + 2 - (k + 1), by omega, [(n, some ⟨[(cPrt c)], 15, 54, true⟩), ((n + 1), some ⟨[[(.int .i64 0), (.int .i64 0), (.bool false), (.int .u32 0), (.string ByteArray.empty)]], 5, 29, true⟩), (ja, some (oPrt (q ++ [c]))), (n1, some ⟨[(xRs73 y)], 15, 54, true⟩)], (Less.of (fac (mm (fun _ => get_here) (fun _ => (gt2 (by omega) get_here))) (fac (mm (fun _ => (get_there (by omega) get_here)) (fun _ => (gt3 (by omega) get_here))) (fac (mm (fun _ => (gt2 (by omega) get_here)) (fun _ => (gt4 (by omega) get_here))) (fac (mm (fun _ => (gt3 (by omega) get_here)) (fun _ => get_here)) fan)))) (gone_of (by simp only [goneP, memP, List.cons_append, List.nil_append, true_or, or_true, true_and, and_true, or_false] <;> omega))), ⟨(k + 1), y, rfl, by omega, ⟨rfl, rfl, rfl, rfl, rfl, trivial⟩, (by rfl), (kb4 (by omega)), ⟨by omega, by rw [show K + 2 - (k + 1) = K + 2 - k - 1 from by omega, ← refB_go (by omega) hc3 hy hc5 hc6]; exact hkB, hyd⟩⟩⟩
      ·
       refine OA.callP (dst := (some 59)) (all := [(.agg ⟨(xRs73 y)⟩), (.agg ⟨(xRs74 x)⟩)]) (v := (.bool false)) (hd.of (by omega) (kb6 (by omega))) rfl rfl rfl rfl rfl rfl rfl rfl (PS.to (sAl y x) (show (.bool (decide (alike y x))) = ((.bool false) : Value) from (by first | (rw [decide_eq_false hc6]; done) | (rw [decide_eq_false hc6]; rfl)))) ?_
       intro n9 hn9
       refine OA.p (some 60) (.bool true) rfl rfl rfl rfl ?_
       refine OA.p (some 61) (.bool true) rfl rfl rfl rfl ?_
       refine OA.nil ?_
       intro _
       refine RA.rebase [(3, (Pt n 0 0)), (5, (.pointer (some ⟨(n + 1), 0, some 0⟩))), (7, (.slice (some ⟨ja, 0, none⟩) (K + 1) 2)), (8, (Pt n1 0 0)), (9, (.int .i64 ((k : Nat) : Int))), (10, (Pt n5 0 0)), (11, (.bool true)), (37, (.bool true)), (61, (.bool true))] ⟨rfl, rfl, rfl, rfl, rfl, rfl, rfl, rfl, rfl, trivial⟩ (fun τr10 => ?_)
       refine RA.condT rfl ?_
       refine RA.seq hd ?_
       refine RA.region env_ok ?_
       refine OA.p (some 62) (.slice (some ⟨ja, 0, none⟩) (K + 1) 2) rfl rfl rfl rfl ?_
       refine OA.p (some 63) (.agg ⟨[(.int .i64 0), (.int .i64 0), (.bool false), (.int .u32 0), (.string ByteArray.empty)]⟩) rfl rfl rfl (by kernel_rfl) ?_
       refine OA.p (some 4) (.slice (some ⟨ja, 0, none⟩) (K + 1) 2) rfl rfl rfl rfl ?_
       refine OA.op1 (dst := none) (v := (.tuple #[])) (n1 := n9) (w := ((n + 1), some ⟨[[(.int .i64 0), (.int .i64 0), (.bool false), (.int .u32 0), (.string ByteArray.empty)]], 5, 29, true⟩)) rfl rfl rfl (r_store rfl rfl rfl rfl rfl rfl rfl (gt3 (by omega) get_here) rfl rfl (Nat.le_of_ble_eq_true rfl) rfl) (by omega) ?_
       refine OA.p (some 6) (.bool false) rfl rfl rfl rfl ?_
       refine OA.nil ?_
       intro _
       refine RA.weaken (D' := [((n + 1), some ⟨[[(.int .i64 0), (.int .i64 0), (.bool false), (.int .u32 0), (.string ByteArray.empty)]], 5, 29, true⟩), (n5, some ⟨[(cPrt y)], 15, 54, true⟩), (n, some ⟨[(cPrt c)], 15, 54, true⟩), (ja, some (oPrt (q ++ [c]))), (n1, some ⟨[(cPrt x)], 15, 54, true⟩)]) hd (Less.of (fac (mm (fun _ => get_here) (fun _ => get_here)) (fac (mm (fun _ => (get_there (by omega) get_here)) (fun _ => (get_there (by omega) get_here))) (fac (mm (fun _ => (gt2 (by omega) get_here)) (fun _ => (gt3 (by omega) get_here))) (fac (mm (fun _ => (gt3 (by omega) get_here)) (fun _ => (gt5 (by omega) get_here))) (fac (mm (fun _ => (gt4 (by omega) get_here)) (fun _ => (gt6 (by omega) get_here))) fan))))) (gone_of (by simp only [goneP, memP, List.cons_append, List.nil_append, true_or, or_true, true_and, and_true, or_false] <;> omega))) ?_
       refine RA.ret env_ok ?_
       refine ⟨.inr rfl, (xRs78 ja K), (resL_cons rfl (resL_cons (res_cellA rfl rfl rfl get_here rfl rfl rfl) (resL_cons rfl resL_nil))), [], (Less.of (fun p hp => by simp at hp) (gone_of (by simp only [goneP, memP, List.cons_append, List.nil_append, true_or, or_true, true_and, and_true, or_false] <;> omega))), (by exfalso; cases (refB_bad (by omega) hc3 hy (.inr hc6)).symm.trans hkB)⟩
   ·
    refine OA.p (some 36) (.bool false) rfl rfl rfl (Eq.trans (r_bin rfl rfl rfl (b_eql rfl)) (dF hc3)) ?_
    refine OA.p (some 37) (.bool false) rfl rfl rfl rfl ?_
    refine OA.nil ?_
    intro _
    refine RA.condF rfl ?_
    refine RA.exit env_ok ?_
    have hxs : refB (q ++ [c]) (K + 2 - k) x = some x := refB_stop (.inr hc3)
    have hxp := Option.some.inj (hxs.symm.trans hkB)
    intro _
    refine RA.seq hd ?_
    refine RA.par (md := [some [n1], some [], some [n1], some [], none, some []]) env_ok (hd.of (by omega) (kb4 (by omega))) (by kernel_rfl) ?_
    refine PQ.pure (dst := (some 65)) (v := (.agg ⟨(xRs74 x)⟩)) rfl rfl rfl (app [(n1, some ⟨[(cPrt x)], 15, 54, true⟩)] noStore) (seen_one (V := []) (D := [(n, some ⟨[(cPrt c)], 15, 54, true⟩), ((n + 1), some ⟨[[(.int .i64 0), (.int .i64 0), (.bool false), (.int .u32 0), (.string ByteArray.empty)]], 5, 29, true⟩), (ja, some (oPrt (q ++ [c]))), (n1, some ⟨[(cPrt x)], 15, 54, true⟩)]) (by kernel_rfl) (gt3 (by omega) get_here)) (r_loadA rfl rfl rfl rfl get_here rfl rfl rfl) ?_
    refine PQ.pure (dst := (some 66)) (v := (Pt n1 0 6)) rfl rfl rfl noStore (none_ok _ _) rfl ?_
    refine PQ.pure (dst := (some 67)) (v := (.string x.data)) rfl rfl rfl (app [(n1, some ⟨[(cPrt x)], 15, 54, true⟩)] noStore) (seen_one (V := []) (D := [(n, some ⟨[(cPrt c)], 15, 54, true⟩), ((n + 1), some ⟨[[(.int .i64 0), (.int .i64 0), (.bool false), (.int .u32 0), (.string ByteArray.empty)]], 5, 29, true⟩), (ja, some (oPrt (q ++ [c]))), (n1, some ⟨[(cPrt x)], 15, 54, true⟩)]) (by kernel_rfl) (gt3 (by omega) get_here)) (r_load1 rfl rfl rfl rfl rfl get_here rfl rfl) ?_
    refine PQ.op (dst := (some 12)) (v := (Pt n2 0 0)) (n1 := (n2 + 1)) (d1 := [(n2, some ⟨[xRs76], 15, 54, true⟩)]) rfl rfl rfl noStore (none_ok _ _) rfl (by omega) (kp1 (wr_new (by omega) (by omega))) ?_
    refine PQ.op (dst := none) (v := (.tuple #[])) (n1 := (n2 + 1)) (d1 := [(n2, some ⟨[(xRs74 x)], 15, 54, true⟩)]) rfl rfl rfl _ (seen_any (V := [(n2, some ⟨[xRs76], 15, 54, true⟩)]) (D := [(n, some ⟨[(cPrt c)], 15, 54, true⟩), ((n + 1), some ⟨[[(.int .i64 0), (.int .i64 0), (.bool false), (.int .u32 0), (.string ByteArray.empty)]], 5, 29, true⟩), (ja, some (oPrt (q ++ [c]))), (n1, some ⟨[(cPrt x)], 15, 54, true⟩)]) (by kernel_rfl)) (r_store rfl rfl rfl rfl rfl rfl rfl get_here rfl rfl (Nat.le_of_ble_eq_true rfl) rfl) (by omega) (kp1 (wr_late [1, 2] (by kernel_rfl) (by kernel_rfl) (by omega) 3 (by kernel_rfl) (by simp [keys]) (fac (lo0 rfl) (fac (lo1 rfl (by omega)) fan)))) ?_
    refine PQ.pure (dst := (some 13)) (v := (.string x.data)) rfl rfl rfl noStore (none_ok _ _) rfl ?_
    refine PQ.done (d := [(n2, some ⟨[(xRs74 x)], 15, 54, true⟩), (n2, some ⟨[xRs76], 15, 54, true⟩)]) (by kernel_rfl) ?_
    intro _
    refine RA.weaken (D' := [(n2, some ⟨[(xRs74 x)], 15, 54, true⟩), (n, some ⟨[(cPrt c)], 15, 54, true⟩), ((n + 1), some ⟨[[(.int .i64 0), (.int .i64 0), (.bool false), (.int .u32 0), (.string ByteArray.empty)]], 5, 29, true⟩), (ja, some (oPrt (q ++ [c]))), (n1, some ⟨[(cPrt x)], 15, 54, true⟩)]) hd (Less.of (fac (mm (fun _ => get_here) (fun _ => get_here)) (fac (mm (fun _ => (get_there (by omega) get_here)) (fun _ => (gt2 (by omega) get_here))) (fac (mm (fun _ => (gt2 (by omega) get_here)) (fun _ => (gt3 (by omega) get_here))) (fac (mm (fun _ => (gt3 (by omega) get_here)) (fun _ => (gt4 (by omega) get_here))) (fac (mm (fun _ => (gt4 (by omega) get_here)) (fun _ => (gt5 (by omega) get_here))) fan))))) (gone_of (by simp only [goneP, memP, List.cons_append, List.nil_append, true_or, or_true, true_and, and_true, or_false] <;> omega))) ?_
    refine RA.seq hd ?_
    refine RA.seq hd ?_
    refine RA.region env_ok ?_
    refine OA.p (some 14) (.int .i64 0) rfl rfl rfl rfl ?_
    refine OA.nil ?_
    intro _
    refine RA.block ?_
    rw [← hxp] at hF
    refine RA.weaken (D' := [(n, some ⟨[(cPrt c)], 15, 54, true⟩), ((n + 1), some ⟨[[(.int .i64 0), (.int .i64 0), (.bool false), (.int .u32 0), (.string ByteArray.empty)]], 5, 29, true⟩), (ja, some (oPrt (q ++ [c]))), (n1, some ⟨[(cPrt x)], 15, 54, true⟩), (n2, some ⟨[(xRs74 x)], 15, 54, true⟩)]) hd (Less.of (fac (mm (fun _ => get_here) (fun _ => (get_there (by omega) get_here))) (fac (mm (fun _ => (get_there (by omega) get_here)) (fun _ => (gt2 (by omega) get_here))) (fac (mm (fun _ => (gt2 (by omega) get_here)) (fun _ => (gt3 (by omega) get_here))) (fac (mm (fun _ => (gt3 (by omega) get_here)) (fun _ => (gt4 (by omega) get_here))) (fac (mm (fun _ => (gt4 (by omega) get_here)) (fun _ => get_here)) fan))))) (gone_of (by simp only [goneP, memP, List.cons_append, List.nil_append, true_or, or_true, true_and, and_true, or_false] <;> omega))) ?_
    refine RA.loop hd (fun kk_ τ n' D => (∃ k : Nat, ∃ z : Prt, ∃ d : ByteArray, kk_ = K + 2 - k ∧ (n2 + 1) ≤ n' ∧ Has τ [(3, (Pt n 0 0)), (5, (.pointer (some ⟨(n + 1), 0, some 0⟩))), (7, (.slice (some ⟨ja, 0, none⟩) (K + 1) 2)), (8, (Pt n1 0 0)), (12, (Pt n2 0 0)), (13, (.string d)), (14, (.int .i64 ((k : Nat) : Int)))] ∧ D = [(n, some ⟨[(cPrt c)], 15, 54, true⟩), ((n + 1), some ⟨[[(.int .i64 0), (.int .i64 0), (.bool false), (.int .u32 0), (.string ByteArray.empty)]], 5, 29, true⟩), (ja, some (oPrt (q ++ [c]))), (n1, some ⟨[(cPrt x)], 15, 54, true⟩), (n2, some ⟨[(cPrt z)], 15, 54, true⟩)] ∧ (∀ i ∈ keys D, i < n') ∧ k ≤ K + 2 ∧ refF (q ++ [c]) (K + 2 - k) z d = some (pl, dd) ∧ d.size ≤ 6 * (k + 1))) (K + 2 - 0) (⟨0, x, x.data, rfl, by omega, ⟨rfl, rfl, rfl, rfl, rfl, rfl, rfl, trivial⟩, (by rfl), (kb5 (by omega)), ⟨by omega, hF, by omega⟩⟩) ?_
    rintro kn11 τ11 n11 _ ⟨k, z, d, rfl, hn11, hHn11, rfl, hKn11, hIn11⟩
    rw [Has.eq hHn11]
    have hKn11_0 : n < n11 := hKn11 _ (by simp only [keys, List.map_cons, List.map_nil, List.mem_cons, true_or, or_true])
    have hKn11_1 : (n + 1) < n11 := hKn11 _ (by simp only [keys, List.map_cons, List.map_nil, List.mem_cons, true_or, or_true])
    have hKn11_2 : ja < n11 := hKn11 _ (by simp only [keys, List.map_cons, List.map_nil, List.mem_cons, true_or, or_true])
    have hKn11_3 : n1 < n11 := hKn11 _ (by simp only [keys, List.map_cons, List.map_nil, List.mem_cons, true_or, or_true])
    have hKn11_4 : n2 < n11 := hKn11 _ (by simp only [keys, List.map_cons, List.map_nil, List.mem_cons, true_or, or_true])
    clear hKn11
    obtain ⟨hk1, hkF, hdd⟩ := hIn11
    refine RA.seq hd ?_
    refine RA.seq hd ?_
    refine RA.region env_ok ?_
    refine OA.p (some 68) (.int .i64 ((k : Nat) : Int)) rfl rfl rfl rfl ?_
    refine OA.p (some 69) (.slice (some ⟨ja, 0, none⟩) (K + 1) 2) rfl rfl rfl rfl ?_
    refine OA.p (some 70) (.int .i64 (((K + 1) : Nat) : Int)) rfl rfl rfl rfl ?_
    by_cases hc7 : ((k : Nat) : Int) ≤ (((K + 1) : Nat) : Int)
    ·
     refine OA.p (some 71) (.bool true) rfl rfl rfl (Eq.trans (r_bin rfl rfl rfl (b_leq rfl)) (dT hc7)) ?_
     refine OA.p (some 72) (.bool true) rfl rfl rfl rfl ?_
     refine OA.p (some 73) (Pt n2 0 1) rfl rfl rfl rfl ?_
     refine OA.p (some 74) (.int .i64 ((z.fl.val : Nat) : Int)) rfl rfl rfl (r_load1 rfl rfl rfl rfl rfl (gt4 (by omega) get_here) rfl rfl) ?_
     refine OA.p (some 75) (.int .i64 (((z.fl.val % 2) : Nat) : Int)) rfl rfl rfl (r_bin rfl rfl rfl (b_remN (a := z.fl.val) (c := 2) (by decide))) ?_
     by_cases hc8 : (((z.fl.val % 2) : Nat) : Int) = 0
     ·
      refine OA.p (some 76) (.bool true) rfl rfl rfl (Eq.trans (r_bin rfl rfl rfl (b_eql rfl)) (dT hc8)) ?_
      refine OA.p (some 77) (.bool true) rfl rfl rfl rfl ?_
      refine OA.nil ?_
      intro _
      refine RA.condT rfl ?_
      refine RA.skip env_ok ?_
      intro _
      refine RA.seq hd ?_
      refine RA.block ?_
      refine RA.seq hd ?_
      refine RA.region env_ok ?_
      refine OA.p (some 81) (.slice (some ⟨ja, 0, none⟩) (K + 1) 2) rfl rfl rfl rfl ?_
      refine OA.p (some 82) (Pt n2 0 2) rfl rfl rfl rfl ?_
      refine OA.p (some 83) (W z.tsn) rfl rfl rfl (r_load1 rfl rfl rfl rfl rfl (gt4 (by omega) get_here) rfl rfl) ?_
      refine OA.p (some 84) (W (z.tsn + (1#32))) rfl rfl rfl (r_bin rfl rfl rfl (b_addW z.tsn (1#32))) ?_
      by_cases hc9 : atL (q ++ [c]) (z.tsn + (1#32)) = none
      ·
       refine OA.callP (dst := (some 85)) (all := [(.slice (some ⟨ja, 0, none⟩) (K + 1) 2), (W (z.tsn + (1#32)))]) (v := (.tuple ⟨[(.agg ⟨xRs76⟩), (.bool false)]⟩)) (hd.of (by omega) (kb5 (by omega))) rfl rfl rfl rfl rfl rfl rfl rfl (PS.to (sAt ja (K + 1) (q ++ [c]) (show (q ++ [c]).length = K + 1 from by rw [List.length_append, hq]; rfl) (by omega) (z.tsn + (1#32)) (gt2 (by omega) get_here)) (by rw [hc9]; rfl)) ?_
       intro n12 hn12
       refine OA.p (some 80) (.tuple ⟨[(.agg ⟨xRs76⟩), (.bool false)]⟩) rfl rfl rfl rfl ?_
       refine OA.p (some 86) (.agg ⟨xRs76⟩) rfl rfl rfl rfl ?_
       refine OA.p (some 87) (.bool false) rfl rfl rfl rfl ?_
       refine OA.op1 (dst := (some 15)) (v := (Pt n12 0 0)) (n1 := (n12 + 1)) (w := (n12, some ⟨[xRs76], 15, 54, true⟩)) rfl rfl rfl rfl (by omega) ?_
       refine OA.op1 (dst := none) (v := (.tuple #[])) (n1 := (n12 + 1)) (w := (n12, some ⟨[xRs76], 15, 54, true⟩)) rfl rfl rfl (r_store rfl rfl rfl rfl rfl rfl rfl get_here rfl rfl (Nat.le_of_ble_eq_true rfl) rfl) (by omega) ?_
       refine OA.p (some 16) (.bool false) rfl rfl rfl rfl ?_
       refine OA.nil ?_
       intro _
       refine RA.weaken (D' := [(n12, some ⟨[xRs76], 15, 54, true⟩), (n, some ⟨[(cPrt c)], 15, 54, true⟩), ((n + 1), some ⟨[[(.int .i64 0), (.int .i64 0), (.bool false), (.int .u32 0), (.string ByteArray.empty)]], 5, 29, true⟩), (ja, some (oPrt (q ++ [c]))), (n1, some ⟨[(cPrt x)], 15, 54, true⟩), (n2, some ⟨[(cPrt z)], 15, 54, true⟩)]) hd (Less.of (fac (mm (fun _ => get_here) (fun _ => get_here)) (fac (mm (fun _ => (get_there (by omega) get_here)) (fun _ => (gt2 (by omega) get_here))) (fac (mm (fun _ => (gt2 (by omega) get_here)) (fun _ => (gt3 (by omega) get_here))) (fac (mm (fun _ => (gt3 (by omega) get_here)) (fun _ => (gt4 (by omega) get_here))) (fac (mm (fun _ => (gt4 (by omega) get_here)) (fun _ => (gt5 (by omega) get_here))) (fac (mm (fun _ => (gt5 (by omega) get_here)) (fun _ => (gt6 (by omega) get_here))) fan)))))) (gone_of (by simp only [goneP, memP, List.cons_append, List.nil_append, true_or, or_true, true_and, and_true, or_false] <;> omega))) ?_
       refine RA.seq hd ?_
       refine RA.seq hd ?_
       refine RA.region env_ok ?_
       refine OA.p (some 88) (.bool false) rfl rfl rfl rfl ?_
       refine OA.p (some 89) (.bool true) rfl rfl rfl rfl ?_
       refine OA.p (some 90) (.bool true) rfl rfl rfl rfl ?_
       refine OA.off (dst := (some 91)) rfl rfl rfl ?_
       refine OA.off (dst := (some 92)) rfl rfl rfl ?_
       refine OA.off (dst := (some 93)) rfl rfl rfl ?_
       refine OA.off (dst := (some 94)) rfl rfl rfl ?_
       refine OA.off (dst := (some 95)) rfl rfl rfl ?_
       refine OA.p (some 96) (.bool true) rfl rfl rfl rfl ?_
       refine OA.p (some 97) (.bool true) rfl rfl rfl rfl ?_
       refine OA.off (dst := (some 98)) rfl rfl rfl ?_
       refine OA.off (dst := (some 99)) rfl rfl rfl ?_
       refine OA.off (dst := (some 100)) rfl rfl rfl ?_
       refine OA.off (dst := (some 101)) rfl rfl rfl ?_
       refine OA.p (some 102) (.bool true) rfl rfl rfl rfl ?_
       refine OA.nil ?_
       intro _
       refine RA.rebase [(3, (Pt n 0 0)), (5, (.pointer (some ⟨(n + 1), 0, some 0⟩))), (7, (.slice (some ⟨ja, 0, none⟩) (K + 1) 2)), (8, (Pt n1 0 0)), (12, (Pt n2 0 0)), (13, (.string d)), (14, (.int .i64 ((k : Nat) : Int))), (15, (Pt n12 0 0)), (16, (.bool false)), (77, (.bool true)), (102, (.bool true))] ⟨rfl, rfl, rfl, rfl, rfl, rfl, rfl, rfl, rfl, rfl, rfl, trivial⟩ (fun τr13 => ?_)
       refine RA.condT rfl ?_
       refine RA.seq hd ?_
       refine RA.region env_ok ?_
       refine OA.p (some 103) (.slice (some ⟨ja, 0, none⟩) (K + 1) 2) rfl rfl rfl rfl ?_
       refine OA.p (some 104) (.agg ⟨[(.int .i64 0), (.int .i64 0), (.bool false), (.int .u32 0), (.string ByteArray.empty)]⟩) rfl rfl rfl (by kernel_rfl) ?_
       refine OA.p (some 4) (.slice (some ⟨ja, 0, none⟩) (K + 1) 2) rfl rfl rfl rfl ?_
       refine OA.op1 (dst := none) (v := (.tuple #[])) (n1 := (n12 + 1)) (w := ((n + 1), some ⟨[[(.int .i64 0), (.int .i64 0), (.bool false), (.int .u32 0), (.string ByteArray.empty)]], 5, 29, true⟩)) rfl rfl rfl (r_store rfl rfl rfl rfl rfl rfl rfl (gt2 (by omega) get_here) rfl rfl (Nat.le_of_ble_eq_true rfl) rfl) (by omega) ?_
       refine OA.p (some 6) (.bool false) rfl rfl rfl rfl ?_
       refine OA.nil ?_
       intro _
       refine RA.weaken (D' := [((n + 1), some ⟨[[(.int .i64 0), (.int .i64 0), (.bool false), (.int .u32 0), (.string ByteArray.empty)]], 5, 29, true⟩), (n12, some ⟨[xRs76], 15, 54, true⟩), (n, some ⟨[(cPrt c)], 15, 54, true⟩), (ja, some (oPrt (q ++ [c]))), (n1, some ⟨[(cPrt x)], 15, 54, true⟩), (n2, some ⟨[(cPrt z)], 15, 54, true⟩)]) hd (Less.of (fac (mm (fun _ => get_here) (fun _ => get_here)) (fac (mm (fun _ => (get_there (by omega) get_here)) (fun _ => (get_there (by omega) get_here))) (fac (mm (fun _ => (gt2 (by omega) get_here)) (fun _ => (gt2 (by omega) get_here))) (fac (mm (fun _ => (gt3 (by omega) get_here)) (fun _ => (gt4 (by omega) get_here))) (fac (mm (fun _ => (gt4 (by omega) get_here)) (fun _ => (gt5 (by omega) get_here))) (fac (mm (fun _ => (gt5 (by omega) get_here)) (fun _ => (gt6 (by omega) get_here))) fan)))))) (gone_of (by simp only [goneP, memP, List.cons_append, List.nil_append, true_or, or_true, true_and, and_true, or_false] <;> omega))) ?_
       refine RA.ret env_ok ?_
       refine ⟨.inr rfl, (xRs78 ja K), (resL_cons rfl (resL_cons (res_cellA rfl rfl rfl get_here rfl rfl rfl) (resL_cons rfl resL_nil))), [], (Less.of (fun p hp => by simp at hp) (gone_of (by simp only [goneP, memP, List.cons_append, List.nil_append, true_or, or_true, true_and, and_true, or_false] <;> omega))), (by exfalso; cases (refF_no (by omega) hc8 hc9).symm.trans hkF)⟩
      ·
       obtain ⟨y, hy⟩ := Option.ne_none_iff_exists'.1 hc9
       have hyd := hsz y (at_in hy)
       refine OA.callP (dst := (some 85)) (all := [(.slice (some ⟨ja, 0, none⟩) (K + 1) 2), (W (z.tsn + (1#32)))]) (v := (.tuple ⟨[(.agg ⟨(cPrt y)⟩), (.bool true)]⟩)) (hd.of (by omega) (kb5 (by omega))) rfl rfl rfl rfl rfl rfl rfl rfl (PS.to (sAt ja (K + 1) (q ++ [c]) (show (q ++ [c]).length = K + 1 from by rw [List.length_append, hq]; rfl) (by omega) (z.tsn + (1#32)) (gt2 (by omega) get_here)) (by rw [hy]; rfl)) ?_
       intro n14 hn14
       refine OA.p (some 80) (.tuple ⟨[(.agg ⟨(cPrt y)⟩), (.bool true)]⟩) rfl rfl rfl rfl ?_
       refine OA.p (some 86) (.agg ⟨(cPrt y)⟩) rfl rfl rfl rfl ?_
       refine OA.p (some 87) (.bool true) rfl rfl rfl rfl ?_
       refine OA.op1 (dst := (some 15)) (v := (Pt n14 0 0)) (n1 := (n14 + 1)) (w := (n14, some ⟨[xRs76], 15, 54, true⟩)) rfl rfl rfl rfl (by omega) ?_
       refine OA.op1 (dst := none) (v := (.tuple #[])) (n1 := (n14 + 1)) (w := (n14, some ⟨[(cPrt y)], 15, 54, true⟩)) rfl rfl rfl (r_store rfl rfl rfl rfl rfl rfl rfl get_here rfl rfl (Nat.le_of_ble_eq_true rfl) rfl) (by omega) ?_
       refine OA.p (some 16) (.bool true) rfl rfl rfl rfl ?_
       refine OA.nil ?_
       intro _
       refine RA.seq hd ?_
       refine RA.seq hd ?_
       refine RA.region env_ok ?_
       refine OA.p (some 88) (.bool true) rfl rfl rfl rfl ?_
       refine OA.p (some 89) (.bool false) rfl rfl rfl rfl ?_
       refine OA.p (some 90) (.bool false) rfl rfl rfl rfl ?_
       refine OA.p (some 91) (Pt n14 0 1) rfl rfl rfl rfl ?_
       refine OA.p (some 92) (.int .i64 ((y.fl.val : Nat) : Int)) rfl rfl rfl (r_load1 rfl rfl rfl rfl rfl get_here rfl rfl) ?_
       refine OA.p (some 93) (.int .i64 (((y.fl.val / 2) : Nat) : Int)) rfl rfl rfl (r_bin rfl rfl rfl (b_quoN (a := y.fl.val) (c := 2) (by decide) (i64_eq (by omega)))) ?_
       refine OA.p (some 94) (.int .i64 ((((y.fl.val / 2) % 2) : Nat) : Int)) rfl rfl rfl (r_bin rfl rfl rfl (b_remN (a := (y.fl.val / 2)) (c := 2) (by decide))) ?_
       by_cases hc10 : ((((y.fl.val / 2) % 2) : Nat) : Int) = 1
       ·
        refine OA.p (some 95) (.bool true) rfl rfl rfl (Eq.trans (r_bin rfl rfl rfl (b_eql rfl)) (dT hc10)) ?_
        refine OA.p (some 96) (.bool true) rfl rfl rfl rfl ?_
        refine OA.p (some 97) (.bool true) rfl rfl rfl rfl ?_
        refine OA.off (dst := (some 98)) rfl rfl rfl ?_
        refine OA.off (dst := (some 99)) rfl rfl rfl ?_
        refine OA.off (dst := (some 100)) rfl rfl rfl ?_
        refine OA.off (dst := (some 101)) rfl rfl rfl ?_
        refine OA.p (some 102) (.bool true) rfl rfl rfl rfl ?_
        refine OA.nil ?_
        intro _
        refine RA.rebase [(3, (Pt n 0 0)), (5, (.pointer (some ⟨(n + 1), 0, some 0⟩))), (7, (.slice (some ⟨ja, 0, none⟩) (K + 1) 2)), (8, (Pt n1 0 0)), (12, (Pt n2 0 0)), (13, (.string d)), (14, (.int .i64 ((k : Nat) : Int))), (15, (Pt n14 0 0)), (16, (.bool true)), (77, (.bool true)), (102, (.bool true))] ⟨rfl, rfl, rfl, rfl, rfl, rfl, rfl, rfl, rfl, rfl, rfl, trivial⟩ (fun τr15 => ?_)
        refine RA.condT rfl ?_
        refine RA.seq hd ?_
        refine RA.region env_ok ?_
        refine OA.p (some 103) (.slice (some ⟨ja, 0, none⟩) (K + 1) 2) rfl rfl rfl rfl ?_
        refine OA.p (some 104) (.agg ⟨[(.int .i64 0), (.int .i64 0), (.bool false), (.int .u32 0), (.string ByteArray.empty)]⟩) rfl rfl rfl (by kernel_rfl) ?_
        refine OA.p (some 4) (.slice (some ⟨ja, 0, none⟩) (K + 1) 2) rfl rfl rfl rfl ?_
        refine OA.op1 (dst := none) (v := (.tuple #[])) (n1 := (n14 + 1)) (w := ((n + 1), some ⟨[[(.int .i64 0), (.int .i64 0), (.bool false), (.int .u32 0), (.string ByteArray.empty)]], 5, 29, true⟩)) rfl rfl rfl (r_store rfl rfl rfl rfl rfl rfl rfl (gt3 (by omega) get_here) rfl rfl (Nat.le_of_ble_eq_true rfl) rfl) (by omega) ?_
        refine OA.p (some 6) (.bool false) rfl rfl rfl rfl ?_
        refine OA.nil ?_
        intro _
        refine RA.weaken (D' := [((n + 1), some ⟨[[(.int .i64 0), (.int .i64 0), (.bool false), (.int .u32 0), (.string ByteArray.empty)]], 5, 29, true⟩), (n14, some ⟨[(cPrt y)], 15, 54, true⟩), (n, some ⟨[(cPrt c)], 15, 54, true⟩), (ja, some (oPrt (q ++ [c]))), (n1, some ⟨[(cPrt x)], 15, 54, true⟩), (n2, some ⟨[(cPrt z)], 15, 54, true⟩)]) hd (Less.of (fac (mm (fun _ => get_here) (fun _ => get_here)) (fac (mm (fun _ => (get_there (by omega) get_here)) (fun _ => (get_there (by omega) get_here))) (fac (mm (fun _ => (gt2 (by omega) get_here)) (fun _ => (gt3 (by omega) get_here))) (fac (mm (fun _ => (gt3 (by omega) get_here)) (fun _ => (gt5 (by omega) get_here))) (fac (mm (fun _ => (gt4 (by omega) get_here)) (fun _ => (gt6 (by omega) get_here))) (fac (mm (fun _ => (gt5 (by omega) get_here)) (fun _ => (gt7 (by omega) get_here))) fan)))))) (gone_of (by simp only [goneP, memP, List.cons_append, List.nil_append, true_or, or_true, true_and, and_true, or_false] <;> omega))) ?_
        refine RA.ret env_ok ?_
        refine ⟨.inr rfl, (xRs78 ja K), (resL_cons rfl (resL_cons (res_cellA rfl rfl rfl get_here rfl rfl rfl) (resL_cons rfl resL_nil))), [], (Less.of (fun p hp => by simp at hp) (gone_of (by simp only [goneP, memP, List.cons_append, List.nil_append, true_or, or_true, true_and, and_true, or_false] <;> omega))), (by exfalso; cases (refF_bad (by omega) hc8 hy (.inl hc10)).symm.trans hkF)⟩
       ·
        refine OA.p (some 95) (.bool false) rfl rfl rfl (Eq.trans (r_bin rfl rfl rfl (b_eql rfl)) (dF hc10)) ?_
        refine OA.p (some 96) (.bool false) rfl rfl rfl rfl ?_
        refine OA.p (some 97) (.bool false) rfl rfl rfl rfl ?_
        refine OA.p (some 98) (.agg ⟨(xRs73 y)⟩) rfl rfl rfl (r_loadA rfl rfl rfl rfl get_here rfl rfl rfl) ?_
        refine OA.p (some 99) (.agg ⟨(xRs75 z)⟩) rfl rfl rfl (r_loadA rfl rfl rfl rfl (gt6 (by omega) get_here) rfl rfl rfl) ?_
        by_cases hc11 : alike y z
        ·
         refine OA.callP (dst := (some 100)) (all := [(.agg ⟨(xRs73 y)⟩), (.agg ⟨(xRs75 z)⟩)]) (v := (.bool true)) (hd.of (by omega) (kb7 (by omega))) rfl rfl rfl rfl rfl rfl rfl rfl (PS.to (sAl y z) (show (.bool (decide (alike y z))) = ((.bool true) : Value) from (by first | (rw [decide_eq_true hc11]; done) | (rw [decide_eq_true hc11]; rfl)))) ?_
         intro n16 hn16
         refine OA.p (some 101) (.bool false) rfl rfl rfl rfl ?_
         refine OA.p (some 102) (.bool false) rfl rfl rfl rfl ?_
         refine OA.nil ?_
         intro _
         refine RA.rebase [(3, (Pt n 0 0)), (5, (.pointer (some ⟨(n + 1), 0, some 0⟩))), (7, (.slice (some ⟨ja, 0, none⟩) (K + 1) 2)), (8, (Pt n1 0 0)), (12, (Pt n2 0 0)), (13, (.string d)), (14, (.int .i64 ((k : Nat) : Int))), (15, (Pt n14 0 0)), (16, (.bool true)), (77, (.bool true)), (102, (.bool false))] ⟨rfl, rfl, rfl, rfl, rfl, rfl, rfl, rfl, rfl, rfl, rfl, trivial⟩ (fun τr17 => ?_)
         refine RA.condF rfl ?_
         refine RA.skip env_ok ?_
         intro _
         refine RA.par (md := [some [n14], some [], some [], some [n14], some [], none, some []]) env_ok (hd.of (by omega) (kb7 (by omega))) (by kernel_rfl) ?_
         refine PQ.pure (dst := (some 105)) (v := (.agg ⟨(xRs73 y)⟩)) rfl rfl rfl (app [(n14, some ⟨[(cPrt y)], 15, 54, true⟩)] noStore) (seen_one (V := []) (D := [(n14, some ⟨[(cPrt y)], 15, 54, true⟩), (n14, some ⟨[xRs76], 15, 54, true⟩), (n, some ⟨[(cPrt c)], 15, 54, true⟩), ((n + 1), some ⟨[[(.int .i64 0), (.int .i64 0), (.bool false), (.int .u32 0), (.string ByteArray.empty)]], 5, 29, true⟩), (ja, some (oPrt (q ++ [c]))), (n1, some ⟨[(cPrt x)], 15, 54, true⟩), (n2, some ⟨[(cPrt z)], 15, 54, true⟩)]) (by kernel_rfl) get_here) (r_loadA rfl rfl rfl rfl get_here rfl rfl rfl) ?_
         refine PQ.pure (dst := (some 106)) (v := (.string d)) rfl rfl rfl noStore (none_ok _ _) rfl ?_
         refine PQ.pure (dst := (some 107)) (v := (Pt n14 0 6)) rfl rfl rfl noStore (none_ok _ _) rfl ?_
         refine PQ.pure (dst := (some 108)) (v := (.string y.data)) rfl rfl rfl (app [(n14, some ⟨[(cPrt y)], 15, 54, true⟩)] noStore) (seen_one (V := []) (D := [(n14, some ⟨[(cPrt y)], 15, 54, true⟩), (n14, some ⟨[xRs76], 15, 54, true⟩), (n, some ⟨[(cPrt c)], 15, 54, true⟩), ((n + 1), some ⟨[[(.int .i64 0), (.int .i64 0), (.bool false), (.int .u32 0), (.string ByteArray.empty)]], 5, 29, true⟩), (ja, some (oPrt (q ++ [c]))), (n1, some ⟨[(cPrt x)], 15, 54, true⟩), (n2, some ⟨[(cPrt z)], 15, 54, true⟩)]) (by kernel_rfl) get_here) (r_load1 rfl rfl rfl rfl rfl get_here rfl rfl) ?_
         refine PQ.pure (dst := (some 109)) (v := (.string (d ++ y.data))) rfl rfl rfl noStore (none_ok _ _) (r_cat rfl rfl rfl (by (try simp only [ByteArray.size_append, bstr_size, size_lit, List.size_toArray, List.length_cons, List.length_nil, List.length_take, List.length_drop, List.length_replicate]); try omega)) ?_
         refine PQ.op (dst := none) (v := (.tuple #[])) (n1 := n16) (d1 := [(n2, some ⟨[(xRs73 y)], 15, 54, true⟩)]) rfl rfl rfl _ (seen_any (V := []) (D := [(n14, some ⟨[(cPrt y)], 15, 54, true⟩), (n14, some ⟨[xRs76], 15, 54, true⟩), (n, some ⟨[(cPrt c)], 15, 54, true⟩), ((n + 1), some ⟨[[(.int .i64 0), (.int .i64 0), (.bool false), (.int .u32 0), (.string ByteArray.empty)]], 5, 29, true⟩), (ja, some (oPrt (q ++ [c]))), (n1, some ⟨[(cPrt x)], 15, 54, true⟩), (n2, some ⟨[(cPrt z)], 15, 54, true⟩)]) (by kernel_rfl)) (r_store rfl rfl rfl rfl rfl rfl rfl (gt6 (by omega) get_here) rfl rfl (Nat.le_of_ble_eq_true rfl) rfl) (by omega) (kp1 (wr_old [1, 2, 3, 4] (by kernel_rfl) (by omega) (by omega) (fac (lo0 rfl) (fac (lo0 rfl) (fac (lo1 rfl (by omega)) (fac (lo0 rfl) fan)))))) ?_
         refine PQ.pure (dst := (some 13)) (v := (.string (d ++ y.data))) rfl rfl rfl noStore (none_ok _ _) rfl ?_
         refine PQ.done (d := [(n2, some ⟨[(xRs73 y)], 15, 54, true⟩)]) (by kernel_rfl) ?_
         intro _
         refine RA.weaken (D' := [(n2, some ⟨[(xRs73 y)], 15, 54, true⟩), (n14, some ⟨[(cPrt y)], 15, 54, true⟩), (n, some ⟨[(cPrt c)], 15, 54, true⟩), ((n + 1), some ⟨[[(.int .i64 0), (.int .i64 0), (.bool false), (.int .u32 0), (.string ByteArray.empty)]], 5, 29, true⟩), (ja, some (oPrt (q ++ [c]))), (n1, some ⟨[(cPrt x)], 15, 54, true⟩)]) hd (Less.of (fac (mm (fun _ => get_here) (fun _ => get_here)) (fac (mm (fun _ => (get_there (by omega) get_here)) (fun _ => (get_there (by omega) get_here))) (fac (mm (fun _ => (gt2 (by omega) get_here)) (fun _ => (gt3 (by omega) get_here))) (fac (mm (fun _ => (gt3 (by omega) get_here)) (fun _ => (gt4 (by omega) get_here))) (fac (mm (fun _ => (gt4 (by omega) get_here)) (fun _ => (gt5 (by omega) get_here))) (fac (mm (fun _ => (gt5 (by omega) get_here)) (fun _ => (gt6 (by omega) get_here))) fan)))))) (gone_of (by simp only [goneP, memP, List.cons_append, List.nil_append, true_or, or_true, true_and, and_true, or_false] <;> omega))) ?_
         refine RA.region env_ok ?_
         refine OA.p (some 78) (.int .i64 ((k : Nat) : Int)) rfl rfl rfl rfl ?_
         refine OA.p (some 79) (.int .i64 (((k + 1) : Nat) : Int)) rfl rfl rfl (r_bin rfl rfl rfl (b_add (i64_eq (by omega)))) ?_
         refine OA.p (some 14) (.int .i64 (((k + 1) : Nat) : Int)) rfl rfl rfl rfl ?_
         refine OA.nil ?_
         refine ⟨K + 2 - (k + 1), by omega, [(n, some ⟨[(cPrt c)], 15, 54, true⟩), ((n + 1), some ⟨[[(.int .i64 0), (.int .i64 0), (.bool false), (.int .u32 0), (.string ByteArray.empty)]], 5, 29, true⟩), (ja, some (oPrt (q ++ [c]))), (n1, some ⟨[(cPrt x)], 15, 54, true⟩), (n2, some ⟨[(xRs73 y)], 15, 54, true⟩)], (Less.of (fac (mm (fun _ => get_here) (fun _ => (gt2 (by omega) get_here))) (fac (mm (fun _ => (get_there (by omega) get_here)) (fun _ => (gt3 (by omega) get_here))) (fac (mm (fun _ => (gt2 (by omega) get_here)) (fun _ => (gt4 (by omega) get_here))) (fac (mm (fun _ => (gt3 (by omega) get_here)) (fun _ => (gt5 (by omega) get_here))) (fac (mm (fun _ => (gt4 (by omega) get_here)) (fun _ => get_here)) fan))))) (gone_of (by simp only [goneP, memP, List.cons_append, List.nil_append, true_or, or_true, true_and, and_true, or_false] <;> omega))), ⟨(k + 1), y, (d ++ y.data), rfl, by omega, ⟨rfl, rfl, rfl, rfl, rfl, rfl, rfl, trivial⟩, (by rfl), (kb5 (by omega)), ⟨by omega, by rw [show K + 2 - (k + 1) = K + 2 - k - 1 from by omega, ← refF_go (by omega) hc8 hy hc10 hc11]; exact hkF, by rw [ByteArray.size_append]; omega⟩⟩⟩
        ·
         refine OA.callP (dst := (some 100)) (all := [(.agg ⟨(xRs73 y)⟩), (.agg ⟨(xRs75 z)⟩)]) (v := (.bool false)) (hd.of (by omega) (kb7 (by omega))) rfl rfl rfl rfl rfl rfl rfl rfl (PS.to (sAl y z) (show (.bool (decide (alike y z))) = ((.bool false) : Value) from (by first | (rw [decide_eq_false hc11]; done) | (rw [decide_eq_false hc11]; rfl)))) ?_
         intro n18 hn18
         refine OA.p (some 101) (.bool true) rfl rfl rfl rfl ?_
         refine OA.p (some 102) (.bool true) rfl rfl rfl rfl ?_
         refine OA.nil ?_
         intro _
         refine RA.rebase [(3, (Pt n 0 0)), (5, (.pointer (some ⟨(n + 1), 0, some 0⟩))), (7, (.slice (some ⟨ja, 0, none⟩) (K + 1) 2)), (8, (Pt n1 0 0)), (12, (Pt n2 0 0)), (13, (.string d)), (14, (.int .i64 ((k : Nat) : Int))), (15, (Pt n14 0 0)), (16, (.bool true)), (77, (.bool true)), (102, (.bool true))] ⟨rfl, rfl, rfl, rfl, rfl, rfl, rfl, rfl, rfl, rfl, rfl, trivial⟩ (fun τr19 => ?_)
         refine RA.condT rfl ?_
         refine RA.seq hd ?_
         refine RA.region env_ok ?_
         refine OA.p (some 103) (.slice (some ⟨ja, 0, none⟩) (K + 1) 2) rfl rfl rfl rfl ?_
         refine OA.p (some 104) (.agg ⟨[(.int .i64 0), (.int .i64 0), (.bool false), (.int .u32 0), (.string ByteArray.empty)]⟩) rfl rfl rfl (by kernel_rfl) ?_
         refine OA.p (some 4) (.slice (some ⟨ja, 0, none⟩) (K + 1) 2) rfl rfl rfl rfl ?_
         refine OA.op1 (dst := none) (v := (.tuple #[])) (n1 := n18) (w := ((n + 1), some ⟨[[(.int .i64 0), (.int .i64 0), (.bool false), (.int .u32 0), (.string ByteArray.empty)]], 5, 29, true⟩)) rfl rfl rfl (r_store rfl rfl rfl rfl rfl rfl rfl (gt3 (by omega) get_here) rfl rfl (Nat.le_of_ble_eq_true rfl) rfl) (by omega) ?_
         refine OA.p (some 6) (.bool false) rfl rfl rfl rfl ?_
         refine OA.nil ?_
         intro _
         refine RA.weaken (D' := [((n + 1), some ⟨[[(.int .i64 0), (.int .i64 0), (.bool false), (.int .u32 0), (.string ByteArray.empty)]], 5, 29, true⟩), (n14, some ⟨[(cPrt y)], 15, 54, true⟩), (n, some ⟨[(cPrt c)], 15, 54, true⟩), (ja, some (oPrt (q ++ [c]))), (n1, some ⟨[(cPrt x)], 15, 54, true⟩), (n2, some ⟨[(cPrt z)], 15, 54, true⟩)]) hd (Less.of (fac (mm (fun _ => get_here) (fun _ => get_here)) (fac (mm (fun _ => (get_there (by omega) get_here)) (fun _ => (get_there (by omega) get_here))) (fac (mm (fun _ => (gt2 (by omega) get_here)) (fun _ => (gt3 (by omega) get_here))) (fac (mm (fun _ => (gt3 (by omega) get_here)) (fun _ => (gt5 (by omega) get_here))) (fac (mm (fun _ => (gt4 (by omega) get_here)) (fun _ => (gt6 (by omega) get_here))) (fac (mm (fun _ => (gt5 (by omega) get_here)) (fun _ => (gt7 (by omega) get_here))) fan)))))) (gone_of (by simp only [goneP, memP, List.cons_append, List.nil_append, true_or, or_true, true_and, and_true, or_false] <;> omega))) ?_
         refine RA.ret env_ok ?_
         refine ⟨.inr rfl, (xRs78 ja K), (resL_cons rfl (resL_cons (res_cellA rfl rfl rfl get_here rfl rfl rfl) (resL_cons rfl resL_nil))), [], (Less.of (fun p hp => by simp at hp) (gone_of (by simp only [goneP, memP, List.cons_append, List.nil_append, true_or, or_true, true_and, and_true, or_false] <;> omega))), (by exfalso; cases (refF_bad (by omega) hc8 hy (.inr hc11)).symm.trans hkF)⟩
     ·
      refine OA.p (some 76) (.bool false) rfl rfl rfl (Eq.trans (r_bin rfl rfl rfl (b_eql rfl)) (dF hc8)) ?_
      refine OA.p (some 77) (.bool false) rfl rfl rfl rfl ?_
      refine OA.nil ?_
      intro _
      refine RA.condF rfl ?_
      refine RA.exit env_ok ?_
      have hzs : refF (q ++ [c]) (K + 2 - k) z d = some (z, d) := refF_stop (.inr hc8)
      have hzp := Option.some.inj (hzs.symm.trans hkF)
      have hz1 : z = pl := congrArg Prod.fst hzp
      have hz2 : d = dd := congrArg Prod.snd hzp
      intro _
      refine RA.seq hd ?_
      refine RA.region env_ok ?_
      refine OA.op1 (dst := (some 110)) (v := (.slice (some ⟨n11, 0, none⟩) 0 0)) (n1 := (n11 + 1)) (w := (n11, some (oPrt ([] : List Prt)))) rfl rfl rfl (by kernel_rfl) (by omega) ?_
      refine OA.p (some 17) (.slice (some ⟨n11, 0, none⟩) 0 0) rfl rfl rfl rfl ?_
      refine OA.nil ?_
      intro _
      refine RA.seq hd ?_
      refine RA.seq hd ?_
      refine RA.region env_ok ?_
      refine OA.p (some 18) (.int .i64 0) rfl rfl rfl rfl ?_
      refine OA.nil ?_
      intro _
      refine RA.block ?_
      refine RA.leT (t := 17) (v := (.slice (some ⟨n11, 0, none⟩) 0 0)) (v' := (.slice (some ⟨n11, 0, none⟩) 0 2)) rfl (vle_row _ _ _) ?_
      refine RA.weaken (D' := [(n, some ⟨[(cPrt c)], 15, 54, true⟩), ((n + 1), some ⟨[[(.int .i64 0), (.int .i64 0), (.bool false), (.int .u32 0), (.string ByteArray.empty)]], 5, 29, true⟩), (ja, some (oPrt (q ++ [c]))), (n1, some ⟨[(cPrt x)], 15, 54, true⟩), (n2, some ⟨[(cPrt z)], 15, 54, true⟩), (n11, some (oPrt ([] : List Prt)))]) hd (Less.of (fac (mm (fun _ => get_here) (fun _ => (get_there (by omega) get_here))) (fac (mm (fun _ => (get_there (by omega) get_here)) (fun _ => (gt2 (by omega) get_here))) (fac (mm (fun _ => (gt2 (by omega) get_here)) (fun _ => (gt3 (by omega) get_here))) (fac (mm (fun _ => (gt3 (by omega) get_here)) (fun _ => (gt4 (by omega) get_here))) (fac (mm (fun _ => (gt4 (by omega) get_here)) (fun _ => (gt5 (by omega) get_here))) (fac (mm (fun _ => (gt5 (by omega) get_here)) (fun _ => get_here)) fan)))))) (gone_of (by simp only [goneP, memP, List.cons_append, List.nil_append, true_or, or_true, true_and, and_true, or_false] <;> omega))) ?_
      refine RA.loop hd (fun kk_ τ n' D => (∃ i : Nat, ∃ jr : Nat, ∃ M : Nat, kk_ = K + 1 - i ∧ (n11 + 1) ≤ n' ∧ Has τ [(3, (Pt n 0 0)), (5, (.pointer (some ⟨(n + 1), 0, some 0⟩))), (7, (.slice (some ⟨ja, 0, none⟩) (K + 1) 2)), (8, (Pt n1 0 0)), (12, (Pt n2 0 0)), (13, (.string d)), (17, (.slice (some ⟨jr, 0, none⟩) M 2)), (18, (.int .i64 ((i : Nat) : Int)))] ∧ D = [(n, some ⟨[(cPrt c)], 15, 54, true⟩), ((n + 1), some ⟨[[(.int .i64 0), (.int .i64 0), (.bool false), (.int .u32 0), (.string ByteArray.empty)]], 5, 29, true⟩), (ja, some (oPrt (q ++ [c]))), (n1, some ⟨[(cPrt x)], 15, 54, true⟩), (n2, some ⟨[(cPrt z)], 15, 54, true⟩), (jr, some (oPrt (((q ++ [c]).take i).filter (keepP x z))))] ∧ (∀ i ∈ keys D, i < n') ∧ i ≤ K + 1 ∧ (((q ++ [c]).take i).filter (keepP x z)).length = M ∧ M ≤ i ∧ n2 < jr)) (K + 1 - 0) (⟨0, n11, 0, rfl, by omega, ⟨rfl, rfl, rfl, rfl, rfl, rfl, rfl, rfl, trivial⟩, (by rfl), (kb6 (by omega)), ⟨by omega, rfl, by omega, by omega⟩⟩) ?_
      rintro kn20 τ20 n20 _ ⟨i, jr, M, rfl, hn20, hHn20, rfl, hKn20, hIn20⟩
      rw [Has.eq hHn20]
      have hKn20_0 : n < n20 := hKn20 _ (by simp only [keys, List.map_cons, List.map_nil, List.mem_cons, true_or, or_true])
      have hKn20_1 : (n + 1) < n20 := hKn20 _ (by simp only [keys, List.map_cons, List.map_nil, List.mem_cons, true_or, or_true])
      have hKn20_2 : ja < n20 := hKn20 _ (by simp only [keys, List.map_cons, List.map_nil, List.mem_cons, true_or, or_true])
      have hKn20_3 : n1 < n20 := hKn20 _ (by simp only [keys, List.map_cons, List.map_nil, List.mem_cons, true_or, or_true])
      have hKn20_4 : n2 < n20 := hKn20 _ (by simp only [keys, List.map_cons, List.map_nil, List.mem_cons, true_or, or_true])
      have hKn20_5 : jr < n20 := hKn20 _ (by simp only [keys, List.map_cons, List.map_nil, List.mem_cons, true_or, or_true])
      clear hKn20
      obtain ⟨hm1, hm2, hm3, hm4⟩ := hIn20
      refine RA.seq hd ?_
      refine RA.seq hd ?_
      refine RA.region env_ok ?_
      refine OA.p (some 111) (.int .i64 ((i : Nat) : Int)) rfl rfl rfl rfl ?_
      refine OA.p (some 112) (.slice (some ⟨ja, 0, none⟩) (K + 1) 2) rfl rfl rfl rfl ?_
      refine OA.p (some 113) (.int .i64 (((K + 1) : Nat) : Int)) rfl rfl rfl rfl ?_
      by_cases hc12 : ((i : Nat) : Int) < (((K + 1) : Nat) : Int)
      ·
       refine OA.p (some 114) (.bool true) rfl rfl rfl (Eq.trans (r_bin rfl rfl rfl (b_lss rfl)) (dT hc12)) ?_
       refine OA.nil ?_
       intro _
       refine RA.condT rfl ?_
       refine RA.skip env_ok ?_
       intro _
       refine RA.seq hd ?_
       refine RA.block ?_
       refine RA.seq hd ?_
       refine RA.par (md := [some [], some [], some [ja], some [], some [ja], some [], some [n1], some [], some [], some [n2], some [], some [n1], some [], some []]) env_ok (hd.of (by omega) (kb6 (by omega))) (by kernel_rfl) ?_
       refine PQ.pure (dst := (some 117)) (v := (.slice (some ⟨ja, 0, none⟩) (K + 1) 2)) rfl rfl rfl noStore (none_ok _ _) rfl ?_
       refine PQ.pure (dst := (some 118)) (v := (.int .i64 ((i : Nat) : Int))) rfl rfl rfl noStore (none_ok _ _) rfl ?_
       refine PQ.pure (dst := (some 119)) (v := (Pt ja i 0)) rfl rfl rfl (app [(ja, some (oPrt (q ++ [c])))] noStore) (seen_one (V := []) (D := [(n, some ⟨[(cPrt c)], 15, 54, true⟩), ((n + 1), some ⟨[[(.int .i64 0), (.int .i64 0), (.bool false), (.int .u32 0), (.string ByteArray.empty)]], 5, 29, true⟩), (ja, some (oPrt (q ++ [c]))), (n1, some ⟨[(cPrt x)], 15, 54, true⟩), (n2, some ⟨[(cPrt z)], 15, 54, true⟩), (jr, some (oPrt (((q ++ [c]).take i).filter (keepP x z))))]) (by kernel_rfl) (gt2 (by omega) get_here)) (r_iaS (l := i) rfl rfl rfl rfl rfl rfl (by omega) (by omega) get_here rfl (by omega)) ?_
       refine PQ.pure (dst := (some 120)) (v := (Pt ja i 2)) rfl rfl rfl noStore (none_ok _ _) rfl ?_
       refine PQ.pure (dst := (some 121)) (v := (W ((q ++ [c]).getD i dPrt).tsn)) rfl rfl rfl (app [(ja, some (oPrt (q ++ [c])))] noStore) (seen_one (V := []) (D := [(n, some ⟨[(cPrt c)], 15, 54, true⟩), ((n + 1), some ⟨[[(.int .i64 0), (.int .i64 0), (.bool false), (.int .u32 0), (.string ByteArray.empty)]], 5, 29, true⟩), (ja, some (oPrt (q ++ [c]))), (n1, some ⟨[(cPrt x)], 15, 54, true⟩), (n2, some ⟨[(cPrt z)], 15, 54, true⟩), (jr, some (oPrt (((q ++ [c]).take i).filter (keepP x z))))]) (by kernel_rfl) (gt2 (by omega) get_here)) (r_loadF (c := cPrt) dPrt rfl rfl rfl rfl rfl get_here (by have := (show (q ++ [c]).length = K + 1 from by rw [List.length_append, hq]; rfl); omega) rfl) ?_
       refine PQ.pure (dst := (some 122)) (v := (Pt n1 0 2)) rfl rfl rfl noStore (none_ok _ _) rfl ?_
       refine PQ.pure (dst := (some 123)) (v := (W x.tsn)) rfl rfl rfl (app [(n1, some ⟨[(cPrt x)], 15, 54, true⟩)] noStore) (seen_one (V := []) (D := [(n, some ⟨[(cPrt c)], 15, 54, true⟩), ((n + 1), some ⟨[[(.int .i64 0), (.int .i64 0), (.bool false), (.int .u32 0), (.string ByteArray.empty)]], 5, 29, true⟩), (ja, some (oPrt (q ++ [c]))), (n1, some ⟨[(cPrt x)], 15, 54, true⟩), (n2, some ⟨[(cPrt z)], 15, 54, true⟩), (jr, some (oPrt (((q ++ [c]).take i).filter (keepP x z))))]) (by kernel_rfl) (gt3 (by omega) get_here)) (r_load1 rfl rfl rfl rfl rfl get_here rfl rfl) ?_
       refine PQ.pure (dst := (some 124)) (v := (W (((q ++ [c]).getD i dPrt).tsn - x.tsn))) rfl rfl rfl noStore (none_ok _ _) (r_bin rfl rfl rfl (b_subW ((q ++ [c]).getD i dPrt).tsn x.tsn)) ?_
       refine PQ.pure (dst := (some 125)) (v := (Pt n2 0 2)) rfl rfl rfl noStore (none_ok _ _) rfl ?_
       refine PQ.pure (dst := (some 126)) (v := (W z.tsn)) rfl rfl rfl (app [(n2, some ⟨[(cPrt z)], 15, 54, true⟩)] noStore) (seen_one (V := []) (D := [(n, some ⟨[(cPrt c)], 15, 54, true⟩), ((n + 1), some ⟨[[(.int .i64 0), (.int .i64 0), (.bool false), (.int .u32 0), (.string ByteArray.empty)]], 5, 29, true⟩), (ja, some (oPrt (q ++ [c]))), (n1, some ⟨[(cPrt x)], 15, 54, true⟩), (n2, some ⟨[(cPrt z)], 15, 54, true⟩), (jr, some (oPrt (((q ++ [c]).take i).filter (keepP x z))))]) (by kernel_rfl) (gt4 (by omega) get_here)) (r_load1 rfl rfl rfl rfl rfl get_here rfl rfl) ?_
       refine PQ.pure (dst := (some 127)) (v := (Pt n1 0 2)) rfl rfl rfl noStore (none_ok _ _) rfl ?_
       refine PQ.pure (dst := (some 128)) (v := (W x.tsn)) rfl rfl rfl (app [(n1, some ⟨[(cPrt x)], 15, 54, true⟩)] noStore) (seen_one (V := []) (D := [(n, some ⟨[(cPrt c)], 15, 54, true⟩), ((n + 1), some ⟨[[(.int .i64 0), (.int .i64 0), (.bool false), (.int .u32 0), (.string ByteArray.empty)]], 5, 29, true⟩), (ja, some (oPrt (q ++ [c]))), (n1, some ⟨[(cPrt x)], 15, 54, true⟩), (n2, some ⟨[(cPrt z)], 15, 54, true⟩), (jr, some (oPrt (((q ++ [c]).take i).filter (keepP x z))))]) (by kernel_rfl) (gt3 (by omega) get_here)) (r_load1 rfl rfl rfl rfl rfl get_here rfl rfl) ?_
       refine PQ.pure (dst := (some 129)) (v := (W (z.tsn - x.tsn))) rfl rfl rfl noStore (none_ok _ _) (r_bin rfl rfl rfl (b_subW z.tsn x.tsn)) ?_
       by_cases hc13 : ((z.tsn - x.tsn).toNat : Int) < ((((q ++ [c]).getD i dPrt).tsn - x.tsn).toNat : Int)
       ·
        refine PQ.pure (dst := (some 130)) (v := (.bool true)) rfl rfl rfl noStore (none_ok _ _) (Eq.trans (r_bin rfl rfl rfl (b_gtr rfl)) (dT hc13)) ?_
        refine PQ.done (d := []) (by kernel_rfl) ?_
        intro _
        refine RA.condT rfl ?_
        refine RA.region env_ok ?_
        refine OA.p (some 131) (.slice (some ⟨jr, 0, none⟩) M 2) rfl rfl rfl rfl ?_
        refine OA.p (some 132) (.slice (some ⟨ja, 0, none⟩) (K + 1) 2) rfl rfl rfl rfl ?_
        refine OA.p (some 133) (.int .i64 ((i : Nat) : Int)) rfl rfl rfl rfl ?_
        refine OA.p (some 134) (Pt ja i 0) rfl rfl rfl (r_iaS (l := i) rfl rfl rfl rfl rfl rfl (by omega) (by omega) (gt2 (by omega) get_here) rfl (by omega)) ?_
        refine OA.p (some 135) (.agg ⟨(cPrt ((q ++ [c]).getD i dPrt))⟩) rfl rfl rfl (r_loadR (c := cPrt) dPrt rfl rfl rfl rfl (gt2 (by omega) get_here) (by have := (show (q ++ [c]).length = K + 1 from by rw [List.length_append, hq]; rfl); omega) rfl) ?_
        refine OA.op1 (dst := (some 136)) (v := (.slice (some ⟨n20, 0, none⟩) 1 0)) (n1 := (n20 + 1)) (w := (n20, some ⟨[(xRs71 q c i)], 15, 54, true⟩)) rfl rfl rfl (by kernel_rfl) (by omega) ?_
        refine OA.op (dst := (some 137)) (v := (.slice (some ⟨(n20 + 1), 0, none⟩) (M + 1) 2)) (n1 := (n20 + 2)) (d1 := [((n20 + 1), some (oPrt ((((q ++ [c]).take i).filter (keepP x z)) ++ [((q ++ [c]).getD i dPrt)]))), (jr, none)]) (D' := [((n20 + 1), some (oPrt ((((q ++ [c]).take i).filter (keepP x z)) ++ [((q ++ [c]).getD i dPrt)]))), (jr, none), (n20, some ⟨[(xRs71 q c i)], 15, 54, true⟩), (n, some ⟨[(cPrt c)], 15, 54, true⟩), ((n + 1), some ⟨[[(.int .i64 0), (.int .i64 0), (.bool false), (.int .u32 0), (.string ByteArray.empty)]], 5, 29, true⟩), (ja, some (oPrt (q ++ [c]))), (n1, some ⟨[(cPrt x)], 15, 54, true⟩), (n2, some ⟨[(cPrt z)], 15, 54, true⟩), (jr, some (oPrt (((q ++ [c]).take i).filter (keepP x z))))]) rfl rfl rfl (r_append2x (c := cPrt) (x := ((q ++ [c]).getD i dPrt)) (l' := ((((q ++ [c]).take i).filter (keepP x z)) ++ [((q ++ [c]).getD i dPrt)])) rfl rfl rfl rfl rfl rfl rfl rfl rfl rfl (by decide) (gt6 (by omega) get_here) get_here (by rw [hm2]; omega) (by rw [take_all' (by rw [hm2])]) (by omega) (of_decide_eq_true (by kernel_rfl)) (by omega)) (by omega) rfl ?_
        refine OA.p (some 17) (.slice (some ⟨(n20 + 1), 0, none⟩) (M + 1) 2) rfl rfl rfl rfl ?_
        refine OA.nil ?_
        intro _
        refine RA.weaken (D' := [((n20 + 1), some (oPrt ((((q ++ [c]).take i).filter (keepP x z)) ++ [((q ++ [c]).getD i dPrt)]))), (jr, none), (n20, some ⟨[(xRs71 q c i)], 15, 54, true⟩), (n, some ⟨[(cPrt c)], 15, 54, true⟩), ((n + 1), some ⟨[[(.int .i64 0), (.int .i64 0), (.bool false), (.int .u32 0), (.string ByteArray.empty)]], 5, 29, true⟩), (ja, some (oPrt (q ++ [c]))), (n1, some ⟨[(cPrt x)], 15, 54, true⟩), (n2, some ⟨[(cPrt z)], 15, 54, true⟩)]) hd (Less.of (fac (mm (fun _ => get_here) (fun _ => get_here)) (fac (mm (fun _ => (get_there (by omega) get_here)) (fun _ => (get_there (by omega) get_here))) (fac (mm (fun _ => (gt2 (by omega) get_here)) (fun _ => (gt2 (by omega) get_here))) (fac (mm (fun _ => (gt3 (by omega) get_here)) (fun _ => (gt3 (by omega) get_here))) (fac (mm (fun _ => (gt4 (by omega) get_here)) (fun _ => (gt4 (by omega) get_here))) (fac (mm (fun _ => (gt5 (by omega) get_here)) (fun _ => (gt5 (by omega) get_here))) (fac (mm (fun _ => (gt6 (by omega) get_here)) (fun _ => (gt6 (by omega) get_here))) (fac (mm (fun _ => (gt7 (by omega) get_here)) (fun _ => (gt7 (by omega) get_here))) fan)))))))) (gone_of (by simp only [goneP, memP, List.cons_append, List.nil_append, true_or, or_true, true_and, and_true, or_false] <;> omega))) ?_
        refine RA.rebase [(3, (Pt n 0 0)), (5, (.pointer (some ⟨(n + 1), 0, some 0⟩))), (7, (.slice (some ⟨ja, 0, none⟩) (K + 1) 2)), (8, (Pt n1 0 0)), (12, (Pt n2 0 0)), (13, (.string d)), (17, (.slice (some ⟨(n20 + 1), 0, none⟩) (M + 1) 2)), (18, (.int .i64 ((i : Nat) : Int))), (114, (.bool true)), (130, (.bool true))] ⟨rfl, rfl, rfl, rfl, rfl, rfl, rfl, rfl, rfl, rfl, trivial⟩ (fun τr21 => ?_)
        refine RA.region env_ok ?_
        refine OA.p (some 115) (.int .i64 ((i : Nat) : Int)) rfl rfl rfl rfl ?_
        refine OA.p (some 116) (.int .i64 (((i + 1) : Nat) : Int)) rfl rfl rfl (r_bin rfl rfl rfl (b_add (i64_eq (by omega)))) ?_
        refine OA.p (some 18) (.int .i64 (((i + 1) : Nat) : Int)) rfl rfl rfl rfl ?_
        refine OA.nil ?_
        refine ⟨K + 1 - (i + 1), by omega, [(n, some ⟨[(cPrt c)], 15, 54, true⟩), ((n + 1), some ⟨[[(.int .i64 0), (.int .i64 0), (.bool false), (.int .u32 0), (.string ByteArray.empty)]], 5, 29, true⟩), (ja, some (oPrt (q ++ [c]))), (n1, some ⟨[(cPrt x)], 15, 54, true⟩), (n2, some ⟨[(cPrt z)], 15, 54, true⟩), ((n20 + 1), some (oPrt ((((q ++ [c]).take i).filter (keepP x z)) ++ [((q ++ [c]).getD i dPrt)])))], (Less.of (fac (mm (fun _ => get_here) (fun _ => (gt3 (by omega) get_here))) (fac (mm (fun _ => (get_there (by omega) get_here)) (fun _ => (gt4 (by omega) get_here))) (fac (mm (fun _ => (gt2 (by omega) get_here)) (fun _ => (gt5 (by omega) get_here))) (fac (mm (fun _ => (gt3 (by omega) get_here)) (fun _ => (gt6 (by omega) get_here))) (fac (mm (fun _ => (gt4 (by omega) get_here)) (fun _ => (gt7 (by omega) get_here))) (fac (mm (fun _ => (gt5 (by omega) get_here)) (fun _ => get_here)) fan)))))) (gone_of (by simp only [goneP, memP, List.cons_append, List.nil_append, true_or, or_true, true_and, and_true, or_false] <;> omega))), ⟨(i + 1), (n20 + 1), (M + 1), rfl, by omega, ⟨rfl, rfl, rfl, rfl, rfl, rfl, rfl, rfl, trivial⟩, (by rw [flt_yes (by rw [List.length_append, hq]; show i < K + 1; omega) (decide_eq_true (by omega))]), (kb6 (by omega)), ⟨by omega, by rw [flt_yes (by rw [List.length_append, hq]; show i < K + 1; omega) (decide_eq_true (by omega))]; rw [List.length_append, List.length_singleton, hm2], by omega, by omega⟩⟩⟩
       ·
        refine PQ.pure (dst := (some 130)) (v := (.bool false)) rfl rfl rfl noStore (none_ok _ _) (Eq.trans (r_bin rfl rfl rfl (b_gtr rfl)) (dF hc13)) ?_
        refine PQ.done (d := []) (by kernel_rfl) ?_
        intro _
        refine RA.condF rfl ?_
        refine RA.skip env_ok ?_
        intro _
        refine RA.region env_ok ?_
        refine OA.p (some 115) (.int .i64 ((i : Nat) : Int)) rfl rfl rfl rfl ?_
        refine OA.p (some 116) (.int .i64 (((i + 1) : Nat) : Int)) rfl rfl rfl (r_bin rfl rfl rfl (b_add (i64_eq (by omega)))) ?_
        refine OA.p (some 18) (.int .i64 (((i + 1) : Nat) : Int)) rfl rfl rfl rfl ?_
        refine OA.nil ?_
        refine ⟨K + 1 - (i + 1), by omega, [(n, some ⟨[(cPrt c)], 15, 54, true⟩), ((n + 1), some ⟨[[(.int .i64 0), (.int .i64 0), (.bool false), (.int .u32 0), (.string ByteArray.empty)]], 5, 29, true⟩), (ja, some (oPrt (q ++ [c]))), (n1, some ⟨[(cPrt x)], 15, 54, true⟩), (n2, some ⟨[(cPrt z)], 15, 54, true⟩), (jr, some (oPrt (((q ++ [c]).take i).filter (keepP x z))))], (Less.refl _ _ _), ⟨(i + 1), jr, M, rfl, by omega, ⟨rfl, rfl, rfl, rfl, rfl, rfl, rfl, rfl, trivial⟩, (by rw [flt_no (by rw [List.length_append, hq]; show i < K + 1; omega) (fun hh => hc13 (by have := of_decide_eq_true hh; omega))]), (kb6 (by omega)), ⟨by omega, by rw [flt_no (by rw [List.length_append, hq]; show i < K + 1; omega) (fun hh => hc13 (by have := of_decide_eq_true hh; omega))]; exact hm2, by omega, by omega⟩⟩⟩
      ·
       refine OA.p (some 114) (.bool false) rfl rfl rfl (Eq.trans (r_bin rfl rfl rfl (b_lss rfl)) (dF hc12)) ?_
       refine OA.nil ?_
       intro _
       refine RA.condF rfl ?_
       refine RA.exit env_ok ?_
       intro _
       refine RA.seq hd ?_
       refine RA.region env_ok ?_
       refine OA.p (some 138) (Pt n 0 3) rfl rfl rfl rfl ?_
       refine OA.p (some 139) (.int .i64 ((c.st : Nat) : Int)) rfl rfl rfl (r_load1 rfl rfl rfl rfl rfl get_here rfl rfl) ?_
       refine OA.p (some 140) (Pt n 0 4) rfl rfl rfl rfl ?_
       refine OA.p (some 141) (.int .i64 ((c.ssn : Nat) : Int)) rfl rfl rfl (r_load1 rfl rfl rfl rfl rfl get_here rfl rfl) ?_
       refine OA.p (some 142) (Pt n 0 1) rfl rfl rfl rfl ?_
       refine OA.p (some 143) (.int .i64 ((c.fl.val : Nat) : Int)) rfl rfl rfl (r_load1 rfl rfl rfl rfl rfl get_here rfl rfl) ?_
       refine OA.p (some 144) (.int .i64 (((c.fl.val / 4) : Nat) : Int)) rfl rfl rfl (r_bin rfl rfl rfl (b_quoN (a := c.fl.val) (c := 4) (by decide) (i64_eq (by omega)))) ?_
       refine OA.p (some 145) (.int .i64 ((((c.fl.val / 4) % 2) : Nat) : Int)) rfl rfl rfl (r_bin rfl rfl rfl (b_remN (a := (c.fl.val / 4)) (c := 2) (by decide))) ?_
       by_cases hc14 : ((((c.fl.val / 4) % 2) : Nat) : Int) = 1
       ·
        refine OA.p (some 146) (.bool true) rfl rfl rfl (Eq.trans (r_bin rfl rfl rfl (b_eql rfl)) (dT hc14)) ?_
        refine OA.p (some 147) (Pt n1 0 5) rfl rfl rfl rfl ?_
        refine OA.p (some 148) (W x.proto) rfl rfl rfl (r_load1 rfl rfl rfl rfl rfl (gt3 (by omega) get_here) rfl rfl) ?_
        refine OA.p (some 149) (.string d) rfl rfl rfl rfl ?_
        refine OA.p (some 150) (.agg ⟨(xRs711 c x d)⟩) rfl rfl rfl (by kernel_rfl) ?_
        refine OA.op1 (dst := (some 19)) (v := (Pt n20 0 0)) (n1 := (n20 + 1)) (w := (n20, some ⟨[[(.int .i64 0), (.int .i64 0), (.bool false), (.int .u32 0), (.string ByteArray.empty)]], 5, 29, true⟩)) rfl rfl rfl rfl (by omega) ?_
        refine OA.op1 (dst := none) (v := (.tuple #[])) (n1 := (n20 + 1)) (w := (n20, some ⟨[(xRs711 c x d)], 5, 29, true⟩)) rfl rfl rfl (r_store rfl rfl rfl rfl rfl rfl rfl get_here rfl rfl (Nat.le_of_ble_eq_true rfl) rfl) (by omega) ?_
        refine OA.nil ?_
        intro _
        refine RA.seq hd ?_
        refine RA.seq hd ?_
        refine RA.region env_ok ?_
        refine OA.p (some 151) (Pt n20 0 2) rfl rfl rfl rfl ?_
        refine OA.p (some 152) (.bool true) rfl rfl rfl (r_load1 rfl rfl rfl rfl rfl get_here rfl rfl) ?_
        refine OA.nil ?_
        intro _
        refine RA.condT rfl ?_
        refine RA.region env_ok ?_
        refine OA.p (some 153) (Pt n20 0 1) rfl rfl rfl rfl ?_
        refine OA.op1 (dst := none) (v := (.tuple #[])) (n1 := (n20 + 1)) (w := (n20, some ⟨[[(.int .i64 ((c.st : Nat) : Int)), (.int .i64 0), (.bool true), (W x.proto), (.string d)]], 5, 29, true⟩)) rfl rfl rfl (r_store rfl rfl rfl rfl rfl rfl rfl get_here rfl rfl (Nat.le_of_ble_eq_true rfl) rfl) (by omega) ?_
        refine OA.nil ?_
        intro _
        refine RA.weaken (D' := [(n20, some ⟨[[(.int .i64 ((c.st : Nat) : Int)), (.int .i64 0), (.bool true), (W x.proto), (.string d)]], 5, 29, true⟩), (n, some ⟨[(cPrt c)], 15, 54, true⟩), ((n + 1), some ⟨[[(.int .i64 0), (.int .i64 0), (.bool false), (.int .u32 0), (.string ByteArray.empty)]], 5, 29, true⟩), (ja, some (oPrt (q ++ [c]))), (n1, some ⟨[(cPrt x)], 15, 54, true⟩), (n2, some ⟨[(cPrt z)], 15, 54, true⟩), (jr, some (oPrt (((q ++ [c]).take i).filter (keepP x z))))]) hd (Less.of (fac (mm (fun _ => get_here) (fun _ => get_here)) (fac (mm (fun _ => (get_there (by omega) get_here)) (fun _ => (gt3 (by omega) get_here))) (fac (mm (fun _ => (gt2 (by omega) get_here)) (fun _ => (gt4 (by omega) get_here))) (fac (mm (fun _ => (gt3 (by omega) get_here)) (fun _ => (gt5 (by omega) get_here))) (fac (mm (fun _ => (gt4 (by omega) get_here)) (fun _ => (gt6 (by omega) get_here))) (fac (mm (fun _ => (gt5 (by omega) get_here)) (fun _ => (gt7 (by omega) get_here))) (fac (mm (fun _ => (gt6 (by omega) get_here)) (fun _ => (gt8 (by omega) get_here))) fan))))))) (gone_of (by simp only [goneP, memP, List.cons_append, List.nil_append, true_or, or_true, true_and, and_true, or_false] <;> omega))) ?_
        refine RA.seq hd ?_
        refine RA.par (md := [some [], some [n20], some [], none, some []]) env_ok (hd.of (by omega) (kb7 (by omega))) (by kernel_rfl) ?_
        refine PQ.pure (dst := (some 154)) (v := (.slice (some ⟨jr, 0, none⟩) M 2)) rfl rfl rfl noStore (none_ok _ _) rfl ?_
        refine PQ.pure (dst := (some 155)) (v := (.agg ⟨[(.int .i64 ((c.st : Nat) : Int)), (.int .i64 0), (.bool true), (W x.proto), (.string d)]⟩)) rfl rfl rfl (app [(n20, some ⟨[[(.int .i64 ((c.st : Nat) : Int)), (.int .i64 0), (.bool true), (W x.proto), (.string d)]], 5, 29, true⟩)] noStore) (seen_one (V := []) (D := [(n20, some ⟨[[(.int .i64 ((c.st : Nat) : Int)), (.int .i64 0), (.bool true), (W x.proto), (.string d)]], 5, 29, true⟩), (n, some ⟨[(cPrt c)], 15, 54, true⟩), ((n + 1), some ⟨[[(.int .i64 0), (.int .i64 0), (.bool false), (.int .u32 0), (.string ByteArray.empty)]], 5, 29, true⟩), (ja, some (oPrt (q ++ [c]))), (n1, some ⟨[(cPrt x)], 15, 54, true⟩), (n2, some ⟨[(cPrt z)], 15, 54, true⟩), (jr, some (oPrt (((q ++ [c]).take i).filter (keepP x z))))]) (by kernel_rfl) get_here) (r_loadA rfl rfl rfl rfl get_here rfl rfl rfl) ?_
        refine PQ.pure (dst := (some 4)) (v := (.slice (some ⟨jr, 0, none⟩) M 2)) rfl rfl rfl noStore (none_ok _ _) rfl ?_
        refine PQ.op (dst := none) (v := (.tuple #[])) (n1 := (n20 + 1)) (d1 := [((n + 1), some ⟨[[(.int .i64 ((c.st : Nat) : Int)), (.int .i64 0), (.bool true), (W x.proto), (.string d)]], 5, 29, true⟩)]) rfl rfl rfl _ (seen_any (V := []) (D := [(n20, some ⟨[[(.int .i64 ((c.st : Nat) : Int)), (.int .i64 0), (.bool true), (W x.proto), (.string d)]], 5, 29, true⟩), (n, some ⟨[(cPrt c)], 15, 54, true⟩), ((n + 1), some ⟨[[(.int .i64 0), (.int .i64 0), (.bool false), (.int .u32 0), (.string ByteArray.empty)]], 5, 29, true⟩), (ja, some (oPrt (q ++ [c]))), (n1, some ⟨[(cPrt x)], 15, 54, true⟩), (n2, some ⟨[(cPrt z)], 15, 54, true⟩), (jr, some (oPrt (((q ++ [c]).take i).filter (keepP x z))))]) (by kernel_rfl)) (r_store rfl rfl rfl rfl rfl rfl rfl (gt2 (by omega) get_here) rfl rfl (Nat.le_of_ble_eq_true rfl) rfl) (by omega) (kp1 (wr_tight (by kernel_rfl) (by omega))) ?_
        refine PQ.pure (dst := (some 6)) (v := (.bool true)) rfl rfl rfl noStore (none_ok _ _) rfl ?_
        refine PQ.done (d := [((n + 1), some ⟨[[(.int .i64 ((c.st : Nat) : Int)), (.int .i64 0), (.bool true), (W x.proto), (.string d)]], 5, 29, true⟩)]) (by kernel_rfl) ?_
        intro _
        refine RA.rebase [(3, (Pt n 0 0)), (4, (.slice (some ⟨jr, 0, none⟩) M 2)), (5, (.pointer (some ⟨(n + 1), 0, some 0⟩))), (6, (.bool true)), (7, (.slice (some ⟨ja, 0, none⟩) (K + 1) 2)), (8, (Pt n1 0 0)), (12, (Pt n2 0 0)), (13, (.string d)), (17, (.slice (some ⟨jr, 0, none⟩) M 2)), (18, (.int .i64 ((i : Nat) : Int))), (19, (Pt n20 0 0)), (114, (.bool false)), (152, (.bool true))] ⟨rfl, rfl, rfl, rfl, rfl, rfl, rfl, rfl, rfl, rfl, rfl, rfl, rfl, trivial⟩ (fun τr22 => ?_)
        refine RA.ret env_ok ?_
        refine ⟨.inr rfl, (xRs79 jr M c x d), (resL_cons rfl (resL_cons (res_cellA rfl rfl rfl get_here rfl rfl rfl) (resL_cons rfl resL_nil))), [(jr, some (oPrt (((q ++ [c]).take i).filter (keepP x z))))], (Less.of (fac (mm (fun _ => get_here) (fun _ => (gt7 (by omega) get_here))) fan) (gone_of (by simp only [goneP, memP, List.cons_append, List.nil_append, true_or, or_true, true_and, and_true, or_false] <;> omega))), ⟨jr, M, by omega, by omega, (by rw [← hz1, ← hxp, ← hm2, List.take_of_length_le (by rw [List.length_append, hq]; show K + 1 ≤ i; omega)]), by omega, by rw [← hxp, ← hz2, show mkM c x.proto d = _ from if_pos (by omega)] <;> rfl, by rw [← hz1, ← hxp, List.take_of_length_le (show (q ++ [c]).length ≤ i by rw [List.length_append, hq]; show K + 1 ≤ i; omega)]⟩⟩
       ·
        refine OA.p (some 146) (.bool false) rfl rfl rfl (Eq.trans (r_bin rfl rfl rfl (b_eql rfl)) (dF hc14)) ?_
        refine OA.p (some 147) (Pt n1 0 5) rfl rfl rfl rfl ?_
        refine OA.p (some 148) (W x.proto) rfl rfl rfl (r_load1 rfl rfl rfl rfl rfl (gt3 (by omega) get_here) rfl rfl) ?_
        refine OA.p (some 149) (.string d) rfl rfl rfl rfl ?_
        refine OA.p (some 150) (.agg ⟨(xRs710 c x d)⟩) rfl rfl rfl (by kernel_rfl) ?_
        refine OA.op1 (dst := (some 19)) (v := (Pt n20 0 0)) (n1 := (n20 + 1)) (w := (n20, some ⟨[[(.int .i64 0), (.int .i64 0), (.bool false), (.int .u32 0), (.string ByteArray.empty)]], 5, 29, true⟩)) rfl rfl rfl rfl (by omega) ?_
        refine OA.op1 (dst := none) (v := (.tuple #[])) (n1 := (n20 + 1)) (w := (n20, some ⟨[(xRs710 c x d)], 5, 29, true⟩)) rfl rfl rfl (r_store rfl rfl rfl rfl rfl rfl rfl get_here rfl rfl (Nat.le_of_ble_eq_true rfl) rfl) (by omega) ?_
        refine OA.nil ?_
        intro _
        refine RA.seq hd ?_
        refine RA.seq hd ?_
        refine RA.region env_ok ?_
        refine OA.p (some 151) (Pt n20 0 2) rfl rfl rfl rfl ?_
        refine OA.p (some 152) (.bool false) rfl rfl rfl (r_load1 rfl rfl rfl rfl rfl get_here rfl rfl) ?_
        refine OA.nil ?_
        intro _
        refine RA.condF rfl ?_
        refine RA.skip env_ok ?_
        intro _
        refine RA.seq hd ?_
        refine RA.par (md := [some [], some [n20], some [], none, some []]) env_ok (hd.of (by omega) (kb8 (by omega))) (by kernel_rfl) ?_
        refine PQ.pure (dst := (some 154)) (v := (.slice (some ⟨jr, 0, none⟩) M 2)) rfl rfl rfl noStore (none_ok _ _) rfl ?_
        refine PQ.pure (dst := (some 155)) (v := (.agg ⟨(xRs710 c x d)⟩)) rfl rfl rfl (app [(n20, some ⟨[(xRs710 c x d)], 5, 29, true⟩)] noStore) (seen_one (V := []) (D := [(n20, some ⟨[(xRs710 c x d)], 5, 29, true⟩), (n20, some ⟨[[(.int .i64 0), (.int .i64 0), (.bool false), (.int .u32 0), (.string ByteArray.empty)]], 5, 29, true⟩), (n, some ⟨[(cPrt c)], 15, 54, true⟩), ((n + 1), some ⟨[[(.int .i64 0), (.int .i64 0), (.bool false), (.int .u32 0), (.string ByteArray.empty)]], 5, 29, true⟩), (ja, some (oPrt (q ++ [c]))), (n1, some ⟨[(cPrt x)], 15, 54, true⟩), (n2, some ⟨[(cPrt z)], 15, 54, true⟩), (jr, some (oPrt (((q ++ [c]).take i).filter (keepP x z))))]) (by kernel_rfl) get_here) (r_loadA rfl rfl rfl rfl get_here rfl rfl rfl) ?_
        refine PQ.pure (dst := (some 4)) (v := (.slice (some ⟨jr, 0, none⟩) M 2)) rfl rfl rfl noStore (none_ok _ _) rfl ?_
        refine PQ.op (dst := none) (v := (.tuple #[])) (n1 := (n20 + 1)) (d1 := [((n + 1), some ⟨[(xRs710 c x d)], 5, 29, true⟩)]) rfl rfl rfl _ (seen_any (V := []) (D := [(n20, some ⟨[(xRs710 c x d)], 5, 29, true⟩), (n20, some ⟨[[(.int .i64 0), (.int .i64 0), (.bool false), (.int .u32 0), (.string ByteArray.empty)]], 5, 29, true⟩), (n, some ⟨[(cPrt c)], 15, 54, true⟩), ((n + 1), some ⟨[[(.int .i64 0), (.int .i64 0), (.bool false), (.int .u32 0), (.string ByteArray.empty)]], 5, 29, true⟩), (ja, some (oPrt (q ++ [c]))), (n1, some ⟨[(cPrt x)], 15, 54, true⟩), (n2, some ⟨[(cPrt z)], 15, 54, true⟩), (jr, some (oPrt (((q ++ [c]).take i).filter (keepP x z))))]) (by kernel_rfl)) (r_store rfl rfl rfl rfl rfl rfl rfl (gt3 (by omega) get_here) rfl rfl (Nat.le_of_ble_eq_true rfl) rfl) (by omega) (kp1 (wr_tight (by kernel_rfl) (by omega))) ?_
        refine PQ.pure (dst := (some 6)) (v := (.bool true)) rfl rfl rfl noStore (none_ok _ _) rfl ?_
        refine PQ.done (d := [((n + 1), some ⟨[(xRs710 c x d)], 5, 29, true⟩)]) (by kernel_rfl) ?_
        intro _
        refine RA.weaken (D' := [((n + 1), some ⟨[(xRs710 c x d)], 5, 29, true⟩), (n20, some ⟨[(xRs710 c x d)], 5, 29, true⟩), (n, some ⟨[(cPrt c)], 15, 54, true⟩), (ja, some (oPrt (q ++ [c]))), (n1, some ⟨[(cPrt x)], 15, 54, true⟩), (n2, some ⟨[(cPrt z)], 15, 54, true⟩), (jr, some (oPrt (((q ++ [c]).take i).filter (keepP x z))))]) hd (Less.of (fac (mm (fun _ => get_here) (fun _ => get_here)) (fac (mm (fun _ => (get_there (by omega) get_here)) (fun _ => (get_there (by omega) get_here))) (fac (mm (fun _ => (gt2 (by omega) get_here)) (fun _ => (gt3 (by omega) get_here))) (fac (mm (fun _ => (gt3 (by omega) get_here)) (fun _ => (gt5 (by omega) get_here))) (fac (mm (fun _ => (gt4 (by omega) get_here)) (fun _ => (gt6 (by omega) get_here))) (fac (mm (fun _ => (gt5 (by omega) get_here)) (fun _ => (gt7 (by omega) get_here))) (fac (mm (fun _ => (gt6 (by omega) get_here)) (fun _ => (gt8 (by omega) get_here))) fan))))))) (gone_of (by simp only [goneP, memP, List.cons_append, List.nil_append, true_or, or_true, true_and, and_true, or_false] <;> omega))) ?_
        refine RA.rebase [(3, (Pt n 0 0)), (4, (.slice (some ⟨jr, 0, none⟩) M 2)), (5, (.pointer (some ⟨(n + 1), 0, some 0⟩))), (6, (.bool true)), (7, (.slice (some ⟨ja, 0, none⟩) (K + 1) 2)), (8, (Pt n1 0 0)), (12, (Pt n2 0 0)), (13, (.string d)), (17, (.slice (some ⟨jr, 0, none⟩) M 2)), (18, (.int .i64 ((i : Nat) : Int))), (19, (Pt n20 0 0)), (114, (.bool false)), (152, (.bool false))] ⟨rfl, rfl, rfl, rfl, rfl, rfl, rfl, rfl, rfl, rfl, rfl, rfl, rfl, trivial⟩ (fun τr23 => ?_)
        refine RA.ret env_ok ?_
        refine ⟨.inr rfl, (xRs77 jr M c x d), (resL_cons rfl (resL_cons (res_cellA rfl rfl rfl get_here rfl rfl rfl) (resL_cons rfl resL_nil))), [(jr, some (oPrt (((q ++ [c]).take i).filter (keepP x z))))], (Less.of (fac (mm (fun _ => get_here) (fun _ => (gt6 (by omega) get_here))) fan) (gone_of (by simp only [goneP, memP, List.cons_append, List.nil_append, true_or, or_true, true_and, and_true, or_false] <;> omega))), ⟨jr, M, by omega, by omega, (by rw [← hz1, ← hxp, ← hm2, List.take_of_length_le (by rw [List.length_append, hq]; show K + 1 ≤ i; omega)]), by omega, by rw [← hxp, ← hz2, show mkM c x.proto d = _ from if_neg (by omega)] <;> rfl, by rw [← hz1, ← hxp, List.take_of_length_le (show (q ++ [c]).length ≤ i by rw [List.length_append, hq]; show K + 1 ≤ i; omega)]⟩⟩
    ·
     refine OA.p (some 71) (.bool false) rfl rfl rfl (Eq.trans (r_bin rfl rfl rfl (b_leq rfl)) (dF hc7)) ?_
     refine OA.p (some 72) (.bool false) rfl rfl rfl rfl ?_
     refine OA.off (dst := (some 73)) rfl rfl rfl ?_
     refine OA.off (dst := (some 74)) rfl rfl rfl ?_
     refine OA.off (dst := (some 75)) rfl rfl rfl ?_
     refine OA.off (dst := (some 76)) rfl rfl rfl ?_
     refine OA.p (some 77) (.bool false) rfl rfl rfl rfl ?_
     refine OA.nil ?_
     intro _
     refine RA.condF rfl ?_
     refine RA.exit env_ok ?_
     have hzs : refF (q ++ [c]) (K + 2 - k) z d = some (z, d) := refF_stop (.inl (by omega))
     have hzp := Option.some.inj (hzs.symm.trans hkF)
     have hz1 : z = pl := congrArg Prod.fst hzp
     have hz2 : d = dd := congrArg Prod.snd hzp
     intro _
     refine RA.seq hd ?_
     refine RA.region env_ok ?_
     refine OA.op1 (dst := (some 110)) (v := (.slice (some ⟨n11, 0, none⟩) 0 0)) (n1 := (n11 + 1)) (w := (n11, some (oPrt ([] : List Prt)))) rfl rfl rfl (by kernel_rfl) (by omega) ?_
     refine OA.p (some 17) (.slice (some ⟨n11, 0, none⟩) 0 0) rfl rfl rfl rfl ?_
     refine OA.nil ?_
     intro _
     refine RA.seq hd ?_
     refine RA.seq hd ?_
     refine RA.region env_ok ?_
     refine OA.p (some 18) (.int .i64 0) rfl rfl rfl rfl ?_
     refine OA.nil ?_
     intro _
     refine RA.block ?_
     refine RA.leT (t := 17) (v := (.slice (some ⟨n11, 0, none⟩) 0 0)) (v' := (.slice (some ⟨n11, 0, none⟩) 0 2)) rfl (vle_row _ _ _) ?_
     refine RA.weaken (D' := [(n, some ⟨[(cPrt c)], 15, 54, true⟩), ((n + 1), some ⟨[[(.int .i64 0), (.int .i64 0), (.bool false), (.int .u32 0), (.string ByteArray.empty)]], 5, 29, true⟩), (ja, some (oPrt (q ++ [c]))), (n1, some ⟨[(cPrt x)], 15, 54, true⟩), (n2, some ⟨[(cPrt z)], 15, 54, true⟩), (n11, some (oPrt ([] : List Prt)))]) hd (Less.of (fac (mm (fun _ => get_here) (fun _ => (get_there (by omega) get_here))) (fac (mm (fun _ => (get_there (by omega) get_here)) (fun _ => (gt2 (by omega) get_here))) (fac (mm (fun _ => (gt2 (by omega) get_here)) (fun _ => (gt3 (by omega) get_here))) (fac (mm (fun _ => (gt3 (by omega) get_here)) (fun _ => (gt4 (by omega) get_here))) (fac (mm (fun _ => (gt4 (by omega) get_here)) (fun _ => (gt5 (by omega) get_here))) (fac (mm (fun _ => (gt5 (by omega) get_here)) (fun _ => get_here)) fan)))))) (gone_of (by simp only [goneP, memP, List.cons_append, List.nil_append, true_or, or_true, true_and, and_true, or_false] <;> omega))) ?_
     refine RA.loop hd (fun kk_ τ n' D => (∃ i : Nat, ∃ jr : Nat, ∃ M : Nat, kk_ = K + 1 - i ∧ (n11 + 1) ≤ n' ∧ Has τ [(3, (Pt n 0 0)), (5, (.pointer (some ⟨(n + 1), 0, some 0⟩))), (7, (.slice (some ⟨ja, 0, none⟩) (K + 1) 2)), (8, (Pt n1 0 0)), (12, (Pt n2 0 0)), (13, (.string d)), (17, (.slice (some ⟨jr, 0, none⟩) M 2)), (18, (.int .i64 ((i : Nat) : Int)))] ∧ D = [(n, some ⟨[(cPrt c)], 15, 54, true⟩), ((n + 1), some ⟨[[(.int .i64 0), (.int .i64 0), (.bool false), (.int .u32 0), (.string ByteArray.empty)]], 5, 29, true⟩), (ja, some (oPrt (q ++ [c]))), (n1, some ⟨[(cPrt x)], 15, 54, true⟩), (n2, some ⟨[(cPrt z)], 15, 54, true⟩), (jr, some (oPrt (((q ++ [c]).take i).filter (keepP x z))))] ∧ (∀ i ∈ keys D, i < n') ∧ i ≤ K + 1 ∧ (((q ++ [c]).take i).filter (keepP x z)).length = M ∧ M ≤ i ∧ n2 < jr)) (K + 1 - 0) (⟨0, n11, 0, rfl, by omega, ⟨rfl, rfl, rfl, rfl, rfl, rfl, rfl, rfl, trivial⟩, (by rfl), (kb6 (by omega)), ⟨by omega, rfl, by omega, by omega⟩⟩) ?_
     rintro kn24 τ24 n24 _ ⟨i, jr, M, rfl, hn24, hHn24, rfl, hKn24, hIn24⟩
     rw [Has.eq hHn24]
     have hKn24_0 : n < n24 := hKn24 _ (by simp only [keys, List.map_cons, List.map_nil, List.mem_cons, true_or, or_true])
     have hKn24_1 : (n + 1) < n24 := hKn24 _ (by simp only [keys, List.map_cons, List.map_nil, List.mem_cons, true_or, or_true])
     have hKn24_2 : ja < n24 := hKn24 _ (by simp only [keys, List.map_cons, List.map_nil, List.mem_cons, true_or, or_true])
     have hKn24_3 : n1 < n24 := hKn24 _ (by simp only [keys, List.map_cons, List.map_nil, List.mem_cons, true_or, or_true])
     have hKn24_4 : n2 < n24 := hKn24 _ (by simp only [keys, List.map_cons, List.map_nil, List.mem_cons, true_or, or_true])
     have hKn24_5 : jr < n24 := hKn24 _ (by simp only [keys, List.map_cons, List.map_nil, List.mem_cons, true_or, or_true])
     clear hKn24
     obtain ⟨hm1, hm2, hm3, hm4⟩ := hIn24
     refine RA.seq hd ?_
     refine RA.seq hd ?_
     refine RA.region env_ok ?_
     refine OA.p (some 111) (.int .i64 ((i : Nat) : Int)) rfl rfl rfl rfl ?_
     refine OA.p (some 112) (.slice (some ⟨ja, 0, none⟩) (K + 1) 2) rfl rfl rfl rfl ?_
     refine OA.p (some 113) (.int .i64 (((K + 1) : Nat) : Int)) rfl rfl rfl rfl ?_
     by_cases hc15 : ((i : Nat) : Int) < (((K + 1) : Nat) : Int)
     ·
      refine OA.p (some 114) (.bool true) rfl rfl rfl (Eq.trans (r_bin rfl rfl rfl (b_lss rfl)) (dT hc15)) ?_
      refine OA.nil ?_
      intro _
      refine RA.condT rfl ?_
      refine RA.skip env_ok ?_
      intro _
      refine RA.seq hd ?_
      refine RA.block ?_
      refine RA.seq hd ?_
      refine RA.par (md := [some [], some [], some [ja], some [], some [ja], some [], some [n1], some [], some [], some [n2], some [], some [n1], some [], some []]) env_ok (hd.of (by omega) (kb6 (by omega))) (by kernel_rfl) ?_
      refine PQ.pure (dst := (some 117)) (v := (.slice (some ⟨ja, 0, none⟩) (K + 1) 2)) rfl rfl rfl noStore (none_ok _ _) rfl ?_
      refine PQ.pure (dst := (some 118)) (v := (.int .i64 ((i : Nat) : Int))) rfl rfl rfl noStore (none_ok _ _) rfl ?_
      refine PQ.pure (dst := (some 119)) (v := (Pt ja i 0)) rfl rfl rfl (app [(ja, some (oPrt (q ++ [c])))] noStore) (seen_one (V := []) (D := [(n, some ⟨[(cPrt c)], 15, 54, true⟩), ((n + 1), some ⟨[[(.int .i64 0), (.int .i64 0), (.bool false), (.int .u32 0), (.string ByteArray.empty)]], 5, 29, true⟩), (ja, some (oPrt (q ++ [c]))), (n1, some ⟨[(cPrt x)], 15, 54, true⟩), (n2, some ⟨[(cPrt z)], 15, 54, true⟩), (jr, some (oPrt (((q ++ [c]).take i).filter (keepP x z))))]) (by kernel_rfl) (gt2 (by omega) get_here)) (r_iaS (l := i) rfl rfl rfl rfl rfl rfl (by omega) (by omega) get_here rfl (by omega)) ?_
      refine PQ.pure (dst := (some 120)) (v := (Pt ja i 2)) rfl rfl rfl noStore (none_ok _ _) rfl ?_
      refine PQ.pure (dst := (some 121)) (v := (W ((q ++ [c]).getD i dPrt).tsn)) rfl rfl rfl (app [(ja, some (oPrt (q ++ [c])))] noStore) (seen_one (V := []) (D := [(n, some ⟨[(cPrt c)], 15, 54, true⟩), ((n + 1), some ⟨[[(.int .i64 0), (.int .i64 0), (.bool false), (.int .u32 0), (.string ByteArray.empty)]], 5, 29, true⟩), (ja, some (oPrt (q ++ [c]))), (n1, some ⟨[(cPrt x)], 15, 54, true⟩), (n2, some ⟨[(cPrt z)], 15, 54, true⟩), (jr, some (oPrt (((q ++ [c]).take i).filter (keepP x z))))]) (by kernel_rfl) (gt2 (by omega) get_here)) (r_loadF (c := cPrt) dPrt rfl rfl rfl rfl rfl get_here (by have := (show (q ++ [c]).length = K + 1 from by rw [List.length_append, hq]; rfl); omega) rfl) ?_
      refine PQ.pure (dst := (some 122)) (v := (Pt n1 0 2)) rfl rfl rfl noStore (none_ok _ _) rfl ?_
      refine PQ.pure (dst := (some 123)) (v := (W x.tsn)) rfl rfl rfl (app [(n1, some ⟨[(cPrt x)], 15, 54, true⟩)] noStore) (seen_one (V := []) (D := [(n, some ⟨[(cPrt c)], 15, 54, true⟩), ((n + 1), some ⟨[[(.int .i64 0), (.int .i64 0), (.bool false), (.int .u32 0), (.string ByteArray.empty)]], 5, 29, true⟩), (ja, some (oPrt (q ++ [c]))), (n1, some ⟨[(cPrt x)], 15, 54, true⟩), (n2, some ⟨[(cPrt z)], 15, 54, true⟩), (jr, some (oPrt (((q ++ [c]).take i).filter (keepP x z))))]) (by kernel_rfl) (gt3 (by omega) get_here)) (r_load1 rfl rfl rfl rfl rfl get_here rfl rfl) ?_
      refine PQ.pure (dst := (some 124)) (v := (W (((q ++ [c]).getD i dPrt).tsn - x.tsn))) rfl rfl rfl noStore (none_ok _ _) (r_bin rfl rfl rfl (b_subW ((q ++ [c]).getD i dPrt).tsn x.tsn)) ?_
      refine PQ.pure (dst := (some 125)) (v := (Pt n2 0 2)) rfl rfl rfl noStore (none_ok _ _) rfl ?_
      refine PQ.pure (dst := (some 126)) (v := (W z.tsn)) rfl rfl rfl (app [(n2, some ⟨[(cPrt z)], 15, 54, true⟩)] noStore) (seen_one (V := []) (D := [(n, some ⟨[(cPrt c)], 15, 54, true⟩), ((n + 1), some ⟨[[(.int .i64 0), (.int .i64 0), (.bool false), (.int .u32 0), (.string ByteArray.empty)]], 5, 29, true⟩), (ja, some (oPrt (q ++ [c]))), (n1, some ⟨[(cPrt x)], 15, 54, true⟩), (n2, some ⟨[(cPrt z)], 15, 54, true⟩), (jr, some (oPrt (((q ++ [c]).take i).filter (keepP x z))))]) (by kernel_rfl) (gt4 (by omega) get_here)) (r_load1 rfl rfl rfl rfl rfl get_here rfl rfl) ?_
      refine PQ.pure (dst := (some 127)) (v := (Pt n1 0 2)) rfl rfl rfl noStore (none_ok _ _) rfl ?_
      refine PQ.pure (dst := (some 128)) (v := (W x.tsn)) rfl rfl rfl (app [(n1, some ⟨[(cPrt x)], 15, 54, true⟩)] noStore) (seen_one (V := []) (D := [(n, some ⟨[(cPrt c)], 15, 54, true⟩), ((n + 1), some ⟨[[(.int .i64 0), (.int .i64 0), (.bool false), (.int .u32 0), (.string ByteArray.empty)]], 5, 29, true⟩), (ja, some (oPrt (q ++ [c]))), (n1, some ⟨[(cPrt x)], 15, 54, true⟩), (n2, some ⟨[(cPrt z)], 15, 54, true⟩), (jr, some (oPrt (((q ++ [c]).take i).filter (keepP x z))))]) (by kernel_rfl) (gt3 (by omega) get_here)) (r_load1 rfl rfl rfl rfl rfl get_here rfl rfl) ?_
      refine PQ.pure (dst := (some 129)) (v := (W (z.tsn - x.tsn))) rfl rfl rfl noStore (none_ok _ _) (r_bin rfl rfl rfl (b_subW z.tsn x.tsn)) ?_
      by_cases hc16 : ((z.tsn - x.tsn).toNat : Int) < ((((q ++ [c]).getD i dPrt).tsn - x.tsn).toNat : Int)
      ·
       refine PQ.pure (dst := (some 130)) (v := (.bool true)) rfl rfl rfl noStore (none_ok _ _) (Eq.trans (r_bin rfl rfl rfl (b_gtr rfl)) (dT hc16)) ?_
       refine PQ.done (d := []) (by kernel_rfl) ?_
       intro _
       refine RA.condT rfl ?_
       refine RA.region env_ok ?_
       refine OA.p (some 131) (.slice (some ⟨jr, 0, none⟩) M 2) rfl rfl rfl rfl ?_
       refine OA.p (some 132) (.slice (some ⟨ja, 0, none⟩) (K + 1) 2) rfl rfl rfl rfl ?_
       refine OA.p (some 133) (.int .i64 ((i : Nat) : Int)) rfl rfl rfl rfl ?_
       refine OA.p (some 134) (Pt ja i 0) rfl rfl rfl (r_iaS (l := i) rfl rfl rfl rfl rfl rfl (by omega) (by omega) (gt2 (by omega) get_here) rfl (by omega)) ?_
       refine OA.p (some 135) (.agg ⟨(cPrt ((q ++ [c]).getD i dPrt))⟩) rfl rfl rfl (r_loadR (c := cPrt) dPrt rfl rfl rfl rfl (gt2 (by omega) get_here) (by have := (show (q ++ [c]).length = K + 1 from by rw [List.length_append, hq]; rfl); omega) rfl) ?_
       refine OA.op1 (dst := (some 136)) (v := (.slice (some ⟨n24, 0, none⟩) 1 0)) (n1 := (n24 + 1)) (w := (n24, some ⟨[(xRs71 q c i)], 15, 54, true⟩)) rfl rfl rfl (by kernel_rfl) (by omega) ?_
       refine OA.op (dst := (some 137)) (v := (.slice (some ⟨(n24 + 1), 0, none⟩) (M + 1) 2)) (n1 := (n24 + 2)) (d1 := [((n24 + 1), some (oPrt ((((q ++ [c]).take i).filter (keepP x z)) ++ [((q ++ [c]).getD i dPrt)]))), (jr, none)]) (D' := [((n24 + 1), some (oPrt ((((q ++ [c]).take i).filter (keepP x z)) ++ [((q ++ [c]).getD i dPrt)]))), (jr, none), (n24, some ⟨[(xRs71 q c i)], 15, 54, true⟩), (n, some ⟨[(cPrt c)], 15, 54, true⟩), ((n + 1), some ⟨[[(.int .i64 0), (.int .i64 0), (.bool false), (.int .u32 0), (.string ByteArray.empty)]], 5, 29, true⟩), (ja, some (oPrt (q ++ [c]))), (n1, some ⟨[(cPrt x)], 15, 54, true⟩), (n2, some ⟨[(cPrt z)], 15, 54, true⟩), (jr, some (oPrt (((q ++ [c]).take i).filter (keepP x z))))]) rfl rfl rfl (r_append2x (c := cPrt) (x := ((q ++ [c]).getD i dPrt)) (l' := ((((q ++ [c]).take i).filter (keepP x z)) ++ [((q ++ [c]).getD i dPrt)])) rfl rfl rfl rfl rfl rfl rfl rfl rfl rfl (by decide) (gt6 (by omega) get_here) get_here (by rw [hm2]; omega) (by rw [take_all' (by rw [hm2])]) (by omega) (of_decide_eq_true (by kernel_rfl)) (by omega)) (by omega) rfl ?_
       refine OA.p (some 17) (.slice (some ⟨(n24 + 1), 0, none⟩) (M + 1) 2) rfl rfl rfl rfl ?_
       refine OA.nil ?_
       intro _
       refine RA.weaken (D' := [((n24 + 1), some (oPrt ((((q ++ [c]).take i).filter (keepP x z)) ++ [((q ++ [c]).getD i dPrt)]))), (jr, none), (n24, some ⟨[(xRs71 q c i)], 15, 54, true⟩), (n, some ⟨[(cPrt c)], 15, 54, true⟩), ((n + 1), some ⟨[[(.int .i64 0), (.int .i64 0), (.bool false), (.int .u32 0), (.string ByteArray.empty)]], 5, 29, true⟩), (ja, some (oPrt (q ++ [c]))), (n1, some ⟨[(cPrt x)], 15, 54, true⟩), (n2, some ⟨[(cPrt z)], 15, 54, true⟩)]) hd (Less.of (fac (mm (fun _ => get_here) (fun _ => get_here)) (fac (mm (fun _ => (get_there (by omega) get_here)) (fun _ => (get_there (by omega) get_here))) (fac (mm (fun _ => (gt2 (by omega) get_here)) (fun _ => (gt2 (by omega) get_here))) (fac (mm (fun _ => (gt3 (by omega) get_here)) (fun _ => (gt3 (by omega) get_here))) (fac (mm (fun _ => (gt4 (by omega) get_here)) (fun _ => (gt4 (by omega) get_here))) (fac (mm (fun _ => (gt5 (by omega) get_here)) (fun _ => (gt5 (by omega) get_here))) (fac (mm (fun _ => (gt6 (by omega) get_here)) (fun _ => (gt6 (by omega) get_here))) (fac (mm (fun _ => (gt7 (by omega) get_here)) (fun _ => (gt7 (by omega) get_here))) fan)))))))) (gone_of (by simp only [goneP, memP, List.cons_append, List.nil_append, true_or, or_true, true_and, and_true, or_false] <;> omega))) ?_
       refine RA.rebase [(3, (Pt n 0 0)), (5, (.pointer (some ⟨(n + 1), 0, some 0⟩))), (7, (.slice (some ⟨ja, 0, none⟩) (K + 1) 2)), (8, (Pt n1 0 0)), (12, (Pt n2 0 0)), (13, (.string d)), (17, (.slice (some ⟨(n24 + 1), 0, none⟩) (M + 1) 2)), (18, (.int .i64 ((i : Nat) : Int))), (114, (.bool true)), (130, (.bool true))] ⟨rfl, rfl, rfl, rfl, rfl, rfl, rfl, rfl, rfl, rfl, trivial⟩ (fun τr25 => ?_)
       refine RA.region env_ok ?_
       refine OA.p (some 115) (.int .i64 ((i : Nat) : Int)) rfl rfl rfl rfl ?_
       refine OA.p (some 116) (.int .i64 (((i + 1) : Nat) : Int)) rfl rfl rfl (r_bin rfl rfl rfl (b_add (i64_eq (by omega)))) ?_
       refine OA.p (some 18) (.int .i64 (((i + 1) : Nat) : Int)) rfl rfl rfl rfl ?_
       refine OA.nil ?_
       refine ⟨K + 1 - (i + 1), by omega, [(n, some ⟨[(cPrt c)], 15, 54, true⟩), ((n + 1), some ⟨[[(.int .i64 0), (.int .i64 0), (.bool false), (.int .u32 0), (.string ByteArray.empty)]], 5, 29, true⟩), (ja, some (oPrt (q ++ [c]))), (n1, some ⟨[(cPrt x)], 15, 54, true⟩), (n2, some ⟨[(cPrt z)], 15, 54, true⟩), ((n24 + 1), some (oPrt ((((q ++ [c]).take i).filter (keepP x z)) ++ [((q ++ [c]).getD i dPrt)])))], (Less.of (fac (mm (fun _ => get_here) (fun _ => (gt3 (by omega) get_here))) (fac (mm (fun _ => (get_there (by omega) get_here)) (fun _ => (gt4 (by omega) get_here))) (fac (mm (fun _ => (gt2 (by omega) get_here)) (fun _ => (gt5 (by omega) get_here))) (fac (mm (fun _ => (gt3 (by omega) get_here)) (fun _ => (gt6 (by omega) get_here))) (fac (mm (fun _ => (gt4 (by omega) get_here)) (fun _ => (gt7 (by omega) get_here))) (fac (mm (fun _ => (gt5 (by omega) get_here)) (fun _ => get_here)) fan)))))) (gone_of (by simp only [goneP, memP, List.cons_append, List.nil_append, true_or, or_true, true_and, and_true, or_false] <;> omega))), ⟨(i + 1), (n24 + 1), (M + 1), rfl, by omega, ⟨rfl, rfl, rfl, rfl, rfl, rfl, rfl, rfl, trivial⟩, (by rw [flt_yes (by rw [List.length_append, hq]; show i < K + 1; omega) (decide_eq_true (by omega))]), (kb6 (by omega)), ⟨by omega, by rw [flt_yes (by rw [List.length_append, hq]; show i < K + 1; omega) (decide_eq_true (by omega))]; rw [List.length_append, List.length_singleton, hm2], by omega, by omega⟩⟩⟩
      ·
       refine PQ.pure (dst := (some 130)) (v := (.bool false)) rfl rfl rfl noStore (none_ok _ _) (Eq.trans (r_bin rfl rfl rfl (b_gtr rfl)) (dF hc16)) ?_
       refine PQ.done (d := []) (by kernel_rfl) ?_
       intro _
       refine RA.condF rfl ?_
       refine RA.skip env_ok ?_
       intro _
       refine RA.region env_ok ?_
       refine OA.p (some 115) (.int .i64 ((i : Nat) : Int)) rfl rfl rfl rfl ?_
       refine OA.p (some 116) (.int .i64 (((i + 1) : Nat) : Int)) rfl rfl rfl (r_bin rfl rfl rfl (b_add (i64_eq (by omega)))) ?_
       refine OA.p (some 18) (.int .i64 (((i + 1) : Nat) : Int)) rfl rfl rfl rfl ?_
       refine OA.nil ?_
       refine ⟨K + 1 - (i + 1), by omega, [(n, some ⟨[(cPrt c)], 15, 54, true⟩), ((n + 1), some ⟨[[(.int .i64 0), (.int .i64 0), (.bool false), (.int .u32 0), (.string ByteArray.empty)]], 5, 29, true⟩), (ja, some (oPrt (q ++ [c]))), (n1, some ⟨[(cPrt x)], 15, 54, true⟩), (n2, some ⟨[(cPrt z)], 15, 54, true⟩), (jr, some (oPrt (((q ++ [c]).take i).filter (keepP x z))))], (Less.refl _ _ _), ⟨(i + 1), jr, M, rfl, by omega, ⟨rfl, rfl, rfl, rfl, rfl, rfl, rfl, rfl, trivial⟩, (by rw [flt_no (by rw [List.length_append, hq]; show i < K + 1; omega) (fun hh => hc16 (by have := of_decide_eq_true hh; omega))]), (kb6 (by omega)), ⟨by omega, by rw [flt_no (by rw [List.length_append, hq]; show i < K + 1; omega) (fun hh => hc16 (by have := of_decide_eq_true hh; omega))]; exact hm2, by omega, by omega⟩⟩⟩
     ·
      refine OA.p (some 114) (.bool false) rfl rfl rfl (Eq.trans (r_bin rfl rfl rfl (b_lss rfl)) (dF hc15)) ?_
      refine OA.nil ?_
      intro _
      refine RA.condF rfl ?_
      refine RA.exit env_ok ?_
      intro _
      refine RA.seq hd ?_
      refine RA.region env_ok ?_
      refine OA.p (some 138) (Pt n 0 3) rfl rfl rfl rfl ?_
      refine OA.p (some 139) (.int .i64 ((c.st : Nat) : Int)) rfl rfl rfl (r_load1 rfl rfl rfl rfl rfl get_here rfl rfl) ?_
      refine OA.p (some 140) (Pt n 0 4) rfl rfl rfl rfl ?_
      refine OA.p (some 141) (.int .i64 ((c.ssn : Nat) : Int)) rfl rfl rfl (r_load1 rfl rfl rfl rfl rfl get_here rfl rfl) ?_
      refine OA.p (some 142) (Pt n 0 1) rfl rfl rfl rfl ?_
      refine OA.p (some 143) (.int .i64 ((c.fl.val : Nat) : Int)) rfl rfl rfl (r_load1 rfl rfl rfl rfl rfl get_here rfl rfl) ?_
      refine OA.p (some 144) (.int .i64 (((c.fl.val / 4) : Nat) : Int)) rfl rfl rfl (r_bin rfl rfl rfl (b_quoN (a := c.fl.val) (c := 4) (by decide) (i64_eq (by omega)))) ?_
      refine OA.p (some 145) (.int .i64 ((((c.fl.val / 4) % 2) : Nat) : Int)) rfl rfl rfl (r_bin rfl rfl rfl (b_remN (a := (c.fl.val / 4)) (c := 2) (by decide))) ?_
      by_cases hc17 : ((((c.fl.val / 4) % 2) : Nat) : Int) = 1
      ·
       refine OA.p (some 146) (.bool true) rfl rfl rfl (Eq.trans (r_bin rfl rfl rfl (b_eql rfl)) (dT hc17)) ?_
       refine OA.p (some 147) (Pt n1 0 5) rfl rfl rfl rfl ?_
       refine OA.p (some 148) (W x.proto) rfl rfl rfl (r_load1 rfl rfl rfl rfl rfl (gt3 (by omega) get_here) rfl rfl) ?_
       refine OA.p (some 149) (.string d) rfl rfl rfl rfl ?_
       refine OA.p (some 150) (.agg ⟨(xRs711 c x d)⟩) rfl rfl rfl (by kernel_rfl) ?_
       refine OA.op1 (dst := (some 19)) (v := (Pt n24 0 0)) (n1 := (n24 + 1)) (w := (n24, some ⟨[[(.int .i64 0), (.int .i64 0), (.bool false), (.int .u32 0), (.string ByteArray.empty)]], 5, 29, true⟩)) rfl rfl rfl rfl (by omega) ?_
       refine OA.op1 (dst := none) (v := (.tuple #[])) (n1 := (n24 + 1)) (w := (n24, some ⟨[(xRs711 c x d)], 5, 29, true⟩)) rfl rfl rfl (r_store rfl rfl rfl rfl rfl rfl rfl get_here rfl rfl (Nat.le_of_ble_eq_true rfl) rfl) (by omega) ?_
       refine OA.nil ?_
       intro _
       refine RA.seq hd ?_
       refine RA.seq hd ?_
       refine RA.region env_ok ?_
       refine OA.p (some 151) (Pt n24 0 2) rfl rfl rfl rfl ?_
       refine OA.p (some 152) (.bool true) rfl rfl rfl (r_load1 rfl rfl rfl rfl rfl get_here rfl rfl) ?_
       refine OA.nil ?_
       intro _
       refine RA.condT rfl ?_
       refine RA.region env_ok ?_
       refine OA.p (some 153) (Pt n24 0 1) rfl rfl rfl rfl ?_
       refine OA.op1 (dst := none) (v := (.tuple #[])) (n1 := (n24 + 1)) (w := (n24, some ⟨[[(.int .i64 ((c.st : Nat) : Int)), (.int .i64 0), (.bool true), (W x.proto), (.string d)]], 5, 29, true⟩)) rfl rfl rfl (r_store rfl rfl rfl rfl rfl rfl rfl get_here rfl rfl (Nat.le_of_ble_eq_true rfl) rfl) (by omega) ?_
       refine OA.nil ?_
       intro _
       refine RA.weaken (D' := [(n24, some ⟨[[(.int .i64 ((c.st : Nat) : Int)), (.int .i64 0), (.bool true), (W x.proto), (.string d)]], 5, 29, true⟩), (n, some ⟨[(cPrt c)], 15, 54, true⟩), ((n + 1), some ⟨[[(.int .i64 0), (.int .i64 0), (.bool false), (.int .u32 0), (.string ByteArray.empty)]], 5, 29, true⟩), (ja, some (oPrt (q ++ [c]))), (n1, some ⟨[(cPrt x)], 15, 54, true⟩), (n2, some ⟨[(cPrt z)], 15, 54, true⟩), (jr, some (oPrt (((q ++ [c]).take i).filter (keepP x z))))]) hd (Less.of (fac (mm (fun _ => get_here) (fun _ => get_here)) (fac (mm (fun _ => (get_there (by omega) get_here)) (fun _ => (gt3 (by omega) get_here))) (fac (mm (fun _ => (gt2 (by omega) get_here)) (fun _ => (gt4 (by omega) get_here))) (fac (mm (fun _ => (gt3 (by omega) get_here)) (fun _ => (gt5 (by omega) get_here))) (fac (mm (fun _ => (gt4 (by omega) get_here)) (fun _ => (gt6 (by omega) get_here))) (fac (mm (fun _ => (gt5 (by omega) get_here)) (fun _ => (gt7 (by omega) get_here))) (fac (mm (fun _ => (gt6 (by omega) get_here)) (fun _ => (gt8 (by omega) get_here))) fan))))))) (gone_of (by simp only [goneP, memP, List.cons_append, List.nil_append, true_or, or_true, true_and, and_true, or_false] <;> omega))) ?_
       refine RA.seq hd ?_
       refine RA.par (md := [some [], some [n24], some [], none, some []]) env_ok (hd.of (by omega) (kb7 (by omega))) (by kernel_rfl) ?_
       refine PQ.pure (dst := (some 154)) (v := (.slice (some ⟨jr, 0, none⟩) M 2)) rfl rfl rfl noStore (none_ok _ _) rfl ?_
       refine PQ.pure (dst := (some 155)) (v := (.agg ⟨[(.int .i64 ((c.st : Nat) : Int)), (.int .i64 0), (.bool true), (W x.proto), (.string d)]⟩)) rfl rfl rfl (app [(n24, some ⟨[[(.int .i64 ((c.st : Nat) : Int)), (.int .i64 0), (.bool true), (W x.proto), (.string d)]], 5, 29, true⟩)] noStore) (seen_one (V := []) (D := [(n24, some ⟨[[(.int .i64 ((c.st : Nat) : Int)), (.int .i64 0), (.bool true), (W x.proto), (.string d)]], 5, 29, true⟩), (n, some ⟨[(cPrt c)], 15, 54, true⟩), ((n + 1), some ⟨[[(.int .i64 0), (.int .i64 0), (.bool false), (.int .u32 0), (.string ByteArray.empty)]], 5, 29, true⟩), (ja, some (oPrt (q ++ [c]))), (n1, some ⟨[(cPrt x)], 15, 54, true⟩), (n2, some ⟨[(cPrt z)], 15, 54, true⟩), (jr, some (oPrt (((q ++ [c]).take i).filter (keepP x z))))]) (by kernel_rfl) get_here) (r_loadA rfl rfl rfl rfl get_here rfl rfl rfl) ?_
       refine PQ.pure (dst := (some 4)) (v := (.slice (some ⟨jr, 0, none⟩) M 2)) rfl rfl rfl noStore (none_ok _ _) rfl ?_
       refine PQ.op (dst := none) (v := (.tuple #[])) (n1 := (n24 + 1)) (d1 := [((n + 1), some ⟨[[(.int .i64 ((c.st : Nat) : Int)), (.int .i64 0), (.bool true), (W x.proto), (.string d)]], 5, 29, true⟩)]) rfl rfl rfl _ (seen_any (V := []) (D := [(n24, some ⟨[[(.int .i64 ((c.st : Nat) : Int)), (.int .i64 0), (.bool true), (W x.proto), (.string d)]], 5, 29, true⟩), (n, some ⟨[(cPrt c)], 15, 54, true⟩), ((n + 1), some ⟨[[(.int .i64 0), (.int .i64 0), (.bool false), (.int .u32 0), (.string ByteArray.empty)]], 5, 29, true⟩), (ja, some (oPrt (q ++ [c]))), (n1, some ⟨[(cPrt x)], 15, 54, true⟩), (n2, some ⟨[(cPrt z)], 15, 54, true⟩), (jr, some (oPrt (((q ++ [c]).take i).filter (keepP x z))))]) (by kernel_rfl)) (r_store rfl rfl rfl rfl rfl rfl rfl (gt2 (by omega) get_here) rfl rfl (Nat.le_of_ble_eq_true rfl) rfl) (by omega) (kp1 (wr_tight (by kernel_rfl) (by omega))) ?_
       refine PQ.pure (dst := (some 6)) (v := (.bool true)) rfl rfl rfl noStore (none_ok _ _) rfl ?_
       refine PQ.done (d := [((n + 1), some ⟨[[(.int .i64 ((c.st : Nat) : Int)), (.int .i64 0), (.bool true), (W x.proto), (.string d)]], 5, 29, true⟩)]) (by kernel_rfl) ?_
       intro _
       refine RA.rebase [(3, (Pt n 0 0)), (4, (.slice (some ⟨jr, 0, none⟩) M 2)), (5, (.pointer (some ⟨(n + 1), 0, some 0⟩))), (6, (.bool true)), (7, (.slice (some ⟨ja, 0, none⟩) (K + 1) 2)), (8, (Pt n1 0 0)), (12, (Pt n2 0 0)), (13, (.string d)), (17, (.slice (some ⟨jr, 0, none⟩) M 2)), (18, (.int .i64 ((i : Nat) : Int))), (19, (Pt n24 0 0)), (114, (.bool false)), (152, (.bool true))] ⟨rfl, rfl, rfl, rfl, rfl, rfl, rfl, rfl, rfl, rfl, rfl, rfl, rfl, trivial⟩ (fun τr26 => ?_)
       refine RA.ret env_ok ?_
       refine ⟨.inr rfl, (xRs79 jr M c x d), (resL_cons rfl (resL_cons (res_cellA rfl rfl rfl get_here rfl rfl rfl) (resL_cons rfl resL_nil))), [(jr, some (oPrt (((q ++ [c]).take i).filter (keepP x z))))], (Less.of (fac (mm (fun _ => get_here) (fun _ => (gt7 (by omega) get_here))) fan) (gone_of (by simp only [goneP, memP, List.cons_append, List.nil_append, true_or, or_true, true_and, and_true, or_false] <;> omega))), ⟨jr, M, by omega, by omega, (by rw [← hz1, ← hxp, ← hm2, List.take_of_length_le (by rw [List.length_append, hq]; show K + 1 ≤ i; omega)]), by omega, by rw [← hxp, ← hz2, show mkM c x.proto d = _ from if_pos (by omega)] <;> rfl, by rw [← hz1, ← hxp, List.take_of_length_le (show (q ++ [c]).length ≤ i by rw [List.length_append, hq]; show K + 1 ≤ i; omega)]⟩⟩
      ·
       refine OA.p (some 146) (.bool false) rfl rfl rfl (Eq.trans (r_bin rfl rfl rfl (b_eql rfl)) (dF hc17)) ?_
       refine OA.p (some 147) (Pt n1 0 5) rfl rfl rfl rfl ?_
       refine OA.p (some 148) (W x.proto) rfl rfl rfl (r_load1 rfl rfl rfl rfl rfl (gt3 (by omega) get_here) rfl rfl) ?_
       refine OA.p (some 149) (.string d) rfl rfl rfl rfl ?_
       refine OA.p (some 150) (.agg ⟨(xRs710 c x d)⟩) rfl rfl rfl (by kernel_rfl) ?_
       refine OA.op1 (dst := (some 19)) (v := (Pt n24 0 0)) (n1 := (n24 + 1)) (w := (n24, some ⟨[[(.int .i64 0), (.int .i64 0), (.bool false), (.int .u32 0), (.string ByteArray.empty)]], 5, 29, true⟩)) rfl rfl rfl rfl (by omega) ?_
       refine OA.op1 (dst := none) (v := (.tuple #[])) (n1 := (n24 + 1)) (w := (n24, some ⟨[(xRs710 c x d)], 5, 29, true⟩)) rfl rfl rfl (r_store rfl rfl rfl rfl rfl rfl rfl get_here rfl rfl (Nat.le_of_ble_eq_true rfl) rfl) (by omega) ?_
       refine OA.nil ?_
       intro _
       refine RA.seq hd ?_
       refine RA.seq hd ?_
       refine RA.region env_ok ?_
       refine OA.p (some 151) (Pt n24 0 2) rfl rfl rfl rfl ?_
       refine OA.p (some 152) (.bool false) rfl rfl rfl (r_load1 rfl rfl rfl rfl rfl get_here rfl rfl) ?_
       refine OA.nil ?_
       intro _
       refine RA.condF rfl ?_
       refine RA.skip env_ok ?_
       intro _
       refine RA.seq hd ?_
       refine RA.par (md := [some [], some [n24], some [], none, some []]) env_ok (hd.of (by omega) (kb8 (by omega))) (by kernel_rfl) ?_
       refine PQ.pure (dst := (some 154)) (v := (.slice (some ⟨jr, 0, none⟩) M 2)) rfl rfl rfl noStore (none_ok _ _) rfl ?_
       refine PQ.pure (dst := (some 155)) (v := (.agg ⟨(xRs710 c x d)⟩)) rfl rfl rfl (app [(n24, some ⟨[(xRs710 c x d)], 5, 29, true⟩)] noStore) (seen_one (V := []) (D := [(n24, some ⟨[(xRs710 c x d)], 5, 29, true⟩), (n24, some ⟨[[(.int .i64 0), (.int .i64 0), (.bool false), (.int .u32 0), (.string ByteArray.empty)]], 5, 29, true⟩), (n, some ⟨[(cPrt c)], 15, 54, true⟩), ((n + 1), some ⟨[[(.int .i64 0), (.int .i64 0), (.bool false), (.int .u32 0), (.string ByteArray.empty)]], 5, 29, true⟩), (ja, some (oPrt (q ++ [c]))), (n1, some ⟨[(cPrt x)], 15, 54, true⟩), (n2, some ⟨[(cPrt z)], 15, 54, true⟩), (jr, some (oPrt (((q ++ [c]).take i).filter (keepP x z))))]) (by kernel_rfl) get_here) (r_loadA rfl rfl rfl rfl get_here rfl rfl rfl) ?_
       refine PQ.pure (dst := (some 4)) (v := (.slice (some ⟨jr, 0, none⟩) M 2)) rfl rfl rfl noStore (none_ok _ _) rfl ?_
       refine PQ.op (dst := none) (v := (.tuple #[])) (n1 := (n24 + 1)) (d1 := [((n + 1), some ⟨[(xRs710 c x d)], 5, 29, true⟩)]) rfl rfl rfl _ (seen_any (V := []) (D := [(n24, some ⟨[(xRs710 c x d)], 5, 29, true⟩), (n24, some ⟨[[(.int .i64 0), (.int .i64 0), (.bool false), (.int .u32 0), (.string ByteArray.empty)]], 5, 29, true⟩), (n, some ⟨[(cPrt c)], 15, 54, true⟩), ((n + 1), some ⟨[[(.int .i64 0), (.int .i64 0), (.bool false), (.int .u32 0), (.string ByteArray.empty)]], 5, 29, true⟩), (ja, some (oPrt (q ++ [c]))), (n1, some ⟨[(cPrt x)], 15, 54, true⟩), (n2, some ⟨[(cPrt z)], 15, 54, true⟩), (jr, some (oPrt (((q ++ [c]).take i).filter (keepP x z))))]) (by kernel_rfl)) (r_store rfl rfl rfl rfl rfl rfl rfl (gt3 (by omega) get_here) rfl rfl (Nat.le_of_ble_eq_true rfl) rfl) (by omega) (kp1 (wr_tight (by kernel_rfl) (by omega))) ?_
       refine PQ.pure (dst := (some 6)) (v := (.bool true)) rfl rfl rfl noStore (none_ok _ _) rfl ?_
       refine PQ.done (d := [((n + 1), some ⟨[(xRs710 c x d)], 5, 29, true⟩)]) (by kernel_rfl) ?_
       intro _
       refine RA.weaken (D' := [((n + 1), some ⟨[(xRs710 c x d)], 5, 29, true⟩), (n24, some ⟨[(xRs710 c x d)], 5, 29, true⟩), (n, some ⟨[(cPrt c)], 15, 54, true⟩), (ja, some (oPrt (q ++ [c]))), (n1, some ⟨[(cPrt x)], 15, 54, true⟩), (n2, some ⟨[(cPrt z)], 15, 54, true⟩), (jr, some (oPrt (((q ++ [c]).take i).filter (keepP x z))))]) hd (Less.of (fac (mm (fun _ => get_here) (fun _ => get_here)) (fac (mm (fun _ => (get_there (by omega) get_here)) (fun _ => (get_there (by omega) get_here))) (fac (mm (fun _ => (gt2 (by omega) get_here)) (fun _ => (gt3 (by omega) get_here))) (fac (mm (fun _ => (gt3 (by omega) get_here)) (fun _ => (gt5 (by omega) get_here))) (fac (mm (fun _ => (gt4 (by omega) get_here)) (fun _ => (gt6 (by omega) get_here))) (fac (mm (fun _ => (gt5 (by omega) get_here)) (fun _ => (gt7 (by omega) get_here))) (fac (mm (fun _ => (gt6 (by omega) get_here)) (fun _ => (gt8 (by omega) get_here))) fan))))))) (gone_of (by simp only [goneP, memP, List.cons_append, List.nil_append, true_or, or_true, true_and, and_true, or_false] <;> omega))) ?_
       refine RA.rebase [(3, (Pt n 0 0)), (4, (.slice (some ⟨jr, 0, none⟩) M 2)), (5, (.pointer (some ⟨(n + 1), 0, some 0⟩))), (6, (.bool true)), (7, (.slice (some ⟨ja, 0, none⟩) (K + 1) 2)), (8, (Pt n1 0 0)), (12, (Pt n2 0 0)), (13, (.string d)), (17, (.slice (some ⟨jr, 0, none⟩) M 2)), (18, (.int .i64 ((i : Nat) : Int))), (19, (Pt n24 0 0)), (114, (.bool false)), (152, (.bool false))] ⟨rfl, rfl, rfl, rfl, rfl, rfl, rfl, rfl, rfl, rfl, rfl, rfl, rfl, trivial⟩ (fun τr27 => ?_)
       refine RA.ret env_ok ?_
       refine ⟨.inr rfl, (xRs77 jr M c x d), (resL_cons rfl (resL_cons (res_cellA rfl rfl rfl get_here rfl rfl rfl) (resL_cons rfl resL_nil))), [(jr, some (oPrt (((q ++ [c]).take i).filter (keepP x z))))], (Less.of (fac (mm (fun _ => get_here) (fun _ => (gt6 (by omega) get_here))) fan) (gone_of (by simp only [goneP, memP, List.cons_append, List.nil_append, true_or, or_true, true_and, and_true, or_false] <;> omega))), ⟨jr, M, by omega, by omega, (by rw [← hz1, ← hxp, ← hm2, List.take_of_length_le (by rw [List.length_append, hq]; show K + 1 ≤ i; omega)]), by omega, by rw [← hxp, ← hz2, show mkM c x.proto d = _ from if_neg (by omega)] <;> rfl, by rw [← hz1, ← hxp, List.take_of_length_le (show (q ++ [c]).length ≤ i by rw [List.length_append, hq]; show K + 1 ≤ i; omega)]⟩⟩
  ·
   refine OA.p (some 30) (.bool false) rfl rfl rfl (Eq.trans (r_bin rfl rfl rfl (b_leq rfl)) (dF hc2)) ?_
   refine OA.p (some 31) (.bool false) rfl rfl rfl rfl ?_
   refine OA.off (dst := (some 32)) rfl rfl rfl ?_
   refine OA.off (dst := (some 33)) rfl rfl rfl ?_
   refine OA.off (dst := (some 34)) rfl rfl rfl ?_
   refine OA.off (dst := (some 35)) rfl rfl rfl ?_
   refine OA.off (dst := (some 36)) rfl rfl rfl ?_
   refine OA.p (some 37) (.bool false) rfl rfl rfl rfl ?_
   refine OA.nil ?_
   intro _
   refine RA.condF rfl ?_
   refine RA.exit env_ok ?_
   have hxs : refB (q ++ [c]) (K + 2 - k) x = some x := refB_stop (.inl (by omega))
   have hxp := Option.some.inj (hxs.symm.trans hkB)
   intro _
   refine RA.seq hd ?_
   refine RA.par (md := [some [n1], some [], some [n1], some [], none, some []]) env_ok (hd.of (by omega) (kb4 (by omega))) (by kernel_rfl) ?_
   refine PQ.pure (dst := (some 65)) (v := (.agg ⟨(xRs74 x)⟩)) rfl rfl rfl (app [(n1, some ⟨[(cPrt x)], 15, 54, true⟩)] noStore) (seen_one (V := []) (D := [(n, some ⟨[(cPrt c)], 15, 54, true⟩), ((n + 1), some ⟨[[(.int .i64 0), (.int .i64 0), (.bool false), (.int .u32 0), (.string ByteArray.empty)]], 5, 29, true⟩), (ja, some (oPrt (q ++ [c]))), (n1, some ⟨[(cPrt x)], 15, 54, true⟩)]) (by kernel_rfl) (gt3 (by omega) get_here)) (r_loadA rfl rfl rfl rfl get_here rfl rfl rfl) ?_
   refine PQ.pure (dst := (some 66)) (v := (Pt n1 0 6)) rfl rfl rfl noStore (none_ok _ _) rfl ?_
   refine PQ.pure (dst := (some 67)) (v := (.string x.data)) rfl rfl rfl (app [(n1, some ⟨[(cPrt x)], 15, 54, true⟩)] noStore) (seen_one (V := []) (D := [(n, some ⟨[(cPrt c)], 15, 54, true⟩), ((n + 1), some ⟨[[(.int .i64 0), (.int .i64 0), (.bool false), (.int .u32 0), (.string ByteArray.empty)]], 5, 29, true⟩), (ja, some (oPrt (q ++ [c]))), (n1, some ⟨[(cPrt x)], 15, 54, true⟩)]) (by kernel_rfl) (gt3 (by omega) get_here)) (r_load1 rfl rfl rfl rfl rfl get_here rfl rfl) ?_
   refine PQ.op (dst := (some 12)) (v := (Pt n2 0 0)) (n1 := (n2 + 1)) (d1 := [(n2, some ⟨[xRs76], 15, 54, true⟩)]) rfl rfl rfl noStore (none_ok _ _) rfl (by omega) (kp1 (wr_new (by omega) (by omega))) ?_
   refine PQ.op (dst := none) (v := (.tuple #[])) (n1 := (n2 + 1)) (d1 := [(n2, some ⟨[(xRs74 x)], 15, 54, true⟩)]) rfl rfl rfl _ (seen_any (V := [(n2, some ⟨[xRs76], 15, 54, true⟩)]) (D := [(n, some ⟨[(cPrt c)], 15, 54, true⟩), ((n + 1), some ⟨[[(.int .i64 0), (.int .i64 0), (.bool false), (.int .u32 0), (.string ByteArray.empty)]], 5, 29, true⟩), (ja, some (oPrt (q ++ [c]))), (n1, some ⟨[(cPrt x)], 15, 54, true⟩)]) (by kernel_rfl)) (r_store rfl rfl rfl rfl rfl rfl rfl get_here rfl rfl (Nat.le_of_ble_eq_true rfl) rfl) (by omega) (kp1 (wr_late [1, 2] (by kernel_rfl) (by kernel_rfl) (by omega) 3 (by kernel_rfl) (by simp [keys]) (fac (lo0 rfl) (fac (lo1 rfl (by omega)) fan)))) ?_
   refine PQ.pure (dst := (some 13)) (v := (.string x.data)) rfl rfl rfl noStore (none_ok _ _) rfl ?_
   refine PQ.done (d := [(n2, some ⟨[(xRs74 x)], 15, 54, true⟩), (n2, some ⟨[xRs76], 15, 54, true⟩)]) (by kernel_rfl) ?_
   intro _
   refine RA.weaken (D' := [(n2, some ⟨[(xRs74 x)], 15, 54, true⟩), (n, some ⟨[(cPrt c)], 15, 54, true⟩), ((n + 1), some ⟨[[(.int .i64 0), (.int .i64 0), (.bool false), (.int .u32 0), (.string ByteArray.empty)]], 5, 29, true⟩), (ja, some (oPrt (q ++ [c]))), (n1, some ⟨[(cPrt x)], 15, 54, true⟩)]) hd (Less.of (fac (mm (fun _ => get_here) (fun _ => get_here)) (fac (mm (fun _ => (get_there (by omega) get_here)) (fun _ => (gt2 (by omega) get_here))) (fac (mm (fun _ => (gt2 (by omega) get_here)) (fun _ => (gt3 (by omega) get_here))) (fac (mm (fun _ => (gt3 (by omega) get_here)) (fun _ => (gt4 (by omega) get_here))) (fac (mm (fun _ => (gt4 (by omega) get_here)) (fun _ => (gt5 (by omega) get_here))) fan))))) (gone_of (by simp only [goneP, memP, List.cons_append, List.nil_append, true_or, or_true, true_and, and_true, or_false] <;> omega))) ?_
   refine RA.seq hd ?_
   refine RA.seq hd ?_
   refine RA.region env_ok ?_
   refine OA.p (some 14) (.int .i64 0) rfl rfl rfl rfl ?_
   refine OA.nil ?_
   intro _
   refine RA.block ?_
   rw [← hxp] at hF
   refine RA.weaken (D' := [(n, some ⟨[(cPrt c)], 15, 54, true⟩), ((n + 1), some ⟨[[(.int .i64 0), (.int .i64 0), (.bool false), (.int .u32 0), (.string ByteArray.empty)]], 5, 29, true⟩), (ja, some (oPrt (q ++ [c]))), (n1, some ⟨[(cPrt x)], 15, 54, true⟩), (n2, some ⟨[(xRs74 x)], 15, 54, true⟩)]) hd (Less.of (fac (mm (fun _ => get_here) (fun _ => (get_there (by omega) get_here))) (fac (mm (fun _ => (get_there (by omega) get_here)) (fun _ => (gt2 (by omega) get_here))) (fac (mm (fun _ => (gt2 (by omega) get_here)) (fun _ => (gt3 (by omega) get_here))) (fac (mm (fun _ => (gt3 (by omega) get_here)) (fun _ => (gt4 (by omega) get_here))) (fac (mm (fun _ => (gt4 (by omega) get_here)) (fun _ => get_here)) fan))))) (gone_of (by simp only [goneP, memP, List.cons_append, List.nil_append, true_or, or_true, true_and, and_true, or_false] <;> omega))) ?_
   refine RA.loop hd (fun kk_ τ n' D => (∃ k : Nat, ∃ z : Prt, ∃ d : ByteArray, kk_ = K + 2 - k ∧ (n2 + 1) ≤ n' ∧ Has τ [(3, (Pt n 0 0)), (5, (.pointer (some ⟨(n + 1), 0, some 0⟩))), (7, (.slice (some ⟨ja, 0, none⟩) (K + 1) 2)), (8, (Pt n1 0 0)), (12, (Pt n2 0 0)), (13, (.string d)), (14, (.int .i64 ((k : Nat) : Int)))] ∧ D = [(n, some ⟨[(cPrt c)], 15, 54, true⟩), ((n + 1), some ⟨[[(.int .i64 0), (.int .i64 0), (.bool false), (.int .u32 0), (.string ByteArray.empty)]], 5, 29, true⟩), (ja, some (oPrt (q ++ [c]))), (n1, some ⟨[(cPrt x)], 15, 54, true⟩), (n2, some ⟨[(cPrt z)], 15, 54, true⟩)] ∧ (∀ i ∈ keys D, i < n') ∧ k ≤ K + 2 ∧ refF (q ++ [c]) (K + 2 - k) z d = some (pl, dd) ∧ d.size ≤ 6 * (k + 1))) (K + 2 - 0) (⟨0, x, x.data, rfl, by omega, ⟨rfl, rfl, rfl, rfl, rfl, rfl, rfl, trivial⟩, (by rfl), (kb5 (by omega)), ⟨by omega, hF, by omega⟩⟩) ?_
   rintro kn28 τ28 n28 _ ⟨k, z, d, rfl, hn28, hHn28, rfl, hKn28, hIn28⟩
   rw [Has.eq hHn28]
   have hKn28_0 : n < n28 := hKn28 _ (by simp only [keys, List.map_cons, List.map_nil, List.mem_cons, true_or, or_true])
   have hKn28_1 : (n + 1) < n28 := hKn28 _ (by simp only [keys, List.map_cons, List.map_nil, List.mem_cons, true_or, or_true])
   have hKn28_2 : ja < n28 := hKn28 _ (by simp only [keys, List.map_cons, List.map_nil, List.mem_cons, true_or, or_true])
   have hKn28_3 : n1 < n28 := hKn28 _ (by simp only [keys, List.map_cons, List.map_nil, List.mem_cons, true_or, or_true])
   have hKn28_4 : n2 < n28 := hKn28 _ (by simp only [keys, List.map_cons, List.map_nil, List.mem_cons, true_or, or_true])
   clear hKn28
   obtain ⟨hk1, hkF, hdd⟩ := hIn28
   refine RA.seq hd ?_
   refine RA.seq hd ?_
   refine RA.region env_ok ?_
   refine OA.p (some 68) (.int .i64 ((k : Nat) : Int)) rfl rfl rfl rfl ?_
   refine OA.p (some 69) (.slice (some ⟨ja, 0, none⟩) (K + 1) 2) rfl rfl rfl rfl ?_
   refine OA.p (some 70) (.int .i64 (((K + 1) : Nat) : Int)) rfl rfl rfl rfl ?_
   by_cases hc18 : ((k : Nat) : Int) ≤ (((K + 1) : Nat) : Int)
   ·
    refine OA.p (some 71) (.bool true) rfl rfl rfl (Eq.trans (r_bin rfl rfl rfl (b_leq rfl)) (dT hc18)) ?_
    refine OA.p (some 72) (.bool true) rfl rfl rfl rfl ?_
    refine OA.p (some 73) (Pt n2 0 1) rfl rfl rfl rfl ?_
    refine OA.p (some 74) (.int .i64 ((z.fl.val : Nat) : Int)) rfl rfl rfl (r_load1 rfl rfl rfl rfl rfl (gt4 (by omega) get_here) rfl rfl) ?_
    refine OA.p (some 75) (.int .i64 (((z.fl.val % 2) : Nat) : Int)) rfl rfl rfl (r_bin rfl rfl rfl (b_remN (a := z.fl.val) (c := 2) (by decide))) ?_
    by_cases hc19 : (((z.fl.val % 2) : Nat) : Int) = 0
    ·
     refine OA.p (some 76) (.bool true) rfl rfl rfl (Eq.trans (r_bin rfl rfl rfl (b_eql rfl)) (dT hc19)) ?_
     refine OA.p (some 77) (.bool true) rfl rfl rfl rfl ?_
     refine OA.nil ?_
     intro _
     refine RA.condT rfl ?_
     refine RA.skip env_ok ?_
     intro _
     refine RA.seq hd ?_
     refine RA.block ?_
     refine RA.seq hd ?_
     refine RA.region env_ok ?_
     refine OA.p (some 81) (.slice (some ⟨ja, 0, none⟩) (K + 1) 2) rfl rfl rfl rfl ?_
     refine OA.p (some 82) (Pt n2 0 2) rfl rfl rfl rfl ?_
     refine OA.p (some 83) (W z.tsn) rfl rfl rfl (r_load1 rfl rfl rfl rfl rfl (gt4 (by omega) get_here) rfl rfl) ?_
     refine OA.p (some 84) (W (z.tsn + (1#32))) rfl rfl rfl (r_bin rfl rfl rfl (b_addW z.tsn (1#32))) ?_
     by_cases hc20 : atL (q ++ [c]) (z.tsn + (1#32)) = none
     ·
      refine OA.callP (dst := (some 85)) (all := [(.slice (some ⟨ja, 0, none⟩) (K + 1) 2), (W (z.tsn + (1#32)))]) (v := (.tuple ⟨[(.agg ⟨xRs76⟩), (.bool false)]⟩)) (hd.of (by omega) (kb5 (by omega))) rfl rfl rfl rfl rfl rfl rfl rfl (PS.to (sAt ja (K + 1) (q ++ [c]) (show (q ++ [c]).length = K + 1 from by rw [List.length_append, hq]; rfl) (by omega) (z.tsn + (1#32)) (gt2 (by omega) get_here)) (by rw [hc20]; rfl)) ?_
      intro n29 hn29
      refine OA.p (some 80) (.tuple ⟨[(.agg ⟨xRs76⟩), (.bool false)]⟩) rfl rfl rfl rfl ?_
      refine OA.p (some 86) (.agg ⟨xRs76⟩) rfl rfl rfl rfl ?_
      refine OA.p (some 87) (.bool false) rfl rfl rfl rfl ?_
      refine OA.op1 (dst := (some 15)) (v := (Pt n29 0 0)) (n1 := (n29 + 1)) (w := (n29, some ⟨[xRs76], 15, 54, true⟩)) rfl rfl rfl rfl (by omega) ?_
      refine OA.op1 (dst := none) (v := (.tuple #[])) (n1 := (n29 + 1)) (w := (n29, some ⟨[xRs76], 15, 54, true⟩)) rfl rfl rfl (r_store rfl rfl rfl rfl rfl rfl rfl get_here rfl rfl (Nat.le_of_ble_eq_true rfl) rfl) (by omega) ?_
      refine OA.p (some 16) (.bool false) rfl rfl rfl rfl ?_
      refine OA.nil ?_
      intro _
      refine RA.weaken (D' := [(n29, some ⟨[xRs76], 15, 54, true⟩), (n, some ⟨[(cPrt c)], 15, 54, true⟩), ((n + 1), some ⟨[[(.int .i64 0), (.int .i64 0), (.bool false), (.int .u32 0), (.string ByteArray.empty)]], 5, 29, true⟩), (ja, some (oPrt (q ++ [c]))), (n1, some ⟨[(cPrt x)], 15, 54, true⟩), (n2, some ⟨[(cPrt z)], 15, 54, true⟩)]) hd (Less.of (fac (mm (fun _ => get_here) (fun _ => get_here)) (fac (mm (fun _ => (get_there (by omega) get_here)) (fun _ => (gt2 (by omega) get_here))) (fac (mm (fun _ => (gt2 (by omega) get_here)) (fun _ => (gt3 (by omega) get_here))) (fac (mm (fun _ => (gt3 (by omega) get_here)) (fun _ => (gt4 (by omega) get_here))) (fac (mm (fun _ => (gt4 (by omega) get_here)) (fun _ => (gt5 (by omega) get_here))) (fac (mm (fun _ => (gt5 (by omega) get_here)) (fun _ => (gt6 (by omega) get_here))) fan)))))) (gone_of (by simp only [goneP, memP, List.cons_append, List.nil_append, true_or, or_true, true_and, and_true, or_false] <;> omega))) ?_
      refine RA.seq hd ?_
      refine RA.seq hd ?_
      refine RA.region env_ok ?_
      refine OA.p (some 88) (.bool false) rfl rfl rfl rfl ?_
      refine OA.p (some 89) (.bool true) rfl rfl rfl rfl ?_
      refine OA.p (some 90) (.bool true) rfl rfl rfl rfl ?_
      refine OA.off (dst := (some 91)) rfl rfl rfl ?_
      refine OA.off (dst := (some 92)) rfl rfl rfl ?_
      refine OA.off (dst := (some 93)) rfl rfl rfl ?_
      refine OA.off (dst := (some 94)) rfl rfl rfl ?_
      refine OA.off (dst := (some 95)) rfl rfl rfl ?_
      refine OA.p (some 96) (.bool true) rfl rfl rfl rfl ?_
      refine OA.p (some 97) (.bool true) rfl rfl rfl rfl ?_
      refine OA.off (dst := (some 98)) rfl rfl rfl ?_
      refine OA.off (dst := (some 99)) rfl rfl rfl ?_
      refine OA.off (dst := (some 100)) rfl rfl rfl ?_
      refine OA.off (dst := (some 101)) rfl rfl rfl ?_
      refine OA.p (some 102) (.bool true) rfl rfl rfl rfl ?_
      refine OA.nil ?_
      intro _
      refine RA.rebase [(3, (Pt n 0 0)), (5, (.pointer (some ⟨(n + 1), 0, some 0⟩))), (7, (.slice (some ⟨ja, 0, none⟩) (K + 1) 2)), (8, (Pt n1 0 0)), (12, (Pt n2 0 0)), (13, (.string d)), (14, (.int .i64 ((k : Nat) : Int))), (15, (Pt n29 0 0)), (16, (.bool false)), (77, (.bool true)), (102, (.bool true))] ⟨rfl, rfl, rfl, rfl, rfl, rfl, rfl, rfl, rfl, rfl, rfl, trivial⟩ (fun τr30 => ?_)
      refine RA.condT rfl ?_
      refine RA.seq hd ?_
      refine RA.region env_ok ?_
      refine OA.p (some 103) (.slice (some ⟨ja, 0, none⟩) (K + 1) 2) rfl rfl rfl rfl ?_
      refine OA.p (some 104) (.agg ⟨[(.int .i64 0), (.int .i64 0), (.bool false), (.int .u32 0), (.string ByteArray.empty)]⟩) rfl rfl rfl (by kernel_rfl) ?_
      refine OA.p (some 4) (.slice (some ⟨ja, 0, none⟩) (K + 1) 2) rfl rfl rfl rfl ?_
      refine OA.op1 (dst := none) (v := (.tuple #[])) (n1 := (n29 + 1)) (w := ((n + 1), some ⟨[[(.int .i64 0), (.int .i64 0), (.bool false), (.int .u32 0), (.string ByteArray.empty)]], 5, 29, true⟩)) rfl rfl rfl (r_store rfl rfl rfl rfl rfl rfl rfl (gt2 (by omega) get_here) rfl rfl (Nat.le_of_ble_eq_true rfl) rfl) (by omega) ?_
      refine OA.p (some 6) (.bool false) rfl rfl rfl rfl ?_
      refine OA.nil ?_
      intro _
      refine RA.weaken (D' := [((n + 1), some ⟨[[(.int .i64 0), (.int .i64 0), (.bool false), (.int .u32 0), (.string ByteArray.empty)]], 5, 29, true⟩), (n29, some ⟨[xRs76], 15, 54, true⟩), (n, some ⟨[(cPrt c)], 15, 54, true⟩), (ja, some (oPrt (q ++ [c]))), (n1, some ⟨[(cPrt x)], 15, 54, true⟩), (n2, some ⟨[(cPrt z)], 15, 54, true⟩)]) hd (Less.of (fac (mm (fun _ => get_here) (fun _ => get_here)) (fac (mm (fun _ => (get_there (by omega) get_here)) (fun _ => (get_there (by omega) get_here))) (fac (mm (fun _ => (gt2 (by omega) get_here)) (fun _ => (gt2 (by omega) get_here))) (fac (mm (fun _ => (gt3 (by omega) get_here)) (fun _ => (gt4 (by omega) get_here))) (fac (mm (fun _ => (gt4 (by omega) get_here)) (fun _ => (gt5 (by omega) get_here))) (fac (mm (fun _ => (gt5 (by omega) get_here)) (fun _ => (gt6 (by omega) get_here))) fan)))))) (gone_of (by simp only [goneP, memP, List.cons_append, List.nil_append, true_or, or_true, true_and, and_true, or_false] <;> omega))) ?_
      refine RA.ret env_ok ?_
      refine ⟨.inr rfl, (xRs78 ja K), (resL_cons rfl (resL_cons (res_cellA rfl rfl rfl get_here rfl rfl rfl) (resL_cons rfl resL_nil))), [], (Less.of (fun p hp => by simp at hp) (gone_of (by simp only [goneP, memP, List.cons_append, List.nil_append, true_or, or_true, true_and, and_true, or_false] <;> omega))), (by exfalso; cases (refF_no (by omega) hc19 hc20).symm.trans hkF)⟩
     ·
      obtain ⟨y, hy⟩ := Option.ne_none_iff_exists'.1 hc20
      have hyd := hsz y (at_in hy)
      refine OA.callP (dst := (some 85)) (all := [(.slice (some ⟨ja, 0, none⟩) (K + 1) 2), (W (z.tsn + (1#32)))]) (v := (.tuple ⟨[(.agg ⟨(cPrt y)⟩), (.bool true)]⟩)) (hd.of (by omega) (kb5 (by omega))) rfl rfl rfl rfl rfl rfl rfl rfl (PS.to (sAt ja (K + 1) (q ++ [c]) (show (q ++ [c]).length = K + 1 from by rw [List.length_append, hq]; rfl) (by omega) (z.tsn + (1#32)) (gt2 (by omega) get_here)) (by rw [hy]; rfl)) ?_
      intro n31 hn31
      refine OA.p (some 80) (.tuple ⟨[(.agg ⟨(cPrt y)⟩), (.bool true)]⟩) rfl rfl rfl rfl ?_
      refine OA.p (some 86) (.agg ⟨(cPrt y)⟩) rfl rfl rfl rfl ?_
      refine OA.p (some 87) (.bool true) rfl rfl rfl rfl ?_
      refine OA.op1 (dst := (some 15)) (v := (Pt n31 0 0)) (n1 := (n31 + 1)) (w := (n31, some ⟨[xRs76], 15, 54, true⟩)) rfl rfl rfl rfl (by omega) ?_
      refine OA.op1 (dst := none) (v := (.tuple #[])) (n1 := (n31 + 1)) (w := (n31, some ⟨[(cPrt y)], 15, 54, true⟩)) rfl rfl rfl (r_store rfl rfl rfl rfl rfl rfl rfl get_here rfl rfl (Nat.le_of_ble_eq_true rfl) rfl) (by omega) ?_
      refine OA.p (some 16) (.bool true) rfl rfl rfl rfl ?_
      refine OA.nil ?_
      intro _
      refine RA.seq hd ?_
      refine RA.seq hd ?_
      refine RA.region env_ok ?_
      refine OA.p (some 88) (.bool true) rfl rfl rfl rfl ?_
      refine OA.p (some 89) (.bool false) rfl rfl rfl rfl ?_
      refine OA.p (some 90) (.bool false) rfl rfl rfl rfl ?_
      refine OA.p (some 91) (Pt n31 0 1) rfl rfl rfl rfl ?_
      refine OA.p (some 92) (.int .i64 ((y.fl.val : Nat) : Int)) rfl rfl rfl (r_load1 rfl rfl rfl rfl rfl get_here rfl rfl) ?_
      refine OA.p (some 93) (.int .i64 (((y.fl.val / 2) : Nat) : Int)) rfl rfl rfl (r_bin rfl rfl rfl (b_quoN (a := y.fl.val) (c := 2) (by decide) (i64_eq (by omega)))) ?_
      refine OA.p (some 94) (.int .i64 ((((y.fl.val / 2) % 2) : Nat) : Int)) rfl rfl rfl (r_bin rfl rfl rfl (b_remN (a := (y.fl.val / 2)) (c := 2) (by decide))) ?_
      by_cases hc21 : ((((y.fl.val / 2) % 2) : Nat) : Int) = 1
      ·
       refine OA.p (some 95) (.bool true) rfl rfl rfl (Eq.trans (r_bin rfl rfl rfl (b_eql rfl)) (dT hc21)) ?_
       refine OA.p (some 96) (.bool true) rfl rfl rfl rfl ?_
       refine OA.p (some 97) (.bool true) rfl rfl rfl rfl ?_
       refine OA.off (dst := (some 98)) rfl rfl rfl ?_
       refine OA.off (dst := (some 99)) rfl rfl rfl ?_
       refine OA.off (dst := (some 100)) rfl rfl rfl ?_
       refine OA.off (dst := (some 101)) rfl rfl rfl ?_
       refine OA.p (some 102) (.bool true) rfl rfl rfl rfl ?_
       refine OA.nil ?_
       intro _
       refine RA.rebase [(3, (Pt n 0 0)), (5, (.pointer (some ⟨(n + 1), 0, some 0⟩))), (7, (.slice (some ⟨ja, 0, none⟩) (K + 1) 2)), (8, (Pt n1 0 0)), (12, (Pt n2 0 0)), (13, (.string d)), (14, (.int .i64 ((k : Nat) : Int))), (15, (Pt n31 0 0)), (16, (.bool true)), (77, (.bool true)), (102, (.bool true))] ⟨rfl, rfl, rfl, rfl, rfl, rfl, rfl, rfl, rfl, rfl, rfl, trivial⟩ (fun τr32 => ?_)
       refine RA.condT rfl ?_
       refine RA.seq hd ?_
       refine RA.region env_ok ?_
       refine OA.p (some 103) (.slice (some ⟨ja, 0, none⟩) (K + 1) 2) rfl rfl rfl rfl ?_
       refine OA.p (some 104) (.agg ⟨[(.int .i64 0), (.int .i64 0), (.bool false), (.int .u32 0), (.string ByteArray.empty)]⟩) rfl rfl rfl (by kernel_rfl) ?_
       refine OA.p (some 4) (.slice (some ⟨ja, 0, none⟩) (K + 1) 2) rfl rfl rfl rfl ?_
       refine OA.op1 (dst := none) (v := (.tuple #[])) (n1 := (n31 + 1)) (w := ((n + 1), some ⟨[[(.int .i64 0), (.int .i64 0), (.bool false), (.int .u32 0), (.string ByteArray.empty)]], 5, 29, true⟩)) rfl rfl rfl (r_store rfl rfl rfl rfl rfl rfl rfl (gt3 (by omega) get_here) rfl rfl (Nat.le_of_ble_eq_true rfl) rfl) (by omega) ?_
       refine OA.p (some 6) (.bool false) rfl rfl rfl rfl ?_
       refine OA.nil ?_
       intro _
       refine RA.weaken (D' := [((n + 1), some ⟨[[(.int .i64 0), (.int .i64 0), (.bool false), (.int .u32 0), (.string ByteArray.empty)]], 5, 29, true⟩), (n31, some ⟨[(cPrt y)], 15, 54, true⟩), (n, some ⟨[(cPrt c)], 15, 54, true⟩), (ja, some (oPrt (q ++ [c]))), (n1, some ⟨[(cPrt x)], 15, 54, true⟩), (n2, some ⟨[(cPrt z)], 15, 54, true⟩)]) hd (Less.of (fac (mm (fun _ => get_here) (fun _ => get_here)) (fac (mm (fun _ => (get_there (by omega) get_here)) (fun _ => (get_there (by omega) get_here))) (fac (mm (fun _ => (gt2 (by omega) get_here)) (fun _ => (gt3 (by omega) get_here))) (fac (mm (fun _ => (gt3 (by omega) get_here)) (fun _ => (gt5 (by omega) get_here))) (fac (mm (fun _ => (gt4 (by omega) get_here)) (fun _ => (gt6 (by omega) get_here))) (fac (mm (fun _ => (gt5 (by omega) get_here)) (fun _ => (gt7 (by omega) get_here))) fan)))))) (gone_of (by simp only [goneP, memP, List.cons_append, List.nil_append, true_or, or_true, true_and, and_true, or_false] <;> omega))) ?_
       refine RA.ret env_ok ?_
       refine ⟨.inr rfl, (xRs78 ja K), (resL_cons rfl (resL_cons (res_cellA rfl rfl rfl get_here rfl rfl rfl) (resL_cons rfl resL_nil))), [], (Less.of (fun p hp => by simp at hp) (gone_of (by simp only [goneP, memP, List.cons_append, List.nil_append, true_or, or_true, true_and, and_true, or_false] <;> omega))), (by exfalso; cases (refF_bad (by omega) hc19 hy (.inl hc21)).symm.trans hkF)⟩
      ·
       refine OA.p (some 95) (.bool false) rfl rfl rfl (Eq.trans (r_bin rfl rfl rfl (b_eql rfl)) (dF hc21)) ?_
       refine OA.p (some 96) (.bool false) rfl rfl rfl rfl ?_
       refine OA.p (some 97) (.bool false) rfl rfl rfl rfl ?_
       refine OA.p (some 98) (.agg ⟨(xRs73 y)⟩) rfl rfl rfl (r_loadA rfl rfl rfl rfl get_here rfl rfl rfl) ?_
       refine OA.p (some 99) (.agg ⟨(xRs75 z)⟩) rfl rfl rfl (r_loadA rfl rfl rfl rfl (gt6 (by omega) get_here) rfl rfl rfl) ?_
       by_cases hc22 : alike y z
       ·
        refine OA.callP (dst := (some 100)) (all := [(.agg ⟨(xRs73 y)⟩), (.agg ⟨(xRs75 z)⟩)]) (v := (.bool true)) (hd.of (by omega) (kb7 (by omega))) rfl rfl rfl rfl rfl rfl rfl rfl (PS.to (sAl y z) (show (.bool (decide (alike y z))) = ((.bool true) : Value) from (by first | (rw [decide_eq_true hc22]; done) | (rw [decide_eq_true hc22]; rfl)))) ?_
        intro n33 hn33
        refine OA.p (some 101) (.bool false) rfl rfl rfl rfl ?_
        refine OA.p (some 102) (.bool false) rfl rfl rfl rfl ?_
        refine OA.nil ?_
        intro _
        refine RA.rebase [(3, (Pt n 0 0)), (5, (.pointer (some ⟨(n + 1), 0, some 0⟩))), (7, (.slice (some ⟨ja, 0, none⟩) (K + 1) 2)), (8, (Pt n1 0 0)), (12, (Pt n2 0 0)), (13, (.string d)), (14, (.int .i64 ((k : Nat) : Int))), (15, (Pt n31 0 0)), (16, (.bool true)), (77, (.bool true)), (102, (.bool false))] ⟨rfl, rfl, rfl, rfl, rfl, rfl, rfl, rfl, rfl, rfl, rfl, trivial⟩ (fun τr34 => ?_)
        refine RA.condF rfl ?_
        refine RA.skip env_ok ?_
        intro _
        refine RA.par (md := [some [n31], some [], some [], some [n31], some [], none, some []]) env_ok (hd.of (by omega) (kb7 (by omega))) (by kernel_rfl) ?_
        refine PQ.pure (dst := (some 105)) (v := (.agg ⟨(xRs73 y)⟩)) rfl rfl rfl (app [(n31, some ⟨[(cPrt y)], 15, 54, true⟩)] noStore) (seen_one (V := []) (D := [(n31, some ⟨[(cPrt y)], 15, 54, true⟩), (n31, some ⟨[xRs76], 15, 54, true⟩), (n, some ⟨[(cPrt c)], 15, 54, true⟩), ((n + 1), some ⟨[[(.int .i64 0), (.int .i64 0), (.bool false), (.int .u32 0), (.string ByteArray.empty)]], 5, 29, true⟩), (ja, some (oPrt (q ++ [c]))), (n1, some ⟨[(cPrt x)], 15, 54, true⟩), (n2, some ⟨[(cPrt z)], 15, 54, true⟩)]) (by kernel_rfl) get_here) (r_loadA rfl rfl rfl rfl get_here rfl rfl rfl) ?_
        refine PQ.pure (dst := (some 106)) (v := (.string d)) rfl rfl rfl noStore (none_ok _ _) rfl ?_
        refine PQ.pure (dst := (some 107)) (v := (Pt n31 0 6)) rfl rfl rfl noStore (none_ok _ _) rfl ?_
        refine PQ.pure (dst := (some 108)) (v := (.string y.data)) rfl rfl rfl (app [(n31, some ⟨[(cPrt y)], 15, 54, true⟩)] noStore) (seen_one (V := []) (D := [(n31, some ⟨[(cPrt y)], 15, 54, true⟩), (n31, some ⟨[xRs76], 15, 54, true⟩), (n, some ⟨[(cPrt c)], 15, 54, true⟩), ((n + 1), some ⟨[[(.int .i64 0), (.int .i64 0), (.bool false), (.int .u32 0), (.string ByteArray.empty)]], 5, 29, true⟩), (ja, some (oPrt (q ++ [c]))), (n1, some ⟨[(cPrt x)], 15, 54, true⟩), (n2, some ⟨[(cPrt z)], 15, 54, true⟩)]) (by kernel_rfl) get_here) (r_load1 rfl rfl rfl rfl rfl get_here rfl rfl) ?_
        refine PQ.pure (dst := (some 109)) (v := (.string (d ++ y.data))) rfl rfl rfl noStore (none_ok _ _) (r_cat rfl rfl rfl (by (try simp only [ByteArray.size_append, bstr_size, size_lit, List.size_toArray, List.length_cons, List.length_nil, List.length_take, List.length_drop, List.length_replicate]); try omega)) ?_
        refine PQ.op (dst := none) (v := (.tuple #[])) (n1 := n33) (d1 := [(n2, some ⟨[(xRs73 y)], 15, 54, true⟩)]) rfl rfl rfl _ (seen_any (V := []) (D := [(n31, some ⟨[(cPrt y)], 15, 54, true⟩), (n31, some ⟨[xRs76], 15, 54, true⟩), (n, some ⟨[(cPrt c)], 15, 54, true⟩), ((n + 1), some ⟨[[(.int .i64 0), (.int .i64 0), (.bool false), (.int .u32 0), (.string ByteArray.empty)]], 5, 29, true⟩), (ja, some (oPrt (q ++ [c]))), (n1, some ⟨[(cPrt x)], 15, 54, true⟩), (n2, some ⟨[(cPrt z)], 15, 54, true⟩)]) (by kernel_rfl)) (r_store rfl rfl rfl rfl rfl rfl rfl (gt6 (by omega) get_here) rfl rfl (Nat.le_of_ble_eq_true rfl) rfl) (by omega) (kp1 (wr_old [1, 2, 3, 4] (by kernel_rfl) (by omega) (by omega) (fac (lo0 rfl) (fac (lo0 rfl) (fac (lo1 rfl (by omega)) (fac (lo0 rfl) fan)))))) ?_
        refine PQ.pure (dst := (some 13)) (v := (.string (d ++ y.data))) rfl rfl rfl noStore (none_ok _ _) rfl ?_
        refine PQ.done (d := [(n2, some ⟨[(xRs73 y)], 15, 54, true⟩)]) (by kernel_rfl) ?_
        intro _
        refine RA.weaken (D' := [(n2, some ⟨[(xRs73 y)], 15, 54, true⟩), (n31, some ⟨[(cPrt y)], 15, 54, true⟩), (n, some ⟨[(cPrt c)], 15, 54, true⟩), ((n + 1), some ⟨[[(.int .i64 0), (.int .i64 0), (.bool false), (.int .u32 0), (.string ByteArray.empty)]], 5, 29, true⟩), (ja, some (oPrt (q ++ [c]))), (n1, some ⟨[(cPrt x)], 15, 54, true⟩)]) hd (Less.of (fac (mm (fun _ => get_here) (fun _ => get_here)) (fac (mm (fun _ => (get_there (by omega) get_here)) (fun _ => (get_there (by omega) get_here))) (fac (mm (fun _ => (gt2 (by omega) get_here)) (fun _ => (gt3 (by omega) get_here))) (fac (mm (fun _ => (gt3 (by omega) get_here)) (fun _ => (gt4 (by omega) get_here))) (fac (mm (fun _ => (gt4 (by omega) get_here)) (fun _ => (gt5 (by omega) get_here))) (fac (mm (fun _ => (gt5 (by omega) get_here)) (fun _ => (gt6 (by omega) get_here))) fan)))))) (gone_of (by simp only [goneP, memP, List.cons_append, List.nil_append, true_or, or_true, true_and, and_true, or_false] <;> omega))) ?_
        refine RA.region env_ok ?_
        refine OA.p (some 78) (.int .i64 ((k : Nat) : Int)) rfl rfl rfl rfl ?_
        refine OA.p (some 79) (.int .i64 (((k + 1) : Nat) : Int)) rfl rfl rfl (r_bin rfl rfl rfl (b_add (i64_eq (by omega)))) ?_
        refine OA.p (some 14) (.int .i64 (((k + 1) : Nat) : Int)) rfl rfl rfl rfl ?_
        refine OA.nil ?_
        refine ⟨K + 2 - (k + 1), by omega, [(n, some ⟨[(cPrt c)], 15, 54, true⟩), ((n + 1), some ⟨[[(.int .i64 0), (.int .i64 0), (.bool false), (.int .u32 0), (.string ByteArray.empty)]], 5, 29, true⟩), (ja, some (oPrt (q ++ [c]))), (n1, some ⟨[(cPrt x)], 15, 54, true⟩), (n2, some ⟨[(xRs73 y)], 15, 54, true⟩)], (Less.of (fac (mm (fun _ => get_here) (fun _ => (gt2 (by omega) get_here))) (fac (mm (fun _ => (get_there (by omega) get_here)) (fun _ => (gt3 (by omega) get_here))) (fac (mm (fun _ => (gt2 (by omega) get_here)) (fun _ => (gt4 (by omega) get_here))) (fac (mm (fun _ => (gt3 (by omega) get_here)) (fun _ => (gt5 (by omega) get_here))) (fac (mm (fun _ => (gt4 (by omega) get_here)) (fun _ => get_here)) fan))))) (gone_of (by simp only [goneP, memP, List.cons_append, List.nil_append, true_or, or_true, true_and, and_true, or_false] <;> omega))), ⟨(k + 1), y, (d ++ y.data), rfl, by omega, ⟨rfl, rfl, rfl, rfl, rfl, rfl, rfl, trivial⟩, (by rfl), (kb5 (by omega)), ⟨by omega, by rw [show K + 2 - (k + 1) = K + 2 - k - 1 from by omega, ← refF_go (by omega) hc19 hy hc21 hc22]; exact hkF, by rw [ByteArray.size_append]; omega⟩⟩⟩
       ·
        refine OA.callP (dst := (some 100)) (all := [(.agg ⟨(xRs73 y)⟩), (.agg ⟨(xRs75 z)⟩)]) (v := (.bool false)) (hd.of (by omega) (kb7 (by omega))) rfl rfl rfl rfl rfl rfl rfl rfl (PS.to (sAl y z) (show (.bool (decide (alike y z))) = ((.bool false) : Value) from (by first | (rw [decide_eq_false hc22]; done) | (rw [decide_eq_false hc22]; rfl)))) ?_
        intro n35 hn35
        refine OA.p (some 101) (.bool true) rfl rfl rfl rfl ?_
        refine OA.p (some 102) (.bool true) rfl rfl rfl rfl ?_
        refine OA.nil ?_
        intro _
        refine RA.rebase [(3, (Pt n 0 0)), (5, (.pointer (some ⟨(n + 1), 0, some 0⟩))), (7, (.slice (some ⟨ja, 0, none⟩) (K + 1) 2)), (8, (Pt n1 0 0)), (12, (Pt n2 0 0)), (13, (.string d)), (14, (.int .i64 ((k : Nat) : Int))), (15, (Pt n31 0 0)), (16, (.bool true)), (77, (.bool true)), (102, (.bool true))] ⟨rfl, rfl, rfl, rfl, rfl, rfl, rfl, rfl, rfl, rfl, rfl, trivial⟩ (fun τr36 => ?_)
        refine RA.condT rfl ?_
        refine RA.seq hd ?_
        refine RA.region env_ok ?_
        refine OA.p (some 103) (.slice (some ⟨ja, 0, none⟩) (K + 1) 2) rfl rfl rfl rfl ?_
        refine OA.p (some 104) (.agg ⟨[(.int .i64 0), (.int .i64 0), (.bool false), (.int .u32 0), (.string ByteArray.empty)]⟩) rfl rfl rfl (by kernel_rfl) ?_
        refine OA.p (some 4) (.slice (some ⟨ja, 0, none⟩) (K + 1) 2) rfl rfl rfl rfl ?_
        refine OA.op1 (dst := none) (v := (.tuple #[])) (n1 := n35) (w := ((n + 1), some ⟨[[(.int .i64 0), (.int .i64 0), (.bool false), (.int .u32 0), (.string ByteArray.empty)]], 5, 29, true⟩)) rfl rfl rfl (r_store rfl rfl rfl rfl rfl rfl rfl (gt3 (by omega) get_here) rfl rfl (Nat.le_of_ble_eq_true rfl) rfl) (by omega) ?_
        refine OA.p (some 6) (.bool false) rfl rfl rfl rfl ?_
        refine OA.nil ?_
        intro _
        refine RA.weaken (D' := [((n + 1), some ⟨[[(.int .i64 0), (.int .i64 0), (.bool false), (.int .u32 0), (.string ByteArray.empty)]], 5, 29, true⟩), (n31, some ⟨[(cPrt y)], 15, 54, true⟩), (n, some ⟨[(cPrt c)], 15, 54, true⟩), (ja, some (oPrt (q ++ [c]))), (n1, some ⟨[(cPrt x)], 15, 54, true⟩), (n2, some ⟨[(cPrt z)], 15, 54, true⟩)]) hd (Less.of (fac (mm (fun _ => get_here) (fun _ => get_here)) (fac (mm (fun _ => (get_there (by omega) get_here)) (fun _ => (get_there (by omega) get_here))) (fac (mm (fun _ => (gt2 (by omega) get_here)) (fun _ => (gt3 (by omega) get_here))) (fac (mm (fun _ => (gt3 (by omega) get_here)) (fun _ => (gt5 (by omega) get_here))) (fac (mm (fun _ => (gt4 (by omega) get_here)) (fun _ => (gt6 (by omega) get_here))) (fac (mm (fun _ => (gt5 (by omega) get_here)) (fun _ => (gt7 (by omega) get_here))) fan)))))) (gone_of (by simp only [goneP, memP, List.cons_append, List.nil_append, true_or, or_true, true_and, and_true, or_false] <;> omega))) ?_
        refine RA.ret env_ok ?_
        refine ⟨.inr rfl, (xRs78 ja K), (resL_cons rfl (resL_cons (res_cellA rfl rfl rfl get_here rfl rfl rfl) (resL_cons rfl resL_nil))), [], (Less.of (fun p hp => by simp at hp) (gone_of (by simp only [goneP, memP, List.cons_append, List.nil_append, true_or, or_true, true_and, and_true, or_false] <;> omega))), (by exfalso; cases (refF_bad (by omega) hc19 hy (.inr hc22)).symm.trans hkF)⟩
    ·
     refine OA.p (some 76) (.bool false) rfl rfl rfl (Eq.trans (r_bin rfl rfl rfl (b_eql rfl)) (dF hc19)) ?_
     refine OA.p (some 77) (.bool false) rfl rfl rfl rfl ?_
     refine OA.nil ?_
     intro _
     refine RA.condF rfl ?_
     refine RA.exit env_ok ?_
     have hzs : refF (q ++ [c]) (K + 2 - k) z d = some (z, d) := refF_stop (.inr hc19)
     have hzp := Option.some.inj (hzs.symm.trans hkF)
     have hz1 : z = pl := congrArg Prod.fst hzp
     have hz2 : d = dd := congrArg Prod.snd hzp
     intro _
     refine RA.seq hd ?_
     refine RA.region env_ok ?_
     refine OA.op1 (dst := (some 110)) (v := (.slice (some ⟨n28, 0, none⟩) 0 0)) (n1 := (n28 + 1)) (w := (n28, some (oPrt ([] : List Prt)))) rfl rfl rfl (by kernel_rfl) (by omega) ?_
     refine OA.p (some 17) (.slice (some ⟨n28, 0, none⟩) 0 0) rfl rfl rfl rfl ?_
     refine OA.nil ?_
     intro _
     refine RA.seq hd ?_
     refine RA.seq hd ?_
     refine RA.region env_ok ?_
     refine OA.p (some 18) (.int .i64 0) rfl rfl rfl rfl ?_
     refine OA.nil ?_
     intro _
     refine RA.block ?_
     refine RA.leT (t := 17) (v := (.slice (some ⟨n28, 0, none⟩) 0 0)) (v' := (.slice (some ⟨n28, 0, none⟩) 0 2)) rfl (vle_row _ _ _) ?_
     refine RA.weaken (D' := [(n, some ⟨[(cPrt c)], 15, 54, true⟩), ((n + 1), some ⟨[[(.int .i64 0), (.int .i64 0), (.bool false), (.int .u32 0), (.string ByteArray.empty)]], 5, 29, true⟩), (ja, some (oPrt (q ++ [c]))), (n1, some ⟨[(cPrt x)], 15, 54, true⟩), (n2, some ⟨[(cPrt z)], 15, 54, true⟩), (n28, some (oPrt ([] : List Prt)))]) hd (Less.of (fac (mm (fun _ => get_here) (fun _ => (get_there (by omega) get_here))) (fac (mm (fun _ => (get_there (by omega) get_here)) (fun _ => (gt2 (by omega) get_here))) (fac (mm (fun _ => (gt2 (by omega) get_here)) (fun _ => (gt3 (by omega) get_here))) (fac (mm (fun _ => (gt3 (by omega) get_here)) (fun _ => (gt4 (by omega) get_here))) (fac (mm (fun _ => (gt4 (by omega) get_here)) (fun _ => (gt5 (by omega) get_here))) (fac (mm (fun _ => (gt5 (by omega) get_here)) (fun _ => get_here)) fan)))))) (gone_of (by simp only [goneP, memP, List.cons_append, List.nil_append, true_or, or_true, true_and, and_true, or_false] <;> omega))) ?_
     refine RA.loop hd (fun kk_ τ n' D => (∃ i : Nat, ∃ jr : Nat, ∃ M : Nat, kk_ = K + 1 - i ∧ (n28 + 1) ≤ n' ∧ Has τ [(3, (Pt n 0 0)), (5, (.pointer (some ⟨(n + 1), 0, some 0⟩))), (7, (.slice (some ⟨ja, 0, none⟩) (K + 1) 2)), (8, (Pt n1 0 0)), (12, (Pt n2 0 0)), (13, (.string d)), (17, (.slice (some ⟨jr, 0, none⟩) M 2)), (18, (.int .i64 ((i : Nat) : Int)))] ∧ D = [(n, some ⟨[(cPrt c)], 15, 54, true⟩), ((n + 1), some ⟨[[(.int .i64 0), (.int .i64 0), (.bool false), (.int .u32 0), (.string ByteArray.empty)]], 5, 29, true⟩), (ja, some (oPrt (q ++ [c]))), (n1, some ⟨[(cPrt x)], 15, 54, true⟩), (n2, some ⟨[(cPrt z)], 15, 54, true⟩), (jr, some (oPrt (((q ++ [c]).take i).filter (keepP x z))))] ∧ (∀ i ∈ keys D, i < n') ∧ i ≤ K + 1 ∧ (((q ++ [c]).take i).filter (keepP x z)).length = M ∧ M ≤ i ∧ n2 < jr)) (K + 1 - 0) (⟨0, n28, 0, rfl, by omega, ⟨rfl, rfl, rfl, rfl, rfl, rfl, rfl, rfl, trivial⟩, (by rfl), (kb6 (by omega)), ⟨by omega, rfl, by omega, by omega⟩⟩) ?_
     rintro kn37 τ37 n37 _ ⟨i, jr, M, rfl, hn37, hHn37, rfl, hKn37, hIn37⟩
     rw [Has.eq hHn37]
     have hKn37_0 : n < n37 := hKn37 _ (by simp only [keys, List.map_cons, List.map_nil, List.mem_cons, true_or, or_true])
     have hKn37_1 : (n + 1) < n37 := hKn37 _ (by simp only [keys, List.map_cons, List.map_nil, List.mem_cons, true_or, or_true])
     have hKn37_2 : ja < n37 := hKn37 _ (by simp only [keys, List.map_cons, List.map_nil, List.mem_cons, true_or, or_true])
     have hKn37_3 : n1 < n37 := hKn37 _ (by simp only [keys, List.map_cons, List.map_nil, List.mem_cons, true_or, or_true])
     have hKn37_4 : n2 < n37 := hKn37 _ (by simp only [keys, List.map_cons, List.map_nil, List.mem_cons, true_or, or_true])
     have hKn37_5 : jr < n37 := hKn37 _ (by simp only [keys, List.map_cons, List.map_nil, List.mem_cons, true_or, or_true])
     clear hKn37
     obtain ⟨hm1, hm2, hm3, hm4⟩ := hIn37
     refine RA.seq hd ?_
     refine RA.seq hd ?_
     refine RA.region env_ok ?_
     refine OA.p (some 111) (.int .i64 ((i : Nat) : Int)) rfl rfl rfl rfl ?_
     refine OA.p (some 112) (.slice (some ⟨ja, 0, none⟩) (K + 1) 2) rfl rfl rfl rfl ?_
     refine OA.p (some 113) (.int .i64 (((K + 1) : Nat) : Int)) rfl rfl rfl rfl ?_
     by_cases hc23 : ((i : Nat) : Int) < (((K + 1) : Nat) : Int)
     ·
      refine OA.p (some 114) (.bool true) rfl rfl rfl (Eq.trans (r_bin rfl rfl rfl (b_lss rfl)) (dT hc23)) ?_
      refine OA.nil ?_
      intro _
      refine RA.condT rfl ?_
      refine RA.skip env_ok ?_
      intro _
      refine RA.seq hd ?_
      refine RA.block ?_
      refine RA.seq hd ?_
      refine RA.par (md := [some [], some [], some [ja], some [], some [ja], some [], some [n1], some [], some [], some [n2], some [], some [n1], some [], some []]) env_ok (hd.of (by omega) (kb6 (by omega))) (by kernel_rfl) ?_
      refine PQ.pure (dst := (some 117)) (v := (.slice (some ⟨ja, 0, none⟩) (K + 1) 2)) rfl rfl rfl noStore (none_ok _ _) rfl ?_
      refine PQ.pure (dst := (some 118)) (v := (.int .i64 ((i : Nat) : Int))) rfl rfl rfl noStore (none_ok _ _) rfl ?_
      refine PQ.pure (dst := (some 119)) (v := (Pt ja i 0)) rfl rfl rfl (app [(ja, some (oPrt (q ++ [c])))] noStore) (seen_one (V := []) (D := [(n, some ⟨[(cPrt c)], 15, 54, true⟩), ((n + 1), some ⟨[[(.int .i64 0), (.int .i64 0), (.bool false), (.int .u32 0), (.string ByteArray.empty)]], 5, 29, true⟩), (ja, some (oPrt (q ++ [c]))), (n1, some ⟨[(cPrt x)], 15, 54, true⟩), (n2, some ⟨[(cPrt z)], 15, 54, true⟩), (jr, some (oPrt (((q ++ [c]).take i).filter (keepP x z))))]) (by kernel_rfl) (gt2 (by omega) get_here)) (r_iaS (l := i) rfl rfl rfl rfl rfl rfl (by omega) (by omega) get_here rfl (by omega)) ?_
      refine PQ.pure (dst := (some 120)) (v := (Pt ja i 2)) rfl rfl rfl noStore (none_ok _ _) rfl ?_
      refine PQ.pure (dst := (some 121)) (v := (W ((q ++ [c]).getD i dPrt).tsn)) rfl rfl rfl (app [(ja, some (oPrt (q ++ [c])))] noStore) (seen_one (V := []) (D := [(n, some ⟨[(cPrt c)], 15, 54, true⟩), ((n + 1), some ⟨[[(.int .i64 0), (.int .i64 0), (.bool false), (.int .u32 0), (.string ByteArray.empty)]], 5, 29, true⟩), (ja, some (oPrt (q ++ [c]))), (n1, some ⟨[(cPrt x)], 15, 54, true⟩), (n2, some ⟨[(cPrt z)], 15, 54, true⟩), (jr, some (oPrt (((q ++ [c]).take i).filter (keepP x z))))]) (by kernel_rfl) (gt2 (by omega) get_here)) (r_loadF (c := cPrt) dPrt rfl rfl rfl rfl rfl get_here (by have := (show (q ++ [c]).length = K + 1 from by rw [List.length_append, hq]; rfl); omega) rfl) ?_
      refine PQ.pure (dst := (some 122)) (v := (Pt n1 0 2)) rfl rfl rfl noStore (none_ok _ _) rfl ?_
      refine PQ.pure (dst := (some 123)) (v := (W x.tsn)) rfl rfl rfl (app [(n1, some ⟨[(cPrt x)], 15, 54, true⟩)] noStore) (seen_one (V := []) (D := [(n, some ⟨[(cPrt c)], 15, 54, true⟩), ((n + 1), some ⟨[[(.int .i64 0), (.int .i64 0), (.bool false), (.int .u32 0), (.string ByteArray.empty)]], 5, 29, true⟩), (ja, some (oPrt (q ++ [c]))), (n1, some ⟨[(cPrt x)], 15, 54, true⟩), (n2, some ⟨[(cPrt z)], 15, 54, true⟩), (jr, some (oPrt (((q ++ [c]).take i).filter (keepP x z))))]) (by kernel_rfl) (gt3 (by omega) get_here)) (r_load1 rfl rfl rfl rfl rfl get_here rfl rfl) ?_
      refine PQ.pure (dst := (some 124)) (v := (W (((q ++ [c]).getD i dPrt).tsn - x.tsn))) rfl rfl rfl noStore (none_ok _ _) (r_bin rfl rfl rfl (b_subW ((q ++ [c]).getD i dPrt).tsn x.tsn)) ?_
      refine PQ.pure (dst := (some 125)) (v := (Pt n2 0 2)) rfl rfl rfl noStore (none_ok _ _) rfl ?_
      refine PQ.pure (dst := (some 126)) (v := (W z.tsn)) rfl rfl rfl (app [(n2, some ⟨[(cPrt z)], 15, 54, true⟩)] noStore) (seen_one (V := []) (D := [(n, some ⟨[(cPrt c)], 15, 54, true⟩), ((n + 1), some ⟨[[(.int .i64 0), (.int .i64 0), (.bool false), (.int .u32 0), (.string ByteArray.empty)]], 5, 29, true⟩), (ja, some (oPrt (q ++ [c]))), (n1, some ⟨[(cPrt x)], 15, 54, true⟩), (n2, some ⟨[(cPrt z)], 15, 54, true⟩), (jr, some (oPrt (((q ++ [c]).take i).filter (keepP x z))))]) (by kernel_rfl) (gt4 (by omega) get_here)) (r_load1 rfl rfl rfl rfl rfl get_here rfl rfl) ?_
      refine PQ.pure (dst := (some 127)) (v := (Pt n1 0 2)) rfl rfl rfl noStore (none_ok _ _) rfl ?_
      refine PQ.pure (dst := (some 128)) (v := (W x.tsn)) rfl rfl rfl (app [(n1, some ⟨[(cPrt x)], 15, 54, true⟩)] noStore) (seen_one (V := []) (D := [(n, some ⟨[(cPrt c)], 15, 54, true⟩), ((n + 1), some ⟨[[(.int .i64 0), (.int .i64 0), (.bool false), (.int .u32 0), (.string ByteArray.empty)]], 5, 29, true⟩), (ja, some (oPrt (q ++ [c]))), (n1, some ⟨[(cPrt x)], 15, 54, true⟩), (n2, some ⟨[(cPrt z)], 15, 54, true⟩), (jr, some (oPrt (((q ++ [c]).take i).filter (keepP x z))))]) (by kernel_rfl) (gt3 (by omega) get_here)) (r_load1 rfl rfl rfl rfl rfl get_here rfl rfl) ?_
      refine PQ.pure (dst := (some 129)) (v := (W (z.tsn - x.tsn))) rfl rfl rfl noStore (none_ok _ _) (r_bin rfl rfl rfl (b_subW z.tsn x.tsn)) ?_
      by_cases hc24 : ((z.tsn - x.tsn).toNat : Int) < ((((q ++ [c]).getD i dPrt).tsn - x.tsn).toNat : Int)
      ·
       refine PQ.pure (dst := (some 130)) (v := (.bool true)) rfl rfl rfl noStore (none_ok _ _) (Eq.trans (r_bin rfl rfl rfl (b_gtr rfl)) (dT hc24)) ?_
       refine PQ.done (d := []) (by kernel_rfl) ?_
       intro _
       refine RA.condT rfl ?_
       refine RA.region env_ok ?_
       refine OA.p (some 131) (.slice (some ⟨jr, 0, none⟩) M 2) rfl rfl rfl rfl ?_
       refine OA.p (some 132) (.slice (some ⟨ja, 0, none⟩) (K + 1) 2) rfl rfl rfl rfl ?_
       refine OA.p (some 133) (.int .i64 ((i : Nat) : Int)) rfl rfl rfl rfl ?_
       refine OA.p (some 134) (Pt ja i 0) rfl rfl rfl (r_iaS (l := i) rfl rfl rfl rfl rfl rfl (by omega) (by omega) (gt2 (by omega) get_here) rfl (by omega)) ?_
       refine OA.p (some 135) (.agg ⟨(cPrt ((q ++ [c]).getD i dPrt))⟩) rfl rfl rfl (r_loadR (c := cPrt) dPrt rfl rfl rfl rfl (gt2 (by omega) get_here) (by have := (show (q ++ [c]).length = K + 1 from by rw [List.length_append, hq]; rfl); omega) rfl) ?_
       refine OA.op1 (dst := (some 136)) (v := (.slice (some ⟨n37, 0, none⟩) 1 0)) (n1 := (n37 + 1)) (w := (n37, some ⟨[(xRs71 q c i)], 15, 54, true⟩)) rfl rfl rfl (by kernel_rfl) (by omega) ?_
       refine OA.op (dst := (some 137)) (v := (.slice (some ⟨(n37 + 1), 0, none⟩) (M + 1) 2)) (n1 := (n37 + 2)) (d1 := [((n37 + 1), some (oPrt ((((q ++ [c]).take i).filter (keepP x z)) ++ [((q ++ [c]).getD i dPrt)]))), (jr, none)]) (D' := [((n37 + 1), some (oPrt ((((q ++ [c]).take i).filter (keepP x z)) ++ [((q ++ [c]).getD i dPrt)]))), (jr, none), (n37, some ⟨[(xRs71 q c i)], 15, 54, true⟩), (n, some ⟨[(cPrt c)], 15, 54, true⟩), ((n + 1), some ⟨[[(.int .i64 0), (.int .i64 0), (.bool false), (.int .u32 0), (.string ByteArray.empty)]], 5, 29, true⟩), (ja, some (oPrt (q ++ [c]))), (n1, some ⟨[(cPrt x)], 15, 54, true⟩), (n2, some ⟨[(cPrt z)], 15, 54, true⟩), (jr, some (oPrt (((q ++ [c]).take i).filter (keepP x z))))]) rfl rfl rfl (r_append2x (c := cPrt) (x := ((q ++ [c]).getD i dPrt)) (l' := ((((q ++ [c]).take i).filter (keepP x z)) ++ [((q ++ [c]).getD i dPrt)])) rfl rfl rfl rfl rfl rfl rfl rfl rfl rfl (by decide) (gt6 (by omega) get_here) get_here (by rw [hm2]; omega) (by rw [take_all' (by rw [hm2])]) (by omega) (of_decide_eq_true (by kernel_rfl)) (by omega)) (by omega) rfl ?_
       refine OA.p (some 17) (.slice (some ⟨(n37 + 1), 0, none⟩) (M + 1) 2) rfl rfl rfl rfl ?_
       refine OA.nil ?_
       intro _
       refine RA.weaken (D' := [((n37 + 1), some (oPrt ((((q ++ [c]).take i).filter (keepP x z)) ++ [((q ++ [c]).getD i dPrt)]))), (jr, none), (n37, some ⟨[(xRs71 q c i)], 15, 54, true⟩), (n, some ⟨[(cPrt c)], 15, 54, true⟩), ((n + 1), some ⟨[[(.int .i64 0), (.int .i64 0), (.bool false), (.int .u32 0), (.string ByteArray.empty)]], 5, 29, true⟩), (ja, some (oPrt (q ++ [c]))), (n1, some ⟨[(cPrt x)], 15, 54, true⟩), (n2, some ⟨[(cPrt z)], 15, 54, true⟩)]) hd (Less.of (fac (mm (fun _ => get_here) (fun _ => get_here)) (fac (mm (fun _ => (get_there (by omega) get_here)) (fun _ => (get_there (by omega) get_here))) (fac (mm (fun _ => (gt2 (by omega) get_here)) (fun _ => (gt2 (by omega) get_here))) (fac (mm (fun _ => (gt3 (by omega) get_here)) (fun _ => (gt3 (by omega) get_here))) (fac (mm (fun _ => (gt4 (by omega) get_here)) (fun _ => (gt4 (by omega) get_here))) (fac (mm (fun _ => (gt5 (by omega) get_here)) (fun _ => (gt5 (by omega) get_here))) (fac (mm (fun _ => (gt6 (by omega) get_here)) (fun _ => (gt6 (by omega) get_here))) (fac (mm (fun _ => (gt7 (by omega) get_here)) (fun _ => (gt7 (by omega) get_here))) fan)))))))) (gone_of (by simp only [goneP, memP, List.cons_append, List.nil_append, true_or, or_true, true_and, and_true, or_false] <;> omega))) ?_
       refine RA.rebase [(3, (Pt n 0 0)), (5, (.pointer (some ⟨(n + 1), 0, some 0⟩))), (7, (.slice (some ⟨ja, 0, none⟩) (K + 1) 2)), (8, (Pt n1 0 0)), (12, (Pt n2 0 0)), (13, (.string d)), (17, (.slice (some ⟨(n37 + 1), 0, none⟩) (M + 1) 2)), (18, (.int .i64 ((i : Nat) : Int))), (114, (.bool true)), (130, (.bool true))] ⟨rfl, rfl, rfl, rfl, rfl, rfl, rfl, rfl, rfl, rfl, trivial⟩ (fun τr38 => ?_)
       refine RA.region env_ok ?_
       refine OA.p (some 115) (.int .i64 ((i : Nat) : Int)) rfl rfl rfl rfl ?_
       refine OA.p (some 116) (.int .i64 (((i + 1) : Nat) : Int)) rfl rfl rfl (r_bin rfl rfl rfl (b_add (i64_eq (by omega)))) ?_
       refine OA.p (some 18) (.int .i64 (((i + 1) : Nat) : Int)) rfl rfl rfl rfl ?_
       refine OA.nil ?_
       refine ⟨K + 1 - (i + 1), by omega, [(n, some ⟨[(cPrt c)], 15, 54, true⟩), ((n + 1), some ⟨[[(.int .i64 0), (.int .i64 0), (.bool false), (.int .u32 0), (.string ByteArray.empty)]], 5, 29, true⟩), (ja, some (oPrt (q ++ [c]))), (n1, some ⟨[(cPrt x)], 15, 54, true⟩), (n2, some ⟨[(cPrt z)], 15, 54, true⟩), ((n37 + 1), some (oPrt ((((q ++ [c]).take i).filter (keepP x z)) ++ [((q ++ [c]).getD i dPrt)])))], (Less.of (fac (mm (fun _ => get_here) (fun _ => (gt3 (by omega) get_here))) (fac (mm (fun _ => (get_there (by omega) get_here)) (fun _ => (gt4 (by omega) get_here))) (fac (mm (fun _ => (gt2 (by omega) get_here)) (fun _ => (gt5 (by omega) get_here))) (fac (mm (fun _ => (gt3 (by omega) get_here)) (fun _ => (gt6 (by omega) get_here))) (fac (mm (fun _ => (gt4 (by omega) get_here)) (fun _ => (gt7 (by omega) get_here))) (fac (mm (fun _ => (gt5 (by omega) get_here)) (fun _ => get_here)) fan)))))) (gone_of (by simp only [goneP, memP, List.cons_append, List.nil_append, true_or, or_true, true_and, and_true, or_false] <;> omega))), ⟨(i + 1), (n37 + 1), (M + 1), rfl, by omega, ⟨rfl, rfl, rfl, rfl, rfl, rfl, rfl, rfl, trivial⟩, (by rw [flt_yes (by rw [List.length_append, hq]; show i < K + 1; omega) (decide_eq_true (by omega))]), (kb6 (by omega)), ⟨by omega, by rw [flt_yes (by rw [List.length_append, hq]; show i < K + 1; omega) (decide_eq_true (by omega))]; rw [List.length_append, List.length_singleton, hm2], by omega, by omega⟩⟩⟩
      ·
       refine PQ.pure (dst := (some 130)) (v := (.bool false)) rfl rfl rfl noStore (none_ok _ _) (Eq.trans (r_bin rfl rfl rfl (b_gtr rfl)) (dF hc24)) ?_
       refine PQ.done (d := []) (by kernel_rfl) ?_
       intro _
       refine RA.condF rfl ?_
       refine RA.skip env_ok ?_
       intro _
       refine RA.region env_ok ?_
       refine OA.p (some 115) (.int .i64 ((i : Nat) : Int)) rfl rfl rfl rfl ?_
       refine OA.p (some 116) (.int .i64 (((i + 1) : Nat) : Int)) rfl rfl rfl (r_bin rfl rfl rfl (b_add (i64_eq (by omega)))) ?_
       refine OA.p (some 18) (.int .i64 (((i + 1) : Nat) : Int)) rfl rfl rfl rfl ?_
       refine OA.nil ?_
       refine ⟨K + 1 - (i + 1), by omega, [(n, some ⟨[(cPrt c)], 15, 54, true⟩), ((n + 1), some ⟨[[(.int .i64 0), (.int .i64 0), (.bool false), (.int .u32 0), (.string ByteArray.empty)]], 5, 29, true⟩), (ja, some (oPrt (q ++ [c]))), (n1, some ⟨[(cPrt x)], 15, 54, true⟩), (n2, some ⟨[(cPrt z)], 15, 54, true⟩), (jr, some (oPrt (((q ++ [c]).take i).filter (keepP x z))))], (Less.refl _ _ _), ⟨(i + 1), jr, M, rfl, by omega, ⟨rfl, rfl, rfl, rfl, rfl, rfl, rfl, rfl, trivial⟩, (by rw [flt_no (by rw [List.length_append, hq]; show i < K + 1; omega) (fun hh => hc24 (by have := of_decide_eq_true hh; omega))]), (kb6 (by omega)), ⟨by omega, by rw [flt_no (by rw [List.length_append, hq]; show i < K + 1; omega) (fun hh => hc24 (by have := of_decide_eq_true hh; omega))]; exact hm2, by omega, by omega⟩⟩⟩
     ·
      refine OA.p (some 114) (.bool false) rfl rfl rfl (Eq.trans (r_bin rfl rfl rfl (b_lss rfl)) (dF hc23)) ?_
      refine OA.nil ?_
      intro _
      refine RA.condF rfl ?_
      refine RA.exit env_ok ?_
      intro _
      refine RA.seq hd ?_
      refine RA.region env_ok ?_
      refine OA.p (some 138) (Pt n 0 3) rfl rfl rfl rfl ?_
      refine OA.p (some 139) (.int .i64 ((c.st : Nat) : Int)) rfl rfl rfl (r_load1 rfl rfl rfl rfl rfl get_here rfl rfl) ?_
      refine OA.p (some 140) (Pt n 0 4) rfl rfl rfl rfl ?_
      refine OA.p (some 141) (.int .i64 ((c.ssn : Nat) : Int)) rfl rfl rfl (r_load1 rfl rfl rfl rfl rfl get_here rfl rfl) ?_
      refine OA.p (some 142) (Pt n 0 1) rfl rfl rfl rfl ?_
      refine OA.p (some 143) (.int .i64 ((c.fl.val : Nat) : Int)) rfl rfl rfl (r_load1 rfl rfl rfl rfl rfl get_here rfl rfl) ?_
      refine OA.p (some 144) (.int .i64 (((c.fl.val / 4) : Nat) : Int)) rfl rfl rfl (r_bin rfl rfl rfl (b_quoN (a := c.fl.val) (c := 4) (by decide) (i64_eq (by omega)))) ?_
      refine OA.p (some 145) (.int .i64 ((((c.fl.val / 4) % 2) : Nat) : Int)) rfl rfl rfl (r_bin rfl rfl rfl (b_remN (a := (c.fl.val / 4)) (c := 2) (by decide))) ?_
      by_cases hc25 : ((((c.fl.val / 4) % 2) : Nat) : Int) = 1
      ·
       refine OA.p (some 146) (.bool true) rfl rfl rfl (Eq.trans (r_bin rfl rfl rfl (b_eql rfl)) (dT hc25)) ?_
       refine OA.p (some 147) (Pt n1 0 5) rfl rfl rfl rfl ?_
       refine OA.p (some 148) (W x.proto) rfl rfl rfl (r_load1 rfl rfl rfl rfl rfl (gt3 (by omega) get_here) rfl rfl) ?_
       refine OA.p (some 149) (.string d) rfl rfl rfl rfl ?_
       refine OA.p (some 150) (.agg ⟨(xRs711 c x d)⟩) rfl rfl rfl (by kernel_rfl) ?_
       refine OA.op1 (dst := (some 19)) (v := (Pt n37 0 0)) (n1 := (n37 + 1)) (w := (n37, some ⟨[[(.int .i64 0), (.int .i64 0), (.bool false), (.int .u32 0), (.string ByteArray.empty)]], 5, 29, true⟩)) rfl rfl rfl rfl (by omega) ?_
       refine OA.op1 (dst := none) (v := (.tuple #[])) (n1 := (n37 + 1)) (w := (n37, some ⟨[(xRs711 c x d)], 5, 29, true⟩)) rfl rfl rfl (r_store rfl rfl rfl rfl rfl rfl rfl get_here rfl rfl (Nat.le_of_ble_eq_true rfl) rfl) (by omega) ?_
       refine OA.nil ?_
       intro _
       refine RA.seq hd ?_
       refine RA.seq hd ?_
       refine RA.region env_ok ?_
       refine OA.p (some 151) (Pt n37 0 2) rfl rfl rfl rfl ?_
       refine OA.p (some 152) (.bool true) rfl rfl rfl (r_load1 rfl rfl rfl rfl rfl get_here rfl rfl) ?_
       refine OA.nil ?_
       intro _
       refine RA.condT rfl ?_
       refine RA.region env_ok ?_
       refine OA.p (some 153) (Pt n37 0 1) rfl rfl rfl rfl ?_
       refine OA.op1 (dst := none) (v := (.tuple #[])) (n1 := (n37 + 1)) (w := (n37, some ⟨[[(.int .i64 ((c.st : Nat) : Int)), (.int .i64 0), (.bool true), (W x.proto), (.string d)]], 5, 29, true⟩)) rfl rfl rfl (r_store rfl rfl rfl rfl rfl rfl rfl get_here rfl rfl (Nat.le_of_ble_eq_true rfl) rfl) (by omega) ?_
       refine OA.nil ?_
       intro _
       refine RA.weaken (D' := [(n37, some ⟨[[(.int .i64 ((c.st : Nat) : Int)), (.int .i64 0), (.bool true), (W x.proto), (.string d)]], 5, 29, true⟩), (n, some ⟨[(cPrt c)], 15, 54, true⟩), ((n + 1), some ⟨[[(.int .i64 0), (.int .i64 0), (.bool false), (.int .u32 0), (.string ByteArray.empty)]], 5, 29, true⟩), (ja, some (oPrt (q ++ [c]))), (n1, some ⟨[(cPrt x)], 15, 54, true⟩), (n2, some ⟨[(cPrt z)], 15, 54, true⟩), (jr, some (oPrt (((q ++ [c]).take i).filter (keepP x z))))]) hd (Less.of (fac (mm (fun _ => get_here) (fun _ => get_here)) (fac (mm (fun _ => (get_there (by omega) get_here)) (fun _ => (gt3 (by omega) get_here))) (fac (mm (fun _ => (gt2 (by omega) get_here)) (fun _ => (gt4 (by omega) get_here))) (fac (mm (fun _ => (gt3 (by omega) get_here)) (fun _ => (gt5 (by omega) get_here))) (fac (mm (fun _ => (gt4 (by omega) get_here)) (fun _ => (gt6 (by omega) get_here))) (fac (mm (fun _ => (gt5 (by omega) get_here)) (fun _ => (gt7 (by omega) get_here))) (fac (mm (fun _ => (gt6 (by omega) get_here)) (fun _ => (gt8 (by omega) get_here))) fan))))))) (gone_of (by simp only [goneP, memP, List.cons_append, List.nil_append, true_or, or_true, true_and, and_true, or_false] <;> omega))) ?_
       refine RA.seq hd ?_
       refine RA.par (md := [some [], some [n37], some [], none, some []]) env_ok (hd.of (by omega) (kb7 (by omega))) (by kernel_rfl) ?_
       refine PQ.pure (dst := (some 154)) (v := (.slice (some ⟨jr, 0, none⟩) M 2)) rfl rfl rfl noStore (none_ok _ _) rfl ?_
       refine PQ.pure (dst := (some 155)) (v := (.agg ⟨[(.int .i64 ((c.st : Nat) : Int)), (.int .i64 0), (.bool true), (W x.proto), (.string d)]⟩)) rfl rfl rfl (app [(n37, some ⟨[[(.int .i64 ((c.st : Nat) : Int)), (.int .i64 0), (.bool true), (W x.proto), (.string d)]], 5, 29, true⟩)] noStore) (seen_one (V := []) (D := [(n37, some ⟨[[(.int .i64 ((c.st : Nat) : Int)), (.int .i64 0), (.bool true), (W x.proto), (.string d)]], 5, 29, true⟩), (n, some ⟨[(cPrt c)], 15, 54, true⟩), ((n + 1), some ⟨[[(.int .i64 0), (.int .i64 0), (.bool false), (.int .u32 0), (.string ByteArray.empty)]], 5, 29, true⟩), (ja, some (oPrt (q ++ [c]))), (n1, some ⟨[(cPrt x)], 15, 54, true⟩), (n2, some ⟨[(cPrt z)], 15, 54, true⟩), (jr, some (oPrt (((q ++ [c]).take i).filter (keepP x z))))]) (by kernel_rfl) get_here) (r_loadA rfl rfl rfl rfl get_here rfl rfl rfl) ?_
       refine PQ.pure (dst := (some 4)) (v := (.slice (some ⟨jr, 0, none⟩) M 2)) rfl rfl rfl noStore (none_ok _ _) rfl ?_
       refine PQ.op (dst := none) (v := (.tuple #[])) (n1 := (n37 + 1)) (d1 := [((n + 1), some ⟨[[(.int .i64 ((c.st : Nat) : Int)), (.int .i64 0), (.bool true), (W x.proto), (.string d)]], 5, 29, true⟩)]) rfl rfl rfl _ (seen_any (V := []) (D := [(n37, some ⟨[[(.int .i64 ((c.st : Nat) : Int)), (.int .i64 0), (.bool true), (W x.proto), (.string d)]], 5, 29, true⟩), (n, some ⟨[(cPrt c)], 15, 54, true⟩), ((n + 1), some ⟨[[(.int .i64 0), (.int .i64 0), (.bool false), (.int .u32 0), (.string ByteArray.empty)]], 5, 29, true⟩), (ja, some (oPrt (q ++ [c]))), (n1, some ⟨[(cPrt x)], 15, 54, true⟩), (n2, some ⟨[(cPrt z)], 15, 54, true⟩), (jr, some (oPrt (((q ++ [c]).take i).filter (keepP x z))))]) (by kernel_rfl)) (r_store rfl rfl rfl rfl rfl rfl rfl (gt2 (by omega) get_here) rfl rfl (Nat.le_of_ble_eq_true rfl) rfl) (by omega) (kp1 (wr_tight (by kernel_rfl) (by omega))) ?_
       refine PQ.pure (dst := (some 6)) (v := (.bool true)) rfl rfl rfl noStore (none_ok _ _) rfl ?_
       refine PQ.done (d := [((n + 1), some ⟨[[(.int .i64 ((c.st : Nat) : Int)), (.int .i64 0), (.bool true), (W x.proto), (.string d)]], 5, 29, true⟩)]) (by kernel_rfl) ?_
       intro _
       refine RA.rebase [(3, (Pt n 0 0)), (4, (.slice (some ⟨jr, 0, none⟩) M 2)), (5, (.pointer (some ⟨(n + 1), 0, some 0⟩))), (6, (.bool true)), (7, (.slice (some ⟨ja, 0, none⟩) (K + 1) 2)), (8, (Pt n1 0 0)), (12, (Pt n2 0 0)), (13, (.string d)), (17, (.slice (some ⟨jr, 0, none⟩) M 2)), (18, (.int .i64 ((i : Nat) : Int))), (19, (Pt n37 0 0)), (114, (.bool false)), (152, (.bool true))] ⟨rfl, rfl, rfl, rfl, rfl, rfl, rfl, rfl, rfl, rfl, rfl, rfl, rfl, trivial⟩ (fun τr39 => ?_)
       refine RA.ret env_ok ?_
       refine ⟨.inr rfl, (xRs79 jr M c x d), (resL_cons rfl (resL_cons (res_cellA rfl rfl rfl get_here rfl rfl rfl) (resL_cons rfl resL_nil))), [(jr, some (oPrt (((q ++ [c]).take i).filter (keepP x z))))], (Less.of (fac (mm (fun _ => get_here) (fun _ => (gt7 (by omega) get_here))) fan) (gone_of (by simp only [goneP, memP, List.cons_append, List.nil_append, true_or, or_true, true_and, and_true, or_false] <;> omega))), ⟨jr, M, by omega, by omega, (by rw [← hz1, ← hxp, ← hm2, List.take_of_length_le (by rw [List.length_append, hq]; show K + 1 ≤ i; omega)]), by omega, by rw [← hxp, ← hz2, show mkM c x.proto d = _ from if_pos (by omega)] <;> rfl, by rw [← hz1, ← hxp, List.take_of_length_le (show (q ++ [c]).length ≤ i by rw [List.length_append, hq]; show K + 1 ≤ i; omega)]⟩⟩
      ·
       refine OA.p (some 146) (.bool false) rfl rfl rfl (Eq.trans (r_bin rfl rfl rfl (b_eql rfl)) (dF hc25)) ?_
       refine OA.p (some 147) (Pt n1 0 5) rfl rfl rfl rfl ?_
       refine OA.p (some 148) (W x.proto) rfl rfl rfl (r_load1 rfl rfl rfl rfl rfl (gt3 (by omega) get_here) rfl rfl) ?_
       refine OA.p (some 149) (.string d) rfl rfl rfl rfl ?_
       refine OA.p (some 150) (.agg ⟨(xRs710 c x d)⟩) rfl rfl rfl (by kernel_rfl) ?_
       refine OA.op1 (dst := (some 19)) (v := (Pt n37 0 0)) (n1 := (n37 + 1)) (w := (n37, some ⟨[[(.int .i64 0), (.int .i64 0), (.bool false), (.int .u32 0), (.string ByteArray.empty)]], 5, 29, true⟩)) rfl rfl rfl rfl (by omega) ?_
       refine OA.op1 (dst := none) (v := (.tuple #[])) (n1 := (n37 + 1)) (w := (n37, some ⟨[(xRs710 c x d)], 5, 29, true⟩)) rfl rfl rfl (r_store rfl rfl rfl rfl rfl rfl rfl get_here rfl rfl (Nat.le_of_ble_eq_true rfl) rfl) (by omega) ?_
       refine OA.nil ?_
       intro _
       refine RA.seq hd ?_
       refine RA.seq hd ?_
       refine RA.region env_ok ?_
       refine OA.p (some 151) (Pt n37 0 2) rfl rfl rfl rfl ?_
       refine OA.p (some 152) (.bool false) rfl rfl rfl (r_load1 rfl rfl rfl rfl rfl get_here rfl rfl) ?_
       refine OA.nil ?_
       intro _
       refine RA.condF rfl ?_
       refine RA.skip env_ok ?_
       intro _
       refine RA.seq hd ?_
       refine RA.par (md := [some [], some [n37], some [], none, some []]) env_ok (hd.of (by omega) (kb8 (by omega))) (by kernel_rfl) ?_
       refine PQ.pure (dst := (some 154)) (v := (.slice (some ⟨jr, 0, none⟩) M 2)) rfl rfl rfl noStore (none_ok _ _) rfl ?_
       refine PQ.pure (dst := (some 155)) (v := (.agg ⟨(xRs710 c x d)⟩)) rfl rfl rfl (app [(n37, some ⟨[(xRs710 c x d)], 5, 29, true⟩)] noStore) (seen_one (V := []) (D := [(n37, some ⟨[(xRs710 c x d)], 5, 29, true⟩), (n37, some ⟨[[(.int .i64 0), (.int .i64 0), (.bool false), (.int .u32 0), (.string ByteArray.empty)]], 5, 29, true⟩), (n, some ⟨[(cPrt c)], 15, 54, true⟩), ((n + 1), some ⟨[[(.int .i64 0), (.int .i64 0), (.bool false), (.int .u32 0), (.string ByteArray.empty)]], 5, 29, true⟩), (ja, some (oPrt (q ++ [c]))), (n1, some ⟨[(cPrt x)], 15, 54, true⟩), (n2, some ⟨[(cPrt z)], 15, 54, true⟩), (jr, some (oPrt (((q ++ [c]).take i).filter (keepP x z))))]) (by kernel_rfl) get_here) (r_loadA rfl rfl rfl rfl get_here rfl rfl rfl) ?_
       refine PQ.pure (dst := (some 4)) (v := (.slice (some ⟨jr, 0, none⟩) M 2)) rfl rfl rfl noStore (none_ok _ _) rfl ?_
       refine PQ.op (dst := none) (v := (.tuple #[])) (n1 := (n37 + 1)) (d1 := [((n + 1), some ⟨[(xRs710 c x d)], 5, 29, true⟩)]) rfl rfl rfl _ (seen_any (V := []) (D := [(n37, some ⟨[(xRs710 c x d)], 5, 29, true⟩), (n37, some ⟨[[(.int .i64 0), (.int .i64 0), (.bool false), (.int .u32 0), (.string ByteArray.empty)]], 5, 29, true⟩), (n, some ⟨[(cPrt c)], 15, 54, true⟩), ((n + 1), some ⟨[[(.int .i64 0), (.int .i64 0), (.bool false), (.int .u32 0), (.string ByteArray.empty)]], 5, 29, true⟩), (ja, some (oPrt (q ++ [c]))), (n1, some ⟨[(cPrt x)], 15, 54, true⟩), (n2, some ⟨[(cPrt z)], 15, 54, true⟩), (jr, some (oPrt (((q ++ [c]).take i).filter (keepP x z))))]) (by kernel_rfl)) (r_store rfl rfl rfl rfl rfl rfl rfl (gt3 (by omega) get_here) rfl rfl (Nat.le_of_ble_eq_true rfl) rfl) (by omega) (kp1 (wr_tight (by kernel_rfl) (by omega))) ?_
       refine PQ.pure (dst := (some 6)) (v := (.bool true)) rfl rfl rfl noStore (none_ok _ _) rfl ?_
       refine PQ.done (d := [((n + 1), some ⟨[(xRs710 c x d)], 5, 29, true⟩)]) (by kernel_rfl) ?_
       intro _
       refine RA.weaken (D' := [((n + 1), some ⟨[(xRs710 c x d)], 5, 29, true⟩), (n37, some ⟨[(xRs710 c x d)], 5, 29, true⟩), (n, some ⟨[(cPrt c)], 15, 54, true⟩), (ja, some (oPrt (q ++ [c]))), (n1, some ⟨[(cPrt x)], 15, 54, true⟩), (n2, some ⟨[(cPrt z)], 15, 54, true⟩), (jr, some (oPrt (((q ++ [c]).take i).filter (keepP x z))))]) hd (Less.of (fac (mm (fun _ => get_here) (fun _ => get_here)) (fac (mm (fun _ => (get_there (by omega) get_here)) (fun _ => (get_there (by omega) get_here))) (fac (mm (fun _ => (gt2 (by omega) get_here)) (fun _ => (gt3 (by omega) get_here))) (fac (mm (fun _ => (gt3 (by omega) get_here)) (fun _ => (gt5 (by omega) get_here))) (fac (mm (fun _ => (gt4 (by omega) get_here)) (fun _ => (gt6 (by omega) get_here))) (fac (mm (fun _ => (gt5 (by omega) get_here)) (fun _ => (gt7 (by omega) get_here))) (fac (mm (fun _ => (gt6 (by omega) get_here)) (fun _ => (gt8 (by omega) get_here))) fan))))))) (gone_of (by simp only [goneP, memP, List.cons_append, List.nil_append, true_or, or_true, true_and, and_true, or_false] <;> omega))) ?_
       refine RA.rebase [(3, (Pt n 0 0)), (4, (.slice (some ⟨jr, 0, none⟩) M 2)), (5, (.pointer (some ⟨(n + 1), 0, some 0⟩))), (6, (.bool true)), (7, (.slice (some ⟨ja, 0, none⟩) (K + 1) 2)), (8, (Pt n1 0 0)), (12, (Pt n2 0 0)), (13, (.string d)), (17, (.slice (some ⟨jr, 0, none⟩) M 2)), (18, (.int .i64 ((i : Nat) : Int))), (19, (Pt n37 0 0)), (114, (.bool false)), (152, (.bool false))] ⟨rfl, rfl, rfl, rfl, rfl, rfl, rfl, rfl, rfl, rfl, rfl, rfl, rfl, trivial⟩ (fun τr40 => ?_)
       refine RA.ret env_ok ?_
       refine ⟨.inr rfl, (xRs77 jr M c x d), (resL_cons rfl (resL_cons (res_cellA rfl rfl rfl get_here rfl rfl rfl) (resL_cons rfl resL_nil))), [(jr, some (oPrt (((q ++ [c]).take i).filter (keepP x z))))], (Less.of (fac (mm (fun _ => get_here) (fun _ => (gt6 (by omega) get_here))) fan) (gone_of (by simp only [goneP, memP, List.cons_append, List.nil_append, true_or, or_true, true_and, and_true, or_false] <;> omega))), ⟨jr, M, by omega, by omega, (by rw [← hz1, ← hxp, ← hm2, List.take_of_length_le (by rw [List.length_append, hq]; show K + 1 ≤ i; omega)]), by omega, by rw [← hxp, ← hz2, show mkM c x.proto d = _ from if_neg (by omega)] <;> rfl, by rw [← hz1, ← hxp, List.take_of_length_le (show (q ++ [c]).length ≤ i by rw [List.length_append, hq]; show K + 1 ≤ i; omega)]⟩⟩
   ·
    refine OA.p (some 71) (.bool false) rfl rfl rfl (Eq.trans (r_bin rfl rfl rfl (b_leq rfl)) (dF hc18)) ?_
    refine OA.p (some 72) (.bool false) rfl rfl rfl rfl ?_
    refine OA.off (dst := (some 73)) rfl rfl rfl ?_
    refine OA.off (dst := (some 74)) rfl rfl rfl ?_
    refine OA.off (dst := (some 75)) rfl rfl rfl ?_
    refine OA.off (dst := (some 76)) rfl rfl rfl ?_
    refine OA.p (some 77) (.bool false) rfl rfl rfl rfl ?_
    refine OA.nil ?_
    intro _
    refine RA.condF rfl ?_
    refine RA.exit env_ok ?_
    have hzs : refF (q ++ [c]) (K + 2 - k) z d = some (z, d) := refF_stop (.inl (by omega))
    have hzp := Option.some.inj (hzs.symm.trans hkF)
    have hz1 : z = pl := congrArg Prod.fst hzp
    have hz2 : d = dd := congrArg Prod.snd hzp
    intro _
    refine RA.seq hd ?_
    refine RA.region env_ok ?_
    refine OA.op1 (dst := (some 110)) (v := (.slice (some ⟨n28, 0, none⟩) 0 0)) (n1 := (n28 + 1)) (w := (n28, some (oPrt ([] : List Prt)))) rfl rfl rfl (by kernel_rfl) (by omega) ?_
    refine OA.p (some 17) (.slice (some ⟨n28, 0, none⟩) 0 0) rfl rfl rfl rfl ?_
    refine OA.nil ?_
    intro _
    refine RA.seq hd ?_
    refine RA.seq hd ?_
    refine RA.region env_ok ?_
    refine OA.p (some 18) (.int .i64 0) rfl rfl rfl rfl ?_
    refine OA.nil ?_
    intro _
    refine RA.block ?_
    refine RA.leT (t := 17) (v := (.slice (some ⟨n28, 0, none⟩) 0 0)) (v' := (.slice (some ⟨n28, 0, none⟩) 0 2)) rfl (vle_row _ _ _) ?_
    refine RA.weaken (D' := [(n, some ⟨[(cPrt c)], 15, 54, true⟩), ((n + 1), some ⟨[[(.int .i64 0), (.int .i64 0), (.bool false), (.int .u32 0), (.string ByteArray.empty)]], 5, 29, true⟩), (ja, some (oPrt (q ++ [c]))), (n1, some ⟨[(cPrt x)], 15, 54, true⟩), (n2, some ⟨[(cPrt z)], 15, 54, true⟩), (n28, some (oPrt ([] : List Prt)))]) hd (Less.of (fac (mm (fun _ => get_here) (fun _ => (get_there (by omega) get_here))) (fac (mm (fun _ => (get_there (by omega) get_here)) (fun _ => (gt2 (by omega) get_here))) (fac (mm (fun _ => (gt2 (by omega) get_here)) (fun _ => (gt3 (by omega) get_here))) (fac (mm (fun _ => (gt3 (by omega) get_here)) (fun _ => (gt4 (by omega) get_here))) (fac (mm (fun _ => (gt4 (by omega) get_here)) (fun _ => (gt5 (by omega) get_here))) (fac (mm (fun _ => (gt5 (by omega) get_here)) (fun _ => get_here)) fan)))))) (gone_of (by simp only [goneP, memP, List.cons_append, List.nil_append, true_or, or_true, true_and, and_true, or_false] <;> omega))) ?_
    refine RA.loop hd (fun kk_ τ n' D => (∃ i : Nat, ∃ jr : Nat, ∃ M : Nat, kk_ = K + 1 - i ∧ (n28 + 1) ≤ n' ∧ Has τ [(3, (Pt n 0 0)), (5, (.pointer (some ⟨(n + 1), 0, some 0⟩))), (7, (.slice (some ⟨ja, 0, none⟩) (K + 1) 2)), (8, (Pt n1 0 0)), (12, (Pt n2 0 0)), (13, (.string d)), (17, (.slice (some ⟨jr, 0, none⟩) M 2)), (18, (.int .i64 ((i : Nat) : Int)))] ∧ D = [(n, some ⟨[(cPrt c)], 15, 54, true⟩), ((n + 1), some ⟨[[(.int .i64 0), (.int .i64 0), (.bool false), (.int .u32 0), (.string ByteArray.empty)]], 5, 29, true⟩), (ja, some (oPrt (q ++ [c]))), (n1, some ⟨[(cPrt x)], 15, 54, true⟩), (n2, some ⟨[(cPrt z)], 15, 54, true⟩), (jr, some (oPrt (((q ++ [c]).take i).filter (keepP x z))))] ∧ (∀ i ∈ keys D, i < n') ∧ i ≤ K + 1 ∧ (((q ++ [c]).take i).filter (keepP x z)).length = M ∧ M ≤ i ∧ n2 < jr)) (K + 1 - 0) (⟨0, n28, 0, rfl, by omega, ⟨rfl, rfl, rfl, rfl, rfl, rfl, rfl, rfl, trivial⟩, (by rfl), (kb6 (by omega)), ⟨by omega, rfl, by omega, by omega⟩⟩) ?_
    rintro kn41 τ41 n41 _ ⟨i, jr, M, rfl, hn41, hHn41, rfl, hKn41, hIn41⟩
    rw [Has.eq hHn41]
    have hKn41_0 : n < n41 := hKn41 _ (by simp only [keys, List.map_cons, List.map_nil, List.mem_cons, true_or, or_true])
    have hKn41_1 : (n + 1) < n41 := hKn41 _ (by simp only [keys, List.map_cons, List.map_nil, List.mem_cons, true_or, or_true])
    have hKn41_2 : ja < n41 := hKn41 _ (by simp only [keys, List.map_cons, List.map_nil, List.mem_cons, true_or, or_true])
    have hKn41_3 : n1 < n41 := hKn41 _ (by simp only [keys, List.map_cons, List.map_nil, List.mem_cons, true_or, or_true])
    have hKn41_4 : n2 < n41 := hKn41 _ (by simp only [keys, List.map_cons, List.map_nil, List.mem_cons, true_or, or_true])
    have hKn41_5 : jr < n41 := hKn41 _ (by simp only [keys, List.map_cons, List.map_nil, List.mem_cons, true_or, or_true])
    clear hKn41
    obtain ⟨hm1, hm2, hm3, hm4⟩ := hIn41
    refine RA.seq hd ?_
    refine RA.seq hd ?_
    refine RA.region env_ok ?_
    refine OA.p (some 111) (.int .i64 ((i : Nat) : Int)) rfl rfl rfl rfl ?_
    refine OA.p (some 112) (.slice (some ⟨ja, 0, none⟩) (K + 1) 2) rfl rfl rfl rfl ?_
    refine OA.p (some 113) (.int .i64 (((K + 1) : Nat) : Int)) rfl rfl rfl rfl ?_
    by_cases hc26 : ((i : Nat) : Int) < (((K + 1) : Nat) : Int)
    ·
     refine OA.p (some 114) (.bool true) rfl rfl rfl (Eq.trans (r_bin rfl rfl rfl (b_lss rfl)) (dT hc26)) ?_
     refine OA.nil ?_
     intro _
     refine RA.condT rfl ?_
     refine RA.skip env_ok ?_
     intro _
     refine RA.seq hd ?_
     refine RA.block ?_
     refine RA.seq hd ?_
     refine RA.par (md := [some [], some [], some [ja], some [], some [ja], some [], some [n1], some [], some [], some [n2], some [], some [n1], some [], some []]) env_ok (hd.of (by omega) (kb6 (by omega))) (by kernel_rfl) ?_
     refine PQ.pure (dst := (some 117)) (v := (.slice (some ⟨ja, 0, none⟩) (K + 1) 2)) rfl rfl rfl noStore (none_ok _ _) rfl ?_
     refine PQ.pure (dst := (some 118)) (v := (.int .i64 ((i : Nat) : Int))) rfl rfl rfl noStore (none_ok _ _) rfl ?_
     refine PQ.pure (dst := (some 119)) (v := (Pt ja i 0)) rfl rfl rfl (app [(ja, some (oPrt (q ++ [c])))] noStore) (seen_one (V := []) (D := [(n, some ⟨[(cPrt c)], 15, 54, true⟩), ((n + 1), some ⟨[[(.int .i64 0), (.int .i64 0), (.bool false), (.int .u32 0), (.string ByteArray.empty)]], 5, 29, true⟩), (ja, some (oPrt (q ++ [c]))), (n1, some ⟨[(cPrt x)], 15, 54, true⟩), (n2, some ⟨[(cPrt z)], 15, 54, true⟩), (jr, some (oPrt (((q ++ [c]).take i).filter (keepP x z))))]) (by kernel_rfl) (gt2 (by omega) get_here)) (r_iaS (l := i) rfl rfl rfl rfl rfl rfl (by omega) (by omega) get_here rfl (by omega)) ?_
     refine PQ.pure (dst := (some 120)) (v := (Pt ja i 2)) rfl rfl rfl noStore (none_ok _ _) rfl ?_
     refine PQ.pure (dst := (some 121)) (v := (W ((q ++ [c]).getD i dPrt).tsn)) rfl rfl rfl (app [(ja, some (oPrt (q ++ [c])))] noStore) (seen_one (V := []) (D := [(n, some ⟨[(cPrt c)], 15, 54, true⟩), ((n + 1), some ⟨[[(.int .i64 0), (.int .i64 0), (.bool false), (.int .u32 0), (.string ByteArray.empty)]], 5, 29, true⟩), (ja, some (oPrt (q ++ [c]))), (n1, some ⟨[(cPrt x)], 15, 54, true⟩), (n2, some ⟨[(cPrt z)], 15, 54, true⟩), (jr, some (oPrt (((q ++ [c]).take i).filter (keepP x z))))]) (by kernel_rfl) (gt2 (by omega) get_here)) (r_loadF (c := cPrt) dPrt rfl rfl rfl rfl rfl get_here (by have := (show (q ++ [c]).length = K + 1 from by rw [List.length_append, hq]; rfl); omega) rfl) ?_
     refine PQ.pure (dst := (some 122)) (v := (Pt n1 0 2)) rfl rfl rfl noStore (none_ok _ _) rfl ?_
     refine PQ.pure (dst := (some 123)) (v := (W x.tsn)) rfl rfl rfl (app [(n1, some ⟨[(cPrt x)], 15, 54, true⟩)] noStore) (seen_one (V := []) (D := [(n, some ⟨[(cPrt c)], 15, 54, true⟩), ((n + 1), some ⟨[[(.int .i64 0), (.int .i64 0), (.bool false), (.int .u32 0), (.string ByteArray.empty)]], 5, 29, true⟩), (ja, some (oPrt (q ++ [c]))), (n1, some ⟨[(cPrt x)], 15, 54, true⟩), (n2, some ⟨[(cPrt z)], 15, 54, true⟩), (jr, some (oPrt (((q ++ [c]).take i).filter (keepP x z))))]) (by kernel_rfl) (gt3 (by omega) get_here)) (r_load1 rfl rfl rfl rfl rfl get_here rfl rfl) ?_
     refine PQ.pure (dst := (some 124)) (v := (W (((q ++ [c]).getD i dPrt).tsn - x.tsn))) rfl rfl rfl noStore (none_ok _ _) (r_bin rfl rfl rfl (b_subW ((q ++ [c]).getD i dPrt).tsn x.tsn)) ?_
     refine PQ.pure (dst := (some 125)) (v := (Pt n2 0 2)) rfl rfl rfl noStore (none_ok _ _) rfl ?_
     refine PQ.pure (dst := (some 126)) (v := (W z.tsn)) rfl rfl rfl (app [(n2, some ⟨[(cPrt z)], 15, 54, true⟩)] noStore) (seen_one (V := []) (D := [(n, some ⟨[(cPrt c)], 15, 54, true⟩), ((n + 1), some ⟨[[(.int .i64 0), (.int .i64 0), (.bool false), (.int .u32 0), (.string ByteArray.empty)]], 5, 29, true⟩), (ja, some (oPrt (q ++ [c]))), (n1, some ⟨[(cPrt x)], 15, 54, true⟩), (n2, some ⟨[(cPrt z)], 15, 54, true⟩), (jr, some (oPrt (((q ++ [c]).take i).filter (keepP x z))))]) (by kernel_rfl) (gt4 (by omega) get_here)) (r_load1 rfl rfl rfl rfl rfl get_here rfl rfl) ?_
     refine PQ.pure (dst := (some 127)) (v := (Pt n1 0 2)) rfl rfl rfl noStore (none_ok _ _) rfl ?_
     refine PQ.pure (dst := (some 128)) (v := (W x.tsn)) rfl rfl rfl (app [(n1, some ⟨[(cPrt x)], 15, 54, true⟩)] noStore) (seen_one (V := []) (D := [(n, some ⟨[(cPrt c)], 15, 54, true⟩), ((n + 1), some ⟨[[(.int .i64 0), (.int .i64 0), (.bool false), (.int .u32 0), (.string ByteArray.empty)]], 5, 29, true⟩), (ja, some (oPrt (q ++ [c]))), (n1, some ⟨[(cPrt x)], 15, 54, true⟩), (n2, some ⟨[(cPrt z)], 15, 54, true⟩), (jr, some (oPrt (((q ++ [c]).take i).filter (keepP x z))))]) (by kernel_rfl) (gt3 (by omega) get_here)) (r_load1 rfl rfl rfl rfl rfl get_here rfl rfl) ?_
     refine PQ.pure (dst := (some 129)) (v := (W (z.tsn - x.tsn))) rfl rfl rfl noStore (none_ok _ _) (r_bin rfl rfl rfl (b_subW z.tsn x.tsn)) ?_
     by_cases hc27 : ((z.tsn - x.tsn).toNat : Int) < ((((q ++ [c]).getD i dPrt).tsn - x.tsn).toNat : Int)
     ·
      refine PQ.pure (dst := (some 130)) (v := (.bool true)) rfl rfl rfl noStore (none_ok _ _) (Eq.trans (r_bin rfl rfl rfl (b_gtr rfl)) (dT hc27)) ?_
      refine PQ.done (d := []) (by kernel_rfl) ?_
      intro _
      refine RA.condT rfl ?_
      refine RA.region env_ok ?_
      refine OA.p (some 131) (.slice (some ⟨jr, 0, none⟩) M 2) rfl rfl rfl rfl ?_
      refine OA.p (some 132) (.slice (some ⟨ja, 0, none⟩) (K + 1) 2) rfl rfl rfl rfl ?_
      refine OA.p (some 133) (.int .i64 ((i : Nat) : Int)) rfl rfl rfl rfl ?_
      refine OA.p (some 134) (Pt ja i 0) rfl rfl rfl (r_iaS (l := i) rfl rfl rfl rfl rfl rfl (by omega) (by omega) (gt2 (by omega) get_here) rfl (by omega)) ?_
      refine OA.p (some 135) (.agg ⟨(cPrt ((q ++ [c]).getD i dPrt))⟩) rfl rfl rfl (r_loadR (c := cPrt) dPrt rfl rfl rfl rfl (gt2 (by omega) get_here) (by have := (show (q ++ [c]).length = K + 1 from by rw [List.length_append, hq]; rfl); omega) rfl) ?_
      refine OA.op1 (dst := (some 136)) (v := (.slice (some ⟨n41, 0, none⟩) 1 0)) (n1 := (n41 + 1)) (w := (n41, some ⟨[(xRs71 q c i)], 15, 54, true⟩)) rfl rfl rfl (by kernel_rfl) (by omega) ?_
      refine OA.op (dst := (some 137)) (v := (.slice (some ⟨(n41 + 1), 0, none⟩) (M + 1) 2)) (n1 := (n41 + 2)) (d1 := [((n41 + 1), some (oPrt ((((q ++ [c]).take i).filter (keepP x z)) ++ [((q ++ [c]).getD i dPrt)]))), (jr, none)]) (D' := [((n41 + 1), some (oPrt ((((q ++ [c]).take i).filter (keepP x z)) ++ [((q ++ [c]).getD i dPrt)]))), (jr, none), (n41, some ⟨[(xRs71 q c i)], 15, 54, true⟩), (n, some ⟨[(cPrt c)], 15, 54, true⟩), ((n + 1), some ⟨[[(.int .i64 0), (.int .i64 0), (.bool false), (.int .u32 0), (.string ByteArray.empty)]], 5, 29, true⟩), (ja, some (oPrt (q ++ [c]))), (n1, some ⟨[(cPrt x)], 15, 54, true⟩), (n2, some ⟨[(cPrt z)], 15, 54, true⟩), (jr, some (oPrt (((q ++ [c]).take i).filter (keepP x z))))]) rfl rfl rfl (r_append2x (c := cPrt) (x := ((q ++ [c]).getD i dPrt)) (l' := ((((q ++ [c]).take i).filter (keepP x z)) ++ [((q ++ [c]).getD i dPrt)])) rfl rfl rfl rfl rfl rfl rfl rfl rfl rfl (by decide) (gt6 (by omega) get_here) get_here (by rw [hm2]; omega) (by rw [take_all' (by rw [hm2])]) (by omega) (of_decide_eq_true (by kernel_rfl)) (by omega)) (by omega) rfl ?_
      refine OA.p (some 17) (.slice (some ⟨(n41 + 1), 0, none⟩) (M + 1) 2) rfl rfl rfl rfl ?_
      refine OA.nil ?_
      intro _
      refine RA.weaken (D' := [((n41 + 1), some (oPrt ((((q ++ [c]).take i).filter (keepP x z)) ++ [((q ++ [c]).getD i dPrt)]))), (jr, none), (n41, some ⟨[(xRs71 q c i)], 15, 54, true⟩), (n, some ⟨[(cPrt c)], 15, 54, true⟩), ((n + 1), some ⟨[[(.int .i64 0), (.int .i64 0), (.bool false), (.int .u32 0), (.string ByteArray.empty)]], 5, 29, true⟩), (ja, some (oPrt (q ++ [c]))), (n1, some ⟨[(cPrt x)], 15, 54, true⟩), (n2, some ⟨[(cPrt z)], 15, 54, true⟩)]) hd (Less.of (fac (mm (fun _ => get_here) (fun _ => get_here)) (fac (mm (fun _ => (get_there (by omega) get_here)) (fun _ => (get_there (by omega) get_here))) (fac (mm (fun _ => (gt2 (by omega) get_here)) (fun _ => (gt2 (by omega) get_here))) (fac (mm (fun _ => (gt3 (by omega) get_here)) (fun _ => (gt3 (by omega) get_here))) (fac (mm (fun _ => (gt4 (by omega) get_here)) (fun _ => (gt4 (by omega) get_here))) (fac (mm (fun _ => (gt5 (by omega) get_here)) (fun _ => (gt5 (by omega) get_here))) (fac (mm (fun _ => (gt6 (by omega) get_here)) (fun _ => (gt6 (by omega) get_here))) (fac (mm (fun _ => (gt7 (by omega) get_here)) (fun _ => (gt7 (by omega) get_here))) fan)))))))) (gone_of (by simp only [goneP, memP, List.cons_append, List.nil_append, true_or, or_true, true_and, and_true, or_false] <;> omega))) ?_
      refine RA.rebase [(3, (Pt n 0 0)), (5, (.pointer (some ⟨(n + 1), 0, some 0⟩))), (7, (.slice (some ⟨ja, 0, none⟩) (K + 1) 2)), (8, (Pt n1 0 0)), (12, (Pt n2 0 0)), (13, (.string d)), (17, (.slice (some ⟨(n41 + 1), 0, none⟩) (M + 1) 2)), (18, (.int .i64 ((i : Nat) : Int))), (114, (.bool true)), (130, (.bool true))] ⟨rfl, rfl, rfl, rfl, rfl, rfl, rfl, rfl, rfl, rfl, trivial⟩ (fun τr42 => ?_)
      refine RA.region env_ok ?_
      refine OA.p (some 115) (.int .i64 ((i : Nat) : Int)) rfl rfl rfl rfl ?_
      refine OA.p (some 116) (.int .i64 (((i + 1) : Nat) : Int)) rfl rfl rfl (r_bin rfl rfl rfl (b_add (i64_eq (by omega)))) ?_
      refine OA.p (some 18) (.int .i64 (((i + 1) : Nat) : Int)) rfl rfl rfl rfl ?_
      refine OA.nil ?_
      refine ⟨K + 1 - (i + 1), by omega, [(n, some ⟨[(cPrt c)], 15, 54, true⟩), ((n + 1), some ⟨[[(.int .i64 0), (.int .i64 0), (.bool false), (.int .u32 0), (.string ByteArray.empty)]], 5, 29, true⟩), (ja, some (oPrt (q ++ [c]))), (n1, some ⟨[(cPrt x)], 15, 54, true⟩), (n2, some ⟨[(cPrt z)], 15, 54, true⟩), ((n41 + 1), some (oPrt ((((q ++ [c]).take i).filter (keepP x z)) ++ [((q ++ [c]).getD i dPrt)])))], (Less.of (fac (mm (fun _ => get_here) (fun _ => (gt3 (by omega) get_here))) (fac (mm (fun _ => (get_there (by omega) get_here)) (fun _ => (gt4 (by omega) get_here))) (fac (mm (fun _ => (gt2 (by omega) get_here)) (fun _ => (gt5 (by omega) get_here))) (fac (mm (fun _ => (gt3 (by omega) get_here)) (fun _ => (gt6 (by omega) get_here))) (fac (mm (fun _ => (gt4 (by omega) get_here)) (fun _ => (gt7 (by omega) get_here))) (fac (mm (fun _ => (gt5 (by omega) get_here)) (fun _ => get_here)) fan)))))) (gone_of (by simp only [goneP, memP, List.cons_append, List.nil_append, true_or, or_true, true_and, and_true, or_false] <;> omega))), ⟨(i + 1), (n41 + 1), (M + 1), rfl, by omega, ⟨rfl, rfl, rfl, rfl, rfl, rfl, rfl, rfl, trivial⟩, (by rw [flt_yes (by rw [List.length_append, hq]; show i < K + 1; omega) (decide_eq_true (by omega))]), (kb6 (by omega)), ⟨by omega, by rw [flt_yes (by rw [List.length_append, hq]; show i < K + 1; omega) (decide_eq_true (by omega))]; rw [List.length_append, List.length_singleton, hm2], by omega, by omega⟩⟩⟩
     ·
      refine PQ.pure (dst := (some 130)) (v := (.bool false)) rfl rfl rfl noStore (none_ok _ _) (Eq.trans (r_bin rfl rfl rfl (b_gtr rfl)) (dF hc27)) ?_
      refine PQ.done (d := []) (by kernel_rfl) ?_
      intro _
      refine RA.condF rfl ?_
      refine RA.skip env_ok ?_
      intro _
      refine RA.region env_ok ?_
      refine OA.p (some 115) (.int .i64 ((i : Nat) : Int)) rfl rfl rfl rfl ?_
      refine OA.p (some 116) (.int .i64 (((i + 1) : Nat) : Int)) rfl rfl rfl (r_bin rfl rfl rfl (b_add (i64_eq (by omega)))) ?_
      refine OA.p (some 18) (.int .i64 (((i + 1) : Nat) : Int)) rfl rfl rfl rfl ?_
      refine OA.nil ?_
      refine ⟨K + 1 - (i + 1), by omega, [(n, some ⟨[(cPrt c)], 15, 54, true⟩), ((n + 1), some ⟨[[(.int .i64 0), (.int .i64 0), (.bool false), (.int .u32 0), (.string ByteArray.empty)]], 5, 29, true⟩), (ja, some (oPrt (q ++ [c]))), (n1, some ⟨[(cPrt x)], 15, 54, true⟩), (n2, some ⟨[(cPrt z)], 15, 54, true⟩), (jr, some (oPrt (((q ++ [c]).take i).filter (keepP x z))))], (Less.refl _ _ _), ⟨(i + 1), jr, M, rfl, by omega, ⟨rfl, rfl, rfl, rfl, rfl, rfl, rfl, rfl, trivial⟩, (by rw [flt_no (by rw [List.length_append, hq]; show i < K + 1; omega) (fun hh => hc27 (by have := of_decide_eq_true hh; omega))]), (kb6 (by omega)), ⟨by omega, by rw [flt_no (by rw [List.length_append, hq]; show i < K + 1; omega) (fun hh => hc27 (by have := of_decide_eq_true hh; omega))]; exact hm2, by omega, by omega⟩⟩⟩
    ·
     refine OA.p (some 114) (.bool false) rfl rfl rfl (Eq.trans (r_bin rfl rfl rfl (b_lss rfl)) (dF hc26)) ?_
     refine OA.nil ?_
     intro _
     refine RA.condF rfl ?_
     refine RA.exit env_ok ?_
     intro _
     refine RA.seq hd ?_
     refine RA.region env_ok ?_
     refine OA.p (some 138) (Pt n 0 3) rfl rfl rfl rfl ?_
     refine OA.p (some 139) (.int .i64 ((c.st : Nat) : Int)) rfl rfl rfl (r_load1 rfl rfl rfl rfl rfl get_here rfl rfl) ?_
     refine OA.p (some 140) (Pt n 0 4) rfl rfl rfl rfl ?_
     refine OA.p (some 141) (.int .i64 ((c.ssn : Nat) : Int)) rfl rfl rfl (r_load1 rfl rfl rfl rfl rfl get_here rfl rfl) ?_
     refine OA.p (some 142) (Pt n 0 1) rfl rfl rfl rfl ?_
     refine OA.p (some 143) (.int .i64 ((c.fl.val : Nat) : Int)) rfl rfl rfl (r_load1 rfl rfl rfl rfl rfl get_here rfl rfl) ?_
     refine OA.p (some 144) (.int .i64 (((c.fl.val / 4) : Nat) : Int)) rfl rfl rfl (r_bin rfl rfl rfl (b_quoN (a := c.fl.val) (c := 4) (by decide) (i64_eq (by omega)))) ?_
     refine OA.p (some 145) (.int .i64 ((((c.fl.val / 4) % 2) : Nat) : Int)) rfl rfl rfl (r_bin rfl rfl rfl (b_remN (a := (c.fl.val / 4)) (c := 2) (by decide))) ?_
     by_cases hc28 : ((((c.fl.val / 4) % 2) : Nat) : Int) = 1
     ·
      refine OA.p (some 146) (.bool true) rfl rfl rfl (Eq.trans (r_bin rfl rfl rfl (b_eql rfl)) (dT hc28)) ?_
      refine OA.p (some 147) (Pt n1 0 5) rfl rfl rfl rfl ?_
      refine OA.p (some 148) (W x.proto) rfl rfl rfl (r_load1 rfl rfl rfl rfl rfl (gt3 (by omega) get_here) rfl rfl) ?_
      refine OA.p (some 149) (.string d) rfl rfl rfl rfl ?_
      refine OA.p (some 150) (.agg ⟨(xRs711 c x d)⟩) rfl rfl rfl (by kernel_rfl) ?_
      refine OA.op1 (dst := (some 19)) (v := (Pt n41 0 0)) (n1 := (n41 + 1)) (w := (n41, some ⟨[[(.int .i64 0), (.int .i64 0), (.bool false), (.int .u32 0), (.string ByteArray.empty)]], 5, 29, true⟩)) rfl rfl rfl rfl (by omega) ?_
      refine OA.op1 (dst := none) (v := (.tuple #[])) (n1 := (n41 + 1)) (w := (n41, some ⟨[(xRs711 c x d)], 5, 29, true⟩)) rfl rfl rfl (r_store rfl rfl rfl rfl rfl rfl rfl get_here rfl rfl (Nat.le_of_ble_eq_true rfl) rfl) (by omega) ?_
      refine OA.nil ?_
      intro _
      refine RA.seq hd ?_
      refine RA.seq hd ?_
      refine RA.region env_ok ?_
      refine OA.p (some 151) (Pt n41 0 2) rfl rfl rfl rfl ?_
      refine OA.p (some 152) (.bool true) rfl rfl rfl (r_load1 rfl rfl rfl rfl rfl get_here rfl rfl) ?_
      refine OA.nil ?_
      intro _
      refine RA.condT rfl ?_
      refine RA.region env_ok ?_
      refine OA.p (some 153) (Pt n41 0 1) rfl rfl rfl rfl ?_
      refine OA.op1 (dst := none) (v := (.tuple #[])) (n1 := (n41 + 1)) (w := (n41, some ⟨[[(.int .i64 ((c.st : Nat) : Int)), (.int .i64 0), (.bool true), (W x.proto), (.string d)]], 5, 29, true⟩)) rfl rfl rfl (r_store rfl rfl rfl rfl rfl rfl rfl get_here rfl rfl (Nat.le_of_ble_eq_true rfl) rfl) (by omega) ?_
      refine OA.nil ?_
      intro _
      refine RA.weaken (D' := [(n41, some ⟨[[(.int .i64 ((c.st : Nat) : Int)), (.int .i64 0), (.bool true), (W x.proto), (.string d)]], 5, 29, true⟩), (n, some ⟨[(cPrt c)], 15, 54, true⟩), ((n + 1), some ⟨[[(.int .i64 0), (.int .i64 0), (.bool false), (.int .u32 0), (.string ByteArray.empty)]], 5, 29, true⟩), (ja, some (oPrt (q ++ [c]))), (n1, some ⟨[(cPrt x)], 15, 54, true⟩), (n2, some ⟨[(cPrt z)], 15, 54, true⟩), (jr, some (oPrt (((q ++ [c]).take i).filter (keepP x z))))]) hd (Less.of (fac (mm (fun _ => get_here) (fun _ => get_here)) (fac (mm (fun _ => (get_there (by omega) get_here)) (fun _ => (gt3 (by omega) get_here))) (fac (mm (fun _ => (gt2 (by omega) get_here)) (fun _ => (gt4 (by omega) get_here))) (fac (mm (fun _ => (gt3 (by omega) get_here)) (fun _ => (gt5 (by omega) get_here))) (fac (mm (fun _ => (gt4 (by omega) get_here)) (fun _ => (gt6 (by omega) get_here))) (fac (mm (fun _ => (gt5 (by omega) get_here)) (fun _ => (gt7 (by omega) get_here))) (fac (mm (fun _ => (gt6 (by omega) get_here)) (fun _ => (gt8 (by omega) get_here))) fan))))))) (gone_of (by simp only [goneP, memP, List.cons_append, List.nil_append, true_or, or_true, true_and, and_true, or_false] <;> omega))) ?_
      refine RA.seq hd ?_
      refine RA.par (md := [some [], some [n41], some [], none, some []]) env_ok (hd.of (by omega) (kb7 (by omega))) (by kernel_rfl) ?_
      refine PQ.pure (dst := (some 154)) (v := (.slice (some ⟨jr, 0, none⟩) M 2)) rfl rfl rfl noStore (none_ok _ _) rfl ?_
      refine PQ.pure (dst := (some 155)) (v := (.agg ⟨[(.int .i64 ((c.st : Nat) : Int)), (.int .i64 0), (.bool true), (W x.proto), (.string d)]⟩)) rfl rfl rfl (app [(n41, some ⟨[[(.int .i64 ((c.st : Nat) : Int)), (.int .i64 0), (.bool true), (W x.proto), (.string d)]], 5, 29, true⟩)] noStore) (seen_one (V := []) (D := [(n41, some ⟨[[(.int .i64 ((c.st : Nat) : Int)), (.int .i64 0), (.bool true), (W x.proto), (.string d)]], 5, 29, true⟩), (n, some ⟨[(cPrt c)], 15, 54, true⟩), ((n + 1), some ⟨[[(.int .i64 0), (.int .i64 0), (.bool false), (.int .u32 0), (.string ByteArray.empty)]], 5, 29, true⟩), (ja, some (oPrt (q ++ [c]))), (n1, some ⟨[(cPrt x)], 15, 54, true⟩), (n2, some ⟨[(cPrt z)], 15, 54, true⟩), (jr, some (oPrt (((q ++ [c]).take i).filter (keepP x z))))]) (by kernel_rfl) get_here) (r_loadA rfl rfl rfl rfl get_here rfl rfl rfl) ?_
      refine PQ.pure (dst := (some 4)) (v := (.slice (some ⟨jr, 0, none⟩) M 2)) rfl rfl rfl noStore (none_ok _ _) rfl ?_
      refine PQ.op (dst := none) (v := (.tuple #[])) (n1 := (n41 + 1)) (d1 := [((n + 1), some ⟨[[(.int .i64 ((c.st : Nat) : Int)), (.int .i64 0), (.bool true), (W x.proto), (.string d)]], 5, 29, true⟩)]) rfl rfl rfl _ (seen_any (V := []) (D := [(n41, some ⟨[[(.int .i64 ((c.st : Nat) : Int)), (.int .i64 0), (.bool true), (W x.proto), (.string d)]], 5, 29, true⟩), (n, some ⟨[(cPrt c)], 15, 54, true⟩), ((n + 1), some ⟨[[(.int .i64 0), (.int .i64 0), (.bool false), (.int .u32 0), (.string ByteArray.empty)]], 5, 29, true⟩), (ja, some (oPrt (q ++ [c]))), (n1, some ⟨[(cPrt x)], 15, 54, true⟩), (n2, some ⟨[(cPrt z)], 15, 54, true⟩), (jr, some (oPrt (((q ++ [c]).take i).filter (keepP x z))))]) (by kernel_rfl)) (r_store rfl rfl rfl rfl rfl rfl rfl (gt2 (by omega) get_here) rfl rfl (Nat.le_of_ble_eq_true rfl) rfl) (by omega) (kp1 (wr_tight (by kernel_rfl) (by omega))) ?_
      refine PQ.pure (dst := (some 6)) (v := (.bool true)) rfl rfl rfl noStore (none_ok _ _) rfl ?_
      refine PQ.done (d := [((n + 1), some ⟨[[(.int .i64 ((c.st : Nat) : Int)), (.int .i64 0), (.bool true), (W x.proto), (.string d)]], 5, 29, true⟩)]) (by kernel_rfl) ?_
      intro _
      refine RA.rebase [(3, (Pt n 0 0)), (4, (.slice (some ⟨jr, 0, none⟩) M 2)), (5, (.pointer (some ⟨(n + 1), 0, some 0⟩))), (6, (.bool true)), (7, (.slice (some ⟨ja, 0, none⟩) (K + 1) 2)), (8, (Pt n1 0 0)), (12, (Pt n2 0 0)), (13, (.string d)), (17, (.slice (some ⟨jr, 0, none⟩) M 2)), (18, (.int .i64 ((i : Nat) : Int))), (19, (Pt n41 0 0)), (114, (.bool false)), (152, (.bool true))] ⟨rfl, rfl, rfl, rfl, rfl, rfl, rfl, rfl, rfl, rfl, rfl, rfl, rfl, trivial⟩ (fun τr43 => ?_)
      refine RA.ret env_ok ?_
      refine ⟨.inr rfl, (xRs79 jr M c x d), (resL_cons rfl (resL_cons (res_cellA rfl rfl rfl get_here rfl rfl rfl) (resL_cons rfl resL_nil))), [(jr, some (oPrt (((q ++ [c]).take i).filter (keepP x z))))], (Less.of (fac (mm (fun _ => get_here) (fun _ => (gt7 (by omega) get_here))) fan) (gone_of (by simp only [goneP, memP, List.cons_append, List.nil_append, true_or, or_true, true_and, and_true, or_false] <;> omega))), ⟨jr, M, by omega, by omega, (by rw [← hz1, ← hxp, ← hm2, List.take_of_length_le (by rw [List.length_append, hq]; show K + 1 ≤ i; omega)]), by omega, by rw [← hxp, ← hz2, show mkM c x.proto d = _ from if_pos (by omega)] <;> rfl, by rw [← hz1, ← hxp, List.take_of_length_le (show (q ++ [c]).length ≤ i by rw [List.length_append, hq]; show K + 1 ≤ i; omega)]⟩⟩
     ·
      refine OA.p (some 146) (.bool false) rfl rfl rfl (Eq.trans (r_bin rfl rfl rfl (b_eql rfl)) (dF hc28)) ?_
      refine OA.p (some 147) (Pt n1 0 5) rfl rfl rfl rfl ?_
      refine OA.p (some 148) (W x.proto) rfl rfl rfl (r_load1 rfl rfl rfl rfl rfl (gt3 (by omega) get_here) rfl rfl) ?_
      refine OA.p (some 149) (.string d) rfl rfl rfl rfl ?_
      refine OA.p (some 150) (.agg ⟨(xRs710 c x d)⟩) rfl rfl rfl (by kernel_rfl) ?_
      refine OA.op1 (dst := (some 19)) (v := (Pt n41 0 0)) (n1 := (n41 + 1)) (w := (n41, some ⟨[[(.int .i64 0), (.int .i64 0), (.bool false), (.int .u32 0), (.string ByteArray.empty)]], 5, 29, true⟩)) rfl rfl rfl rfl (by omega) ?_
      refine OA.op1 (dst := none) (v := (.tuple #[])) (n1 := (n41 + 1)) (w := (n41, some ⟨[(xRs710 c x d)], 5, 29, true⟩)) rfl rfl rfl (r_store rfl rfl rfl rfl rfl rfl rfl get_here rfl rfl (Nat.le_of_ble_eq_true rfl) rfl) (by omega) ?_
      refine OA.nil ?_
      intro _
      refine RA.seq hd ?_
      refine RA.seq hd ?_
      refine RA.region env_ok ?_
      refine OA.p (some 151) (Pt n41 0 2) rfl rfl rfl rfl ?_
      refine OA.p (some 152) (.bool false) rfl rfl rfl (r_load1 rfl rfl rfl rfl rfl get_here rfl rfl) ?_
      refine OA.nil ?_
      intro _
      refine RA.condF rfl ?_
      refine RA.skip env_ok ?_
      intro _
      refine RA.seq hd ?_
      refine RA.par (md := [some [], some [n41], some [], none, some []]) env_ok (hd.of (by omega) (kb8 (by omega))) (by kernel_rfl) ?_
      refine PQ.pure (dst := (some 154)) (v := (.slice (some ⟨jr, 0, none⟩) M 2)) rfl rfl rfl noStore (none_ok _ _) rfl ?_
      refine PQ.pure (dst := (some 155)) (v := (.agg ⟨(xRs710 c x d)⟩)) rfl rfl rfl (app [(n41, some ⟨[(xRs710 c x d)], 5, 29, true⟩)] noStore) (seen_one (V := []) (D := [(n41, some ⟨[(xRs710 c x d)], 5, 29, true⟩), (n41, some ⟨[[(.int .i64 0), (.int .i64 0), (.bool false), (.int .u32 0), (.string ByteArray.empty)]], 5, 29, true⟩), (n, some ⟨[(cPrt c)], 15, 54, true⟩), ((n + 1), some ⟨[[(.int .i64 0), (.int .i64 0), (.bool false), (.int .u32 0), (.string ByteArray.empty)]], 5, 29, true⟩), (ja, some (oPrt (q ++ [c]))), (n1, some ⟨[(cPrt x)], 15, 54, true⟩), (n2, some ⟨[(cPrt z)], 15, 54, true⟩), (jr, some (oPrt (((q ++ [c]).take i).filter (keepP x z))))]) (by kernel_rfl) get_here) (r_loadA rfl rfl rfl rfl get_here rfl rfl rfl) ?_
      refine PQ.pure (dst := (some 4)) (v := (.slice (some ⟨jr, 0, none⟩) M 2)) rfl rfl rfl noStore (none_ok _ _) rfl ?_
      refine PQ.op (dst := none) (v := (.tuple #[])) (n1 := (n41 + 1)) (d1 := [((n + 1), some ⟨[(xRs710 c x d)], 5, 29, true⟩)]) rfl rfl rfl _ (seen_any (V := []) (D := [(n41, some ⟨[(xRs710 c x d)], 5, 29, true⟩), (n41, some ⟨[[(.int .i64 0), (.int .i64 0), (.bool false), (.int .u32 0), (.string ByteArray.empty)]], 5, 29, true⟩), (n, some ⟨[(cPrt c)], 15, 54, true⟩), ((n + 1), some ⟨[[(.int .i64 0), (.int .i64 0), (.bool false), (.int .u32 0), (.string ByteArray.empty)]], 5, 29, true⟩), (ja, some (oPrt (q ++ [c]))), (n1, some ⟨[(cPrt x)], 15, 54, true⟩), (n2, some ⟨[(cPrt z)], 15, 54, true⟩), (jr, some (oPrt (((q ++ [c]).take i).filter (keepP x z))))]) (by kernel_rfl)) (r_store rfl rfl rfl rfl rfl rfl rfl (gt3 (by omega) get_here) rfl rfl (Nat.le_of_ble_eq_true rfl) rfl) (by omega) (kp1 (wr_tight (by kernel_rfl) (by omega))) ?_
      refine PQ.pure (dst := (some 6)) (v := (.bool true)) rfl rfl rfl noStore (none_ok _ _) rfl ?_
      refine PQ.done (d := [((n + 1), some ⟨[(xRs710 c x d)], 5, 29, true⟩)]) (by kernel_rfl) ?_
      intro _
      refine RA.weaken (D' := [((n + 1), some ⟨[(xRs710 c x d)], 5, 29, true⟩), (n41, some ⟨[(xRs710 c x d)], 5, 29, true⟩), (n, some ⟨[(cPrt c)], 15, 54, true⟩), (ja, some (oPrt (q ++ [c]))), (n1, some ⟨[(cPrt x)], 15, 54, true⟩), (n2, some ⟨[(cPrt z)], 15, 54, true⟩), (jr, some (oPrt (((q ++ [c]).take i).filter (keepP x z))))]) hd (Less.of (fac (mm (fun _ => get_here) (fun _ => get_here)) (fac (mm (fun _ => (get_there (by omega) get_here)) (fun _ => (get_there (by omega) get_here))) (fac (mm (fun _ => (gt2 (by omega) get_here)) (fun _ => (gt3 (by omega) get_here))) (fac (mm (fun _ => (gt3 (by omega) get_here)) (fun _ => (gt5 (by omega) get_here))) (fac (mm (fun _ => (gt4 (by omega) get_here)) (fun _ => (gt6 (by omega) get_here))) (fac (mm (fun _ => (gt5 (by omega) get_here)) (fun _ => (gt7 (by omega) get_here))) (fac (mm (fun _ => (gt6 (by omega) get_here)) (fun _ => (gt8 (by omega) get_here))) fan))))))) (gone_of (by simp only [goneP, memP, List.cons_append, List.nil_append, true_or, or_true, true_and, and_true, or_false] <;> omega))) ?_
      refine RA.rebase [(3, (Pt n 0 0)), (4, (.slice (some ⟨jr, 0, none⟩) M 2)), (5, (.pointer (some ⟨(n + 1), 0, some 0⟩))), (6, (.bool true)), (7, (.slice (some ⟨ja, 0, none⟩) (K + 1) 2)), (8, (Pt n1 0 0)), (12, (Pt n2 0 0)), (13, (.string d)), (17, (.slice (some ⟨jr, 0, none⟩) M 2)), (18, (.int .i64 ((i : Nat) : Int))), (19, (Pt n41 0 0)), (114, (.bool false)), (152, (.bool false))] ⟨rfl, rfl, rfl, rfl, rfl, rfl, rfl, rfl, rfl, rfl, rfl, rfl, rfl, trivial⟩ (fun τr44 => ?_)
      refine RA.ret env_ok ?_
      refine ⟨.inr rfl, (xRs77 jr M c x d), (resL_cons rfl (resL_cons (res_cellA rfl rfl rfl get_here rfl rfl rfl) (resL_cons rfl resL_nil))), [(jr, some (oPrt (((q ++ [c]).take i).filter (keepP x z))))], (Less.of (fac (mm (fun _ => get_here) (fun _ => (gt6 (by omega) get_here))) fan) (gone_of (by simp only [goneP, memP, List.cons_append, List.nil_append, true_or, or_true, true_and, and_true, or_false] <;> omega))), ⟨jr, M, by omega, by omega, (by rw [← hz1, ← hxp, ← hm2, List.take_of_length_le (by rw [List.length_append, hq]; show K + 1 ≤ i; omega)]), by omega, by rw [← hxp, ← hz2, show mkM c x.proto d = _ from if_neg (by omega)] <;> rfl, by rw [← hz1, ← hxp, List.take_of_length_le (show (q ++ [c]).length ≤ i by rw [List.length_append, hq]; show K + 1 ≤ i; omega)]⟩⟩
end Go.Proofs.Ytmepflkodjdgdaa.Vt
