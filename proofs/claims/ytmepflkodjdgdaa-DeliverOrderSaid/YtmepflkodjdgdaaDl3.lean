/- Dl3: walks through functions of the program, by the calculus; written by a program of this workplace. -/
import Derived.Test.YtmepflkodjdgdaaDl2
import Derived.Test.YtmepflkodjdgdaaVm5
namespace Go.Proofs.Ytmepflkodjdgdaa.Vt
open Go Go.Proofs Go.Proofs.YtmepflkodjdgdaaV
set_option maxRecDepth 100000
set_option linter.unusedVariables false
set_option linter.unusedSimpArgs false
abbrev xDl31 (L2 : List Msg) (off : Nat) : List Value := [(.int .i64 (L2.getD (off + 0) dMsg).st), (.int .i64 (L2.getD (off + 0) dMsg).ssn), (.bool (L2.getD (off + 0) dMsg).loose), (W (L2.getD (off + 0) dMsg).proto), (.string (L2.getD (off + 0) dMsg).data)]
abbrev xDl32 (jw : Nat) (K : Nat) (n : Nat) : List Value := [(.slice (some ⟨jw, 0, none⟩) K 0), (.func (.func 58) ⟨[]⟩ ⟨[(.pointer (some ⟨n, 0, some 0⟩)), (.pointer (some ⟨(n + 1), 0, some 0⟩))]⟩)]
abbrev xDl33 (jn : Nat) (NX : Nat) (n3 : Nat) (R : Nat × List Msg × List Msg) (jo2 : Nat) (M2 : Nat) : List Value := [(.slice (some ⟨jn, 0, none⟩) NX 0), (.slice (some ⟨(n3 + 1), 0, none⟩) R.2.1.length 0), (.slice (some ⟨jo2, 0, none⟩) M2 0)]
abbrev xDl34 (n : Nat) : List Value := [(.slice none 0 0), (.func (.func 58) ⟨[]⟩ ⟨[(.pointer (some ⟨n, 0, some 0⟩)), (.pointer (some ⟨(n + 1), 0, some 0⟩))]⟩)]
abbrev xDl35 (jn : Nat) (NX : Nat) (n3 : Nat) (K : Nat) (jo : Nat) (off : Nat) (M : Nat) : List Value := [(.slice (some ⟨jn, 0, none⟩) NX 0), (.slice (some ⟨(n3 + 1), 0, none⟩) (K + 1) 0), (.slice (some ⟨jo, off, none⟩) M 0)]
abbrev xDl36 (jn : Nat) (NX : Nat) (n3 : Nat) (jo : Nat) (off : Nat) (M : Nat) : List Value := [(.slice (some ⟨jn, 0, none⟩) NX 0), (.slice (some ⟨(n3 + 1), 0, none⟩) 1 0), (.slice (some ⟨jo, off, none⟩) M 0)]
abbrev xDl37 (jn : Nat) (NX : Nat) (jw : Nat) (K : Nat) (jo : Nat) (off : Nat) (M : Nat) : List Value := [(.slice (some ⟨jn, 0, none⟩) NX 0), (.slice (some ⟨jw, 0, none⟩) K 0), (.slice (some ⟨jo, off, none⟩) M 0)]
abbrev xDl38 (jn : Nat) (NX : Nat) (n3 : Nat) (K : Nat) : List Value := [(.slice (some ⟨jn, 0, none⟩) NX 0), (.slice (some ⟨(n3 + 1), 0, none⟩) (K + 1) 0), (.slice none 0 0)]
abbrev xDl39 (jn : Nat) (NX : Nat) (n3 : Nat) : List Value := [(.slice (some ⟨jn, 0, none⟩) NX 0), (.slice (some ⟨(n3 + 1), 0, none⟩) 1 0), (.slice none 0 0)]
abbrev xDl310 (jn : Nat) (NX : Nat) (jo : Nat) (off : Nat) (M : Nat) : List Value := [(.slice (some ⟨jn, 0, none⟩) NX 0), (.slice none 0 0), (.slice (some ⟨jo, off, none⟩) M 0)]
abbrev xDl311 (jn : Nat) (NX : Nat) (jw : Nat) (K : Nat) : List Value := [(.slice (some ⟨jn, 0, none⟩) NX 0), (.slice (some ⟨jw, 0, none⟩) K 0), (.slice none 0 0)]
theorem dIdx0 {σ : Store} (bm bn : Nat)   : PS Try.prog noDen 88 [(.slice none 0 0), (.func (.func 58) ⟨[]⟩ ⟨[(Pt bm 0 0), (Pt bn 0 0)]⟩)] σ (.int .i64 (-1)) := by
 refine PS.body (E := env) env_ok rfl rfl (by show _ ≤ _; exact of_decide_eq_true (by kernel_rfl)) (fun n hd => ?_)
 refine RA.seq hd ?_
 refine RA.region env_ok ?_
 refine OA.p (some 4) (.int .i64 0) rfl rfl rfl rfl ?_
 refine OA.nil ?_
 intro _
 refine RA.seq hd ?_
 refine RA.seq hd ?_
 refine RA.region env_ok ?_
 refine OA.p (some 6) (.slice none 0 0) rfl rfl rfl rfl ?_
 refine OA.p (some 7) (.int .i64 0) rfl rfl rfl rfl ?_
 refine OA.p (some 8) (.int .i64 0) rfl rfl rfl rfl ?_
 refine OA.nil ?_
 intro _
 refine RA.block ?_
 refine RA.unroll hd ?_
 refine RA.seq hd ?_
 refine RA.region env_ok ?_
 refine OA.p (some 9) (.bool false) rfl rfl rfl (r_bin rfl rfl rfl (b_lss rfl)) ?_
 refine OA.nil ?_
 intro _
 refine RA.seq hd ?_
 refine RA.condF rfl ?_
 refine RA.exit env_ok ?_
 intro _
 refine RA.seq hd ?_
 refine RA.region env_ok ?_
 refine OA.p (some 4) (.int .i64 (-1)) rfl rfl rfl rfl ?_
 refine OA.nil ?_
 intro _
 refine RA.ret env_ok ?_
 refine ⟨.inr rfl, [(.int .i64 (-1))], (resL_cons rfl resL_nil), rfl, (fun i hi => by cases hi)⟩

theorem dCont0 {σ : Store} (bm bn : Nat)   : PS Try.prog noDen 57 [(.slice none 0 0), (.func (.func 58) ⟨[]⟩ ⟨[(Pt bm 0 0), (Pt bn 0 0)]⟩)] σ (.bool false) := by
 refine PS.body (E := env) env_ok rfl rfl (by show _ ≤ _; exact of_decide_eq_true (by kernel_rfl)) (fun n hd => ?_)
 refine RA.seq hd ?_
 refine RA.region env_ok ?_
 refine OA.p (some 4) (.bool false) rfl rfl rfl rfl ?_
 refine OA.nil ?_
 intro _
 refine RA.seq hd ?_
 refine RA.region env_ok ?_
 refine OA.p (some 5) (.slice none 0 0) rfl rfl rfl rfl ?_
 refine OA.p (some 6) (.func (.func 58) ⟨[]⟩ ⟨[(Pt bm 0 0), (Pt bn 0 0)]⟩) rfl rfl rfl rfl ?_
 refine OA.callP (dst := (some 7)) (all := [(.slice none 0 0), (.func (.func 58) ⟨[]⟩ ⟨[(Pt bm 0 0), (Pt bn 0 0)]⟩)]) (v := (.int .i64 (-1))) (hd.up (by omega)) rfl rfl rfl rfl rfl rfl rfl rfl (dIdx0 bm bn) ?_
 intro n1 hn1
 refine OA.p (some 8) (.bool false) rfl rfl rfl (r_bin rfl rfl rfl (b_geq rfl)) ?_
 refine OA.p (some 4) (.bool false) rfl rfl rfl rfl ?_
 refine OA.nil ?_
 intro _
 refine RA.ret env_ok ?_
 refine ⟨.inr rfl, [(.bool false)], (resL_cons rfl resL_nil), rfl, (fun i hi => by cases hi)⟩

theorem dPutXL {n : Nat} {σ : Store} (hd : Dom n σ) (s jn NX : Nat) (nx : List Ux) (hnx : nx.length = NX) (w o_ : Value) (hw : oneB w = true) (ho : oneB o_ = true) (m : Msg) (hr : m.st < 0) (hs : σ s = some ⟨[[(.slice (some ⟨jn, 0, none⟩) NX 0), w, o_]], 3, 101, true⟩)  : CQ Try.prog noDen 14 [(Pt s 0 0), (.agg ⟨(cMsg m)⟩)] n σ (fun v n' d => v = .bool false ∧ d = []) := by
 have lhs := hd.lt hs
 refine CQ.body (E := env) env_ok hd rfl rfl (by show _ ≤ _; exact of_decide_eq_true (by kernel_rfl)) ?_
 refine RA.seq hd ?_
 refine RA.region env_ok ?_
 refine OA.op1 (dst := (some 3)) (v := (Pt n 0 0)) (n1 := (n + 1)) (w := (n, some ⟨[(cMsg m)], 5, 29, true⟩)) rfl rfl rfl rfl (by omega) ?_
 refine OA.p (some 4) (.bool false) rfl rfl rfl rfl ?_
 refine OA.nil ?_
 intro _
 refine RA.seq hd ?_
 refine RA.seq hd ?_
 refine RA.par (md := [some [], some [], some [], some [], some [n], some [], some [], some [], some [], some [n], some [], some [], some [], some [s], some [], some [], some []]) env_ok (hd.of (by omega) (kb1 (by omega))) (by kernel_rfl) ?_
 refine PQ.pure (dst := (some 6)) (v := (Pt s 0 0)) rfl rfl rfl noStore (none_ok _ _) rfl ?_
 refine PQ.pure (dst := (some 7)) (v := (.bool false)) rfl rfl rfl noStore (none_ok _ _) rfl ?_
 refine PQ.pure (dst := (some 8)) (v := (.bool false)) rfl rfl rfl noStore (none_ok _ _) rfl ?_
 refine PQ.pure (dst := (some 9)) (v := (Pt n 0 0)) rfl rfl rfl noStore (none_ok _ _) rfl ?_
 refine PQ.pure (dst := (some 10)) (v := (.int .i64 m.st)) rfl rfl rfl (app [(n, some ⟨[(cMsg m)], 5, 29, true⟩)] noStore) (seen_one (V := []) (D := [(n, some ⟨[(cMsg m)], 5, 29, true⟩)]) (by kernel_rfl) get_here) (r_load1 rfl rfl rfl rfl rfl get_here rfl rfl) ?_
 have hc1 : m.st < 0 := Classical.byContradiction (fun hdd => by exfalso; omega)
 refine PQ.pure (dst := (some 11)) (v := (.bool true)) rfl rfl rfl noStore (none_ok _ _) (Eq.trans (r_bin rfl rfl rfl (b_lss rfl)) (dT hc1)) ?_
 refine PQ.pure (dst := (some 12)) (v := (.bool true)) rfl rfl rfl noStore (none_ok _ _) rfl ?_
 refine PQ.pure (dst := (some 13)) (v := (.bool true)) rfl rfl rfl noStore (none_ok _ _) rfl ?_
 refine PQ.off (dst := (some 14)) rfl rfl rfl ?_
 refine PQ.off (dst := (some 15)) rfl rfl rfl ?_
 refine PQ.off (dst := (some 16)) rfl rfl rfl ?_
 refine PQ.off (dst := (some 17)) rfl rfl rfl ?_
 refine PQ.off (dst := (some 18)) rfl rfl rfl ?_
 refine PQ.off (dst := (some 19)) rfl rfl rfl ?_
 refine PQ.off (dst := (some 20)) rfl rfl rfl ?_
 refine PQ.off (dst := (some 21)) rfl rfl rfl ?_
 refine PQ.pure (dst := (some 22)) (v := (.bool true)) rfl rfl rfl noStore (none_ok _ _) rfl ?_
 refine PQ.done (d := []) (by kernel_rfl) ?_
 intro _
 refine RA.condT rfl ?_
 refine RA.seq hd ?_
 refine RA.region env_ok ?_
 refine OA.p (some 4) (.bool false) rfl rfl rfl rfl ?_
 refine OA.nil ?_
 intro _
 refine RA.ret env_ok ?_
 refine ⟨.inr rfl, [(.bool false)], (resL_cons rfl resL_nil), [], (Less.of (fun p hp => by simp at hp) (gone_of (by simp only [goneP, memP, List.cons_append, List.nil_append, true_or, or_true, true_and, and_true, or_false] <;> omega))), ⟨rfl, rfl⟩⟩

theorem dPutXH {n : Nat} {σ : Store} (hd : Dom n σ) (s jn NX : Nat) (nx : List Ux) (hnx : nx.length = NX) (w o_ : Value) (hw : oneB w = true) (ho : oneB o_ = true) (m : Msg) (hr : ¬ m.st < 0) (hr2 : ((NX : Nat) : Int) ≤ m.st) (hs : σ s = some ⟨[[(.slice (some ⟨jn, 0, none⟩) NX 0), w, o_]], 3, 101, true⟩)  : CQ Try.prog noDen 14 [(Pt s 0 0), (.agg ⟨(cMsg m)⟩)] n σ (fun v n' d => v = .bool false ∧ d = []) := by
 have lhs := hd.lt hs
 refine CQ.body (E := env) env_ok hd rfl rfl (by show _ ≤ _; exact of_decide_eq_true (by kernel_rfl)) ?_
 refine RA.seq hd ?_
 refine RA.region env_ok ?_
 refine OA.op1 (dst := (some 3)) (v := (Pt n 0 0)) (n1 := (n + 1)) (w := (n, some ⟨[(cMsg m)], 5, 29, true⟩)) rfl rfl rfl rfl (by omega) ?_
 refine OA.p (some 4) (.bool false) rfl rfl rfl rfl ?_
 refine OA.nil ?_
 intro _
 refine RA.seq hd ?_
 refine RA.seq hd ?_
 refine RA.par (md := [some [], some [], some [], some [], some [n], some [], some [], some [], some [], some [n], some [], some [], some [], some [s], some [], some [], some []]) env_ok (hd.of (by omega) (kb1 (by omega))) (by kernel_rfl) ?_
 refine PQ.pure (dst := (some 6)) (v := (Pt s 0 0)) rfl rfl rfl noStore (none_ok _ _) rfl ?_
 refine PQ.pure (dst := (some 7)) (v := (.bool false)) rfl rfl rfl noStore (none_ok _ _) rfl ?_
 refine PQ.pure (dst := (some 8)) (v := (.bool false)) rfl rfl rfl noStore (none_ok _ _) rfl ?_
 refine PQ.pure (dst := (some 9)) (v := (Pt n 0 0)) rfl rfl rfl noStore (none_ok _ _) rfl ?_
 refine PQ.pure (dst := (some 10)) (v := (.int .i64 m.st)) rfl rfl rfl (app [(n, some ⟨[(cMsg m)], 5, 29, true⟩)] noStore) (seen_one (V := []) (D := [(n, some ⟨[(cMsg m)], 5, 29, true⟩)]) (by kernel_rfl) get_here) (r_load1 rfl rfl rfl rfl rfl get_here rfl rfl) ?_
 have hc1 : ¬ (m.st < 0) := fun hdd => by exfalso; omega
 refine PQ.pure (dst := (some 11)) (v := (.bool false)) rfl rfl rfl noStore (none_ok _ _) (Eq.trans (r_bin rfl rfl rfl (b_lss rfl)) (dF hc1)) ?_
 refine PQ.pure (dst := (some 12)) (v := (.bool false)) rfl rfl rfl noStore (none_ok _ _) rfl ?_
 refine PQ.pure (dst := (some 13)) (v := (.bool false)) rfl rfl rfl noStore (none_ok _ _) rfl ?_
 refine PQ.pure (dst := (some 14)) (v := (Pt n 0 0)) rfl rfl rfl noStore (none_ok _ _) rfl ?_
 refine PQ.pure (dst := (some 15)) (v := (.int .i64 m.st)) rfl rfl rfl (app [(n, some ⟨[(cMsg m)], 5, 29, true⟩)] noStore) (seen_one (V := []) (D := [(n, some ⟨[(cMsg m)], 5, 29, true⟩)]) (by kernel_rfl) get_here) (r_load1 rfl rfl rfl rfl rfl get_here rfl rfl) ?_
 refine PQ.pure (dst := (some 16)) (v := (Pt s 0 0)) rfl rfl rfl noStore (none_ok _ _) rfl ?_
 refine PQ.pure (dst := (some 17)) (v := (Pt s 0 0)) rfl rfl rfl noStore (none_ok _ _) rfl ?_
 refine PQ.pure (dst := (some 18)) (v := (Pt s 0 0)) rfl rfl rfl noStore (none_ok _ _) rfl ?_
 refine PQ.pure (dst := (some 19)) (v := (.slice (some ⟨jn, 0, none⟩) NX 0)) rfl rfl rfl (app [(s, some ⟨[[(.slice (some ⟨jn, 0, none⟩) NX 0), w, o_]], 3, 101, true⟩)] noStore) (seen_one (V := []) (D := [(n, some ⟨[(cMsg m)], 5, 29, true⟩)]) (by kernel_rfl) (get_there (by omega) hs)) (r_load1 rfl rfl rfl rfl rfl get_here rfl rfl) ?_
 refine PQ.pure (dst := (some 20)) (v := (.int .i64 ((NX : Nat) : Int))) rfl rfl rfl noStore (none_ok _ _) rfl ?_
 have hc2 : ((NX : Nat) : Int) ≤ m.st := Classical.byContradiction (fun hdd => by exfalso; omega)
 refine PQ.pure (dst := (some 21)) (v := (.bool true)) rfl rfl rfl noStore (none_ok _ _) (Eq.trans (r_bin rfl rfl rfl (b_geq rfl)) (dT hc2)) ?_
 refine PQ.pure (dst := (some 22)) (v := (.bool true)) rfl rfl rfl noStore (none_ok _ _) rfl ?_
 refine PQ.done (d := []) (by kernel_rfl) ?_
 intro _
 refine RA.condT rfl ?_
 refine RA.seq hd ?_
 refine RA.region env_ok ?_
 refine OA.p (some 4) (.bool false) rfl rfl rfl rfl ?_
 refine OA.nil ?_
 intro _
 refine RA.ret env_ok ?_
 refine ⟨.inr rfl, [(.bool false)], (resL_cons rfl resL_nil), [], (Less.of (fun p hp => by simp at hp) (gone_of (by simp only [goneP, memP, List.cons_append, List.nil_append, true_or, or_true, true_and, and_true, or_false] <;> omega))), ⟨rfl, rfl⟩⟩

theorem dPutLA {n : Nat} {σ : Store} (hd : Dom n σ) (s jn t NX : Nat) (nx : List Ux) (hnx : nx.length = NX) (ht : t < NX) (w : Value) (hw : oneB w = true)  (ssn : Int) (pr : BitVec 32) (da : ByteArray) (hs : σ s = some ⟨[[(.slice (some ⟨jn, 0, none⟩) NX 0), w, (.slice none 0 0)]], 3, 101, true⟩)  : CQ Try.prog noDen 14 [(Pt s 0 0), (.agg ⟨[(.int .i64 ((t : Nat) : Int)), (.int .i64 ssn), (.bool true), (W pr), (.string da)]⟩)] n σ (fun v n' d => ∃ jo2, n ≤ jo2 ∧ jo2 < n' ∧ v = .bool true ∧ d = [(s, some ⟨[[(.slice (some ⟨jn, 0, none⟩) NX 0), w, (.slice (some ⟨jo2, 0, none⟩) 1 0)]], 3, 101, true⟩), (jo2, some (oMsg [(Msg.mk ((t : Nat) : Int) ssn true pr da)]))]) := by
 have lhs := hd.lt hs
 refine CQ.body (E := env) env_ok hd rfl rfl (by show _ ≤ _; exact of_decide_eq_true (by kernel_rfl)) ?_
 refine RA.seq hd ?_
 refine RA.region env_ok ?_
 refine OA.op1 (dst := (some 3)) (v := (Pt n 0 0)) (n1 := (n + 1)) (w := (n, some ⟨[[(.int .i64 ((t : Nat) : Int)), (.int .i64 ssn), (.bool true), (W pr), (.string da)]], 5, 29, true⟩)) rfl rfl rfl rfl (by omega) ?_
 refine OA.p (some 4) (.bool false) rfl rfl rfl rfl ?_
 refine OA.nil ?_
 intro _
 refine RA.seq hd ?_
 refine RA.seq hd ?_
 refine RA.par (md := [some [], some [], some [], some [], some [n], some [], some [], some [], some [], some [n], some [], some [], some [], some [s], some [], some [], some []]) env_ok (hd.of (by omega) (kb1 (by omega))) (by kernel_rfl) ?_
 refine PQ.pure (dst := (some 6)) (v := (Pt s 0 0)) rfl rfl rfl noStore (none_ok _ _) rfl ?_
 refine PQ.pure (dst := (some 7)) (v := (.bool false)) rfl rfl rfl noStore (none_ok _ _) rfl ?_
 refine PQ.pure (dst := (some 8)) (v := (.bool false)) rfl rfl rfl noStore (none_ok _ _) rfl ?_
 refine PQ.pure (dst := (some 9)) (v := (Pt n 0 0)) rfl rfl rfl noStore (none_ok _ _) rfl ?_
 refine PQ.pure (dst := (some 10)) (v := (.int .i64 ((t : Nat) : Int))) rfl rfl rfl (app [(n, some ⟨[[(.int .i64 ((t : Nat) : Int)), (.int .i64 ssn), (.bool true), (W pr), (.string da)]], 5, 29, true⟩)] noStore) (seen_one (V := []) (D := [(n, some ⟨[[(.int .i64 ((t : Nat) : Int)), (.int .i64 ssn), (.bool true), (W pr), (.string da)]], 5, 29, true⟩)]) (by kernel_rfl) get_here) (r_load1 rfl rfl rfl rfl rfl get_here rfl rfl) ?_
 have hc1 : ¬ (((t : Nat) : Int) < 0) := fun hdd => by exfalso; omega
 refine PQ.pure (dst := (some 11)) (v := (.bool false)) rfl rfl rfl noStore (none_ok _ _) (Eq.trans (r_bin rfl rfl rfl (b_lss rfl)) (dF hc1)) ?_
 refine PQ.pure (dst := (some 12)) (v := (.bool false)) rfl rfl rfl noStore (none_ok _ _) rfl ?_
 refine PQ.pure (dst := (some 13)) (v := (.bool false)) rfl rfl rfl noStore (none_ok _ _) rfl ?_
 refine PQ.pure (dst := (some 14)) (v := (Pt n 0 0)) rfl rfl rfl noStore (none_ok _ _) rfl ?_
 refine PQ.pure (dst := (some 15)) (v := (.int .i64 ((t : Nat) : Int))) rfl rfl rfl (app [(n, some ⟨[[(.int .i64 ((t : Nat) : Int)), (.int .i64 ssn), (.bool true), (W pr), (.string da)]], 5, 29, true⟩)] noStore) (seen_one (V := []) (D := [(n, some ⟨[[(.int .i64 ((t : Nat) : Int)), (.int .i64 ssn), (.bool true), (W pr), (.string da)]], 5, 29, true⟩)]) (by kernel_rfl) get_here) (r_load1 rfl rfl rfl rfl rfl get_here rfl rfl) ?_
 refine PQ.pure (dst := (some 16)) (v := (Pt s 0 0)) rfl rfl rfl noStore (none_ok _ _) rfl ?_
 refine PQ.pure (dst := (some 17)) (v := (Pt s 0 0)) rfl rfl rfl noStore (none_ok _ _) rfl ?_
 refine PQ.pure (dst := (some 18)) (v := (Pt s 0 0)) rfl rfl rfl noStore (none_ok _ _) rfl ?_
 refine PQ.pure (dst := (some 19)) (v := (.slice (some ⟨jn, 0, none⟩) NX 0)) rfl rfl rfl (app [(s, some ⟨[[(.slice (some ⟨jn, 0, none⟩) NX 0), w, (.slice none 0 0)]], 3, 101, true⟩)] noStore) (seen_one (V := []) (D := [(n, some ⟨[[(.int .i64 ((t : Nat) : Int)), (.int .i64 ssn), (.bool true), (W pr), (.string da)]], 5, 29, true⟩)]) (by kernel_rfl) (get_there (by omega) hs)) (r_load1 rfl rfl rfl rfl rfl get_here rfl rfl) ?_
 refine PQ.pure (dst := (some 20)) (v := (.int .i64 ((NX : Nat) : Int))) rfl rfl rfl noStore (none_ok _ _) rfl ?_
 have hc2 : ¬ (((NX : Nat) : Int) ≤ ((t : Nat) : Int)) := fun hdd => by exfalso; omega
 refine PQ.pure (dst := (some 21)) (v := (.bool false)) rfl rfl rfl noStore (none_ok _ _) (Eq.trans (r_bin rfl rfl rfl (b_geq rfl)) (dF hc2)) ?_
 refine PQ.pure (dst := (some 22)) (v := (.bool false)) rfl rfl rfl noStore (none_ok _ _) rfl ?_
 refine PQ.done (d := []) (by kernel_rfl) ?_
 intro _
 refine RA.condF rfl ?_
 refine RA.skip env_ok ?_
 intro _
 refine RA.seq hd ?_
 refine RA.seq hd ?_
 refine RA.region env_ok ?_
 refine OA.p (some 23) (Pt n 0 2) rfl rfl rfl rfl ?_
 refine OA.p (some 24) (.bool true) rfl rfl rfl (r_load1 rfl rfl rfl rfl rfl get_here rfl rfl) ?_
 refine OA.nil ?_
 intro _
 refine RA.condT rfl ?_
 refine RA.seq hd ?_
 refine RA.par (md := [some [], some [], some [], some [], some [s], some [n], some [], none, some [], some [], none]) env_ok (hd.of (by omega) (kb1 (by omega))) (by kernel_rfl) ?_
 refine PQ.pure (dst := (some 25)) (v := (Pt s 0 0)) rfl rfl rfl noStore (none_ok _ _) rfl ?_
 refine PQ.pure (dst := (some 26)) (v := (Pt s 0 0)) rfl rfl rfl noStore (none_ok _ _) rfl ?_
 refine PQ.pure (dst := (some 27)) (v := (Pt s 0 0)) rfl rfl rfl noStore (none_ok _ _) rfl ?_
 refine PQ.pure (dst := (some 28)) (v := (Pt s 0 2)) rfl rfl rfl noStore (none_ok _ _) rfl ?_
 refine PQ.pure (dst := (some 29)) (v := (.slice none 0 0)) rfl rfl rfl (app [(s, some ⟨[[(.slice (some ⟨jn, 0, none⟩) NX 0), w, (.slice none 0 0)]], 3, 101, true⟩)] noStore) (seen_one (V := []) (D := [(n, some ⟨[[(.int .i64 ((t : Nat) : Int)), (.int .i64 ssn), (.bool true), (W pr), (.string da)]], 5, 29, true⟩)]) (by kernel_rfl) (get_there (by omega) hs)) (r_load1 rfl rfl rfl rfl rfl get_here rfl rfl) ?_
 refine PQ.pure (dst := (some 30)) (v := (.agg ⟨[(.int .i64 ((t : Nat) : Int)), (.int .i64 ssn), (.bool true), (W pr), (.string da)]⟩)) rfl rfl rfl (app [(n, some ⟨[[(.int .i64 ((t : Nat) : Int)), (.int .i64 ssn), (.bool true), (W pr), (.string da)]], 5, 29, true⟩)] noStore) (seen_one (V := []) (D := [(n, some ⟨[[(.int .i64 ((t : Nat) : Int)), (.int .i64 ssn), (.bool true), (W pr), (.string da)]], 5, 29, true⟩)]) (by kernel_rfl) get_here) (r_loadA rfl rfl rfl rfl get_here rfl rfl rfl) ?_
 refine PQ.op (dst := (some 31)) (v := (.slice (some ⟨(n + 1), 0, none⟩) 1 0)) (n1 := (n + 2)) (d1 := [((n + 1), some ⟨[[(.int .i64 ((t : Nat) : Int)), (.int .i64 ssn), (.bool true), (W pr), (.string da)]], 5, 29, true⟩)]) rfl rfl rfl noStore (none_ok _ _) (by kernel_rfl) (by omega) (kp1 (wr_new (by omega) (by omega))) ?_
 refine PQ.op (dst := (some 32)) (v := (.slice (some ⟨(n + 2), 0, none⟩) 1 0)) (n1 := (n + 3)) (d1 := [((n + 2), some (oMsg [(Msg.mk ((t : Nat) : Int) ssn true pr da)]))]) rfl rfl rfl _ (seen_any (V := [((n + 1), some ⟨[[(.int .i64 ((t : Nat) : Int)), (.int .i64 ssn), (.bool true), (W pr), (.string da)]], 5, 29, true⟩)]) (D := [(n, some ⟨[[(.int .i64 ((t : Nat) : Int)), (.int .i64 ssn), (.bool true), (W pr), (.string da)]], 5, 29, true⟩)]) (by kernel_rfl)) (r_append0R (c := cMsg) (x := (Msg.mk ((t : Nat) : Int) ssn true pr da)) rfl rfl rfl rfl rfl rfl rfl rfl rfl rfl (by decide) get_here (of_decide_eq_true (by kernel_rfl))) (by omega) (kp1 (wr_new (by omega) (by omega))) ?_
 refine PQ.pure (dst := (some 33)) (v := (Pt s 0 0)) rfl rfl rfl noStore (none_ok _ _) rfl ?_
 refine PQ.pure (dst := (some 34)) (v := (Pt s 0 2)) rfl rfl rfl noStore (none_ok _ _) rfl ?_
 refine PQ.op (dst := none) (v := (.tuple #[])) (n1 := (n + 3)) (d1 := [(s, some ⟨[[(.slice (some ⟨jn, 0, none⟩) NX 0), w, (.slice (some ⟨(n + 2), 0, none⟩) 1 0)]], 3, 101, true⟩)]) rfl rfl rfl _ (seen_any (V := [((n + 2), some (oMsg [(Msg.mk ((t : Nat) : Int) ssn true pr da)])), ((n + 1), some ⟨[[(.int .i64 ((t : Nat) : Int)), (.int .i64 ssn), (.bool true), (W pr), (.string da)]], 5, 29, true⟩)]) (D := [(n, some ⟨[[(.int .i64 ((t : Nat) : Int)), (.int .i64 ssn), (.bool true), (W pr), (.string da)]], 5, 29, true⟩)]) (by kernel_rfl)) (r_store rfl rfl rfl rfl rfl rfl rfl (gt3 (by omega) hs) rfl rfl (Nat.le_of_ble_eq_true rfl) rfl) (by omega) (kp1 (wr_tight (by kernel_rfl) (by omega))) ?_
 refine PQ.done (d := [(s, some ⟨[[(.slice (some ⟨jn, 0, none⟩) NX 0), w, (.slice (some ⟨(n + 2), 0, none⟩) 1 0)]], 3, 101, true⟩), ((n + 2), some (oMsg [(Msg.mk ((t : Nat) : Int) ssn true pr da)])), ((n + 1), some ⟨[[(.int .i64 ((t : Nat) : Int)), (.int .i64 ssn), (.bool true), (W pr), (.string da)]], 5, 29, true⟩)]) (by kernel_rfl) ?_
 intro _
 refine RA.rebase [(0, (Pt s 0 0)), (1, (.agg ⟨[(.int .i64 ((t : Nat) : Int)), (.int .i64 ssn), (.bool true), (W pr), (.string da)]⟩)), (3, (Pt n 0 0)), (4, (.bool false)), (22, (.bool false)), (24, (.bool true))] ⟨rfl, rfl, rfl, rfl, rfl, rfl, trivial⟩ (fun τr1 => ?_)
 refine RA.seq hd ?_
 refine RA.region env_ok ?_
 refine OA.p (some 4) (.bool true) rfl rfl rfl rfl ?_
 refine OA.nil ?_
 intro _
 refine RA.ret env_ok ?_
 refine ⟨.inr rfl, [(.bool true)], (resL_cons rfl resL_nil), [(s, some ⟨[[(.slice (some ⟨jn, 0, none⟩) NX 0), w, (.slice (some ⟨(n + 2), 0, none⟩) 1 0)]], 3, 101, true⟩), ((n + 2), some (oMsg [(Msg.mk ((t : Nat) : Int) ssn true pr da)]))], (Less.of (fac (mm (fun _ => get_here) (fun _ => get_here)) (fac (mm (fun _ => (get_there (by omega) get_here)) (fun _ => (get_there (by omega) get_here))) fan)) (gone_of (by simp only [goneP, memP, List.cons_append, List.nil_append, true_or, or_true, true_and, and_true, or_false] <;> omega))), ⟨(n + 2), by omega, by omega, rfl, rfl⟩⟩

theorem dPutLB {n : Nat} {σ : Store} (hd : Dom n σ) (s jn t NX : Nat) (nx : List Ux) (hnx : nx.length = NX) (ht : t < NX) (w : Value) (hw : oneB w = true) (jo off M : Nat) (L2 : List Msg) (hL2 : L2.length = off + M) (hM : M ≤ 100000) (h4 : s ≠ jo) (ssn : Int) (pr : BitVec 32) (da : ByteArray) (hs : σ s = some ⟨[[(.slice (some ⟨jn, 0, none⟩) NX 0), w, (.slice (some ⟨jo, off, none⟩) M 0)]], 3, 101, true⟩) (hjo : σ jo = some (oMsg L2))  : CQ Try.prog noDen 14 [(Pt s 0 0), (.agg ⟨[(.int .i64 ((t : Nat) : Int)), (.int .i64 ssn), (.bool true), (W pr), (.string da)]⟩)] n σ (fun v n' d => ∃ jo2, n ≤ jo2 ∧ jo2 < n' ∧ v = .bool true ∧ d = [(s, some ⟨[[(.slice (some ⟨jn, 0, none⟩) NX 0), w, (.slice (some ⟨jo2, 0, none⟩) (M + 1) 0)]], 3, 101, true⟩), (jo2, some (oMsg (L2.drop off ++ [(Msg.mk ((t : Nat) : Int) ssn true pr da)]))), (jo, none)]) := by
 have lhs := hd.lt hs
 have lhjo := hd.lt hjo
 refine CQ.body (E := env) env_ok hd rfl rfl (by show _ ≤ _; exact of_decide_eq_true (by kernel_rfl)) ?_
 refine RA.seq hd ?_
 refine RA.region env_ok ?_
 refine OA.op1 (dst := (some 3)) (v := (Pt n 0 0)) (n1 := (n + 1)) (w := (n, some ⟨[[(.int .i64 ((t : Nat) : Int)), (.int .i64 ssn), (.bool true), (W pr), (.string da)]], 5, 29, true⟩)) rfl rfl rfl rfl (by omega) ?_
 refine OA.p (some 4) (.bool false) rfl rfl rfl rfl ?_
 refine OA.nil ?_
 intro _
 refine RA.seq hd ?_
 refine RA.seq hd ?_
 refine RA.par (md := [some [], some [], some [], some [], some [n], some [], some [], some [], some [], some [n], some [], some [], some [], some [s], some [], some [], some []]) env_ok (hd.of (by omega) (kb1 (by omega))) (by kernel_rfl) ?_
 refine PQ.pure (dst := (some 6)) (v := (Pt s 0 0)) rfl rfl rfl noStore (none_ok _ _) rfl ?_
 refine PQ.pure (dst := (some 7)) (v := (.bool false)) rfl rfl rfl noStore (none_ok _ _) rfl ?_
 refine PQ.pure (dst := (some 8)) (v := (.bool false)) rfl rfl rfl noStore (none_ok _ _) rfl ?_
 refine PQ.pure (dst := (some 9)) (v := (Pt n 0 0)) rfl rfl rfl noStore (none_ok _ _) rfl ?_
 refine PQ.pure (dst := (some 10)) (v := (.int .i64 ((t : Nat) : Int))) rfl rfl rfl (app [(n, some ⟨[[(.int .i64 ((t : Nat) : Int)), (.int .i64 ssn), (.bool true), (W pr), (.string da)]], 5, 29, true⟩)] noStore) (seen_one (V := []) (D := [(n, some ⟨[[(.int .i64 ((t : Nat) : Int)), (.int .i64 ssn), (.bool true), (W pr), (.string da)]], 5, 29, true⟩)]) (by kernel_rfl) get_here) (r_load1 rfl rfl rfl rfl rfl get_here rfl rfl) ?_
 have hc1 : ¬ (((t : Nat) : Int) < 0) := fun hdd => by exfalso; omega
 refine PQ.pure (dst := (some 11)) (v := (.bool false)) rfl rfl rfl noStore (none_ok _ _) (Eq.trans (r_bin rfl rfl rfl (b_lss rfl)) (dF hc1)) ?_
 refine PQ.pure (dst := (some 12)) (v := (.bool false)) rfl rfl rfl noStore (none_ok _ _) rfl ?_
 refine PQ.pure (dst := (some 13)) (v := (.bool false)) rfl rfl rfl noStore (none_ok _ _) rfl ?_
 refine PQ.pure (dst := (some 14)) (v := (Pt n 0 0)) rfl rfl rfl noStore (none_ok _ _) rfl ?_
 refine PQ.pure (dst := (some 15)) (v := (.int .i64 ((t : Nat) : Int))) rfl rfl rfl (app [(n, some ⟨[[(.int .i64 ((t : Nat) : Int)), (.int .i64 ssn), (.bool true), (W pr), (.string da)]], 5, 29, true⟩)] noStore) (seen_one (V := []) (D := [(n, some ⟨[[(.int .i64 ((t : Nat) : Int)), (.int .i64 ssn), (.bool true), (W pr), (.string da)]], 5, 29, true⟩)]) (by kernel_rfl) get_here) (r_load1 rfl rfl rfl rfl rfl get_here rfl rfl) ?_
 refine PQ.pure (dst := (some 16)) (v := (Pt s 0 0)) rfl rfl rfl noStore (none_ok _ _) rfl ?_
 refine PQ.pure (dst := (some 17)) (v := (Pt s 0 0)) rfl rfl rfl noStore (none_ok _ _) rfl ?_
 refine PQ.pure (dst := (some 18)) (v := (Pt s 0 0)) rfl rfl rfl noStore (none_ok _ _) rfl ?_
 refine PQ.pure (dst := (some 19)) (v := (.slice (some ⟨jn, 0, none⟩) NX 0)) rfl rfl rfl (app [(s, some ⟨[[(.slice (some ⟨jn, 0, none⟩) NX 0), w, (.slice (some ⟨jo, off, none⟩) M 0)]], 3, 101, true⟩)] noStore) (seen_one (V := []) (D := [(n, some ⟨[[(.int .i64 ((t : Nat) : Int)), (.int .i64 ssn), (.bool true), (W pr), (.string da)]], 5, 29, true⟩)]) (by kernel_rfl) (get_there (by omega) hs)) (r_load1 rfl rfl rfl rfl rfl get_here rfl rfl) ?_
 refine PQ.pure (dst := (some 20)) (v := (.int .i64 ((NX : Nat) : Int))) rfl rfl rfl noStore (none_ok _ _) rfl ?_
 have hc2 : ¬ (((NX : Nat) : Int) ≤ ((t : Nat) : Int)) := fun hdd => by exfalso; omega
 refine PQ.pure (dst := (some 21)) (v := (.bool false)) rfl rfl rfl noStore (none_ok _ _) (Eq.trans (r_bin rfl rfl rfl (b_geq rfl)) (dF hc2)) ?_
 refine PQ.pure (dst := (some 22)) (v := (.bool false)) rfl rfl rfl noStore (none_ok _ _) rfl ?_
 refine PQ.done (d := []) (by kernel_rfl) ?_
 intro _
 refine RA.condF rfl ?_
 refine RA.skip env_ok ?_
 intro _
 refine RA.seq hd ?_
 refine RA.seq hd ?_
 refine RA.region env_ok ?_
 refine OA.p (some 23) (Pt n 0 2) rfl rfl rfl rfl ?_
 refine OA.p (some 24) (.bool true) rfl rfl rfl (r_load1 rfl rfl rfl rfl rfl get_here rfl rfl) ?_
 refine OA.nil ?_
 intro _
 refine RA.condT rfl ?_
 refine RA.seq hd ?_
 refine RA.par (md := [some [], some [], some [], some [], some [s], some [n], some [], none, some [], some [], none]) env_ok (hd.of (by omega) (kb1 (by omega))) (by kernel_rfl) ?_
 refine PQ.pure (dst := (some 25)) (v := (Pt s 0 0)) rfl rfl rfl noStore (none_ok _ _) rfl ?_
 refine PQ.pure (dst := (some 26)) (v := (Pt s 0 0)) rfl rfl rfl noStore (none_ok _ _) rfl ?_
 refine PQ.pure (dst := (some 27)) (v := (Pt s 0 0)) rfl rfl rfl noStore (none_ok _ _) rfl ?_
 refine PQ.pure (dst := (some 28)) (v := (Pt s 0 2)) rfl rfl rfl noStore (none_ok _ _) rfl ?_
 refine PQ.pure (dst := (some 29)) (v := (.slice (some ⟨jo, off, none⟩) M 0)) rfl rfl rfl (app [(s, some ⟨[[(.slice (some ⟨jn, 0, none⟩) NX 0), w, (.slice (some ⟨jo, off, none⟩) M 0)]], 3, 101, true⟩)] noStore) (seen_one (V := []) (D := [(n, some ⟨[[(.int .i64 ((t : Nat) : Int)), (.int .i64 ssn), (.bool true), (W pr), (.string da)]], 5, 29, true⟩)]) (by kernel_rfl) (get_there (by omega) hs)) (r_load1 rfl rfl rfl rfl rfl get_here rfl rfl) ?_
 refine PQ.pure (dst := (some 30)) (v := (.agg ⟨[(.int .i64 ((t : Nat) : Int)), (.int .i64 ssn), (.bool true), (W pr), (.string da)]⟩)) rfl rfl rfl (app [(n, some ⟨[[(.int .i64 ((t : Nat) : Int)), (.int .i64 ssn), (.bool true), (W pr), (.string da)]], 5, 29, true⟩)] noStore) (seen_one (V := []) (D := [(n, some ⟨[[(.int .i64 ((t : Nat) : Int)), (.int .i64 ssn), (.bool true), (W pr), (.string da)]], 5, 29, true⟩)]) (by kernel_rfl) get_here) (r_loadA rfl rfl rfl rfl get_here rfl rfl rfl) ?_
 refine PQ.op (dst := (some 31)) (v := (.slice (some ⟨(n + 1), 0, none⟩) 1 0)) (n1 := (n + 2)) (d1 := [((n + 1), some ⟨[[(.int .i64 ((t : Nat) : Int)), (.int .i64 ssn), (.bool true), (W pr), (.string da)]], 5, 29, true⟩)]) rfl rfl rfl noStore (none_ok _ _) (by kernel_rfl) (by omega) (kp1 (wr_new (by omega) (by omega))) ?_
 refine PQ.op (dst := (some 32)) (v := (.slice (some ⟨(n + 2), 0, none⟩) (M + 1) 0)) (n1 := (n + 3)) (d1 := [((n + 2), some (oMsg (L2.drop off ++ [(Msg.mk ((t : Nat) : Int) ssn true pr da)]))), (jo, none)]) rfl rfl rfl _ (seen_any (V := [((n + 1), some ⟨[[(.int .i64 ((t : Nat) : Int)), (.int .i64 ssn), (.bool true), (W pr), (.string da)]], 5, 29, true⟩)]) (D := [(n, some ⟨[[(.int .i64 ((t : Nat) : Int)), (.int .i64 ssn), (.bool true), (W pr), (.string da)]], 5, 29, true⟩)]) (by kernel_rfl)) (r_appendRO (c := cMsg) (x := (Msg.mk ((t : Nat) : Int) ssn true pr da)) (l' := (L2.drop off ++ [(Msg.mk ((t : Nat) : Int) ssn true pr da)])) rfl rfl rfl rfl rfl rfl rfl rfl rfl rfl (by decide) (gt2 (by omega) hjo) get_here (by omega) rfl (by omega) (of_decide_eq_true (by kernel_rfl)) (by omega)) (by omega) (kp2 (wr_new (by omega) (by omega)) (wr_old [0] (by kernel_rfl) (by omega) (by omega) (fac (lo0 rfl) fan))) ?_
 refine PQ.pure (dst := (some 33)) (v := (Pt s 0 0)) rfl rfl rfl noStore (none_ok _ _) rfl ?_
 refine PQ.pure (dst := (some 34)) (v := (Pt s 0 2)) rfl rfl rfl noStore (none_ok _ _) rfl ?_
 refine PQ.op (dst := none) (v := (.tuple #[])) (n1 := (n + 3)) (d1 := [(s, some ⟨[[(.slice (some ⟨jn, 0, none⟩) NX 0), w, (.slice (some ⟨(n + 2), 0, none⟩) (M + 1) 0)]], 3, 101, true⟩)]) rfl rfl rfl _ (seen_any (V := [((n + 2), some (oMsg (L2.drop off ++ [(Msg.mk ((t : Nat) : Int) ssn true pr da)]))), (jo, none), ((n + 1), some ⟨[[(.int .i64 ((t : Nat) : Int)), (.int .i64 ssn), (.bool true), (W pr), (.string da)]], 5, 29, true⟩)]) (D := [(n, some ⟨[[(.int .i64 ((t : Nat) : Int)), (.int .i64 ssn), (.bool true), (W pr), (.string da)]], 5, 29, true⟩)]) (by kernel_rfl)) (r_store rfl rfl rfl rfl rfl rfl rfl (gt4 (by omega) hs) rfl rfl (Nat.le_of_ble_eq_true rfl) rfl) (by omega) (kp1 (wr_tight (by kernel_rfl) (by omega))) ?_
 refine PQ.done (d := [(s, some ⟨[[(.slice (some ⟨jn, 0, none⟩) NX 0), w, (.slice (some ⟨(n + 2), 0, none⟩) (M + 1) 0)]], 3, 101, true⟩), ((n + 2), some (oMsg (L2.drop off ++ [(Msg.mk ((t : Nat) : Int) ssn true pr da)]))), (jo, none), ((n + 1), some ⟨[[(.int .i64 ((t : Nat) : Int)), (.int .i64 ssn), (.bool true), (W pr), (.string da)]], 5, 29, true⟩)]) (by kernel_rfl) ?_
 intro _
 refine RA.rebase [(0, (Pt s 0 0)), (1, (.agg ⟨[(.int .i64 ((t : Nat) : Int)), (.int .i64 ssn), (.bool true), (W pr), (.string da)]⟩)), (3, (Pt n 0 0)), (4, (.bool false)), (22, (.bool false)), (24, (.bool true))] ⟨rfl, rfl, rfl, rfl, rfl, rfl, trivial⟩ (fun τr1 => ?_)
 refine RA.seq hd ?_
 refine RA.region env_ok ?_
 refine OA.p (some 4) (.bool true) rfl rfl rfl rfl ?_
 refine OA.nil ?_
 intro _
 refine RA.ret env_ok ?_
 refine ⟨.inr rfl, [(.bool true)], (resL_cons rfl resL_nil), [(s, some ⟨[[(.slice (some ⟨jn, 0, none⟩) NX 0), w, (.slice (some ⟨(n + 2), 0, none⟩) (M + 1) 0)]], 3, 101, true⟩), ((n + 2), some (oMsg (L2.drop off ++ [(Msg.mk ((t : Nat) : Int) ssn true pr da)]))), (jo, none)], (Less.of (fac (mm (fun _ => get_here) (fun _ => get_here)) (fac (mm (fun _ => (get_there (by omega) get_here)) (fun _ => (get_there (by omega) get_here))) (fac (mm (fun _ => (gt2 (by omega) get_here)) (fun _ => (gt2 (by omega) get_here))) fan))) (gone_of (by simp only [goneP, memP, List.cons_append, List.nil_append, true_or, or_true, true_and, and_true, or_false] <;> omega))), ⟨(n + 2), by omega, by omega, rfl, rfl⟩⟩

theorem dPutRNa {n : Nat} {σ : Store} (hd : Dom n σ) (s jn t NX : Nat) (nx : List Ux) (hnx : nx.length = NX) (ht : t < NX) (o_ : Value) (ho : oneB o_ = true)  (ssn : Int) (pr : BitVec 32) (da : ByteArray) (hl : less16 (u16N ssn) (nx.getD t dUx).z) (hs : σ s = some ⟨[[(.slice (some ⟨jn, 0, none⟩) NX 0), (.slice none 0 0), o_]], 3, 101, true⟩) (hjn : σ jn = some (oUx nx))  : CQ Try.prog noDen 14 [(Pt s 0 0), (.agg ⟨[(.int .i64 ((t : Nat) : Int)), (.int .i64 ssn), (.bool false), (W pr), (.string da)]⟩)] n σ (fun v n' d => v = .bool false ∧ d = []) := by
 have lhs := hd.lt hs
 have lhjn := hd.lt hjn
 refine CQ.body (E := env) env_ok hd rfl rfl (by show _ ≤ _; exact of_decide_eq_true (by kernel_rfl)) ?_
 refine RA.seq hd ?_
 refine RA.region env_ok ?_
 refine OA.op1 (dst := (some 3)) (v := (Pt n 0 0)) (n1 := (n + 1)) (w := (n, some ⟨[[(.int .i64 ((t : Nat) : Int)), (.int .i64 ssn), (.bool false), (W pr), (.string da)]], 5, 29, true⟩)) rfl rfl rfl rfl (by omega) ?_
 refine OA.p (some 4) (.bool false) rfl rfl rfl rfl ?_
 refine OA.nil ?_
 intro _
 refine RA.seq hd ?_
 refine RA.seq hd ?_
 refine RA.par (md := [some [], some [], some [], some [], some [n], some [], some [], some [], some [], some [n], some [], some [], some [], some [s], some [], some [], some []]) env_ok (hd.of (by omega) (kb1 (by omega))) (by kernel_rfl) ?_
 refine PQ.pure (dst := (some 6)) (v := (Pt s 0 0)) rfl rfl rfl noStore (none_ok _ _) rfl ?_
 refine PQ.pure (dst := (some 7)) (v := (.bool false)) rfl rfl rfl noStore (none_ok _ _) rfl ?_
 refine PQ.pure (dst := (some 8)) (v := (.bool false)) rfl rfl rfl noStore (none_ok _ _) rfl ?_
 refine PQ.pure (dst := (some 9)) (v := (Pt n 0 0)) rfl rfl rfl noStore (none_ok _ _) rfl ?_
 refine PQ.pure (dst := (some 10)) (v := (.int .i64 ((t : Nat) : Int))) rfl rfl rfl (app [(n, some ⟨[[(.int .i64 ((t : Nat) : Int)), (.int .i64 ssn), (.bool false), (W pr), (.string da)]], 5, 29, true⟩)] noStore) (seen_one (V := []) (D := [(n, some ⟨[[(.int .i64 ((t : Nat) : Int)), (.int .i64 ssn), (.bool false), (W pr), (.string da)]], 5, 29, true⟩)]) (by kernel_rfl) get_here) (r_load1 rfl rfl rfl rfl rfl get_here rfl rfl) ?_
 have hc1 : ¬ (((t : Nat) : Int) < 0) := fun hdd => by exfalso; first | exact hdd hl | exact hl hdd | exact hdd hc | omega
 refine PQ.pure (dst := (some 11)) (v := (.bool false)) rfl rfl rfl noStore (none_ok _ _) (Eq.trans (r_bin rfl rfl rfl (b_lss rfl)) (dF hc1)) ?_
 refine PQ.pure (dst := (some 12)) (v := (.bool false)) rfl rfl rfl noStore (none_ok _ _) rfl ?_
 refine PQ.pure (dst := (some 13)) (v := (.bool false)) rfl rfl rfl noStore (none_ok _ _) rfl ?_
 refine PQ.pure (dst := (some 14)) (v := (Pt n 0 0)) rfl rfl rfl noStore (none_ok _ _) rfl ?_
 refine PQ.pure (dst := (some 15)) (v := (.int .i64 ((t : Nat) : Int))) rfl rfl rfl (app [(n, some ⟨[[(.int .i64 ((t : Nat) : Int)), (.int .i64 ssn), (.bool false), (W pr), (.string da)]], 5, 29, true⟩)] noStore) (seen_one (V := []) (D := [(n, some ⟨[[(.int .i64 ((t : Nat) : Int)), (.int .i64 ssn), (.bool false), (W pr), (.string da)]], 5, 29, true⟩)]) (by kernel_rfl) get_here) (r_load1 rfl rfl rfl rfl rfl get_here rfl rfl) ?_
 refine PQ.pure (dst := (some 16)) (v := (Pt s 0 0)) rfl rfl rfl noStore (none_ok _ _) rfl ?_
 refine PQ.pure (dst := (some 17)) (v := (Pt s 0 0)) rfl rfl rfl noStore (none_ok _ _) rfl ?_
 refine PQ.pure (dst := (some 18)) (v := (Pt s 0 0)) rfl rfl rfl noStore (none_ok _ _) rfl ?_
 refine PQ.pure (dst := (some 19)) (v := (.slice (some ⟨jn, 0, none⟩) NX 0)) rfl rfl rfl (app [(s, some ⟨[[(.slice (some ⟨jn, 0, none⟩) NX 0), (.slice none 0 0), o_]], 3, 101, true⟩)] noStore) (seen_one (V := []) (D := [(n, some ⟨[[(.int .i64 ((t : Nat) : Int)), (.int .i64 ssn), (.bool false), (W pr), (.string da)]], 5, 29, true⟩)]) (by kernel_rfl) (get_there (by omega) hs)) (r_load1 rfl rfl rfl rfl rfl get_here rfl rfl) ?_
 refine PQ.pure (dst := (some 20)) (v := (.int .i64 ((NX : Nat) : Int))) rfl rfl rfl noStore (none_ok _ _) rfl ?_
 have hc2 : ¬ (((NX : Nat) : Int) ≤ ((t : Nat) : Int)) := fun hdd => by exfalso; first | exact hdd hl | exact hl hdd | exact hdd hc | omega
 refine PQ.pure (dst := (some 21)) (v := (.bool false)) rfl rfl rfl noStore (none_ok _ _) (Eq.trans (r_bin rfl rfl rfl (b_geq rfl)) (dF hc2)) ?_
 refine PQ.pure (dst := (some 22)) (v := (.bool false)) rfl rfl rfl noStore (none_ok _ _) rfl ?_
 refine PQ.done (d := []) (by kernel_rfl) ?_
 intro _
 refine RA.condF rfl ?_
 refine RA.skip env_ok ?_
 intro _
 refine RA.seq hd ?_
 refine RA.seq hd ?_
 refine RA.region env_ok ?_
 refine OA.p (some 23) (Pt n 0 2) rfl rfl rfl rfl ?_
 refine OA.p (some 24) (.bool false) rfl rfl rfl (r_load1 rfl rfl rfl rfl rfl get_here rfl rfl) ?_
 refine OA.nil ?_
 intro _
 refine RA.condF rfl ?_
 refine RA.skip env_ok ?_
 intro _
 refine RA.seq hd ?_
 refine RA.region env_ok ?_
 refine OA.p (some 35) (Pt n 0 1) rfl rfl rfl rfl ?_
 refine OA.p (some 36) (.int .i64 ssn) rfl rfl rfl (r_load1 rfl rfl rfl rfl rfl get_here rfl rfl) ?_
 refine OA.p (some 37) (.int .u16 (((u16N ssn) : Nat) : Int)) rfl rfl rfl (r_cvt rfl rfl rfl rfl rfl ⟨_, rfl⟩ (wrap_u16s _)) ?_
 refine OA.op1 (dst := (some 5)) (v := (.pointer (some ⟨(n + 1), 0, some 0⟩))) (n1 := (n + 2)) (w := ((n + 1), some ⟨[[(.int .u16 0)]], 1, 102, true⟩)) rfl rfl rfl rfl (by omega) ?_
 refine OA.op1 (dst := none) (v := (.tuple #[])) (n1 := (n + 2)) (w := ((n + 1), some ⟨[[(.int .u16 (((u16N ssn) : Nat) : Int))]], 1, 102, true⟩)) rfl rfl rfl (r_store rfl rfl rfl rfl rfl rfl rfl get_here rfl rfl (Nat.le_of_ble_eq_true rfl) rfl) (by omega) ?_
 refine OA.nil ?_
 intro _
 refine RA.rebase [(0, (Pt s 0 0)), (1, (.agg ⟨[(.int .i64 ((t : Nat) : Int)), (.int .i64 ssn), (.bool false), (W pr), (.string da)]⟩)), (3, (Pt n 0 0)), (4, (.bool false)), (5, (.pointer (some ⟨(n + 1), 0, some 0⟩))), (22, (.bool false)), (24, (.bool false))] ⟨rfl, rfl, rfl, rfl, rfl, rfl, rfl, trivial⟩ (fun τr1 => ?_)
 refine RA.seq hd ?_
 refine RA.seq hd ?_
 refine RA.par (md := [some [(n + 1)], some [], some [], some [], some [s], some [], some [n], none, none, some [], some [], some [], some [], some [], some [s], some [], none, some []]) env_ok (hd.of (by omega) (kb3 (by omega))) (by kernel_rfl) ?_
 refine PQ.pure (dst := (some 38)) (v := (.int .u16 (((u16N ssn) : Nat) : Int))) rfl rfl rfl (app [((n + 1), some ⟨[[(.int .u16 (((u16N ssn) : Nat) : Int))]], 1, 102, true⟩)] noStore) (seen_one (V := []) (D := [((n + 1), some ⟨[[(.int .u16 (((u16N ssn) : Nat) : Int))]], 1, 102, true⟩), ((n + 1), some ⟨[[(.int .u16 0)]], 1, 102, true⟩), (n, some ⟨[[(.int .i64 ((t : Nat) : Int)), (.int .i64 ssn), (.bool false), (W pr), (.string da)]], 5, 29, true⟩)]) (by kernel_rfl) get_here) (r_load1 rfl rfl rfl rfl rfl get_here rfl rfl) ?_
 refine PQ.pure (dst := (some 39)) (v := (Pt s 0 0)) rfl rfl rfl noStore (none_ok _ _) rfl ?_
 refine PQ.pure (dst := (some 40)) (v := (Pt s 0 0)) rfl rfl rfl noStore (none_ok _ _) rfl ?_
 refine PQ.pure (dst := (some 41)) (v := (Pt s 0 0)) rfl rfl rfl noStore (none_ok _ _) rfl ?_
 refine PQ.pure (dst := (some 42)) (v := (.slice (some ⟨jn, 0, none⟩) NX 0)) rfl rfl rfl (app [(s, some ⟨[[(.slice (some ⟨jn, 0, none⟩) NX 0), (.slice none 0 0), o_]], 3, 101, true⟩)] noStore) (seen_one (V := []) (D := [((n + 1), some ⟨[[(.int .u16 (((u16N ssn) : Nat) : Int))]], 1, 102, true⟩), ((n + 1), some ⟨[[(.int .u16 0)]], 1, 102, true⟩), (n, some ⟨[[(.int .i64 ((t : Nat) : Int)), (.int .i64 ssn), (.bool false), (W pr), (.string da)]], 5, 29, true⟩)]) (by kernel_rfl) (gt3 (by omega) hs)) (r_load1 rfl rfl rfl rfl rfl get_here rfl rfl) ?_
 refine PQ.pure (dst := (some 43)) (v := (Pt n 0 0)) rfl rfl rfl noStore (none_ok _ _) rfl ?_
 refine PQ.pure (dst := (some 44)) (v := (.int .i64 ((t : Nat) : Int))) rfl rfl rfl (app [(n, some ⟨[[(.int .i64 ((t : Nat) : Int)), (.int .i64 ssn), (.bool false), (W pr), (.string da)]], 5, 29, true⟩)] noStore) (seen_one (V := []) (D := [((n + 1), some ⟨[[(.int .u16 (((u16N ssn) : Nat) : Int))]], 1, 102, true⟩), ((n + 1), some ⟨[[(.int .u16 0)]], 1, 102, true⟩), (n, some ⟨[[(.int .i64 ((t : Nat) : Int)), (.int .i64 ssn), (.bool false), (W pr), (.string da)]], 5, 29, true⟩)]) (by kernel_rfl) (gt2 (by omega) get_here)) (r_load1 rfl rfl rfl rfl rfl get_here rfl rfl) ?_
 refine PQ.pure (dst := (some 45)) (v := (Pt jn t 0)) rfl rfl rfl _ (seen_any (V := []) (D := [((n + 1), some ⟨[[(.int .u16 (((u16N ssn) : Nat) : Int))]], 1, 102, true⟩), ((n + 1), some ⟨[[(.int .u16 0)]], 1, 102, true⟩), (n, some ⟨[[(.int .i64 ((t : Nat) : Int)), (.int .i64 ssn), (.bool false), (W pr), (.string da)]], 5, 29, true⟩)]) (by kernel_rfl)) (r_iaS (l := t) rfl rfl rfl rfl rfl rfl (by omega) (by omega) (gt3 (by omega) hjn) rfl (by omega)) ?_
 refine PQ.pure (dst := (some 46)) (v := (.int .u16 (((nx.getD t dUx).z : Nat) : Int))) rfl rfl rfl _ (seen_any (V := []) (D := [((n + 1), some ⟨[[(.int .u16 (((u16N ssn) : Nat) : Int))]], 1, 102, true⟩), ((n + 1), some ⟨[[(.int .u16 0)]], 1, 102, true⟩), (n, some ⟨[[(.int .i64 ((t : Nat) : Int)), (.int .i64 ssn), (.bool false), (W pr), (.string da)]], 5, 29, true⟩)]) (by kernel_rfl)) (r_loadF (c := cUx) dUx rfl rfl rfl rfl rfl (gt3 (by omega) hjn) (by rw [hnx]; omega) rfl) ?_
 have hc3 : less16 (u16N ssn) (nx.getD t dUx).z := Classical.byContradiction (fun hdd => by exfalso; first | exact hdd hl | exact hl hdd | exact hdd hc | omega)
 refine PQ.callP (dst := (some 47)) (all := [(.int .u16 (((u16N ssn) : Nat) : Int)), (.int .u16 (((nx.getD t dUx).z : Nat) : Int))]) (v := (.bool true)) noStore (dom_none _) rfl rfl rfl rfl rfl rfl rfl rfl (none_ok _ _) (PS.to (dLess (u16N ssn) (nx.getD t dUx).z) (show (.bool (decide (less16 (u16N ssn) (nx.getD t dUx).z))) = ((.bool true) : Value) from (by first | (rw [decide_eq_true hc3]; done) | (rw [decide_eq_true hc3]; rfl)))) ?_
 intro n2 hn2
 refine PQ.pure (dst := (some 48)) (v := (.bool true)) rfl rfl rfl noStore (none_ok _ _) rfl ?_
 refine PQ.off (dst := (some 49)) rfl rfl rfl ?_
 refine PQ.off (dst := (some 50)) rfl rfl rfl ?_
 refine PQ.off (dst := (some 51)) rfl rfl rfl ?_
 refine PQ.off (dst := (some 52)) rfl rfl rfl ?_
 refine PQ.off (dst := (some 53)) rfl rfl rfl ?_
 refine PQ.off (dst := (some 54)) rfl rfl rfl ?_
 refine PQ.pure (dst := (some 55)) (v := (.bool true)) rfl rfl rfl noStore (none_ok _ _) rfl ?_
 refine PQ.done (d := []) (by kernel_rfl) ?_
 intro _
 refine RA.condT rfl ?_
 refine RA.seq hd ?_
 refine RA.region env_ok ?_
 refine OA.p (some 4) (.bool false) rfl rfl rfl rfl ?_
 refine OA.nil ?_
 intro _
 refine RA.ret env_ok ?_
 refine ⟨.inr rfl, [(.bool false)], (resL_cons rfl resL_nil), [], (Less.of (fun p hp => by simp at hp) (gone_of (by simp only [goneP, memP, List.cons_append, List.nil_append, true_or, or_true, true_and, and_true, or_false] <;> omega))), ⟨rfl, rfl⟩⟩

theorem dPutNAN {n : Nat} {σ : Store} (hd : Dom n σ) (s jn t NX : Nat) (nx : List Ux) (hnx : nx.length = NX) (ht : t < NX) (h1 : s ≠ jn)  (M : Nat) (hM : M = 0) (ssn : Int) (pr : BitVec 32) (da : ByteArray) (hl : ¬ less16 (u16N ssn) (nx.getD t dUx).z) (hmv : ¬ [(Msg.mk ((t : Nat) : Int) ssn false pr da)].findIdx (qq ((t : Nat) : Int) (nx.getD t dUx).z) < [(Msg.mk ((t : Nat) : Int) ssn false pr da)].length) (hs : σ s = some ⟨[[(.slice (some ⟨jn, 0, none⟩) NX 0), (.slice none 0 0), (.slice none 0 0)]], 3, 101, true⟩) (hjn : σ jn = some (oUx nx))  : CQ Try.prog noDen 14 [(Pt s 0 0), (.agg ⟨[(.int .i64 ((t : Nat) : Int)), (.int .i64 ssn), (.bool false), (W pr), (.string da)]⟩)] n σ (fun v n' d => ∃ jw2, n ≤ jw2 ∧ jw2 < n' ∧ v = .bool true ∧ d = [(s, some ⟨[[(.slice (some ⟨jn, 0, none⟩) NX 0), (.slice (some ⟨jw2, 0, none⟩) 1 0), (.slice none 0 0)]], 3, 101, true⟩), (jw2, some (oMsg [(Msg.mk ((t : Nat) : Int) ssn false pr da)]))]) := by
 have lhs := hd.lt hs
 have lhjn := hd.lt hjn
 refine CQ.body (E := env) env_ok hd rfl rfl (by show _ ≤ _; exact of_decide_eq_true (by kernel_rfl)) ?_
 refine RA.seq hd ?_
 refine RA.region env_ok ?_
 refine OA.op1 (dst := (some 3)) (v := (Pt n 0 0)) (n1 := (n + 1)) (w := (n, some ⟨[[(.int .i64 ((t : Nat) : Int)), (.int .i64 ssn), (.bool false), (W pr), (.string da)]], 5, 29, true⟩)) rfl rfl rfl rfl (by omega) ?_
 refine OA.p (some 4) (.bool false) rfl rfl rfl rfl ?_
 refine OA.nil ?_
 intro _
 refine RA.seq hd ?_
 refine RA.seq hd ?_
 refine RA.par (md := [some [], some [], some [], some [], some [n], some [], some [], some [], some [], some [n], some [], some [], some [], some [s], some [], some [], some []]) env_ok (hd.of (by omega) (kb1 (by omega))) (by kernel_rfl) ?_
 refine PQ.pure (dst := (some 6)) (v := (Pt s 0 0)) rfl rfl rfl noStore (none_ok _ _) rfl ?_
 refine PQ.pure (dst := (some 7)) (v := (.bool false)) rfl rfl rfl noStore (none_ok _ _) rfl ?_
 refine PQ.pure (dst := (some 8)) (v := (.bool false)) rfl rfl rfl noStore (none_ok _ _) rfl ?_
 refine PQ.pure (dst := (some 9)) (v := (Pt n 0 0)) rfl rfl rfl noStore (none_ok _ _) rfl ?_
 refine PQ.pure (dst := (some 10)) (v := (.int .i64 ((t : Nat) : Int))) rfl rfl rfl (app [(n, some ⟨[[(.int .i64 ((t : Nat) : Int)), (.int .i64 ssn), (.bool false), (W pr), (.string da)]], 5, 29, true⟩)] noStore) (seen_one (V := []) (D := [(n, some ⟨[[(.int .i64 ((t : Nat) : Int)), (.int .i64 ssn), (.bool false), (W pr), (.string da)]], 5, 29, true⟩)]) (by kernel_rfl) get_here) (r_load1 rfl rfl rfl rfl rfl get_here rfl rfl) ?_
 have hc1 : ¬ (((t : Nat) : Int) < 0) := fun hdd => by exfalso; first | exact hl hdd | (rw [hc] at hdd; cases hdd) | omega
 refine PQ.pure (dst := (some 11)) (v := (.bool false)) rfl rfl rfl noStore (none_ok _ _) (Eq.trans (r_bin rfl rfl rfl (b_lss rfl)) (dF hc1)) ?_
 refine PQ.pure (dst := (some 12)) (v := (.bool false)) rfl rfl rfl noStore (none_ok _ _) rfl ?_
 refine PQ.pure (dst := (some 13)) (v := (.bool false)) rfl rfl rfl noStore (none_ok _ _) rfl ?_
 refine PQ.pure (dst := (some 14)) (v := (Pt n 0 0)) rfl rfl rfl noStore (none_ok _ _) rfl ?_
 refine PQ.pure (dst := (some 15)) (v := (.int .i64 ((t : Nat) : Int))) rfl rfl rfl (app [(n, some ⟨[[(.int .i64 ((t : Nat) : Int)), (.int .i64 ssn), (.bool false), (W pr), (.string da)]], 5, 29, true⟩)] noStore) (seen_one (V := []) (D := [(n, some ⟨[[(.int .i64 ((t : Nat) : Int)), (.int .i64 ssn), (.bool false), (W pr), (.string da)]], 5, 29, true⟩)]) (by kernel_rfl) get_here) (r_load1 rfl rfl rfl rfl rfl get_here rfl rfl) ?_
 refine PQ.pure (dst := (some 16)) (v := (Pt s 0 0)) rfl rfl rfl noStore (none_ok _ _) rfl ?_
 refine PQ.pure (dst := (some 17)) (v := (Pt s 0 0)) rfl rfl rfl noStore (none_ok _ _) rfl ?_
 refine PQ.pure (dst := (some 18)) (v := (Pt s 0 0)) rfl rfl rfl noStore (none_ok _ _) rfl ?_
 refine PQ.pure (dst := (some 19)) (v := (.slice (some ⟨jn, 0, none⟩) NX 0)) rfl rfl rfl (app [(s, some ⟨[[(.slice (some ⟨jn, 0, none⟩) NX 0), (.slice none 0 0), (.slice none 0 0)]], 3, 101, true⟩)] noStore) (seen_one (V := []) (D := [(n, some ⟨[[(.int .i64 ((t : Nat) : Int)), (.int .i64 ssn), (.bool false), (W pr), (.string da)]], 5, 29, true⟩)]) (by kernel_rfl) (get_there (by omega) hs)) (r_load1 rfl rfl rfl rfl rfl get_here rfl rfl) ?_
 refine PQ.pure (dst := (some 20)) (v := (.int .i64 ((NX : Nat) : Int))) rfl rfl rfl noStore (none_ok _ _) rfl ?_
 have hc2 : ¬ (((NX : Nat) : Int) ≤ ((t : Nat) : Int)) := fun hdd => by exfalso; first | exact hl hdd | (rw [hc] at hdd; cases hdd) | omega
 refine PQ.pure (dst := (some 21)) (v := (.bool false)) rfl rfl rfl noStore (none_ok _ _) (Eq.trans (r_bin rfl rfl rfl (b_geq rfl)) (dF hc2)) ?_
 refine PQ.pure (dst := (some 22)) (v := (.bool false)) rfl rfl rfl noStore (none_ok _ _) rfl ?_
 refine PQ.done (d := []) (by kernel_rfl) ?_
 intro _
 refine RA.condF rfl ?_
 refine RA.skip env_ok ?_
 intro _
 refine RA.seq hd ?_
 refine RA.seq hd ?_
 refine RA.region env_ok ?_
 refine OA.p (some 23) (Pt n 0 2) rfl rfl rfl rfl ?_
 refine OA.p (some 24) (.bool false) rfl rfl rfl (r_load1 rfl rfl rfl rfl rfl get_here rfl rfl) ?_
 refine OA.nil ?_
 intro _
 refine RA.condF rfl ?_
 refine RA.skip env_ok ?_
 intro _
 refine RA.seq hd ?_
 refine RA.region env_ok ?_
 refine OA.p (some 35) (Pt n 0 1) rfl rfl rfl rfl ?_
 refine OA.p (some 36) (.int .i64 ssn) rfl rfl rfl (r_load1 rfl rfl rfl rfl rfl get_here rfl rfl) ?_
 refine OA.p (some 37) (.int .u16 (((u16N ssn) : Nat) : Int)) rfl rfl rfl (r_cvt rfl rfl rfl rfl rfl ⟨_, rfl⟩ (wrap_u16s _)) ?_
 refine OA.op1 (dst := (some 5)) (v := (.pointer (some ⟨(n + 1), 0, some 0⟩))) (n1 := (n + 2)) (w := ((n + 1), some ⟨[[(.int .u16 0)]], 1, 102, true⟩)) rfl rfl rfl rfl (by omega) ?_
 refine OA.op1 (dst := none) (v := (.tuple #[])) (n1 := (n + 2)) (w := ((n + 1), some ⟨[[(.int .u16 (((u16N ssn) : Nat) : Int))]], 1, 102, true⟩)) rfl rfl rfl (r_store rfl rfl rfl rfl rfl rfl rfl get_here rfl rfl (Nat.le_of_ble_eq_true rfl) rfl) (by omega) ?_
 refine OA.nil ?_
 intro _
 refine RA.rebase [(0, (Pt s 0 0)), (1, (.agg ⟨[(.int .i64 ((t : Nat) : Int)), (.int .i64 ssn), (.bool false), (W pr), (.string da)]⟩)), (3, (Pt n 0 0)), (4, (.bool false)), (5, (.pointer (some ⟨(n + 1), 0, some 0⟩))), (22, (.bool false)), (24, (.bool false))] ⟨rfl, rfl, rfl, rfl, rfl, rfl, rfl, trivial⟩ (fun τr1 => ?_)
 refine RA.seq hd ?_
 refine RA.seq hd ?_
 refine RA.par (md := [some [(n + 1)], some [], some [], some [], some [s], some [], some [n], none, none, some [], some [], some [], some [], some [], some [s], some [], none, some []]) env_ok (hd.of (by omega) (kb3 (by omega))) (by kernel_rfl) ?_
 refine PQ.pure (dst := (some 38)) (v := (.int .u16 (((u16N ssn) : Nat) : Int))) rfl rfl rfl (app [((n + 1), some ⟨[[(.int .u16 (((u16N ssn) : Nat) : Int))]], 1, 102, true⟩)] noStore) (seen_one (V := []) (D := [((n + 1), some ⟨[[(.int .u16 (((u16N ssn) : Nat) : Int))]], 1, 102, true⟩), ((n + 1), some ⟨[[(.int .u16 0)]], 1, 102, true⟩), (n, some ⟨[[(.int .i64 ((t : Nat) : Int)), (.int .i64 ssn), (.bool false), (W pr), (.string da)]], 5, 29, true⟩)]) (by kernel_rfl) get_here) (r_load1 rfl rfl rfl rfl rfl get_here rfl rfl) ?_
 refine PQ.pure (dst := (some 39)) (v := (Pt s 0 0)) rfl rfl rfl noStore (none_ok _ _) rfl ?_
 refine PQ.pure (dst := (some 40)) (v := (Pt s 0 0)) rfl rfl rfl noStore (none_ok _ _) rfl ?_
 refine PQ.pure (dst := (some 41)) (v := (Pt s 0 0)) rfl rfl rfl noStore (none_ok _ _) rfl ?_
 refine PQ.pure (dst := (some 42)) (v := (.slice (some ⟨jn, 0, none⟩) NX 0)) rfl rfl rfl (app [(s, some ⟨[[(.slice (some ⟨jn, 0, none⟩) NX 0), (.slice none 0 0), (.slice none 0 0)]], 3, 101, true⟩)] noStore) (seen_one (V := []) (D := [((n + 1), some ⟨[[(.int .u16 (((u16N ssn) : Nat) : Int))]], 1, 102, true⟩), ((n + 1), some ⟨[[(.int .u16 0)]], 1, 102, true⟩), (n, some ⟨[[(.int .i64 ((t : Nat) : Int)), (.int .i64 ssn), (.bool false), (W pr), (.string da)]], 5, 29, true⟩)]) (by kernel_rfl) (gt3 (by omega) hs)) (r_load1 rfl rfl rfl rfl rfl get_here rfl rfl) ?_
 refine PQ.pure (dst := (some 43)) (v := (Pt n 0 0)) rfl rfl rfl noStore (none_ok _ _) rfl ?_
 refine PQ.pure (dst := (some 44)) (v := (.int .i64 ((t : Nat) : Int))) rfl rfl rfl (app [(n, some ⟨[[(.int .i64 ((t : Nat) : Int)), (.int .i64 ssn), (.bool false), (W pr), (.string da)]], 5, 29, true⟩)] noStore) (seen_one (V := []) (D := [((n + 1), some ⟨[[(.int .u16 (((u16N ssn) : Nat) : Int))]], 1, 102, true⟩), ((n + 1), some ⟨[[(.int .u16 0)]], 1, 102, true⟩), (n, some ⟨[[(.int .i64 ((t : Nat) : Int)), (.int .i64 ssn), (.bool false), (W pr), (.string da)]], 5, 29, true⟩)]) (by kernel_rfl) (gt2 (by omega) get_here)) (r_load1 rfl rfl rfl rfl rfl get_here rfl rfl) ?_
 refine PQ.pure (dst := (some 45)) (v := (Pt jn t 0)) rfl rfl rfl _ (seen_any (V := []) (D := [((n + 1), some ⟨[[(.int .u16 (((u16N ssn) : Nat) : Int))]], 1, 102, true⟩), ((n + 1), some ⟨[[(.int .u16 0)]], 1, 102, true⟩), (n, some ⟨[[(.int .i64 ((t : Nat) : Int)), (.int .i64 ssn), (.bool false), (W pr), (.string da)]], 5, 29, true⟩)]) (by kernel_rfl)) (r_iaS (l := t) rfl rfl rfl rfl rfl rfl (by omega) (by omega) (gt3 (by omega) hjn) rfl (by omega)) ?_
 refine PQ.pure (dst := (some 46)) (v := (.int .u16 (((nx.getD t dUx).z : Nat) : Int))) rfl rfl rfl _ (seen_any (V := []) (D := [((n + 1), some ⟨[[(.int .u16 (((u16N ssn) : Nat) : Int))]], 1, 102, true⟩), ((n + 1), some ⟨[[(.int .u16 0)]], 1, 102, true⟩), (n, some ⟨[[(.int .i64 ((t : Nat) : Int)), (.int .i64 ssn), (.bool false), (W pr), (.string da)]], 5, 29, true⟩)]) (by kernel_rfl)) (r_loadF (c := cUx) dUx rfl rfl rfl rfl rfl (gt3 (by omega) hjn) (by rw [hnx]; omega) rfl) ?_
 have hc3 : ¬ (less16 (u16N ssn) (nx.getD t dUx).z) := fun hdd => by exfalso; first | exact hl hdd | (rw [hc] at hdd; cases hdd) | omega
 refine PQ.callP (dst := (some 47)) (all := [(.int .u16 (((u16N ssn) : Nat) : Int)), (.int .u16 (((nx.getD t dUx).z : Nat) : Int))]) (v := (.bool false)) noStore (dom_none _) rfl rfl rfl rfl rfl rfl rfl rfl (none_ok _ _) (PS.to (dLess (u16N ssn) (nx.getD t dUx).z) (show (.bool (decide (less16 (u16N ssn) (nx.getD t dUx).z))) = ((.bool false) : Value) from (by first | (rw [decide_eq_false hc3]; done) | (rw [decide_eq_false hc3]; rfl)))) ?_
 intro n2 hn2
 refine PQ.pure (dst := (some 48)) (v := (.bool false)) rfl rfl rfl noStore (none_ok _ _) rfl ?_
 refine PQ.pure (dst := (some 49)) (v := (Pt s 0 0)) rfl rfl rfl noStore (none_ok _ _) rfl ?_
 refine PQ.pure (dst := (some 50)) (v := (Pt s 0 0)) rfl rfl rfl noStore (none_ok _ _) rfl ?_
 refine PQ.pure (dst := (some 51)) (v := (Pt s 0 1)) rfl rfl rfl noStore (none_ok _ _) rfl ?_
 refine PQ.pure (dst := (some 52)) (v := (.slice none 0 0)) rfl rfl rfl (app [(s, some ⟨[[(.slice (some ⟨jn, 0, none⟩) NX 0), (.slice none 0 0), (.slice none 0 0)]], 3, 101, true⟩)] noStore) (seen_one (V := []) (D := [((n + 1), some ⟨[[(.int .u16 (((u16N ssn) : Nat) : Int))]], 1, 102, true⟩), ((n + 1), some ⟨[[(.int .u16 0)]], 1, 102, true⟩), (n, some ⟨[[(.int .i64 ((t : Nat) : Int)), (.int .i64 ssn), (.bool false), (W pr), (.string da)]], 5, 29, true⟩)]) (by kernel_rfl) (gt3 (by omega) hs)) (r_load1 rfl rfl rfl rfl rfl get_here rfl rfl) ?_
 refine PQ.pure (dst := (some 53)) (v := (.func (.func 58) ⟨[]⟩ ⟨[(Pt n 0 0), (.pointer (some ⟨(n + 1), 0, some 0⟩))]⟩)) rfl rfl rfl noStore (none_ok _ _) rfl ?_
 refine PQ.callP (dst := (some 54)) (all := (xDl34 n)) (v := (.bool false)) _ (hd.of (by omega) (kb3 (by omega))) rfl rfl rfl rfl rfl rfl rfl rfl (seen_any (V := []) (D := [((n + 1), some ⟨[[(.int .u16 (((u16N ssn) : Nat) : Int))]], 1, 102, true⟩), ((n + 1), some ⟨[[(.int .u16 0)]], 1, 102, true⟩), (n, some ⟨[[(.int .i64 ((t : Nat) : Int)), (.int .i64 ssn), (.bool false), (W pr), (.string da)]], 5, 29, true⟩)]) (by kernel_rfl)) (dCont0 n (n + 1)) ?_
 intro n3 hn3
 refine PQ.pure (dst := (some 55)) (v := (.bool false)) rfl rfl rfl noStore (none_ok _ _) rfl ?_
 refine PQ.done (d := []) (by kernel_rfl) ?_
 intro _
 refine RA.condF rfl ?_
 refine RA.skip env_ok ?_
 intro _
 refine RA.seq hd ?_
 refine RA.par (md := [some [], some [], some [], some [], some [s], some [n], some [], none, some [], some [], none]) env_ok (hd.of (by omega) (kb3 (by omega))) (by kernel_rfl) ?_
 refine PQ.pure (dst := (some 56)) (v := (Pt s 0 0)) rfl rfl rfl noStore (none_ok _ _) rfl ?_
 refine PQ.pure (dst := (some 57)) (v := (Pt s 0 0)) rfl rfl rfl noStore (none_ok _ _) rfl ?_
 refine PQ.pure (dst := (some 58)) (v := (Pt s 0 0)) rfl rfl rfl noStore (none_ok _ _) rfl ?_
 refine PQ.pure (dst := (some 59)) (v := (Pt s 0 1)) rfl rfl rfl noStore (none_ok _ _) rfl ?_
 refine PQ.pure (dst := (some 60)) (v := (.slice none 0 0)) rfl rfl rfl (app [(s, some ⟨[[(.slice (some ⟨jn, 0, none⟩) NX 0), (.slice none 0 0), (.slice none 0 0)]], 3, 101, true⟩)] noStore) (seen_one (V := []) (D := [((n + 1), some ⟨[[(.int .u16 (((u16N ssn) : Nat) : Int))]], 1, 102, true⟩), ((n + 1), some ⟨[[(.int .u16 0)]], 1, 102, true⟩), (n, some ⟨[[(.int .i64 ((t : Nat) : Int)), (.int .i64 ssn), (.bool false), (W pr), (.string da)]], 5, 29, true⟩)]) (by kernel_rfl) (gt3 (by omega) hs)) (r_load1 rfl rfl rfl rfl rfl get_here rfl rfl) ?_
 refine PQ.pure (dst := (some 61)) (v := (.agg ⟨[(.int .i64 ((t : Nat) : Int)), (.int .i64 ssn), (.bool false), (W pr), (.string da)]⟩)) rfl rfl rfl (app [(n, some ⟨[[(.int .i64 ((t : Nat) : Int)), (.int .i64 ssn), (.bool false), (W pr), (.string da)]], 5, 29, true⟩)] noStore) (seen_one (V := []) (D := [((n + 1), some ⟨[[(.int .u16 (((u16N ssn) : Nat) : Int))]], 1, 102, true⟩), ((n + 1), some ⟨[[(.int .u16 0)]], 1, 102, true⟩), (n, some ⟨[[(.int .i64 ((t : Nat) : Int)), (.int .i64 ssn), (.bool false), (W pr), (.string da)]], 5, 29, true⟩)]) (by kernel_rfl) (gt2 (by omega) get_here)) (r_loadA rfl rfl rfl rfl get_here rfl rfl rfl) ?_
 refine PQ.op (dst := (some 62)) (v := (.slice (some ⟨n3, 0, none⟩) 1 0)) (n1 := (n3 + 1)) (d1 := [(n3, some ⟨[[(.int .i64 ((t : Nat) : Int)), (.int .i64 ssn), (.bool false), (W pr), (.string da)]], 5, 29, true⟩)]) rfl rfl rfl noStore (none_ok _ _) (by kernel_rfl) (by omega) (kp1 (wr_new (by omega) (by omega))) ?_
 refine PQ.op (dst := (some 63)) (v := (.slice (some ⟨(n3 + 1), 0, none⟩) 1 0)) (n1 := (n3 + 2)) (d1 := [((n3 + 1), some (oMsg [(Msg.mk ((t : Nat) : Int) ssn false pr da)]))]) rfl rfl rfl _ (seen_any (V := [(n3, some ⟨[[(.int .i64 ((t : Nat) : Int)), (.int .i64 ssn), (.bool false), (W pr), (.string da)]], 5, 29, true⟩)]) (D := [((n + 1), some ⟨[[(.int .u16 (((u16N ssn) : Nat) : Int))]], 1, 102, true⟩), ((n + 1), some ⟨[[(.int .u16 0)]], 1, 102, true⟩), (n, some ⟨[[(.int .i64 ((t : Nat) : Int)), (.int .i64 ssn), (.bool false), (W pr), (.string da)]], 5, 29, true⟩)]) (by kernel_rfl)) (r_append0R (c := cMsg) (x := (Msg.mk ((t : Nat) : Int) ssn false pr da)) rfl rfl rfl rfl rfl rfl rfl rfl rfl rfl (by decide) get_here (of_decide_eq_true (by kernel_rfl))) (by omega) (kp1 (wr_new (by omega) (by omega))) ?_
 refine PQ.pure (dst := (some 64)) (v := (Pt s 0 0)) rfl rfl rfl noStore (none_ok _ _) rfl ?_
 refine PQ.pure (dst := (some 65)) (v := (Pt s 0 1)) rfl rfl rfl noStore (none_ok _ _) rfl ?_
 refine PQ.op (dst := none) (v := (.tuple #[])) (n1 := (n3 + 2)) (d1 := [(s, some ⟨[(xDl39 jn NX n3)], 3, 101, true⟩)]) rfl rfl rfl _ (seen_any (V := [((n3 + 1), some (oMsg [(Msg.mk ((t : Nat) : Int) ssn false pr da)])), (n3, some ⟨[[(.int .i64 ((t : Nat) : Int)), (.int .i64 ssn), (.bool false), (W pr), (.string da)]], 5, 29, true⟩)]) (D := [((n + 1), some ⟨[[(.int .u16 (((u16N ssn) : Nat) : Int))]], 1, 102, true⟩), ((n + 1), some ⟨[[(.int .u16 0)]], 1, 102, true⟩), (n, some ⟨[[(.int .i64 ((t : Nat) : Int)), (.int .i64 ssn), (.bool false), (W pr), (.string da)]], 5, 29, true⟩)]) (by kernel_rfl)) (r_store rfl rfl rfl rfl rfl rfl rfl (gt5 (by omega) hs) rfl rfl (Nat.le_of_ble_eq_true rfl) rfl) (by omega) (kp1 (wr_tight (by kernel_rfl) (by omega))) ?_
 refine PQ.done (d := [(s, some ⟨[(xDl39 jn NX n3)], 3, 101, true⟩), ((n3 + 1), some (oMsg [(Msg.mk ((t : Nat) : Int) ssn false pr da)])), (n3, some ⟨[[(.int .i64 ((t : Nat) : Int)), (.int .i64 ssn), (.bool false), (W pr), (.string da)]], 5, 29, true⟩)]) (by kernel_rfl) ?_
 intro _
 refine RA.rebase [(0, (Pt s 0 0)), (1, (.agg ⟨[(.int .i64 ((t : Nat) : Int)), (.int .i64 ssn), (.bool false), (W pr), (.string da)]⟩)), (3, (Pt n 0 0)), (4, (.bool false)), (5, (.pointer (some ⟨(n + 1), 0, some 0⟩))), (22, (.bool false)), (24, (.bool false)), (55, (.bool false))] ⟨rfl, rfl, rfl, rfl, rfl, rfl, rfl, rfl, trivial⟩ (fun τr4 => ?_)
 refine RA.seq hd ?_
 refine RA.region env_ok ?_
 refine OA.p (some 66) (Pt s 0 0) rfl rfl rfl rfl ?_
 refine OA.p (some 67) (Pt n 0 0) rfl rfl rfl rfl ?_
 refine OA.p (some 68) (.int .i64 ((t : Nat) : Int)) rfl rfl rfl (r_load1 rfl rfl rfl rfl rfl (gt5 (by omega) get_here) rfl rfl) ?_
 refine OA.call (dst := (some 69)) (all := [(Pt s 0 0), (.int .i64 ((t : Nat) : Int))]) rfl rfl rfl rfl rfl rfl rfl rfl (CQ.imp (dGoNA (hd.of (by omega) (kb6 (by omega))) s jn (n3 + 1) t NX 1 nx [(Msg.mk ((t : Nat) : Int) ssn false pr da)] hnx (show [(Msg.mk ((t : Nat) : Int) ssn false pr da)].length = 1 from rfl) ht (by omega) (by omega) (by omega) (by omega)  hmv get_here (gt6 (by omega) hjn) (get_there (by omega) get_here)) ?_)
 rintro _ n5 _ ⟨rfl, rfl⟩ hn5
 refine OA.app0 ?_
 refine OA.nil ?_
 intro _
 refine RA.seq hd ?_
 refine RA.region env_ok ?_
 refine OA.p (some 4) (.bool true) rfl rfl rfl rfl ?_
 refine OA.nil ?_
 intro _
 refine RA.ret env_ok ?_
 refine ⟨.inr rfl, [(.bool true)], (resL_cons rfl resL_nil), [(s, some ⟨[(xDl39 jn NX n3)], 3, 101, true⟩), ((n3 + 1), some (oMsg [(Msg.mk ((t : Nat) : Int) ssn false pr da)]))], (Less.of (fac (mm (fun _ => get_here) (fun _ => get_here)) (fac (mm (fun _ => (get_there (by omega) get_here)) (fun _ => (get_there (by omega) get_here))) fan)) (gone_of (by simp only [goneP, memP, List.cons_append, List.nil_append, true_or, or_true, true_and, and_true, or_false] <;> omega))), ⟨(n3 + 1), by omega, by omega, rfl, rfl⟩⟩

theorem dPutNAM {n : Nat} {σ : Store} (hd : Dom n σ) (s jn t NX : Nat) (nx : List Ux) (hnx : nx.length = NX) (ht : t < NX) (h1 : s ≠ jn)  (M : Nat) (hM : M = 0) (ssn : Int) (pr : BitVec 32) (da : ByteArray) (hl : ¬ less16 (u16N ssn) (nx.getD t dUx).z) (R : Nat × List Msg × List Msg) (hR : goS ((t : Nat) : Int) 1 (nx.getD t dUx).z [(Msg.mk ((t : Nat) : Int) ssn false pr da)] ([] : List Msg) = R) (hmv : [(Msg.mk ((t : Nat) : Int) ssn false pr da)].findIdx (qq ((t : Nat) : Int) (nx.getD t dUx).z) < [(Msg.mk ((t : Nat) : Int) ssn false pr da)].length) (hs : σ s = some ⟨[[(.slice (some ⟨jn, 0, none⟩) NX 0), (.slice none 0 0), (.slice none 0 0)]], 3, 101, true⟩) (hjn : σ jn = some (oUx nx))  : CQ Try.prog noDen 14 [(Pt s 0 0), (.agg ⟨[(.int .i64 ((t : Nat) : Int)), (.int .i64 ssn), (.bool false), (W pr), (.string da)]⟩)] n σ (fun v n' d => ∃ jw2 jo2 M2 L3, n ≤ jw2 ∧ jw2 < n' ∧ n ≤ jo2 ∧ jo2 < n' ∧ jw2 ≠ jo2 ∧ L3.length = M2 ∧ M2 ≤ 1 + M ∧ L3 = R.2.2 ∧ v = .bool true ∧ d = [(s, some ⟨[[(.slice (some ⟨jn, 0, none⟩) NX 0), (.slice (some ⟨jw2, 0, none⟩) R.2.1.length 0), (.slice (some ⟨jo2, 0, none⟩) M2 0)]], 3, 101, true⟩), (jn, some (oUx (nx.set t (Ux.mk R.1)))), (jw2, some (oMsg R.2.1)), (jo2, some (oMsg L3))]) := by
 have lhs := hd.lt hs
 have lhjn := hd.lt hjn
 refine CQ.body (E := env) env_ok hd rfl rfl (by show _ ≤ _; exact of_decide_eq_true (by kernel_rfl)) ?_
 refine RA.seq hd ?_
 refine RA.region env_ok ?_
 refine OA.op1 (dst := (some 3)) (v := (Pt n 0 0)) (n1 := (n + 1)) (w := (n, some ⟨[[(.int .i64 ((t : Nat) : Int)), (.int .i64 ssn), (.bool false), (W pr), (.string da)]], 5, 29, true⟩)) rfl rfl rfl rfl (by omega) ?_
 refine OA.p (some 4) (.bool false) rfl rfl rfl rfl ?_
 refine OA.nil ?_
 intro _
 refine RA.seq hd ?_
 refine RA.seq hd ?_
 refine RA.par (md := [some [], some [], some [], some [], some [n], some [], some [], some [], some [], some [n], some [], some [], some [], some [s], some [], some [], some []]) env_ok (hd.of (by omega) (kb1 (by omega))) (by kernel_rfl) ?_
 refine PQ.pure (dst := (some 6)) (v := (Pt s 0 0)) rfl rfl rfl noStore (none_ok _ _) rfl ?_
 refine PQ.pure (dst := (some 7)) (v := (.bool false)) rfl rfl rfl noStore (none_ok _ _) rfl ?_
 refine PQ.pure (dst := (some 8)) (v := (.bool false)) rfl rfl rfl noStore (none_ok _ _) rfl ?_
 refine PQ.pure (dst := (some 9)) (v := (Pt n 0 0)) rfl rfl rfl noStore (none_ok _ _) rfl ?_
 refine PQ.pure (dst := (some 10)) (v := (.int .i64 ((t : Nat) : Int))) rfl rfl rfl (app [(n, some ⟨[[(.int .i64 ((t : Nat) : Int)), (.int .i64 ssn), (.bool false), (W pr), (.string da)]], 5, 29, true⟩)] noStore) (seen_one (V := []) (D := [(n, some ⟨[[(.int .i64 ((t : Nat) : Int)), (.int .i64 ssn), (.bool false), (W pr), (.string da)]], 5, 29, true⟩)]) (by kernel_rfl) get_here) (r_load1 rfl rfl rfl rfl rfl get_here rfl rfl) ?_
 have hc1 : ¬ (((t : Nat) : Int) < 0) := fun hdd => by exfalso; first | exact hl hdd | (rw [hc] at hdd; cases hdd) | omega
 refine PQ.pure (dst := (some 11)) (v := (.bool false)) rfl rfl rfl noStore (none_ok _ _) (Eq.trans (r_bin rfl rfl rfl (b_lss rfl)) (dF hc1)) ?_
 refine PQ.pure (dst := (some 12)) (v := (.bool false)) rfl rfl rfl noStore (none_ok _ _) rfl ?_
 refine PQ.pure (dst := (some 13)) (v := (.bool false)) rfl rfl rfl noStore (none_ok _ _) rfl ?_
 refine PQ.pure (dst := (some 14)) (v := (Pt n 0 0)) rfl rfl rfl noStore (none_ok _ _) rfl ?_
 refine PQ.pure (dst := (some 15)) (v := (.int .i64 ((t : Nat) : Int))) rfl rfl rfl (app [(n, some ⟨[[(.int .i64 ((t : Nat) : Int)), (.int .i64 ssn), (.bool false), (W pr), (.string da)]], 5, 29, true⟩)] noStore) (seen_one (V := []) (D := [(n, some ⟨[[(.int .i64 ((t : Nat) : Int)), (.int .i64 ssn), (.bool false), (W pr), (.string da)]], 5, 29, true⟩)]) (by kernel_rfl) get_here) (r_load1 rfl rfl rfl rfl rfl get_here rfl rfl) ?_
 refine PQ.pure (dst := (some 16)) (v := (Pt s 0 0)) rfl rfl rfl noStore (none_ok _ _) rfl ?_
 refine PQ.pure (dst := (some 17)) (v := (Pt s 0 0)) rfl rfl rfl noStore (none_ok _ _) rfl ?_
 refine PQ.pure (dst := (some 18)) (v := (Pt s 0 0)) rfl rfl rfl noStore (none_ok _ _) rfl ?_
 refine PQ.pure (dst := (some 19)) (v := (.slice (some ⟨jn, 0, none⟩) NX 0)) rfl rfl rfl (app [(s, some ⟨[[(.slice (some ⟨jn, 0, none⟩) NX 0), (.slice none 0 0), (.slice none 0 0)]], 3, 101, true⟩)] noStore) (seen_one (V := []) (D := [(n, some ⟨[[(.int .i64 ((t : Nat) : Int)), (.int .i64 ssn), (.bool false), (W pr), (.string da)]], 5, 29, true⟩)]) (by kernel_rfl) (get_there (by omega) hs)) (r_load1 rfl rfl rfl rfl rfl get_here rfl rfl) ?_
 refine PQ.pure (dst := (some 20)) (v := (.int .i64 ((NX : Nat) : Int))) rfl rfl rfl noStore (none_ok _ _) rfl ?_
 have hc2 : ¬ (((NX : Nat) : Int) ≤ ((t : Nat) : Int)) := fun hdd => by exfalso; first | exact hl hdd | (rw [hc] at hdd; cases hdd) | omega
 refine PQ.pure (dst := (some 21)) (v := (.bool false)) rfl rfl rfl noStore (none_ok _ _) (Eq.trans (r_bin rfl rfl rfl (b_geq rfl)) (dF hc2)) ?_
 refine PQ.pure (dst := (some 22)) (v := (.bool false)) rfl rfl rfl noStore (none_ok _ _) rfl ?_
 refine PQ.done (d := []) (by kernel_rfl) ?_
 intro _
 refine RA.condF rfl ?_
 refine RA.skip env_ok ?_
 intro _
 refine RA.seq hd ?_
 refine RA.seq hd ?_
 refine RA.region env_ok ?_
 refine OA.p (some 23) (Pt n 0 2) rfl rfl rfl rfl ?_
 refine OA.p (some 24) (.bool false) rfl rfl rfl (r_load1 rfl rfl rfl rfl rfl get_here rfl rfl) ?_
 refine OA.nil ?_
 intro _
 refine RA.condF rfl ?_
 refine RA.skip env_ok ?_
 intro _
 refine RA.seq hd ?_
 refine RA.region env_ok ?_
 refine OA.p (some 35) (Pt n 0 1) rfl rfl rfl rfl ?_
 refine OA.p (some 36) (.int .i64 ssn) rfl rfl rfl (r_load1 rfl rfl rfl rfl rfl get_here rfl rfl) ?_
 refine OA.p (some 37) (.int .u16 (((u16N ssn) : Nat) : Int)) rfl rfl rfl (r_cvt rfl rfl rfl rfl rfl ⟨_, rfl⟩ (wrap_u16s _)) ?_
 refine OA.op1 (dst := (some 5)) (v := (.pointer (some ⟨(n + 1), 0, some 0⟩))) (n1 := (n + 2)) (w := ((n + 1), some ⟨[[(.int .u16 0)]], 1, 102, true⟩)) rfl rfl rfl rfl (by omega) ?_
 refine OA.op1 (dst := none) (v := (.tuple #[])) (n1 := (n + 2)) (w := ((n + 1), some ⟨[[(.int .u16 (((u16N ssn) : Nat) : Int))]], 1, 102, true⟩)) rfl rfl rfl (r_store rfl rfl rfl rfl rfl rfl rfl get_here rfl rfl (Nat.le_of_ble_eq_true rfl) rfl) (by omega) ?_
 refine OA.nil ?_
 intro _
 refine RA.rebase [(0, (Pt s 0 0)), (1, (.agg ⟨[(.int .i64 ((t : Nat) : Int)), (.int .i64 ssn), (.bool false), (W pr), (.string da)]⟩)), (3, (Pt n 0 0)), (4, (.bool false)), (5, (.pointer (some ⟨(n + 1), 0, some 0⟩))), (22, (.bool false)), (24, (.bool false))] ⟨rfl, rfl, rfl, rfl, rfl, rfl, rfl, trivial⟩ (fun τr1 => ?_)
 refine RA.seq hd ?_
 refine RA.seq hd ?_
 refine RA.par (md := [some [(n + 1)], some [], some [], some [], some [s], some [], some [n], none, none, some [], some [], some [], some [], some [], some [s], some [], none, some []]) env_ok (hd.of (by omega) (kb3 (by omega))) (by kernel_rfl) ?_
 refine PQ.pure (dst := (some 38)) (v := (.int .u16 (((u16N ssn) : Nat) : Int))) rfl rfl rfl (app [((n + 1), some ⟨[[(.int .u16 (((u16N ssn) : Nat) : Int))]], 1, 102, true⟩)] noStore) (seen_one (V := []) (D := [((n + 1), some ⟨[[(.int .u16 (((u16N ssn) : Nat) : Int))]], 1, 102, true⟩), ((n + 1), some ⟨[[(.int .u16 0)]], 1, 102, true⟩), (n, some ⟨[[(.int .i64 ((t : Nat) : Int)), (.int .i64 ssn), (.bool false), (W pr), (.string da)]], 5, 29, true⟩)]) (by kernel_rfl) get_here) (r_load1 rfl rfl rfl rfl rfl get_here rfl rfl) ?_
 refine PQ.pure (dst := (some 39)) (v := (Pt s 0 0)) rfl rfl rfl noStore (none_ok _ _) rfl ?_
 refine PQ.pure (dst := (some 40)) (v := (Pt s 0 0)) rfl rfl rfl noStore (none_ok _ _) rfl ?_
 refine PQ.pure (dst := (some 41)) (v := (Pt s 0 0)) rfl rfl rfl noStore (none_ok _ _) rfl ?_
 refine PQ.pure (dst := (some 42)) (v := (.slice (some ⟨jn, 0, none⟩) NX 0)) rfl rfl rfl (app [(s, some ⟨[[(.slice (some ⟨jn, 0, none⟩) NX 0), (.slice none 0 0), (.slice none 0 0)]], 3, 101, true⟩)] noStore) (seen_one (V := []) (D := [((n + 1), some ⟨[[(.int .u16 (((u16N ssn) : Nat) : Int))]], 1, 102, true⟩), ((n + 1), some ⟨[[(.int .u16 0)]], 1, 102, true⟩), (n, some ⟨[[(.int .i64 ((t : Nat) : Int)), (.int .i64 ssn), (.bool false), (W pr), (.string da)]], 5, 29, true⟩)]) (by kernel_rfl) (gt3 (by omega) hs)) (r_load1 rfl rfl rfl rfl rfl get_here rfl rfl) ?_
 refine PQ.pure (dst := (some 43)) (v := (Pt n 0 0)) rfl rfl rfl noStore (none_ok _ _) rfl ?_
 refine PQ.pure (dst := (some 44)) (v := (.int .i64 ((t : Nat) : Int))) rfl rfl rfl (app [(n, some ⟨[[(.int .i64 ((t : Nat) : Int)), (.int .i64 ssn), (.bool false), (W pr), (.string da)]], 5, 29, true⟩)] noStore) (seen_one (V := []) (D := [((n + 1), some ⟨[[(.int .u16 (((u16N ssn) : Nat) : Int))]], 1, 102, true⟩), ((n + 1), some ⟨[[(.int .u16 0)]], 1, 102, true⟩), (n, some ⟨[[(.int .i64 ((t : Nat) : Int)), (.int .i64 ssn), (.bool false), (W pr), (.string da)]], 5, 29, true⟩)]) (by kernel_rfl) (gt2 (by omega) get_here)) (r_load1 rfl rfl rfl rfl rfl get_here rfl rfl) ?_
 refine PQ.pure (dst := (some 45)) (v := (Pt jn t 0)) rfl rfl rfl _ (seen_any (V := []) (D := [((n + 1), some ⟨[[(.int .u16 (((u16N ssn) : Nat) : Int))]], 1, 102, true⟩), ((n + 1), some ⟨[[(.int .u16 0)]], 1, 102, true⟩), (n, some ⟨[[(.int .i64 ((t : Nat) : Int)), (.int .i64 ssn), (.bool false), (W pr), (.string da)]], 5, 29, true⟩)]) (by kernel_rfl)) (r_iaS (l := t) rfl rfl rfl rfl rfl rfl (by omega) (by omega) (gt3 (by omega) hjn) rfl (by omega)) ?_
 refine PQ.pure (dst := (some 46)) (v := (.int .u16 (((nx.getD t dUx).z : Nat) : Int))) rfl rfl rfl _ (seen_any (V := []) (D := [((n + 1), some ⟨[[(.int .u16 (((u16N ssn) : Nat) : Int))]], 1, 102, true⟩), ((n + 1), some ⟨[[(.int .u16 0)]], 1, 102, true⟩), (n, some ⟨[[(.int .i64 ((t : Nat) : Int)), (.int .i64 ssn), (.bool false), (W pr), (.string da)]], 5, 29, true⟩)]) (by kernel_rfl)) (r_loadF (c := cUx) dUx rfl rfl rfl rfl rfl (gt3 (by omega) hjn) (by rw [hnx]; omega) rfl) ?_
 have hc3 : ¬ (less16 (u16N ssn) (nx.getD t dUx).z) := fun hdd => by exfalso; first | exact hl hdd | (rw [hc] at hdd; cases hdd) | omega
 refine PQ.callP (dst := (some 47)) (all := [(.int .u16 (((u16N ssn) : Nat) : Int)), (.int .u16 (((nx.getD t dUx).z : Nat) : Int))]) (v := (.bool false)) noStore (dom_none _) rfl rfl rfl rfl rfl rfl rfl rfl (none_ok _ _) (PS.to (dLess (u16N ssn) (nx.getD t dUx).z) (show (.bool (decide (less16 (u16N ssn) (nx.getD t dUx).z))) = ((.bool false) : Value) from (by first | (rw [decide_eq_false hc3]; done) | (rw [decide_eq_false hc3]; rfl)))) ?_
 intro n2 hn2
 refine PQ.pure (dst := (some 48)) (v := (.bool false)) rfl rfl rfl noStore (none_ok _ _) rfl ?_
 refine PQ.pure (dst := (some 49)) (v := (Pt s 0 0)) rfl rfl rfl noStore (none_ok _ _) rfl ?_
 refine PQ.pure (dst := (some 50)) (v := (Pt s 0 0)) rfl rfl rfl noStore (none_ok _ _) rfl ?_
 refine PQ.pure (dst := (some 51)) (v := (Pt s 0 1)) rfl rfl rfl noStore (none_ok _ _) rfl ?_
 refine PQ.pure (dst := (some 52)) (v := (.slice none 0 0)) rfl rfl rfl (app [(s, some ⟨[[(.slice (some ⟨jn, 0, none⟩) NX 0), (.slice none 0 0), (.slice none 0 0)]], 3, 101, true⟩)] noStore) (seen_one (V := []) (D := [((n + 1), some ⟨[[(.int .u16 (((u16N ssn) : Nat) : Int))]], 1, 102, true⟩), ((n + 1), some ⟨[[(.int .u16 0)]], 1, 102, true⟩), (n, some ⟨[[(.int .i64 ((t : Nat) : Int)), (.int .i64 ssn), (.bool false), (W pr), (.string da)]], 5, 29, true⟩)]) (by kernel_rfl) (gt3 (by omega) hs)) (r_load1 rfl rfl rfl rfl rfl get_here rfl rfl) ?_
 refine PQ.pure (dst := (some 53)) (v := (.func (.func 58) ⟨[]⟩ ⟨[(Pt n 0 0), (.pointer (some ⟨(n + 1), 0, some 0⟩))]⟩)) rfl rfl rfl noStore (none_ok _ _) rfl ?_
 refine PQ.callP (dst := (some 54)) (all := (xDl34 n)) (v := (.bool false)) _ (hd.of (by omega) (kb3 (by omega))) rfl rfl rfl rfl rfl rfl rfl rfl (seen_any (V := []) (D := [((n + 1), some ⟨[[(.int .u16 (((u16N ssn) : Nat) : Int))]], 1, 102, true⟩), ((n + 1), some ⟨[[(.int .u16 0)]], 1, 102, true⟩), (n, some ⟨[[(.int .i64 ((t : Nat) : Int)), (.int .i64 ssn), (.bool false), (W pr), (.string da)]], 5, 29, true⟩)]) (by kernel_rfl)) (dCont0 n (n + 1)) ?_
 intro n3 hn3
 refine PQ.pure (dst := (some 55)) (v := (.bool false)) rfl rfl rfl noStore (none_ok _ _) rfl ?_
 refine PQ.done (d := []) (by kernel_rfl) ?_
 intro _
 refine RA.condF rfl ?_
 refine RA.skip env_ok ?_
 intro _
 refine RA.seq hd ?_
 refine RA.par (md := [some [], some [], some [], some [], some [s], some [n], some [], none, some [], some [], none]) env_ok (hd.of (by omega) (kb3 (by omega))) (by kernel_rfl) ?_
 refine PQ.pure (dst := (some 56)) (v := (Pt s 0 0)) rfl rfl rfl noStore (none_ok _ _) rfl ?_
 refine PQ.pure (dst := (some 57)) (v := (Pt s 0 0)) rfl rfl rfl noStore (none_ok _ _) rfl ?_
 refine PQ.pure (dst := (some 58)) (v := (Pt s 0 0)) rfl rfl rfl noStore (none_ok _ _) rfl ?_
 refine PQ.pure (dst := (some 59)) (v := (Pt s 0 1)) rfl rfl rfl noStore (none_ok _ _) rfl ?_
 refine PQ.pure (dst := (some 60)) (v := (.slice none 0 0)) rfl rfl rfl (app [(s, some ⟨[[(.slice (some ⟨jn, 0, none⟩) NX 0), (.slice none 0 0), (.slice none 0 0)]], 3, 101, true⟩)] noStore) (seen_one (V := []) (D := [((n + 1), some ⟨[[(.int .u16 (((u16N ssn) : Nat) : Int))]], 1, 102, true⟩), ((n + 1), some ⟨[[(.int .u16 0)]], 1, 102, true⟩), (n, some ⟨[[(.int .i64 ((t : Nat) : Int)), (.int .i64 ssn), (.bool false), (W pr), (.string da)]], 5, 29, true⟩)]) (by kernel_rfl) (gt3 (by omega) hs)) (r_load1 rfl rfl rfl rfl rfl get_here rfl rfl) ?_
 refine PQ.pure (dst := (some 61)) (v := (.agg ⟨[(.int .i64 ((t : Nat) : Int)), (.int .i64 ssn), (.bool false), (W pr), (.string da)]⟩)) rfl rfl rfl (app [(n, some ⟨[[(.int .i64 ((t : Nat) : Int)), (.int .i64 ssn), (.bool false), (W pr), (.string da)]], 5, 29, true⟩)] noStore) (seen_one (V := []) (D := [((n + 1), some ⟨[[(.int .u16 (((u16N ssn) : Nat) : Int))]], 1, 102, true⟩), ((n + 1), some ⟨[[(.int .u16 0)]], 1, 102, true⟩), (n, some ⟨[[(.int .i64 ((t : Nat) : Int)), (.int .i64 ssn), (.bool false), (W pr), (.string da)]], 5, 29, true⟩)]) (by kernel_rfl) (gt2 (by omega) get_here)) (r_loadA rfl rfl rfl rfl get_here rfl rfl rfl) ?_
 refine PQ.op (dst := (some 62)) (v := (.slice (some ⟨n3, 0, none⟩) 1 0)) (n1 := (n3 + 1)) (d1 := [(n3, some ⟨[[(.int .i64 ((t : Nat) : Int)), (.int .i64 ssn), (.bool false), (W pr), (.string da)]], 5, 29, true⟩)]) rfl rfl rfl noStore (none_ok _ _) (by kernel_rfl) (by omega) (kp1 (wr_new (by omega) (by omega))) ?_
 refine PQ.op (dst := (some 63)) (v := (.slice (some ⟨(n3 + 1), 0, none⟩) 1 0)) (n1 := (n3 + 2)) (d1 := [((n3 + 1), some (oMsg [(Msg.mk ((t : Nat) : Int) ssn false pr da)]))]) rfl rfl rfl _ (seen_any (V := [(n3, some ⟨[[(.int .i64 ((t : Nat) : Int)), (.int .i64 ssn), (.bool false), (W pr), (.string da)]], 5, 29, true⟩)]) (D := [((n + 1), some ⟨[[(.int .u16 (((u16N ssn) : Nat) : Int))]], 1, 102, true⟩), ((n + 1), some ⟨[[(.int .u16 0)]], 1, 102, true⟩), (n, some ⟨[[(.int .i64 ((t : Nat) : Int)), (.int .i64 ssn), (.bool false), (W pr), (.string da)]], 5, 29, true⟩)]) (by kernel_rfl)) (r_append0R (c := cMsg) (x := (Msg.mk ((t : Nat) : Int) ssn false pr da)) rfl rfl rfl rfl rfl rfl rfl rfl rfl rfl (by decide) get_here (of_decide_eq_true (by kernel_rfl))) (by omega) (kp1 (wr_new (by omega) (by omega))) ?_
 refine PQ.pure (dst := (some 64)) (v := (Pt s 0 0)) rfl rfl rfl noStore (none_ok _ _) rfl ?_
 refine PQ.pure (dst := (some 65)) (v := (Pt s 0 1)) rfl rfl rfl noStore (none_ok _ _) rfl ?_
 refine PQ.op (dst := none) (v := (.tuple #[])) (n1 := (n3 + 2)) (d1 := [(s, some ⟨[(xDl39 jn NX n3)], 3, 101, true⟩)]) rfl rfl rfl _ (seen_any (V := [((n3 + 1), some (oMsg [(Msg.mk ((t : Nat) : Int) ssn false pr da)])), (n3, some ⟨[[(.int .i64 ((t : Nat) : Int)), (.int .i64 ssn), (.bool false), (W pr), (.string da)]], 5, 29, true⟩)]) (D := [((n + 1), some ⟨[[(.int .u16 (((u16N ssn) : Nat) : Int))]], 1, 102, true⟩), ((n + 1), some ⟨[[(.int .u16 0)]], 1, 102, true⟩), (n, some ⟨[[(.int .i64 ((t : Nat) : Int)), (.int .i64 ssn), (.bool false), (W pr), (.string da)]], 5, 29, true⟩)]) (by kernel_rfl)) (r_store rfl rfl rfl rfl rfl rfl rfl (gt5 (by omega) hs) rfl rfl (Nat.le_of_ble_eq_true rfl) rfl) (by omega) (kp1 (wr_tight (by kernel_rfl) (by omega))) ?_
 refine PQ.done (d := [(s, some ⟨[(xDl39 jn NX n3)], 3, 101, true⟩), ((n3 + 1), some (oMsg [(Msg.mk ((t : Nat) : Int) ssn false pr da)])), (n3, some ⟨[[(.int .i64 ((t : Nat) : Int)), (.int .i64 ssn), (.bool false), (W pr), (.string da)]], 5, 29, true⟩)]) (by kernel_rfl) ?_
 intro _
 refine RA.rebase [(0, (Pt s 0 0)), (1, (.agg ⟨[(.int .i64 ((t : Nat) : Int)), (.int .i64 ssn), (.bool false), (W pr), (.string da)]⟩)), (3, (Pt n 0 0)), (4, (.bool false)), (5, (.pointer (some ⟨(n + 1), 0, some 0⟩))), (22, (.bool false)), (24, (.bool false)), (55, (.bool false))] ⟨rfl, rfl, rfl, rfl, rfl, rfl, rfl, rfl, trivial⟩ (fun τr4 => ?_)
 refine RA.seq hd ?_
 refine RA.region env_ok ?_
 refine OA.p (some 66) (Pt s 0 0) rfl rfl rfl rfl ?_
 refine OA.p (some 67) (Pt n 0 0) rfl rfl rfl rfl ?_
 refine OA.p (some 68) (.int .i64 ((t : Nat) : Int)) rfl rfl rfl (r_load1 rfl rfl rfl rfl rfl (gt5 (by omega) get_here) rfl rfl) ?_
 refine OA.call (dst := (some 69)) (all := [(Pt s 0 0), (.int .i64 ((t : Nat) : Int))]) rfl rfl rfl rfl rfl rfl rfl rfl (CQ.imp (dGoA (hd.of (by omega) (kb6 (by omega))) s jn (n3 + 1) t NX 1 nx [(Msg.mk ((t : Nat) : Int) ssn false pr da)] hnx (show [(Msg.mk ((t : Nat) : Int) ssn false pr da)].length = 1 from rfl) ht (by omega) (by omega) (by omega) (by omega) M hM R hR hmv get_here (gt6 (by omega) hjn) (get_there (by omega) get_here)) ?_)
 rintro _ n5 _ ⟨jo2, M2, L3, hga, hgb, hL3, hL4, hL5, rfl, rfl⟩ hn5
 show OA _ _ _ _ _ _ _ _ [(s, some ⟨[(xDl33 jn NX n3 R jo2 M2)], 3, 101, true⟩), (jn, some (oUx (nx.set t (Ux.mk R.1)))), ((n3 + 1), some (oMsg R.2.1)), (jo2, some (oMsg L3)), (s, some ⟨[(xDl39 jn NX n3)], 3, 101, true⟩), ((n3 + 1), some (oMsg [(Msg.mk ((t : Nat) : Int) ssn false pr da)])), (n3, some ⟨[[(.int .i64 ((t : Nat) : Int)), (.int .i64 ssn), (.bool false), (W pr), (.string da)]], 5, 29, true⟩), ((n + 1), some ⟨[[(.int .u16 (((u16N ssn) : Nat) : Int))]], 1, 102, true⟩), ((n + 1), some ⟨[[(.int .u16 0)]], 1, 102, true⟩), (n, some ⟨[[(.int .i64 ((t : Nat) : Int)), (.int .i64 ssn), (.bool false), (W pr), (.string da)]], 5, 29, true⟩)] _
 refine OA.nil ?_
 intro _
 refine RA.weaken (D' := [(s, some ⟨[(xDl33 jn NX n3 R jo2 M2)], 3, 101, true⟩), (jn, some (oUx (nx.set t (Ux.mk R.1)))), ((n3 + 1), some (oMsg R.2.1)), (jo2, some (oMsg L3)), (n3, some ⟨[[(.int .i64 ((t : Nat) : Int)), (.int .i64 ssn), (.bool false), (W pr), (.string da)]], 5, 29, true⟩), ((n + 1), some ⟨[[(.int .u16 (((u16N ssn) : Nat) : Int))]], 1, 102, true⟩), (n, some ⟨[[(.int .i64 ((t : Nat) : Int)), (.int .i64 ssn), (.bool false), (W pr), (.string da)]], 5, 29, true⟩)]) hd (Less.of (fac (mm (fun _ => get_here) (fun _ => get_here)) (fac (mm (fun _ => (get_there (by omega) get_here)) (fun _ => (get_there (by omega) get_here))) (fac (mm (fun _ => (gt2 (by omega) get_here)) (fun _ => (gt2 (by omega) get_here))) (fac (mm (fun _ => (gt3 (by omega) get_here)) (fun _ => (gt3 (by omega) get_here))) (fac (mm (fun _ => (gt4 (by omega) get_here)) (fun _ => (gt6 (by omega) get_here))) (fac (mm (fun _ => (gt5 (by omega) get_here)) (fun _ => (gt7 (by omega) get_here))) (fac (mm (fun _ => (gt6 (by omega) get_here)) (fun _ => (gt9 (by omega) get_here))) fan))))))) (gone_of (by simp only [goneP, memP, List.cons_append, List.nil_append, true_or, or_true, true_and, and_true, or_false] <;> omega))) ?_
 refine RA.seq hd ?_
 refine RA.region env_ok ?_
 refine OA.p (some 4) (.bool true) rfl rfl rfl rfl ?_
 refine OA.nil ?_
 intro _
 refine RA.ret env_ok ?_
 refine ⟨.inr rfl, [(.bool true)], (resL_cons rfl resL_nil), [(s, some ⟨[(xDl33 jn NX n3 R jo2 M2)], 3, 101, true⟩), (jn, some (oUx (nx.set t (Ux.mk R.1)))), ((n3 + 1), some (oMsg R.2.1)), (jo2, some (oMsg L3))], (Less.of (fac (mm (fun _ => get_here) (fun _ => get_here)) (fac (mm (fun _ => (get_there (by omega) get_here)) (fun _ => (get_there (by omega) get_here))) (fac (mm (fun _ => (gt2 (by omega) get_here)) (fun _ => (gt2 (by omega) get_here))) (fac (mm (fun _ => (gt3 (by omega) get_here)) (fun _ => (gt3 (by omega) get_here))) fan)))) (gone_of (by simp only [goneP, memP, List.cons_append, List.nil_append, true_or, or_true, true_and, and_true, or_false] <;> omega))), ⟨(n3 + 1), jo2, M2, L3, by omega, by omega, by omega, by omega, by omega, by omega, by omega, hL5, rfl, rfl⟩⟩

theorem dPutNBN {n : Nat} {σ : Store} (hd : Dom n σ) (s jn t NX : Nat) (nx : List Ux) (hnx : nx.length = NX) (ht : t < NX) (h1 : s ≠ jn)  (jo off M : Nat) (L2 : List Msg) (hL2 : L2.length = off + M) (hM : M ≤ 100000) (h4 : s ≠ jo) (h5 : jn ≠ jo) (ssn : Int) (pr : BitVec 32) (da : ByteArray) (hl : ¬ less16 (u16N ssn) (nx.getD t dUx).z) (hmv : ¬ [(Msg.mk ((t : Nat) : Int) ssn false pr da)].findIdx (qq ((t : Nat) : Int) (nx.getD t dUx).z) < [(Msg.mk ((t : Nat) : Int) ssn false pr da)].length) (hs : σ s = some ⟨[[(.slice (some ⟨jn, 0, none⟩) NX 0), (.slice none 0 0), (.slice (some ⟨jo, off, none⟩) M 0)]], 3, 101, true⟩) (hjn : σ jn = some (oUx nx)) (hjo : σ jo = some (oMsg L2))  : CQ Try.prog noDen 14 [(Pt s 0 0), (.agg ⟨[(.int .i64 ((t : Nat) : Int)), (.int .i64 ssn), (.bool false), (W pr), (.string da)]⟩)] n σ (fun v n' d => ∃ jw2, n ≤ jw2 ∧ jw2 < n' ∧ v = .bool true ∧ d = [(s, some ⟨[[(.slice (some ⟨jn, 0, none⟩) NX 0), (.slice (some ⟨jw2, 0, none⟩) 1 0), (.slice (some ⟨jo, off, none⟩) M 0)]], 3, 101, true⟩), (jw2, some (oMsg [(Msg.mk ((t : Nat) : Int) ssn false pr da)]))]) := by
 have lhs := hd.lt hs
 have lhjn := hd.lt hjn
 have lhjo := hd.lt hjo
 refine CQ.body (E := env) env_ok hd rfl rfl (by show _ ≤ _; exact of_decide_eq_true (by kernel_rfl)) ?_
 refine RA.seq hd ?_
 refine RA.region env_ok ?_
 refine OA.op1 (dst := (some 3)) (v := (Pt n 0 0)) (n1 := (n + 1)) (w := (n, some ⟨[[(.int .i64 ((t : Nat) : Int)), (.int .i64 ssn), (.bool false), (W pr), (.string da)]], 5, 29, true⟩)) rfl rfl rfl rfl (by omega) ?_
 refine OA.p (some 4) (.bool false) rfl rfl rfl rfl ?_
 refine OA.nil ?_
 intro _
 refine RA.seq hd ?_
 refine RA.seq hd ?_
 refine RA.par (md := [some [], some [], some [], some [], some [n], some [], some [], some [], some [], some [n], some [], some [], some [], some [s], some [], some [], some []]) env_ok (hd.of (by omega) (kb1 (by omega))) (by kernel_rfl) ?_
 refine PQ.pure (dst := (some 6)) (v := (Pt s 0 0)) rfl rfl rfl noStore (none_ok _ _) rfl ?_
 refine PQ.pure (dst := (some 7)) (v := (.bool false)) rfl rfl rfl noStore (none_ok _ _) rfl ?_
 refine PQ.pure (dst := (some 8)) (v := (.bool false)) rfl rfl rfl noStore (none_ok _ _) rfl ?_
 refine PQ.pure (dst := (some 9)) (v := (Pt n 0 0)) rfl rfl rfl noStore (none_ok _ _) rfl ?_
 refine PQ.pure (dst := (some 10)) (v := (.int .i64 ((t : Nat) : Int))) rfl rfl rfl (app [(n, some ⟨[[(.int .i64 ((t : Nat) : Int)), (.int .i64 ssn), (.bool false), (W pr), (.string da)]], 5, 29, true⟩)] noStore) (seen_one (V := []) (D := [(n, some ⟨[[(.int .i64 ((t : Nat) : Int)), (.int .i64 ssn), (.bool false), (W pr), (.string da)]], 5, 29, true⟩)]) (by kernel_rfl) get_here) (r_load1 rfl rfl rfl rfl rfl get_here rfl rfl) ?_
 have hc1 : ¬ (((t : Nat) : Int) < 0) := fun hdd => by exfalso; first | exact hl hdd | (rw [hc] at hdd; cases hdd) | omega
 refine PQ.pure (dst := (some 11)) (v := (.bool false)) rfl rfl rfl noStore (none_ok _ _) (Eq.trans (r_bin rfl rfl rfl (b_lss rfl)) (dF hc1)) ?_
 refine PQ.pure (dst := (some 12)) (v := (.bool false)) rfl rfl rfl noStore (none_ok _ _) rfl ?_
 refine PQ.pure (dst := (some 13)) (v := (.bool false)) rfl rfl rfl noStore (none_ok _ _) rfl ?_
 refine PQ.pure (dst := (some 14)) (v := (Pt n 0 0)) rfl rfl rfl noStore (none_ok _ _) rfl ?_
 refine PQ.pure (dst := (some 15)) (v := (.int .i64 ((t : Nat) : Int))) rfl rfl rfl (app [(n, some ⟨[[(.int .i64 ((t : Nat) : Int)), (.int .i64 ssn), (.bool false), (W pr), (.string da)]], 5, 29, true⟩)] noStore) (seen_one (V := []) (D := [(n, some ⟨[[(.int .i64 ((t : Nat) : Int)), (.int .i64 ssn), (.bool false), (W pr), (.string da)]], 5, 29, true⟩)]) (by kernel_rfl) get_here) (r_load1 rfl rfl rfl rfl rfl get_here rfl rfl) ?_
 refine PQ.pure (dst := (some 16)) (v := (Pt s 0 0)) rfl rfl rfl noStore (none_ok _ _) rfl ?_
 refine PQ.pure (dst := (some 17)) (v := (Pt s 0 0)) rfl rfl rfl noStore (none_ok _ _) rfl ?_
 refine PQ.pure (dst := (some 18)) (v := (Pt s 0 0)) rfl rfl rfl noStore (none_ok _ _) rfl ?_
 refine PQ.pure (dst := (some 19)) (v := (.slice (some ⟨jn, 0, none⟩) NX 0)) rfl rfl rfl (app [(s, some ⟨[(xDl310 jn NX jo off M)], 3, 101, true⟩)] noStore) (seen_one (V := []) (D := [(n, some ⟨[[(.int .i64 ((t : Nat) : Int)), (.int .i64 ssn), (.bool false), (W pr), (.string da)]], 5, 29, true⟩)]) (by kernel_rfl) (get_there (by omega) hs)) (r_load1 rfl rfl rfl rfl rfl get_here rfl rfl) ?_
 refine PQ.pure (dst := (some 20)) (v := (.int .i64 ((NX : Nat) : Int))) rfl rfl rfl noStore (none_ok _ _) rfl ?_
 have hc2 : ¬ (((NX : Nat) : Int) ≤ ((t : Nat) : Int)) := fun hdd => by exfalso; first | exact hl hdd | (rw [hc] at hdd; cases hdd) | omega
 refine PQ.pure (dst := (some 21)) (v := (.bool false)) rfl rfl rfl noStore (none_ok _ _) (Eq.trans (r_bin rfl rfl rfl (b_geq rfl)) (dF hc2)) ?_
 refine PQ.pure (dst := (some 22)) (v := (.bool false)) rfl rfl rfl noStore (none_ok _ _) rfl ?_
 refine PQ.done (d := []) (by kernel_rfl) ?_
 intro _
 refine RA.condF rfl ?_
 refine RA.skip env_ok ?_
 intro _
 refine RA.seq hd ?_
 refine RA.seq hd ?_
 refine RA.region env_ok ?_
 refine OA.p (some 23) (Pt n 0 2) rfl rfl rfl rfl ?_
 refine OA.p (some 24) (.bool false) rfl rfl rfl (r_load1 rfl rfl rfl rfl rfl get_here rfl rfl) ?_
 refine OA.nil ?_
 intro _
 refine RA.condF rfl ?_
 refine RA.skip env_ok ?_
 intro _
 refine RA.seq hd ?_
 refine RA.region env_ok ?_
 refine OA.p (some 35) (Pt n 0 1) rfl rfl rfl rfl ?_
 refine OA.p (some 36) (.int .i64 ssn) rfl rfl rfl (r_load1 rfl rfl rfl rfl rfl get_here rfl rfl) ?_
 refine OA.p (some 37) (.int .u16 (((u16N ssn) : Nat) : Int)) rfl rfl rfl (r_cvt rfl rfl rfl rfl rfl ⟨_, rfl⟩ (wrap_u16s _)) ?_
 refine OA.op1 (dst := (some 5)) (v := (.pointer (some ⟨(n + 1), 0, some 0⟩))) (n1 := (n + 2)) (w := ((n + 1), some ⟨[[(.int .u16 0)]], 1, 102, true⟩)) rfl rfl rfl rfl (by omega) ?_
 refine OA.op1 (dst := none) (v := (.tuple #[])) (n1 := (n + 2)) (w := ((n + 1), some ⟨[[(.int .u16 (((u16N ssn) : Nat) : Int))]], 1, 102, true⟩)) rfl rfl rfl (r_store rfl rfl rfl rfl rfl rfl rfl get_here rfl rfl (Nat.le_of_ble_eq_true rfl) rfl) (by omega) ?_
 refine OA.nil ?_
 intro _
 refine RA.rebase [(0, (Pt s 0 0)), (1, (.agg ⟨[(.int .i64 ((t : Nat) : Int)), (.int .i64 ssn), (.bool false), (W pr), (.string da)]⟩)), (3, (Pt n 0 0)), (4, (.bool false)), (5, (.pointer (some ⟨(n + 1), 0, some 0⟩))), (22, (.bool false)), (24, (.bool false))] ⟨rfl, rfl, rfl, rfl, rfl, rfl, rfl, trivial⟩ (fun τr1 => ?_)
 refine RA.seq hd ?_
 refine RA.seq hd ?_
 refine RA.par (md := [some [(n + 1)], some [], some [], some [], some [s], some [], some [n], none, none, some [], some [], some [], some [], some [], some [s], some [], none, some []]) env_ok (hd.of (by omega) (kb3 (by omega))) (by kernel_rfl) ?_
 refine PQ.pure (dst := (some 38)) (v := (.int .u16 (((u16N ssn) : Nat) : Int))) rfl rfl rfl (app [((n + 1), some ⟨[[(.int .u16 (((u16N ssn) : Nat) : Int))]], 1, 102, true⟩)] noStore) (seen_one (V := []) (D := [((n + 1), some ⟨[[(.int .u16 (((u16N ssn) : Nat) : Int))]], 1, 102, true⟩), ((n + 1), some ⟨[[(.int .u16 0)]], 1, 102, true⟩), (n, some ⟨[[(.int .i64 ((t : Nat) : Int)), (.int .i64 ssn), (.bool false), (W pr), (.string da)]], 5, 29, true⟩)]) (by kernel_rfl) get_here) (r_load1 rfl rfl rfl rfl rfl get_here rfl rfl) ?_
 refine PQ.pure (dst := (some 39)) (v := (Pt s 0 0)) rfl rfl rfl noStore (none_ok _ _) rfl ?_
 refine PQ.pure (dst := (some 40)) (v := (Pt s 0 0)) rfl rfl rfl noStore (none_ok _ _) rfl ?_
 refine PQ.pure (dst := (some 41)) (v := (Pt s 0 0)) rfl rfl rfl noStore (none_ok _ _) rfl ?_
 refine PQ.pure (dst := (some 42)) (v := (.slice (some ⟨jn, 0, none⟩) NX 0)) rfl rfl rfl (app [(s, some ⟨[(xDl310 jn NX jo off M)], 3, 101, true⟩)] noStore) (seen_one (V := []) (D := [((n + 1), some ⟨[[(.int .u16 (((u16N ssn) : Nat) : Int))]], 1, 102, true⟩), ((n + 1), some ⟨[[(.int .u16 0)]], 1, 102, true⟩), (n, some ⟨[[(.int .i64 ((t : Nat) : Int)), (.int .i64 ssn), (.bool false), (W pr), (.string da)]], 5, 29, true⟩)]) (by kernel_rfl) (gt3 (by omega) hs)) (r_load1 rfl rfl rfl rfl rfl get_here rfl rfl) ?_
 refine PQ.pure (dst := (some 43)) (v := (Pt n 0 0)) rfl rfl rfl noStore (none_ok _ _) rfl ?_
 refine PQ.pure (dst := (some 44)) (v := (.int .i64 ((t : Nat) : Int))) rfl rfl rfl (app [(n, some ⟨[[(.int .i64 ((t : Nat) : Int)), (.int .i64 ssn), (.bool false), (W pr), (.string da)]], 5, 29, true⟩)] noStore) (seen_one (V := []) (D := [((n + 1), some ⟨[[(.int .u16 (((u16N ssn) : Nat) : Int))]], 1, 102, true⟩), ((n + 1), some ⟨[[(.int .u16 0)]], 1, 102, true⟩), (n, some ⟨[[(.int .i64 ((t : Nat) : Int)), (.int .i64 ssn), (.bool false), (W pr), (.string da)]], 5, 29, true⟩)]) (by kernel_rfl) (gt2 (by omega) get_here)) (r_load1 rfl rfl rfl rfl rfl get_here rfl rfl) ?_
 refine PQ.pure (dst := (some 45)) (v := (Pt jn t 0)) rfl rfl rfl _ (seen_any (V := []) (D := [((n + 1), some ⟨[[(.int .u16 (((u16N ssn) : Nat) : Int))]], 1, 102, true⟩), ((n + 1), some ⟨[[(.int .u16 0)]], 1, 102, true⟩), (n, some ⟨[[(.int .i64 ((t : Nat) : Int)), (.int .i64 ssn), (.bool false), (W pr), (.string da)]], 5, 29, true⟩)]) (by kernel_rfl)) (r_iaS (l := t) rfl rfl rfl rfl rfl rfl (by omega) (by omega) (gt3 (by omega) hjn) rfl (by omega)) ?_
 refine PQ.pure (dst := (some 46)) (v := (.int .u16 (((nx.getD t dUx).z : Nat) : Int))) rfl rfl rfl _ (seen_any (V := []) (D := [((n + 1), some ⟨[[(.int .u16 (((u16N ssn) : Nat) : Int))]], 1, 102, true⟩), ((n + 1), some ⟨[[(.int .u16 0)]], 1, 102, true⟩), (n, some ⟨[[(.int .i64 ((t : Nat) : Int)), (.int .i64 ssn), (.bool false), (W pr), (.string da)]], 5, 29, true⟩)]) (by kernel_rfl)) (r_loadF (c := cUx) dUx rfl rfl rfl rfl rfl (gt3 (by omega) hjn) (by rw [hnx]; omega) rfl) ?_
 have hc3 : ¬ (less16 (u16N ssn) (nx.getD t dUx).z) := fun hdd => by exfalso; first | exact hl hdd | (rw [hc] at hdd; cases hdd) | omega
 refine PQ.callP (dst := (some 47)) (all := [(.int .u16 (((u16N ssn) : Nat) : Int)), (.int .u16 (((nx.getD t dUx).z : Nat) : Int))]) (v := (.bool false)) noStore (dom_none _) rfl rfl rfl rfl rfl rfl rfl rfl (none_ok _ _) (PS.to (dLess (u16N ssn) (nx.getD t dUx).z) (show (.bool (decide (less16 (u16N ssn) (nx.getD t dUx).z))) = ((.bool false) : Value) from (by first | (rw [decide_eq_false hc3]; done) | (rw [decide_eq_false hc3]; rfl)))) ?_
 intro n2 hn2
 refine PQ.pure (dst := (some 48)) (v := (.bool false)) rfl rfl rfl noStore (none_ok _ _) rfl ?_
 refine PQ.pure (dst := (some 49)) (v := (Pt s 0 0)) rfl rfl rfl noStore (none_ok _ _) rfl ?_
 refine PQ.pure (dst := (some 50)) (v := (Pt s 0 0)) rfl rfl rfl noStore (none_ok _ _) rfl ?_
 refine PQ.pure (dst := (some 51)) (v := (Pt s 0 1)) rfl rfl rfl noStore (none_ok _ _) rfl ?_
 refine PQ.pure (dst := (some 52)) (v := (.slice none 0 0)) rfl rfl rfl (app [(s, some ⟨[(xDl310 jn NX jo off M)], 3, 101, true⟩)] noStore) (seen_one (V := []) (D := [((n + 1), some ⟨[[(.int .u16 (((u16N ssn) : Nat) : Int))]], 1, 102, true⟩), ((n + 1), some ⟨[[(.int .u16 0)]], 1, 102, true⟩), (n, some ⟨[[(.int .i64 ((t : Nat) : Int)), (.int .i64 ssn), (.bool false), (W pr), (.string da)]], 5, 29, true⟩)]) (by kernel_rfl) (gt3 (by omega) hs)) (r_load1 rfl rfl rfl rfl rfl get_here rfl rfl) ?_
 refine PQ.pure (dst := (some 53)) (v := (.func (.func 58) ⟨[]⟩ ⟨[(Pt n 0 0), (.pointer (some ⟨(n + 1), 0, some 0⟩))]⟩)) rfl rfl rfl noStore (none_ok _ _) rfl ?_
 refine PQ.callP (dst := (some 54)) (all := (xDl34 n)) (v := (.bool false)) _ (hd.of (by omega) (kb3 (by omega))) rfl rfl rfl rfl rfl rfl rfl rfl (seen_any (V := []) (D := [((n + 1), some ⟨[[(.int .u16 (((u16N ssn) : Nat) : Int))]], 1, 102, true⟩), ((n + 1), some ⟨[[(.int .u16 0)]], 1, 102, true⟩), (n, some ⟨[[(.int .i64 ((t : Nat) : Int)), (.int .i64 ssn), (.bool false), (W pr), (.string da)]], 5, 29, true⟩)]) (by kernel_rfl)) (dCont0 n (n + 1)) ?_
 intro n3 hn3
 refine PQ.pure (dst := (some 55)) (v := (.bool false)) rfl rfl rfl noStore (none_ok _ _) rfl ?_
 refine PQ.done (d := []) (by kernel_rfl) ?_
 intro _
 refine RA.condF rfl ?_
 refine RA.skip env_ok ?_
 intro _
 refine RA.seq hd ?_
 refine RA.par (md := [some [], some [], some [], some [], some [s], some [n], some [], none, some [], some [], none]) env_ok (hd.of (by omega) (kb3 (by omega))) (by kernel_rfl) ?_
 refine PQ.pure (dst := (some 56)) (v := (Pt s 0 0)) rfl rfl rfl noStore (none_ok _ _) rfl ?_
 refine PQ.pure (dst := (some 57)) (v := (Pt s 0 0)) rfl rfl rfl noStore (none_ok _ _) rfl ?_
 refine PQ.pure (dst := (some 58)) (v := (Pt s 0 0)) rfl rfl rfl noStore (none_ok _ _) rfl ?_
 refine PQ.pure (dst := (some 59)) (v := (Pt s 0 1)) rfl rfl rfl noStore (none_ok _ _) rfl ?_
 refine PQ.pure (dst := (some 60)) (v := (.slice none 0 0)) rfl rfl rfl (app [(s, some ⟨[(xDl310 jn NX jo off M)], 3, 101, true⟩)] noStore) (seen_one (V := []) (D := [((n + 1), some ⟨[[(.int .u16 (((u16N ssn) : Nat) : Int))]], 1, 102, true⟩), ((n + 1), some ⟨[[(.int .u16 0)]], 1, 102, true⟩), (n, some ⟨[[(.int .i64 ((t : Nat) : Int)), (.int .i64 ssn), (.bool false), (W pr), (.string da)]], 5, 29, true⟩)]) (by kernel_rfl) (gt3 (by omega) hs)) (r_load1 rfl rfl rfl rfl rfl get_here rfl rfl) ?_
 refine PQ.pure (dst := (some 61)) (v := (.agg ⟨[(.int .i64 ((t : Nat) : Int)), (.int .i64 ssn), (.bool false), (W pr), (.string da)]⟩)) rfl rfl rfl (app [(n, some ⟨[[(.int .i64 ((t : Nat) : Int)), (.int .i64 ssn), (.bool false), (W pr), (.string da)]], 5, 29, true⟩)] noStore) (seen_one (V := []) (D := [((n + 1), some ⟨[[(.int .u16 (((u16N ssn) : Nat) : Int))]], 1, 102, true⟩), ((n + 1), some ⟨[[(.int .u16 0)]], 1, 102, true⟩), (n, some ⟨[[(.int .i64 ((t : Nat) : Int)), (.int .i64 ssn), (.bool false), (W pr), (.string da)]], 5, 29, true⟩)]) (by kernel_rfl) (gt2 (by omega) get_here)) (r_loadA rfl rfl rfl rfl get_here rfl rfl rfl) ?_
 refine PQ.op (dst := (some 62)) (v := (.slice (some ⟨n3, 0, none⟩) 1 0)) (n1 := (n3 + 1)) (d1 := [(n3, some ⟨[[(.int .i64 ((t : Nat) : Int)), (.int .i64 ssn), (.bool false), (W pr), (.string da)]], 5, 29, true⟩)]) rfl rfl rfl noStore (none_ok _ _) (by kernel_rfl) (by omega) (kp1 (wr_new (by omega) (by omega))) ?_
 refine PQ.op (dst := (some 63)) (v := (.slice (some ⟨(n3 + 1), 0, none⟩) 1 0)) (n1 := (n3 + 2)) (d1 := [((n3 + 1), some (oMsg [(Msg.mk ((t : Nat) : Int) ssn false pr da)]))]) rfl rfl rfl _ (seen_any (V := [(n3, some ⟨[[(.int .i64 ((t : Nat) : Int)), (.int .i64 ssn), (.bool false), (W pr), (.string da)]], 5, 29, true⟩)]) (D := [((n + 1), some ⟨[[(.int .u16 (((u16N ssn) : Nat) : Int))]], 1, 102, true⟩), ((n + 1), some ⟨[[(.int .u16 0)]], 1, 102, true⟩), (n, some ⟨[[(.int .i64 ((t : Nat) : Int)), (.int .i64 ssn), (.bool false), (W pr), (.string da)]], 5, 29, true⟩)]) (by kernel_rfl)) (r_append0R (c := cMsg) (x := (Msg.mk ((t : Nat) : Int) ssn false pr da)) rfl rfl rfl rfl rfl rfl rfl rfl rfl rfl (by decide) get_here (of_decide_eq_true (by kernel_rfl))) (by omega) (kp1 (wr_new (by omega) (by omega))) ?_
 refine PQ.pure (dst := (some 64)) (v := (Pt s 0 0)) rfl rfl rfl noStore (none_ok _ _) rfl ?_
 refine PQ.pure (dst := (some 65)) (v := (Pt s 0 1)) rfl rfl rfl noStore (none_ok _ _) rfl ?_
 refine PQ.op (dst := none) (v := (.tuple #[])) (n1 := (n3 + 2)) (d1 := [(s, some ⟨[(xDl36 jn NX n3 jo off M)], 3, 101, true⟩)]) rfl rfl rfl _ (seen_any (V := [((n3 + 1), some (oMsg [(Msg.mk ((t : Nat) : Int) ssn false pr da)])), (n3, some ⟨[[(.int .i64 ((t : Nat) : Int)), (.int .i64 ssn), (.bool false), (W pr), (.string da)]], 5, 29, true⟩)]) (D := [((n + 1), some ⟨[[(.int .u16 (((u16N ssn) : Nat) : Int))]], 1, 102, true⟩), ((n + 1), some ⟨[[(.int .u16 0)]], 1, 102, true⟩), (n, some ⟨[[(.int .i64 ((t : Nat) : Int)), (.int .i64 ssn), (.bool false), (W pr), (.string da)]], 5, 29, true⟩)]) (by kernel_rfl)) (r_store rfl rfl rfl rfl rfl rfl rfl (gt5 (by omega) hs) rfl rfl (Nat.le_of_ble_eq_true rfl) rfl) (by omega) (kp1 (wr_tight (by kernel_rfl) (by omega))) ?_
 refine PQ.done (d := [(s, some ⟨[(xDl36 jn NX n3 jo off M)], 3, 101, true⟩), ((n3 + 1), some (oMsg [(Msg.mk ((t : Nat) : Int) ssn false pr da)])), (n3, some ⟨[[(.int .i64 ((t : Nat) : Int)), (.int .i64 ssn), (.bool false), (W pr), (.string da)]], 5, 29, true⟩)]) (by kernel_rfl) ?_
 intro _
 refine RA.rebase [(0, (Pt s 0 0)), (1, (.agg ⟨[(.int .i64 ((t : Nat) : Int)), (.int .i64 ssn), (.bool false), (W pr), (.string da)]⟩)), (3, (Pt n 0 0)), (4, (.bool false)), (5, (.pointer (some ⟨(n + 1), 0, some 0⟩))), (22, (.bool false)), (24, (.bool false)), (55, (.bool false))] ⟨rfl, rfl, rfl, rfl, rfl, rfl, rfl, rfl, trivial⟩ (fun τr4 => ?_)
 refine RA.seq hd ?_
 refine RA.region env_ok ?_
 refine OA.p (some 66) (Pt s 0 0) rfl rfl rfl rfl ?_
 refine OA.p (some 67) (Pt n 0 0) rfl rfl rfl rfl ?_
 refine OA.p (some 68) (.int .i64 ((t : Nat) : Int)) rfl rfl rfl (r_load1 rfl rfl rfl rfl rfl (gt5 (by omega) get_here) rfl rfl) ?_
 refine OA.call (dst := (some 69)) (all := [(Pt s 0 0), (.int .i64 ((t : Nat) : Int))]) rfl rfl rfl rfl rfl rfl rfl rfl (CQ.imp (dGoNB (hd.of (by omega) (kb6 (by omega))) s jn (n3 + 1) t NX 1 nx [(Msg.mk ((t : Nat) : Int) ssn false pr da)] hnx (show [(Msg.mk ((t : Nat) : Int) ssn false pr da)].length = 1 from rfl) ht (by omega) (by omega) (by omega) (by omega) jo off M hmv get_here (gt6 (by omega) hjn) (get_there (by omega) get_here)) ?_)
 rintro _ n5 _ ⟨rfl, rfl⟩ hn5
 refine OA.app0 ?_
 refine OA.nil ?_
 intro _
 refine RA.seq hd ?_
 refine RA.region env_ok ?_
 refine OA.p (some 4) (.bool true) rfl rfl rfl rfl ?_
 refine OA.nil ?_
 intro _
 refine RA.ret env_ok ?_
 refine ⟨.inr rfl, [(.bool true)], (resL_cons rfl resL_nil), [(s, some ⟨[(xDl36 jn NX n3 jo off M)], 3, 101, true⟩), ((n3 + 1), some (oMsg [(Msg.mk ((t : Nat) : Int) ssn false pr da)]))], (Less.of (fac (mm (fun _ => get_here) (fun _ => get_here)) (fac (mm (fun _ => (get_there (by omega) get_here)) (fun _ => (get_there (by omega) get_here))) fan)) (gone_of (by simp only [goneP, memP, List.cons_append, List.nil_append, true_or, or_true, true_and, and_true, or_false] <;> omega))), ⟨(n3 + 1), by omega, by omega, rfl, rfl⟩⟩

theorem dPutNBM {n : Nat} {σ : Store} (hd : Dom n σ) (s jn t NX : Nat) (nx : List Ux) (hnx : nx.length = NX) (ht : t < NX) (h1 : s ≠ jn)  (jo off M : Nat) (L2 : List Msg) (hL2 : L2.length = off + M) (hM : M ≤ 100000) (h4 : s ≠ jo) (h5 : jn ≠ jo) (ssn : Int) (pr : BitVec 32) (da : ByteArray) (hl : ¬ less16 (u16N ssn) (nx.getD t dUx).z) (R : Nat × List Msg × List Msg) (hR : goS ((t : Nat) : Int) 1 (nx.getD t dUx).z [(Msg.mk ((t : Nat) : Int) ssn false pr da)] (L2.drop off) = R) (hmv : [(Msg.mk ((t : Nat) : Int) ssn false pr da)].findIdx (qq ((t : Nat) : Int) (nx.getD t dUx).z) < [(Msg.mk ((t : Nat) : Int) ssn false pr da)].length) (hs : σ s = some ⟨[[(.slice (some ⟨jn, 0, none⟩) NX 0), (.slice none 0 0), (.slice (some ⟨jo, off, none⟩) M 0)]], 3, 101, true⟩) (hjn : σ jn = some (oUx nx)) (hjo : σ jo = some (oMsg L2))  : CQ Try.prog noDen 14 [(Pt s 0 0), (.agg ⟨[(.int .i64 ((t : Nat) : Int)), (.int .i64 ssn), (.bool false), (W pr), (.string da)]⟩)] n σ (fun v n' d => ∃ jw2 jo2 M2 L3, n ≤ jw2 ∧ jw2 < n' ∧ n ≤ jo2 ∧ jo2 < n' ∧ jw2 ≠ jo2 ∧ L3.length = M2 ∧ M2 ≤ 1 + M ∧ L3 = R.2.2 ∧ v = .bool true ∧ d = [(s, some ⟨[[(.slice (some ⟨jn, 0, none⟩) NX 0), (.slice (some ⟨jw2, 0, none⟩) R.2.1.length 0), (.slice (some ⟨jo2, 0, none⟩) M2 0)]], 3, 101, true⟩), (jn, some (oUx (nx.set t (Ux.mk R.1)))), (jw2, some (oMsg R.2.1)), (jo2, some (oMsg L3)), (jo, none)]) := by
 have lhs := hd.lt hs
 have lhjn := hd.lt hjn
 have lhjo := hd.lt hjo
 refine CQ.body (E := env) env_ok hd rfl rfl (by show _ ≤ _; exact of_decide_eq_true (by kernel_rfl)) ?_
 refine RA.seq hd ?_
 refine RA.region env_ok ?_
 refine OA.op1 (dst := (some 3)) (v := (Pt n 0 0)) (n1 := (n + 1)) (w := (n, some ⟨[[(.int .i64 ((t : Nat) : Int)), (.int .i64 ssn), (.bool false), (W pr), (.string da)]], 5, 29, true⟩)) rfl rfl rfl rfl (by omega) ?_
 refine OA.p (some 4) (.bool false) rfl rfl rfl rfl ?_
 refine OA.nil ?_
 intro _
 refine RA.seq hd ?_
 refine RA.seq hd ?_
 refine RA.par (md := [some [], some [], some [], some [], some [n], some [], some [], some [], some [], some [n], some [], some [], some [], some [s], some [], some [], some []]) env_ok (hd.of (by omega) (kb1 (by omega))) (by kernel_rfl) ?_
 refine PQ.pure (dst := (some 6)) (v := (Pt s 0 0)) rfl rfl rfl noStore (none_ok _ _) rfl ?_
 refine PQ.pure (dst := (some 7)) (v := (.bool false)) rfl rfl rfl noStore (none_ok _ _) rfl ?_
 refine PQ.pure (dst := (some 8)) (v := (.bool false)) rfl rfl rfl noStore (none_ok _ _) rfl ?_
 refine PQ.pure (dst := (some 9)) (v := (Pt n 0 0)) rfl rfl rfl noStore (none_ok _ _) rfl ?_
 refine PQ.pure (dst := (some 10)) (v := (.int .i64 ((t : Nat) : Int))) rfl rfl rfl (app [(n, some ⟨[[(.int .i64 ((t : Nat) : Int)), (.int .i64 ssn), (.bool false), (W pr), (.string da)]], 5, 29, true⟩)] noStore) (seen_one (V := []) (D := [(n, some ⟨[[(.int .i64 ((t : Nat) : Int)), (.int .i64 ssn), (.bool false), (W pr), (.string da)]], 5, 29, true⟩)]) (by kernel_rfl) get_here) (r_load1 rfl rfl rfl rfl rfl get_here rfl rfl) ?_
 have hc1 : ¬ (((t : Nat) : Int) < 0) := fun hdd => by exfalso; first | exact hl hdd | (rw [hc] at hdd; cases hdd) | omega
 refine PQ.pure (dst := (some 11)) (v := (.bool false)) rfl rfl rfl noStore (none_ok _ _) (Eq.trans (r_bin rfl rfl rfl (b_lss rfl)) (dF hc1)) ?_
 refine PQ.pure (dst := (some 12)) (v := (.bool false)) rfl rfl rfl noStore (none_ok _ _) rfl ?_
 refine PQ.pure (dst := (some 13)) (v := (.bool false)) rfl rfl rfl noStore (none_ok _ _) rfl ?_
 refine PQ.pure (dst := (some 14)) (v := (Pt n 0 0)) rfl rfl rfl noStore (none_ok _ _) rfl ?_
 refine PQ.pure (dst := (some 15)) (v := (.int .i64 ((t : Nat) : Int))) rfl rfl rfl (app [(n, some ⟨[[(.int .i64 ((t : Nat) : Int)), (.int .i64 ssn), (.bool false), (W pr), (.string da)]], 5, 29, true⟩)] noStore) (seen_one (V := []) (D := [(n, some ⟨[[(.int .i64 ((t : Nat) : Int)), (.int .i64 ssn), (.bool false), (W pr), (.string da)]], 5, 29, true⟩)]) (by kernel_rfl) get_here) (r_load1 rfl rfl rfl rfl rfl get_here rfl rfl) ?_
 refine PQ.pure (dst := (some 16)) (v := (Pt s 0 0)) rfl rfl rfl noStore (none_ok _ _) rfl ?_
 refine PQ.pure (dst := (some 17)) (v := (Pt s 0 0)) rfl rfl rfl noStore (none_ok _ _) rfl ?_
 refine PQ.pure (dst := (some 18)) (v := (Pt s 0 0)) rfl rfl rfl noStore (none_ok _ _) rfl ?_
 refine PQ.pure (dst := (some 19)) (v := (.slice (some ⟨jn, 0, none⟩) NX 0)) rfl rfl rfl (app [(s, some ⟨[(xDl310 jn NX jo off M)], 3, 101, true⟩)] noStore) (seen_one (V := []) (D := [(n, some ⟨[[(.int .i64 ((t : Nat) : Int)), (.int .i64 ssn), (.bool false), (W pr), (.string da)]], 5, 29, true⟩)]) (by kernel_rfl) (get_there (by omega) hs)) (r_load1 rfl rfl rfl rfl rfl get_here rfl rfl) ?_
 refine PQ.pure (dst := (some 20)) (v := (.int .i64 ((NX : Nat) : Int))) rfl rfl rfl noStore (none_ok _ _) rfl ?_
 have hc2 : ¬ (((NX : Nat) : Int) ≤ ((t : Nat) : Int)) := fun hdd => by exfalso; first | exact hl hdd | (rw [hc] at hdd; cases hdd) | omega
 refine PQ.pure (dst := (some 21)) (v := (.bool false)) rfl rfl rfl noStore (none_ok _ _) (Eq.trans (r_bin rfl rfl rfl (b_geq rfl)) (dF hc2)) ?_
 refine PQ.pure (dst := (some 22)) (v := (.bool false)) rfl rfl rfl noStore (none_ok _ _) rfl ?_
 refine PQ.done (d := []) (by kernel_rfl) ?_
 intro _
 refine RA.condF rfl ?_
 refine RA.skip env_ok ?_
 intro _
 refine RA.seq hd ?_
 refine RA.seq hd ?_
 refine RA.region env_ok ?_
 refine OA.p (some 23) (Pt n 0 2) rfl rfl rfl rfl ?_
 refine OA.p (some 24) (.bool false) rfl rfl rfl (r_load1 rfl rfl rfl rfl rfl get_here rfl rfl) ?_
 refine OA.nil ?_
 intro _
 refine RA.condF rfl ?_
 refine RA.skip env_ok ?_
 intro _
 refine RA.seq hd ?_
 refine RA.region env_ok ?_
 refine OA.p (some 35) (Pt n 0 1) rfl rfl rfl rfl ?_
 refine OA.p (some 36) (.int .i64 ssn) rfl rfl rfl (r_load1 rfl rfl rfl rfl rfl get_here rfl rfl) ?_
 refine OA.p (some 37) (.int .u16 (((u16N ssn) : Nat) : Int)) rfl rfl rfl (r_cvt rfl rfl rfl rfl rfl ⟨_, rfl⟩ (wrap_u16s _)) ?_
 refine OA.op1 (dst := (some 5)) (v := (.pointer (some ⟨(n + 1), 0, some 0⟩))) (n1 := (n + 2)) (w := ((n + 1), some ⟨[[(.int .u16 0)]], 1, 102, true⟩)) rfl rfl rfl rfl (by omega) ?_
 refine OA.op1 (dst := none) (v := (.tuple #[])) (n1 := (n + 2)) (w := ((n + 1), some ⟨[[(.int .u16 (((u16N ssn) : Nat) : Int))]], 1, 102, true⟩)) rfl rfl rfl (r_store rfl rfl rfl rfl rfl rfl rfl get_here rfl rfl (Nat.le_of_ble_eq_true rfl) rfl) (by omega) ?_
 refine OA.nil ?_
 intro _
 refine RA.rebase [(0, (Pt s 0 0)), (1, (.agg ⟨[(.int .i64 ((t : Nat) : Int)), (.int .i64 ssn), (.bool false), (W pr), (.string da)]⟩)), (3, (Pt n 0 0)), (4, (.bool false)), (5, (.pointer (some ⟨(n + 1), 0, some 0⟩))), (22, (.bool false)), (24, (.bool false))] ⟨rfl, rfl, rfl, rfl, rfl, rfl, rfl, trivial⟩ (fun τr1 => ?_)
 refine RA.seq hd ?_
 refine RA.seq hd ?_
 refine RA.par (md := [some [(n + 1)], some [], some [], some [], some [s], some [], some [n], none, none, some [], some [], some [], some [], some [], some [s], some [], none, some []]) env_ok (hd.of (by omega) (kb3 (by omega))) (by kernel_rfl) ?_
 refine PQ.pure (dst := (some 38)) (v := (.int .u16 (((u16N ssn) : Nat) : Int))) rfl rfl rfl (app [((n + 1), some ⟨[[(.int .u16 (((u16N ssn) : Nat) : Int))]], 1, 102, true⟩)] noStore) (seen_one (V := []) (D := [((n + 1), some ⟨[[(.int .u16 (((u16N ssn) : Nat) : Int))]], 1, 102, true⟩), ((n + 1), some ⟨[[(.int .u16 0)]], 1, 102, true⟩), (n, some ⟨[[(.int .i64 ((t : Nat) : Int)), (.int .i64 ssn), (.bool false), (W pr), (.string da)]], 5, 29, true⟩)]) (by kernel_rfl) get_here) (r_load1 rfl rfl rfl rfl rfl get_here rfl rfl) ?_
 refine PQ.pure (dst := (some 39)) (v := (Pt s 0 0)) rfl rfl rfl noStore (none_ok _ _) rfl ?_
 refine PQ.pure (dst := (some 40)) (v := (Pt s 0 0)) rfl rfl rfl noStore (none_ok _ _) rfl ?_
 refine PQ.pure (dst := (some 41)) (v := (Pt s 0 0)) rfl rfl rfl noStore (none_ok _ _) rfl ?_
 refine PQ.pure (dst := (some 42)) (v := (.slice (some ⟨jn, 0, none⟩) NX 0)) rfl rfl rfl (app [(s, some ⟨[(xDl310 jn NX jo off M)], 3, 101, true⟩)] noStore) (seen_one (V := []) (D := [((n + 1), some ⟨[[(.int .u16 (((u16N ssn) : Nat) : Int))]], 1, 102, true⟩), ((n + 1), some ⟨[[(.int .u16 0)]], 1, 102, true⟩), (n, some ⟨[[(.int .i64 ((t : Nat) : Int)), (.int .i64 ssn), (.bool false), (W pr), (.string da)]], 5, 29, true⟩)]) (by kernel_rfl) (gt3 (by omega) hs)) (r_load1 rfl rfl rfl rfl rfl get_here rfl rfl) ?_
 refine PQ.pure (dst := (some 43)) (v := (Pt n 0 0)) rfl rfl rfl noStore (none_ok _ _) rfl ?_
 refine PQ.pure (dst := (some 44)) (v := (.int .i64 ((t : Nat) : Int))) rfl rfl rfl (app [(n, some ⟨[[(.int .i64 ((t : Nat) : Int)), (.int .i64 ssn), (.bool false), (W pr), (.string da)]], 5, 29, true⟩)] noStore) (seen_one (V := []) (D := [((n + 1), some ⟨[[(.int .u16 (((u16N ssn) : Nat) : Int))]], 1, 102, true⟩), ((n + 1), some ⟨[[(.int .u16 0)]], 1, 102, true⟩), (n, some ⟨[[(.int .i64 ((t : Nat) : Int)), (.int .i64 ssn), (.bool false), (W pr), (.string da)]], 5, 29, true⟩)]) (by kernel_rfl) (gt2 (by omega) get_here)) (r_load1 rfl rfl rfl rfl rfl get_here rfl rfl) ?_
 refine PQ.pure (dst := (some 45)) (v := (Pt jn t 0)) rfl rfl rfl _ (seen_any (V := []) (D := [((n + 1), some ⟨[[(.int .u16 (((u16N ssn) : Nat) : Int))]], 1, 102, true⟩), ((n + 1), some ⟨[[(.int .u16 0)]], 1, 102, true⟩), (n, some ⟨[[(.int .i64 ((t : Nat) : Int)), (.int .i64 ssn), (.bool false), (W pr), (.string da)]], 5, 29, true⟩)]) (by kernel_rfl)) (r_iaS (l := t) rfl rfl rfl rfl rfl rfl (by omega) (by omega) (gt3 (by omega) hjn) rfl (by omega)) ?_
 refine PQ.pure (dst := (some 46)) (v := (.int .u16 (((nx.getD t dUx).z : Nat) : Int))) rfl rfl rfl _ (seen_any (V := []) (D := [((n + 1), some ⟨[[(.int .u16 (((u16N ssn) : Nat) : Int))]], 1, 102, true⟩), ((n + 1), some ⟨[[(.int .u16 0)]], 1, 102, true⟩), (n, some ⟨[[(.int .i64 ((t : Nat) : Int)), (.int .i64 ssn), (.bool false), (W pr), (.string da)]], 5, 29, true⟩)]) (by kernel_rfl)) (r_loadF (c := cUx) dUx rfl rfl rfl rfl rfl (gt3 (by omega) hjn) (by rw [hnx]; omega) rfl) ?_
 have hc3 : ¬ (less16 (u16N ssn) (nx.getD t dUx).z) := fun hdd => by exfalso; first | exact hl hdd | (rw [hc] at hdd; cases hdd) | omega
 refine PQ.callP (dst := (some 47)) (all := [(.int .u16 (((u16N ssn) : Nat) : Int)), (.int .u16 (((nx.getD t dUx).z : Nat) : Int))]) (v := (.bool false)) noStore (dom_none _) rfl rfl rfl rfl rfl rfl rfl rfl (none_ok _ _) (PS.to (dLess (u16N ssn) (nx.getD t dUx).z) (show (.bool (decide (less16 (u16N ssn) (nx.getD t dUx).z))) = ((.bool false) : Value) from (by first | (rw [decide_eq_false hc3]; done) | (rw [decide_eq_false hc3]; rfl)))) ?_
 intro n2 hn2
 refine PQ.pure (dst := (some 48)) (v := (.bool false)) rfl rfl rfl noStore (none_ok _ _) rfl ?_
 refine PQ.pure (dst := (some 49)) (v := (Pt s 0 0)) rfl rfl rfl noStore (none_ok _ _) rfl ?_
 refine PQ.pure (dst := (some 50)) (v := (Pt s 0 0)) rfl rfl rfl noStore (none_ok _ _) rfl ?_
 refine PQ.pure (dst := (some 51)) (v := (Pt s 0 1)) rfl rfl rfl noStore (none_ok _ _) rfl ?_
 refine PQ.pure (dst := (some 52)) (v := (.slice none 0 0)) rfl rfl rfl (app [(s, some ⟨[(xDl310 jn NX jo off M)], 3, 101, true⟩)] noStore) (seen_one (V := []) (D := [((n + 1), some ⟨[[(.int .u16 (((u16N ssn) : Nat) : Int))]], 1, 102, true⟩), ((n + 1), some ⟨[[(.int .u16 0)]], 1, 102, true⟩), (n, some ⟨[[(.int .i64 ((t : Nat) : Int)), (.int .i64 ssn), (.bool false), (W pr), (.string da)]], 5, 29, true⟩)]) (by kernel_rfl) (gt3 (by omega) hs)) (r_load1 rfl rfl rfl rfl rfl get_here rfl rfl) ?_
 refine PQ.pure (dst := (some 53)) (v := (.func (.func 58) ⟨[]⟩ ⟨[(Pt n 0 0), (.pointer (some ⟨(n + 1), 0, some 0⟩))]⟩)) rfl rfl rfl noStore (none_ok _ _) rfl ?_
 refine PQ.callP (dst := (some 54)) (all := (xDl34 n)) (v := (.bool false)) _ (hd.of (by omega) (kb3 (by omega))) rfl rfl rfl rfl rfl rfl rfl rfl (seen_any (V := []) (D := [((n + 1), some ⟨[[(.int .u16 (((u16N ssn) : Nat) : Int))]], 1, 102, true⟩), ((n + 1), some ⟨[[(.int .u16 0)]], 1, 102, true⟩), (n, some ⟨[[(.int .i64 ((t : Nat) : Int)), (.int .i64 ssn), (.bool false), (W pr), (.string da)]], 5, 29, true⟩)]) (by kernel_rfl)) (dCont0 n (n + 1)) ?_
 intro n3 hn3
 refine PQ.pure (dst := (some 55)) (v := (.bool false)) rfl rfl rfl noStore (none_ok _ _) rfl ?_
 refine PQ.done (d := []) (by kernel_rfl) ?_
 intro _
 refine RA.condF rfl ?_
 refine RA.skip env_ok ?_
 intro _
 refine RA.seq hd ?_
 refine RA.par (md := [some [], some [], some [], some [], some [s], some [n], some [], none, some [], some [], none]) env_ok (hd.of (by omega) (kb3 (by omega))) (by kernel_rfl) ?_
 refine PQ.pure (dst := (some 56)) (v := (Pt s 0 0)) rfl rfl rfl noStore (none_ok _ _) rfl ?_
 refine PQ.pure (dst := (some 57)) (v := (Pt s 0 0)) rfl rfl rfl noStore (none_ok _ _) rfl ?_
 refine PQ.pure (dst := (some 58)) (v := (Pt s 0 0)) rfl rfl rfl noStore (none_ok _ _) rfl ?_
 refine PQ.pure (dst := (some 59)) (v := (Pt s 0 1)) rfl rfl rfl noStore (none_ok _ _) rfl ?_
 refine PQ.pure (dst := (some 60)) (v := (.slice none 0 0)) rfl rfl rfl (app [(s, some ⟨[(xDl310 jn NX jo off M)], 3, 101, true⟩)] noStore) (seen_one (V := []) (D := [((n + 1), some ⟨[[(.int .u16 (((u16N ssn) : Nat) : Int))]], 1, 102, true⟩), ((n + 1), some ⟨[[(.int .u16 0)]], 1, 102, true⟩), (n, some ⟨[[(.int .i64 ((t : Nat) : Int)), (.int .i64 ssn), (.bool false), (W pr), (.string da)]], 5, 29, true⟩)]) (by kernel_rfl) (gt3 (by omega) hs)) (r_load1 rfl rfl rfl rfl rfl get_here rfl rfl) ?_
 refine PQ.pure (dst := (some 61)) (v := (.agg ⟨[(.int .i64 ((t : Nat) : Int)), (.int .i64 ssn), (.bool false), (W pr), (.string da)]⟩)) rfl rfl rfl (app [(n, some ⟨[[(.int .i64 ((t : Nat) : Int)), (.int .i64 ssn), (.bool false), (W pr), (.string da)]], 5, 29, true⟩)] noStore) (seen_one (V := []) (D := [((n + 1), some ⟨[[(.int .u16 (((u16N ssn) : Nat) : Int))]], 1, 102, true⟩), ((n + 1), some ⟨[[(.int .u16 0)]], 1, 102, true⟩), (n, some ⟨[[(.int .i64 ((t : Nat) : Int)), (.int .i64 ssn), (.bool false), (W pr), (.string da)]], 5, 29, true⟩)]) (by kernel_rfl) (gt2 (by omega) get_here)) (r_loadA rfl rfl rfl rfl get_here rfl rfl rfl) ?_
 refine PQ.op (dst := (some 62)) (v := (.slice (some ⟨n3, 0, none⟩) 1 0)) (n1 := (n3 + 1)) (d1 := [(n3, some ⟨[[(.int .i64 ((t : Nat) : Int)), (.int .i64 ssn), (.bool false), (W pr), (.string da)]], 5, 29, true⟩)]) rfl rfl rfl noStore (none_ok _ _) (by kernel_rfl) (by omega) (kp1 (wr_new (by omega) (by omega))) ?_
 refine PQ.op (dst := (some 63)) (v := (.slice (some ⟨(n3 + 1), 0, none⟩) 1 0)) (n1 := (n3 + 2)) (d1 := [((n3 + 1), some (oMsg [(Msg.mk ((t : Nat) : Int) ssn false pr da)]))]) rfl rfl rfl _ (seen_any (V := [(n3, some ⟨[[(.int .i64 ((t : Nat) : Int)), (.int .i64 ssn), (.bool false), (W pr), (.string da)]], 5, 29, true⟩)]) (D := [((n + 1), some ⟨[[(.int .u16 (((u16N ssn) : Nat) : Int))]], 1, 102, true⟩), ((n + 1), some ⟨[[(.int .u16 0)]], 1, 102, true⟩), (n, some ⟨[[(.int .i64 ((t : Nat) : Int)), (.int .i64 ssn), (.bool false), (W pr), (.string da)]], 5, 29, true⟩)]) (by kernel_rfl)) (r_append0R (c := cMsg) (x := (Msg.mk ((t : Nat) : Int) ssn false pr da)) rfl rfl rfl rfl rfl rfl rfl rfl rfl rfl (by decide) get_here (of_decide_eq_true (by kernel_rfl))) (by omega) (kp1 (wr_new (by omega) (by omega))) ?_
 refine PQ.pure (dst := (some 64)) (v := (Pt s 0 0)) rfl rfl rfl noStore (none_ok _ _) rfl ?_
 refine PQ.pure (dst := (some 65)) (v := (Pt s 0 1)) rfl rfl rfl noStore (none_ok _ _) rfl ?_
 refine PQ.op (dst := none) (v := (.tuple #[])) (n1 := (n3 + 2)) (d1 := [(s, some ⟨[(xDl36 jn NX n3 jo off M)], 3, 101, true⟩)]) rfl rfl rfl _ (seen_any (V := [((n3 + 1), some (oMsg [(Msg.mk ((t : Nat) : Int) ssn false pr da)])), (n3, some ⟨[[(.int .i64 ((t : Nat) : Int)), (.int .i64 ssn), (.bool false), (W pr), (.string da)]], 5, 29, true⟩)]) (D := [((n + 1), some ⟨[[(.int .u16 (((u16N ssn) : Nat) : Int))]], 1, 102, true⟩), ((n + 1), some ⟨[[(.int .u16 0)]], 1, 102, true⟩), (n, some ⟨[[(.int .i64 ((t : Nat) : Int)), (.int .i64 ssn), (.bool false), (W pr), (.string da)]], 5, 29, true⟩)]) (by kernel_rfl)) (r_store rfl rfl rfl rfl rfl rfl rfl (gt5 (by omega) hs) rfl rfl (Nat.le_of_ble_eq_true rfl) rfl) (by omega) (kp1 (wr_tight (by kernel_rfl) (by omega))) ?_
 refine PQ.done (d := [(s, some ⟨[(xDl36 jn NX n3 jo off M)], 3, 101, true⟩), ((n3 + 1), some (oMsg [(Msg.mk ((t : Nat) : Int) ssn false pr da)])), (n3, some ⟨[[(.int .i64 ((t : Nat) : Int)), (.int .i64 ssn), (.bool false), (W pr), (.string da)]], 5, 29, true⟩)]) (by kernel_rfl) ?_
 intro _
 refine RA.rebase [(0, (Pt s 0 0)), (1, (.agg ⟨[(.int .i64 ((t : Nat) : Int)), (.int .i64 ssn), (.bool false), (W pr), (.string da)]⟩)), (3, (Pt n 0 0)), (4, (.bool false)), (5, (.pointer (some ⟨(n + 1), 0, some 0⟩))), (22, (.bool false)), (24, (.bool false)), (55, (.bool false))] ⟨rfl, rfl, rfl, rfl, rfl, rfl, rfl, rfl, trivial⟩ (fun τr4 => ?_)
 refine RA.seq hd ?_
 refine RA.region env_ok ?_
 refine OA.p (some 66) (Pt s 0 0) rfl rfl rfl rfl ?_
 refine OA.p (some 67) (Pt n 0 0) rfl rfl rfl rfl ?_
 refine OA.p (some 68) (.int .i64 ((t : Nat) : Int)) rfl rfl rfl (r_load1 rfl rfl rfl rfl rfl (gt5 (by omega) get_here) rfl rfl) ?_
 refine OA.call (dst := (some 69)) (all := [(Pt s 0 0), (.int .i64 ((t : Nat) : Int))]) rfl rfl rfl rfl rfl rfl rfl rfl (CQ.imp (dGoB (hd.of (by omega) (kb6 (by omega))) s jn (n3 + 1) t NX 1 nx [(Msg.mk ((t : Nat) : Int) ssn false pr da)] hnx (show [(Msg.mk ((t : Nat) : Int) ssn false pr da)].length = 1 from rfl) ht (by omega) (by omega) (by omega) (by omega) jo off M L2 hL2 hM (by omega) (by omega) (by omega) R hR hmv get_here (gt6 (by omega) hjn) (get_there (by omega) get_here) (gt6 (by omega) hjo)) ?_)
 rintro _ n5 _ ⟨jo2, M2, L3, hga, hgb, hL3, hL4, hL5, rfl, rfl⟩ hn5
 show OA _ _ _ _ _ _ _ _ [(s, some ⟨[(xDl33 jn NX n3 R jo2 M2)], 3, 101, true⟩), (jn, some (oUx (nx.set t (Ux.mk R.1)))), ((n3 + 1), some (oMsg R.2.1)), (jo2, some (oMsg L3)), (jo, none), (s, some ⟨[(xDl36 jn NX n3 jo off M)], 3, 101, true⟩), ((n3 + 1), some (oMsg [(Msg.mk ((t : Nat) : Int) ssn false pr da)])), (n3, some ⟨[[(.int .i64 ((t : Nat) : Int)), (.int .i64 ssn), (.bool false), (W pr), (.string da)]], 5, 29, true⟩), ((n + 1), some ⟨[[(.int .u16 (((u16N ssn) : Nat) : Int))]], 1, 102, true⟩), ((n + 1), some ⟨[[(.int .u16 0)]], 1, 102, true⟩), (n, some ⟨[[(.int .i64 ((t : Nat) : Int)), (.int .i64 ssn), (.bool false), (W pr), (.string da)]], 5, 29, true⟩)] _
 refine OA.nil ?_
 intro _
 refine RA.weaken (D' := [(s, some ⟨[(xDl33 jn NX n3 R jo2 M2)], 3, 101, true⟩), (jn, some (oUx (nx.set t (Ux.mk R.1)))), ((n3 + 1), some (oMsg R.2.1)), (jo2, some (oMsg L3)), (jo, none), (n3, some ⟨[[(.int .i64 ((t : Nat) : Int)), (.int .i64 ssn), (.bool false), (W pr), (.string da)]], 5, 29, true⟩), ((n + 1), some ⟨[[(.int .u16 (((u16N ssn) : Nat) : Int))]], 1, 102, true⟩), (n, some ⟨[[(.int .i64 ((t : Nat) : Int)), (.int .i64 ssn), (.bool false), (W pr), (.string da)]], 5, 29, true⟩)]) hd (Less.of (fac (mm (fun _ => get_here) (fun _ => get_here)) (fac (mm (fun _ => (get_there (by omega) get_here)) (fun _ => (get_there (by omega) get_here))) (fac (mm (fun _ => (gt2 (by omega) get_here)) (fun _ => (gt2 (by omega) get_here))) (fac (mm (fun _ => (gt3 (by omega) get_here)) (fun _ => (gt3 (by omega) get_here))) (fac (mm (fun _ => (gt4 (by omega) get_here)) (fun _ => (gt4 (by omega) get_here))) (fac (mm (fun _ => (gt5 (by omega) get_here)) (fun _ => (gt7 (by omega) get_here))) (fac (mm (fun _ => (gt6 (by omega) get_here)) (fun _ => (gt8 (by omega) get_here))) (fac (mm (fun _ => (gt7 (by omega) get_here)) (fun _ => (gt10 (by omega) get_here))) fan)))))))) (gone_of (by simp only [goneP, memP, List.cons_append, List.nil_append, true_or, or_true, true_and, and_true, or_false] <;> omega))) ?_
 refine RA.seq hd ?_
 refine RA.region env_ok ?_
 refine OA.p (some 4) (.bool true) rfl rfl rfl rfl ?_
 refine OA.nil ?_
 intro _
 refine RA.ret env_ok ?_
 refine ⟨.inr rfl, [(.bool true)], (resL_cons rfl resL_nil), [(s, some ⟨[(xDl33 jn NX n3 R jo2 M2)], 3, 101, true⟩), (jn, some (oUx (nx.set t (Ux.mk R.1)))), ((n3 + 1), some (oMsg R.2.1)), (jo2, some (oMsg L3)), (jo, none)], (Less.of (fac (mm (fun _ => get_here) (fun _ => get_here)) (fac (mm (fun _ => (get_there (by omega) get_here)) (fun _ => (get_there (by omega) get_here))) (fac (mm (fun _ => (gt2 (by omega) get_here)) (fun _ => (gt2 (by omega) get_here))) (fac (mm (fun _ => (gt3 (by omega) get_here)) (fun _ => (gt3 (by omega) get_here))) (fac (mm (fun _ => (gt4 (by omega) get_here)) (fun _ => (gt4 (by omega) get_here))) fan))))) (gone_of (by simp only [goneP, memP, List.cons_append, List.nil_append, true_or, or_true, true_and, and_true, or_false] <;> omega))), ⟨(n3 + 1), jo2, M2, L3, by omega, by omega, by omega, by omega, by omega, by omega, by omega, hL5, rfl, rfl⟩⟩

theorem dPutRRa {n : Nat} {σ : Store} (hd : Dom n σ) (s jn t NX : Nat) (nx : List Ux) (hnx : nx.length = NX) (ht : t < NX) (o_ : Value) (ho : oneB o_ = true) (jw K : Nat) (ws : List Msg) (hws : ws.length = K) (hK : K ≤ 900) (h2 : s ≠ jw) (h3 : jn ≠ jw) (ssn : Int) (pr : BitVec 32) (da : ByteArray) (hl : less16 (u16N ssn) (nx.getD t dUx).z) (hs : σ s = some ⟨[[(.slice (some ⟨jn, 0, none⟩) NX 0), (.slice (some ⟨jw, 0, none⟩) K 0), o_]], 3, 101, true⟩) (hjn : σ jn = some (oUx nx)) (hjw : σ jw = some (oMsg ws))  : CQ Try.prog noDen 14 [(Pt s 0 0), (.agg ⟨[(.int .i64 ((t : Nat) : Int)), (.int .i64 ssn), (.bool false), (W pr), (.string da)]⟩)] n σ (fun v n' d => v = .bool false ∧ d = []) := by
 have lhs := hd.lt hs
 have lhjn := hd.lt hjn
 have lhjw := hd.lt hjw
 refine CQ.body (E := env) env_ok hd rfl rfl (by show _ ≤ _; exact of_decide_eq_true (by kernel_rfl)) ?_
 refine RA.seq hd ?_
 refine RA.region env_ok ?_
 refine OA.op1 (dst := (some 3)) (v := (Pt n 0 0)) (n1 := (n + 1)) (w := (n, some ⟨[[(.int .i64 ((t : Nat) : Int)), (.int .i64 ssn), (.bool false), (W pr), (.string da)]], 5, 29, true⟩)) rfl rfl rfl rfl (by omega) ?_
 refine OA.p (some 4) (.bool false) rfl rfl rfl rfl ?_
 refine OA.nil ?_
 intro _
 refine RA.seq hd ?_
 refine RA.seq hd ?_
 refine RA.par (md := [some [], some [], some [], some [], some [n], some [], some [], some [], some [], some [n], some [], some [], some [], some [s], some [], some [], some []]) env_ok (hd.of (by omega) (kb1 (by omega))) (by kernel_rfl) ?_
 refine PQ.pure (dst := (some 6)) (v := (Pt s 0 0)) rfl rfl rfl noStore (none_ok _ _) rfl ?_
 refine PQ.pure (dst := (some 7)) (v := (.bool false)) rfl rfl rfl noStore (none_ok _ _) rfl ?_
 refine PQ.pure (dst := (some 8)) (v := (.bool false)) rfl rfl rfl noStore (none_ok _ _) rfl ?_
 refine PQ.pure (dst := (some 9)) (v := (Pt n 0 0)) rfl rfl rfl noStore (none_ok _ _) rfl ?_
 refine PQ.pure (dst := (some 10)) (v := (.int .i64 ((t : Nat) : Int))) rfl rfl rfl (app [(n, some ⟨[[(.int .i64 ((t : Nat) : Int)), (.int .i64 ssn), (.bool false), (W pr), (.string da)]], 5, 29, true⟩)] noStore) (seen_one (V := []) (D := [(n, some ⟨[[(.int .i64 ((t : Nat) : Int)), (.int .i64 ssn), (.bool false), (W pr), (.string da)]], 5, 29, true⟩)]) (by kernel_rfl) get_here) (r_load1 rfl rfl rfl rfl rfl get_here rfl rfl) ?_
 have hc1 : ¬ (((t : Nat) : Int) < 0) := fun hdd => by exfalso; first | exact hdd hl | exact hl hdd | exact hdd hc | omega
 refine PQ.pure (dst := (some 11)) (v := (.bool false)) rfl rfl rfl noStore (none_ok _ _) (Eq.trans (r_bin rfl rfl rfl (b_lss rfl)) (dF hc1)) ?_
 refine PQ.pure (dst := (some 12)) (v := (.bool false)) rfl rfl rfl noStore (none_ok _ _) rfl ?_
 refine PQ.pure (dst := (some 13)) (v := (.bool false)) rfl rfl rfl noStore (none_ok _ _) rfl ?_
 refine PQ.pure (dst := (some 14)) (v := (Pt n 0 0)) rfl rfl rfl noStore (none_ok _ _) rfl ?_
 refine PQ.pure (dst := (some 15)) (v := (.int .i64 ((t : Nat) : Int))) rfl rfl rfl (app [(n, some ⟨[[(.int .i64 ((t : Nat) : Int)), (.int .i64 ssn), (.bool false), (W pr), (.string da)]], 5, 29, true⟩)] noStore) (seen_one (V := []) (D := [(n, some ⟨[[(.int .i64 ((t : Nat) : Int)), (.int .i64 ssn), (.bool false), (W pr), (.string da)]], 5, 29, true⟩)]) (by kernel_rfl) get_here) (r_load1 rfl rfl rfl rfl rfl get_here rfl rfl) ?_
 refine PQ.pure (dst := (some 16)) (v := (Pt s 0 0)) rfl rfl rfl noStore (none_ok _ _) rfl ?_
 refine PQ.pure (dst := (some 17)) (v := (Pt s 0 0)) rfl rfl rfl noStore (none_ok _ _) rfl ?_
 refine PQ.pure (dst := (some 18)) (v := (Pt s 0 0)) rfl rfl rfl noStore (none_ok _ _) rfl ?_
 refine PQ.pure (dst := (some 19)) (v := (.slice (some ⟨jn, 0, none⟩) NX 0)) rfl rfl rfl (app [(s, some ⟨[[(.slice (some ⟨jn, 0, none⟩) NX 0), (.slice (some ⟨jw, 0, none⟩) K 0), o_]], 3, 101, true⟩)] noStore) (seen_one (V := []) (D := [(n, some ⟨[[(.int .i64 ((t : Nat) : Int)), (.int .i64 ssn), (.bool false), (W pr), (.string da)]], 5, 29, true⟩)]) (by kernel_rfl) (get_there (by omega) hs)) (r_load1 rfl rfl rfl rfl rfl get_here rfl rfl) ?_
 refine PQ.pure (dst := (some 20)) (v := (.int .i64 ((NX : Nat) : Int))) rfl rfl rfl noStore (none_ok _ _) rfl ?_
 have hc2 : ¬ (((NX : Nat) : Int) ≤ ((t : Nat) : Int)) := fun hdd => by exfalso; first | exact hdd hl | exact hl hdd | exact hdd hc | omega
 refine PQ.pure (dst := (some 21)) (v := (.bool false)) rfl rfl rfl noStore (none_ok _ _) (Eq.trans (r_bin rfl rfl rfl (b_geq rfl)) (dF hc2)) ?_
 refine PQ.pure (dst := (some 22)) (v := (.bool false)) rfl rfl rfl noStore (none_ok _ _) rfl ?_
 refine PQ.done (d := []) (by kernel_rfl) ?_
 intro _
 refine RA.condF rfl ?_
 refine RA.skip env_ok ?_
 intro _
 refine RA.seq hd ?_
 refine RA.seq hd ?_
 refine RA.region env_ok ?_
 refine OA.p (some 23) (Pt n 0 2) rfl rfl rfl rfl ?_
 refine OA.p (some 24) (.bool false) rfl rfl rfl (r_load1 rfl rfl rfl rfl rfl get_here rfl rfl) ?_
 refine OA.nil ?_
 intro _
 refine RA.condF rfl ?_
 refine RA.skip env_ok ?_
 intro _
 refine RA.seq hd ?_
 refine RA.region env_ok ?_
 refine OA.p (some 35) (Pt n 0 1) rfl rfl rfl rfl ?_
 refine OA.p (some 36) (.int .i64 ssn) rfl rfl rfl (r_load1 rfl rfl rfl rfl rfl get_here rfl rfl) ?_
 refine OA.p (some 37) (.int .u16 (((u16N ssn) : Nat) : Int)) rfl rfl rfl (r_cvt rfl rfl rfl rfl rfl ⟨_, rfl⟩ (wrap_u16s _)) ?_
 refine OA.op1 (dst := (some 5)) (v := (.pointer (some ⟨(n + 1), 0, some 0⟩))) (n1 := (n + 2)) (w := ((n + 1), some ⟨[[(.int .u16 0)]], 1, 102, true⟩)) rfl rfl rfl rfl (by omega) ?_
 refine OA.op1 (dst := none) (v := (.tuple #[])) (n1 := (n + 2)) (w := ((n + 1), some ⟨[[(.int .u16 (((u16N ssn) : Nat) : Int))]], 1, 102, true⟩)) rfl rfl rfl (r_store rfl rfl rfl rfl rfl rfl rfl get_here rfl rfl (Nat.le_of_ble_eq_true rfl) rfl) (by omega) ?_
 refine OA.nil ?_
 intro _
 refine RA.rebase [(0, (Pt s 0 0)), (1, (.agg ⟨[(.int .i64 ((t : Nat) : Int)), (.int .i64 ssn), (.bool false), (W pr), (.string da)]⟩)), (3, (Pt n 0 0)), (4, (.bool false)), (5, (.pointer (some ⟨(n + 1), 0, some 0⟩))), (22, (.bool false)), (24, (.bool false))] ⟨rfl, rfl, rfl, rfl, rfl, rfl, rfl, trivial⟩ (fun τr1 => ?_)
 refine RA.seq hd ?_
 refine RA.seq hd ?_
 refine RA.par (md := [some [(n + 1)], some [], some [], some [], some [s], some [], some [n], none, none, some [], some [], some [], some [], some [], some [s], some [], none, some []]) env_ok (hd.of (by omega) (kb3 (by omega))) (by kernel_rfl) ?_
 refine PQ.pure (dst := (some 38)) (v := (.int .u16 (((u16N ssn) : Nat) : Int))) rfl rfl rfl (app [((n + 1), some ⟨[[(.int .u16 (((u16N ssn) : Nat) : Int))]], 1, 102, true⟩)] noStore) (seen_one (V := []) (D := [((n + 1), some ⟨[[(.int .u16 (((u16N ssn) : Nat) : Int))]], 1, 102, true⟩), ((n + 1), some ⟨[[(.int .u16 0)]], 1, 102, true⟩), (n, some ⟨[[(.int .i64 ((t : Nat) : Int)), (.int .i64 ssn), (.bool false), (W pr), (.string da)]], 5, 29, true⟩)]) (by kernel_rfl) get_here) (r_load1 rfl rfl rfl rfl rfl get_here rfl rfl) ?_
 refine PQ.pure (dst := (some 39)) (v := (Pt s 0 0)) rfl rfl rfl noStore (none_ok _ _) rfl ?_
 refine PQ.pure (dst := (some 40)) (v := (Pt s 0 0)) rfl rfl rfl noStore (none_ok _ _) rfl ?_
 refine PQ.pure (dst := (some 41)) (v := (Pt s 0 0)) rfl rfl rfl noStore (none_ok _ _) rfl ?_
 refine PQ.pure (dst := (some 42)) (v := (.slice (some ⟨jn, 0, none⟩) NX 0)) rfl rfl rfl (app [(s, some ⟨[[(.slice (some ⟨jn, 0, none⟩) NX 0), (.slice (some ⟨jw, 0, none⟩) K 0), o_]], 3, 101, true⟩)] noStore) (seen_one (V := []) (D := [((n + 1), some ⟨[[(.int .u16 (((u16N ssn) : Nat) : Int))]], 1, 102, true⟩), ((n + 1), some ⟨[[(.int .u16 0)]], 1, 102, true⟩), (n, some ⟨[[(.int .i64 ((t : Nat) : Int)), (.int .i64 ssn), (.bool false), (W pr), (.string da)]], 5, 29, true⟩)]) (by kernel_rfl) (gt3 (by omega) hs)) (r_load1 rfl rfl rfl rfl rfl get_here rfl rfl) ?_
 refine PQ.pure (dst := (some 43)) (v := (Pt n 0 0)) rfl rfl rfl noStore (none_ok _ _) rfl ?_
 refine PQ.pure (dst := (some 44)) (v := (.int .i64 ((t : Nat) : Int))) rfl rfl rfl (app [(n, some ⟨[[(.int .i64 ((t : Nat) : Int)), (.int .i64 ssn), (.bool false), (W pr), (.string da)]], 5, 29, true⟩)] noStore) (seen_one (V := []) (D := [((n + 1), some ⟨[[(.int .u16 (((u16N ssn) : Nat) : Int))]], 1, 102, true⟩), ((n + 1), some ⟨[[(.int .u16 0)]], 1, 102, true⟩), (n, some ⟨[[(.int .i64 ((t : Nat) : Int)), (.int .i64 ssn), (.bool false), (W pr), (.string da)]], 5, 29, true⟩)]) (by kernel_rfl) (gt2 (by omega) get_here)) (r_load1 rfl rfl rfl rfl rfl get_here rfl rfl) ?_
 refine PQ.pure (dst := (some 45)) (v := (Pt jn t 0)) rfl rfl rfl _ (seen_any (V := []) (D := [((n + 1), some ⟨[[(.int .u16 (((u16N ssn) : Nat) : Int))]], 1, 102, true⟩), ((n + 1), some ⟨[[(.int .u16 0)]], 1, 102, true⟩), (n, some ⟨[[(.int .i64 ((t : Nat) : Int)), (.int .i64 ssn), (.bool false), (W pr), (.string da)]], 5, 29, true⟩)]) (by kernel_rfl)) (r_iaS (l := t) rfl rfl rfl rfl rfl rfl (by omega) (by omega) (gt3 (by omega) hjn) rfl (by omega)) ?_
 refine PQ.pure (dst := (some 46)) (v := (.int .u16 (((nx.getD t dUx).z : Nat) : Int))) rfl rfl rfl _ (seen_any (V := []) (D := [((n + 1), some ⟨[[(.int .u16 (((u16N ssn) : Nat) : Int))]], 1, 102, true⟩), ((n + 1), some ⟨[[(.int .u16 0)]], 1, 102, true⟩), (n, some ⟨[[(.int .i64 ((t : Nat) : Int)), (.int .i64 ssn), (.bool false), (W pr), (.string da)]], 5, 29, true⟩)]) (by kernel_rfl)) (r_loadF (c := cUx) dUx rfl rfl rfl rfl rfl (gt3 (by omega) hjn) (by rw [hnx]; omega) rfl) ?_
 have hc3 : less16 (u16N ssn) (nx.getD t dUx).z := Classical.byContradiction (fun hdd => by exfalso; first | exact hdd hl | exact hl hdd | exact hdd hc | omega)
 refine PQ.callP (dst := (some 47)) (all := [(.int .u16 (((u16N ssn) : Nat) : Int)), (.int .u16 (((nx.getD t dUx).z : Nat) : Int))]) (v := (.bool true)) noStore (dom_none _) rfl rfl rfl rfl rfl rfl rfl rfl (none_ok _ _) (PS.to (dLess (u16N ssn) (nx.getD t dUx).z) (show (.bool (decide (less16 (u16N ssn) (nx.getD t dUx).z))) = ((.bool true) : Value) from (by first | (rw [decide_eq_true hc3]; done) | (rw [decide_eq_true hc3]; rfl)))) ?_
 intro n2 hn2
 refine PQ.pure (dst := (some 48)) (v := (.bool true)) rfl rfl rfl noStore (none_ok _ _) rfl ?_
 refine PQ.off (dst := (some 49)) rfl rfl rfl ?_
 refine PQ.off (dst := (some 50)) rfl rfl rfl ?_
 refine PQ.off (dst := (some 51)) rfl rfl rfl ?_
 refine PQ.off (dst := (some 52)) rfl rfl rfl ?_
 refine PQ.off (dst := (some 53)) rfl rfl rfl ?_
 refine PQ.off (dst := (some 54)) rfl rfl rfl ?_
 refine PQ.pure (dst := (some 55)) (v := (.bool true)) rfl rfl rfl noStore (none_ok _ _) rfl ?_
 refine PQ.done (d := []) (by kernel_rfl) ?_
 intro _
 refine RA.condT rfl ?_
 refine RA.seq hd ?_
 refine RA.region env_ok ?_
 refine OA.p (some 4) (.bool false) rfl rfl rfl rfl ?_
 refine OA.nil ?_
 intro _
 refine RA.ret env_ok ?_
 refine ⟨.inr rfl, [(.bool false)], (resL_cons rfl resL_nil), [], (Less.of (fun p hp => by simp at hp) (gone_of (by simp only [goneP, memP, List.cons_append, List.nil_append, true_or, or_true, true_and, and_true, or_false] <;> omega))), ⟨rfl, rfl⟩⟩

theorem dPutRRb {n : Nat} {σ : Store} (hd : Dom n σ) (s jn t NX : Nat) (nx : List Ux) (hnx : nx.length = NX) (ht : t < NX) (o_ : Value) (ho : oneB o_ = true) (jw K : Nat) (ws : List Msg) (hws : ws.length = K) (hK : K ≤ 900) (h2 : s ≠ jw) (h3 : jn ≠ jw) (ssn : Int) (pr : BitVec 32) (da : ByteArray) (hl : ¬ less16 (u16N ssn) (nx.getD t dUx).z) (hc : ws.any (qq ((t : Nat) : Int) (u16N ssn)) = true) (hs : σ s = some ⟨[[(.slice (some ⟨jn, 0, none⟩) NX 0), (.slice (some ⟨jw, 0, none⟩) K 0), o_]], 3, 101, true⟩) (hjn : σ jn = some (oUx nx)) (hjw : σ jw = some (oMsg ws))  : CQ Try.prog noDen 14 [(Pt s 0 0), (.agg ⟨[(.int .i64 ((t : Nat) : Int)), (.int .i64 ssn), (.bool false), (W pr), (.string da)]⟩)] n σ (fun v n' d => v = .bool false ∧ d = []) := by
 have lhs := hd.lt hs
 have lhjn := hd.lt hjn
 have lhjw := hd.lt hjw
 refine CQ.body (E := env) env_ok hd rfl rfl (by show _ ≤ _; exact of_decide_eq_true (by kernel_rfl)) ?_
 refine RA.seq hd ?_
 refine RA.region env_ok ?_
 refine OA.op1 (dst := (some 3)) (v := (Pt n 0 0)) (n1 := (n + 1)) (w := (n, some ⟨[[(.int .i64 ((t : Nat) : Int)), (.int .i64 ssn), (.bool false), (W pr), (.string da)]], 5, 29, true⟩)) rfl rfl rfl rfl (by omega) ?_
 refine OA.p (some 4) (.bool false) rfl rfl rfl rfl ?_
 refine OA.nil ?_
 intro _
 refine RA.seq hd ?_
 refine RA.seq hd ?_
 refine RA.par (md := [some [], some [], some [], some [], some [n], some [], some [], some [], some [], some [n], some [], some [], some [], some [s], some [], some [], some []]) env_ok (hd.of (by omega) (kb1 (by omega))) (by kernel_rfl) ?_
 refine PQ.pure (dst := (some 6)) (v := (Pt s 0 0)) rfl rfl rfl noStore (none_ok _ _) rfl ?_
 refine PQ.pure (dst := (some 7)) (v := (.bool false)) rfl rfl rfl noStore (none_ok _ _) rfl ?_
 refine PQ.pure (dst := (some 8)) (v := (.bool false)) rfl rfl rfl noStore (none_ok _ _) rfl ?_
 refine PQ.pure (dst := (some 9)) (v := (Pt n 0 0)) rfl rfl rfl noStore (none_ok _ _) rfl ?_
 refine PQ.pure (dst := (some 10)) (v := (.int .i64 ((t : Nat) : Int))) rfl rfl rfl (app [(n, some ⟨[[(.int .i64 ((t : Nat) : Int)), (.int .i64 ssn), (.bool false), (W pr), (.string da)]], 5, 29, true⟩)] noStore) (seen_one (V := []) (D := [(n, some ⟨[[(.int .i64 ((t : Nat) : Int)), (.int .i64 ssn), (.bool false), (W pr), (.string da)]], 5, 29, true⟩)]) (by kernel_rfl) get_here) (r_load1 rfl rfl rfl rfl rfl get_here rfl rfl) ?_
 have hc1 : ¬ (((t : Nat) : Int) < 0) := fun hdd => by exfalso; first | exact hdd hl | exact hl hdd | exact hdd hc | omega
 refine PQ.pure (dst := (some 11)) (v := (.bool false)) rfl rfl rfl noStore (none_ok _ _) (Eq.trans (r_bin rfl rfl rfl (b_lss rfl)) (dF hc1)) ?_
 refine PQ.pure (dst := (some 12)) (v := (.bool false)) rfl rfl rfl noStore (none_ok _ _) rfl ?_
 refine PQ.pure (dst := (some 13)) (v := (.bool false)) rfl rfl rfl noStore (none_ok _ _) rfl ?_
 refine PQ.pure (dst := (some 14)) (v := (Pt n 0 0)) rfl rfl rfl noStore (none_ok _ _) rfl ?_
 refine PQ.pure (dst := (some 15)) (v := (.int .i64 ((t : Nat) : Int))) rfl rfl rfl (app [(n, some ⟨[[(.int .i64 ((t : Nat) : Int)), (.int .i64 ssn), (.bool false), (W pr), (.string da)]], 5, 29, true⟩)] noStore) (seen_one (V := []) (D := [(n, some ⟨[[(.int .i64 ((t : Nat) : Int)), (.int .i64 ssn), (.bool false), (W pr), (.string da)]], 5, 29, true⟩)]) (by kernel_rfl) get_here) (r_load1 rfl rfl rfl rfl rfl get_here rfl rfl) ?_
 refine PQ.pure (dst := (some 16)) (v := (Pt s 0 0)) rfl rfl rfl noStore (none_ok _ _) rfl ?_
 refine PQ.pure (dst := (some 17)) (v := (Pt s 0 0)) rfl rfl rfl noStore (none_ok _ _) rfl ?_
 refine PQ.pure (dst := (some 18)) (v := (Pt s 0 0)) rfl rfl rfl noStore (none_ok _ _) rfl ?_
 refine PQ.pure (dst := (some 19)) (v := (.slice (some ⟨jn, 0, none⟩) NX 0)) rfl rfl rfl (app [(s, some ⟨[[(.slice (some ⟨jn, 0, none⟩) NX 0), (.slice (some ⟨jw, 0, none⟩) K 0), o_]], 3, 101, true⟩)] noStore) (seen_one (V := []) (D := [(n, some ⟨[[(.int .i64 ((t : Nat) : Int)), (.int .i64 ssn), (.bool false), (W pr), (.string da)]], 5, 29, true⟩)]) (by kernel_rfl) (get_there (by omega) hs)) (r_load1 rfl rfl rfl rfl rfl get_here rfl rfl) ?_
 refine PQ.pure (dst := (some 20)) (v := (.int .i64 ((NX : Nat) : Int))) rfl rfl rfl noStore (none_ok _ _) rfl ?_
 have hc2 : ¬ (((NX : Nat) : Int) ≤ ((t : Nat) : Int)) := fun hdd => by exfalso; first | exact hdd hl | exact hl hdd | exact hdd hc | omega
 refine PQ.pure (dst := (some 21)) (v := (.bool false)) rfl rfl rfl noStore (none_ok _ _) (Eq.trans (r_bin rfl rfl rfl (b_geq rfl)) (dF hc2)) ?_
 refine PQ.pure (dst := (some 22)) (v := (.bool false)) rfl rfl rfl noStore (none_ok _ _) rfl ?_
 refine PQ.done (d := []) (by kernel_rfl) ?_
 intro _
 refine RA.condF rfl ?_
 refine RA.skip env_ok ?_
 intro _
 refine RA.seq hd ?_
 refine RA.seq hd ?_
 refine RA.region env_ok ?_
 refine OA.p (some 23) (Pt n 0 2) rfl rfl rfl rfl ?_
 refine OA.p (some 24) (.bool false) rfl rfl rfl (r_load1 rfl rfl rfl rfl rfl get_here rfl rfl) ?_
 refine OA.nil ?_
 intro _
 refine RA.condF rfl ?_
 refine RA.skip env_ok ?_
 intro _
 refine RA.seq hd ?_
 refine RA.region env_ok ?_
 refine OA.p (some 35) (Pt n 0 1) rfl rfl rfl rfl ?_
 refine OA.p (some 36) (.int .i64 ssn) rfl rfl rfl (r_load1 rfl rfl rfl rfl rfl get_here rfl rfl) ?_
 refine OA.p (some 37) (.int .u16 (((u16N ssn) : Nat) : Int)) rfl rfl rfl (r_cvt rfl rfl rfl rfl rfl ⟨_, rfl⟩ (wrap_u16s _)) ?_
 refine OA.op1 (dst := (some 5)) (v := (.pointer (some ⟨(n + 1), 0, some 0⟩))) (n1 := (n + 2)) (w := ((n + 1), some ⟨[[(.int .u16 0)]], 1, 102, true⟩)) rfl rfl rfl rfl (by omega) ?_
 refine OA.op1 (dst := none) (v := (.tuple #[])) (n1 := (n + 2)) (w := ((n + 1), some ⟨[[(.int .u16 (((u16N ssn) : Nat) : Int))]], 1, 102, true⟩)) rfl rfl rfl (r_store rfl rfl rfl rfl rfl rfl rfl get_here rfl rfl (Nat.le_of_ble_eq_true rfl) rfl) (by omega) ?_
 refine OA.nil ?_
 intro _
 refine RA.rebase [(0, (Pt s 0 0)), (1, (.agg ⟨[(.int .i64 ((t : Nat) : Int)), (.int .i64 ssn), (.bool false), (W pr), (.string da)]⟩)), (3, (Pt n 0 0)), (4, (.bool false)), (5, (.pointer (some ⟨(n + 1), 0, some 0⟩))), (22, (.bool false)), (24, (.bool false))] ⟨rfl, rfl, rfl, rfl, rfl, rfl, rfl, trivial⟩ (fun τr1 => ?_)
 refine RA.seq hd ?_
 refine RA.seq hd ?_
 refine RA.par (md := [some [(n + 1)], some [], some [], some [], some [s], some [], some [n], none, none, some [], some [], some [], some [], some [], some [s], some [], none, some []]) env_ok (hd.of (by omega) (kb3 (by omega))) (by kernel_rfl) ?_
 refine PQ.pure (dst := (some 38)) (v := (.int .u16 (((u16N ssn) : Nat) : Int))) rfl rfl rfl (app [((n + 1), some ⟨[[(.int .u16 (((u16N ssn) : Nat) : Int))]], 1, 102, true⟩)] noStore) (seen_one (V := []) (D := [((n + 1), some ⟨[[(.int .u16 (((u16N ssn) : Nat) : Int))]], 1, 102, true⟩), ((n + 1), some ⟨[[(.int .u16 0)]], 1, 102, true⟩), (n, some ⟨[[(.int .i64 ((t : Nat) : Int)), (.int .i64 ssn), (.bool false), (W pr), (.string da)]], 5, 29, true⟩)]) (by kernel_rfl) get_here) (r_load1 rfl rfl rfl rfl rfl get_here rfl rfl) ?_
 refine PQ.pure (dst := (some 39)) (v := (Pt s 0 0)) rfl rfl rfl noStore (none_ok _ _) rfl ?_
 refine PQ.pure (dst := (some 40)) (v := (Pt s 0 0)) rfl rfl rfl noStore (none_ok _ _) rfl ?_
 refine PQ.pure (dst := (some 41)) (v := (Pt s 0 0)) rfl rfl rfl noStore (none_ok _ _) rfl ?_
 refine PQ.pure (dst := (some 42)) (v := (.slice (some ⟨jn, 0, none⟩) NX 0)) rfl rfl rfl (app [(s, some ⟨[[(.slice (some ⟨jn, 0, none⟩) NX 0), (.slice (some ⟨jw, 0, none⟩) K 0), o_]], 3, 101, true⟩)] noStore) (seen_one (V := []) (D := [((n + 1), some ⟨[[(.int .u16 (((u16N ssn) : Nat) : Int))]], 1, 102, true⟩), ((n + 1), some ⟨[[(.int .u16 0)]], 1, 102, true⟩), (n, some ⟨[[(.int .i64 ((t : Nat) : Int)), (.int .i64 ssn), (.bool false), (W pr), (.string da)]], 5, 29, true⟩)]) (by kernel_rfl) (gt3 (by omega) hs)) (r_load1 rfl rfl rfl rfl rfl get_here rfl rfl) ?_
 refine PQ.pure (dst := (some 43)) (v := (Pt n 0 0)) rfl rfl rfl noStore (none_ok _ _) rfl ?_
 refine PQ.pure (dst := (some 44)) (v := (.int .i64 ((t : Nat) : Int))) rfl rfl rfl (app [(n, some ⟨[[(.int .i64 ((t : Nat) : Int)), (.int .i64 ssn), (.bool false), (W pr), (.string da)]], 5, 29, true⟩)] noStore) (seen_one (V := []) (D := [((n + 1), some ⟨[[(.int .u16 (((u16N ssn) : Nat) : Int))]], 1, 102, true⟩), ((n + 1), some ⟨[[(.int .u16 0)]], 1, 102, true⟩), (n, some ⟨[[(.int .i64 ((t : Nat) : Int)), (.int .i64 ssn), (.bool false), (W pr), (.string da)]], 5, 29, true⟩)]) (by kernel_rfl) (gt2 (by omega) get_here)) (r_load1 rfl rfl rfl rfl rfl get_here rfl rfl) ?_
 refine PQ.pure (dst := (some 45)) (v := (Pt jn t 0)) rfl rfl rfl _ (seen_any (V := []) (D := [((n + 1), some ⟨[[(.int .u16 (((u16N ssn) : Nat) : Int))]], 1, 102, true⟩), ((n + 1), some ⟨[[(.int .u16 0)]], 1, 102, true⟩), (n, some ⟨[[(.int .i64 ((t : Nat) : Int)), (.int .i64 ssn), (.bool false), (W pr), (.string da)]], 5, 29, true⟩)]) (by kernel_rfl)) (r_iaS (l := t) rfl rfl rfl rfl rfl rfl (by omega) (by omega) (gt3 (by omega) hjn) rfl (by omega)) ?_
 refine PQ.pure (dst := (some 46)) (v := (.int .u16 (((nx.getD t dUx).z : Nat) : Int))) rfl rfl rfl _ (seen_any (V := []) (D := [((n + 1), some ⟨[[(.int .u16 (((u16N ssn) : Nat) : Int))]], 1, 102, true⟩), ((n + 1), some ⟨[[(.int .u16 0)]], 1, 102, true⟩), (n, some ⟨[[(.int .i64 ((t : Nat) : Int)), (.int .i64 ssn), (.bool false), (W pr), (.string da)]], 5, 29, true⟩)]) (by kernel_rfl)) (r_loadF (c := cUx) dUx rfl rfl rfl rfl rfl (gt3 (by omega) hjn) (by rw [hnx]; omega) rfl) ?_
 have hc3 : ¬ (less16 (u16N ssn) (nx.getD t dUx).z) := fun hdd => by exfalso; first | exact hdd hl | exact hl hdd | exact hdd hc | omega
 refine PQ.callP (dst := (some 47)) (all := [(.int .u16 (((u16N ssn) : Nat) : Int)), (.int .u16 (((nx.getD t dUx).z : Nat) : Int))]) (v := (.bool false)) noStore (dom_none _) rfl rfl rfl rfl rfl rfl rfl rfl (none_ok _ _) (PS.to (dLess (u16N ssn) (nx.getD t dUx).z) (show (.bool (decide (less16 (u16N ssn) (nx.getD t dUx).z))) = ((.bool false) : Value) from (by first | (rw [decide_eq_false hc3]; done) | (rw [decide_eq_false hc3]; rfl)))) ?_
 intro n2 hn2
 refine PQ.pure (dst := (some 48)) (v := (.bool false)) rfl rfl rfl noStore (none_ok _ _) rfl ?_
 refine PQ.pure (dst := (some 49)) (v := (Pt s 0 0)) rfl rfl rfl noStore (none_ok _ _) rfl ?_
 refine PQ.pure (dst := (some 50)) (v := (Pt s 0 0)) rfl rfl rfl noStore (none_ok _ _) rfl ?_
 refine PQ.pure (dst := (some 51)) (v := (Pt s 0 1)) rfl rfl rfl noStore (none_ok _ _) rfl ?_
 refine PQ.pure (dst := (some 52)) (v := (.slice (some ⟨jw, 0, none⟩) K 0)) rfl rfl rfl (app [(s, some ⟨[[(.slice (some ⟨jn, 0, none⟩) NX 0), (.slice (some ⟨jw, 0, none⟩) K 0), o_]], 3, 101, true⟩)] noStore) (seen_one (V := []) (D := [((n + 1), some ⟨[[(.int .u16 (((u16N ssn) : Nat) : Int))]], 1, 102, true⟩), ((n + 1), some ⟨[[(.int .u16 0)]], 1, 102, true⟩), (n, some ⟨[[(.int .i64 ((t : Nat) : Int)), (.int .i64 ssn), (.bool false), (W pr), (.string da)]], 5, 29, true⟩)]) (by kernel_rfl) (gt3 (by omega) hs)) (r_load1 rfl rfl rfl rfl rfl get_here rfl rfl) ?_
 refine PQ.pure (dst := (some 53)) (v := (.func (.func 58) ⟨[]⟩ ⟨[(Pt n 0 0), (.pointer (some ⟨(n + 1), 0, some 0⟩))]⟩)) rfl rfl rfl noStore (none_ok _ _) rfl ?_
 have hc4 : (ws.any (qq ((t : Nat) : Int) (u16N ssn))) = true := Classical.byContradiction (fun hdd => by exfalso; first | exact hdd hl | exact hl hdd | exact hdd hc | omega)
 refine PQ.callP (dst := (some 54)) (all := (xDl32 jw K n)) (v := (.bool true)) _ (hd.of (by omega) (kb3 (by omega))) rfl rfl rfl rfl rfl rfl rfl rfl (seen_any (V := []) (D := [((n + 1), some ⟨[[(.int .u16 (((u16N ssn) : Nat) : Int))]], 1, 102, true⟩), ((n + 1), some ⟨[[(.int .u16 0)]], 1, 102, true⟩), (n, some ⟨[[(.int .i64 ((t : Nat) : Int)), (.int .i64 ssn), (.bool false), (W pr), (.string da)]], 5, 29, true⟩)]) (by kernel_rfl)) (PS.to (dCont jw K ws hws (by omega) (qq ((t : Nat) : Int) (u16N ssn)) n (n + 1) (gt3 (by omega) hjw) (fun x _ => dPc x (Msg.mk ((t : Nat) : Int) ssn false pr da) n (n + 1) (u16N ssn) (gt2 (by omega) get_here) get_here)) (show (.bool (ws.any (qq ((t : Nat) : Int) (u16N ssn)))) = ((.bool true) : Value) from (by first | (rw [hc4]; done) | (rw [hc4]; rfl)))) ?_
 intro n3 hn3
 refine PQ.pure (dst := (some 55)) (v := (.bool true)) rfl rfl rfl noStore (none_ok _ _) rfl ?_
 refine PQ.done (d := []) (by kernel_rfl) ?_
 intro _
 refine RA.condT rfl ?_
 refine RA.seq hd ?_
 refine RA.region env_ok ?_
 refine OA.p (some 4) (.bool false) rfl rfl rfl rfl ?_
 refine OA.nil ?_
 intro _
 refine RA.ret env_ok ?_
 refine ⟨.inr rfl, [(.bool false)], (resL_cons rfl resL_nil), [], (Less.of (fun p hp => by simp at hp) (gone_of (by simp only [goneP, memP, List.cons_append, List.nil_append, true_or, or_true, true_and, and_true, or_false] <;> omega))), ⟨rfl, rfl⟩⟩

theorem dPutRAN {n : Nat} {σ : Store} (hd : Dom n σ) (s jn t NX : Nat) (nx : List Ux) (hnx : nx.length = NX) (ht : t < NX) (h1 : s ≠ jn) (jw K : Nat) (ws : List Msg) (hws : ws.length = K) (hK : K ≤ 900) (h2 : s ≠ jw) (h3 : jn ≠ jw) (M : Nat) (hM : M = 0) (ssn : Int) (pr : BitVec 32) (da : ByteArray) (hl : ¬ less16 (u16N ssn) (nx.getD t dUx).z) (hc : ws.any (qq ((t : Nat) : Int) (u16N ssn)) = false) (hmv : ¬ (ws ++ [(Msg.mk ((t : Nat) : Int) ssn false pr da)]).findIdx (qq ((t : Nat) : Int) (nx.getD t dUx).z) < (ws ++ [(Msg.mk ((t : Nat) : Int) ssn false pr da)]).length) (hs : σ s = some ⟨[[(.slice (some ⟨jn, 0, none⟩) NX 0), (.slice (some ⟨jw, 0, none⟩) K 0), (.slice none 0 0)]], 3, 101, true⟩) (hjn : σ jn = some (oUx nx)) (hjw : σ jw = some (oMsg ws))  : CQ Try.prog noDen 14 [(Pt s 0 0), (.agg ⟨[(.int .i64 ((t : Nat) : Int)), (.int .i64 ssn), (.bool false), (W pr), (.string da)]⟩)] n σ (fun v n' d => ∃ jw2, n ≤ jw2 ∧ jw2 < n' ∧ v = .bool true ∧ d = [(s, some ⟨[[(.slice (some ⟨jn, 0, none⟩) NX 0), (.slice (some ⟨jw2, 0, none⟩) (K + 1) 0), (.slice none 0 0)]], 3, 101, true⟩), (jw2, some (oMsg (ws ++ [(Msg.mk ((t : Nat) : Int) ssn false pr da)]))), (jw, none)]) := by
 have lhs := hd.lt hs
 have lhjn := hd.lt hjn
 have lhjw := hd.lt hjw
 refine CQ.body (E := env) env_ok hd rfl rfl (by show _ ≤ _; exact of_decide_eq_true (by kernel_rfl)) ?_
 refine RA.seq hd ?_
 refine RA.region env_ok ?_
 refine OA.op1 (dst := (some 3)) (v := (Pt n 0 0)) (n1 := (n + 1)) (w := (n, some ⟨[[(.int .i64 ((t : Nat) : Int)), (.int .i64 ssn), (.bool false), (W pr), (.string da)]], 5, 29, true⟩)) rfl rfl rfl rfl (by omega) ?_
 refine OA.p (some 4) (.bool false) rfl rfl rfl rfl ?_
 refine OA.nil ?_
 intro _
 refine RA.seq hd ?_
 refine RA.seq hd ?_
 refine RA.par (md := [some [], some [], some [], some [], some [n], some [], some [], some [], some [], some [n], some [], some [], some [], some [s], some [], some [], some []]) env_ok (hd.of (by omega) (kb1 (by omega))) (by kernel_rfl) ?_
 refine PQ.pure (dst := (some 6)) (v := (Pt s 0 0)) rfl rfl rfl noStore (none_ok _ _) rfl ?_
 refine PQ.pure (dst := (some 7)) (v := (.bool false)) rfl rfl rfl noStore (none_ok _ _) rfl ?_
 refine PQ.pure (dst := (some 8)) (v := (.bool false)) rfl rfl rfl noStore (none_ok _ _) rfl ?_
 refine PQ.pure (dst := (some 9)) (v := (Pt n 0 0)) rfl rfl rfl noStore (none_ok _ _) rfl ?_
 refine PQ.pure (dst := (some 10)) (v := (.int .i64 ((t : Nat) : Int))) rfl rfl rfl (app [(n, some ⟨[[(.int .i64 ((t : Nat) : Int)), (.int .i64 ssn), (.bool false), (W pr), (.string da)]], 5, 29, true⟩)] noStore) (seen_one (V := []) (D := [(n, some ⟨[[(.int .i64 ((t : Nat) : Int)), (.int .i64 ssn), (.bool false), (W pr), (.string da)]], 5, 29, true⟩)]) (by kernel_rfl) get_here) (r_load1 rfl rfl rfl rfl rfl get_here rfl rfl) ?_
 have hc1 : ¬ (((t : Nat) : Int) < 0) := fun hdd => by exfalso; first | exact hl hdd | (rw [hc] at hdd; cases hdd) | omega
 refine PQ.pure (dst := (some 11)) (v := (.bool false)) rfl rfl rfl noStore (none_ok _ _) (Eq.trans (r_bin rfl rfl rfl (b_lss rfl)) (dF hc1)) ?_
 refine PQ.pure (dst := (some 12)) (v := (.bool false)) rfl rfl rfl noStore (none_ok _ _) rfl ?_
 refine PQ.pure (dst := (some 13)) (v := (.bool false)) rfl rfl rfl noStore (none_ok _ _) rfl ?_
 refine PQ.pure (dst := (some 14)) (v := (Pt n 0 0)) rfl rfl rfl noStore (none_ok _ _) rfl ?_
 refine PQ.pure (dst := (some 15)) (v := (.int .i64 ((t : Nat) : Int))) rfl rfl rfl (app [(n, some ⟨[[(.int .i64 ((t : Nat) : Int)), (.int .i64 ssn), (.bool false), (W pr), (.string da)]], 5, 29, true⟩)] noStore) (seen_one (V := []) (D := [(n, some ⟨[[(.int .i64 ((t : Nat) : Int)), (.int .i64 ssn), (.bool false), (W pr), (.string da)]], 5, 29, true⟩)]) (by kernel_rfl) get_here) (r_load1 rfl rfl rfl rfl rfl get_here rfl rfl) ?_
 refine PQ.pure (dst := (some 16)) (v := (Pt s 0 0)) rfl rfl rfl noStore (none_ok _ _) rfl ?_
 refine PQ.pure (dst := (some 17)) (v := (Pt s 0 0)) rfl rfl rfl noStore (none_ok _ _) rfl ?_
 refine PQ.pure (dst := (some 18)) (v := (Pt s 0 0)) rfl rfl rfl noStore (none_ok _ _) rfl ?_
 refine PQ.pure (dst := (some 19)) (v := (.slice (some ⟨jn, 0, none⟩) NX 0)) rfl rfl rfl (app [(s, some ⟨[(xDl311 jn NX jw K)], 3, 101, true⟩)] noStore) (seen_one (V := []) (D := [(n, some ⟨[[(.int .i64 ((t : Nat) : Int)), (.int .i64 ssn), (.bool false), (W pr), (.string da)]], 5, 29, true⟩)]) (by kernel_rfl) (get_there (by omega) hs)) (r_load1 rfl rfl rfl rfl rfl get_here rfl rfl) ?_
 refine PQ.pure (dst := (some 20)) (v := (.int .i64 ((NX : Nat) : Int))) rfl rfl rfl noStore (none_ok _ _) rfl ?_
 have hc2 : ¬ (((NX : Nat) : Int) ≤ ((t : Nat) : Int)) := fun hdd => by exfalso; first | exact hl hdd | (rw [hc] at hdd; cases hdd) | omega
 refine PQ.pure (dst := (some 21)) (v := (.bool false)) rfl rfl rfl noStore (none_ok _ _) (Eq.trans (r_bin rfl rfl rfl (b_geq rfl)) (dF hc2)) ?_
 refine PQ.pure (dst := (some 22)) (v := (.bool false)) rfl rfl rfl noStore (none_ok _ _) rfl ?_
 refine PQ.done (d := []) (by kernel_rfl) ?_
 intro _
 refine RA.condF rfl ?_
 refine RA.skip env_ok ?_
 intro _
 refine RA.seq hd ?_
 refine RA.seq hd ?_
 refine RA.region env_ok ?_
 refine OA.p (some 23) (Pt n 0 2) rfl rfl rfl rfl ?_
 refine OA.p (some 24) (.bool false) rfl rfl rfl (r_load1 rfl rfl rfl rfl rfl get_here rfl rfl) ?_
 refine OA.nil ?_
 intro _
 refine RA.condF rfl ?_
 refine RA.skip env_ok ?_
 intro _
 refine RA.seq hd ?_
 refine RA.region env_ok ?_
 refine OA.p (some 35) (Pt n 0 1) rfl rfl rfl rfl ?_
 refine OA.p (some 36) (.int .i64 ssn) rfl rfl rfl (r_load1 rfl rfl rfl rfl rfl get_here rfl rfl) ?_
 refine OA.p (some 37) (.int .u16 (((u16N ssn) : Nat) : Int)) rfl rfl rfl (r_cvt rfl rfl rfl rfl rfl ⟨_, rfl⟩ (wrap_u16s _)) ?_
 refine OA.op1 (dst := (some 5)) (v := (.pointer (some ⟨(n + 1), 0, some 0⟩))) (n1 := (n + 2)) (w := ((n + 1), some ⟨[[(.int .u16 0)]], 1, 102, true⟩)) rfl rfl rfl rfl (by omega) ?_
 refine OA.op1 (dst := none) (v := (.tuple #[])) (n1 := (n + 2)) (w := ((n + 1), some ⟨[[(.int .u16 (((u16N ssn) : Nat) : Int))]], 1, 102, true⟩)) rfl rfl rfl (r_store rfl rfl rfl rfl rfl rfl rfl get_here rfl rfl (Nat.le_of_ble_eq_true rfl) rfl) (by omega) ?_
 refine OA.nil ?_
 intro _
 refine RA.rebase [(0, (Pt s 0 0)), (1, (.agg ⟨[(.int .i64 ((t : Nat) : Int)), (.int .i64 ssn), (.bool false), (W pr), (.string da)]⟩)), (3, (Pt n 0 0)), (4, (.bool false)), (5, (.pointer (some ⟨(n + 1), 0, some 0⟩))), (22, (.bool false)), (24, (.bool false))] ⟨rfl, rfl, rfl, rfl, rfl, rfl, rfl, trivial⟩ (fun τr1 => ?_)
 refine RA.seq hd ?_
 refine RA.seq hd ?_
 refine RA.par (md := [some [(n + 1)], some [], some [], some [], some [s], some [], some [n], none, none, some [], some [], some [], some [], some [], some [s], some [], none, some []]) env_ok (hd.of (by omega) (kb3 (by omega))) (by kernel_rfl) ?_
 refine PQ.pure (dst := (some 38)) (v := (.int .u16 (((u16N ssn) : Nat) : Int))) rfl rfl rfl (app [((n + 1), some ⟨[[(.int .u16 (((u16N ssn) : Nat) : Int))]], 1, 102, true⟩)] noStore) (seen_one (V := []) (D := [((n + 1), some ⟨[[(.int .u16 (((u16N ssn) : Nat) : Int))]], 1, 102, true⟩), ((n + 1), some ⟨[[(.int .u16 0)]], 1, 102, true⟩), (n, some ⟨[[(.int .i64 ((t : Nat) : Int)), (.int .i64 ssn), (.bool false), (W pr), (.string da)]], 5, 29, true⟩)]) (by kernel_rfl) get_here) (r_load1 rfl rfl rfl rfl rfl get_here rfl rfl) ?_
 refine PQ.pure (dst := (some 39)) (v := (Pt s 0 0)) rfl rfl rfl noStore (none_ok _ _) rfl ?_
 refine PQ.pure (dst := (some 40)) (v := (Pt s 0 0)) rfl rfl rfl noStore (none_ok _ _) rfl ?_
 refine PQ.pure (dst := (some 41)) (v := (Pt s 0 0)) rfl rfl rfl noStore (none_ok _ _) rfl ?_
 refine PQ.pure (dst := (some 42)) (v := (.slice (some ⟨jn, 0, none⟩) NX 0)) rfl rfl rfl (app [(s, some ⟨[(xDl311 jn NX jw K)], 3, 101, true⟩)] noStore) (seen_one (V := []) (D := [((n + 1), some ⟨[[(.int .u16 (((u16N ssn) : Nat) : Int))]], 1, 102, true⟩), ((n + 1), some ⟨[[(.int .u16 0)]], 1, 102, true⟩), (n, some ⟨[[(.int .i64 ((t : Nat) : Int)), (.int .i64 ssn), (.bool false), (W pr), (.string da)]], 5, 29, true⟩)]) (by kernel_rfl) (gt3 (by omega) hs)) (r_load1 rfl rfl rfl rfl rfl get_here rfl rfl) ?_
 refine PQ.pure (dst := (some 43)) (v := (Pt n 0 0)) rfl rfl rfl noStore (none_ok _ _) rfl ?_
 refine PQ.pure (dst := (some 44)) (v := (.int .i64 ((t : Nat) : Int))) rfl rfl rfl (app [(n, some ⟨[[(.int .i64 ((t : Nat) : Int)), (.int .i64 ssn), (.bool false), (W pr), (.string da)]], 5, 29, true⟩)] noStore) (seen_one (V := []) (D := [((n + 1), some ⟨[[(.int .u16 (((u16N ssn) : Nat) : Int))]], 1, 102, true⟩), ((n + 1), some ⟨[[(.int .u16 0)]], 1, 102, true⟩), (n, some ⟨[[(.int .i64 ((t : Nat) : Int)), (.int .i64 ssn), (.bool false), (W pr), (.string da)]], 5, 29, true⟩)]) (by kernel_rfl) (gt2 (by omega) get_here)) (r_load1 rfl rfl rfl rfl rfl get_here rfl rfl) ?_
 refine PQ.pure (dst := (some 45)) (v := (Pt jn t 0)) rfl rfl rfl _ (seen_any (V := []) (D := [((n + 1), some ⟨[[(.int .u16 (((u16N ssn) : Nat) : Int))]], 1, 102, true⟩), ((n + 1), some ⟨[[(.int .u16 0)]], 1, 102, true⟩), (n, some ⟨[[(.int .i64 ((t : Nat) : Int)), (.int .i64 ssn), (.bool false), (W pr), (.string da)]], 5, 29, true⟩)]) (by kernel_rfl)) (r_iaS (l := t) rfl rfl rfl rfl rfl rfl (by omega) (by omega) (gt3 (by omega) hjn) rfl (by omega)) ?_
 refine PQ.pure (dst := (some 46)) (v := (.int .u16 (((nx.getD t dUx).z : Nat) : Int))) rfl rfl rfl _ (seen_any (V := []) (D := [((n + 1), some ⟨[[(.int .u16 (((u16N ssn) : Nat) : Int))]], 1, 102, true⟩), ((n + 1), some ⟨[[(.int .u16 0)]], 1, 102, true⟩), (n, some ⟨[[(.int .i64 ((t : Nat) : Int)), (.int .i64 ssn), (.bool false), (W pr), (.string da)]], 5, 29, true⟩)]) (by kernel_rfl)) (r_loadF (c := cUx) dUx rfl rfl rfl rfl rfl (gt3 (by omega) hjn) (by rw [hnx]; omega) rfl) ?_
 have hc3 : ¬ (less16 (u16N ssn) (nx.getD t dUx).z) := fun hdd => by exfalso; first | exact hl hdd | (rw [hc] at hdd; cases hdd) | omega
 refine PQ.callP (dst := (some 47)) (all := [(.int .u16 (((u16N ssn) : Nat) : Int)), (.int .u16 (((nx.getD t dUx).z : Nat) : Int))]) (v := (.bool false)) noStore (dom_none _) rfl rfl rfl rfl rfl rfl rfl rfl (none_ok _ _) (PS.to (dLess (u16N ssn) (nx.getD t dUx).z) (show (.bool (decide (less16 (u16N ssn) (nx.getD t dUx).z))) = ((.bool false) : Value) from (by first | (rw [decide_eq_false hc3]; done) | (rw [decide_eq_false hc3]; rfl)))) ?_
 intro n2 hn2
 refine PQ.pure (dst := (some 48)) (v := (.bool false)) rfl rfl rfl noStore (none_ok _ _) rfl ?_
 refine PQ.pure (dst := (some 49)) (v := (Pt s 0 0)) rfl rfl rfl noStore (none_ok _ _) rfl ?_
 refine PQ.pure (dst := (some 50)) (v := (Pt s 0 0)) rfl rfl rfl noStore (none_ok _ _) rfl ?_
 refine PQ.pure (dst := (some 51)) (v := (Pt s 0 1)) rfl rfl rfl noStore (none_ok _ _) rfl ?_
 refine PQ.pure (dst := (some 52)) (v := (.slice (some ⟨jw, 0, none⟩) K 0)) rfl rfl rfl (app [(s, some ⟨[(xDl311 jn NX jw K)], 3, 101, true⟩)] noStore) (seen_one (V := []) (D := [((n + 1), some ⟨[[(.int .u16 (((u16N ssn) : Nat) : Int))]], 1, 102, true⟩), ((n + 1), some ⟨[[(.int .u16 0)]], 1, 102, true⟩), (n, some ⟨[[(.int .i64 ((t : Nat) : Int)), (.int .i64 ssn), (.bool false), (W pr), (.string da)]], 5, 29, true⟩)]) (by kernel_rfl) (gt3 (by omega) hs)) (r_load1 rfl rfl rfl rfl rfl get_here rfl rfl) ?_
 refine PQ.pure (dst := (some 53)) (v := (.func (.func 58) ⟨[]⟩ ⟨[(Pt n 0 0), (.pointer (some ⟨(n + 1), 0, some 0⟩))]⟩)) rfl rfl rfl noStore (none_ok _ _) rfl ?_
 have hc4 : ¬ ((ws.any (qq ((t : Nat) : Int) (u16N ssn))) = true) := fun hdd => by exfalso; first | exact hl hdd | (rw [hc] at hdd; cases hdd) | omega
 refine PQ.callP (dst := (some 54)) (all := (xDl32 jw K n)) (v := (.bool false)) _ (hd.of (by omega) (kb3 (by omega))) rfl rfl rfl rfl rfl rfl rfl rfl (seen_any (V := []) (D := [((n + 1), some ⟨[[(.int .u16 (((u16N ssn) : Nat) : Int))]], 1, 102, true⟩), ((n + 1), some ⟨[[(.int .u16 0)]], 1, 102, true⟩), (n, some ⟨[[(.int .i64 ((t : Nat) : Int)), (.int .i64 ssn), (.bool false), (W pr), (.string da)]], 5, 29, true⟩)]) (by kernel_rfl)) (PS.to (dCont jw K ws hws (by omega) (qq ((t : Nat) : Int) (u16N ssn)) n (n + 1) (gt3 (by omega) hjw) (fun x _ => dPc x (Msg.mk ((t : Nat) : Int) ssn false pr da) n (n + 1) (u16N ssn) (gt2 (by omega) get_here) get_here)) (show (.bool (ws.any (qq ((t : Nat) : Int) (u16N ssn)))) = ((.bool false) : Value) from (by first | (rw [eq_false_of_ne_true hc4]; done) | (rw [eq_false_of_ne_true hc4]; rfl)))) ?_
 intro n3 hn3
 refine PQ.pure (dst := (some 55)) (v := (.bool false)) rfl rfl rfl noStore (none_ok _ _) rfl ?_
 refine PQ.done (d := []) (by kernel_rfl) ?_
 intro _
 refine RA.condF rfl ?_
 refine RA.skip env_ok ?_
 intro _
 refine RA.seq hd ?_
 refine RA.par (md := [some [], some [], some [], some [], some [s], some [n], some [], none, some [], some [], none]) env_ok (hd.of (by omega) (kb3 (by omega))) (by kernel_rfl) ?_
 refine PQ.pure (dst := (some 56)) (v := (Pt s 0 0)) rfl rfl rfl noStore (none_ok _ _) rfl ?_
 refine PQ.pure (dst := (some 57)) (v := (Pt s 0 0)) rfl rfl rfl noStore (none_ok _ _) rfl ?_
 refine PQ.pure (dst := (some 58)) (v := (Pt s 0 0)) rfl rfl rfl noStore (none_ok _ _) rfl ?_
 refine PQ.pure (dst := (some 59)) (v := (Pt s 0 1)) rfl rfl rfl noStore (none_ok _ _) rfl ?_
 refine PQ.pure (dst := (some 60)) (v := (.slice (some ⟨jw, 0, none⟩) K 0)) rfl rfl rfl (app [(s, some ⟨[(xDl311 jn NX jw K)], 3, 101, true⟩)] noStore) (seen_one (V := []) (D := [((n + 1), some ⟨[[(.int .u16 (((u16N ssn) : Nat) : Int))]], 1, 102, true⟩), ((n + 1), some ⟨[[(.int .u16 0)]], 1, 102, true⟩), (n, some ⟨[[(.int .i64 ((t : Nat) : Int)), (.int .i64 ssn), (.bool false), (W pr), (.string da)]], 5, 29, true⟩)]) (by kernel_rfl) (gt3 (by omega) hs)) (r_load1 rfl rfl rfl rfl rfl get_here rfl rfl) ?_
 refine PQ.pure (dst := (some 61)) (v := (.agg ⟨[(.int .i64 ((t : Nat) : Int)), (.int .i64 ssn), (.bool false), (W pr), (.string da)]⟩)) rfl rfl rfl (app [(n, some ⟨[[(.int .i64 ((t : Nat) : Int)), (.int .i64 ssn), (.bool false), (W pr), (.string da)]], 5, 29, true⟩)] noStore) (seen_one (V := []) (D := [((n + 1), some ⟨[[(.int .u16 (((u16N ssn) : Nat) : Int))]], 1, 102, true⟩), ((n + 1), some ⟨[[(.int .u16 0)]], 1, 102, true⟩), (n, some ⟨[[(.int .i64 ((t : Nat) : Int)), (.int .i64 ssn), (.bool false), (W pr), (.string da)]], 5, 29, true⟩)]) (by kernel_rfl) (gt2 (by omega) get_here)) (r_loadA rfl rfl rfl rfl get_here rfl rfl rfl) ?_
 refine PQ.op (dst := (some 62)) (v := (.slice (some ⟨n3, 0, none⟩) 1 0)) (n1 := (n3 + 1)) (d1 := [(n3, some ⟨[[(.int .i64 ((t : Nat) : Int)), (.int .i64 ssn), (.bool false), (W pr), (.string da)]], 5, 29, true⟩)]) rfl rfl rfl noStore (none_ok _ _) (by kernel_rfl) (by omega) (kp1 (wr_new (by omega) (by omega))) ?_
 refine PQ.op (dst := (some 63)) (v := (.slice (some ⟨(n3 + 1), 0, none⟩) (K + 1) 0)) (n1 := (n3 + 2)) (d1 := [((n3 + 1), some (oMsg (ws ++ [(Msg.mk ((t : Nat) : Int) ssn false pr da)]))), (jw, none)]) rfl rfl rfl _ (seen_any (V := [(n3, some ⟨[[(.int .i64 ((t : Nat) : Int)), (.int .i64 ssn), (.bool false), (W pr), (.string da)]], 5, 29, true⟩)]) (D := [((n + 1), some ⟨[[(.int .u16 (((u16N ssn) : Nat) : Int))]], 1, 102, true⟩), ((n + 1), some ⟨[[(.int .u16 0)]], 1, 102, true⟩), (n, some ⟨[[(.int .i64 ((t : Nat) : Int)), (.int .i64 ssn), (.bool false), (W pr), (.string da)]], 5, 29, true⟩)]) (by kernel_rfl)) (r_appendR (c := cMsg) (l' := (ws ++ [(Msg.mk ((t : Nat) : Int) ssn false pr da)])) rfl rfl rfl rfl rfl rfl rfl rfl rfl rfl (by decide) (gt4 (by omega) hjw) get_here (by rw [hws]) (mp_snoc (c := cMsg) (x := (Msg.mk ((t : Nat) : Int) ssn false pr da))) (by omega) (of_decide_eq_true (by kernel_rfl)) (by omega)) (by omega) (kp2 (wr_new (by omega) (by omega)) (wr_old [0] (by kernel_rfl) (by omega) (by omega) (fac (lo0 rfl) fan))) ?_
 refine PQ.pure (dst := (some 64)) (v := (Pt s 0 0)) rfl rfl rfl noStore (none_ok _ _) rfl ?_
 refine PQ.pure (dst := (some 65)) (v := (Pt s 0 1)) rfl rfl rfl noStore (none_ok _ _) rfl ?_
 refine PQ.op (dst := none) (v := (.tuple #[])) (n1 := (n3 + 2)) (d1 := [(s, some ⟨[(xDl38 jn NX n3 K)], 3, 101, true⟩)]) rfl rfl rfl _ (seen_any (V := [((n3 + 1), some (oMsg (ws ++ [(Msg.mk ((t : Nat) : Int) ssn false pr da)]))), (jw, none), (n3, some ⟨[[(.int .i64 ((t : Nat) : Int)), (.int .i64 ssn), (.bool false), (W pr), (.string da)]], 5, 29, true⟩)]) (D := [((n + 1), some ⟨[[(.int .u16 (((u16N ssn) : Nat) : Int))]], 1, 102, true⟩), ((n + 1), some ⟨[[(.int .u16 0)]], 1, 102, true⟩), (n, some ⟨[[(.int .i64 ((t : Nat) : Int)), (.int .i64 ssn), (.bool false), (W pr), (.string da)]], 5, 29, true⟩)]) (by kernel_rfl)) (r_store rfl rfl rfl rfl rfl rfl rfl (gt6 (by omega) hs) rfl rfl (Nat.le_of_ble_eq_true rfl) rfl) (by omega) (kp1 (wr_tight (by kernel_rfl) (by omega))) ?_
 refine PQ.done (d := [(s, some ⟨[(xDl38 jn NX n3 K)], 3, 101, true⟩), ((n3 + 1), some (oMsg (ws ++ [(Msg.mk ((t : Nat) : Int) ssn false pr da)]))), (jw, none), (n3, some ⟨[[(.int .i64 ((t : Nat) : Int)), (.int .i64 ssn), (.bool false), (W pr), (.string da)]], 5, 29, true⟩)]) (by kernel_rfl) ?_
 intro _
 refine RA.rebase [(0, (Pt s 0 0)), (1, (.agg ⟨[(.int .i64 ((t : Nat) : Int)), (.int .i64 ssn), (.bool false), (W pr), (.string da)]⟩)), (3, (Pt n 0 0)), (4, (.bool false)), (5, (.pointer (some ⟨(n + 1), 0, some 0⟩))), (22, (.bool false)), (24, (.bool false)), (55, (.bool false))] ⟨rfl, rfl, rfl, rfl, rfl, rfl, rfl, rfl, trivial⟩ (fun τr4 => ?_)
 refine RA.seq hd ?_
 refine RA.region env_ok ?_
 refine OA.p (some 66) (Pt s 0 0) rfl rfl rfl rfl ?_
 refine OA.p (some 67) (Pt n 0 0) rfl rfl rfl rfl ?_
 refine OA.p (some 68) (.int .i64 ((t : Nat) : Int)) rfl rfl rfl (r_load1 rfl rfl rfl rfl rfl (gt6 (by omega) get_here) rfl rfl) ?_
 refine OA.call (dst := (some 69)) (all := [(Pt s 0 0), (.int .i64 ((t : Nat) : Int))]) rfl rfl rfl rfl rfl rfl rfl rfl (CQ.imp (dGoNA (hd.of (by omega) (kb7 (by omega))) s jn (n3 + 1) t NX (K + 1) nx (ws ++ [(Msg.mk ((t : Nat) : Int) ssn false pr da)]) hnx (by rw [List.length_append, List.length_singleton, hws]) ht (by omega) (by omega) (by omega) (by omega)  hmv get_here (gt7 (by omega) hjn) (get_there (by omega) get_here)) ?_)
 rintro _ n5 _ ⟨rfl, rfl⟩ hn5
 refine OA.app0 ?_
 refine OA.nil ?_
 intro _
 refine RA.seq hd ?_
 refine RA.region env_ok ?_
 refine OA.p (some 4) (.bool true) rfl rfl rfl rfl ?_
 refine OA.nil ?_
 intro _
 refine RA.ret env_ok ?_
 refine ⟨.inr rfl, [(.bool true)], (resL_cons rfl resL_nil), [(s, some ⟨[(xDl38 jn NX n3 K)], 3, 101, true⟩), ((n3 + 1), some (oMsg (ws ++ [(Msg.mk ((t : Nat) : Int) ssn false pr da)]))), (jw, none)], (Less.of (fac (mm (fun _ => get_here) (fun _ => get_here)) (fac (mm (fun _ => (get_there (by omega) get_here)) (fun _ => (get_there (by omega) get_here))) (fac (mm (fun _ => (gt2 (by omega) get_here)) (fun _ => (gt2 (by omega) get_here))) fan))) (gone_of (by simp only [goneP, memP, List.cons_append, List.nil_append, true_or, or_true, true_and, and_true, or_false] <;> omega))), ⟨(n3 + 1), by omega, by omega, rfl, rfl⟩⟩

theorem dPutRAM {n : Nat} {σ : Store} (hd : Dom n σ) (s jn t NX : Nat) (nx : List Ux) (hnx : nx.length = NX) (ht : t < NX) (h1 : s ≠ jn) (jw K : Nat) (ws : List Msg) (hws : ws.length = K) (hK : K ≤ 900) (h2 : s ≠ jw) (h3 : jn ≠ jw) (M : Nat) (hM : M = 0) (ssn : Int) (pr : BitVec 32) (da : ByteArray) (hl : ¬ less16 (u16N ssn) (nx.getD t dUx).z) (hc : ws.any (qq ((t : Nat) : Int) (u16N ssn)) = false) (R : Nat × List Msg × List Msg) (hR : goS ((t : Nat) : Int) (K + 1) (nx.getD t dUx).z (ws ++ [(Msg.mk ((t : Nat) : Int) ssn false pr da)]) ([] : List Msg) = R) (hmv : (ws ++ [(Msg.mk ((t : Nat) : Int) ssn false pr da)]).findIdx (qq ((t : Nat) : Int) (nx.getD t dUx).z) < (ws ++ [(Msg.mk ((t : Nat) : Int) ssn false pr da)]).length) (hs : σ s = some ⟨[[(.slice (some ⟨jn, 0, none⟩) NX 0), (.slice (some ⟨jw, 0, none⟩) K 0), (.slice none 0 0)]], 3, 101, true⟩) (hjn : σ jn = some (oUx nx)) (hjw : σ jw = some (oMsg ws))  : CQ Try.prog noDen 14 [(Pt s 0 0), (.agg ⟨[(.int .i64 ((t : Nat) : Int)), (.int .i64 ssn), (.bool false), (W pr), (.string da)]⟩)] n σ (fun v n' d => ∃ jw2 jo2 M2 L3, n ≤ jw2 ∧ jw2 < n' ∧ n ≤ jo2 ∧ jo2 < n' ∧ jw2 ≠ jo2 ∧ L3.length = M2 ∧ M2 ≤ (K + 1) + M ∧ L3 = R.2.2 ∧ v = .bool true ∧ d = [(s, some ⟨[[(.slice (some ⟨jn, 0, none⟩) NX 0), (.slice (some ⟨jw2, 0, none⟩) R.2.1.length 0), (.slice (some ⟨jo2, 0, none⟩) M2 0)]], 3, 101, true⟩), (jn, some (oUx (nx.set t (Ux.mk R.1)))), (jw2, some (oMsg R.2.1)), (jo2, some (oMsg L3)), (jw, none)]) := by
 have lhs := hd.lt hs
 have lhjn := hd.lt hjn
 have lhjw := hd.lt hjw
 refine CQ.body (E := env) env_ok hd rfl rfl (by show _ ≤ _; exact of_decide_eq_true (by kernel_rfl)) ?_
 refine RA.seq hd ?_
 refine RA.region env_ok ?_
 refine OA.op1 (dst := (some 3)) (v := (Pt n 0 0)) (n1 := (n + 1)) (w := (n, some ⟨[[(.int .i64 ((t : Nat) : Int)), (.int .i64 ssn), (.bool false), (W pr), (.string da)]], 5, 29, true⟩)) rfl rfl rfl rfl (by omega) ?_
 refine OA.p (some 4) (.bool false) rfl rfl rfl rfl ?_
 refine OA.nil ?_
 intro _
 refine RA.seq hd ?_
 refine RA.seq hd ?_
 refine RA.par (md := [some [], some [], some [], some [], some [n], some [], some [], some [], some [], some [n], some [], some [], some [], some [s], some [], some [], some []]) env_ok (hd.of (by omega) (kb1 (by omega))) (by kernel_rfl) ?_
 refine PQ.pure (dst := (some 6)) (v := (Pt s 0 0)) rfl rfl rfl noStore (none_ok _ _) rfl ?_
 refine PQ.pure (dst := (some 7)) (v := (.bool false)) rfl rfl rfl noStore (none_ok _ _) rfl ?_
 refine PQ.pure (dst := (some 8)) (v := (.bool false)) rfl rfl rfl noStore (none_ok _ _) rfl ?_
 refine PQ.pure (dst := (some 9)) (v := (Pt n 0 0)) rfl rfl rfl noStore (none_ok _ _) rfl ?_
 refine PQ.pure (dst := (some 10)) (v := (.int .i64 ((t : Nat) : Int))) rfl rfl rfl (app [(n, some ⟨[[(.int .i64 ((t : Nat) : Int)), (.int .i64 ssn), (.bool false), (W pr), (.string da)]], 5, 29, true⟩)] noStore) (seen_one (V := []) (D := [(n, some ⟨[[(.int .i64 ((t : Nat) : Int)), (.int .i64 ssn), (.bool false), (W pr), (.string da)]], 5, 29, true⟩)]) (by kernel_rfl) get_here) (r_load1 rfl rfl rfl rfl rfl get_here rfl rfl) ?_
 have hc1 : ¬ (((t : Nat) : Int) < 0) := fun hdd => by exfalso; first | exact hl hdd | (rw [hc] at hdd; cases hdd) | omega
 refine PQ.pure (dst := (some 11)) (v := (.bool false)) rfl rfl rfl noStore (none_ok _ _) (Eq.trans (r_bin rfl rfl rfl (b_lss rfl)) (dF hc1)) ?_
 refine PQ.pure (dst := (some 12)) (v := (.bool false)) rfl rfl rfl noStore (none_ok _ _) rfl ?_
 refine PQ.pure (dst := (some 13)) (v := (.bool false)) rfl rfl rfl noStore (none_ok _ _) rfl ?_
 refine PQ.pure (dst := (some 14)) (v := (Pt n 0 0)) rfl rfl rfl noStore (none_ok _ _) rfl ?_
 refine PQ.pure (dst := (some 15)) (v := (.int .i64 ((t : Nat) : Int))) rfl rfl rfl (app [(n, some ⟨[[(.int .i64 ((t : Nat) : Int)), (.int .i64 ssn), (.bool false), (W pr), (.string da)]], 5, 29, true⟩)] noStore) (seen_one (V := []) (D := [(n, some ⟨[[(.int .i64 ((t : Nat) : Int)), (.int .i64 ssn), (.bool false), (W pr), (.string da)]], 5, 29, true⟩)]) (by kernel_rfl) get_here) (r_load1 rfl rfl rfl rfl rfl get_here rfl rfl) ?_
 refine PQ.pure (dst := (some 16)) (v := (Pt s 0 0)) rfl rfl rfl noStore (none_ok _ _) rfl ?_
 refine PQ.pure (dst := (some 17)) (v := (Pt s 0 0)) rfl rfl rfl noStore (none_ok _ _) rfl ?_
 refine PQ.pure (dst := (some 18)) (v := (Pt s 0 0)) rfl rfl rfl noStore (none_ok _ _) rfl ?_
 refine PQ.pure (dst := (some 19)) (v := (.slice (some ⟨jn, 0, none⟩) NX 0)) rfl rfl rfl (app [(s, some ⟨[(xDl311 jn NX jw K)], 3, 101, true⟩)] noStore) (seen_one (V := []) (D := [(n, some ⟨[[(.int .i64 ((t : Nat) : Int)), (.int .i64 ssn), (.bool false), (W pr), (.string da)]], 5, 29, true⟩)]) (by kernel_rfl) (get_there (by omega) hs)) (r_load1 rfl rfl rfl rfl rfl get_here rfl rfl) ?_
 refine PQ.pure (dst := (some 20)) (v := (.int .i64 ((NX : Nat) : Int))) rfl rfl rfl noStore (none_ok _ _) rfl ?_
 have hc2 : ¬ (((NX : Nat) : Int) ≤ ((t : Nat) : Int)) := fun hdd => by exfalso; first | exact hl hdd | (rw [hc] at hdd; cases hdd) | omega
 refine PQ.pure (dst := (some 21)) (v := (.bool false)) rfl rfl rfl noStore (none_ok _ _) (Eq.trans (r_bin rfl rfl rfl (b_geq rfl)) (dF hc2)) ?_
 refine PQ.pure (dst := (some 22)) (v := (.bool false)) rfl rfl rfl noStore (none_ok _ _) rfl ?_
 refine PQ.done (d := []) (by kernel_rfl) ?_
 intro _
 refine RA.condF rfl ?_
 refine RA.skip env_ok ?_
 intro _
 refine RA.seq hd ?_
 refine RA.seq hd ?_
 refine RA.region env_ok ?_
 refine OA.p (some 23) (Pt n 0 2) rfl rfl rfl rfl ?_
 refine OA.p (some 24) (.bool false) rfl rfl rfl (r_load1 rfl rfl rfl rfl rfl get_here rfl rfl) ?_
 refine OA.nil ?_
 intro _
 refine RA.condF rfl ?_
 refine RA.skip env_ok ?_
 intro _
 refine RA.seq hd ?_
 refine RA.region env_ok ?_
 refine OA.p (some 35) (Pt n 0 1) rfl rfl rfl rfl ?_
 refine OA.p (some 36) (.int .i64 ssn) rfl rfl rfl (r_load1 rfl rfl rfl rfl rfl get_here rfl rfl) ?_
 refine OA.p (some 37) (.int .u16 (((u16N ssn) : Nat) : Int)) rfl rfl rfl (r_cvt rfl rfl rfl rfl rfl ⟨_, rfl⟩ (wrap_u16s _)) ?_
 refine OA.op1 (dst := (some 5)) (v := (.pointer (some ⟨(n + 1), 0, some 0⟩))) (n1 := (n + 2)) (w := ((n + 1), some ⟨[[(.int .u16 0)]], 1, 102, true⟩)) rfl rfl rfl rfl (by omega) ?_
 refine OA.op1 (dst := none) (v := (.tuple #[])) (n1 := (n + 2)) (w := ((n + 1), some ⟨[[(.int .u16 (((u16N ssn) : Nat) : Int))]], 1, 102, true⟩)) rfl rfl rfl (r_store rfl rfl rfl rfl rfl rfl rfl get_here rfl rfl (Nat.le_of_ble_eq_true rfl) rfl) (by omega) ?_
 refine OA.nil ?_
 intro _
 refine RA.rebase [(0, (Pt s 0 0)), (1, (.agg ⟨[(.int .i64 ((t : Nat) : Int)), (.int .i64 ssn), (.bool false), (W pr), (.string da)]⟩)), (3, (Pt n 0 0)), (4, (.bool false)), (5, (.pointer (some ⟨(n + 1), 0, some 0⟩))), (22, (.bool false)), (24, (.bool false))] ⟨rfl, rfl, rfl, rfl, rfl, rfl, rfl, trivial⟩ (fun τr1 => ?_)
 refine RA.seq hd ?_
 refine RA.seq hd ?_
 refine RA.par (md := [some [(n + 1)], some [], some [], some [], some [s], some [], some [n], none, none, some [], some [], some [], some [], some [], some [s], some [], none, some []]) env_ok (hd.of (by omega) (kb3 (by omega))) (by kernel_rfl) ?_
 refine PQ.pure (dst := (some 38)) (v := (.int .u16 (((u16N ssn) : Nat) : Int))) rfl rfl rfl (app [((n + 1), some ⟨[[(.int .u16 (((u16N ssn) : Nat) : Int))]], 1, 102, true⟩)] noStore) (seen_one (V := []) (D := [((n + 1), some ⟨[[(.int .u16 (((u16N ssn) : Nat) : Int))]], 1, 102, true⟩), ((n + 1), some ⟨[[(.int .u16 0)]], 1, 102, true⟩), (n, some ⟨[[(.int .i64 ((t : Nat) : Int)), (.int .i64 ssn), (.bool false), (W pr), (.string da)]], 5, 29, true⟩)]) (by kernel_rfl) get_here) (r_load1 rfl rfl rfl rfl rfl get_here rfl rfl) ?_
 refine PQ.pure (dst := (some 39)) (v := (Pt s 0 0)) rfl rfl rfl noStore (none_ok _ _) rfl ?_
 refine PQ.pure (dst := (some 40)) (v := (Pt s 0 0)) rfl rfl rfl noStore (none_ok _ _) rfl ?_
 refine PQ.pure (dst := (some 41)) (v := (Pt s 0 0)) rfl rfl rfl noStore (none_ok _ _) rfl ?_
 refine PQ.pure (dst := (some 42)) (v := (.slice (some ⟨jn, 0, none⟩) NX 0)) rfl rfl rfl (app [(s, some ⟨[(xDl311 jn NX jw K)], 3, 101, true⟩)] noStore) (seen_one (V := []) (D := [((n + 1), some ⟨[[(.int .u16 (((u16N ssn) : Nat) : Int))]], 1, 102, true⟩), ((n + 1), some ⟨[[(.int .u16 0)]], 1, 102, true⟩), (n, some ⟨[[(.int .i64 ((t : Nat) : Int)), (.int .i64 ssn), (.bool false), (W pr), (.string da)]], 5, 29, true⟩)]) (by kernel_rfl) (gt3 (by omega) hs)) (r_load1 rfl rfl rfl rfl rfl get_here rfl rfl) ?_
 refine PQ.pure (dst := (some 43)) (v := (Pt n 0 0)) rfl rfl rfl noStore (none_ok _ _) rfl ?_
 refine PQ.pure (dst := (some 44)) (v := (.int .i64 ((t : Nat) : Int))) rfl rfl rfl (app [(n, some ⟨[[(.int .i64 ((t : Nat) : Int)), (.int .i64 ssn), (.bool false), (W pr), (.string da)]], 5, 29, true⟩)] noStore) (seen_one (V := []) (D := [((n + 1), some ⟨[[(.int .u16 (((u16N ssn) : Nat) : Int))]], 1, 102, true⟩), ((n + 1), some ⟨[[(.int .u16 0)]], 1, 102, true⟩), (n, some ⟨[[(.int .i64 ((t : Nat) : Int)), (.int .i64 ssn), (.bool false), (W pr), (.string da)]], 5, 29, true⟩)]) (by kernel_rfl) (gt2 (by omega) get_here)) (r_load1 rfl rfl rfl rfl rfl get_here rfl rfl) ?_
 refine PQ.pure (dst := (some 45)) (v := (Pt jn t 0)) rfl rfl rfl _ (seen_any (V := []) (D := [((n + 1), some ⟨[[(.int .u16 (((u16N ssn) : Nat) : Int))]], 1, 102, true⟩), ((n + 1), some ⟨[[(.int .u16 0)]], 1, 102, true⟩), (n, some ⟨[[(.int .i64 ((t : Nat) : Int)), (.int .i64 ssn), (.bool false), (W pr), (.string da)]], 5, 29, true⟩)]) (by kernel_rfl)) (r_iaS (l := t) rfl rfl rfl rfl rfl rfl (by omega) (by omega) (gt3 (by omega) hjn) rfl (by omega)) ?_
 refine PQ.pure (dst := (some 46)) (v := (.int .u16 (((nx.getD t dUx).z : Nat) : Int))) rfl rfl rfl _ (seen_any (V := []) (D := [((n + 1), some ⟨[[(.int .u16 (((u16N ssn) : Nat) : Int))]], 1, 102, true⟩), ((n + 1), some ⟨[[(.int .u16 0)]], 1, 102, true⟩), (n, some ⟨[[(.int .i64 ((t : Nat) : Int)), (.int .i64 ssn), (.bool false), (W pr), (.string da)]], 5, 29, true⟩)]) (by kernel_rfl)) (r_loadF (c := cUx) dUx rfl rfl rfl rfl rfl (gt3 (by omega) hjn) (by rw [hnx]; omega) rfl) ?_
 have hc3 : ¬ (less16 (u16N ssn) (nx.getD t dUx).z) := fun hdd => by exfalso; first | exact hl hdd | (rw [hc] at hdd; cases hdd) | omega
 refine PQ.callP (dst := (some 47)) (all := [(.int .u16 (((u16N ssn) : Nat) : Int)), (.int .u16 (((nx.getD t dUx).z : Nat) : Int))]) (v := (.bool false)) noStore (dom_none _) rfl rfl rfl rfl rfl rfl rfl rfl (none_ok _ _) (PS.to (dLess (u16N ssn) (nx.getD t dUx).z) (show (.bool (decide (less16 (u16N ssn) (nx.getD t dUx).z))) = ((.bool false) : Value) from (by first | (rw [decide_eq_false hc3]; done) | (rw [decide_eq_false hc3]; rfl)))) ?_
 intro n2 hn2
 refine PQ.pure (dst := (some 48)) (v := (.bool false)) rfl rfl rfl noStore (none_ok _ _) rfl ?_
 refine PQ.pure (dst := (some 49)) (v := (Pt s 0 0)) rfl rfl rfl noStore (none_ok _ _) rfl ?_
 refine PQ.pure (dst := (some 50)) (v := (Pt s 0 0)) rfl rfl rfl noStore (none_ok _ _) rfl ?_
 refine PQ.pure (dst := (some 51)) (v := (Pt s 0 1)) rfl rfl rfl noStore (none_ok _ _) rfl ?_
 refine PQ.pure (dst := (some 52)) (v := (.slice (some ⟨jw, 0, none⟩) K 0)) rfl rfl rfl (app [(s, some ⟨[(xDl311 jn NX jw K)], 3, 101, true⟩)] noStore) (seen_one (V := []) (D := [((n + 1), some ⟨[[(.int .u16 (((u16N ssn) : Nat) : Int))]], 1, 102, true⟩), ((n + 1), some ⟨[[(.int .u16 0)]], 1, 102, true⟩), (n, some ⟨[[(.int .i64 ((t : Nat) : Int)), (.int .i64 ssn), (.bool false), (W pr), (.string da)]], 5, 29, true⟩)]) (by kernel_rfl) (gt3 (by omega) hs)) (r_load1 rfl rfl rfl rfl rfl get_here rfl rfl) ?_
 refine PQ.pure (dst := (some 53)) (v := (.func (.func 58) ⟨[]⟩ ⟨[(Pt n 0 0), (.pointer (some ⟨(n + 1), 0, some 0⟩))]⟩)) rfl rfl rfl noStore (none_ok _ _) rfl ?_
 have hc4 : ¬ ((ws.any (qq ((t : Nat) : Int) (u16N ssn))) = true) := fun hdd => by exfalso; first | exact hl hdd | (rw [hc] at hdd; cases hdd) | omega
 refine PQ.callP (dst := (some 54)) (all := (xDl32 jw K n)) (v := (.bool false)) _ (hd.of (by omega) (kb3 (by omega))) rfl rfl rfl rfl rfl rfl rfl rfl (seen_any (V := []) (D := [((n + 1), some ⟨[[(.int .u16 (((u16N ssn) : Nat) : Int))]], 1, 102, true⟩), ((n + 1), some ⟨[[(.int .u16 0)]], 1, 102, true⟩), (n, some ⟨[[(.int .i64 ((t : Nat) : Int)), (.int .i64 ssn), (.bool false), (W pr), (.string da)]], 5, 29, true⟩)]) (by kernel_rfl)) (PS.to (dCont jw K ws hws (by omega) (qq ((t : Nat) : Int) (u16N ssn)) n (n + 1) (gt3 (by omega) hjw) (fun x _ => dPc x (Msg.mk ((t : Nat) : Int) ssn false pr da) n (n + 1) (u16N ssn) (gt2 (by omega) get_here) get_here)) (show (.bool (ws.any (qq ((t : Nat) : Int) (u16N ssn)))) = ((.bool false) : Value) from (by first | (rw [eq_false_of_ne_true hc4]; done) | (rw [eq_false_of_ne_true hc4]; rfl)))) ?_
 intro n3 hn3
 refine PQ.pure (dst := (some 55)) (v := (.bool false)) rfl rfl rfl noStore (none_ok _ _) rfl ?_
 refine PQ.done (d := []) (by kernel_rfl) ?_
 intro _
 refine RA.condF rfl ?_
 refine RA.skip env_ok ?_
 intro _
 refine RA.seq hd ?_
 refine RA.par (md := [some [], some [], some [], some [], some [s], some [n], some [], none, some [], some [], none]) env_ok (hd.of (by omega) (kb3 (by omega))) (by kernel_rfl) ?_
 refine PQ.pure (dst := (some 56)) (v := (Pt s 0 0)) rfl rfl rfl noStore (none_ok _ _) rfl ?_
 refine PQ.pure (dst := (some 57)) (v := (Pt s 0 0)) rfl rfl rfl noStore (none_ok _ _) rfl ?_
 refine PQ.pure (dst := (some 58)) (v := (Pt s 0 0)) rfl rfl rfl noStore (none_ok _ _) rfl ?_
 refine PQ.pure (dst := (some 59)) (v := (Pt s 0 1)) rfl rfl rfl noStore (none_ok _ _) rfl ?_
 refine PQ.pure (dst := (some 60)) (v := (.slice (some ⟨jw, 0, none⟩) K 0)) rfl rfl rfl (app [(s, some ⟨[(xDl311 jn NX jw K)], 3, 101, true⟩)] noStore) (seen_one (V := []) (D := [((n + 1), some ⟨[[(.int .u16 (((u16N ssn) : Nat) : Int))]], 1, 102, true⟩), ((n + 1), some ⟨[[(.int .u16 0)]], 1, 102, true⟩), (n, some ⟨[[(.int .i64 ((t : Nat) : Int)), (.int .i64 ssn), (.bool false), (W pr), (.string da)]], 5, 29, true⟩)]) (by kernel_rfl) (gt3 (by omega) hs)) (r_load1 rfl rfl rfl rfl rfl get_here rfl rfl) ?_
 refine PQ.pure (dst := (some 61)) (v := (.agg ⟨[(.int .i64 ((t : Nat) : Int)), (.int .i64 ssn), (.bool false), (W pr), (.string da)]⟩)) rfl rfl rfl (app [(n, some ⟨[[(.int .i64 ((t : Nat) : Int)), (.int .i64 ssn), (.bool false), (W pr), (.string da)]], 5, 29, true⟩)] noStore) (seen_one (V := []) (D := [((n + 1), some ⟨[[(.int .u16 (((u16N ssn) : Nat) : Int))]], 1, 102, true⟩), ((n + 1), some ⟨[[(.int .u16 0)]], 1, 102, true⟩), (n, some ⟨[[(.int .i64 ((t : Nat) : Int)), (.int .i64 ssn), (.bool false), (W pr), (.string da)]], 5, 29, true⟩)]) (by kernel_rfl) (gt2 (by omega) get_here)) (r_loadA rfl rfl rfl rfl get_here rfl rfl rfl) ?_
 refine PQ.op (dst := (some 62)) (v := (.slice (some ⟨n3, 0, none⟩) 1 0)) (n1 := (n3 + 1)) (d1 := [(n3, some ⟨[[(.int .i64 ((t : Nat) : Int)), (.int .i64 ssn), (.bool false), (W pr), (.string da)]], 5, 29, true⟩)]) rfl rfl rfl noStore (none_ok _ _) (by kernel_rfl) (by omega) (kp1 (wr_new (by omega) (by omega))) ?_
 refine PQ.op (dst := (some 63)) (v := (.slice (some ⟨(n3 + 1), 0, none⟩) (K + 1) 0)) (n1 := (n3 + 2)) (d1 := [((n3 + 1), some (oMsg (ws ++ [(Msg.mk ((t : Nat) : Int) ssn false pr da)]))), (jw, none)]) rfl rfl rfl _ (seen_any (V := [(n3, some ⟨[[(.int .i64 ((t : Nat) : Int)), (.int .i64 ssn), (.bool false), (W pr), (.string da)]], 5, 29, true⟩)]) (D := [((n + 1), some ⟨[[(.int .u16 (((u16N ssn) : Nat) : Int))]], 1, 102, true⟩), ((n + 1), some ⟨[[(.int .u16 0)]], 1, 102, true⟩), (n, some ⟨[[(.int .i64 ((t : Nat) : Int)), (.int .i64 ssn), (.bool false), (W pr), (.string da)]], 5, 29, true⟩)]) (by kernel_rfl)) (r_appendR (c := cMsg) (l' := (ws ++ [(Msg.mk ((t : Nat) : Int) ssn false pr da)])) rfl rfl rfl rfl rfl rfl rfl rfl rfl rfl (by decide) (gt4 (by omega) hjw) get_here (by rw [hws]) (mp_snoc (c := cMsg) (x := (Msg.mk ((t : Nat) : Int) ssn false pr da))) (by omega) (of_decide_eq_true (by kernel_rfl)) (by omega)) (by omega) (kp2 (wr_new (by omega) (by omega)) (wr_old [0] (by kernel_rfl) (by omega) (by omega) (fac (lo0 rfl) fan))) ?_
 refine PQ.pure (dst := (some 64)) (v := (Pt s 0 0)) rfl rfl rfl noStore (none_ok _ _) rfl ?_
 refine PQ.pure (dst := (some 65)) (v := (Pt s 0 1)) rfl rfl rfl noStore (none_ok _ _) rfl ?_
 refine PQ.op (dst := none) (v := (.tuple #[])) (n1 := (n3 + 2)) (d1 := [(s, some ⟨[(xDl38 jn NX n3 K)], 3, 101, true⟩)]) rfl rfl rfl _ (seen_any (V := [((n3 + 1), some (oMsg (ws ++ [(Msg.mk ((t : Nat) : Int) ssn false pr da)]))), (jw, none), (n3, some ⟨[[(.int .i64 ((t : Nat) : Int)), (.int .i64 ssn), (.bool false), (W pr), (.string da)]], 5, 29, true⟩)]) (D := [((n + 1), some ⟨[[(.int .u16 (((u16N ssn) : Nat) : Int))]], 1, 102, true⟩), ((n + 1), some ⟨[[(.int .u16 0)]], 1, 102, true⟩), (n, some ⟨[[(.int .i64 ((t : Nat) : Int)), (.int .i64 ssn), (.bool false), (W pr), (.string da)]], 5, 29, true⟩)]) (by kernel_rfl)) (r_store rfl rfl rfl rfl rfl rfl rfl (gt6 (by omega) hs) rfl rfl (Nat.le_of_ble_eq_true rfl) rfl) (by omega) (kp1 (wr_tight (by kernel_rfl) (by omega))) ?_
 refine PQ.done (d := [(s, some ⟨[(xDl38 jn NX n3 K)], 3, 101, true⟩), ((n3 + 1), some (oMsg (ws ++ [(Msg.mk ((t : Nat) : Int) ssn false pr da)]))), (jw, none), (n3, some ⟨[[(.int .i64 ((t : Nat) : Int)), (.int .i64 ssn), (.bool false), (W pr), (.string da)]], 5, 29, true⟩)]) (by kernel_rfl) ?_
 intro _
 refine RA.rebase [(0, (Pt s 0 0)), (1, (.agg ⟨[(.int .i64 ((t : Nat) : Int)), (.int .i64 ssn), (.bool false), (W pr), (.string da)]⟩)), (3, (Pt n 0 0)), (4, (.bool false)), (5, (.pointer (some ⟨(n + 1), 0, some 0⟩))), (22, (.bool false)), (24, (.bool false)), (55, (.bool false))] ⟨rfl, rfl, rfl, rfl, rfl, rfl, rfl, rfl, trivial⟩ (fun τr4 => ?_)
 refine RA.seq hd ?_
 refine RA.region env_ok ?_
 refine OA.p (some 66) (Pt s 0 0) rfl rfl rfl rfl ?_
 refine OA.p (some 67) (Pt n 0 0) rfl rfl rfl rfl ?_
 refine OA.p (some 68) (.int .i64 ((t : Nat) : Int)) rfl rfl rfl (r_load1 rfl rfl rfl rfl rfl (gt6 (by omega) get_here) rfl rfl) ?_
 refine OA.call (dst := (some 69)) (all := [(Pt s 0 0), (.int .i64 ((t : Nat) : Int))]) rfl rfl rfl rfl rfl rfl rfl rfl (CQ.imp (dGoA (hd.of (by omega) (kb7 (by omega))) s jn (n3 + 1) t NX (K + 1) nx (ws ++ [(Msg.mk ((t : Nat) : Int) ssn false pr da)]) hnx (by rw [List.length_append, List.length_singleton, hws]) ht (by omega) (by omega) (by omega) (by omega) M hM R hR hmv get_here (gt7 (by omega) hjn) (get_there (by omega) get_here)) ?_)
 rintro _ n5 _ ⟨jo2, M2, L3, hga, hgb, hL3, hL4, hL5, rfl, rfl⟩ hn5
 show OA _ _ _ _ _ _ _ _ [(s, some ⟨[(xDl33 jn NX n3 R jo2 M2)], 3, 101, true⟩), (jn, some (oUx (nx.set t (Ux.mk R.1)))), ((n3 + 1), some (oMsg R.2.1)), (jo2, some (oMsg L3)), (s, some ⟨[(xDl38 jn NX n3 K)], 3, 101, true⟩), ((n3 + 1), some (oMsg (ws ++ [(Msg.mk ((t : Nat) : Int) ssn false pr da)]))), (jw, none), (n3, some ⟨[[(.int .i64 ((t : Nat) : Int)), (.int .i64 ssn), (.bool false), (W pr), (.string da)]], 5, 29, true⟩), ((n + 1), some ⟨[[(.int .u16 (((u16N ssn) : Nat) : Int))]], 1, 102, true⟩), ((n + 1), some ⟨[[(.int .u16 0)]], 1, 102, true⟩), (n, some ⟨[[(.int .i64 ((t : Nat) : Int)), (.int .i64 ssn), (.bool false), (W pr), (.string da)]], 5, 29, true⟩)] _
 refine OA.nil ?_
 intro _
 refine RA.weaken (D' := [(s, some ⟨[(xDl33 jn NX n3 R jo2 M2)], 3, 101, true⟩), (jn, some (oUx (nx.set t (Ux.mk R.1)))), ((n3 + 1), some (oMsg R.2.1)), (jo2, some (oMsg L3)), (jw, none), (n3, some ⟨[[(.int .i64 ((t : Nat) : Int)), (.int .i64 ssn), (.bool false), (W pr), (.string da)]], 5, 29, true⟩), ((n + 1), some ⟨[[(.int .u16 (((u16N ssn) : Nat) : Int))]], 1, 102, true⟩), (n, some ⟨[[(.int .i64 ((t : Nat) : Int)), (.int .i64 ssn), (.bool false), (W pr), (.string da)]], 5, 29, true⟩)]) hd (Less.of (fac (mm (fun _ => get_here) (fun _ => get_here)) (fac (mm (fun _ => (get_there (by omega) get_here)) (fun _ => (get_there (by omega) get_here))) (fac (mm (fun _ => (gt2 (by omega) get_here)) (fun _ => (gt2 (by omega) get_here))) (fac (mm (fun _ => (gt3 (by omega) get_here)) (fun _ => (gt3 (by omega) get_here))) (fac (mm (fun _ => (gt4 (by omega) get_here)) (fun _ => (gt6 (by omega) get_here))) (fac (mm (fun _ => (gt5 (by omega) get_here)) (fun _ => (gt7 (by omega) get_here))) (fac (mm (fun _ => (gt6 (by omega) get_here)) (fun _ => (gt8 (by omega) get_here))) (fac (mm (fun _ => (gt7 (by omega) get_here)) (fun _ => (gt10 (by omega) get_here))) fan)))))))) (gone_of (by simp only [goneP, memP, List.cons_append, List.nil_append, true_or, or_true, true_and, and_true, or_false] <;> omega))) ?_
 refine RA.seq hd ?_
 refine RA.region env_ok ?_
 refine OA.p (some 4) (.bool true) rfl rfl rfl rfl ?_
 refine OA.nil ?_
 intro _
 refine RA.ret env_ok ?_
 refine ⟨.inr rfl, [(.bool true)], (resL_cons rfl resL_nil), [(s, some ⟨[(xDl33 jn NX n3 R jo2 M2)], 3, 101, true⟩), (jn, some (oUx (nx.set t (Ux.mk R.1)))), ((n3 + 1), some (oMsg R.2.1)), (jo2, some (oMsg L3)), (jw, none)], (Less.of (fac (mm (fun _ => get_here) (fun _ => get_here)) (fac (mm (fun _ => (get_there (by omega) get_here)) (fun _ => (get_there (by omega) get_here))) (fac (mm (fun _ => (gt2 (by omega) get_here)) (fun _ => (gt2 (by omega) get_here))) (fac (mm (fun _ => (gt3 (by omega) get_here)) (fun _ => (gt3 (by omega) get_here))) (fac (mm (fun _ => (gt4 (by omega) get_here)) (fun _ => (gt4 (by omega) get_here))) fan))))) (gone_of (by simp only [goneP, memP, List.cons_append, List.nil_append, true_or, or_true, true_and, and_true, or_false] <;> omega))), ⟨(n3 + 1), jo2, M2, L3, by omega, by omega, by omega, by omega, by omega, by omega, by omega, hL5, rfl, rfl⟩⟩

theorem dPutRBN {n : Nat} {σ : Store} (hd : Dom n σ) (s jn t NX : Nat) (nx : List Ux) (hnx : nx.length = NX) (ht : t < NX) (h1 : s ≠ jn) (jw K : Nat) (ws : List Msg) (hws : ws.length = K) (hK : K ≤ 900) (h2 : s ≠ jw) (h3 : jn ≠ jw) (jo off M : Nat) (L2 : List Msg) (hL2 : L2.length = off + M) (hM : M ≤ 100000) (h4 : s ≠ jo) (h5 : jn ≠ jo) (h6 : jw ≠ jo) (ssn : Int) (pr : BitVec 32) (da : ByteArray) (hl : ¬ less16 (u16N ssn) (nx.getD t dUx).z) (hc : ws.any (qq ((t : Nat) : Int) (u16N ssn)) = false) (hmv : ¬ (ws ++ [(Msg.mk ((t : Nat) : Int) ssn false pr da)]).findIdx (qq ((t : Nat) : Int) (nx.getD t dUx).z) < (ws ++ [(Msg.mk ((t : Nat) : Int) ssn false pr da)]).length) (hs : σ s = some ⟨[[(.slice (some ⟨jn, 0, none⟩) NX 0), (.slice (some ⟨jw, 0, none⟩) K 0), (.slice (some ⟨jo, off, none⟩) M 0)]], 3, 101, true⟩) (hjn : σ jn = some (oUx nx)) (hjw : σ jw = some (oMsg ws)) (hjo : σ jo = some (oMsg L2))  : CQ Try.prog noDen 14 [(Pt s 0 0), (.agg ⟨[(.int .i64 ((t : Nat) : Int)), (.int .i64 ssn), (.bool false), (W pr), (.string da)]⟩)] n σ (fun v n' d => ∃ jw2, n ≤ jw2 ∧ jw2 < n' ∧ v = .bool true ∧ d = [(s, some ⟨[[(.slice (some ⟨jn, 0, none⟩) NX 0), (.slice (some ⟨jw2, 0, none⟩) (K + 1) 0), (.slice (some ⟨jo, off, none⟩) M 0)]], 3, 101, true⟩), (jw2, some (oMsg (ws ++ [(Msg.mk ((t : Nat) : Int) ssn false pr da)]))), (jw, none)]) := by
 have lhs := hd.lt hs
 have lhjn := hd.lt hjn
 have lhjw := hd.lt hjw
 have lhjo := hd.lt hjo
 refine CQ.body (E := env) env_ok hd rfl rfl (by show _ ≤ _; exact of_decide_eq_true (by kernel_rfl)) ?_
 refine RA.seq hd ?_
 refine RA.region env_ok ?_
 refine OA.op1 (dst := (some 3)) (v := (Pt n 0 0)) (n1 := (n + 1)) (w := (n, some ⟨[[(.int .i64 ((t : Nat) : Int)), (.int .i64 ssn), (.bool false), (W pr), (.string da)]], 5, 29, true⟩)) rfl rfl rfl rfl (by omega) ?_
 refine OA.p (some 4) (.bool false) rfl rfl rfl rfl ?_
 refine OA.nil ?_
 intro _
 refine RA.seq hd ?_
 refine RA.seq hd ?_
 refine RA.par (md := [some [], some [], some [], some [], some [n], some [], some [], some [], some [], some [n], some [], some [], some [], some [s], some [], some [], some []]) env_ok (hd.of (by omega) (kb1 (by omega))) (by kernel_rfl) ?_
 refine PQ.pure (dst := (some 6)) (v := (Pt s 0 0)) rfl rfl rfl noStore (none_ok _ _) rfl ?_
 refine PQ.pure (dst := (some 7)) (v := (.bool false)) rfl rfl rfl noStore (none_ok _ _) rfl ?_
 refine PQ.pure (dst := (some 8)) (v := (.bool false)) rfl rfl rfl noStore (none_ok _ _) rfl ?_
 refine PQ.pure (dst := (some 9)) (v := (Pt n 0 0)) rfl rfl rfl noStore (none_ok _ _) rfl ?_
 refine PQ.pure (dst := (some 10)) (v := (.int .i64 ((t : Nat) : Int))) rfl rfl rfl (app [(n, some ⟨[[(.int .i64 ((t : Nat) : Int)), (.int .i64 ssn), (.bool false), (W pr), (.string da)]], 5, 29, true⟩)] noStore) (seen_one (V := []) (D := [(n, some ⟨[[(.int .i64 ((t : Nat) : Int)), (.int .i64 ssn), (.bool false), (W pr), (.string da)]], 5, 29, true⟩)]) (by kernel_rfl) get_here) (r_load1 rfl rfl rfl rfl rfl get_here rfl rfl) ?_
 have hc1 : ¬ (((t : Nat) : Int) < 0) := fun hdd => by exfalso; first | exact hl hdd | (rw [hc] at hdd; cases hdd) | omega
 refine PQ.pure (dst := (some 11)) (v := (.bool false)) rfl rfl rfl noStore (none_ok _ _) (Eq.trans (r_bin rfl rfl rfl (b_lss rfl)) (dF hc1)) ?_
 refine PQ.pure (dst := (some 12)) (v := (.bool false)) rfl rfl rfl noStore (none_ok _ _) rfl ?_
 refine PQ.pure (dst := (some 13)) (v := (.bool false)) rfl rfl rfl noStore (none_ok _ _) rfl ?_
 refine PQ.pure (dst := (some 14)) (v := (Pt n 0 0)) rfl rfl rfl noStore (none_ok _ _) rfl ?_
 refine PQ.pure (dst := (some 15)) (v := (.int .i64 ((t : Nat) : Int))) rfl rfl rfl (app [(n, some ⟨[[(.int .i64 ((t : Nat) : Int)), (.int .i64 ssn), (.bool false), (W pr), (.string da)]], 5, 29, true⟩)] noStore) (seen_one (V := []) (D := [(n, some ⟨[[(.int .i64 ((t : Nat) : Int)), (.int .i64 ssn), (.bool false), (W pr), (.string da)]], 5, 29, true⟩)]) (by kernel_rfl) get_here) (r_load1 rfl rfl rfl rfl rfl get_here rfl rfl) ?_
 refine PQ.pure (dst := (some 16)) (v := (Pt s 0 0)) rfl rfl rfl noStore (none_ok _ _) rfl ?_
 refine PQ.pure (dst := (some 17)) (v := (Pt s 0 0)) rfl rfl rfl noStore (none_ok _ _) rfl ?_
 refine PQ.pure (dst := (some 18)) (v := (Pt s 0 0)) rfl rfl rfl noStore (none_ok _ _) rfl ?_
 refine PQ.pure (dst := (some 19)) (v := (.slice (some ⟨jn, 0, none⟩) NX 0)) rfl rfl rfl (app [(s, some ⟨[(xDl37 jn NX jw K jo off M)], 3, 101, true⟩)] noStore) (seen_one (V := []) (D := [(n, some ⟨[[(.int .i64 ((t : Nat) : Int)), (.int .i64 ssn), (.bool false), (W pr), (.string da)]], 5, 29, true⟩)]) (by kernel_rfl) (get_there (by omega) hs)) (r_load1 rfl rfl rfl rfl rfl get_here rfl rfl) ?_
 refine PQ.pure (dst := (some 20)) (v := (.int .i64 ((NX : Nat) : Int))) rfl rfl rfl noStore (none_ok _ _) rfl ?_
 have hc2 : ¬ (((NX : Nat) : Int) ≤ ((t : Nat) : Int)) := fun hdd => by exfalso; first | exact hl hdd | (rw [hc] at hdd; cases hdd) | omega
 refine PQ.pure (dst := (some 21)) (v := (.bool false)) rfl rfl rfl noStore (none_ok _ _) (Eq.trans (r_bin rfl rfl rfl (b_geq rfl)) (dF hc2)) ?_
 refine PQ.pure (dst := (some 22)) (v := (.bool false)) rfl rfl rfl noStore (none_ok _ _) rfl ?_
 refine PQ.done (d := []) (by kernel_rfl) ?_
 intro _
 refine RA.condF rfl ?_
 refine RA.skip env_ok ?_
 intro _
 refine RA.seq hd ?_
 refine RA.seq hd ?_
 refine RA.region env_ok ?_
 refine OA.p (some 23) (Pt n 0 2) rfl rfl rfl rfl ?_
 refine OA.p (some 24) (.bool false) rfl rfl rfl (r_load1 rfl rfl rfl rfl rfl get_here rfl rfl) ?_
 refine OA.nil ?_
 intro _
 refine RA.condF rfl ?_
 refine RA.skip env_ok ?_
 intro _
 refine RA.seq hd ?_
 refine RA.region env_ok ?_
 refine OA.p (some 35) (Pt n 0 1) rfl rfl rfl rfl ?_
 refine OA.p (some 36) (.int .i64 ssn) rfl rfl rfl (r_load1 rfl rfl rfl rfl rfl get_here rfl rfl) ?_
 refine OA.p (some 37) (.int .u16 (((u16N ssn) : Nat) : Int)) rfl rfl rfl (r_cvt rfl rfl rfl rfl rfl ⟨_, rfl⟩ (wrap_u16s _)) ?_
 refine OA.op1 (dst := (some 5)) (v := (.pointer (some ⟨(n + 1), 0, some 0⟩))) (n1 := (n + 2)) (w := ((n + 1), some ⟨[[(.int .u16 0)]], 1, 102, true⟩)) rfl rfl rfl rfl (by omega) ?_
 refine OA.op1 (dst := none) (v := (.tuple #[])) (n1 := (n + 2)) (w := ((n + 1), some ⟨[[(.int .u16 (((u16N ssn) : Nat) : Int))]], 1, 102, true⟩)) rfl rfl rfl (r_store rfl rfl rfl rfl rfl rfl rfl get_here rfl rfl (Nat.le_of_ble_eq_true rfl) rfl) (by omega) ?_
 refine OA.nil ?_
 intro _
 refine RA.rebase [(0, (Pt s 0 0)), (1, (.agg ⟨[(.int .i64 ((t : Nat) : Int)), (.int .i64 ssn), (.bool false), (W pr), (.string da)]⟩)), (3, (Pt n 0 0)), (4, (.bool false)), (5, (.pointer (some ⟨(n + 1), 0, some 0⟩))), (22, (.bool false)), (24, (.bool false))] ⟨rfl, rfl, rfl, rfl, rfl, rfl, rfl, trivial⟩ (fun τr1 => ?_)
 refine RA.seq hd ?_
 refine RA.seq hd ?_
 refine RA.par (md := [some [(n + 1)], some [], some [], some [], some [s], some [], some [n], none, none, some [], some [], some [], some [], some [], some [s], some [], none, some []]) env_ok (hd.of (by omega) (kb3 (by omega))) (by kernel_rfl) ?_
 refine PQ.pure (dst := (some 38)) (v := (.int .u16 (((u16N ssn) : Nat) : Int))) rfl rfl rfl (app [((n + 1), some ⟨[[(.int .u16 (((u16N ssn) : Nat) : Int))]], 1, 102, true⟩)] noStore) (seen_one (V := []) (D := [((n + 1), some ⟨[[(.int .u16 (((u16N ssn) : Nat) : Int))]], 1, 102, true⟩), ((n + 1), some ⟨[[(.int .u16 0)]], 1, 102, true⟩), (n, some ⟨[[(.int .i64 ((t : Nat) : Int)), (.int .i64 ssn), (.bool false), (W pr), (.string da)]], 5, 29, true⟩)]) (by kernel_rfl) get_here) (r_load1 rfl rfl rfl rfl rfl get_here rfl rfl) ?_
 refine PQ.pure (dst := (some 39)) (v := (Pt s 0 0)) rfl rfl rfl noStore (none_ok _ _) rfl ?_
 refine PQ.pure (dst := (some 40)) (v := (Pt s 0 0)) rfl rfl rfl noStore (none_ok _ _) rfl ?_
 refine PQ.pure (dst := (some 41)) (v := (Pt s 0 0)) rfl rfl rfl noStore (none_ok _ _) rfl ?_
 refine PQ.pure (dst := (some 42)) (v := (.slice (some ⟨jn, 0, none⟩) NX 0)) rfl rfl rfl (app [(s, some ⟨[(xDl37 jn NX jw K jo off M)], 3, 101, true⟩)] noStore) (seen_one (V := []) (D := [((n + 1), some ⟨[[(.int .u16 (((u16N ssn) : Nat) : Int))]], 1, 102, true⟩), ((n + 1), some ⟨[[(.int .u16 0)]], 1, 102, true⟩), (n, some ⟨[[(.int .i64 ((t : Nat) : Int)), (.int .i64 ssn), (.bool false), (W pr), (.string da)]], 5, 29, true⟩)]) (by kernel_rfl) (gt3 (by omega) hs)) (r_load1 rfl rfl rfl rfl rfl get_here rfl rfl) ?_
 refine PQ.pure (dst := (some 43)) (v := (Pt n 0 0)) rfl rfl rfl noStore (none_ok _ _) rfl ?_
 refine PQ.pure (dst := (some 44)) (v := (.int .i64 ((t : Nat) : Int))) rfl rfl rfl (app [(n, some ⟨[[(.int .i64 ((t : Nat) : Int)), (.int .i64 ssn), (.bool false), (W pr), (.string da)]], 5, 29, true⟩)] noStore) (seen_one (V := []) (D := [((n + 1), some ⟨[[(.int .u16 (((u16N ssn) : Nat) : Int))]], 1, 102, true⟩), ((n + 1), some ⟨[[(.int .u16 0)]], 1, 102, true⟩), (n, some ⟨[[(.int .i64 ((t : Nat) : Int)), (.int .i64 ssn), (.bool false), (W pr), (.string da)]], 5, 29, true⟩)]) (by kernel_rfl) (gt2 (by omega) get_here)) (r_load1 rfl rfl rfl rfl rfl get_here rfl rfl) ?_
 refine PQ.pure (dst := (some 45)) (v := (Pt jn t 0)) rfl rfl rfl _ (seen_any (V := []) (D := [((n + 1), some ⟨[[(.int .u16 (((u16N ssn) : Nat) : Int))]], 1, 102, true⟩), ((n + 1), some ⟨[[(.int .u16 0)]], 1, 102, true⟩), (n, some ⟨[[(.int .i64 ((t : Nat) : Int)), (.int .i64 ssn), (.bool false), (W pr), (.string da)]], 5, 29, true⟩)]) (by kernel_rfl)) (r_iaS (l := t) rfl rfl rfl rfl rfl rfl (by omega) (by omega) (gt3 (by omega) hjn) rfl (by omega)) ?_
 refine PQ.pure (dst := (some 46)) (v := (.int .u16 (((nx.getD t dUx).z : Nat) : Int))) rfl rfl rfl _ (seen_any (V := []) (D := [((n + 1), some ⟨[[(.int .u16 (((u16N ssn) : Nat) : Int))]], 1, 102, true⟩), ((n + 1), some ⟨[[(.int .u16 0)]], 1, 102, true⟩), (n, some ⟨[[(.int .i64 ((t : Nat) : Int)), (.int .i64 ssn), (.bool false), (W pr), (.string da)]], 5, 29, true⟩)]) (by kernel_rfl)) (r_loadF (c := cUx) dUx rfl rfl rfl rfl rfl (gt3 (by omega) hjn) (by rw [hnx]; omega) rfl) ?_
 have hc3 : ¬ (less16 (u16N ssn) (nx.getD t dUx).z) := fun hdd => by exfalso; first | exact hl hdd | (rw [hc] at hdd; cases hdd) | omega
 refine PQ.callP (dst := (some 47)) (all := [(.int .u16 (((u16N ssn) : Nat) : Int)), (.int .u16 (((nx.getD t dUx).z : Nat) : Int))]) (v := (.bool false)) noStore (dom_none _) rfl rfl rfl rfl rfl rfl rfl rfl (none_ok _ _) (PS.to (dLess (u16N ssn) (nx.getD t dUx).z) (show (.bool (decide (less16 (u16N ssn) (nx.getD t dUx).z))) = ((.bool false) : Value) from (by first | (rw [decide_eq_false hc3]; done) | (rw [decide_eq_false hc3]; rfl)))) ?_
 intro n2 hn2
 refine PQ.pure (dst := (some 48)) (v := (.bool false)) rfl rfl rfl noStore (none_ok _ _) rfl ?_
 refine PQ.pure (dst := (some 49)) (v := (Pt s 0 0)) rfl rfl rfl noStore (none_ok _ _) rfl ?_
 refine PQ.pure (dst := (some 50)) (v := (Pt s 0 0)) rfl rfl rfl noStore (none_ok _ _) rfl ?_
 refine PQ.pure (dst := (some 51)) (v := (Pt s 0 1)) rfl rfl rfl noStore (none_ok _ _) rfl ?_
 refine PQ.pure (dst := (some 52)) (v := (.slice (some ⟨jw, 0, none⟩) K 0)) rfl rfl rfl (app [(s, some ⟨[(xDl37 jn NX jw K jo off M)], 3, 101, true⟩)] noStore) (seen_one (V := []) (D := [((n + 1), some ⟨[[(.int .u16 (((u16N ssn) : Nat) : Int))]], 1, 102, true⟩), ((n + 1), some ⟨[[(.int .u16 0)]], 1, 102, true⟩), (n, some ⟨[[(.int .i64 ((t : Nat) : Int)), (.int .i64 ssn), (.bool false), (W pr), (.string da)]], 5, 29, true⟩)]) (by kernel_rfl) (gt3 (by omega) hs)) (r_load1 rfl rfl rfl rfl rfl get_here rfl rfl) ?_
 refine PQ.pure (dst := (some 53)) (v := (.func (.func 58) ⟨[]⟩ ⟨[(Pt n 0 0), (.pointer (some ⟨(n + 1), 0, some 0⟩))]⟩)) rfl rfl rfl noStore (none_ok _ _) rfl ?_
 have hc4 : ¬ ((ws.any (qq ((t : Nat) : Int) (u16N ssn))) = true) := fun hdd => by exfalso; first | exact hl hdd | (rw [hc] at hdd; cases hdd) | omega
 refine PQ.callP (dst := (some 54)) (all := (xDl32 jw K n)) (v := (.bool false)) _ (hd.of (by omega) (kb3 (by omega))) rfl rfl rfl rfl rfl rfl rfl rfl (seen_any (V := []) (D := [((n + 1), some ⟨[[(.int .u16 (((u16N ssn) : Nat) : Int))]], 1, 102, true⟩), ((n + 1), some ⟨[[(.int .u16 0)]], 1, 102, true⟩), (n, some ⟨[[(.int .i64 ((t : Nat) : Int)), (.int .i64 ssn), (.bool false), (W pr), (.string da)]], 5, 29, true⟩)]) (by kernel_rfl)) (PS.to (dCont jw K ws hws (by omega) (qq ((t : Nat) : Int) (u16N ssn)) n (n + 1) (gt3 (by omega) hjw) (fun x _ => dPc x (Msg.mk ((t : Nat) : Int) ssn false pr da) n (n + 1) (u16N ssn) (gt2 (by omega) get_here) get_here)) (show (.bool (ws.any (qq ((t : Nat) : Int) (u16N ssn)))) = ((.bool false) : Value) from (by first | (rw [eq_false_of_ne_true hc4]; done) | (rw [eq_false_of_ne_true hc4]; rfl)))) ?_
 intro n3 hn3
 refine PQ.pure (dst := (some 55)) (v := (.bool false)) rfl rfl rfl noStore (none_ok _ _) rfl ?_
 refine PQ.done (d := []) (by kernel_rfl) ?_
 intro _
 refine RA.condF rfl ?_
 refine RA.skip env_ok ?_
 intro _
 refine RA.seq hd ?_
 refine RA.par (md := [some [], some [], some [], some [], some [s], some [n], some [], none, some [], some [], none]) env_ok (hd.of (by omega) (kb3 (by omega))) (by kernel_rfl) ?_
 refine PQ.pure (dst := (some 56)) (v := (Pt s 0 0)) rfl rfl rfl noStore (none_ok _ _) rfl ?_
 refine PQ.pure (dst := (some 57)) (v := (Pt s 0 0)) rfl rfl rfl noStore (none_ok _ _) rfl ?_
 refine PQ.pure (dst := (some 58)) (v := (Pt s 0 0)) rfl rfl rfl noStore (none_ok _ _) rfl ?_
 refine PQ.pure (dst := (some 59)) (v := (Pt s 0 1)) rfl rfl rfl noStore (none_ok _ _) rfl ?_
 refine PQ.pure (dst := (some 60)) (v := (.slice (some ⟨jw, 0, none⟩) K 0)) rfl rfl rfl (app [(s, some ⟨[(xDl37 jn NX jw K jo off M)], 3, 101, true⟩)] noStore) (seen_one (V := []) (D := [((n + 1), some ⟨[[(.int .u16 (((u16N ssn) : Nat) : Int))]], 1, 102, true⟩), ((n + 1), some ⟨[[(.int .u16 0)]], 1, 102, true⟩), (n, some ⟨[[(.int .i64 ((t : Nat) : Int)), (.int .i64 ssn), (.bool false), (W pr), (.string da)]], 5, 29, true⟩)]) (by kernel_rfl) (gt3 (by omega) hs)) (r_load1 rfl rfl rfl rfl rfl get_here rfl rfl) ?_
 refine PQ.pure (dst := (some 61)) (v := (.agg ⟨[(.int .i64 ((t : Nat) : Int)), (.int .i64 ssn), (.bool false), (W pr), (.string da)]⟩)) rfl rfl rfl (app [(n, some ⟨[[(.int .i64 ((t : Nat) : Int)), (.int .i64 ssn), (.bool false), (W pr), (.string da)]], 5, 29, true⟩)] noStore) (seen_one (V := []) (D := [((n + 1), some ⟨[[(.int .u16 (((u16N ssn) : Nat) : Int))]], 1, 102, true⟩), ((n + 1), some ⟨[[(.int .u16 0)]], 1, 102, true⟩), (n, some ⟨[[(.int .i64 ((t : Nat) : Int)), (.int .i64 ssn), (.bool false), (W pr), (.string da)]], 5, 29, true⟩)]) (by kernel_rfl) (gt2 (by omega) get_here)) (r_loadA rfl rfl rfl rfl get_here rfl rfl rfl) ?_
 refine PQ.op (dst := (some 62)) (v := (.slice (some ⟨n3, 0, none⟩) 1 0)) (n1 := (n3 + 1)) (d1 := [(n3, some ⟨[[(.int .i64 ((t : Nat) : Int)), (.int .i64 ssn), (.bool false), (W pr), (.string da)]], 5, 29, true⟩)]) rfl rfl rfl noStore (none_ok _ _) (by kernel_rfl) (by omega) (kp1 (wr_new (by omega) (by omega))) ?_
 refine PQ.op (dst := (some 63)) (v := (.slice (some ⟨(n3 + 1), 0, none⟩) (K + 1) 0)) (n1 := (n3 + 2)) (d1 := [((n3 + 1), some (oMsg (ws ++ [(Msg.mk ((t : Nat) : Int) ssn false pr da)]))), (jw, none)]) rfl rfl rfl _ (seen_any (V := [(n3, some ⟨[[(.int .i64 ((t : Nat) : Int)), (.int .i64 ssn), (.bool false), (W pr), (.string da)]], 5, 29, true⟩)]) (D := [((n + 1), some ⟨[[(.int .u16 (((u16N ssn) : Nat) : Int))]], 1, 102, true⟩), ((n + 1), some ⟨[[(.int .u16 0)]], 1, 102, true⟩), (n, some ⟨[[(.int .i64 ((t : Nat) : Int)), (.int .i64 ssn), (.bool false), (W pr), (.string da)]], 5, 29, true⟩)]) (by kernel_rfl)) (r_appendR (c := cMsg) (l' := (ws ++ [(Msg.mk ((t : Nat) : Int) ssn false pr da)])) rfl rfl rfl rfl rfl rfl rfl rfl rfl rfl (by decide) (gt4 (by omega) hjw) get_here (by rw [hws]) (mp_snoc (c := cMsg) (x := (Msg.mk ((t : Nat) : Int) ssn false pr da))) (by omega) (of_decide_eq_true (by kernel_rfl)) (by omega)) (by omega) (kp2 (wr_new (by omega) (by omega)) (wr_old [0] (by kernel_rfl) (by omega) (by omega) (fac (lo0 rfl) fan))) ?_
 refine PQ.pure (dst := (some 64)) (v := (Pt s 0 0)) rfl rfl rfl noStore (none_ok _ _) rfl ?_
 refine PQ.pure (dst := (some 65)) (v := (Pt s 0 1)) rfl rfl rfl noStore (none_ok _ _) rfl ?_
 refine PQ.op (dst := none) (v := (.tuple #[])) (n1 := (n3 + 2)) (d1 := [(s, some ⟨[(xDl35 jn NX n3 K jo off M)], 3, 101, true⟩)]) rfl rfl rfl _ (seen_any (V := [((n3 + 1), some (oMsg (ws ++ [(Msg.mk ((t : Nat) : Int) ssn false pr da)]))), (jw, none), (n3, some ⟨[[(.int .i64 ((t : Nat) : Int)), (.int .i64 ssn), (.bool false), (W pr), (.string da)]], 5, 29, true⟩)]) (D := [((n + 1), some ⟨[[(.int .u16 (((u16N ssn) : Nat) : Int))]], 1, 102, true⟩), ((n + 1), some ⟨[[(.int .u16 0)]], 1, 102, true⟩), (n, some ⟨[[(.int .i64 ((t : Nat) : Int)), (.int .i64 ssn), (.bool false), (W pr), (.string da)]], 5, 29, true⟩)]) (by kernel_rfl)) (r_store rfl rfl rfl rfl rfl rfl rfl (gt6 (by omega) hs) rfl rfl (Nat.le_of_ble_eq_true rfl) rfl) (by omega) (kp1 (wr_tight (by kernel_rfl) (by omega))) ?_
 refine PQ.done (d := [(s, some ⟨[(xDl35 jn NX n3 K jo off M)], 3, 101, true⟩), ((n3 + 1), some (oMsg (ws ++ [(Msg.mk ((t : Nat) : Int) ssn false pr da)]))), (jw, none), (n3, some ⟨[[(.int .i64 ((t : Nat) : Int)), (.int .i64 ssn), (.bool false), (W pr), (.string da)]], 5, 29, true⟩)]) (by kernel_rfl) ?_
 intro _
 refine RA.rebase [(0, (Pt s 0 0)), (1, (.agg ⟨[(.int .i64 ((t : Nat) : Int)), (.int .i64 ssn), (.bool false), (W pr), (.string da)]⟩)), (3, (Pt n 0 0)), (4, (.bool false)), (5, (.pointer (some ⟨(n + 1), 0, some 0⟩))), (22, (.bool false)), (24, (.bool false)), (55, (.bool false))] ⟨rfl, rfl, rfl, rfl, rfl, rfl, rfl, rfl, trivial⟩ (fun τr4 => ?_)
 refine RA.seq hd ?_
 refine RA.region env_ok ?_
 refine OA.p (some 66) (Pt s 0 0) rfl rfl rfl rfl ?_
 refine OA.p (some 67) (Pt n 0 0) rfl rfl rfl rfl ?_
 refine OA.p (some 68) (.int .i64 ((t : Nat) : Int)) rfl rfl rfl (r_load1 rfl rfl rfl rfl rfl (gt6 (by omega) get_here) rfl rfl) ?_
 refine OA.call (dst := (some 69)) (all := [(Pt s 0 0), (.int .i64 ((t : Nat) : Int))]) rfl rfl rfl rfl rfl rfl rfl rfl (CQ.imp (dGoNB (hd.of (by omega) (kb7 (by omega))) s jn (n3 + 1) t NX (K + 1) nx (ws ++ [(Msg.mk ((t : Nat) : Int) ssn false pr da)]) hnx (by rw [List.length_append, List.length_singleton, hws]) ht (by omega) (by omega) (by omega) (by omega) jo off M hmv get_here (gt7 (by omega) hjn) (get_there (by omega) get_here)) ?_)
 rintro _ n5 _ ⟨rfl, rfl⟩ hn5
 refine OA.app0 ?_
 refine OA.nil ?_
 intro _
 refine RA.seq hd ?_
 refine RA.region env_ok ?_
 refine OA.p (some 4) (.bool true) rfl rfl rfl rfl ?_
 refine OA.nil ?_
 intro _
 refine RA.ret env_ok ?_
 refine ⟨.inr rfl, [(.bool true)], (resL_cons rfl resL_nil), [(s, some ⟨[(xDl35 jn NX n3 K jo off M)], 3, 101, true⟩), ((n3 + 1), some (oMsg (ws ++ [(Msg.mk ((t : Nat) : Int) ssn false pr da)]))), (jw, none)], (Less.of (fac (mm (fun _ => get_here) (fun _ => get_here)) (fac (mm (fun _ => (get_there (by omega) get_here)) (fun _ => (get_there (by omega) get_here))) (fac (mm (fun _ => (gt2 (by omega) get_here)) (fun _ => (gt2 (by omega) get_here))) fan))) (gone_of (by simp only [goneP, memP, List.cons_append, List.nil_append, true_or, or_true, true_and, and_true, or_false] <;> omega))), ⟨(n3 + 1), by omega, by omega, rfl, rfl⟩⟩

theorem dPutRBM {n : Nat} {σ : Store} (hd : Dom n σ) (s jn t NX : Nat) (nx : List Ux) (hnx : nx.length = NX) (ht : t < NX) (h1 : s ≠ jn) (jw K : Nat) (ws : List Msg) (hws : ws.length = K) (hK : K ≤ 900) (h2 : s ≠ jw) (h3 : jn ≠ jw) (jo off M : Nat) (L2 : List Msg) (hL2 : L2.length = off + M) (hM : M ≤ 100000) (h4 : s ≠ jo) (h5 : jn ≠ jo) (h6 : jw ≠ jo) (ssn : Int) (pr : BitVec 32) (da : ByteArray) (hl : ¬ less16 (u16N ssn) (nx.getD t dUx).z) (hc : ws.any (qq ((t : Nat) : Int) (u16N ssn)) = false) (R : Nat × List Msg × List Msg) (hR : goS ((t : Nat) : Int) (K + 1) (nx.getD t dUx).z (ws ++ [(Msg.mk ((t : Nat) : Int) ssn false pr da)]) (L2.drop off) = R) (hmv : (ws ++ [(Msg.mk ((t : Nat) : Int) ssn false pr da)]).findIdx (qq ((t : Nat) : Int) (nx.getD t dUx).z) < (ws ++ [(Msg.mk ((t : Nat) : Int) ssn false pr da)]).length) (hs : σ s = some ⟨[[(.slice (some ⟨jn, 0, none⟩) NX 0), (.slice (some ⟨jw, 0, none⟩) K 0), (.slice (some ⟨jo, off, none⟩) M 0)]], 3, 101, true⟩) (hjn : σ jn = some (oUx nx)) (hjw : σ jw = some (oMsg ws)) (hjo : σ jo = some (oMsg L2))  : CQ Try.prog noDen 14 [(Pt s 0 0), (.agg ⟨[(.int .i64 ((t : Nat) : Int)), (.int .i64 ssn), (.bool false), (W pr), (.string da)]⟩)] n σ (fun v n' d => ∃ jw2 jo2 M2 L3, n ≤ jw2 ∧ jw2 < n' ∧ n ≤ jo2 ∧ jo2 < n' ∧ jw2 ≠ jo2 ∧ L3.length = M2 ∧ M2 ≤ (K + 1) + M ∧ L3 = R.2.2 ∧ v = .bool true ∧ d = [(s, some ⟨[[(.slice (some ⟨jn, 0, none⟩) NX 0), (.slice (some ⟨jw2, 0, none⟩) R.2.1.length 0), (.slice (some ⟨jo2, 0, none⟩) M2 0)]], 3, 101, true⟩), (jn, some (oUx (nx.set t (Ux.mk R.1)))), (jw2, some (oMsg R.2.1)), (jo2, some (oMsg L3)), (jw, none), (jo, none)]) := by
 have lhs := hd.lt hs
 have lhjn := hd.lt hjn
 have lhjw := hd.lt hjw
 have lhjo := hd.lt hjo
 refine CQ.body (E := env) env_ok hd rfl rfl (by show _ ≤ _; exact of_decide_eq_true (by kernel_rfl)) ?_
 refine RA.seq hd ?_
 refine RA.region env_ok ?_
 refine OA.op1 (dst := (some 3)) (v := (Pt n 0 0)) (n1 := (n + 1)) (w := (n, some ⟨[[(.int .i64 ((t : Nat) : Int)), (.int .i64 ssn), (.bool false), (W pr), (.string da)]], 5, 29, true⟩)) rfl rfl rfl rfl (by omega) ?_
 refine OA.p (some 4) (.bool false) rfl rfl rfl rfl ?_
 refine OA.nil ?_
 intro _
 refine RA.seq hd ?_
 refine RA.seq hd ?_
 refine RA.par (md := [some [], some [], some [], some [], some [n], some [], some [], some [], some [], some [n], some [], some [], some [], some [s], some [], some [], some []]) env_ok (hd.of (by omega) (kb1 (by omega))) (by kernel_rfl) ?_
 refine PQ.pure (dst := (some 6)) (v := (Pt s 0 0)) rfl rfl rfl noStore (none_ok _ _) rfl ?_
 refine PQ.pure (dst := (some 7)) (v := (.bool false)) rfl rfl rfl noStore (none_ok _ _) rfl ?_
 refine PQ.pure (dst := (some 8)) (v := (.bool false)) rfl rfl rfl noStore (none_ok _ _) rfl ?_
 refine PQ.pure (dst := (some 9)) (v := (Pt n 0 0)) rfl rfl rfl noStore (none_ok _ _) rfl ?_
 refine PQ.pure (dst := (some 10)) (v := (.int .i64 ((t : Nat) : Int))) rfl rfl rfl (app [(n, some ⟨[[(.int .i64 ((t : Nat) : Int)), (.int .i64 ssn), (.bool false), (W pr), (.string da)]], 5, 29, true⟩)] noStore) (seen_one (V := []) (D := [(n, some ⟨[[(.int .i64 ((t : Nat) : Int)), (.int .i64 ssn), (.bool false), (W pr), (.string da)]], 5, 29, true⟩)]) (by kernel_rfl) get_here) (r_load1 rfl rfl rfl rfl rfl get_here rfl rfl) ?_
 have hc1 : ¬ (((t : Nat) : Int) < 0) := fun hdd => by exfalso; first | exact hl hdd | (rw [hc] at hdd; cases hdd) | omega
 refine PQ.pure (dst := (some 11)) (v := (.bool false)) rfl rfl rfl noStore (none_ok _ _) (Eq.trans (r_bin rfl rfl rfl (b_lss rfl)) (dF hc1)) ?_
 refine PQ.pure (dst := (some 12)) (v := (.bool false)) rfl rfl rfl noStore (none_ok _ _) rfl ?_
 refine PQ.pure (dst := (some 13)) (v := (.bool false)) rfl rfl rfl noStore (none_ok _ _) rfl ?_
 refine PQ.pure (dst := (some 14)) (v := (Pt n 0 0)) rfl rfl rfl noStore (none_ok _ _) rfl ?_
 refine PQ.pure (dst := (some 15)) (v := (.int .i64 ((t : Nat) : Int))) rfl rfl rfl (app [(n, some ⟨[[(.int .i64 ((t : Nat) : Int)), (.int .i64 ssn), (.bool false), (W pr), (.string da)]], 5, 29, true⟩)] noStore) (seen_one (V := []) (D := [(n, some ⟨[[(.int .i64 ((t : Nat) : Int)), (.int .i64 ssn), (.bool false), (W pr), (.string da)]], 5, 29, true⟩)]) (by kernel_rfl) get_here) (r_load1 rfl rfl rfl rfl rfl get_here rfl rfl) ?_
 refine PQ.pure (dst := (some 16)) (v := (Pt s 0 0)) rfl rfl rfl noStore (none_ok _ _) rfl ?_
 refine PQ.pure (dst := (some 17)) (v := (Pt s 0 0)) rfl rfl rfl noStore (none_ok _ _) rfl ?_
 refine PQ.pure (dst := (some 18)) (v := (Pt s 0 0)) rfl rfl rfl noStore (none_ok _ _) rfl ?_
 refine PQ.pure (dst := (some 19)) (v := (.slice (some ⟨jn, 0, none⟩) NX 0)) rfl rfl rfl (app [(s, some ⟨[(xDl37 jn NX jw K jo off M)], 3, 101, true⟩)] noStore) (seen_one (V := []) (D := [(n, some ⟨[[(.int .i64 ((t : Nat) : Int)), (.int .i64 ssn), (.bool false), (W pr), (.string da)]], 5, 29, true⟩)]) (by kernel_rfl) (get_there (by omega) hs)) (r_load1 rfl rfl rfl rfl rfl get_here rfl rfl) ?_
 refine PQ.pure (dst := (some 20)) (v := (.int .i64 ((NX : Nat) : Int))) rfl rfl rfl noStore (none_ok _ _) rfl ?_
 have hc2 : ¬ (((NX : Nat) : Int) ≤ ((t : Nat) : Int)) := fun hdd => by exfalso; first | exact hl hdd | (rw [hc] at hdd; cases hdd) | omega
 refine PQ.pure (dst := (some 21)) (v := (.bool false)) rfl rfl rfl noStore (none_ok _ _) (Eq.trans (r_bin rfl rfl rfl (b_geq rfl)) (dF hc2)) ?_
 refine PQ.pure (dst := (some 22)) (v := (.bool false)) rfl rfl rfl noStore (none_ok _ _) rfl ?_
 refine PQ.done (d := []) (by kernel_rfl) ?_
 intro _
 refine RA.condF rfl ?_
 refine RA.skip env_ok ?_
 intro _
 refine RA.seq hd ?_
 refine RA.seq hd ?_
 refine RA.region env_ok ?_
 refine OA.p (some 23) (Pt n 0 2) rfl rfl rfl rfl ?_
 refine OA.p (some 24) (.bool false) rfl rfl rfl (r_load1 rfl rfl rfl rfl rfl get_here rfl rfl) ?_
 refine OA.nil ?_
 intro _
 refine RA.condF rfl ?_
 refine RA.skip env_ok ?_
 intro _
 refine RA.seq hd ?_
 refine RA.region env_ok ?_
 refine OA.p (some 35) (Pt n 0 1) rfl rfl rfl rfl ?_
 refine OA.p (some 36) (.int .i64 ssn) rfl rfl rfl (r_load1 rfl rfl rfl rfl rfl get_here rfl rfl) ?_
 refine OA.p (some 37) (.int .u16 (((u16N ssn) : Nat) : Int)) rfl rfl rfl (r_cvt rfl rfl rfl rfl rfl ⟨_, rfl⟩ (wrap_u16s _)) ?_
 refine OA.op1 (dst := (some 5)) (v := (.pointer (some ⟨(n + 1), 0, some 0⟩))) (n1 := (n + 2)) (w := ((n + 1), some ⟨[[(.int .u16 0)]], 1, 102, true⟩)) rfl rfl rfl rfl (by omega) ?_
 refine OA.op1 (dst := none) (v := (.tuple #[])) (n1 := (n + 2)) (w := ((n + 1), some ⟨[[(.int .u16 (((u16N ssn) : Nat) : Int))]], 1, 102, true⟩)) rfl rfl rfl (r_store rfl rfl rfl rfl rfl rfl rfl get_here rfl rfl (Nat.le_of_ble_eq_true rfl) rfl) (by omega) ?_
 refine OA.nil ?_
 intro _
 refine RA.rebase [(0, (Pt s 0 0)), (1, (.agg ⟨[(.int .i64 ((t : Nat) : Int)), (.int .i64 ssn), (.bool false), (W pr), (.string da)]⟩)), (3, (Pt n 0 0)), (4, (.bool false)), (5, (.pointer (some ⟨(n + 1), 0, some 0⟩))), (22, (.bool false)), (24, (.bool false))] ⟨rfl, rfl, rfl, rfl, rfl, rfl, rfl, trivial⟩ (fun τr1 => ?_)
 refine RA.seq hd ?_
 refine RA.seq hd ?_
 refine RA.par (md := [some [(n + 1)], some [], some [], some [], some [s], some [], some [n], none, none, some [], some [], some [], some [], some [], some [s], some [], none, some []]) env_ok (hd.of (by omega) (kb3 (by omega))) (by kernel_rfl) ?_
 refine PQ.pure (dst := (some 38)) (v := (.int .u16 (((u16N ssn) : Nat) : Int))) rfl rfl rfl (app [((n + 1), some ⟨[[(.int .u16 (((u16N ssn) : Nat) : Int))]], 1, 102, true⟩)] noStore) (seen_one (V := []) (D := [((n + 1), some ⟨[[(.int .u16 (((u16N ssn) : Nat) : Int))]], 1, 102, true⟩), ((n + 1), some ⟨[[(.int .u16 0)]], 1, 102, true⟩), (n, some ⟨[[(.int .i64 ((t : Nat) : Int)), (.int .i64 ssn), (.bool false), (W pr), (.string da)]], 5, 29, true⟩)]) (by kernel_rfl) get_here) (r_load1 rfl rfl rfl rfl rfl get_here rfl rfl) ?_
 refine PQ.pure (dst := (some 39)) (v := (Pt s 0 0)) rfl rfl rfl noStore (none_ok _ _) rfl ?_
 refine PQ.pure (dst := (some 40)) (v := (Pt s 0 0)) rfl rfl rfl noStore (none_ok _ _) rfl ?_
 refine PQ.pure (dst := (some 41)) (v := (Pt s 0 0)) rfl rfl rfl noStore (none_ok _ _) rfl ?_
 refine PQ.pure (dst := (some 42)) (v := (.slice (some ⟨jn, 0, none⟩) NX 0)) rfl rfl rfl (app [(s, some ⟨[(xDl37 jn NX jw K jo off M)], 3, 101, true⟩)] noStore) (seen_one (V := []) (D := [((n + 1), some ⟨[[(.int .u16 (((u16N ssn) : Nat) : Int))]], 1, 102, true⟩), ((n + 1), some ⟨[[(.int .u16 0)]], 1, 102, true⟩), (n, some ⟨[[(.int .i64 ((t : Nat) : Int)), (.int .i64 ssn), (.bool false), (W pr), (.string da)]], 5, 29, true⟩)]) (by kernel_rfl) (gt3 (by omega) hs)) (r_load1 rfl rfl rfl rfl rfl get_here rfl rfl) ?_
 refine PQ.pure (dst := (some 43)) (v := (Pt n 0 0)) rfl rfl rfl noStore (none_ok _ _) rfl ?_
 refine PQ.pure (dst := (some 44)) (v := (.int .i64 ((t : Nat) : Int))) rfl rfl rfl (app [(n, some ⟨[[(.int .i64 ((t : Nat) : Int)), (.int .i64 ssn), (.bool false), (W pr), (.string da)]], 5, 29, true⟩)] noStore) (seen_one (V := []) (D := [((n + 1), some ⟨[[(.int .u16 (((u16N ssn) : Nat) : Int))]], 1, 102, true⟩), ((n + 1), some ⟨[[(.int .u16 0)]], 1, 102, true⟩), (n, some ⟨[[(.int .i64 ((t : Nat) : Int)), (.int .i64 ssn), (.bool false), (W pr), (.string da)]], 5, 29, true⟩)]) (by kernel_rfl) (gt2 (by omega) get_here)) (r_load1 rfl rfl rfl rfl rfl get_here rfl rfl) ?_
 refine PQ.pure (dst := (some 45)) (v := (Pt jn t 0)) rfl rfl rfl _ (seen_any (V := []) (D := [((n + 1), some ⟨[[(.int .u16 (((u16N ssn) : Nat) : Int))]], 1, 102, true⟩), ((n + 1), some ⟨[[(.int .u16 0)]], 1, 102, true⟩), (n, some ⟨[[(.int .i64 ((t : Nat) : Int)), (.int .i64 ssn), (.bool false), (W pr), (.string da)]], 5, 29, true⟩)]) (by kernel_rfl)) (r_iaS (l := t) rfl rfl rfl rfl rfl rfl (by omega) (by omega) (gt3 (by omega) hjn) rfl (by omega)) ?_
 refine PQ.pure (dst := (some 46)) (v := (.int .u16 (((nx.getD t dUx).z : Nat) : Int))) rfl rfl rfl _ (seen_any (V := []) (D := [((n + 1), some ⟨[[(.int .u16 (((u16N ssn) : Nat) : Int))]], 1, 102, true⟩), ((n + 1), some ⟨[[(.int .u16 0)]], 1, 102, true⟩), (n, some ⟨[[(.int .i64 ((t : Nat) : Int)), (.int .i64 ssn), (.bool false), (W pr), (.string da)]], 5, 29, true⟩)]) (by kernel_rfl)) (r_loadF (c := cUx) dUx rfl rfl rfl rfl rfl (gt3 (by omega) hjn) (by rw [hnx]; omega) rfl) ?_
 have hc3 : ¬ (less16 (u16N ssn) (nx.getD t dUx).z) := fun hdd => by exfalso; first | exact hl hdd | (rw [hc] at hdd; cases hdd) | omega
 refine PQ.callP (dst := (some 47)) (all := [(.int .u16 (((u16N ssn) : Nat) : Int)), (.int .u16 (((nx.getD t dUx).z : Nat) : Int))]) (v := (.bool false)) noStore (dom_none _) rfl rfl rfl rfl rfl rfl rfl rfl (none_ok _ _) (PS.to (dLess (u16N ssn) (nx.getD t dUx).z) (show (.bool (decide (less16 (u16N ssn) (nx.getD t dUx).z))) = ((.bool false) : Value) from (by first | (rw [decide_eq_false hc3]; done) | (rw [decide_eq_false hc3]; rfl)))) ?_
 intro n2 hn2
 refine PQ.pure (dst := (some 48)) (v := (.bool false)) rfl rfl rfl noStore (none_ok _ _) rfl ?_
 refine PQ.pure (dst := (some 49)) (v := (Pt s 0 0)) rfl rfl rfl noStore (none_ok _ _) rfl ?_
 refine PQ.pure (dst := (some 50)) (v := (Pt s 0 0)) rfl rfl rfl noStore (none_ok _ _) rfl ?_
 refine PQ.pure (dst := (some 51)) (v := (Pt s 0 1)) rfl rfl rfl noStore (none_ok _ _) rfl ?_
 refine PQ.pure (dst := (some 52)) (v := (.slice (some ⟨jw, 0, none⟩) K 0)) rfl rfl rfl (app [(s, some ⟨[(xDl37 jn NX jw K jo off M)], 3, 101, true⟩)] noStore) (seen_one (V := []) (D := [((n + 1), some ⟨[[(.int .u16 (((u16N ssn) : Nat) : Int))]], 1, 102, true⟩), ((n + 1), some ⟨[[(.int .u16 0)]], 1, 102, true⟩), (n, some ⟨[[(.int .i64 ((t : Nat) : Int)), (.int .i64 ssn), (.bool false), (W pr), (.string da)]], 5, 29, true⟩)]) (by kernel_rfl) (gt3 (by omega) hs)) (r_load1 rfl rfl rfl rfl rfl get_here rfl rfl) ?_
 refine PQ.pure (dst := (some 53)) (v := (.func (.func 58) ⟨[]⟩ ⟨[(Pt n 0 0), (.pointer (some ⟨(n + 1), 0, some 0⟩))]⟩)) rfl rfl rfl noStore (none_ok _ _) rfl ?_
 have hc4 : ¬ ((ws.any (qq ((t : Nat) : Int) (u16N ssn))) = true) := fun hdd => by exfalso; first | exact hl hdd | (rw [hc] at hdd; cases hdd) | omega
 refine PQ.callP (dst := (some 54)) (all := (xDl32 jw K n)) (v := (.bool false)) _ (hd.of (by omega) (kb3 (by omega))) rfl rfl rfl rfl rfl rfl rfl rfl (seen_any (V := []) (D := [((n + 1), some ⟨[[(.int .u16 (((u16N ssn) : Nat) : Int))]], 1, 102, true⟩), ((n + 1), some ⟨[[(.int .u16 0)]], 1, 102, true⟩), (n, some ⟨[[(.int .i64 ((t : Nat) : Int)), (.int .i64 ssn), (.bool false), (W pr), (.string da)]], 5, 29, true⟩)]) (by kernel_rfl)) (PS.to (dCont jw K ws hws (by omega) (qq ((t : Nat) : Int) (u16N ssn)) n (n + 1) (gt3 (by omega) hjw) (fun x _ => dPc x (Msg.mk ((t : Nat) : Int) ssn false pr da) n (n + 1) (u16N ssn) (gt2 (by omega) get_here) get_here)) (show (.bool (ws.any (qq ((t : Nat) : Int) (u16N ssn)))) = ((.bool false) : Value) from (by first | (rw [eq_false_of_ne_true hc4]; done) | (rw [eq_false_of_ne_true hc4]; rfl)))) ?_
 intro n3 hn3
 refine PQ.pure (dst := (some 55)) (v := (.bool false)) rfl rfl rfl noStore (none_ok _ _) rfl ?_
 refine PQ.done (d := []) (by kernel_rfl) ?_
 intro _
 refine RA.condF rfl ?_
 refine RA.skip env_ok ?_
 intro _
 refine RA.seq hd ?_
 refine RA.par (md := [some [], some [], some [], some [], some [s], some [n], some [], none, some [], some [], none]) env_ok (hd.of (by omega) (kb3 (by omega))) (by kernel_rfl) ?_
 refine PQ.pure (dst := (some 56)) (v := (Pt s 0 0)) rfl rfl rfl noStore (none_ok _ _) rfl ?_
 refine PQ.pure (dst := (some 57)) (v := (Pt s 0 0)) rfl rfl rfl noStore (none_ok _ _) rfl ?_
 refine PQ.pure (dst := (some 58)) (v := (Pt s 0 0)) rfl rfl rfl noStore (none_ok _ _) rfl ?_
 refine PQ.pure (dst := (some 59)) (v := (Pt s 0 1)) rfl rfl rfl noStore (none_ok _ _) rfl ?_
 refine PQ.pure (dst := (some 60)) (v := (.slice (some ⟨jw, 0, none⟩) K 0)) rfl rfl rfl (app [(s, some ⟨[(xDl37 jn NX jw K jo off M)], 3, 101, true⟩)] noStore) (seen_one (V := []) (D := [((n + 1), some ⟨[[(.int .u16 (((u16N ssn) : Nat) : Int))]], 1, 102, true⟩), ((n + 1), some ⟨[[(.int .u16 0)]], 1, 102, true⟩), (n, some ⟨[[(.int .i64 ((t : Nat) : Int)), (.int .i64 ssn), (.bool false), (W pr), (.string da)]], 5, 29, true⟩)]) (by kernel_rfl) (gt3 (by omega) hs)) (r_load1 rfl rfl rfl rfl rfl get_here rfl rfl) ?_
 refine PQ.pure (dst := (some 61)) (v := (.agg ⟨[(.int .i64 ((t : Nat) : Int)), (.int .i64 ssn), (.bool false), (W pr), (.string da)]⟩)) rfl rfl rfl (app [(n, some ⟨[[(.int .i64 ((t : Nat) : Int)), (.int .i64 ssn), (.bool false), (W pr), (.string da)]], 5, 29, true⟩)] noStore) (seen_one (V := []) (D := [((n + 1), some ⟨[[(.int .u16 (((u16N ssn) : Nat) : Int))]], 1, 102, true⟩), ((n + 1), some ⟨[[(.int .u16 0)]], 1, 102, true⟩), (n, some ⟨[[(.int .i64 ((t : Nat) : Int)), (.int .i64 ssn), (.bool false), (W pr), (.string da)]], 5, 29, true⟩)]) (by kernel_rfl) (gt2 (by omega) get_here)) (r_loadA rfl rfl rfl rfl get_here rfl rfl rfl) ?_
 refine PQ.op (dst := (some 62)) (v := (.slice (some ⟨n3, 0, none⟩) 1 0)) (n1 := (n3 + 1)) (d1 := [(n3, some ⟨[[(.int .i64 ((t : Nat) : Int)), (.int .i64 ssn), (.bool false), (W pr), (.string da)]], 5, 29, true⟩)]) rfl rfl rfl noStore (none_ok _ _) (by kernel_rfl) (by omega) (kp1 (wr_new (by omega) (by omega))) ?_
 refine PQ.op (dst := (some 63)) (v := (.slice (some ⟨(n3 + 1), 0, none⟩) (K + 1) 0)) (n1 := (n3 + 2)) (d1 := [((n3 + 1), some (oMsg (ws ++ [(Msg.mk ((t : Nat) : Int) ssn false pr da)]))), (jw, none)]) rfl rfl rfl _ (seen_any (V := [(n3, some ⟨[[(.int .i64 ((t : Nat) : Int)), (.int .i64 ssn), (.bool false), (W pr), (.string da)]], 5, 29, true⟩)]) (D := [((n + 1), some ⟨[[(.int .u16 (((u16N ssn) : Nat) : Int))]], 1, 102, true⟩), ((n + 1), some ⟨[[(.int .u16 0)]], 1, 102, true⟩), (n, some ⟨[[(.int .i64 ((t : Nat) : Int)), (.int .i64 ssn), (.bool false), (W pr), (.string da)]], 5, 29, true⟩)]) (by kernel_rfl)) (r_appendR (c := cMsg) (l' := (ws ++ [(Msg.mk ((t : Nat) : Int) ssn false pr da)])) rfl rfl rfl rfl rfl rfl rfl rfl rfl rfl (by decide) (gt4 (by omega) hjw) get_here (by rw [hws]) (mp_snoc (c := cMsg) (x := (Msg.mk ((t : Nat) : Int) ssn false pr da))) (by omega) (of_decide_eq_true (by kernel_rfl)) (by omega)) (by omega) (kp2 (wr_new (by omega) (by omega)) (wr_old [0] (by kernel_rfl) (by omega) (by omega) (fac (lo0 rfl) fan))) ?_
 refine PQ.pure (dst := (some 64)) (v := (Pt s 0 0)) rfl rfl rfl noStore (none_ok _ _) rfl ?_
 refine PQ.pure (dst := (some 65)) (v := (Pt s 0 1)) rfl rfl rfl noStore (none_ok _ _) rfl ?_
 refine PQ.op (dst := none) (v := (.tuple #[])) (n1 := (n3 + 2)) (d1 := [(s, some ⟨[(xDl35 jn NX n3 K jo off M)], 3, 101, true⟩)]) rfl rfl rfl _ (seen_any (V := [((n3 + 1), some (oMsg (ws ++ [(Msg.mk ((t : Nat) : Int) ssn false pr da)]))), (jw, none), (n3, some ⟨[[(.int .i64 ((t : Nat) : Int)), (.int .i64 ssn), (.bool false), (W pr), (.string da)]], 5, 29, true⟩)]) (D := [((n + 1), some ⟨[[(.int .u16 (((u16N ssn) : Nat) : Int))]], 1, 102, true⟩), ((n + 1), some ⟨[[(.int .u16 0)]], 1, 102, true⟩), (n, some ⟨[[(.int .i64 ((t : Nat) : Int)), (.int .i64 ssn), (.bool false), (W pr), (.string da)]], 5, 29, true⟩)]) (by kernel_rfl)) (r_store rfl rfl rfl rfl rfl rfl rfl (gt6 (by omega) hs) rfl rfl (Nat.le_of_ble_eq_true rfl) rfl) (by omega) (kp1 (wr_tight (by kernel_rfl) (by omega))) ?_
 refine PQ.done (d := [(s, some ⟨[(xDl35 jn NX n3 K jo off M)], 3, 101, true⟩), ((n3 + 1), some (oMsg (ws ++ [(Msg.mk ((t : Nat) : Int) ssn false pr da)]))), (jw, none), (n3, some ⟨[[(.int .i64 ((t : Nat) : Int)), (.int .i64 ssn), (.bool false), (W pr), (.string da)]], 5, 29, true⟩)]) (by kernel_rfl) ?_
 intro _
 refine RA.rebase [(0, (Pt s 0 0)), (1, (.agg ⟨[(.int .i64 ((t : Nat) : Int)), (.int .i64 ssn), (.bool false), (W pr), (.string da)]⟩)), (3, (Pt n 0 0)), (4, (.bool false)), (5, (.pointer (some ⟨(n + 1), 0, some 0⟩))), (22, (.bool false)), (24, (.bool false)), (55, (.bool false))] ⟨rfl, rfl, rfl, rfl, rfl, rfl, rfl, rfl, trivial⟩ (fun τr4 => ?_)
 refine RA.seq hd ?_
 refine RA.region env_ok ?_
 refine OA.p (some 66) (Pt s 0 0) rfl rfl rfl rfl ?_
 refine OA.p (some 67) (Pt n 0 0) rfl rfl rfl rfl ?_
 refine OA.p (some 68) (.int .i64 ((t : Nat) : Int)) rfl rfl rfl (r_load1 rfl rfl rfl rfl rfl (gt6 (by omega) get_here) rfl rfl) ?_
 refine OA.call (dst := (some 69)) (all := [(Pt s 0 0), (.int .i64 ((t : Nat) : Int))]) rfl rfl rfl rfl rfl rfl rfl rfl (CQ.imp (dGoB (hd.of (by omega) (kb7 (by omega))) s jn (n3 + 1) t NX (K + 1) nx (ws ++ [(Msg.mk ((t : Nat) : Int) ssn false pr da)]) hnx (by rw [List.length_append, List.length_singleton, hws]) ht (by omega) (by omega) (by omega) (by omega) jo off M L2 hL2 hM (by omega) (by omega) (by omega) R hR hmv get_here (gt7 (by omega) hjn) (get_there (by omega) get_here) (gt7 (by omega) hjo)) ?_)
 rintro _ n5 _ ⟨jo2, M2, L3, hga, hgb, hL3, hL4, hL5, rfl, rfl⟩ hn5
 show OA _ _ _ _ _ _ _ _ [(s, some ⟨[(xDl33 jn NX n3 R jo2 M2)], 3, 101, true⟩), (jn, some (oUx (nx.set t (Ux.mk R.1)))), ((n3 + 1), some (oMsg R.2.1)), (jo2, some (oMsg L3)), (jo, none), (s, some ⟨[(xDl35 jn NX n3 K jo off M)], 3, 101, true⟩), ((n3 + 1), some (oMsg (ws ++ [(Msg.mk ((t : Nat) : Int) ssn false pr da)]))), (jw, none), (n3, some ⟨[[(.int .i64 ((t : Nat) : Int)), (.int .i64 ssn), (.bool false), (W pr), (.string da)]], 5, 29, true⟩), ((n + 1), some ⟨[[(.int .u16 (((u16N ssn) : Nat) : Int))]], 1, 102, true⟩), ((n + 1), some ⟨[[(.int .u16 0)]], 1, 102, true⟩), (n, some ⟨[[(.int .i64 ((t : Nat) : Int)), (.int .i64 ssn), (.bool false), (W pr), (.string da)]], 5, 29, true⟩)] _
 refine OA.nil ?_
 intro _
 refine RA.weaken (D' := [(s, some ⟨[(xDl33 jn NX n3 R jo2 M2)], 3, 101, true⟩), (jn, some (oUx (nx.set t (Ux.mk R.1)))), ((n3 + 1), some (oMsg R.2.1)), (jo2, some (oMsg L3)), (jo, none), (jw, none), (n3, some ⟨[[(.int .i64 ((t : Nat) : Int)), (.int .i64 ssn), (.bool false), (W pr), (.string da)]], 5, 29, true⟩), ((n + 1), some ⟨[[(.int .u16 (((u16N ssn) : Nat) : Int))]], 1, 102, true⟩), (n, some ⟨[[(.int .i64 ((t : Nat) : Int)), (.int .i64 ssn), (.bool false), (W pr), (.string da)]], 5, 29, true⟩)]) hd (Less.of (fac (mm (fun _ => get_here) (fun _ => get_here)) (fac (mm (fun _ => (get_there (by omega) get_here)) (fun _ => (get_there (by omega) get_here))) (fac (mm (fun _ => (gt2 (by omega) get_here)) (fun _ => (gt2 (by omega) get_here))) (fac (mm (fun _ => (gt3 (by omega) get_here)) (fun _ => (gt3 (by omega) get_here))) (fac (mm (fun _ => (gt4 (by omega) get_here)) (fun _ => (gt4 (by omega) get_here))) (fac (mm (fun _ => (gt5 (by omega) get_here)) (fun _ => (gt7 (by omega) get_here))) (fac (mm (fun _ => (gt6 (by omega) get_here)) (fun _ => (gt8 (by omega) get_here))) (fac (mm (fun _ => (gt7 (by omega) get_here)) (fun _ => (gt9 (by omega) get_here))) (fac (mm (fun _ => (gt8 (by omega) get_here)) (fun _ => (gt11 (by omega) get_here))) fan))))))))) (gone_of (by simp only [goneP, memP, List.cons_append, List.nil_append, true_or, or_true, true_and, and_true, or_false] <;> omega))) ?_
 refine RA.seq hd ?_
 refine RA.region env_ok ?_
 refine OA.p (some 4) (.bool true) rfl rfl rfl rfl ?_
 refine OA.nil ?_
 intro _
 refine RA.ret env_ok ?_
 refine ⟨.inr rfl, [(.bool true)], (resL_cons rfl resL_nil), [(s, some ⟨[(xDl33 jn NX n3 R jo2 M2)], 3, 101, true⟩), (jn, some (oUx (nx.set t (Ux.mk R.1)))), ((n3 + 1), some (oMsg R.2.1)), (jo2, some (oMsg L3)), (jw, none), (jo, none)], (Less.of (fac (mm (fun _ => get_here) (fun _ => get_here)) (fac (mm (fun _ => (get_there (by omega) get_here)) (fun _ => (get_there (by omega) get_here))) (fac (mm (fun _ => (gt2 (by omega) get_here)) (fun _ => (gt2 (by omega) get_here))) (fac (mm (fun _ => (gt3 (by omega) get_here)) (fun _ => (gt3 (by omega) get_here))) (fac (mm (fun _ => (gt4 (by omega) get_here)) (fun _ => (gt5 (by omega) get_here))) (fac (mm (fun _ => (gt5 (by omega) get_here)) (fun _ => (gt4 (by omega) get_here))) fan)))))) (gone_of (by simp only [goneP, memP, List.cons_append, List.nil_append, true_or, or_true, true_and, and_true, or_false] <;> omega))), ⟨(n3 + 1), jo2, M2, L3, by omega, by omega, by omega, by omega, by omega, by omega, by omega, hL5, rfl, rfl⟩⟩

theorem dRead {n : Nat} {σ : Store} (hd : Dom n σ) (s jn NX jo off M : Nat) (L2 : List Msg) (hL2 : L2.length = off + M) (hM : 0 < M) (w : Value) (hw : oneB w = true) (hs : σ s = some ⟨[[(.slice (some ⟨jn, 0, none⟩) NX 0), w, (.slice (some ⟨jo, off, none⟩) M 0)]], 3, 101, true⟩) (hjo : σ jo = some (oMsg L2))  : CQ Try.prog noDen 15 [(Pt s 0 0)] n σ (fun v n' d => v = .tuple #[.agg ⟨cMsg (L2.getD off dMsg)⟩, .bool true] ∧ d = [(s, some ⟨[[(.slice (some ⟨jn, 0, none⟩) NX 0), w, (.slice (some ⟨jo, (off + 1), none⟩) (M - 1) 0)]], 3, 101, true⟩)]) := by
 have lhs := hd.lt hs
 have lhjo := hd.lt hjo
 refine CQ.body (E := env) env_ok hd rfl rfl (by show _ ≤ _; exact of_decide_eq_true (by kernel_rfl)) ?_
 refine RA.seq hd ?_
 refine RA.region env_ok ?_
 refine OA.op1 (dst := (some 2)) (v := (Pt n 0 0)) (n1 := (n + 1)) (w := (n, some ⟨[[(.int .i64 0), (.int .i64 0), (.bool false), (.int .u32 0), (.string ByteArray.empty)]], 5, 29, true⟩)) rfl rfl rfl rfl (by omega) ?_
 refine OA.p (some 3) (.bool false) rfl rfl rfl rfl ?_
 refine OA.nil ?_
 intro _
 refine RA.seq hd ?_
 refine RA.seq hd ?_
 refine RA.region env_ok ?_
 refine OA.p (some 5) (Pt s 0 0) rfl rfl rfl rfl ?_
 refine OA.p (some 6) (.bool false) rfl rfl rfl rfl ?_
 refine OA.p (some 7) (.bool false) rfl rfl rfl rfl ?_
 refine OA.p (some 8) (Pt s 0 0) rfl rfl rfl rfl ?_
 refine OA.p (some 9) (Pt s 0 0) rfl rfl rfl rfl ?_
 refine OA.p (some 10) (Pt s 0 2) rfl rfl rfl rfl ?_
 refine OA.p (some 11) (.slice (some ⟨jo, off, none⟩) M 0) rfl rfl rfl (r_load1 rfl rfl rfl rfl rfl (get_there (by omega) hs) rfl rfl) ?_
 refine OA.p (some 12) (.int .i64 ((M : Nat) : Int)) rfl rfl rfl rfl ?_
 have hc1 : ¬ (((M : Nat) : Int) = 0) := fun hdd => by exfalso; omega
 refine OA.p (some 13) (.bool false) rfl rfl rfl (Eq.trans (r_bin rfl rfl rfl (b_eql rfl)) (dF hc1)) ?_
 refine OA.p (some 14) (.bool false) rfl rfl rfl rfl ?_
 refine OA.nil ?_
 intro _
 refine RA.condF rfl ?_
 refine RA.skip env_ok ?_
 intro _
 refine RA.seq hd ?_
 refine RA.region env_ok ?_
 refine OA.p (some 16) (Pt s 0 0) rfl rfl rfl rfl ?_
 refine OA.p (some 17) (Pt s 0 0) rfl rfl rfl rfl ?_
 refine OA.p (some 18) (Pt s 0 2) rfl rfl rfl rfl ?_
 refine OA.p (some 19) (.slice (some ⟨jo, off, none⟩) M 0) rfl rfl rfl (r_load1 rfl rfl rfl rfl rfl (get_there (by omega) hs) rfl rfl) ?_
 refine OA.p (some 20) (.pointer (some ⟨jo, (off + 0), some 0⟩)) rfl rfl rfl (r_iaS (l := 0) rfl rfl rfl rfl rfl rfl (by omega) (by omega) (get_there (by omega) hjo) rfl (by omega)) ?_
 refine OA.p (some 21) (.agg ⟨(cMsg (L2.getD (off + 0) dMsg))⟩) rfl rfl rfl (r_loadR (c := cMsg) dMsg rfl rfl rfl rfl (get_there (by omega) hjo) (by rw [hL2]; omega) rfl) ?_
 refine OA.op1 (dst := (some 4)) (v := (.pointer (some ⟨(n + 1), 0, some 0⟩))) (n1 := (n + 2)) (w := ((n + 1), some ⟨[[(.int .i64 0), (.int .i64 0), (.bool false), (.int .u32 0), (.string ByteArray.empty)]], 5, 29, true⟩)) rfl rfl rfl rfl (by omega) ?_
 refine OA.op1 (dst := none) (v := (.tuple #[])) (n1 := (n + 2)) (w := ((n + 1), some ⟨[(cMsg (L2.getD (off + 0) dMsg))], 5, 29, true⟩)) rfl rfl rfl (r_store rfl rfl rfl rfl rfl rfl rfl get_here rfl rfl (Nat.le_of_ble_eq_true rfl) rfl) (by omega) ?_
 refine OA.nil ?_
 intro _
 refine RA.seq hd ?_
 refine RA.region env_ok ?_
 refine OA.p (some 22) (Pt s 0 0) rfl rfl rfl rfl ?_
 refine OA.p (some 23) (Pt s 0 0) rfl rfl rfl rfl ?_
 refine OA.p (some 24) (Pt s 0 0) rfl rfl rfl rfl ?_
 refine OA.p (some 25) (Pt s 0 2) rfl rfl rfl rfl ?_
 refine OA.p (some 26) (.slice (some ⟨jo, off, none⟩) M 0) rfl rfl rfl (r_load1 rfl rfl rfl rfl rfl (gt3 (by omega) hs) rfl rfl) ?_
 refine OA.p (some 27) (.slice (some ⟨jo, (off + 1), none⟩) (M - 1) 0) rfl rfl rfl (r_cutG (a := 1) (b := M) rfl rfl (fun _ => rfl) (fun _ => rfl) rfl rfl rfl rfl rfl (gt3 (by omega) hjo) rfl (by omega) (by rw [List.length_map, hL2]; omega) (by omega) (by omega)) ?_
 refine OA.p (some 28) (Pt s 0 0) rfl rfl rfl rfl ?_
 refine OA.p (some 29) (Pt s 0 2) rfl rfl rfl rfl ?_
 refine OA.op1 (dst := none) (v := (.tuple #[])) (n1 := (n + 2)) (w := (s, some ⟨[[(.slice (some ⟨jn, 0, none⟩) NX 0), w, (.slice (some ⟨jo, (off + 1), none⟩) (M - 1) 0)]], 3, 101, true⟩)) rfl rfl rfl (r_store rfl rfl rfl rfl rfl rfl rfl (gt3 (by omega) hs) rfl rfl (Nat.le_of_ble_eq_true rfl) rfl) (by omega) ?_
 refine OA.nil ?_
 intro _
 refine RA.rebase [(0, (Pt s 0 0)), (2, (Pt n 0 0)), (3, (.bool false)), (4, (.pointer (some ⟨(n + 1), 0, some 0⟩))), (14, (.bool false))] ⟨rfl, rfl, rfl, rfl, rfl, trivial⟩ (fun τr1 => ?_)
 refine RA.seq hd ?_
 refine RA.region env_ok ?_
 refine OA.p (some 30) (.agg ⟨(xDl31 L2 off)⟩) rfl rfl rfl (r_loadA rfl rfl rfl rfl (get_there (by omega) get_here) rfl rfl rfl) ?_
 refine OA.op1 (dst := none) (v := (.tuple #[])) (n1 := (n + 2)) (w := (n, some ⟨[(xDl31 L2 off)], 5, 29, true⟩)) rfl rfl rfl (r_store rfl rfl rfl rfl rfl rfl rfl (gt3 (by omega) get_here) rfl rfl (Nat.le_of_ble_eq_true rfl) rfl) (by omega) ?_
 refine OA.p (some 3) (.bool true) rfl rfl rfl rfl ?_
 refine OA.nil ?_
 intro _
 refine RA.weaken (D' := [(n, some ⟨[(xDl31 L2 off)], 5, 29, true⟩), (s, some ⟨[[(.slice (some ⟨jn, 0, none⟩) NX 0), w, (.slice (some ⟨jo, (off + 1), none⟩) (M - 1) 0)]], 3, 101, true⟩), ((n + 1), some ⟨[(cMsg (L2.getD (off + 0) dMsg))], 5, 29, true⟩)]) hd (Less.of (fac (mm (fun _ => get_here) (fun _ => get_here)) (fac (mm (fun _ => (get_there (by omega) get_here)) (fun _ => (get_there (by omega) get_here))) (fac (mm (fun _ => (gt2 (by omega) get_here)) (fun _ => (gt2 (by omega) get_here))) fan))) (gone_of (by simp only [goneP, memP, List.cons_append, List.nil_append, true_or, or_true, true_and, and_true, or_false] <;> omega))) ?_
 refine RA.ret env_ok ?_
 refine ⟨.inr rfl, [(.agg ⟨(xDl31 L2 off)⟩), (.bool true)], (resL_cons (res_cellA rfl rfl rfl get_here rfl rfl rfl) (resL_cons rfl resL_nil)), [(s, some ⟨[[(.slice (some ⟨jn, 0, none⟩) NX 0), w, (.slice (some ⟨jo, (off + 1), none⟩) (M - 1) 0)]], 3, 101, true⟩)], (Less.of (fac (mm (fun _ => get_here) (fun _ => (get_there (by omega) get_here))) fan) (gone_of (by simp only [goneP, memP, List.cons_append, List.nil_append, true_or, or_true, true_and, and_true, or_false] <;> omega))), ⟨rfl, rfl⟩⟩

theorem dReadA {n : Nat} {σ : Store} (hd : Dom n σ) (s jn NX : Nat)  (w : Value) (hw : oneB w = true) (hs : σ s = some ⟨[[(.slice (some ⟨jn, 0, none⟩) NX 0), w, (.slice none 0 0)]], 3, 101, true⟩)  : CQ Try.prog noDen 15 [(Pt s 0 0)] n σ (fun v n' d => v = .tuple #[.agg ⟨cMsg dMsg⟩, .bool false] ∧ d = []) := by
 have lhs := hd.lt hs
 refine CQ.body (E := env) env_ok hd rfl rfl (by show _ ≤ _; exact of_decide_eq_true (by kernel_rfl)) ?_
 refine RA.seq hd ?_
 refine RA.region env_ok ?_
 refine OA.op1 (dst := (some 2)) (v := (Pt n 0 0)) (n1 := (n + 1)) (w := (n, some ⟨[[(.int .i64 0), (.int .i64 0), (.bool false), (.int .u32 0), (.string ByteArray.empty)]], 5, 29, true⟩)) rfl rfl rfl rfl (by omega) ?_
 refine OA.p (some 3) (.bool false) rfl rfl rfl rfl ?_
 refine OA.nil ?_
 intro _
 refine RA.seq hd ?_
 refine RA.seq hd ?_
 refine RA.region env_ok ?_
 refine OA.p (some 5) (Pt s 0 0) rfl rfl rfl rfl ?_
 refine OA.p (some 6) (.bool false) rfl rfl rfl rfl ?_
 refine OA.p (some 7) (.bool false) rfl rfl rfl rfl ?_
 refine OA.p (some 8) (Pt s 0 0) rfl rfl rfl rfl ?_
 refine OA.p (some 9) (Pt s 0 0) rfl rfl rfl rfl ?_
 refine OA.p (some 10) (Pt s 0 2) rfl rfl rfl rfl ?_
 refine OA.p (some 11) (.slice none 0 0) rfl rfl rfl (r_load1 rfl rfl rfl rfl rfl (get_there (by omega) hs) rfl rfl) ?_
 refine OA.p (some 12) (.int .i64 0) rfl rfl rfl rfl ?_
 refine OA.p (some 13) (.bool true) rfl rfl rfl (r_bin rfl rfl rfl (b_eql rfl)) ?_
 refine OA.p (some 14) (.bool true) rfl rfl rfl rfl ?_
 refine OA.nil ?_
 intro _
 refine RA.condT rfl ?_
 refine RA.seq hd ?_
 refine RA.region env_ok ?_
 refine OA.p (some 15) (.agg ⟨[(.int .i64 0), (.int .i64 0), (.bool false), (.int .u32 0), (.string ByteArray.empty)]⟩) rfl rfl rfl (by kernel_rfl) ?_
 refine OA.op1 (dst := none) (v := (.tuple #[])) (n1 := (n + 1)) (w := (n, some ⟨[[(.int .i64 0), (.int .i64 0), (.bool false), (.int .u32 0), (.string ByteArray.empty)]], 5, 29, true⟩)) rfl rfl rfl (r_store rfl rfl rfl rfl rfl rfl rfl get_here rfl rfl (Nat.le_of_ble_eq_true rfl) rfl) (by omega) ?_
 refine OA.p (some 3) (.bool false) rfl rfl rfl rfl ?_
 refine OA.nil ?_
 intro _
 refine RA.ret env_ok ?_
 refine ⟨.inr rfl, [(.agg ⟨[(.int .i64 0), (.int .i64 0), (.bool false), (.int .u32 0), (.string ByteArray.empty)]⟩), (.bool false)], (resL_cons (res_cellA rfl rfl rfl get_here rfl rfl rfl) (resL_cons rfl resL_nil)), [], (Less.of (fun p hp => by simp at hp) (gone_of (by simp only [goneP, memP, List.cons_append, List.nil_append, true_or, or_true, true_and, and_true, or_false] <;> omega))), ⟨rfl, rfl⟩⟩

theorem dReadZ {n : Nat} {σ : Store} (hd : Dom n σ) (s jn NX : Nat) (jo off M : Nat) (hM : M = 0) (w : Value) (hw : oneB w = true) (hs : σ s = some ⟨[[(.slice (some ⟨jn, 0, none⟩) NX 0), w, (.slice (some ⟨jo, off, none⟩) M 0)]], 3, 101, true⟩)  : CQ Try.prog noDen 15 [(Pt s 0 0)] n σ (fun v n' d => v = .tuple #[.agg ⟨cMsg dMsg⟩, .bool false] ∧ d = []) := by
 have lhs := hd.lt hs
 refine CQ.body (E := env) env_ok hd rfl rfl (by show _ ≤ _; exact of_decide_eq_true (by kernel_rfl)) ?_
 refine RA.seq hd ?_
 refine RA.region env_ok ?_
 refine OA.op1 (dst := (some 2)) (v := (Pt n 0 0)) (n1 := (n + 1)) (w := (n, some ⟨[[(.int .i64 0), (.int .i64 0), (.bool false), (.int .u32 0), (.string ByteArray.empty)]], 5, 29, true⟩)) rfl rfl rfl rfl (by omega) ?_
 refine OA.p (some 3) (.bool false) rfl rfl rfl rfl ?_
 refine OA.nil ?_
 intro _
 refine RA.seq hd ?_
 refine RA.seq hd ?_
 refine RA.region env_ok ?_
 refine OA.p (some 5) (Pt s 0 0) rfl rfl rfl rfl ?_
 refine OA.p (some 6) (.bool false) rfl rfl rfl rfl ?_
 refine OA.p (some 7) (.bool false) rfl rfl rfl rfl ?_
 refine OA.p (some 8) (Pt s 0 0) rfl rfl rfl rfl ?_
 refine OA.p (some 9) (Pt s 0 0) rfl rfl rfl rfl ?_
 refine OA.p (some 10) (Pt s 0 2) rfl rfl rfl rfl ?_
 refine OA.p (some 11) (.slice (some ⟨jo, off, none⟩) M 0) rfl rfl rfl (r_load1 rfl rfl rfl rfl rfl (get_there (by omega) hs) rfl rfl) ?_
 refine OA.p (some 12) (.int .i64 ((M : Nat) : Int)) rfl rfl rfl rfl ?_
 have hc1 : ((M : Nat) : Int) = 0 := Classical.byContradiction (fun hdd => by exfalso; omega)
 refine OA.p (some 13) (.bool true) rfl rfl rfl (Eq.trans (r_bin rfl rfl rfl (b_eql rfl)) (dT hc1)) ?_
 refine OA.p (some 14) (.bool true) rfl rfl rfl rfl ?_
 refine OA.nil ?_
 intro _
 refine RA.condT rfl ?_
 refine RA.seq hd ?_
 refine RA.region env_ok ?_
 refine OA.p (some 15) (.agg ⟨[(.int .i64 0), (.int .i64 0), (.bool false), (.int .u32 0), (.string ByteArray.empty)]⟩) rfl rfl rfl (by kernel_rfl) ?_
 refine OA.op1 (dst := none) (v := (.tuple #[])) (n1 := (n + 1)) (w := (n, some ⟨[[(.int .i64 0), (.int .i64 0), (.bool false), (.int .u32 0), (.string ByteArray.empty)]], 5, 29, true⟩)) rfl rfl rfl (r_store rfl rfl rfl rfl rfl rfl rfl get_here rfl rfl (Nat.le_of_ble_eq_true rfl) rfl) (by omega) ?_
 refine OA.p (some 3) (.bool false) rfl rfl rfl rfl ?_
 refine OA.nil ?_
 intro _
 refine RA.ret env_ok ?_
 refine ⟨.inr rfl, [(.agg ⟨[(.int .i64 0), (.int .i64 0), (.bool false), (.int .u32 0), (.string ByteArray.empty)]⟩), (.bool false)], (resL_cons (res_cellA rfl rfl rfl get_here rfl rfl rfl) (resL_cons rfl resL_nil)), [], (Less.of (fun p hp => by simp at hp) (gone_of (by simp only [goneP, memP, List.cons_append, List.nil_append, true_or, or_true, true_and, and_true, or_false] <;> omega))), ⟨rfl, rfl⟩⟩
end Go.Proofs.Ytmepflkodjdgdaa.Vt
