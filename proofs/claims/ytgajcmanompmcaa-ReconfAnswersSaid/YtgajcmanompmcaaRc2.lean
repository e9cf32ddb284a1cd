/- Rc2: walks through functions of the program, by the calculus; written by a program of this workplace. -/
import Derived.Test.YtgajcmanompmcaaRc1
import Derived.Test.YtgajcmanompmcaaVm5
namespace Go.Proofs.Ytgajcmanompmcaa.Vt
open Go Go.Proofs Go.Proofs.YtgajcmanompmcaaV
set_option maxRecDepth 100000
set_option linter.unusedVariables false
set_option linter.unusedSimpArgs false
abbrev xRc21 (b : Nat) (nx : BitVec 32) (z : Int) (n8 : Nat) (now : Nat) : List Value := [(.pointer (some ⟨b, 0, some 0⟩)), (.agg ⟨[(.int .i64 130), (.int .i64 0), (W ((nx + (BitVec.ofNat 32 (andN z 3))) - (1#32))), (.int .i64 0), (.int .i64 0), (.int .u32 0), (.string ByteArray.empty), (.int .u32 0), (.int .u32 0), (.int .i64 0), (.int .i64 0), (.slice (some ⟨n8, 0, none⟩) 1 0), (.slice none 0 0), (.slice none 0 0), (.slice none 0 0)]⟩), (.int .i64 ((now : Nat) : Int))]
abbrev xRc22 (nx : BitVec 32) (z : Int) (in15 : Nat) : List Value := [(.int .i64 130), (.int .i64 0), (W ((nx + (BitVec.ofNat 32 (andN z 3))) - (1#32))), (.int .i64 0), (.int .i64 0), (.int .u32 0), (.string ByteArray.empty), (.int .u32 0), (.int .u32 0), (.int .i64 0), (.int .i64 0), (.slice (some ⟨in15, 0, none⟩) 1 0), (.slice none 0 0), (.slice none 0 0), (.slice none 0 0)]
abbrev xRc23 (nx : BitVec 32) (z : Int) (in21 : Nat) : List Value := [(.int .i64 130), (.int .i64 0), (W ((nx + (BitVec.ofNat 32 (andN z 3))) - (1#32))), (.int .i64 0), (.int .i64 0), (.int .u32 0), (.string ByteArray.empty), (.int .u32 0), (.int .u32 0), (.int .i64 0), (.int .i64 0), (.slice (some ⟨in21, 0, none⟩) 1 0), (.slice none 0 0), (.slice none 0 0), (.slice none 0 0)]
abbrev xRc24 (nx : BitVec 32) (z : Int) (in9 : Nat) : List Value := [(.int .i64 130), (.int .i64 0), (W ((nx + (BitVec.ofNat 32 (andN z 3))) - (1#32))), (.int .i64 0), (.int .i64 0), (.int .u32 0), (.string ByteArray.empty), (.int .u32 0), (.int .u32 0), (.int .i64 0), (.int .i64 0), (.slice (some ⟨in9, 0, none⟩) 1 0), (.slice none 0 0), (.slice none 0 0), (.slice none 0 0)]
abbrev xRc25 (nx : BitVec 32) (z : Int) (n12 : Nat) : List Value := [(.int .i64 130), (.int .i64 0), (W ((nx + (BitVec.ofNat 32 (andN z 3))) - (1#32))), (.int .i64 0), (.int .i64 0), (.int .u32 0), (.string ByteArray.empty), (.int .u32 0), (.int .u32 0), (.int .i64 0), (.int .i64 0), (.slice (some ⟨n12, 0, none⟩) 1 0), (.slice none 0 0), (.slice none 0 0), (.slice none 0 0)]
abbrev xRc26 (nx : BitVec 32) (z : Int) (n18 : Nat) : List Value := [(.int .i64 130), (.int .i64 0), (W ((nx + (BitVec.ofNat 32 (andN z 3))) - (1#32))), (.int .i64 0), (.int .i64 0), (.int .u32 0), (.string ByteArray.empty), (.int .u32 0), (.int .u32 0), (.int .i64 0), (.int .i64 0), (.slice (some ⟨n18, 0, none⟩) 1 0), (.slice none 0 0), (.slice none 0 0), (.slice none 0 0)]
abbrev xRc27 (nx : BitVec 32) (z : Int) (n24 : Nat) : List Value := [(.int .i64 130), (.int .i64 0), (W ((nx + (BitVec.ofNat 32 (andN z 3))) - (1#32))), (.int .i64 0), (.int .i64 0), (.int .u32 0), (.string ByteArray.empty), (.int .u32 0), (.int .u32 0), (.int .i64 0), (.int .i64 0), (.slice (some ⟨n24, 0, none⟩) 1 0), (.slice none 0 0), (.slice none 0 0), (.slice none 0 0)]
abbrev xRc28 (nx : BitVec 32) (z : Int) (n8 : Nat) : List Value := [(.int .i64 130), (.int .i64 0), (W ((nx + (BitVec.ofNat 32 (andN z 3))) - (1#32))), (.int .i64 0), (.int .i64 0), (.int .u32 0), (.string ByteArray.empty), (.int .u32 0), (.int .u32 0), (.int .i64 0), (.int .i64 0), (.slice (some ⟨n8, 0, none⟩) 1 0), (.slice none 0 0), (.slice none 0 0), (.slice none 0 0)]
abbrev xRc29 : List Value := [(.int .i64 0), (.int .i64 0), (.int .u32 0), (.int .i64 0), (.int .i64 0), (.int .u32 0), (.string ByteArray.empty), (.int .u32 0), (.int .u32 0), (.int .i64 0), (.int .i64 0), (.slice none 0 0), (.slice none 0 0), (.slice none 0 0), (.slice none 0 0)]
abbrev xRc210 (nx : BitVec 32) (z : Int) (la : Nat) : List Value := [(.int .i64 16), (.string ((bstr (putL (((nx + (BitVec.ofNat 32 (andN z 3))) - (1#32))).toNat 4)) ++ (bstr (putL ((BitVec.ofNat 32 la)).toNat 4))))]
abbrev xRc211 (nx : BitVec 32) (z : Int) : List Value := [(.int .i64 16), (.string ((bstr (putL (((nx + (BitVec.ofNat 32 (andN z 3))) - (1#32))).toNat 4)) ++ (bstr (putL ((BitVec.ofNat 32 2)).toNat 4))))]
abbrev xRc212 (nx : BitVec 32) (z : Int) : List Value := [(.int .i64 16), (.string ((bstr (putL (((nx + (BitVec.ofNat 32 (andN z 3))) - (1#32))).toNat 4)) ++ (bstr (putL ((BitVec.ofNat 32 1)).toNat 4))))]
abbrev xRc213 (nx : BitVec 32) (z : Int) : List Value := [(.int .i64 0), (W 0#32), (.int .i64 0), (.int .i64 0), (W (((nx + (BitVec.ofNat 32 (andN z 3))) - (1#32)) + 1#32)), (.int .i64 2)]
abbrev xRc214 (nx : BitVec 32) (z : Int) : List Value := [(.int .i64 0), (W 0#32), (.int .i64 0), (.int .i64 0), (W (((nx + (BitVec.ofNat 32 (andN z 3))) - (1#32)) + 1#32)), (.int .i64 1)]
abbrev xRc215 (nx : BitVec 32) (z : Int) : List Value := [(.int .i64 17), (.string (moreV ((nx + (BitVec.ofNat 32 (andN z 3))) - (1#32)) ((andN (z / 4) 7) + 1)))]
abbrev xRc216 (nx : BitVec 32) (la : Nat) : List Value := [(.int .i64 0), (W 0#32), (.int .i64 0), (.int .i64 0), (W nx), (.int .i64 ((la : Nat) : Int))]
set_option maxHeartbeats 4000000 in
theorem cAnswers {σ : Store} (x : BitVec 32) (have0 : Int) (lv : Value) (ls : List I1) (hr : RowP σ 3 1 lv (ls.map cI1))   : PS Try.prog noDen 6 [(W x), lv, (.int .i64 have0)] σ (.bool true) := by
 refine PS.body (E := env) env_ok rfl rfl (by show _ ≤ _; exact of_decide_eq_true (by kernel_rfl)) (fun n hd => ?_)
 refine RA.seq hd ?_
 refine RA.region env_ok ?_
 refine OA.p (some 6) (.bool false) rfl rfl rfl rfl ?_
 refine OA.nil ?_
 intro _
 refine RA.seq hd ?_
 refine RA.region env_ok ?_
 refine OA.p (some 19) (W x) rfl rfl rfl rfl ?_
 refine OA.call (dst := (some 20)) (all := [(.int .u32 0), (W x)]) rfl rfl rfl rfl rfl rfl rfl rfl (CQ.imp (cNew (hd.up (by omega)) 0#32 x) ?_)
 rintro _ n1 _ ⟨b, hba, hbb, rfl, rfl⟩ hn1
 refine OA.app1 ?_
 refine OA.p (some 21) (W x) rfl rfl rfl rfl ?_
 refine OA.p (some 22) (.int .i64 have0) rfl rfl rfl rfl ?_
 have hm2 := andN_le have0 15 (by decide)
 refine OA.p (some 23) (.int .i64 (((andN have0 15) : Nat) : Int)) rfl rfl rfl (r_bin rfl rfl rfl (b_andN have0 15 (by decide))) ?_
 refine OA.p (some 7) (Pt b 0 0) rfl rfl rfl rfl ?_
 refine OA.p (some 8) (W x) rfl rfl rfl rfl ?_
 refine OA.p (some 9) (.int .i64 (((andN have0 15) : Nat) : Int)) rfl rfl rfl rfl ?_
 refine OA.nil ?_
 intro _
 refine RA.seq hd ?_
 refine RA.region env_ok ?_
 refine OA.p (some 10) (.int .i64 0) rfl rfl rfl rfl ?_
 refine OA.nil ?_
 intro _
 refine RA.seq hd ?_
 refine RA.seq hd ?_
 refine RA.region env_ok ?_
 refine OA.callP (dst := (some 24)) (all := []) (v := (.bool true)) (hd.of (by omega) (kb1 (by omega))) rfl rfl rfl rfl rfl rfl rfl rfl awake ?_
 intro n3 hn3
 refine OA.p (some 25) (.bool false) rfl rfl rfl rfl ?_
 refine OA.nil ?_
 intro _
 refine RA.condF rfl ?_
 refine RA.skip env_ok ?_
 intro _
 refine RA.seq hd ?_
 refine RA.seq hd ?_
 refine RA.region env_ok ?_
 refine OA.p (some 11) (.int .i64 0) rfl rfl rfl rfl ?_
 refine OA.nil ?_
 intro _
 refine RA.block ?_
 refine RA.loop hd (fun kk_ τ n' D => (∃ i : Nat, ∃ nx : BitVec 32, ∃ now : Nat, ∃ la : Nat, kk_ = (ls.length - i) ∧ n3 ≤ n' ∧ Has τ [(1, lv), (7, (Pt b 0 0)), (8, (W nx)), (9, (.int .i64 ((now : Nat) : Int))), (10, (.int .i64 ((la : Nat) : Int))), (11, (.int .i64 ((i : Nat) : Int)))] ∧ D = [(b, some ⟨[(xRc216 nx la)], 6, 94, true⟩)] ∧ (∀ i ∈ keys D, i < n') ∧ i ≤ ls.length ∧ now ≤ 16 ∧ la ≤ 2)) ((ls.length - 0)) (⟨0, x, (andN have0 15), 0, rfl, by omega, ⟨rfl, rfl, rfl, rfl, rfl, rfl, trivial⟩, rfl, (kb1 (by omega)), ⟨by omega, by omega, by omega⟩⟩) ?_
 rintro kn4 τ4 n4 _ ⟨i, nx, now, la, rfl, hn4, hHn4, rfl, hKn4, hIn4⟩
 rw [Has.eq hHn4]
 have hKn4_0 : b < n4 := hKn4 _ (by simp only [keys, List.map_cons, List.map_nil, List.mem_cons, true_or, or_true])
 clear hKn4
 obtain ⟨hil, hnow, hla⟩ := hIn4
 have hne := w_ne nx
 refine RA.seq hd ?_
 refine RA.seq hd ?_
 refine RA.region env_ok ?_
 refine OA.p (some 26) (.int .i64 ((i : Nat) : Int)) rfl rfl rfl rfl ?_
 refine OA.p (some 27) lv rfl rfl rfl rfl ?_
 refine OA.p (some 28) (.int .i64 ((ls.length : Nat) : Int)) rfl rfl rfl (r_lenP (c := cI1) rfl rfl rfl rfl rfl rfl hr rfl) ?_
 by_cases hc1 : ((i : Nat) : Int) < ((ls.length : Nat) : Int)
 ·
  obtain ⟨rest, hat⟩ := hr.get (m := i) (by omega)
  have lathat := hd.lt hat
  obtain ⟨z, hz⟩ : ∃ z, z = (ls.getD i dI1).z := ⟨_, rfl⟩
  refine OA.p (some 29) (.bool true) rfl rfl rfl (Eq.trans (r_bin rfl rfl rfl (b_lss rfl)) (dT hc1)) ?_
  refine OA.p (some 30) (.bool true) rfl rfl rfl rfl ?_
  refine OA.p (some 31) (.int .i64 ((i : Nat) : Int)) rfl rfl rfl rfl ?_
  by_cases hc2 : ((i : Nat) : Int) < 40
  ·
   refine OA.p (some 32) (.bool true) rfl rfl rfl (Eq.trans (r_bin rfl rfl rfl (b_lss rfl)) (dT hc2)) ?_
   refine OA.p (some 33) (.bool true) rfl rfl rfl rfl ?_
   refine OA.nil ?_
   intro _
   refine RA.condT rfl ?_
   refine RA.skip env_ok ?_
   intro _
   refine RA.seq hd ?_
   refine RA.block ?_
   refine RA.seq hd ?_
   refine RA.par (md := [some [], some [], some [], none, none, some [], some [], some [], some [], some [], some [], none, none, some [], some [], some [], some [], some []]) env_ok (hd.of (by omega) (kb1 (by omega))) (by kernel_rfl) ?_
   refine PQ.pure (dst := (some 36)) (v := (W nx)) rfl rfl rfl noStore (none_ok _ _) rfl ?_
   refine PQ.pure (dst := (some 37)) (v := lv) rfl rfl rfl noStore (none_ok _ _) rfl ?_
   refine PQ.pure (dst := (some 38)) (v := (.int .i64 ((i : Nat) : Int))) rfl rfl rfl noStore (none_ok _ _) rfl ?_
   refine PQ.pure (dst := (some 39)) (v := (.pointer (some ⟨(rk lv), i, some 0⟩))) rfl rfl rfl _ (seen_any (V := []) (D := [(b, some ⟨[(xRc216 nx la)], 6, 94, true⟩)]) (by kernel_rfl)) (r_iaP (c := cI1) (m := i) rfl rfl rfl rfl rfl rfl hr rfl (by omega) (get_there (by omega) hat) rfl) ?_
   refine PQ.pure (dst := (some 40)) (v := (.int .i64 z)) rfl rfl rfl _ (seen_any (V := []) (D := [(b, some ⟨[(xRc216 nx la)], 6, 94, true⟩)]) (by kernel_rfl)) (by rw [hz]; exact r_load1 (e := cI1 (ls.getD i dI1)) rfl rfl rfl rfl rfl (get_there (by omega) hat) (mp_getA (by omega)) rfl) ?_
   have hm5 := andN_le z 3 (by decide)
   refine PQ.pure (dst := (some 41)) (v := (.int .i64 (((andN z 3) : Nat) : Int))) rfl rfl rfl noStore (none_ok _ _) (r_bin rfl rfl rfl (b_andN z 3 (by decide))) ?_
   refine PQ.pure (dst := (some 42)) (v := (W (BitVec.ofNat 32 (andN z 3)))) rfl rfl rfl noStore (none_ok _ _) (r_cvt rfl rfl rfl rfl rfl ⟨_, rfl⟩ (wrap_ofNat32 _)) ?_
   refine PQ.pure (dst := (some 43)) (v := (W (nx + (BitVec.ofNat 32 (andN z 3))))) rfl rfl rfl noStore (none_ok _ _) (r_bin rfl rfl rfl (b_addW nx (BitVec.ofNat 32 (andN z 3)))) ?_
   refine PQ.pure (dst := (some 44)) (v := (W ((nx + (BitVec.ofNat 32 (andN z 3))) - (1#32)))) rfl rfl rfl noStore (none_ok _ _) (r_bin rfl rfl rfl (b_subW (nx + (BitVec.ofNat 32 (andN z 3))) (1#32))) ?_
   refine PQ.pure (dst := (some 45)) (v := lv) rfl rfl rfl noStore (none_ok _ _) rfl ?_
   refine PQ.pure (dst := (some 46)) (v := (.int .i64 ((i : Nat) : Int))) rfl rfl rfl noStore (none_ok _ _) rfl ?_
   refine PQ.pure (dst := (some 47)) (v := (.pointer (some ⟨(rk lv), i, some 0⟩))) rfl rfl rfl _ (seen_any (V := []) (D := [(b, some ⟨[(xRc216 nx la)], 6, 94, true⟩)]) (by kernel_rfl)) (r_iaP (c := cI1) (m := i) rfl rfl rfl rfl rfl rfl hr rfl (by omega) (get_there (by omega) hat) rfl) ?_
   refine PQ.pure (dst := (some 48)) (v := (.int .i64 z)) rfl rfl rfl _ (seen_any (V := []) (D := [(b, some ⟨[(xRc216 nx la)], 6, 94, true⟩)]) (by kernel_rfl)) (by rw [hz]; exact r_load1 (e := cI1 (ls.getD i dI1)) rfl rfl rfl rfl rfl (get_there (by omega) hat) (mp_getA (by omega)) rfl) ?_
   refine PQ.pure (dst := (some 49)) (v := (.int .i64 (z / 4))) rfl rfl rfl noStore (none_ok _ _) (r_bin rfl rfl rfl (b_shr (by decide) (show Int.fdiv z 4 = z / 4 from Int.fdiv_eq_ediv_of_nonneg _ (by decide)))) ?_
   have hm6 := andN_le (z / 4) 7 (by decide)
   refine PQ.pure (dst := (some 50)) (v := (.int .i64 (((andN (z / 4) 7) : Nat) : Int))) rfl rfl rfl noStore (none_ok _ _) (r_bin rfl rfl rfl (b_andN (z / 4) 7 (by decide))) ?_
   refine PQ.pure (dst := (some 51)) (v := (.int .i64 ((((andN (z / 4) 7) + 1) : Nat) : Int))) rfl rfl rfl noStore (none_ok _ _) (r_bin rfl rfl rfl (b_add (i64_eq (by omega)))) ?_
   refine PQ.pure (dst := (some 12)) (v := (W ((nx + (BitVec.ofNat 32 (andN z 3))) - (1#32)))) rfl rfl rfl noStore (none_ok _ _) rfl ?_
   refine PQ.pure (dst := (some 13)) (v := (.int .i64 ((((andN (z / 4) 7) + 1) : Nat) : Int))) rfl rfl rfl noStore (none_ok _ _) rfl ?_
   refine PQ.done (d := []) (by kernel_rfl) ?_
   intro _
   refine RA.rebase [(1, lv), (7, (Pt b 0 0)), (8, (W nx)), (9, (.int .i64 ((now : Nat) : Int))), (10, (.int .i64 ((la : Nat) : Int))), (11, (.int .i64 ((i : Nat) : Int))), (12, (W ((nx + (BitVec.ofNat 32 (andN z 3))) - (1#32)))), (13, (.int .i64 ((((andN (z / 4) 7) + 1) : Nat) : Int))), (33, (.bool true))] ⟨rfl, rfl, rfl, rfl, rfl, rfl, rfl, rfl, rfl, trivial⟩ (fun τr7 => ?_)
   refine RA.seq hd ?_
   refine RA.region env_ok ?_
   refine OA.p (some 52) (W ((nx + (BitVec.ofNat 32 (andN z 3))) - (1#32))) rfl rfl rfl rfl ?_
   refine OA.p (some 53) (W ((nx + (BitVec.ofNat 32 (andN z 3))) - (1#32))) rfl rfl rfl rfl ?_
   refine OA.p (some 54) (.int .i64 ((((andN (z / 4) 7) + 1) : Nat) : Int)) rfl rfl rfl rfl ?_
   refine OA.callP (dst := (some 55)) (all := [(W ((nx + (BitVec.ofNat 32 (andN z 3))) - (1#32))), (.int .i64 ((((andN (z / 4) 7) + 1) : Nat) : Int))]) (v := (.agg ⟨(xRc215 nx z)⟩)) (hd.of (by omega) (kb1 (by omega))) rfl rfl rfl rfl rfl rfl rfl rfl (sMore _ _ (by omega)) ?_
   intro n8 hn8
   refine OA.op1 (dst := (some 56)) (v := (.slice (some ⟨n8, 0, none⟩) 1 0)) (n1 := (n8 + 1)) (w := (n8, some ⟨[(xRc215 nx z)], 2, 35, true⟩)) rfl rfl rfl (by kernel_rfl) (by omega) ?_
   refine OA.p (some 57) (.agg ⟨(xRc28 nx z n8)⟩) rfl rfl rfl (by kernel_rfl) ?_
   refine OA.op1 (dst := (some 14)) (v := (.pointer (some ⟨(n8 + 1), 0, some 0⟩))) (n1 := (n8 + 2)) (w := ((n8 + 1), some ⟨[xRc29], 15, 53, true⟩)) rfl rfl rfl rfl (by omega) ?_
   refine OA.op1 (dst := none) (v := (.tuple #[])) (n1 := (n8 + 2)) (w := ((n8 + 1), some ⟨[(xRc28 nx z n8)], 15, 53, true⟩)) rfl rfl rfl (r_store rfl rfl rfl rfl rfl rfl rfl get_here rfl rfl (Nat.le_of_ble_eq_true rfl) rfl) (by omega) ?_
   refine OA.nil ?_
   intro _
   refine RA.weaken (D' := [((n8 + 1), some ⟨[(xRc28 nx z n8)], 15, 53, true⟩), (n8, some ⟨[(xRc215 nx z)], 2, 35, true⟩), (b, some ⟨[(xRc216 nx la)], 6, 94, true⟩)]) hd (Less.of (fac (mm (fun _ => get_here) (fun _ => get_here)) (fac (mm (fun _ => (get_there (by omega) get_here)) (fun _ => (gt2 (by omega) get_here))) (fac (mm (fun _ => (gt2 (by omega) get_here)) (fun _ => (gt3 (by omega) get_here))) fan))) (gone_of (by simp only [goneP, memP, List.cons_append, List.nil_append, true_or, or_true, true_and, and_true, or_false] <;> omega))) ?_
   refine RA.seq hd ?_
   refine RA.region env_ok ?_
   refine OA.p (some 59) (Pt b 0 0) rfl rfl rfl rfl ?_
   refine OA.p (some 60) (.agg ⟨(xRc28 nx z n8)⟩) rfl rfl rfl (r_loadA rfl rfl rfl rfl get_here rfl rfl rfl) ?_
   refine OA.p (some 61) (.int .i64 ((now : Nat) : Int)) rfl rfl rfl rfl ?_
   by_cases hc3 : (((nx + (BitVec.ofNat 32 (andN z 3))) - (1#32)).toNat : Int) = (nx.toNat : Int)
   ·
    by_cases hc4 : (((16 - now) : Nat) : Int) < ((((andN (z / 4) 7) + 1) : Nat) : Int)
    ·
     refine OA.call (dst := (some 62)) (all := (xRc21 b nx z n8 now)) rfl rfl rfl rfl rfl rfl rfl rfl (CQ.imp (cAskB (hd.of (by omega) (kb3 (by omega))) b n8 (by omega) 0 0 0 0#32 ((nx + (BitVec.ofNat 32 (andN z 3))) - (1#32)) ((andN (z / 4) 7) + 1) now (by omega) (by omega) ((la : Nat) : Int) hc4 (by rw [w_eq hc3]; exact (gt2 (by omega) get_here)) (get_there (by omega) get_here)) ?_)
     rintro _ n9 _ ⟨in9, hin9a, hin9b, rfl, rfl⟩ hn9
     refine OA.app2 ?_
     refine OA.p (some 58) (.tuple ⟨[(.int .i64 0), (.agg ⟨(xRc24 nx z in9)⟩), (.bool true)]⟩) rfl rfl rfl rfl ?_
     refine OA.p (some 63) (.int .i64 0) rfl rfl rfl rfl ?_
     refine OA.p (some 64) (.agg ⟨(xRc24 nx z in9)⟩) rfl rfl rfl rfl ?_
     refine OA.p (some 65) (.bool true) rfl rfl rfl rfl ?_
     refine OA.op1 (dst := (some 16)) (v := (Pt n9 0 0)) (n1 := (n9 + 1)) (w := (n9, some ⟨[xRc29], 15, 53, true⟩)) rfl rfl rfl rfl (by omega) ?_
     refine OA.p (some 15) (.int .i64 0) rfl rfl rfl rfl ?_
     refine OA.op1 (dst := none) (v := (.tuple #[])) (n1 := (n9 + 1)) (w := (n9, some ⟨[(xRc24 nx z in9)], 15, 53, true⟩)) rfl rfl rfl (r_store rfl rfl rfl rfl rfl rfl rfl get_here rfl rfl (Nat.le_of_ble_eq_true rfl) rfl) (by omega) ?_
     refine OA.p (some 17) (.bool true) rfl rfl rfl rfl ?_
     refine OA.nil ?_
     intro _
     refine RA.weaken (D' := [(n9, some ⟨[(xRc24 nx z in9)], 15, 53, true⟩), (b, some ⟨[(xRc213 nx z)], 6, 94, true⟩), (in9, some ⟨[[(.int .i64 16), (.string (resV ((nx + (BitVec.ofNat 32 (andN z 3))) - (1#32)) (BitVec.ofNat 32 2)))]], 2, 35, true⟩), ((n8 + 1), some ⟨[(xRc28 nx z n8)], 15, 53, true⟩), (n8, some ⟨[(xRc215 nx z)], 2, 35, true⟩)]) hd (Less.of (fac (mm (fun _ => get_here) (fun _ => get_here)) (fac (mm (fun _ => (get_there (by omega) get_here)) (fun _ => (gt2 (by omega) get_here))) (fac (mm (fun _ => (gt2 (by omega) get_here)) (fun _ => (gt3 (by omega) get_here))) (fac (mm (fun _ => (gt3 (by omega) get_here)) (fun _ => (gt4 (by omega) get_here))) (fac (mm (fun _ => (gt4 (by omega) get_here)) (fun _ => (gt5 (by omega) get_here))) fan))))) (gone_of (by simp only [goneP, memP, List.cons_append, List.nil_append, true_or, or_true, true_and, and_true, or_false] <;> omega))) ?_
     refine RA.seq hd ?_
     refine RA.block ?_
     refine RA.seq hd ?_
     refine RA.region env_ok ?_
     refine OA.p (some 72) (W ((nx + (BitVec.ofNat 32 (andN z 3))) - (1#32))) rfl rfl rfl rfl ?_
     refine OA.p (some 73) (W nx) rfl rfl rfl rfl ?_
     refine OA.p (some 74) (.bool true) rfl rfl rfl (Eq.trans (r_bin rfl rfl rfl (b_eql rfl)) (dT hc3)) ?_
     refine OA.p (some 71) (.bool true) rfl rfl rfl rfl ?_
     refine OA.nil ?_
     intro _
     refine RA.condT rfl ?_
     refine RA.seq hd ?_
     refine RA.region env_ok ?_
     refine OA.p (some 10) (.int .i64 1) rfl rfl rfl rfl ?_
     refine OA.nil ?_
     intro _
     refine RA.rebase [(1, lv), (7, (Pt b 0 0)), (8, (W nx)), (9, (.int .i64 ((now : Nat) : Int))), (10, (.int .i64 1)), (11, (.int .i64 ((i : Nat) : Int))), (12, (W ((nx + (BitVec.ofNat 32 (andN z 3))) - (1#32)))), (13, (.int .i64 ((((andN (z / 4) 7) + 1) : Nat) : Int))), (14, (.pointer (some ⟨(n8 + 1), 0, some 0⟩))), (15, (.int .i64 0)), (16, (Pt n9 0 0)), (17, (.bool true)), (33, (.bool true)), (71, (.bool true))] ⟨rfl, rfl, rfl, rfl, rfl, rfl, rfl, rfl, rfl, rfl, rfl, rfl, rfl, rfl, trivial⟩ (fun τr10 => ?_)
     refine RA.seq hd ?_
     refine RA.seq hd ?_
     refine RA.region env_ok ?_
     refine OA.p (some 75) (.int .i64 ((((andN (z / 4) 7) + 1) : Nat) : Int)) rfl rfl rfl rfl ?_
     refine OA.p (some 76) (.int .i64 ((now : Nat) : Int)) rfl rfl rfl rfl ?_
     refine OA.p (some 77) (.int .i64 (((16 - now) : Nat) : Int)) rfl rfl rfl (r_bin rfl rfl rfl (b_sub (i64_eq (by omega)))) ?_
     refine OA.p (some 78) (.bool true) rfl rfl rfl (Eq.trans (r_bin rfl rfl rfl (b_gtr rfl)) (dT hc4)) ?_
     refine OA.nil ?_
     intro _
     refine RA.condT rfl ?_
     refine RA.region env_ok ?_
     refine OA.p (some 10) (.int .i64 2) rfl rfl rfl rfl ?_
     refine OA.p (some 13) (.int .i64 0) rfl rfl rfl rfl ?_
     refine OA.nil ?_
     intro _
     refine RA.seq hd ?_
     refine RA.region env_ok ?_
     refine OA.p (some 79) (.int .i64 ((now : Nat) : Int)) rfl rfl rfl rfl ?_
     refine OA.p (some 80) (.int .i64 0) rfl rfl rfl rfl ?_
     refine OA.p (some 81) (.int .i64 (((now + 0) : Nat) : Int)) rfl rfl rfl (r_bin rfl rfl rfl (b_add (i64_eq (by omega)))) ?_
     refine OA.p (some 9) (.int .i64 (((now + 0) : Nat) : Int)) rfl rfl rfl rfl ?_
     refine OA.nil ?_
     intro _
     refine RA.region env_ok ?_
     refine OA.p (some 82) (W nx) rfl rfl rfl rfl ?_
     refine OA.p (some 83) (W (nx + (1#32))) rfl rfl rfl (r_bin rfl rfl rfl (b_addW nx (1#32))) ?_
     refine OA.p (some 8) (W (nx + (1#32))) rfl rfl rfl rfl ?_
     refine OA.nil ?_
     intro _
     refine RA.seq hd ?_
     refine RA.region env_ok ?_
     refine OA.p (some 93) (W ((nx + (BitVec.ofNat 32 (andN z 3))) - (1#32))) rfl rfl rfl rfl ?_
     refine OA.p (some 94) (W ((nx + (BitVec.ofNat 32 (andN z 3))) - (1#32))) rfl rfl rfl rfl ?_
     refine OA.callP (dst := (some 95)) (all := [(W ((nx + (BitVec.ofNat 32 (andN z 3))) - (1#32)))]) (v := (.string (bstr (putL (((nx + (BitVec.ofNat 32 (andN z 3))) - (1#32))).toNat 4)))) (hd.of (by omega) (kb5 (by omega))) rfl rfl rfl rfl rfl rfl rfl rfl (sFour ((nx + (BitVec.ofNat 32 (andN z 3))) - (1#32))) ?_
     intro n11 hn11
     refine OA.p (some 96) (.int .i64 2) rfl rfl rfl rfl ?_
     refine OA.p (some 97) (.int .u32 2) rfl rfl rfl rfl ?_
     refine OA.callP (dst := (some 98)) (all := [(.int .u32 2)]) (v := (.string (bstr (putL ((BitVec.ofNat 32 2)).toNat 4)))) (hd.of (by omega) (kb5 (by omega))) rfl rfl rfl rfl rfl rfl rfl rfl (sFour (BitVec.ofNat 32 2)) ?_
     intro n12 hn12
     refine OA.p (some 99) (.string ((bstr (putL (((nx + (BitVec.ofNat 32 (andN z 3))) - (1#32))).toNat 4)) ++ (bstr (putL ((BitVec.ofNat 32 2)).toNat 4)))) rfl rfl rfl (r_cat rfl rfl rfl (by (try simp only [ByteArray.size_append, bstr_size, size_lit, List.size_toArray, List.length_cons, List.length_nil, List.length_take, List.length_drop, List.length_replicate, putL_len]); try omega)) ?_
     refine OA.p (some 100) (.agg ⟨(xRc211 nx z)⟩) rfl rfl rfl (by kernel_rfl) ?_
     refine OA.op1 (dst := (some 101)) (v := (.slice (some ⟨n12, 0, none⟩) 1 0)) (n1 := (n12 + 1)) (w := (n12, some ⟨[(xRc211 nx z)], 2, 35, true⟩)) rfl rfl rfl (by kernel_rfl) (by omega) ?_
     refine OA.p (some 102) (.agg ⟨(xRc25 nx z n12)⟩) rfl rfl rfl (by kernel_rfl) ?_
     refine OA.op1 (dst := (some 18)) (v := (.pointer (some ⟨(n12 + 1), 0, some 0⟩))) (n1 := (n12 + 2)) (w := ((n12 + 1), some ⟨[xRc29], 15, 53, true⟩)) rfl rfl rfl rfl (by omega) ?_
     refine OA.op1 (dst := none) (v := (.tuple #[])) (n1 := (n12 + 2)) (w := ((n12 + 1), some ⟨[(xRc25 nx z n12)], 15, 53, true⟩)) rfl rfl rfl (r_store rfl rfl rfl rfl rfl rfl rfl get_here rfl rfl (Nat.le_of_ble_eq_true rfl) rfl) (by omega) ?_
     refine OA.nil ?_
     intro _
     refine RA.weaken (D' := [((n12 + 1), some ⟨[(xRc25 nx z n12)], 15, 53, true⟩), (n12, some ⟨[(xRc211 nx z)], 2, 35, true⟩), (n9, some ⟨[(xRc24 nx z in9)], 15, 53, true⟩), (b, some ⟨[(xRc213 nx z)], 6, 94, true⟩), (in9, some ⟨[[(.int .i64 16), (.string (resV ((nx + (BitVec.ofNat 32 (andN z 3))) - (1#32)) (BitVec.ofNat 32 2)))]], 2, 35, true⟩), ((n8 + 1), some ⟨[(xRc28 nx z n8)], 15, 53, true⟩), (n8, some ⟨[(xRc215 nx z)], 2, 35, true⟩)]) hd (Less.of (fac (mm (fun _ => get_here) (fun _ => get_here)) (fac (mm (fun _ => (get_there (by omega) get_here)) (fun _ => (gt2 (by omega) get_here))) (fac (mm (fun _ => (gt2 (by omega) get_here)) (fun _ => (gt3 (by omega) get_here))) (fac (mm (fun _ => (gt3 (by omega) get_here)) (fun _ => (gt4 (by omega) get_here))) (fac (mm (fun _ => (gt4 (by omega) get_here)) (fun _ => (gt5 (by omega) get_here))) (fac (mm (fun _ => (gt5 (by omega) get_here)) (fun _ => (gt6 (by omega) get_here))) (fac (mm (fun _ => (gt6 (by omega) get_here)) (fun _ => (gt7 (by omega) get_here))) fan))))))) (gone_of (by simp only [goneP, memP, List.cons_append, List.nil_append, true_or, or_true, true_and, and_true, or_false] <;> omega))) ?_
     refine RA.rebase [(1, lv), (7, (Pt b 0 0)), (8, (W (nx + (1#32)))), (9, (.int .i64 (((now + 0) : Nat) : Int))), (10, (.int .i64 2)), (11, (.int .i64 ((i : Nat) : Int))), (12, (W ((nx + (BitVec.ofNat 32 (andN z 3))) - (1#32)))), (13, (.int .i64 0)), (14, (.pointer (some ⟨(n8 + 1), 0, some 0⟩))), (15, (.int .i64 0)), (16, (Pt n9 0 0)), (17, (.bool true)), (18, (.pointer (some ⟨(n12 + 1), 0, some 0⟩))), (33, (.bool true)), (71, (.bool true)), (78, (.bool true))] ⟨rfl, rfl, rfl, rfl, rfl, rfl, rfl, rfl, rfl, rfl, rfl, rfl, rfl, rfl, rfl, rfl, trivial⟩ (fun τr13 => ?_)
     refine RA.seq hd ?_
     refine RA.region env_ok ?_
     refine OA.p (some 103) (.bool true) rfl rfl rfl rfl ?_
     refine OA.p (some 104) (.bool false) rfl rfl rfl rfl ?_
     refine OA.p (some 105) (.bool false) rfl rfl rfl rfl ?_
     refine OA.p (some 106) (.int .i64 0) rfl rfl rfl rfl ?_
     refine OA.p (some 107) (.int .i64 0) rfl rfl rfl rfl ?_
     refine OA.p (some 108) (.bool false) rfl rfl rfl (r_bin rfl rfl rfl (b_neq rfl)) ?_
     refine OA.p (some 109) (.bool false) rfl rfl rfl rfl ?_
     refine OA.p (some 110) (.bool false) rfl rfl rfl rfl ?_
     refine OA.p (some 111) (.agg ⟨(xRc24 nx z in9)⟩) rfl rfl rfl (r_loadA rfl rfl rfl rfl (gt2 (by omega) get_here) rfl rfl rfl) ?_
     refine OA.p (some 112) (.agg ⟨(xRc25 nx z n12)⟩) rfl rfl rfl (r_loadA rfl rfl rfl rfl get_here rfl rfl rfl) ?_
     refine OA.callP (dst := (some 113)) (all := [(.agg ⟨(xRc24 nx z in9)⟩), (.agg ⟨(xRc25 nx z n12)⟩)]) (v := (.bool true)) (hd.of (by omega) (kb7 (by omega))) rfl rfl rfl rfl rfl rfl rfl rfl (cSame in9 n12 _ 16 ((bstr (putL (((nx + (BitVec.ofNat 32 (andN z 3))) - (1#32))).toNat 4)) ++ (bstr (putL ((BitVec.ofNat 32 2)).toNat 4))) (by first | exact (gt4 (by omega) get_here) | (rw [res_eq]; exact (gt4 (by omega) get_here))) (get_there (by omega) get_here)) ?_
     intro n14 hn14
     refine OA.p (some 114) (.bool false) rfl rfl rfl rfl ?_
     refine OA.p (some 115) (.bool false) rfl rfl rfl rfl ?_
     refine OA.nil ?_
     intro _
     refine RA.condF rfl ?_
     refine RA.skip env_ok ?_
     intro _
     refine RA.region env_ok ?_
     refine OA.p (some 34) (.int .i64 ((i : Nat) : Int)) rfl rfl rfl rfl ?_
     refine OA.p (some 35) (.int .i64 (((i + 1) : Nat) : Int)) rfl rfl rfl (r_bin rfl rfl rfl (b_add (i64_eq (by omega)))) ?_
     refine OA.p (some 11) (.int .i64 (((i + 1) : Nat) : Int)) rfl rfl rfl rfl ?_
     refine OA.nil ?_
     refine ⟨(ls.length - (i + 1)), by omega, [(b, some ⟨[(xRc213 nx z)], 6, 94, true⟩)], (Less.of (fac (mm (fun _ => get_here) (fun _ => (gt3 (by omega) get_here))) fan) (gone_of (by simp only [goneP, memP, List.cons_append, List.nil_append, true_or, or_true, true_and, and_true, or_false] <;> omega))), ⟨(i + 1), (nx + (1#32)), (now + 0), 2, rfl, by omega, ⟨rfl, rfl, rfl, rfl, rfl, rfl, trivial⟩, (congrArg (fun q : BitVec 32 => ([(b, some ⟨[[(.int .i64 0), (W 0#32), (.int .i64 0), (.int .i64 0), (W (q + 1#32)), (.int .i64 2)]], 6, 94, true⟩)] : Delta)) (w_eq hc3)), (kb1 (by omega)), ⟨by omega, by omega, by omega⟩⟩⟩
    ·
     refine OA.call (dst := (some 62)) (all := (xRc21 b nx z n8 now)) rfl rfl rfl rfl rfl rfl rfl rfl (CQ.imp (cAskA (hd.of (by omega) (kb3 (by omega))) b n8 (by omega) 0 0 0 0#32 ((nx + (BitVec.ofNat 32 (andN z 3))) - (1#32)) ((andN (z / 4) 7) + 1) now (by omega) (by omega) ((la : Nat) : Int) hc4 (by rw [w_eq hc3]; exact (gt2 (by omega) get_here)) (get_there (by omega) get_here)) ?_)
     rintro _ n15 _ ⟨in15, hin15a, hin15b, rfl, rfl⟩ hn15
     refine OA.app2 ?_
     refine OA.p (some 58) (.tuple ⟨[(.int .i64 ((((andN (z / 4) 7) + 1) : Nat) : Int)), (.agg ⟨(xRc22 nx z in15)⟩), (.bool true)]⟩) rfl rfl rfl rfl ?_
     refine OA.p (some 63) (.int .i64 ((((andN (z / 4) 7) + 1) : Nat) : Int)) rfl rfl rfl rfl ?_
     refine OA.p (some 64) (.agg ⟨(xRc22 nx z in15)⟩) rfl rfl rfl rfl ?_
     refine OA.p (some 65) (.bool true) rfl rfl rfl rfl ?_
     refine OA.op1 (dst := (some 16)) (v := (Pt n15 0 0)) (n1 := (n15 + 1)) (w := (n15, some ⟨[xRc29], 15, 53, true⟩)) rfl rfl rfl rfl (by omega) ?_
     refine OA.p (some 15) (.int .i64 ((((andN (z / 4) 7) + 1) : Nat) : Int)) rfl rfl rfl rfl ?_
     refine OA.op1 (dst := none) (v := (.tuple #[])) (n1 := (n15 + 1)) (w := (n15, some ⟨[(xRc22 nx z in15)], 15, 53, true⟩)) rfl rfl rfl (r_store rfl rfl rfl rfl rfl rfl rfl get_here rfl rfl (Nat.le_of_ble_eq_true rfl) rfl) (by omega) ?_
     refine OA.p (some 17) (.bool true) rfl rfl rfl rfl ?_
     refine OA.nil ?_
     intro _
     refine RA.weaken (D' := [(n15, some ⟨[(xRc22 nx z in15)], 15, 53, true⟩), (b, some ⟨[(xRc214 nx z)], 6, 94, true⟩), (in15, some ⟨[[(.int .i64 16), (.string (resV ((nx + (BitVec.ofNat 32 (andN z 3))) - (1#32)) (BitVec.ofNat 32 1)))]], 2, 35, true⟩), ((n8 + 1), some ⟨[(xRc28 nx z n8)], 15, 53, true⟩), (n8, some ⟨[(xRc215 nx z)], 2, 35, true⟩)]) hd (Less.of (fac (mm (fun _ => get_here) (fun _ => get_here)) (fac (mm (fun _ => (get_there (by omega) get_here)) (fun _ => (gt2 (by omega) get_here))) (fac (mm (fun _ => (gt2 (by omega) get_here)) (fun _ => (gt3 (by omega) get_here))) (fac (mm (fun _ => (gt3 (by omega) get_here)) (fun _ => (gt4 (by omega) get_here))) (fac (mm (fun _ => (gt4 (by omega) get_here)) (fun _ => (gt5 (by omega) get_here))) fan))))) (gone_of (by simp only [goneP, memP, List.cons_append, List.nil_append, true_or, or_true, true_and, and_true, or_false] <;> omega))) ?_
     refine RA.seq hd ?_
     refine RA.block ?_
     refine RA.seq hd ?_
     refine RA.region env_ok ?_
     refine OA.p (some 72) (W ((nx + (BitVec.ofNat 32 (andN z 3))) - (1#32))) rfl rfl rfl rfl ?_
     refine OA.p (some 73) (W nx) rfl rfl rfl rfl ?_
     refine OA.p (some 74) (.bool true) rfl rfl rfl (Eq.trans (r_bin rfl rfl rfl (b_eql rfl)) (dT hc3)) ?_
     refine OA.p (some 71) (.bool true) rfl rfl rfl rfl ?_
     refine OA.nil ?_
     intro _
     refine RA.condT rfl ?_
     refine RA.seq hd ?_
     refine RA.region env_ok ?_
     refine OA.p (some 10) (.int .i64 1) rfl rfl rfl rfl ?_
     refine OA.nil ?_
     intro _
     refine RA.rebase [(1, lv), (7, (Pt b 0 0)), (8, (W nx)), (9, (.int .i64 ((now : Nat) : Int))), (10, (.int .i64 1)), (11, (.int .i64 ((i : Nat) : Int))), (12, (W ((nx + (BitVec.ofNat 32 (andN z 3))) - (1#32)))), (13, (.int .i64 ((((andN (z / 4) 7) + 1) : Nat) : Int))), (14, (.pointer (some ⟨(n8 + 1), 0, some 0⟩))), (15, (.int .i64 ((((andN (z / 4) 7) + 1) : Nat) : Int))), (16, (Pt n15 0 0)), (17, (.bool true)), (33, (.bool true)), (71, (.bool true))] ⟨rfl, rfl, rfl, rfl, rfl, rfl, rfl, rfl, rfl, rfl, rfl, rfl, rfl, rfl, trivial⟩ (fun τr16 => ?_)
     refine RA.seq hd ?_
     refine RA.seq hd ?_
     refine RA.region env_ok ?_
     refine OA.p (some 75) (.int .i64 ((((andN (z / 4) 7) + 1) : Nat) : Int)) rfl rfl rfl rfl ?_
     refine OA.p (some 76) (.int .i64 ((now : Nat) : Int)) rfl rfl rfl rfl ?_
     refine OA.p (some 77) (.int .i64 (((16 - now) : Nat) : Int)) rfl rfl rfl (r_bin rfl rfl rfl (b_sub (i64_eq (by omega)))) ?_
     refine OA.p (some 78) (.bool false) rfl rfl rfl (Eq.trans (r_bin rfl rfl rfl (b_gtr rfl)) (dF hc4)) ?_
     refine OA.nil ?_
     intro _
     refine RA.condF rfl ?_
     refine RA.skip env_ok ?_
     intro _
     refine RA.seq hd ?_
     refine RA.region env_ok ?_
     refine OA.p (some 79) (.int .i64 ((now : Nat) : Int)) rfl rfl rfl rfl ?_
     refine OA.p (some 80) (.int .i64 ((((andN (z / 4) 7) + 1) : Nat) : Int)) rfl rfl rfl rfl ?_
     refine OA.p (some 81) (.int .i64 (((now + ((andN (z / 4) 7) + 1)) : Nat) : Int)) rfl rfl rfl (r_bin rfl rfl rfl (b_add (i64_eq (by omega)))) ?_
     refine OA.p (some 9) (.int .i64 (((now + ((andN (z / 4) 7) + 1)) : Nat) : Int)) rfl rfl rfl rfl ?_
     refine OA.nil ?_
     intro _
     refine RA.region env_ok ?_
     refine OA.p (some 82) (W nx) rfl rfl rfl rfl ?_
     refine OA.p (some 83) (W (nx + (1#32))) rfl rfl rfl (r_bin rfl rfl rfl (b_addW nx (1#32))) ?_
     refine OA.p (some 8) (W (nx + (1#32))) rfl rfl rfl rfl ?_
     refine OA.nil ?_
     intro _
     refine RA.seq hd ?_
     refine RA.region env_ok ?_
     refine OA.p (some 93) (W ((nx + (BitVec.ofNat 32 (andN z 3))) - (1#32))) rfl rfl rfl rfl ?_
     refine OA.p (some 94) (W ((nx + (BitVec.ofNat 32 (andN z 3))) - (1#32))) rfl rfl rfl rfl ?_
     refine OA.callP (dst := (some 95)) (all := [(W ((nx + (BitVec.ofNat 32 (andN z 3))) - (1#32)))]) (v := (.string (bstr (putL (((nx + (BitVec.ofNat 32 (andN z 3))) - (1#32))).toNat 4)))) (hd.of (by omega) (kb5 (by omega))) rfl rfl rfl rfl rfl rfl rfl rfl (sFour ((nx + (BitVec.ofNat 32 (andN z 3))) - (1#32))) ?_
     intro n17 hn17
     refine OA.p (some 96) (.int .i64 1) rfl rfl rfl rfl ?_
     refine OA.p (some 97) (.int .u32 1) rfl rfl rfl rfl ?_
     refine OA.callP (dst := (some 98)) (all := [(.int .u32 1)]) (v := (.string (bstr (putL ((BitVec.ofNat 32 1)).toNat 4)))) (hd.of (by omega) (kb5 (by omega))) rfl rfl rfl rfl rfl rfl rfl rfl (sFour (BitVec.ofNat 32 1)) ?_
     intro n18 hn18
     refine OA.p (some 99) (.string ((bstr (putL (((nx + (BitVec.ofNat 32 (andN z 3))) - (1#32))).toNat 4)) ++ (bstr (putL ((BitVec.ofNat 32 1)).toNat 4)))) rfl rfl rfl (r_cat rfl rfl rfl (by (try simp only [ByteArray.size_append, bstr_size, size_lit, List.size_toArray, List.length_cons, List.length_nil, List.length_take, List.length_drop, List.length_replicate, putL_len]); try omega)) ?_
     refine OA.p (some 100) (.agg ⟨(xRc212 nx z)⟩) rfl rfl rfl (by kernel_rfl) ?_
     refine OA.op1 (dst := (some 101)) (v := (.slice (some ⟨n18, 0, none⟩) 1 0)) (n1 := (n18 + 1)) (w := (n18, some ⟨[(xRc212 nx z)], 2, 35, true⟩)) rfl rfl rfl (by kernel_rfl) (by omega) ?_
     refine OA.p (some 102) (.agg ⟨(xRc26 nx z n18)⟩) rfl rfl rfl (by kernel_rfl) ?_
     refine OA.op1 (dst := (some 18)) (v := (.pointer (some ⟨(n18 + 1), 0, some 0⟩))) (n1 := (n18 + 2)) (w := ((n18 + 1), some ⟨[xRc29], 15, 53, true⟩)) rfl rfl rfl rfl (by omega) ?_
     refine OA.op1 (dst := none) (v := (.tuple #[])) (n1 := (n18 + 2)) (w := ((n18 + 1), some ⟨[(xRc26 nx z n18)], 15, 53, true⟩)) rfl rfl rfl (r_store rfl rfl rfl rfl rfl rfl rfl get_here rfl rfl (Nat.le_of_ble_eq_true rfl) rfl) (by omega) ?_
     refine OA.nil ?_
     intro _
     refine RA.weaken (D' := [((n18 + 1), some ⟨[(xRc26 nx z n18)], 15, 53, true⟩), (n18, some ⟨[(xRc212 nx z)], 2, 35, true⟩), (n15, some ⟨[(xRc22 nx z in15)], 15, 53, true⟩), (b, some ⟨[(xRc214 nx z)], 6, 94, true⟩), (in15, some ⟨[[(.int .i64 16), (.string (resV ((nx + (BitVec.ofNat 32 (andN z 3))) - (1#32)) (BitVec.ofNat 32 1)))]], 2, 35, true⟩), ((n8 + 1), some ⟨[(xRc28 nx z n8)], 15, 53, true⟩), (n8, some ⟨[(xRc215 nx z)], 2, 35, true⟩)]) hd (Less.of (fac (mm (fun _ => get_here) (fun _ => get_here)) (fac (mm (fun _ => (get_there (by omega) get_here)) (fun _ => (gt2 (by omega) get_here))) (fac (mm (fun _ => (gt2 (by omega) get_here)) (fun _ => (gt3 (by omega) get_here))) (fac (mm (fun _ => (gt3 (by omega) get_here)) (fun _ => (gt4 (by omega) get_here))) (fac (mm (fun _ => (gt4 (by omega) get_here)) (fun _ => (gt5 (by omega) get_here))) (fac (mm (fun _ => (gt5 (by omega) get_here)) (fun _ => (gt6 (by omega) get_here))) (fac (mm (fun _ => (gt6 (by omega) get_here)) (fun _ => (gt7 (by omega) get_here))) fan))))))) (gone_of (by simp only [goneP, memP, List.cons_append, List.nil_append, true_or, or_true, true_and, and_true, or_false] <;> omega))) ?_
     refine RA.seq hd ?_
     refine RA.region env_ok ?_
     refine OA.p (some 103) (.bool true) rfl rfl rfl rfl ?_
     refine OA.p (some 104) (.bool false) rfl rfl rfl rfl ?_
     refine OA.p (some 105) (.bool false) rfl rfl rfl rfl ?_
     refine OA.p (some 106) (.int .i64 ((((andN (z / 4) 7) + 1) : Nat) : Int)) rfl rfl rfl rfl ?_
     refine OA.p (some 107) (.int .i64 ((((andN (z / 4) 7) + 1) : Nat) : Int)) rfl rfl rfl rfl ?_
     refine OA.p (some 108) (.bool false) rfl rfl rfl (r_bin rfl rfl rfl (b_neq (decide_eq_false (fun h => h rfl)))) ?_
     refine OA.p (some 109) (.bool false) rfl rfl rfl rfl ?_
     refine OA.p (some 110) (.bool false) rfl rfl rfl rfl ?_
     refine OA.p (some 111) (.agg ⟨(xRc22 nx z in15)⟩) rfl rfl rfl (r_loadA rfl rfl rfl rfl (gt2 (by omega) get_here) rfl rfl rfl) ?_
     refine OA.p (some 112) (.agg ⟨(xRc26 nx z n18)⟩) rfl rfl rfl (r_loadA rfl rfl rfl rfl get_here rfl rfl rfl) ?_
     refine OA.callP (dst := (some 113)) (all := [(.agg ⟨(xRc22 nx z in15)⟩), (.agg ⟨(xRc26 nx z n18)⟩)]) (v := (.bool true)) (hd.of (by omega) (kb7 (by omega))) rfl rfl rfl rfl rfl rfl rfl rfl (cSame in15 n18 _ 16 ((bstr (putL (((nx + (BitVec.ofNat 32 (andN z 3))) - (1#32))).toNat 4)) ++ (bstr (putL ((BitVec.ofNat 32 1)).toNat 4))) (by first | exact (gt4 (by omega) get_here) | (rw [res_eq]; exact (gt4 (by omega) get_here))) (get_there (by omega) get_here)) ?_
     intro n19 hn19
     refine OA.p (some 114) (.bool false) rfl rfl rfl rfl ?_
     refine OA.p (some 115) (.bool false) rfl rfl rfl rfl ?_
     refine OA.nil ?_
     intro _
     refine RA.rebase [(1, lv), (7, (Pt b 0 0)), (8, (W (nx + (1#32)))), (9, (.int .i64 (((now + ((andN (z / 4) 7) + 1)) : Nat) : Int))), (10, (.int .i64 1)), (11, (.int .i64 ((i : Nat) : Int))), (12, (W ((nx + (BitVec.ofNat 32 (andN z 3))) - (1#32)))), (13, (.int .i64 ((((andN (z / 4) 7) + 1) : Nat) : Int))), (14, (.pointer (some ⟨(n8 + 1), 0, some 0⟩))), (15, (.int .i64 ((((andN (z / 4) 7) + 1) : Nat) : Int))), (16, (Pt n15 0 0)), (17, (.bool true)), (18, (.pointer (some ⟨(n18 + 1), 0, some 0⟩))), (33, (.bool true)), (71, (.bool true)), (78, (.bool false)), (115, (.bool false))] ⟨rfl, rfl, rfl, rfl, rfl, rfl, rfl, rfl, rfl, rfl, rfl, rfl, rfl, rfl, rfl, rfl, rfl, trivial⟩ (fun τr20 => ?_)
     refine RA.condF rfl ?_
     refine RA.skip env_ok ?_
     intro _
     refine RA.region env_ok ?_
     refine OA.p (some 34) (.int .i64 ((i : Nat) : Int)) rfl rfl rfl rfl ?_
     refine OA.p (some 35) (.int .i64 (((i + 1) : Nat) : Int)) rfl rfl rfl (r_bin rfl rfl rfl (b_add (i64_eq (by omega)))) ?_
     refine OA.p (some 11) (.int .i64 (((i + 1) : Nat) : Int)) rfl rfl rfl rfl ?_
     refine OA.nil ?_
     refine ⟨(ls.length - (i + 1)), by omega, [(b, some ⟨[(xRc214 nx z)], 6, 94, true⟩)], (Less.of (fac (mm (fun _ => get_here) (fun _ => (gt3 (by omega) get_here))) fan) (gone_of (by simp only [goneP, memP, List.cons_append, List.nil_append, true_or, or_true, true_and, and_true, or_false] <;> omega))), ⟨(i + 1), (nx + (1#32)), (now + ((andN (z / 4) 7) + 1)), 1, rfl, by omega, ⟨rfl, rfl, rfl, rfl, rfl, rfl, trivial⟩, (congrArg (fun q : BitVec 32 => ([(b, some ⟨[[(.int .i64 0), (W 0#32), (.int .i64 0), (.int .i64 0), (W (q + 1#32)), (.int .i64 1)]], 6, 94, true⟩)] : Delta)) (w_eq hc3)), (kb1 (by omega)), ⟨by omega, by omega, by omega⟩⟩⟩
   ·
    by_cases hc5 : (((nx + (BitVec.ofNat 32 (andN z 3))) - (1#32)).toNat : Int) = ((nx - (1#32)).toNat : Int)
    ·
     by_cases hc6 : ((la : Nat) : Int) ≠ 0
     ·
      refine OA.call (dst := (some 62)) (all := (xRc21 b nx z n8 now)) rfl rfl rfl rfl rfl rfl rfl rfl (CQ.imp (cAskO (hd.of (by omega) (kb3 (by omega))) b n8 (by omega) 0 0 0 0#32 ((nx + (BitVec.ofNat 32 (andN z 3))) - (1#32)) ((andN (z / 4) 7) + 1) now (by omega) (by omega) nx la (by omega) hc6 hc5 (gt2 (by omega) get_here) (get_there (by omega) get_here)) ?_)
      rintro _ n21 _ ⟨in21, hin21a, hin21b, rfl, rfl⟩ hn21
      refine OA.app1 ?_
      refine OA.p (some 58) (.tuple ⟨[(.int .i64 0), (.agg ⟨(xRc23 nx z in21)⟩), (.bool true)]⟩) rfl rfl rfl rfl ?_
      refine OA.p (some 63) (.int .i64 0) rfl rfl rfl rfl ?_
      refine OA.p (some 64) (.agg ⟨(xRc23 nx z in21)⟩) rfl rfl rfl rfl ?_
      refine OA.p (some 65) (.bool true) rfl rfl rfl rfl ?_
      refine OA.op1 (dst := (some 16)) (v := (Pt n21 0 0)) (n1 := (n21 + 1)) (w := (n21, some ⟨[xRc29], 15, 53, true⟩)) rfl rfl rfl rfl (by omega) ?_
      refine OA.p (some 15) (.int .i64 0) rfl rfl rfl rfl ?_
      refine OA.op1 (dst := none) (v := (.tuple #[])) (n1 := (n21 + 1)) (w := (n21, some ⟨[(xRc23 nx z in21)], 15, 53, true⟩)) rfl rfl rfl (r_store rfl rfl rfl rfl rfl rfl rfl get_here rfl rfl (Nat.le_of_ble_eq_true rfl) rfl) (by omega) ?_
      refine OA.p (some 17) (.bool true) rfl rfl rfl rfl ?_
      refine OA.nil ?_
      intro _
      refine RA.weaken (D' := [(n21, some ⟨[(xRc23 nx z in21)], 15, 53, true⟩), (in21, some ⟨[[(.int .i64 16), (.string (resV ((nx + (BitVec.ofNat 32 (andN z 3))) - (1#32)) (BitVec.ofNat 32 la)))]], 2, 35, true⟩), ((n8 + 1), some ⟨[(xRc28 nx z n8)], 15, 53, true⟩), (n8, some ⟨[(xRc215 nx z)], 2, 35, true⟩), (b, some ⟨[(xRc216 nx la)], 6, 94, true⟩)]) hd (Less.of (fac (mm (fun _ => get_here) (fun _ => get_here)) (fac (mm (fun _ => (get_there (by omega) get_here)) (fun _ => (gt2 (by omega) get_here))) (fac (mm (fun _ => (gt2 (by omega) get_here)) (fun _ => (gt3 (by omega) get_here))) (fac (mm (fun _ => (gt3 (by omega) get_here)) (fun _ => (gt4 (by omega) get_here))) (fac (mm (fun _ => (gt4 (by omega) get_here)) (fun _ => (gt5 (by omega) get_here))) fan))))) (gone_of (by simp only [goneP, memP, List.cons_append, List.nil_append, true_or, or_true, true_and, and_true, or_false] <;> omega))) ?_
      refine RA.seq hd ?_
      refine RA.block ?_
      refine RA.seq hd ?_
      refine RA.region env_ok ?_
      refine OA.p (some 72) (W ((nx + (BitVec.ofNat 32 (andN z 3))) - (1#32))) rfl rfl rfl rfl ?_
      refine OA.p (some 73) (W nx) rfl rfl rfl rfl ?_
      refine OA.p (some 74) (.bool false) rfl rfl rfl (Eq.trans (r_bin rfl rfl rfl (b_eql rfl)) (dF hc3)) ?_
      refine OA.p (some 71) (.bool false) rfl rfl rfl rfl ?_
      refine OA.nil ?_
      intro _
      refine RA.condF rfl ?_
      refine RA.seq hd ?_
      refine RA.region env_ok ?_
      refine OA.p (some 85) (W ((nx + (BitVec.ofNat 32 (andN z 3))) - (1#32))) rfl rfl rfl rfl ?_
      refine OA.p (some 86) (W nx) rfl rfl rfl rfl ?_
      refine OA.p (some 87) (W (nx - (1#32))) rfl rfl rfl (r_bin rfl rfl rfl (b_subW nx (1#32))) ?_
      refine OA.p (some 88) (.bool true) rfl rfl rfl (Eq.trans (r_bin rfl rfl rfl (b_eql rfl)) (dT hc5)) ?_
      refine OA.p (some 89) (.bool true) rfl rfl rfl rfl ?_
      refine OA.p (some 90) (.int .i64 ((la : Nat) : Int)) rfl rfl rfl rfl ?_
      refine OA.p (some 91) (.bool true) rfl rfl rfl (Eq.trans (r_bin rfl rfl rfl (b_neq rfl)) (dT hc6)) ?_
      refine OA.p (some 92) (.bool true) rfl rfl rfl rfl ?_
      refine OA.p (some 84) (.bool true) rfl rfl rfl rfl ?_
      refine OA.nil ?_
      intro _
      refine RA.rebase [(1, lv), (7, (Pt b 0 0)), (8, (W nx)), (9, (.int .i64 ((now : Nat) : Int))), (10, (.int .i64 ((la : Nat) : Int))), (11, (.int .i64 ((i : Nat) : Int))), (12, (W ((nx + (BitVec.ofNat 32 (andN z 3))) - (1#32)))), (13, (.int .i64 ((((andN (z / 4) 7) + 1) : Nat) : Int))), (14, (.pointer (some ⟨(n8 + 1), 0, some 0⟩))), (15, (.int .i64 0)), (16, (Pt n21 0 0)), (17, (.bool true)), (33, (.bool true)), (71, (.bool false)), (84, (.bool true))] ⟨rfl, rfl, rfl, rfl, rfl, rfl, rfl, rfl, rfl, rfl, rfl, rfl, rfl, rfl, rfl, trivial⟩ (fun τr22 => ?_)
      refine RA.condT rfl ?_
      refine RA.region env_ok ?_
      refine OA.p (some 13) (.int .i64 0) rfl rfl rfl rfl ?_
      refine OA.nil ?_
      intro _
      refine RA.seq hd ?_
      refine RA.region env_ok ?_
      refine OA.p (some 93) (W ((nx + (BitVec.ofNat 32 (andN z 3))) - (1#32))) rfl rfl rfl rfl ?_
      refine OA.p (some 94) (W ((nx + (BitVec.ofNat 32 (andN z 3))) - (1#32))) rfl rfl rfl rfl ?_
      refine OA.callP (dst := (some 95)) (all := [(W ((nx + (BitVec.ofNat 32 (andN z 3))) - (1#32)))]) (v := (.string (bstr (putL (((nx + (BitVec.ofNat 32 (andN z 3))) - (1#32))).toNat 4)))) (hd.of (by omega) (kb5 (by omega))) rfl rfl rfl rfl rfl rfl rfl rfl (sFour ((nx + (BitVec.ofNat 32 (andN z 3))) - (1#32))) ?_
      intro n23 hn23
      refine OA.p (some 96) (.int .i64 ((la : Nat) : Int)) rfl rfl rfl rfl ?_
      refine OA.p (some 97) (W (BitVec.ofNat 32 la)) rfl rfl rfl (r_cvt rfl rfl rfl rfl rfl ⟨_, rfl⟩ (wrap_ofNat32 _)) ?_
      refine OA.callP (dst := (some 98)) (all := [(W (BitVec.ofNat 32 la))]) (v := (.string (bstr (putL ((BitVec.ofNat 32 la)).toNat 4)))) (hd.of (by omega) (kb5 (by omega))) rfl rfl rfl rfl rfl rfl rfl rfl (sFour (BitVec.ofNat 32 la)) ?_
      intro n24 hn24
      refine OA.p (some 99) (.string ((bstr (putL (((nx + (BitVec.ofNat 32 (andN z 3))) - (1#32))).toNat 4)) ++ (bstr (putL ((BitVec.ofNat 32 la)).toNat 4)))) rfl rfl rfl (r_cat rfl rfl rfl (by (try simp only [ByteArray.size_append, bstr_size, size_lit, List.size_toArray, List.length_cons, List.length_nil, List.length_take, List.length_drop, List.length_replicate, putL_len]); try omega)) ?_
      refine OA.p (some 100) (.agg ⟨(xRc210 nx z la)⟩) rfl rfl rfl (by kernel_rfl) ?_
      refine OA.op1 (dst := (some 101)) (v := (.slice (some ⟨n24, 0, none⟩) 1 0)) (n1 := (n24 + 1)) (w := (n24, some ⟨[(xRc210 nx z la)], 2, 35, true⟩)) rfl rfl rfl (by kernel_rfl) (by omega) ?_
      refine OA.p (some 102) (.agg ⟨(xRc27 nx z n24)⟩) rfl rfl rfl (by kernel_rfl) ?_
      refine OA.op1 (dst := (some 18)) (v := (.pointer (some ⟨(n24 + 1), 0, some 0⟩))) (n1 := (n24 + 2)) (w := ((n24 + 1), some ⟨[xRc29], 15, 53, true⟩)) rfl rfl rfl rfl (by omega) ?_
      refine OA.op1 (dst := none) (v := (.tuple #[])) (n1 := (n24 + 2)) (w := ((n24 + 1), some ⟨[(xRc27 nx z n24)], 15, 53, true⟩)) rfl rfl rfl (r_store rfl rfl rfl rfl rfl rfl rfl get_here rfl rfl (Nat.le_of_ble_eq_true rfl) rfl) (by omega) ?_
      refine OA.nil ?_
      intro _
      refine RA.weaken (D' := [((n24 + 1), some ⟨[(xRc27 nx z n24)], 15, 53, true⟩), (n24, some ⟨[(xRc210 nx z la)], 2, 35, true⟩), (n21, some ⟨[(xRc23 nx z in21)], 15, 53, true⟩), (in21, some ⟨[[(.int .i64 16), (.string (resV ((nx + (BitVec.ofNat 32 (andN z 3))) - (1#32)) (BitVec.ofNat 32 la)))]], 2, 35, true⟩), ((n8 + 1), some ⟨[(xRc28 nx z n8)], 15, 53, true⟩), (n8, some ⟨[(xRc215 nx z)], 2, 35, true⟩), (b, some ⟨[(xRc216 nx la)], 6, 94, true⟩)]) hd (Less.of (fac (mm (fun _ => get_here) (fun _ => get_here)) (fac (mm (fun _ => (get_there (by omega) get_here)) (fun _ => (gt2 (by omega) get_here))) (fac (mm (fun _ => (gt2 (by omega) get_here)) (fun _ => (gt3 (by omega) get_here))) (fac (mm (fun _ => (gt3 (by omega) get_here)) (fun _ => (gt4 (by omega) get_here))) (fac (mm (fun _ => (gt4 (by omega) get_here)) (fun _ => (gt5 (by omega) get_here))) (fac (mm (fun _ => (gt5 (by omega) get_here)) (fun _ => (gt6 (by omega) get_here))) (fac (mm (fun _ => (gt6 (by omega) get_here)) (fun _ => (gt7 (by omega) get_here))) fan))))))) (gone_of (by simp only [goneP, memP, List.cons_append, List.nil_append, true_or, or_true, true_and, and_true, or_false] <;> omega))) ?_
      refine RA.seq hd ?_
      refine RA.region env_ok ?_
      refine OA.p (some 103) (.bool true) rfl rfl rfl rfl ?_
      refine OA.p (some 104) (.bool false) rfl rfl rfl rfl ?_
      refine OA.p (some 105) (.bool false) rfl rfl rfl rfl ?_
      refine OA.p (some 106) (.int .i64 0) rfl rfl rfl rfl ?_
      refine OA.p (some 107) (.int .i64 0) rfl rfl rfl rfl ?_
      refine OA.p (some 108) (.bool false) rfl rfl rfl (r_bin rfl rfl rfl (b_neq rfl)) ?_
      refine OA.p (some 109) (.bool false) rfl rfl rfl rfl ?_
      refine OA.p (some 110) (.bool false) rfl rfl rfl rfl ?_
      refine OA.p (some 111) (.agg ⟨(xRc23 nx z in21)⟩) rfl rfl rfl (r_loadA rfl rfl rfl rfl (gt2 (by omega) get_here) rfl rfl rfl) ?_
      refine OA.p (some 112) (.agg ⟨(xRc27 nx z n24)⟩) rfl rfl rfl (r_loadA rfl rfl rfl rfl get_here rfl rfl rfl) ?_
      refine OA.callP (dst := (some 113)) (all := [(.agg ⟨(xRc23 nx z in21)⟩), (.agg ⟨(xRc27 nx z n24)⟩)]) (v := (.bool true)) (hd.of (by omega) (kb7 (by omega))) rfl rfl rfl rfl rfl rfl rfl rfl (cSame in21 n24 _ 16 ((bstr (putL (((nx + (BitVec.ofNat 32 (andN z 3))) - (1#32))).toNat 4)) ++ (bstr (putL ((BitVec.ofNat 32 la)).toNat 4))) (by first | exact (gt3 (by omega) get_here) | (rw [res_eq]; exact (gt3 (by omega) get_here))) (get_there (by omega) get_here)) ?_
      intro n25 hn25
      refine OA.p (some 114) (.bool false) rfl rfl rfl rfl ?_
      refine OA.p (some 115) (.bool false) rfl rfl rfl rfl ?_
      refine OA.nil ?_
      intro _
      refine RA.rebase [(1, lv), (7, (Pt b 0 0)), (8, (W nx)), (9, (.int .i64 ((now : Nat) : Int))), (10, (.int .i64 ((la : Nat) : Int))), (11, (.int .i64 ((i : Nat) : Int))), (12, (W ((nx + (BitVec.ofNat 32 (andN z 3))) - (1#32)))), (13, (.int .i64 0)), (14, (.pointer (some ⟨(n8 + 1), 0, some 0⟩))), (15, (.int .i64 0)), (16, (Pt n21 0 0)), (17, (.bool true)), (18, (.pointer (some ⟨(n24 + 1), 0, some 0⟩))), (33, (.bool true)), (71, (.bool false)), (84, (.bool true)), (115, (.bool false))] ⟨rfl, rfl, rfl, rfl, rfl, rfl, rfl, rfl, rfl, rfl, rfl, rfl, rfl, rfl, rfl, rfl, rfl, trivial⟩ (fun τr26 => ?_)
      refine RA.condF rfl ?_
      refine RA.skip env_ok ?_
      intro _
      refine RA.region env_ok ?_
      refine OA.p (some 34) (.int .i64 ((i : Nat) : Int)) rfl rfl rfl rfl ?_
      refine OA.p (some 35) (.int .i64 (((i + 1) : Nat) : Int)) rfl rfl rfl (r_bin rfl rfl rfl (b_add (i64_eq (by omega)))) ?_
      refine OA.p (some 11) (.int .i64 (((i + 1) : Nat) : Int)) rfl rfl rfl rfl ?_
      refine OA.nil ?_
      refine ⟨(ls.length - (i + 1)), by omega, [(b, some ⟨[(xRc216 nx la)], 6, 94, true⟩)], (Less.of (fac (mm (fun _ => get_here) (fun _ => (gt6 (by omega) get_here))) fan) (gone_of (by simp only [goneP, memP, List.cons_append, List.nil_append, true_or, or_true, true_and, and_true, or_false] <;> omega))), ⟨(i + 1), nx, now, la, rfl, by omega, ⟨rfl, rfl, rfl, rfl, rfl, rfl, trivial⟩, rfl, (kb1 (by omega)), ⟨by omega, by omega, by omega⟩⟩⟩
     ·
      refine OA.call (dst := (some 62)) (all := (xRc21 b nx z n8 now)) rfl rfl rfl rfl rfl rfl rfl rfl (CQ.imp (cAskN (hd.of (by omega) (kb3 (by omega))) b n8 (by omega) 0 0 0 0#32 ((nx + (BitVec.ofNat 32 (andN z 3))) - (1#32)) ((andN (z / 4) 7) + 1) now (by omega) (by omega) nx la hc3 (by omega) (gt2 (by omega) get_here) (get_there (by omega) get_here)) ?_)
      rintro _ n27 _ ⟨rfl, rfl⟩ hn27
      refine OA.app0 ?_
      refine OA.p (some 58) (.tuple ⟨[(.int .i64 0), (.agg ⟨xRc29⟩), (.bool false)]⟩) rfl rfl rfl rfl ?_
      refine OA.p (some 63) (.int .i64 0) rfl rfl rfl rfl ?_
      refine OA.p (some 64) (.agg ⟨xRc29⟩) rfl rfl rfl rfl ?_
      refine OA.p (some 65) (.bool false) rfl rfl rfl rfl ?_
      refine OA.op1 (dst := (some 16)) (v := (Pt n27 0 0)) (n1 := (n27 + 1)) (w := (n27, some ⟨[xRc29], 15, 53, true⟩)) rfl rfl rfl rfl (by omega) ?_
      refine OA.p (some 15) (.int .i64 0) rfl rfl rfl rfl ?_
      refine OA.op1 (dst := none) (v := (.tuple #[])) (n1 := (n27 + 1)) (w := (n27, some ⟨[xRc29], 15, 53, true⟩)) rfl rfl rfl (r_store rfl rfl rfl rfl rfl rfl rfl get_here rfl rfl (Nat.le_of_ble_eq_true rfl) rfl) (by omega) ?_
      refine OA.p (some 17) (.bool false) rfl rfl rfl rfl ?_
      refine OA.nil ?_
      intro _
      refine RA.weaken (D' := [(n27, some ⟨[xRc29], 15, 53, true⟩), ((n8 + 1), some ⟨[(xRc28 nx z n8)], 15, 53, true⟩), (n8, some ⟨[(xRc215 nx z)], 2, 35, true⟩), (b, some ⟨[(xRc216 nx la)], 6, 94, true⟩)]) hd (Less.of (fac (mm (fun _ => get_here) (fun _ => get_here)) (fac (mm (fun _ => (get_there (by omega) get_here)) (fun _ => (gt2 (by omega) get_here))) (fac (mm (fun _ => (gt2 (by omega) get_here)) (fun _ => (gt3 (by omega) get_here))) (fac (mm (fun _ => (gt3 (by omega) get_here)) (fun _ => (gt4 (by omega) get_here))) fan)))) (gone_of (by simp only [goneP, memP, List.cons_append, List.nil_append, true_or, or_true, true_and, and_true, or_false] <;> omega))) ?_
      refine RA.seq hd ?_
      refine RA.block ?_
      refine RA.seq hd ?_
      refine RA.region env_ok ?_
      refine OA.p (some 72) (W ((nx + (BitVec.ofNat 32 (andN z 3))) - (1#32))) rfl rfl rfl rfl ?_
      refine OA.p (some 73) (W nx) rfl rfl rfl rfl ?_
      refine OA.p (some 74) (.bool false) rfl rfl rfl (Eq.trans (r_bin rfl rfl rfl (b_eql rfl)) (dF hc3)) ?_
      refine OA.p (some 71) (.bool false) rfl rfl rfl rfl ?_
      refine OA.nil ?_
      intro _
      refine RA.condF rfl ?_
      refine RA.seq hd ?_
      refine RA.region env_ok ?_
      refine OA.p (some 85) (W ((nx + (BitVec.ofNat 32 (andN z 3))) - (1#32))) rfl rfl rfl rfl ?_
      refine OA.p (some 86) (W nx) rfl rfl rfl rfl ?_
      refine OA.p (some 87) (W (nx - (1#32))) rfl rfl rfl (r_bin rfl rfl rfl (b_subW nx (1#32))) ?_
      refine OA.p (some 88) (.bool true) rfl rfl rfl (Eq.trans (r_bin rfl rfl rfl (b_eql rfl)) (dT hc5)) ?_
      refine OA.p (some 89) (.bool true) rfl rfl rfl rfl ?_
      refine OA.p (some 90) (.int .i64 ((la : Nat) : Int)) rfl rfl rfl rfl ?_
      refine OA.p (some 91) (.bool false) rfl rfl rfl (Eq.trans (r_bin rfl rfl rfl (b_neq rfl)) (dF hc6)) ?_
      refine OA.p (some 92) (.bool false) rfl rfl rfl rfl ?_
      refine OA.p (some 84) (.bool false) rfl rfl rfl rfl ?_
      refine OA.nil ?_
      intro _
      refine RA.rebase [(1, lv), (7, (Pt b 0 0)), (8, (W nx)), (9, (.int .i64 ((now : Nat) : Int))), (10, (.int .i64 ((la : Nat) : Int))), (11, (.int .i64 ((i : Nat) : Int))), (12, (W ((nx + (BitVec.ofNat 32 (andN z 3))) - (1#32)))), (13, (.int .i64 ((((andN (z / 4) 7) + 1) : Nat) : Int))), (14, (.pointer (some ⟨(n8 + 1), 0, some 0⟩))), (15, (.int .i64 0)), (16, (Pt n27 0 0)), (17, (.bool false)), (33, (.bool true)), (71, (.bool false)), (84, (.bool false))] ⟨rfl, rfl, rfl, rfl, rfl, rfl, rfl, rfl, rfl, rfl, rfl, rfl, rfl, rfl, rfl, trivial⟩ (fun τr28 => ?_)
      refine RA.condF rfl ?_
      refine RA.seq hd ?_
      refine RA.seq hd ?_
      refine RA.region env_ok ?_
      refine OA.p (some 66) (.bool false) rfl rfl rfl rfl ?_
      refine OA.p (some 67) (.bool false) rfl rfl rfl rfl ?_
      refine OA.p (some 68) (.int .i64 0) rfl rfl rfl rfl ?_
      refine OA.p (some 69) (.bool false) rfl rfl rfl (r_bin rfl rfl rfl (b_neq rfl)) ?_
      refine OA.p (some 70) (.bool false) rfl rfl rfl rfl ?_
      refine OA.nil ?_
      intro _
      refine RA.condF rfl ?_
      refine RA.skip env_ok ?_
      intro _
      refine RA.exit env_ok ?_
      intro _
      refine RA.region env_ok ?_
      refine OA.p (some 34) (.int .i64 ((i : Nat) : Int)) rfl rfl rfl rfl ?_
      refine OA.p (some 35) (.int .i64 (((i + 1) : Nat) : Int)) rfl rfl rfl (r_bin rfl rfl rfl (b_add (i64_eq (by omega)))) ?_
      refine OA.p (some 11) (.int .i64 (((i + 1) : Nat) : Int)) rfl rfl rfl rfl ?_
      refine OA.nil ?_
      refine ⟨(ls.length - (i + 1)), by omega, [(b, some ⟨[(xRc216 nx la)], 6, 94, true⟩)], (Less.of (fac (mm (fun _ => get_here) (fun _ => (gt3 (by omega) get_here))) fan) (gone_of (by simp only [goneP, memP, List.cons_append, List.nil_append, true_or, or_true, true_and, and_true, or_false] <;> omega))), ⟨(i + 1), nx, now, la, rfl, by omega, ⟨rfl, rfl, rfl, rfl, rfl, rfl, trivial⟩, rfl, (kb1 (by omega)), ⟨by omega, by omega, by omega⟩⟩⟩
    ·
     refine OA.call (dst := (some 62)) (all := (xRc21 b nx z n8 now)) rfl rfl rfl rfl rfl rfl rfl rfl (CQ.imp (cAskN (hd.of (by omega) (kb3 (by omega))) b n8 (by omega) 0 0 0 0#32 ((nx + (BitVec.ofNat 32 (andN z 3))) - (1#32)) ((andN (z / 4) 7) + 1) now (by omega) (by omega) nx la hc3 (by omega) (gt2 (by omega) get_here) (get_there (by omega) get_here)) ?_)
     rintro _ n29 _ ⟨rfl, rfl⟩ hn29
     refine OA.app0 ?_
     refine OA.p (some 58) (.tuple ⟨[(.int .i64 0), (.agg ⟨xRc29⟩), (.bool false)]⟩) rfl rfl rfl rfl ?_
     refine OA.p (some 63) (.int .i64 0) rfl rfl rfl rfl ?_
     refine OA.p (some 64) (.agg ⟨xRc29⟩) rfl rfl rfl rfl ?_
     refine OA.p (some 65) (.bool false) rfl rfl rfl rfl ?_
     refine OA.op1 (dst := (some 16)) (v := (Pt n29 0 0)) (n1 := (n29 + 1)) (w := (n29, some ⟨[xRc29], 15, 53, true⟩)) rfl rfl rfl rfl (by omega) ?_
     refine OA.p (some 15) (.int .i64 0) rfl rfl rfl rfl ?_
     refine OA.op1 (dst := none) (v := (.tuple #[])) (n1 := (n29 + 1)) (w := (n29, some ⟨[xRc29], 15, 53, true⟩)) rfl rfl rfl (r_store rfl rfl rfl rfl rfl rfl rfl get_here rfl rfl (Nat.le_of_ble_eq_true rfl) rfl) (by omega) ?_
     refine OA.p (some 17) (.bool false) rfl rfl rfl rfl ?_
     refine OA.nil ?_
     intro _
     refine RA.weaken (D' := [(n29, some ⟨[xRc29], 15, 53, true⟩), ((n8 + 1), some ⟨[(xRc28 nx z n8)], 15, 53, true⟩), (n8, some ⟨[(xRc215 nx z)], 2, 35, true⟩), (b, some ⟨[(xRc216 nx la)], 6, 94, true⟩)]) hd (Less.of (fac (mm (fun _ => get_here) (fun _ => get_here)) (fac (mm (fun _ => (get_there (by omega) get_here)) (fun _ => (gt2 (by omega) get_here))) (fac (mm (fun _ => (gt2 (by omega) get_here)) (fun _ => (gt3 (by omega) get_here))) (fac (mm (fun _ => (gt3 (by omega) get_here)) (fun _ => (gt4 (by omega) get_here))) fan)))) (gone_of (by simp only [goneP, memP, List.cons_append, List.nil_append, true_or, or_true, true_and, and_true, or_false] <;> omega))) ?_
     refine RA.seq hd ?_
     refine RA.block ?_
     refine RA.seq hd ?_
     refine RA.region env_ok ?_
     refine OA.p (some 72) (W ((nx + (BitVec.ofNat 32 (andN z 3))) - (1#32))) rfl rfl rfl rfl ?_
     refine OA.p (some 73) (W nx) rfl rfl rfl rfl ?_
     refine OA.p (some 74) (.bool false) rfl rfl rfl (Eq.trans (r_bin rfl rfl rfl (b_eql rfl)) (dF hc3)) ?_
     refine OA.p (some 71) (.bool false) rfl rfl rfl rfl ?_
     refine OA.nil ?_
     intro _
     refine RA.condF rfl ?_
     refine RA.seq hd ?_
     refine RA.region env_ok ?_
     refine OA.p (some 85) (W ((nx + (BitVec.ofNat 32 (andN z 3))) - (1#32))) rfl rfl rfl rfl ?_
     refine OA.p (some 86) (W nx) rfl rfl rfl rfl ?_
     refine OA.p (some 87) (W (nx - (1#32))) rfl rfl rfl (r_bin rfl rfl rfl (b_subW nx (1#32))) ?_
     refine OA.p (some 88) (.bool false) rfl rfl rfl (Eq.trans (r_bin rfl rfl rfl (b_eql rfl)) (dF hc5)) ?_
     refine OA.p (some 89) (.bool false) rfl rfl rfl rfl ?_
     refine OA.off (dst := (some 90)) rfl rfl rfl ?_
     refine OA.off (dst := (some 91)) rfl rfl rfl ?_
     refine OA.p (some 92) (.bool false) rfl rfl rfl rfl ?_
     refine OA.p (some 84) (.bool false) rfl rfl rfl rfl ?_
     refine OA.nil ?_
     intro _
     refine RA.rebase [(1, lv), (7, (Pt b 0 0)), (8, (W nx)), (9, (.int .i64 ((now : Nat) : Int))), (10, (.int .i64 ((la : Nat) : Int))), (11, (.int .i64 ((i : Nat) : Int))), (12, (W ((nx + (BitVec.ofNat 32 (andN z 3))) - (1#32)))), (13, (.int .i64 ((((andN (z / 4) 7) + 1) : Nat) : Int))), (14, (.pointer (some ⟨(n8 + 1), 0, some 0⟩))), (15, (.int .i64 0)), (16, (Pt n29 0 0)), (17, (.bool false)), (33, (.bool true)), (71, (.bool false)), (84, (.bool false))] ⟨rfl, rfl, rfl, rfl, rfl, rfl, rfl, rfl, rfl, rfl, rfl, rfl, rfl, rfl, rfl, trivial⟩ (fun τr30 => ?_)
     refine RA.condF rfl ?_
     refine RA.seq hd ?_
     refine RA.seq hd ?_
     refine RA.region env_ok ?_
     refine OA.p (some 66) (.bool false) rfl rfl rfl rfl ?_
     refine OA.p (some 67) (.bool false) rfl rfl rfl rfl ?_
     refine OA.p (some 68) (.int .i64 0) rfl rfl rfl rfl ?_
     refine OA.p (some 69) (.bool false) rfl rfl rfl (r_bin rfl rfl rfl (b_neq rfl)) ?_
     refine OA.p (some 70) (.bool false) rfl rfl rfl rfl ?_
     refine OA.nil ?_
     intro _
     refine RA.condF rfl ?_
     refine RA.skip env_ok ?_
     intro _
     refine RA.exit env_ok ?_
     intro _
     refine RA.region env_ok ?_
     refine OA.p (some 34) (.int .i64 ((i : Nat) : Int)) rfl rfl rfl rfl ?_
     refine OA.p (some 35) (.int .i64 (((i + 1) : Nat) : Int)) rfl rfl rfl (r_bin rfl rfl rfl (b_add (i64_eq (by omega)))) ?_
     refine OA.p (some 11) (.int .i64 (((i + 1) : Nat) : Int)) rfl rfl rfl rfl ?_
     refine OA.nil ?_
     refine ⟨(ls.length - (i + 1)), by omega, [(b, some ⟨[(xRc216 nx la)], 6, 94, true⟩)], (Less.of (fac (mm (fun _ => get_here) (fun _ => (gt3 (by omega) get_here))) fan) (gone_of (by simp only [goneP, memP, List.cons_append, List.nil_append, true_or, or_true, true_and, and_true, or_false] <;> omega))), ⟨(i + 1), nx, now, la, rfl, by omega, ⟨rfl, rfl, rfl, rfl, rfl, rfl, trivial⟩, rfl, (kb1 (by omega)), ⟨by omega, by omega, by omega⟩⟩⟩
  ·
   refine OA.p (some 32) (.bool false) rfl rfl rfl (Eq.trans (r_bin rfl rfl rfl (b_lss rfl)) (dF hc2)) ?_
   refine OA.p (some 33) (.bool false) rfl rfl rfl rfl ?_
   refine OA.nil ?_
   intro _
   refine RA.condF rfl ?_
   refine RA.exit env_ok ?_
   intro _
   refine RA.seq hd ?_
   refine RA.region env_ok ?_
   refine OA.p (some 116) (.int .i64 ((now : Nat) : Int)) rfl rfl rfl rfl ?_
   refine OA.p (some 117) (.bool (decide (((now : Nat) : Int) ≤ 16))) rfl rfl rfl (r_bin rfl rfl rfl (b_leq rfl)) ?_
   refine OA.p (some 6) (.bool (decide (((now : Nat) : Int) ≤ 16))) rfl rfl rfl rfl ?_
   refine OA.nil ?_
   intro _
   refine RA.ret env_ok ?_
   refine ⟨.inr rfl, [(.bool (decide (((now : Nat) : Int) ≤ 16)))], (resL_cons rfl resL_nil), (by rw [one, decide_eq_true (by omega)]), (kc1 (by omega))⟩
 ·
  refine OA.p (some 29) (.bool false) rfl rfl rfl (Eq.trans (r_bin rfl rfl rfl (b_lss rfl)) (dF hc1)) ?_
  refine OA.p (some 30) (.bool false) rfl rfl rfl rfl ?_
  refine OA.off (dst := (some 31)) rfl rfl rfl ?_
  refine OA.off (dst := (some 32)) rfl rfl rfl ?_
  refine OA.p (some 33) (.bool false) rfl rfl rfl rfl ?_
  refine OA.nil ?_
  intro _
  refine RA.condF rfl ?_
  refine RA.exit env_ok ?_
  intro _
  refine RA.seq hd ?_
  refine RA.region env_ok ?_
  refine OA.p (some 116) (.int .i64 ((now : Nat) : Int)) rfl rfl rfl rfl ?_
  refine OA.p (some 117) (.bool (decide (((now : Nat) : Int) ≤ 16))) rfl rfl rfl (r_bin rfl rfl rfl (b_leq rfl)) ?_
  refine OA.p (some 6) (.bool (decide (((now : Nat) : Int) ≤ 16))) rfl rfl rfl rfl ?_
  refine OA.nil ?_
  intro _
  refine RA.ret env_ok ?_
  refine ⟨.inr rfl, [(.bool (decide (((now : Nat) : Int) ≤ 16)))], (resL_cons rfl resL_nil), (by rw [one, decide_eq_true (by omega)]), (kc1 (by omega))⟩
end Go.Proofs.Ytgajcmanompmcaa.Vt
