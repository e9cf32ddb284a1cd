/- Ac5: walks through functions of the program, by the calculus; written by a program of this workplace. -/
import Derived.Test.YtgajcmanompmcaaAc3
import Derived.Test.YtgajcmanompmcaaVm6
namespace Go.Proofs.Ytgajcmanompmcaa.Vt
open Go Go.Proofs Go.Proofs.YtgajcmanompmcaaV
set_option maxRecDepth 100000
set_option linter.unusedVariables false
set_option linter.unusedSimpArgs false
abbrev xAc51 (nx : BitVec 32) (x : BitVec 32) (n4 : Nat) : List Value := [(W (nx + (1#32))), (.int .i64 128), (.int .i64 0), (W x), (.int .i64 0), (.int .i64 0), (.int .u32 0), (.string ByteArray.empty), (.int .u32 0), (.int .u32 0), (.int .i64 0), (.int .i64 0), (.slice (some ⟨(n4 + 1), 0, none⟩) 1 0), (.slice none 0 0), (.slice none 0 0), (.slice none 0 0), (.bool true)]
abbrev xAc52 (nx : BitVec 32) (x : BitVec 32) (n5 : Nat) : List Value := [(W (nx + (1#32))), (.int .i64 128), (.int .i64 0), (W x), (.int .i64 0), (.int .i64 0), (.int .u32 0), (.string ByteArray.empty), (.int .u32 0), (.int .u32 0), (.int .i64 0), (.int .i64 0), (.slice (some ⟨(n5 + 1), 0, none⟩) 1 0), (.slice none 0 0), (.slice none 0 0), (.slice none 0 0), (.bool true)]
abbrev xAc53 (nx : BitVec 32) (x : BitVec 32) (n4 : Nat) : List Value := [(W nx), (.int .i64 128), (.int .i64 0), (W x), (.int .i64 0), (.int .i64 0), (.int .u32 0), (.string ByteArray.empty), (.int .u32 0), (.int .u32 0), (.int .i64 0), (.int .i64 0), (.slice (some ⟨(n4 + 1), 0, none⟩) 1 0), (.slice none 0 0), (.slice none 0 0), (.slice none 0 0), (.bool true)]
abbrev xAc54 (nx : BitVec 32) (x : BitVec 32) (n5 : Nat) : List Value := [(W nx), (.int .i64 128), (.int .i64 0), (W x), (.int .i64 0), (.int .i64 0), (.int .u32 0), (.string ByteArray.empty), (.int .u32 0), (.int .u32 0), (.int .i64 0), (.int .i64 0), (.slice (some ⟨(n5 + 1), 0, none⟩) 1 0), (.slice none 0 0), (.slice none 0 0), (.slice none 0 0), (.bool true)]
abbrev xAc55 (nx : BitVec 32) (lt : BitVec 32) (ka : Nat) : List Value := [(W nx), (.int .i64 128), (.int .i64 0), (W lt), (.int .i64 0), (.int .i64 0), (.int .u32 0), (.string ByteArray.empty), (.int .u32 0), (.int .u32 0), (.int .i64 0), (.int .i64 0), (.slice (some ⟨ka, 0, none⟩) 1 0), (.slice none 0 0), (.slice none 0 0), (.slice none 0 0), (.bool true)]
abbrev xAc56 (nx : BitVec 32) : List Value := [(W nx), (.int .i64 0), (.int .i64 0), (.int .u32 0), (.int .i64 0), (.int .i64 0), (.int .u32 0), (.string ByteArray.empty), (.int .u32 0), (.int .u32 0), (.int .i64 0), (.int .i64 0), (.slice none 0 0), (.slice none 0 0), (.slice none 0 0), (.slice none 0 0), (.bool false)]
abbrev xAc57 (x : BitVec 32) : List Value := [(W x), (.int .i64 0), (.int .i64 0), (.int .u32 0), (.int .i64 0), (.int .i64 0), (.int .u32 0), (.string ByteArray.empty), (.int .u32 0), (.int .u32 0), (.int .i64 0), (.int .i64 0), (.slice none 0 0), (.slice none 0 0), (.slice none 0 0), (.slice none 0 0), (.bool false)]
abbrev xAc58 (x : BitVec 32) (n4 : Nat) : List Value := [(.int .i64 128), (.int .i64 0), (W x), (.int .i64 0), (.int .i64 0), (.int .u32 0), (.string ByteArray.empty), (.int .u32 0), (.int .u32 0), (.int .i64 0), (.int .i64 0), (.slice (some ⟨(n4 + 1), 0, none⟩) 1 0), (.slice none 0 0), (.slice none 0 0), (.slice none 0 0)]
abbrev xAc59 (x : BitVec 32) (n5 : Nat) : List Value := [(.int .i64 128), (.int .i64 0), (W x), (.int .i64 0), (.int .i64 0), (.int .u32 0), (.string ByteArray.empty), (.int .u32 0), (.int .u32 0), (.int .i64 0), (.int .i64 0), (.slice (some ⟨(n5 + 1), 0, none⟩) 1 0), (.slice none 0 0), (.slice none 0 0), (.slice none 0 0)]
abbrev xAc510 (lt : BitVec 32) (ka : Nat) : List Value := [(.int .i64 128), (.int .i64 0), (W lt), (.int .i64 0), (.int .i64 0), (.int .u32 0), (.string ByteArray.empty), (.int .u32 0), (.int .u32 0), (.int .i64 0), (.int .i64 0), (.slice (some ⟨ka, 0, none⟩) 1 0), (.slice none 0 0), (.slice none 0 0), (.slice none 0 0)]
abbrev xAc511 (x : BitVec 32) (k1 : Nat) : List Value := [(.int .i64 128), (.int .i64 0), (W x), (.int .i64 0), (.int .i64 0), (.int .u32 0), (.string ByteArray.empty), (.int .u32 0), (.int .u32 0), (.int .i64 0), (.int .i64 0), (.slice (some ⟨k1, 0, none⟩) 1 0), (.slice none 0 0), (.slice none 0 0), (.slice none 0 0)]
abbrev xAc512 (x : BitVec 32) (k2 : Nat) : List Value := [(.int .i64 128), (.int .i64 0), (W x), (.int .i64 0), (.int .i64 0), (.int .u32 0), (.string ByteArray.empty), (.int .u32 0), (.int .u32 0), (.int .i64 0), (.int .i64 0), (.slice (some ⟨k2, 0, none⟩) 1 0), (.slice none 0 0), (.slice none 0 0), (.slice none 0 0)]
abbrev xAc513 (x : BitVec 32) (k : Nat) : List Value := [(.int .i64 193), (.int .i64 0), (W x), (.int .i64 0), (.int .i64 0), (.int .u32 0), (.string ByteArray.empty), (.int .u32 0), (.int .u32 0), (.int .i64 0), (.int .i64 0), (.slice (some ⟨k, 0, none⟩) 3 0), (.slice none 0 0), (.slice none 0 0), (.slice none 0 0)]
abbrev xAc514 : List Value := [(.int .i64 0), (.int .i64 0), (.int .u32 0), (.int .i64 0), (.int .i64 0), (.int .u32 0), (.string ByteArray.empty), (.int .u32 0), (.int .u32 0), (.int .i64 0), (.int .i64 0), (.slice none 0 0), (.slice none 0 0), (.slice none 0 0), (.slice none 0 0)]
abbrev xAc515 (x : BitVec 32) : List Value := [(.int .i64 128), (.int .i64 0), (W x), (.int .i64 0), (.int .i64 0), (.int .u32 0), (.string ByteArray.empty), (.int .u32 0), (.int .u32 0), (.int .i64 0), (.int .i64 0), (.slice none 0 0), (.slice none 0 0), (.slice none 0 0), (.slice none 0 0)]
theorem aGive491540F {n : Nat} {σ : Store} (hd : Dom n σ) (x nx  : BitVec 32) (b k j  : Nat)  (hb : σ b = some ⟨[[(W nx), (.int .i64 0), (.int .i64 0), (.int .u32 0), (.int .i64 0), (.int .i64 0), (.int .u32 0), (.string ByteArray.empty), (.int .u32 0), (.int .u32 0), (.int .i64 0), (.int .i64 0), (.slice none 0 0), (.slice none 0 0), (.slice none 0 0), (.slice none 0 0), (.bool false)]], 17, 103, true⟩) (hk : σ k = some ⟨[[(.int .i64 5), (.string (bstr (be4 0#32)))], [(.int .i64 49154), (.string (bstr (be4 x ++ (be2 5 ++ (be2 8 ++ (be4 0#32 ++ []))))))], [(.int .i64 49160), (.string (bstr ((be4 x ++ be4 3#32) ++ be4 4#32)))]], 2, 35, true⟩) (hj : σ j = some ⟨[[(.int .i64 0)]], 1, 3, true⟩)  : CQ Try.prog noDen 41 [(Pt b 0 0), (.agg ⟨[(.int .i64 193), (.int .i64 0), (W x), (.int .i64 0), (.int .i64 0), (.int .u32 0), (.string ByteArray.empty), (.int .u32 0), (.int .u32 0), (.int .i64 0), (.int .i64 0), (.slice (some ⟨k, 0, none⟩) 3 0), (.slice none 0 0), (.slice none 0 0), (.slice none 0 0)]⟩), (.slice (some ⟨j, 0, none⟩) 1 0)] n σ (fun v n' d => ∃ i, n ≤ i ∧ i < n' ∧ v = (.agg ⟨[(.int .i64 128), (.int .i64 0), (W x), (.int .i64 0), (.int .i64 0), (.int .u32 0), (.string ByteArray.empty), (.int .u32 0), (.int .u32 0), (.int .i64 0), (.int .i64 0), (.slice (some ⟨i, 0, none⟩) 1 0), (.slice none 0 0), (.slice none 0 0), (.slice none 0 0)]⟩) ∧ d = [(b, some ⟨[[(W (nx + 1#32)), (.int .i64 128), (.int .i64 0), (W x), (.int .i64 0), (.int .i64 0), (.int .u32 0), (.string ByteArray.empty), (.int .u32 0), (.int .u32 0), (.int .i64 0), (.int .i64 0), (.slice (some ⟨i, 0, none⟩) 1 0), (.slice none 0 0), (.slice none 0 0), (.slice none 0 0), (.bool true)]], 17, 103, true⟩), (i, some ⟨[[(.int .i64 49157), (.string (bstr (be4 x)))]], 2, 35, true⟩)]) := by
 have lhb := hd.lt hb
 have lhk := hd.lt hk
 have lhj := hd.lt hj
 refine CQ.body (E := env) env_ok hd rfl rfl (by show _ ≤ _; exact of_decide_eq_true (by kernel_rfl)) ?_
 refine RA.seq hd ?_
 refine RA.region env_ok ?_
 refine OA.op1 (dst := (some 4)) (v := (Pt n 0 0)) (n1 := (n + 1)) (w := (n, some ⟨[(xAc513 x k)], 15, 53, true⟩)) rfl rfl rfl rfl (by omega) ?_
 refine OA.op1 (dst := (some 6)) (v := (.pointer (some ⟨(n + 1), 0, some 0⟩))) (n1 := (n + 2)) (w := ((n + 1), some ⟨[xAc514], 15, 53, true⟩)) rfl rfl rfl rfl (by omega) ?_
 refine OA.nil ?_
 intro _
 refine RA.seq hd ?_
 refine RA.seq hd ?_
 refine RA.region env_ok ?_
 refine OA.p (some 14) (Pt b 0 0) rfl rfl rfl rfl ?_
 refine OA.p (some 15) (.bool false) rfl rfl rfl rfl ?_
 refine OA.nil ?_
 intro _
 refine RA.condF rfl ?_
 refine RA.skip env_ok ?_
 intro _
 refine RA.seq hd ?_
 refine RA.region env_ok ?_
 refine OA.p (some 17) (Pt n 0 2) rfl rfl rfl rfl ?_
 refine OA.p (some 18) (W x) rfl rfl rfl (r_load1 rfl rfl rfl rfl rfl (get_there (by omega) get_here) rfl rfl) ?_
 refine OA.p (some 19) (.agg ⟨(xAc515 x)⟩) rfl rfl rfl (by kernel_rfl) ?_
 refine OA.op1 (dst := (some 7)) (v := (.pointer (some ⟨(n + 2), 0, some 0⟩))) (n1 := (n + 3)) (w := ((n + 2), some ⟨[xAc514], 15, 53, true⟩)) rfl rfl rfl rfl (by omega) ?_
 refine OA.op1 (dst := none) (v := (.tuple #[])) (n1 := (n + 3)) (w := ((n + 2), some ⟨[(xAc515 x)], 15, 53, true⟩)) rfl rfl rfl (r_store rfl rfl rfl rfl rfl rfl rfl get_here rfl rfl (Nat.le_of_ble_eq_true rfl) rfl) (by omega) ?_
 refine OA.nil ?_
 intro _
 refine RA.weaken (D' := [((n + 2), some ⟨[(xAc515 x)], 15, 53, true⟩), ((n + 1), some ⟨[xAc514], 15, 53, true⟩), (n, some ⟨[(xAc513 x k)], 15, 53, true⟩)]) hd (Less.of (fac (mm (fun _ => get_here) (fun _ => get_here)) (fac (mm (fun _ => (get_there (by omega) get_here)) (fun _ => (gt2 (by omega) get_here))) (fac (mm (fun _ => (gt2 (by omega) get_here)) (fun _ => (gt3 (by omega) get_here))) fan))) (gone_of (by simp only [goneP, memP, List.cons_append, List.nil_append, true_or, or_true, true_and, and_true, or_false] <;> omega))) ?_
 refine RA.seq hd ?_
 refine RA.seq hd ?_
 refine RA.region env_ok ?_
 refine OA.p (some 20) (.agg ⟨(xAc513 x k)⟩) rfl rfl rfl (r_loadA rfl rfl rfl rfl (gt2 (by omega) get_here) rfl rfl rfl) ?_
 refine OA.call (dst := (some 21)) (all := [(.agg ⟨(xAc513 x k)⟩)]) rfl rfl rfl rfl rfl rfl rfl rfl (CQ.imp (aAsked49154 (hd.of (by omega) (kb3 (by omega))) x k (gt3 (by omega) hk)) ?_)
 rintro _ n1 _ ⟨in1, p1n1, p2n1, rfl, rfl⟩ hn1
 refine OA.app1 ?_
 refine OA.p (some 22) (.int .i64 1) rfl rfl rfl rfl ?_
 refine OA.p (some 23) (.int .i64 0) rfl rfl rfl rfl ?_
 refine OA.nil ?_
 intro _
 refine RA.block ?_
 refine RA.unroll hd ?_
 refine RA.seq hd ?_
 refine RA.region env_ok ?_
 refine OA.p (some 24) (.bool true) rfl rfl rfl (r_bin rfl rfl rfl (b_lss rfl)) ?_
 refine OA.nil ?_
 intro _
 refine RA.seq hd ?_
 refine RA.condT rfl ?_
 refine RA.skip env_ok ?_
 intro _
 refine RA.seq hd ?_
 refine RA.block ?_
 refine RA.seq hd ?_
 refine RA.region env_ok ?_
 refine OA.p (some 25) (.int .i64 0) rfl rfl rfl rfl ?_
 refine OA.p (some 26) (Pt in1 0 0) rfl rfl rfl (r_iaS (l := 0) rfl rfl rfl rfl rfl rfl (by omega) (by omega) get_here rfl (by omega)) ?_
 refine OA.p (some 27) (.agg ⟨[(.int .i64 49154), (.string (bstr (be4 x ++ (be2 5 ++ (be2 8 ++ (be4 0#32 ++ []))))))]⟩) rfl rfl rfl (r_loadA rfl rfl rfl rfl get_here rfl rfl rfl) ?_
 refine OA.op1 (dst := (some 9)) (v := (Pt n1 0 0)) (n1 := (n1 + 1)) (w := (n1, some ⟨[[(.int .i64 0), (.string ByteArray.empty)]], 2, 35, true⟩)) rfl rfl rfl rfl (by omega) ?_
 refine OA.p (some 8) (.int .i64 0) rfl rfl rfl rfl ?_
 refine OA.op1 (dst := none) (v := (.tuple #[])) (n1 := (n1 + 1)) (w := (n1, some ⟨[[(.int .i64 49154), (.string (bstr (be4 x ++ (be2 5 ++ (be2 8 ++ (be4 0#32 ++ []))))))]], 2, 35, true⟩)) rfl rfl rfl (r_store rfl rfl rfl rfl rfl rfl rfl get_here rfl rfl (Nat.le_of_ble_eq_true rfl) rfl) (by omega) ?_
 refine OA.nil ?_
 intro _
 refine RA.weaken (D' := [(n1, some ⟨[[(.int .i64 49154), (.string (bstr (be4 x ++ (be2 5 ++ (be2 8 ++ (be4 0#32 ++ []))))))]], 2, 35, true⟩), (in1, some ⟨[[(.int .i64 49154), (.string (bstr (be4 x ++ (be2 5 ++ (be2 8 ++ (be4 0#32 ++ []))))))]], 2, 35, true⟩), ((n + 2), some ⟨[(xAc515 x)], 15, 53, true⟩), ((n + 1), some ⟨[xAc514], 15, 53, true⟩), (n, some ⟨[(xAc513 x k)], 15, 53, true⟩)]) hd (Less.of (fac (mm (fun _ => get_here) (fun _ => get_here)) (fac (mm (fun _ => (get_there (by omega) get_here)) (fun _ => (gt2 (by omega) get_here))) (fac (mm (fun _ => (gt2 (by omega) get_here)) (fun _ => (gt3 (by omega) get_here))) (fac (mm (fun _ => (gt3 (by omega) get_here)) (fun _ => (gt4 (by omega) get_here))) (fac (mm (fun _ => (gt4 (by omega) get_here)) (fun _ => (gt5 (by omega) get_here))) fan))))) (gone_of (by simp only [goneP, memP, List.cons_append, List.nil_append, true_or, or_true, true_and, and_true, or_false] <;> omega))) ?_
 refine RA.seq hd ?_
 refine RA.region env_ok ?_
 refine OA.p (some 29) (.agg ⟨[(.int .i64 49154), (.string (bstr (be4 x ++ (be2 5 ++ (be2 8 ++ (be4 0#32 ++ []))))))]⟩) rfl rfl rfl (r_loadA rfl rfl rfl rfl get_here rfl rfl rfl) ?_
 refine OA.callP (dst := (some 30)) (all := [(.agg ⟨[(.int .i64 49154), (.string (bstr (be4 x ++ (be2 5 ++ (be2 8 ++ (be4 0#32 ++ []))))))]⟩)]) (v := (.tuple ⟨[(W x), (W 0#32), (.bool true)]⟩)) (hd.of (by omega) (kb5 (by omega))) rfl rfl rfl rfl rfl rfl rfl rfl (cReq49154 x) ?_
 intro n2 hn2
 refine OA.p (some 28) (.tuple ⟨[(W x), (W 0#32), (.bool true)]⟩) rfl rfl rfl rfl ?_
 refine OA.p (some 31) (W x) rfl rfl rfl rfl ?_
 refine OA.p (some 32) (W 0#32) rfl rfl rfl rfl ?_
 refine OA.p (some 33) (.bool true) rfl rfl rfl rfl ?_
 refine OA.p (some 10) (W x) rfl rfl rfl rfl ?_
 refine OA.p (some 11) (W 0#32) rfl rfl rfl rfl ?_
 refine OA.p (some 12) (.bool true) rfl rfl rfl rfl ?_
 refine OA.nil ?_
 intro _
 refine RA.rebase [(0, (Pt b 0 0)), (1, (.agg ⟨(xAc513 x k)⟩)), (2, (.slice (some ⟨j, 0, none⟩) 1 0)), (4, (Pt n 0 0)), (6, (.pointer (some ⟨(n + 1), 0, some 0⟩))), (7, (.pointer (some ⟨(n + 2), 0, some 0⟩))), (8, (.int .i64 0)), (9, (Pt n1 0 0)), (10, (W x)), (15, (.bool false)), (21, (.slice (some ⟨in1, 0, none⟩) 1 0)), (22, (.int .i64 1)), (23, (.int .i64 0)), (24, (.bool true))] ⟨rfl, rfl, rfl, rfl, rfl, rfl, rfl, rfl, rfl, rfl, rfl, rfl, rfl, rfl, trivial⟩ (fun τr3 => ?_)
 refine RA.seq hd ?_
 refine RA.region env_ok ?_
 refine OA.p (some 13) (.string (ByteArray.mk #[])) rfl rfl rfl rfl ?_
 refine OA.nil ?_
 intro _
 refine RA.seq hd ?_
 refine RA.seq hd ?_
 refine RA.region env_ok ?_
 refine OA.p (some 34) (.int .i64 0) rfl rfl rfl rfl ?_
 refine OA.p (some 35) (.slice (some ⟨j, 0, none⟩) 1 0) rfl rfl rfl rfl ?_
 refine OA.p (some 36) (.int .i64 1) rfl rfl rfl rfl ?_
 refine OA.p (some 37) (.bool true) rfl rfl rfl (r_bin rfl rfl rfl (b_lss rfl)) ?_
 refine OA.p (some 38) (.bool true) rfl rfl rfl rfl ?_
 refine OA.p (some 39) (.slice (some ⟨j, 0, none⟩) 1 0) rfl rfl rfl rfl ?_
 refine OA.p (some 40) (.int .i64 0) rfl rfl rfl rfl ?_
 refine OA.p (some 41) (Pt j 0 0) rfl rfl rfl (r_iaS (l := 0) rfl rfl rfl rfl rfl rfl (by omega) (by omega) (gt5 (by omega) hj) rfl (by omega)) ?_
 refine OA.p (some 42) (.int .i64 0) rfl rfl rfl (r_load1 rfl rfl rfl rfl rfl (gt5 (by omega) hj) rfl rfl) ?_
 refine OA.p (some 43) (.bool false) rfl rfl rfl (r_bin rfl rfl rfl (b_neq rfl)) ?_
 refine OA.p (some 44) (.bool false) rfl rfl rfl rfl ?_
 refine OA.nil ?_
 intro _
 refine RA.condF rfl ?_
 refine RA.skip env_ok ?_
 intro _
 refine RA.par (md := [some [], some [(n + 2)], some [], some [], none, some [], none, some [], none]) env_ok (hd.of (by omega) (kb5 (by omega))) (by kernel_rfl) ?_
 refine PQ.pure (dst := (some 51)) (v := (.pointer (some ⟨(n + 2), 0, some 11⟩))) rfl rfl rfl noStore (none_ok _ _) rfl ?_
 refine PQ.pure (dst := (some 52)) (v := (.slice none 0 0)) rfl rfl rfl (app [((n + 2), some ⟨[(xAc515 x)], 15, 53, true⟩)] noStore) (seen_one (V := []) (D := [(n1, some ⟨[[(.int .i64 49154), (.string (bstr (be4 x ++ (be2 5 ++ (be2 8 ++ (be4 0#32 ++ []))))))]], 2, 35, true⟩), (in1, some ⟨[[(.int .i64 49154), (.string (bstr (be4 x ++ (be2 5 ++ (be2 8 ++ (be4 0#32 ++ []))))))]], 2, 35, true⟩), ((n + 2), some ⟨[(xAc515 x)], 15, 53, true⟩), ((n + 1), some ⟨[xAc514], 15, 53, true⟩), (n, some ⟨[(xAc513 x k)], 15, 53, true⟩)]) (by kernel_rfl) (gt2 (by omega) get_here)) (r_load1 rfl rfl rfl rfl rfl get_here rfl rfl) ?_
 refine PQ.pure (dst := (some 53)) (v := (W x)) rfl rfl rfl noStore (none_ok _ _) rfl ?_
 refine PQ.pure (dst := (some 54)) (v := (.string (ByteArray.mk #[]))) rfl rfl rfl noStore (none_ok _ _) rfl ?_
 refine PQ.callP (dst := (some 55)) (all := [(W x), (.string (ByteArray.mk #[]))]) (v := (.agg ⟨[(.int .i64 49157), (.string (bstr (be4 x)))]⟩)) _ (hd.of (by omega) (kb5 (by omega))) rfl rfl rfl rfl rfl rfl rfl rfl (seen_any (V := []) (D := [(n1, some ⟨[[(.int .i64 49154), (.string (bstr (be4 x ++ (be2 5 ++ (be2 8 ++ (be4 0#32 ++ []))))))]], 2, 35, true⟩), (in1, some ⟨[[(.int .i64 49154), (.string (bstr (be4 x ++ (be2 5 ++ (be2 8 ++ (be4 0#32 ++ []))))))]], 2, 35, true⟩), ((n + 2), some ⟨[(xAc515 x)], 15, 53, true⟩), ((n + 1), some ⟨[xAc514], 15, 53, true⟩), (n, some ⟨[(xAc513 x k)], 15, 53, true⟩)]) (by kernel_rfl)) (aAns0 x) ?_
 intro n4 hn4
 refine PQ.op (dst := (some 56)) (v := (.slice (some ⟨n4, 0, none⟩) 1 0)) (n1 := (n4 + 1)) (d1 := [(n4, some ⟨[[(.int .i64 49157), (.string (bstr (be4 x)))]], 2, 35, true⟩)]) rfl rfl rfl noStore (none_ok _ _) (by kernel_rfl) (by omega) (kp1 (wr_new (by omega) (by omega))) ?_
 refine PQ.op (dst := (some 57)) (v := (.slice (some ⟨(n4 + 1), 0, none⟩) 1 0)) (n1 := (n4 + 2)) (d1 := [((n4 + 1), some ⟨[[(.int .i64 49157), (.string (bstr (be4 x)))]], 2, 35, true⟩)]) rfl rfl rfl _ (seen_any (V := [(n4, some ⟨[[(.int .i64 49157), (.string (bstr (be4 x)))]], 2, 35, true⟩)]) (D := [(n1, some ⟨[[(.int .i64 49154), (.string (bstr (be4 x ++ (be2 5 ++ (be2 8 ++ (be4 0#32 ++ []))))))]], 2, 35, true⟩), (in1, some ⟨[[(.int .i64 49154), (.string (bstr (be4 x ++ (be2 5 ++ (be2 8 ++ (be4 0#32 ++ []))))))]], 2, 35, true⟩), ((n + 2), some ⟨[(xAc515 x)], 15, 53, true⟩), ((n + 1), some ⟨[xAc514], 15, 53, true⟩), (n, some ⟨[(xAc513 x k)], 15, 53, true⟩)]) (by kernel_rfl)) (r_append0 rfl rfl rfl rfl rfl rfl rfl rfl rfl rfl (by decide) get_here (of_decide_eq_true (by kernel_rfl))) (by omega) (kp1 (wr_new (by omega) (by omega))) ?_
 refine PQ.pure (dst := (some 58)) (v := (.pointer (some ⟨(n + 2), 0, some 11⟩))) rfl rfl rfl noStore (none_ok _ _) rfl ?_
 refine PQ.op (dst := none) (v := (.tuple #[])) (n1 := (n4 + 2)) (d1 := [((n + 2), some ⟨[(xAc58 x n4)], 15, 53, true⟩)]) rfl rfl rfl _ (seen_any (V := [((n4 + 1), some ⟨[[(.int .i64 49157), (.string (bstr (be4 x)))]], 2, 35, true⟩), (n4, some ⟨[[(.int .i64 49157), (.string (bstr (be4 x)))]], 2, 35, true⟩)]) (D := [(n1, some ⟨[[(.int .i64 49154), (.string (bstr (be4 x ++ (be2 5 ++ (be2 8 ++ (be4 0#32 ++ []))))))]], 2, 35, true⟩), (in1, some ⟨[[(.int .i64 49154), (.string (bstr (be4 x ++ (be2 5 ++ (be2 8 ++ (be4 0#32 ++ []))))))]], 2, 35, true⟩), ((n + 2), some ⟨[(xAc515 x)], 15, 53, true⟩), ((n + 1), some ⟨[xAc514], 15, 53, true⟩), (n, some ⟨[(xAc513 x k)], 15, 53, true⟩)]) (by kernel_rfl)) (r_store rfl rfl rfl rfl rfl rfl rfl (gt4 (by omega) get_here) rfl rfl (Nat.le_of_ble_eq_true rfl) rfl) (by omega) (kp1 (wr_tight (by kernel_rfl) (by omega))) ?_
 refine PQ.done (d := [((n + 2), some ⟨[(xAc58 x n4)], 15, 53, true⟩), ((n4 + 1), some ⟨[[(.int .i64 49157), (.string (bstr (be4 x)))]], 2, 35, true⟩), (n4, some ⟨[[(.int .i64 49157), (.string (bstr (be4 x)))]], 2, 35, true⟩)]) (by kernel_rfl) ?_
 intro _
 refine RA.weaken (D' := [((n + 2), some ⟨[(xAc58 x n4)], 15, 53, true⟩), ((n4 + 1), some ⟨[[(.int .i64 49157), (.string (bstr (be4 x)))]], 2, 35, true⟩), (n4, some ⟨[[(.int .i64 49157), (.string (bstr (be4 x)))]], 2, 35, true⟩), (n1, some ⟨[[(.int .i64 49154), (.string (bstr (be4 x ++ (be2 5 ++ (be2 8 ++ (be4 0#32 ++ []))))))]], 2, 35, true⟩), (in1, some ⟨[[(.int .i64 49154), (.string (bstr (be4 x ++ (be2 5 ++ (be2 8 ++ (be4 0#32 ++ []))))))]], 2, 35, true⟩), ((n + 1), some ⟨[xAc514], 15, 53, true⟩), (n, some ⟨[(xAc513 x k)], 15, 53, true⟩)]) hd (Less.of (fac (mm (fun _ => get_here) (fun _ => get_here)) (fac (mm (fun _ => (get_there (by omega) get_here)) (fun _ => (get_there (by omega) get_here))) (fac (mm (fun _ => (gt2 (by omega) get_here)) (fun _ => (gt2 (by omega) get_here))) (fac (mm (fun _ => (gt3 (by omega) get_here)) (fun _ => (gt3 (by omega) get_here))) (fac (mm (fun _ => (gt4 (by omega) get_here)) (fun _ => (gt4 (by omega) get_here))) (fac (mm (fun _ => (gt5 (by omega) get_here)) (fun _ => (gt6 (by omega) get_here))) (fac (mm (fun _ => (gt6 (by omega) get_here)) (fun _ => (gt7 (by omega) get_here))) fan))))))) (gone_of (by simp only [goneP, memP, List.cons_append, List.nil_append, true_or, or_true, true_and, and_true, or_false] <;> omega))) ?_
 refine RA.region env_ok ?_
 refine OA.p (some 59) (.int .i64 1) rfl rfl rfl (r_bin rfl rfl rfl (b_add (i64_eq (by omega)))) ?_
 refine OA.p (some 23) (.int .i64 1) rfl rfl rfl rfl ?_
 refine OA.nil ?_
 intro _
 refine RA.unroll hd ?_
 refine RA.seq hd ?_
 refine RA.region env_ok ?_
 refine OA.p (some 24) (.bool false) rfl rfl rfl (r_bin rfl rfl rfl (b_lss rfl)) ?_
 refine OA.nil ?_
 intro _
 refine RA.seq hd ?_
 refine RA.condF rfl ?_
 refine RA.exit env_ok ?_
 intro _
 refine RA.seq hd ?_
 refine RA.region env_ok ?_
 refine OA.p (some 60) (Pt b 0 0) rfl rfl rfl rfl ?_
 refine OA.p (some 61) (Pt b 0 0) rfl rfl rfl rfl ?_
 refine OA.p (some 62) (.agg ⟨(xAc58 x n4)⟩) rfl rfl rfl (r_loadA rfl rfl rfl rfl get_here rfl rfl rfl) ?_
 refine OA.p (some 63) (Pt b 0 0) rfl rfl rfl rfl ?_
 refine OA.p (some 64) (Pt b 0 1) rfl rfl rfl rfl ?_
 refine OA.op1 (dst := none) (v := (.tuple #[])) (n1 := (n4 + 2)) (w := (b, some ⟨[[(W nx), (.int .i64 128), (.int .i64 0), (W x), (.int .i64 0), (.int .i64 0), (.int .u32 0), (.string ByteArray.empty), (.int .u32 0), (.int .u32 0), (.int .i64 0), (.int .i64 0), (.slice (some ⟨(n4 + 1), 0, none⟩) 1 0), (.slice none 0 0), (.slice none 0 0), (.slice none 0 0), (.bool false)]], 17, 103, true⟩)) rfl rfl rfl (r_store rfl rfl rfl rfl rfl rfl rfl (gt7 (by omega) hb) rfl rfl (Nat.le_of_ble_eq_true rfl) rfl) (by omega) ?_
 refine OA.p (some 65) (Pt b 0 0) rfl rfl rfl rfl ?_
 refine OA.p (some 66) (Pt b 0 16) rfl rfl rfl rfl ?_
 refine OA.op1 (dst := none) (v := (.tuple #[])) (n1 := (n4 + 2)) (w := (b, some ⟨[(xAc53 nx x n4)], 17, 103, true⟩)) rfl rfl rfl (r_store rfl rfl rfl rfl rfl rfl rfl get_here rfl rfl (Nat.le_of_ble_eq_true rfl) rfl) (by omega) ?_
 refine OA.nil ?_
 intro _
 refine RA.weaken (D' := [(b, some ⟨[(xAc53 nx x n4)], 17, 103, true⟩), ((n + 2), some ⟨[(xAc58 x n4)], 15, 53, true⟩), ((n4 + 1), some ⟨[[(.int .i64 49157), (.string (bstr (be4 x)))]], 2, 35, true⟩), (n4, some ⟨[[(.int .i64 49157), (.string (bstr (be4 x)))]], 2, 35, true⟩), (n1, some ⟨[[(.int .i64 49154), (.string (bstr (be4 x ++ (be2 5 ++ (be2 8 ++ (be4 0#32 ++ []))))))]], 2, 35, true⟩), (in1, some ⟨[[(.int .i64 49154), (.string (bstr (be4 x ++ (be2 5 ++ (be2 8 ++ (be4 0#32 ++ []))))))]], 2, 35, true⟩), ((n + 1), some ⟨[xAc514], 15, 53, true⟩), (n, some ⟨[(xAc513 x k)], 15, 53, true⟩)]) hd (Less.of (fac (mm (fun _ => get_here) (fun _ => get_here)) (fac (mm (fun _ => (get_there (by omega) get_here)) (fun _ => (gt2 (by omega) get_here))) (fac (mm (fun _ => (gt2 (by omega) get_here)) (fun _ => (gt3 (by omega) get_here))) (fac (mm (fun _ => (gt3 (by omega) get_here)) (fun _ => (gt4 (by omega) get_here))) (fac (mm (fun _ => (gt4 (by omega) get_here)) (fun _ => (gt5 (by omega) get_here))) (fac (mm (fun _ => (gt5 (by omega) get_here)) (fun _ => (gt6 (by omega) get_here))) (fac (mm (fun _ => (gt6 (by omega) get_here)) (fun _ => (gt7 (by omega) get_here))) (fac (mm (fun _ => (gt7 (by omega) get_here)) (fun _ => (gt8 (by omega) get_here))) fan)))))))) (gone_of (by simp only [goneP, memP, List.cons_append, List.nil_append, true_or, or_true, true_and, and_true, or_false] <;> omega))) ?_
 refine RA.rebase [(0, (Pt b 0 0)), (1, (.agg ⟨(xAc513 x k)⟩)), (2, (.slice (some ⟨j, 0, none⟩) 1 0)), (4, (Pt n 0 0)), (6, (.pointer (some ⟨(n + 1), 0, some 0⟩))), (7, (.pointer (some ⟨(n + 2), 0, some 0⟩))), (8, (.int .i64 0)), (9, (Pt n1 0 0)), (10, (W x)), (13, (.string (ByteArray.mk #[]))), (15, (.bool false)), (21, (.slice (some ⟨in1, 0, none⟩) 1 0)), (22, (.int .i64 1)), (23, (.int .i64 1)), (24, (.bool false)), (44, (.bool false))] ⟨rfl, rfl, rfl, rfl, rfl, rfl, rfl, rfl, rfl, rfl, rfl, rfl, rfl, rfl, rfl, rfl, trivial⟩ (fun τr5 => ?_)
 refine RA.seq hd ?_
 refine RA.region env_ok ?_
 refine OA.p (some 67) (Pt b 0 0) rfl rfl rfl rfl ?_
 refine OA.p (some 68) (Pt b 0 0) rfl rfl rfl rfl ?_
 refine OA.p (some 69) (Pt b 0 0) rfl rfl rfl rfl ?_
 refine OA.p (some 70) (W nx) rfl rfl rfl (r_load1 rfl rfl rfl rfl rfl get_here rfl rfl) ?_
 refine OA.p (some 71) (W (nx + (1#32))) rfl rfl rfl (r_bin rfl rfl rfl (b_addW nx (1#32))) ?_
 refine OA.p (some 72) (Pt b 0 0) rfl rfl rfl rfl ?_
 refine OA.p (some 73) (Pt b 0 0) rfl rfl rfl rfl ?_
 refine OA.op1 (dst := none) (v := (.tuple #[])) (n1 := (n4 + 2)) (w := (b, some ⟨[(xAc51 nx x n4)], 17, 103, true⟩)) rfl rfl rfl (r_store rfl rfl rfl rfl rfl rfl rfl get_here rfl rfl (Nat.le_of_ble_eq_true rfl) rfl) (by omega) ?_
 refine OA.nil ?_
 intro _
 refine RA.weaken (D' := [(b, some ⟨[(xAc51 nx x n4)], 17, 103, true⟩), ((n + 2), some ⟨[(xAc58 x n4)], 15, 53, true⟩), ((n4 + 1), some ⟨[[(.int .i64 49157), (.string (bstr (be4 x)))]], 2, 35, true⟩), (n4, some ⟨[[(.int .i64 49157), (.string (bstr (be4 x)))]], 2, 35, true⟩), (n1, some ⟨[[(.int .i64 49154), (.string (bstr (be4 x ++ (be2 5 ++ (be2 8 ++ (be4 0#32 ++ []))))))]], 2, 35, true⟩), (in1, some ⟨[[(.int .i64 49154), (.string (bstr (be4 x ++ (be2 5 ++ (be2 8 ++ (be4 0#32 ++ []))))))]], 2, 35, true⟩), ((n + 1), some ⟨[xAc514], 15, 53, true⟩), (n, some ⟨[(xAc513 x k)], 15, 53, true⟩)]) hd (Less.of (fac (mm (fun _ => get_here) (fun _ => get_here)) (fac (mm (fun _ => (get_there (by omega) get_here)) (fun _ => (gt2 (by omega) get_here))) (fac (mm (fun _ => (gt2 (by omega) get_here)) (fun _ => (gt3 (by omega) get_here))) (fac (mm (fun _ => (gt3 (by omega) get_here)) (fun _ => (gt4 (by omega) get_here))) (fac (mm (fun _ => (gt4 (by omega) get_here)) (fun _ => (gt5 (by omega) get_here))) (fac (mm (fun _ => (gt5 (by omega) get_here)) (fun _ => (gt6 (by omega) get_here))) (fac (mm (fun _ => (gt6 (by omega) get_here)) (fun _ => (gt7 (by omega) get_here))) (fac (mm (fun _ => (gt7 (by omega) get_here)) (fun _ => (gt8 (by omega) get_here))) fan)))))))) (gone_of (by simp only [goneP, memP, List.cons_append, List.nil_append, true_or, or_true, true_and, and_true, or_false] <;> omega))) ?_
 refine RA.seq hd ?_
 refine RA.region env_ok ?_
 refine OA.p (some 74) (.agg ⟨(xAc58 x n4)⟩) rfl rfl rfl (r_loadA rfl rfl rfl rfl (get_there (by omega) get_here) rfl rfl rfl) ?_
 refine OA.op1 (dst := none) (v := (.tuple #[])) (n1 := (n4 + 2)) (w := ((n + 1), some ⟨[(xAc58 x n4)], 15, 53, true⟩)) rfl rfl rfl (r_store rfl rfl rfl rfl rfl rfl rfl (gt6 (by omega) get_here) rfl rfl (Nat.le_of_ble_eq_true rfl) rfl) (by omega) ?_
 refine OA.nil ?_
 intro _
 refine RA.weaken (D' := [((n + 1), some ⟨[(xAc58 x n4)], 15, 53, true⟩), (b, some ⟨[(xAc51 nx x n4)], 17, 103, true⟩), ((n + 2), some ⟨[(xAc58 x n4)], 15, 53, true⟩), ((n4 + 1), some ⟨[[(.int .i64 49157), (.string (bstr (be4 x)))]], 2, 35, true⟩), (n4, some ⟨[[(.int .i64 49157), (.string (bstr (be4 x)))]], 2, 35, true⟩), (n1, some ⟨[[(.int .i64 49154), (.string (bstr (be4 x ++ (be2 5 ++ (be2 8 ++ (be4 0#32 ++ []))))))]], 2, 35, true⟩), (in1, some ⟨[[(.int .i64 49154), (.string (bstr (be4 x ++ (be2 5 ++ (be2 8 ++ (be4 0#32 ++ []))))))]], 2, 35, true⟩), (n, some ⟨[(xAc513 x k)], 15, 53, true⟩)]) hd (Less.of (fac (mm (fun _ => get_here) (fun _ => get_here)) (fac (mm (fun _ => (get_there (by omega) get_here)) (fun _ => (get_there (by omega) get_here))) (fac (mm (fun _ => (gt2 (by omega) get_here)) (fun _ => (gt2 (by omega) get_here))) (fac (mm (fun _ => (gt3 (by omega) get_here)) (fun _ => (gt3 (by omega) get_here))) (fac (mm (fun _ => (gt4 (by omega) get_here)) (fun _ => (gt4 (by omega) get_here))) (fac (mm (fun _ => (gt5 (by omega) get_here)) (fun _ => (gt5 (by omega) get_here))) (fac (mm (fun _ => (gt6 (by omega) get_here)) (fun _ => (gt6 (by omega) get_here))) (fac (mm (fun _ => (gt7 (by omega) get_here)) (fun _ => (gt8 (by omega) get_here))) fan)))))))) (gone_of (by simp only [goneP, memP, List.cons_append, List.nil_append, true_or, or_true, true_and, and_true, or_false] <;> omega))) ?_
 refine RA.ret env_ok ?_
 refine ⟨.inr rfl, [(.agg ⟨(xAc58 x n4)⟩)], (resL_cons (res_cellA rfl rfl rfl get_here rfl rfl rfl) resL_nil), [(b, some ⟨[(xAc51 nx x n4)], 17, 103, true⟩), ((n4 + 1), some ⟨[[(.int .i64 49157), (.string (bstr (be4 x)))]], 2, 35, true⟩)], (Less.of (fac (mm (fun _ => get_here) (fun _ => (get_there (by omega) get_here))) (fac (mm (fun _ => (get_there (by omega) get_here)) (fun _ => (gt3 (by omega) get_here))) fan)) (gone_of (by simp only [goneP, memP, List.cons_append, List.nil_append, true_or, or_true, true_and, and_true, or_false] <;> omega))), ⟨(n4 + 1), by omega, by omega, rfl, rfl⟩⟩

theorem aGive491540T {n : Nat} {σ : Store} (hd : Dom n σ) (x nx lt : BitVec 32) (b k j ka : Nat)  (hb : σ b = some ⟨[[(W nx), (.int .i64 128), (.int .i64 0), (W lt), (.int .i64 0), (.int .i64 0), (.int .u32 0), (.string ByteArray.empty), (.int .u32 0), (.int .u32 0), (.int .i64 0), (.int .i64 0), (.slice (some ⟨ka, 0, none⟩) 1 0), (.slice none 0 0), (.slice none 0 0), (.slice none 0 0), (.bool true)]], 17, 103, true⟩) (hk : σ k = some ⟨[[(.int .i64 5), (.string (bstr (be4 0#32)))], [(.int .i64 49154), (.string (bstr (be4 x ++ (be2 5 ++ (be2 8 ++ (be4 0#32 ++ []))))))], [(.int .i64 49160), (.string (bstr ((be4 x ++ be4 3#32) ++ be4 4#32)))]], 2, 35, true⟩) (hj : σ j = some ⟨[[(.int .i64 0)]], 1, 3, true⟩)  : CQ Try.prog noDen 41 [(Pt b 0 0), (.agg ⟨[(.int .i64 193), (.int .i64 0), (W x), (.int .i64 0), (.int .i64 0), (.int .u32 0), (.string ByteArray.empty), (.int .u32 0), (.int .u32 0), (.int .i64 0), (.int .i64 0), (.slice (some ⟨k, 0, none⟩) 3 0), (.slice none 0 0), (.slice none 0 0), (.slice none 0 0)]⟩), (.slice (some ⟨j, 0, none⟩) 1 0)] n σ (fun v n' d => ∃ i, n ≤ i ∧ i < n' ∧ v = (.agg ⟨[(.int .i64 128), (.int .i64 0), (W x), (.int .i64 0), (.int .i64 0), (.int .u32 0), (.string ByteArray.empty), (.int .u32 0), (.int .u32 0), (.int .i64 0), (.int .i64 0), (.slice (some ⟨i, 0, none⟩) 1 0), (.slice none 0 0), (.slice none 0 0), (.slice none 0 0)]⟩) ∧ d = [(b, some ⟨[[(W (nx + 1#32)), (.int .i64 128), (.int .i64 0), (W x), (.int .i64 0), (.int .i64 0), (.int .u32 0), (.string ByteArray.empty), (.int .u32 0), (.int .u32 0), (.int .i64 0), (.int .i64 0), (.slice (some ⟨i, 0, none⟩) 1 0), (.slice none 0 0), (.slice none 0 0), (.slice none 0 0), (.bool true)]], 17, 103, true⟩), (i, some ⟨[[(.int .i64 49157), (.string (bstr (be4 x)))]], 2, 35, true⟩)]) := by
 have lhb := hd.lt hb
 have lhk := hd.lt hk
 have lhj := hd.lt hj
 refine CQ.body (E := env) env_ok hd rfl rfl (by show _ ≤ _; exact of_decide_eq_true (by kernel_rfl)) ?_
 refine RA.seq hd ?_
 refine RA.region env_ok ?_
 refine OA.op1 (dst := (some 4)) (v := (Pt n 0 0)) (n1 := (n + 1)) (w := (n, some ⟨[(xAc513 x k)], 15, 53, true⟩)) rfl rfl rfl rfl (by omega) ?_
 refine OA.op1 (dst := (some 6)) (v := (.pointer (some ⟨(n + 1), 0, some 0⟩))) (n1 := (n + 2)) (w := ((n + 1), some ⟨[xAc514], 15, 53, true⟩)) rfl rfl rfl rfl (by omega) ?_
 refine OA.nil ?_
 intro _
 refine RA.seq hd ?_
 refine RA.seq hd ?_
 refine RA.region env_ok ?_
 refine OA.p (some 14) (Pt b 0 0) rfl rfl rfl rfl ?_
 refine OA.p (some 15) (.bool false) rfl rfl rfl rfl ?_
 refine OA.nil ?_
 intro _
 refine RA.condF rfl ?_
 refine RA.skip env_ok ?_
 intro _
 refine RA.seq hd ?_
 refine RA.region env_ok ?_
 refine OA.p (some 17) (Pt n 0 2) rfl rfl rfl rfl ?_
 refine OA.p (some 18) (W x) rfl rfl rfl (r_load1 rfl rfl rfl rfl rfl (get_there (by omega) get_here) rfl rfl) ?_
 refine OA.p (some 19) (.agg ⟨(xAc515 x)⟩) rfl rfl rfl (by kernel_rfl) ?_
 refine OA.op1 (dst := (some 7)) (v := (.pointer (some ⟨(n + 2), 0, some 0⟩))) (n1 := (n + 3)) (w := ((n + 2), some ⟨[xAc514], 15, 53, true⟩)) rfl rfl rfl rfl (by omega) ?_
 refine OA.op1 (dst := none) (v := (.tuple #[])) (n1 := (n + 3)) (w := ((n + 2), some ⟨[(xAc515 x)], 15, 53, true⟩)) rfl rfl rfl (r_store rfl rfl rfl rfl rfl rfl rfl get_here rfl rfl (Nat.le_of_ble_eq_true rfl) rfl) (by omega) ?_
 refine OA.nil ?_
 intro _
 refine RA.weaken (D' := [((n + 2), some ⟨[(xAc515 x)], 15, 53, true⟩), ((n + 1), some ⟨[xAc514], 15, 53, true⟩), (n, some ⟨[(xAc513 x k)], 15, 53, true⟩)]) hd (Less.of (fac (mm (fun _ => get_here) (fun _ => get_here)) (fac (mm (fun _ => (get_there (by omega) get_here)) (fun _ => (gt2 (by omega) get_here))) (fac (mm (fun _ => (gt2 (by omega) get_here)) (fun _ => (gt3 (by omega) get_here))) fan))) (gone_of (by simp only [goneP, memP, List.cons_append, List.nil_append, true_or, or_true, true_and, and_true, or_false] <;> omega))) ?_
 refine RA.seq hd ?_
 refine RA.seq hd ?_
 refine RA.region env_ok ?_
 refine OA.p (some 20) (.agg ⟨(xAc513 x k)⟩) rfl rfl rfl (r_loadA rfl rfl rfl rfl (gt2 (by omega) get_here) rfl rfl rfl) ?_
 refine OA.call (dst := (some 21)) (all := [(.agg ⟨(xAc513 x k)⟩)]) rfl rfl rfl rfl rfl rfl rfl rfl (CQ.imp (aAsked49154 (hd.of (by omega) (kb3 (by omega))) x k (gt3 (by omega) hk)) ?_)
 rintro _ n1 _ ⟨in1, p1n1, p2n1, rfl, rfl⟩ hn1
 refine OA.app1 ?_
 refine OA.p (some 22) (.int .i64 1) rfl rfl rfl rfl ?_
 refine OA.p (some 23) (.int .i64 0) rfl rfl rfl rfl ?_
 refine OA.nil ?_
 intro _
 refine RA.block ?_
 refine RA.unroll hd ?_
 refine RA.seq hd ?_
 refine RA.region env_ok ?_
 refine OA.p (some 24) (.bool true) rfl rfl rfl (r_bin rfl rfl rfl (b_lss rfl)) ?_
 refine OA.nil ?_
 intro _
 refine RA.seq hd ?_
 refine RA.condT rfl ?_
 refine RA.skip env_ok ?_
 intro _
 refine RA.seq hd ?_
 refine RA.block ?_
 refine RA.seq hd ?_
 refine RA.region env_ok ?_
 refine OA.p (some 25) (.int .i64 0) rfl rfl rfl rfl ?_
 refine OA.p (some 26) (Pt in1 0 0) rfl rfl rfl (r_iaS (l := 0) rfl rfl rfl rfl rfl rfl (by omega) (by omega) get_here rfl (by omega)) ?_
 refine OA.p (some 27) (.agg ⟨[(.int .i64 49154), (.string (bstr (be4 x ++ (be2 5 ++ (be2 8 ++ (be4 0#32 ++ []))))))]⟩) rfl rfl rfl (r_loadA rfl rfl rfl rfl get_here rfl rfl rfl) ?_
 refine OA.op1 (dst := (some 9)) (v := (Pt n1 0 0)) (n1 := (n1 + 1)) (w := (n1, some ⟨[[(.int .i64 0), (.string ByteArray.empty)]], 2, 35, true⟩)) rfl rfl rfl rfl (by omega) ?_
 refine OA.p (some 8) (.int .i64 0) rfl rfl rfl rfl ?_
 refine OA.op1 (dst := none) (v := (.tuple #[])) (n1 := (n1 + 1)) (w := (n1, some ⟨[[(.int .i64 49154), (.string (bstr (be4 x ++ (be2 5 ++ (be2 8 ++ (be4 0#32 ++ []))))))]], 2, 35, true⟩)) rfl rfl rfl (r_store rfl rfl rfl rfl rfl rfl rfl get_here rfl rfl (Nat.le_of_ble_eq_true rfl) rfl) (by omega) ?_
 refine OA.nil ?_
 intro _
 refine RA.weaken (D' := [(n1, some ⟨[[(.int .i64 49154), (.string (bstr (be4 x ++ (be2 5 ++ (be2 8 ++ (be4 0#32 ++ []))))))]], 2, 35, true⟩), (in1, some ⟨[[(.int .i64 49154), (.string (bstr (be4 x ++ (be2 5 ++ (be2 8 ++ (be4 0#32 ++ []))))))]], 2, 35, true⟩), ((n + 2), some ⟨[(xAc515 x)], 15, 53, true⟩), ((n + 1), some ⟨[xAc514], 15, 53, true⟩), (n, some ⟨[(xAc513 x k)], 15, 53, true⟩)]) hd (Less.of (fac (mm (fun _ => get_here) (fun _ => get_here)) (fac (mm (fun _ => (get_there (by omega) get_here)) (fun _ => (gt2 (by omega) get_here))) (fac (mm (fun _ => (gt2 (by omega) get_here)) (fun _ => (gt3 (by omega) get_here))) (fac (mm (fun _ => (gt3 (by omega) get_here)) (fun _ => (gt4 (by omega) get_here))) (fac (mm (fun _ => (gt4 (by omega) get_here)) (fun _ => (gt5 (by omega) get_here))) fan))))) (gone_of (by simp only [goneP, memP, List.cons_append, List.nil_append, true_or, or_true, true_and, and_true, or_false] <;> omega))) ?_
 refine RA.seq hd ?_
 refine RA.region env_ok ?_
 refine OA.p (some 29) (.agg ⟨[(.int .i64 49154), (.string (bstr (be4 x ++ (be2 5 ++ (be2 8 ++ (be4 0#32 ++ []))))))]⟩) rfl rfl rfl (r_loadA rfl rfl rfl rfl get_here rfl rfl rfl) ?_
 refine OA.callP (dst := (some 30)) (all := [(.agg ⟨[(.int .i64 49154), (.string (bstr (be4 x ++ (be2 5 ++ (be2 8 ++ (be4 0#32 ++ []))))))]⟩)]) (v := (.tuple ⟨[(W x), (W 0#32), (.bool true)]⟩)) (hd.of (by omega) (kb5 (by omega))) rfl rfl rfl rfl rfl rfl rfl rfl (cReq49154 x) ?_
 intro n2 hn2
 refine OA.p (some 28) (.tuple ⟨[(W x), (W 0#32), (.bool true)]⟩) rfl rfl rfl rfl ?_
 refine OA.p (some 31) (W x) rfl rfl rfl rfl ?_
 refine OA.p (some 32) (W 0#32) rfl rfl rfl rfl ?_
 refine OA.p (some 33) (.bool true) rfl rfl rfl rfl ?_
 refine OA.p (some 10) (W x) rfl rfl rfl rfl ?_
 refine OA.p (some 11) (W 0#32) rfl rfl rfl rfl ?_
 refine OA.p (some 12) (.bool true) rfl rfl rfl rfl ?_
 refine OA.nil ?_
 intro _
 refine RA.rebase [(0, (Pt b 0 0)), (1, (.agg ⟨(xAc513 x k)⟩)), (2, (.slice (some ⟨j, 0, none⟩) 1 0)), (4, (Pt n 0 0)), (6, (.pointer (some ⟨(n + 1), 0, some 0⟩))), (7, (.pointer (some ⟨(n + 2), 0, some 0⟩))), (8, (.int .i64 0)), (9, (Pt n1 0 0)), (10, (W x)), (15, (.bool false)), (21, (.slice (some ⟨in1, 0, none⟩) 1 0)), (22, (.int .i64 1)), (23, (.int .i64 0)), (24, (.bool true))] ⟨rfl, rfl, rfl, rfl, rfl, rfl, rfl, rfl, rfl, rfl, rfl, rfl, rfl, rfl, trivial⟩ (fun τr3 => ?_)
 refine RA.seq hd ?_
 refine RA.region env_ok ?_
 refine OA.p (some 13) (.string (ByteArray.mk #[])) rfl rfl rfl rfl ?_
 refine OA.nil ?_
 intro _
 refine RA.seq hd ?_
 refine RA.seq hd ?_
 refine RA.region env_ok ?_
 refine OA.p (some 34) (.int .i64 0) rfl rfl rfl rfl ?_
 refine OA.p (some 35) (.slice (some ⟨j, 0, none⟩) 1 0) rfl rfl rfl rfl ?_
 refine OA.p (some 36) (.int .i64 1) rfl rfl rfl rfl ?_
 refine OA.p (some 37) (.bool true) rfl rfl rfl (r_bin rfl rfl rfl (b_lss rfl)) ?_
 refine OA.p (some 38) (.bool true) rfl rfl rfl rfl ?_
 refine OA.p (some 39) (.slice (some ⟨j, 0, none⟩) 1 0) rfl rfl rfl rfl ?_
 refine OA.p (some 40) (.int .i64 0) rfl rfl rfl rfl ?_
 refine OA.p (some 41) (Pt j 0 0) rfl rfl rfl (r_iaS (l := 0) rfl rfl rfl rfl rfl rfl (by omega) (by omega) (gt5 (by omega) hj) rfl (by omega)) ?_
 refine OA.p (some 42) (.int .i64 0) rfl rfl rfl (r_load1 rfl rfl rfl rfl rfl (gt5 (by omega) hj) rfl rfl) ?_
 refine OA.p (some 43) (.bool false) rfl rfl rfl (r_bin rfl rfl rfl (b_neq rfl)) ?_
 refine OA.p (some 44) (.bool false) rfl rfl rfl rfl ?_
 refine OA.nil ?_
 intro _
 refine RA.condF rfl ?_
 refine RA.skip env_ok ?_
 intro _
 refine RA.par (md := [some [], some [(n + 2)], some [], some [], none, some [], none, some [], none]) env_ok (hd.of (by omega) (kb5 (by omega))) (by kernel_rfl) ?_
 refine PQ.pure (dst := (some 51)) (v := (.pointer (some ⟨(n + 2), 0, some 11⟩))) rfl rfl rfl noStore (none_ok _ _) rfl ?_
 refine PQ.pure (dst := (some 52)) (v := (.slice none 0 0)) rfl rfl rfl (app [((n + 2), some ⟨[(xAc515 x)], 15, 53, true⟩)] noStore) (seen_one (V := []) (D := [(n1, some ⟨[[(.int .i64 49154), (.string (bstr (be4 x ++ (be2 5 ++ (be2 8 ++ (be4 0#32 ++ []))))))]], 2, 35, true⟩), (in1, some ⟨[[(.int .i64 49154), (.string (bstr (be4 x ++ (be2 5 ++ (be2 8 ++ (be4 0#32 ++ []))))))]], 2, 35, true⟩), ((n + 2), some ⟨[(xAc515 x)], 15, 53, true⟩), ((n + 1), some ⟨[xAc514], 15, 53, true⟩), (n, some ⟨[(xAc513 x k)], 15, 53, true⟩)]) (by kernel_rfl) (gt2 (by omega) get_here)) (r_load1 rfl rfl rfl rfl rfl get_here rfl rfl) ?_
 refine PQ.pure (dst := (some 53)) (v := (W x)) rfl rfl rfl noStore (none_ok _ _) rfl ?_
 refine PQ.pure (dst := (some 54)) (v := (.string (ByteArray.mk #[]))) rfl rfl rfl noStore (none_ok _ _) rfl ?_
 refine PQ.callP (dst := (some 55)) (all := [(W x), (.string (ByteArray.mk #[]))]) (v := (.agg ⟨[(.int .i64 49157), (.string (bstr (be4 x)))]⟩)) _ (hd.of (by omega) (kb5 (by omega))) rfl rfl rfl rfl rfl rfl rfl rfl (seen_any (V := []) (D := [(n1, some ⟨[[(.int .i64 49154), (.string (bstr (be4 x ++ (be2 5 ++ (be2 8 ++ (be4 0#32 ++ []))))))]], 2, 35, true⟩), (in1, some ⟨[[(.int .i64 49154), (.string (bstr (be4 x ++ (be2 5 ++ (be2 8 ++ (be4 0#32 ++ []))))))]], 2, 35, true⟩), ((n + 2), some ⟨[(xAc515 x)], 15, 53, true⟩), ((n + 1), some ⟨[xAc514], 15, 53, true⟩), (n, some ⟨[(xAc513 x k)], 15, 53, true⟩)]) (by kernel_rfl)) (aAns0 x) ?_
 intro n4 hn4
 refine PQ.op (dst := (some 56)) (v := (.slice (some ⟨n4, 0, none⟩) 1 0)) (n1 := (n4 + 1)) (d1 := [(n4, some ⟨[[(.int .i64 49157), (.string (bstr (be4 x)))]], 2, 35, true⟩)]) rfl rfl rfl noStore (none_ok _ _) (by kernel_rfl) (by omega) (kp1 (wr_new (by omega) (by omega))) ?_
 refine PQ.op (dst := (some 57)) (v := (.slice (some ⟨(n4 + 1), 0, none⟩) 1 0)) (n1 := (n4 + 2)) (d1 := [((n4 + 1), some ⟨[[(.int .i64 49157), (.string (bstr (be4 x)))]], 2, 35, true⟩)]) rfl rfl rfl _ (seen_any (V := [(n4, some ⟨[[(.int .i64 49157), (.string (bstr (be4 x)))]], 2, 35, true⟩)]) (D := [(n1, some ⟨[[(.int .i64 49154), (.string (bstr (be4 x ++ (be2 5 ++ (be2 8 ++ (be4 0#32 ++ []))))))]], 2, 35, true⟩), (in1, some ⟨[[(.int .i64 49154), (.string (bstr (be4 x ++ (be2 5 ++ (be2 8 ++ (be4 0#32 ++ []))))))]], 2, 35, true⟩), ((n + 2), some ⟨[(xAc515 x)], 15, 53, true⟩), ((n + 1), some ⟨[xAc514], 15, 53, true⟩), (n, some ⟨[(xAc513 x k)], 15, 53, true⟩)]) (by kernel_rfl)) (r_append0 rfl rfl rfl rfl rfl rfl rfl rfl rfl rfl (by decide) get_here (of_decide_eq_true (by kernel_rfl))) (by omega) (kp1 (wr_new (by omega) (by omega))) ?_
 refine PQ.pure (dst := (some 58)) (v := (.pointer (some ⟨(n + 2), 0, some 11⟩))) rfl rfl rfl noStore (none_ok _ _) rfl ?_
 refine PQ.op (dst := none) (v := (.tuple #[])) (n1 := (n4 + 2)) (d1 := [((n + 2), some ⟨[(xAc58 x n4)], 15, 53, true⟩)]) rfl rfl rfl _ (seen_any (V := [((n4 + 1), some ⟨[[(.int .i64 49157), (.string (bstr (be4 x)))]], 2, 35, true⟩), (n4, some ⟨[[(.int .i64 49157), (.string (bstr (be4 x)))]], 2, 35, true⟩)]) (D := [(n1, some ⟨[[(.int .i64 49154), (.string (bstr (be4 x ++ (be2 5 ++ (be2 8 ++ (be4 0#32 ++ []))))))]], 2, 35, true⟩), (in1, some ⟨[[(.int .i64 49154), (.string (bstr (be4 x ++ (be2 5 ++ (be2 8 ++ (be4 0#32 ++ []))))))]], 2, 35, true⟩), ((n + 2), some ⟨[(xAc515 x)], 15, 53, true⟩), ((n + 1), some ⟨[xAc514], 15, 53, true⟩), (n, some ⟨[(xAc513 x k)], 15, 53, true⟩)]) (by kernel_rfl)) (r_store rfl rfl rfl rfl rfl rfl rfl (gt4 (by omega) get_here) rfl rfl (Nat.le_of_ble_eq_true rfl) rfl) (by omega) (kp1 (wr_tight (by kernel_rfl) (by omega))) ?_
 refine PQ.done (d := [((n + 2), some ⟨[(xAc58 x n4)], 15, 53, true⟩), ((n4 + 1), some ⟨[[(.int .i64 49157), (.string (bstr (be4 x)))]], 2, 35, true⟩), (n4, some ⟨[[(.int .i64 49157), (.string (bstr (be4 x)))]], 2, 35, true⟩)]) (by kernel_rfl) ?_
 intro _
 refine RA.weaken (D' := [((n + 2), some ⟨[(xAc58 x n4)], 15, 53, true⟩), ((n4 + 1), some ⟨[[(.int .i64 49157), (.string (bstr (be4 x)))]], 2, 35, true⟩), (n4, some ⟨[[(.int .i64 49157), (.string (bstr (be4 x)))]], 2, 35, true⟩), (n1, some ⟨[[(.int .i64 49154), (.string (bstr (be4 x ++ (be2 5 ++ (be2 8 ++ (be4 0#32 ++ []))))))]], 2, 35, true⟩), (in1, some ⟨[[(.int .i64 49154), (.string (bstr (be4 x ++ (be2 5 ++ (be2 8 ++ (be4 0#32 ++ []))))))]], 2, 35, true⟩), ((n + 1), some ⟨[xAc514], 15, 53, true⟩), (n, some ⟨[(xAc513 x k)], 15, 53, true⟩)]) hd (Less.of (fac (mm (fun _ => get_here) (fun _ => get_here)) (fac (mm (fun _ => (get_there (by omega) get_here)) (fun _ => (get_there (by omega) get_here))) (fac (mm (fun _ => (gt2 (by omega) get_here)) (fun _ => (gt2 (by omega) get_here))) (fac (mm (fun _ => (gt3 (by omega) get_here)) (fun _ => (gt3 (by omega) get_here))) (fac (mm (fun _ => (gt4 (by omega) get_here)) (fun _ => (gt4 (by omega) get_here))) (fac (mm (fun _ => (gt5 (by omega) get_here)) (fun _ => (gt6 (by omega) get_here))) (fac (mm (fun _ => (gt6 (by omega) get_here)) (fun _ => (gt7 (by omega) get_here))) fan))))))) (gone_of (by simp only [goneP, memP, List.cons_append, List.nil_append, true_or, or_true, true_and, and_true, or_false] <;> omega))) ?_
 refine RA.region env_ok ?_
 refine OA.p (some 59) (.int .i64 1) rfl rfl rfl (r_bin rfl rfl rfl (b_add (i64_eq (by omega)))) ?_
 refine OA.p (some 23) (.int .i64 1) rfl rfl rfl rfl ?_
 refine OA.nil ?_
 intro _
 refine RA.unroll hd ?_
 refine RA.seq hd ?_
 refine RA.region env_ok ?_
 refine OA.p (some 24) (.bool false) rfl rfl rfl (r_bin rfl rfl rfl (b_lss rfl)) ?_
 refine OA.nil ?_
 intro _
 refine RA.seq hd ?_
 refine RA.condF rfl ?_
 refine RA.exit env_ok ?_
 intro _
 refine RA.seq hd ?_
 refine RA.region env_ok ?_
 refine OA.p (some 60) (Pt b 0 0) rfl rfl rfl rfl ?_
 refine OA.p (some 61) (Pt b 0 0) rfl rfl rfl rfl ?_
 refine OA.p (some 62) (.agg ⟨(xAc58 x n4)⟩) rfl rfl rfl (r_loadA rfl rfl rfl rfl get_here rfl rfl rfl) ?_
 refine OA.p (some 63) (Pt b 0 0) rfl rfl rfl rfl ?_
 refine OA.p (some 64) (Pt b 0 1) rfl rfl rfl rfl ?_
 refine OA.op1 (dst := none) (v := (.tuple #[])) (n1 := (n4 + 2)) (w := (b, some ⟨[(xAc53 nx x n4)], 17, 103, true⟩)) rfl rfl rfl (r_store rfl rfl rfl rfl rfl rfl rfl (gt7 (by omega) hb) rfl rfl (Nat.le_of_ble_eq_true rfl) rfl) (by omega) ?_
 refine OA.p (some 65) (Pt b 0 0) rfl rfl rfl rfl ?_
 refine OA.p (some 66) (Pt b 0 16) rfl rfl rfl rfl ?_
 refine OA.op1 (dst := none) (v := (.tuple #[])) (n1 := (n4 + 2)) (w := (b, some ⟨[(xAc53 nx x n4)], 17, 103, true⟩)) rfl rfl rfl (r_store rfl rfl rfl rfl rfl rfl rfl get_here rfl rfl (Nat.le_of_ble_eq_true rfl) rfl) (by omega) ?_
 refine OA.nil ?_
 intro _
 refine RA.weaken (D' := [(b, some ⟨[(xAc53 nx x n4)], 17, 103, true⟩), ((n + 2), some ⟨[(xAc58 x n4)], 15, 53, true⟩), ((n4 + 1), some ⟨[[(.int .i64 49157), (.string (bstr (be4 x)))]], 2, 35, true⟩), (n4, some ⟨[[(.int .i64 49157), (.string (bstr (be4 x)))]], 2, 35, true⟩), (n1, some ⟨[[(.int .i64 49154), (.string (bstr (be4 x ++ (be2 5 ++ (be2 8 ++ (be4 0#32 ++ []))))))]], 2, 35, true⟩), (in1, some ⟨[[(.int .i64 49154), (.string (bstr (be4 x ++ (be2 5 ++ (be2 8 ++ (be4 0#32 ++ []))))))]], 2, 35, true⟩), ((n + 1), some ⟨[xAc514], 15, 53, true⟩), (n, some ⟨[(xAc513 x k)], 15, 53, true⟩)]) hd (Less.of (fac (mm (fun _ => get_here) (fun _ => get_here)) (fac (mm (fun _ => (get_there (by omega) get_here)) (fun _ => (gt2 (by omega) get_here))) (fac (mm (fun _ => (gt2 (by omega) get_here)) (fun _ => (gt3 (by omega) get_here))) (fac (mm (fun _ => (gt3 (by omega) get_here)) (fun _ => (gt4 (by omega) get_here))) (fac (mm (fun _ => (gt4 (by omega) get_here)) (fun _ => (gt5 (by omega) get_here))) (fac (mm (fun _ => (gt5 (by omega) get_here)) (fun _ => (gt6 (by omega) get_here))) (fac (mm (fun _ => (gt6 (by omega) get_here)) (fun _ => (gt7 (by omega) get_here))) (fac (mm (fun _ => (gt7 (by omega) get_here)) (fun _ => (gt8 (by omega) get_here))) fan)))))))) (gone_of (by simp only [goneP, memP, List.cons_append, List.nil_append, true_or, or_true, true_and, and_true, or_false] <;> omega))) ?_
 refine RA.rebase [(0, (Pt b 0 0)), (1, (.agg ⟨(xAc513 x k)⟩)), (2, (.slice (some ⟨j, 0, none⟩) 1 0)), (4, (Pt n 0 0)), (6, (.pointer (some ⟨(n + 1), 0, some 0⟩))), (7, (.pointer (some ⟨(n + 2), 0, some 0⟩))), (8, (.int .i64 0)), (9, (Pt n1 0 0)), (10, (W x)), (13, (.string (ByteArray.mk #[]))), (15, (.bool false)), (21, (.slice (some ⟨in1, 0, none⟩) 1 0)), (22, (.int .i64 1)), (23, (.int .i64 1)), (24, (.bool false)), (44, (.bool false))] ⟨rfl, rfl, rfl, rfl, rfl, rfl, rfl, rfl, rfl, rfl, rfl, rfl, rfl, rfl, rfl, rfl, trivial⟩ (fun τr5 => ?_)
 refine RA.seq hd ?_
 refine RA.region env_ok ?_
 refine OA.p (some 67) (Pt b 0 0) rfl rfl rfl rfl ?_
 refine OA.p (some 68) (Pt b 0 0) rfl rfl rfl rfl ?_
 refine OA.p (some 69) (Pt b 0 0) rfl rfl rfl rfl ?_
 refine OA.p (some 70) (W nx) rfl rfl rfl (r_load1 rfl rfl rfl rfl rfl get_here rfl rfl) ?_
 refine OA.p (some 71) (W (nx + (1#32))) rfl rfl rfl (r_bin rfl rfl rfl (b_addW nx (1#32))) ?_
 refine OA.p (some 72) (Pt b 0 0) rfl rfl rfl rfl ?_
 refine OA.p (some 73) (Pt b 0 0) rfl rfl rfl rfl ?_
 refine OA.op1 (dst := none) (v := (.tuple #[])) (n1 := (n4 + 2)) (w := (b, some ⟨[(xAc51 nx x n4)], 17, 103, true⟩)) rfl rfl rfl (r_store rfl rfl rfl rfl rfl rfl rfl get_here rfl rfl (Nat.le_of_ble_eq_true rfl) rfl) (by omega) ?_
 refine OA.nil ?_
 intro _
 refine RA.weaken (D' := [(b, some ⟨[(xAc51 nx x n4)], 17, 103, true⟩), ((n + 2), some ⟨[(xAc58 x n4)], 15, 53, true⟩), ((n4 + 1), some ⟨[[(.int .i64 49157), (.string (bstr (be4 x)))]], 2, 35, true⟩), (n4, some ⟨[[(.int .i64 49157), (.string (bstr (be4 x)))]], 2, 35, true⟩), (n1, some ⟨[[(.int .i64 49154), (.string (bstr (be4 x ++ (be2 5 ++ (be2 8 ++ (be4 0#32 ++ []))))))]], 2, 35, true⟩), (in1, some ⟨[[(.int .i64 49154), (.string (bstr (be4 x ++ (be2 5 ++ (be2 8 ++ (be4 0#32 ++ []))))))]], 2, 35, true⟩), ((n + 1), some ⟨[xAc514], 15, 53, true⟩), (n, some ⟨[(xAc513 x k)], 15, 53, true⟩)]) hd (Less.of (fac (mm (fun _ => get_here) (fun _ => get_here)) (fac (mm (fun _ => (get_there (by omega) get_here)) (fun _ => (gt2 (by omega) get_here))) (fac (mm (fun _ => (gt2 (by omega) get_here)) (fun _ => (gt3 (by omega) get_here))) (fac (mm (fun _ => (gt3 (by omega) get_here)) (fun _ => (gt4 (by omega) get_here))) (fac (mm (fun _ => (gt4 (by omega) get_here)) (fun _ => (gt5 (by omega) get_here))) (fac (mm (fun _ => (gt5 (by omega) get_here)) (fun _ => (gt6 (by omega) get_here))) (fac (mm (fun _ => (gt6 (by omega) get_here)) (fun _ => (gt7 (by omega) get_here))) (fac (mm (fun _ => (gt7 (by omega) get_here)) (fun _ => (gt8 (by omega) get_here))) fan)))))))) (gone_of (by simp only [goneP, memP, List.cons_append, List.nil_append, true_or, or_true, true_and, and_true, or_false] <;> omega))) ?_
 refine RA.seq hd ?_
 refine RA.region env_ok ?_
 refine OA.p (some 74) (.agg ⟨(xAc58 x n4)⟩) rfl rfl rfl (r_loadA rfl rfl rfl rfl (get_there (by omega) get_here) rfl rfl rfl) ?_
 refine OA.op1 (dst := none) (v := (.tuple #[])) (n1 := (n4 + 2)) (w := ((n + 1), some ⟨[(xAc58 x n4)], 15, 53, true⟩)) rfl rfl rfl (r_store rfl rfl rfl rfl rfl rfl rfl (gt6 (by omega) get_here) rfl rfl (Nat.le_of_ble_eq_true rfl) rfl) (by omega) ?_
 refine OA.nil ?_
 intro _
 refine RA.weaken (D' := [((n + 1), some ⟨[(xAc58 x n4)], 15, 53, true⟩), (b, some ⟨[(xAc51 nx x n4)], 17, 103, true⟩), ((n + 2), some ⟨[(xAc58 x n4)], 15, 53, true⟩), ((n4 + 1), some ⟨[[(.int .i64 49157), (.string (bstr (be4 x)))]], 2, 35, true⟩), (n4, some ⟨[[(.int .i64 49157), (.string (bstr (be4 x)))]], 2, 35, true⟩), (n1, some ⟨[[(.int .i64 49154), (.string (bstr (be4 x ++ (be2 5 ++ (be2 8 ++ (be4 0#32 ++ []))))))]], 2, 35, true⟩), (in1, some ⟨[[(.int .i64 49154), (.string (bstr (be4 x ++ (be2 5 ++ (be2 8 ++ (be4 0#32 ++ []))))))]], 2, 35, true⟩), (n, some ⟨[(xAc513 x k)], 15, 53, true⟩)]) hd (Less.of (fac (mm (fun _ => get_here) (fun _ => get_here)) (fac (mm (fun _ => (get_there (by omega) get_here)) (fun _ => (get_there (by omega) get_here))) (fac (mm (fun _ => (gt2 (by omega) get_here)) (fun _ => (gt2 (by omega) get_here))) (fac (mm (fun _ => (gt3 (by omega) get_here)) (fun _ => (gt3 (by omega) get_here))) (fac (mm (fun _ => (gt4 (by omega) get_here)) (fun _ => (gt4 (by omega) get_here))) (fac (mm (fun _ => (gt5 (by omega) get_here)) (fun _ => (gt5 (by omega) get_here))) (fac (mm (fun _ => (gt6 (by omega) get_here)) (fun _ => (gt6 (by omega) get_here))) (fac (mm (fun _ => (gt7 (by omega) get_here)) (fun _ => (gt8 (by omega) get_here))) fan)))))))) (gone_of (by simp only [goneP, memP, List.cons_append, List.nil_append, true_or, or_true, true_and, and_true, or_false] <;> omega))) ?_
 refine RA.ret env_ok ?_
 refine ⟨.inr rfl, [(.agg ⟨(xAc58 x n4)⟩)], (resL_cons (res_cellA rfl rfl rfl get_here rfl rfl rfl) resL_nil), [(b, some ⟨[(xAc51 nx x n4)], 17, 103, true⟩), ((n4 + 1), some ⟨[[(.int .i64 49157), (.string (bstr (be4 x)))]], 2, 35, true⟩)], (Less.of (fac (mm (fun _ => get_here) (fun _ => (get_there (by omega) get_here))) (fac (mm (fun _ => (get_there (by omega) get_here)) (fun _ => (gt3 (by omega) get_here))) fan)) (gone_of (by simp only [goneP, memP, List.cons_append, List.nil_append, true_or, or_true, true_and, and_true, or_false] <;> omega))), ⟨(n4 + 1), by omega, by omega, rfl, rfl⟩⟩

theorem aGive491541F {n : Nat} {σ : Store} (hd : Dom n σ) (x nx  : BitVec 32) (b k j  : Nat) (w : Nat) (hw0 : ¬ w = 0) (hw : w ≤ 255) (hb : σ b = some ⟨[[(W nx), (.int .i64 0), (.int .i64 0), (.int .u32 0), (.int .i64 0), (.int .i64 0), (.int .u32 0), (.string ByteArray.empty), (.int .u32 0), (.int .u32 0), (.int .i64 0), (.int .i64 0), (.slice none 0 0), (.slice none 0 0), (.slice none 0 0), (.slice none 0 0), (.bool false)]], 17, 103, true⟩) (hk : σ k = some ⟨[[(.int .i64 5), (.string (bstr (be4 0#32)))], [(.int .i64 49154), (.string (bstr (be4 x ++ (be2 5 ++ (be2 8 ++ (be4 0#32 ++ []))))))], [(.int .i64 49160), (.string (bstr ((be4 x ++ be4 3#32) ++ be4 4#32)))]], 2, 35, true⟩) (hj : σ j = some ⟨[[(.int .i64 ((w : Nat) : Int))]], 1, 3, true⟩)  : CQ Try.prog noDen 41 [(Pt b 0 0), (.agg ⟨[(.int .i64 193), (.int .i64 0), (W x), (.int .i64 0), (.int .i64 0), (.int .u32 0), (.string ByteArray.empty), (.int .u32 0), (.int .u32 0), (.int .i64 0), (.int .i64 0), (.slice (some ⟨k, 0, none⟩) 3 0), (.slice none 0 0), (.slice none 0 0), (.slice none 0 0)]⟩), (.slice (some ⟨j, 0, none⟩) 1 0)] n σ (fun v n' d => ∃ i, n ≤ i ∧ i < n' ∧ v = (.agg ⟨[(.int .i64 128), (.int .i64 0), (W x), (.int .i64 0), (.int .i64 0), (.int .u32 0), (.string ByteArray.empty), (.int .u32 0), (.int .u32 0), (.int .i64 0), (.int .i64 0), (.slice (some ⟨i, 0, none⟩) 1 0), (.slice none 0 0), (.slice none 0 0), (.slice none 0 0)]⟩) ∧ d = [(b, some ⟨[[(W (nx + 1#32)), (.int .i64 128), (.int .i64 0), (W x), (.int .i64 0), (.int .i64 0), (.int .u32 0), (.string ByteArray.empty), (.int .u32 0), (.int .u32 0), (.int .i64 0), (.int .i64 0), (.slice (some ⟨i, 0, none⟩) 1 0), (.slice none 0 0), (.slice none 0 0), (.slice none 0 0), (.bool true)]], 17, 103, true⟩), (i, some ⟨[[(.int .i64 49155), (.string (bstr (be4 x ++ pL w [])))]], 2, 35, true⟩)]) := by
 have lhb := hd.lt hb
 have lhk := hd.lt hk
 have lhj := hd.lt hj
 refine CQ.body (E := env) env_ok hd rfl rfl (by show _ ≤ _; exact of_decide_eq_true (by kernel_rfl)) ?_
 refine RA.seq hd ?_
 refine RA.region env_ok ?_
 refine OA.op1 (dst := (some 4)) (v := (Pt n 0 0)) (n1 := (n + 1)) (w := (n, some ⟨[(xAc513 x k)], 15, 53, true⟩)) rfl rfl rfl rfl (by omega) ?_
 refine OA.op1 (dst := (some 6)) (v := (.pointer (some ⟨(n + 1), 0, some 0⟩))) (n1 := (n + 2)) (w := ((n + 1), some ⟨[xAc514], 15, 53, true⟩)) rfl rfl rfl rfl (by omega) ?_
 refine OA.nil ?_
 intro _
 refine RA.seq hd ?_
 refine RA.seq hd ?_
 refine RA.region env_ok ?_
 refine OA.p (some 14) (Pt b 0 0) rfl rfl rfl rfl ?_
 refine OA.p (some 15) (.bool false) rfl rfl rfl rfl ?_
 refine OA.nil ?_
 intro _
 refine RA.condF rfl ?_
 refine RA.skip env_ok ?_
 intro _
 refine RA.seq hd ?_
 refine RA.region env_ok ?_
 refine OA.p (some 17) (Pt n 0 2) rfl rfl rfl rfl ?_
 refine OA.p (some 18) (W x) rfl rfl rfl (r_load1 rfl rfl rfl rfl rfl (get_there (by omega) get_here) rfl rfl) ?_
 refine OA.p (some 19) (.agg ⟨(xAc515 x)⟩) rfl rfl rfl (by kernel_rfl) ?_
 refine OA.op1 (dst := (some 7)) (v := (.pointer (some ⟨(n + 2), 0, some 0⟩))) (n1 := (n + 3)) (w := ((n + 2), some ⟨[xAc514], 15, 53, true⟩)) rfl rfl rfl rfl (by omega) ?_
 refine OA.op1 (dst := none) (v := (.tuple #[])) (n1 := (n + 3)) (w := ((n + 2), some ⟨[(xAc515 x)], 15, 53, true⟩)) rfl rfl rfl (r_store rfl rfl rfl rfl rfl rfl rfl get_here rfl rfl (Nat.le_of_ble_eq_true rfl) rfl) (by omega) ?_
 refine OA.nil ?_
 intro _
 refine RA.weaken (D' := [((n + 2), some ⟨[(xAc515 x)], 15, 53, true⟩), ((n + 1), some ⟨[xAc514], 15, 53, true⟩), (n, some ⟨[(xAc513 x k)], 15, 53, true⟩)]) hd (Less.of (fac (mm (fun _ => get_here) (fun _ => get_here)) (fac (mm (fun _ => (get_there (by omega) get_here)) (fun _ => (gt2 (by omega) get_here))) (fac (mm (fun _ => (gt2 (by omega) get_here)) (fun _ => (gt3 (by omega) get_here))) fan))) (gone_of (by simp only [goneP, memP, List.cons_append, List.nil_append, true_or, or_true, true_and, and_true, or_false] <;> omega))) ?_
 refine RA.seq hd ?_
 refine RA.seq hd ?_
 refine RA.region env_ok ?_
 refine OA.p (some 20) (.agg ⟨(xAc513 x k)⟩) rfl rfl rfl (r_loadA rfl rfl rfl rfl (gt2 (by omega) get_here) rfl rfl rfl) ?_
 refine OA.call (dst := (some 21)) (all := [(.agg ⟨(xAc513 x k)⟩)]) rfl rfl rfl rfl rfl rfl rfl rfl (CQ.imp (aAsked49154 (hd.of (by omega) (kb3 (by omega))) x k (gt3 (by omega) hk)) ?_)
 rintro _ n1 _ ⟨in1, p1n1, p2n1, rfl, rfl⟩ hn1
 refine OA.app1 ?_
 refine OA.p (some 22) (.int .i64 1) rfl rfl rfl rfl ?_
 refine OA.p (some 23) (.int .i64 0) rfl rfl rfl rfl ?_
 refine OA.nil ?_
 intro _
 refine RA.block ?_
 refine RA.unroll hd ?_
 refine RA.seq hd ?_
 refine RA.region env_ok ?_
 refine OA.p (some 24) (.bool true) rfl rfl rfl (r_bin rfl rfl rfl (b_lss rfl)) ?_
 refine OA.nil ?_
 intro _
 refine RA.seq hd ?_
 refine RA.condT rfl ?_
 refine RA.skip env_ok ?_
 intro _
 refine RA.seq hd ?_
 refine RA.block ?_
 refine RA.seq hd ?_
 refine RA.region env_ok ?_
 refine OA.p (some 25) (.int .i64 0) rfl rfl rfl rfl ?_
 refine OA.p (some 26) (Pt in1 0 0) rfl rfl rfl (r_iaS (l := 0) rfl rfl rfl rfl rfl rfl (by omega) (by omega) get_here rfl (by omega)) ?_
 refine OA.p (some 27) (.agg ⟨[(.int .i64 49154), (.string (bstr (be4 x ++ (be2 5 ++ (be2 8 ++ (be4 0#32 ++ []))))))]⟩) rfl rfl rfl (r_loadA rfl rfl rfl rfl get_here rfl rfl rfl) ?_
 refine OA.op1 (dst := (some 9)) (v := (Pt n1 0 0)) (n1 := (n1 + 1)) (w := (n1, some ⟨[[(.int .i64 0), (.string ByteArray.empty)]], 2, 35, true⟩)) rfl rfl rfl rfl (by omega) ?_
 refine OA.p (some 8) (.int .i64 0) rfl rfl rfl rfl ?_
 refine OA.op1 (dst := none) (v := (.tuple #[])) (n1 := (n1 + 1)) (w := (n1, some ⟨[[(.int .i64 49154), (.string (bstr (be4 x ++ (be2 5 ++ (be2 8 ++ (be4 0#32 ++ []))))))]], 2, 35, true⟩)) rfl rfl rfl (r_store rfl rfl rfl rfl rfl rfl rfl get_here rfl rfl (Nat.le_of_ble_eq_true rfl) rfl) (by omega) ?_
 refine OA.nil ?_
 intro _
 refine RA.weaken (D' := [(n1, some ⟨[[(.int .i64 49154), (.string (bstr (be4 x ++ (be2 5 ++ (be2 8 ++ (be4 0#32 ++ []))))))]], 2, 35, true⟩), (in1, some ⟨[[(.int .i64 49154), (.string (bstr (be4 x ++ (be2 5 ++ (be2 8 ++ (be4 0#32 ++ []))))))]], 2, 35, true⟩), ((n + 2), some ⟨[(xAc515 x)], 15, 53, true⟩), ((n + 1), some ⟨[xAc514], 15, 53, true⟩), (n, some ⟨[(xAc513 x k)], 15, 53, true⟩)]) hd (Less.of (fac (mm (fun _ => get_here) (fun _ => get_here)) (fac (mm (fun _ => (get_there (by omega) get_here)) (fun _ => (gt2 (by omega) get_here))) (fac (mm (fun _ => (gt2 (by omega) get_here)) (fun _ => (gt3 (by omega) get_here))) (fac (mm (fun _ => (gt3 (by omega) get_here)) (fun _ => (gt4 (by omega) get_here))) (fac (mm (fun _ => (gt4 (by omega) get_here)) (fun _ => (gt5 (by omega) get_here))) fan))))) (gone_of (by simp only [goneP, memP, List.cons_append, List.nil_append, true_or, or_true, true_and, and_true, or_false] <;> omega))) ?_
 refine RA.seq hd ?_
 refine RA.region env_ok ?_
 refine OA.p (some 29) (.agg ⟨[(.int .i64 49154), (.string (bstr (be4 x ++ (be2 5 ++ (be2 8 ++ (be4 0#32 ++ []))))))]⟩) rfl rfl rfl (r_loadA rfl rfl rfl rfl get_here rfl rfl rfl) ?_
 refine OA.callP (dst := (some 30)) (all := [(.agg ⟨[(.int .i64 49154), (.string (bstr (be4 x ++ (be2 5 ++ (be2 8 ++ (be4 0#32 ++ []))))))]⟩)]) (v := (.tuple ⟨[(W x), (W 0#32), (.bool true)]⟩)) (hd.of (by omega) (kb5 (by omega))) rfl rfl rfl rfl rfl rfl rfl rfl (cReq49154 x) ?_
 intro n2 hn2
 refine OA.p (some 28) (.tuple ⟨[(W x), (W 0#32), (.bool true)]⟩) rfl rfl rfl rfl ?_
 refine OA.p (some 31) (W x) rfl rfl rfl rfl ?_
 refine OA.p (some 32) (W 0#32) rfl rfl rfl rfl ?_
 refine OA.p (some 33) (.bool true) rfl rfl rfl rfl ?_
 refine OA.p (some 10) (W x) rfl rfl rfl rfl ?_
 refine OA.p (some 11) (W 0#32) rfl rfl rfl rfl ?_
 refine OA.p (some 12) (.bool true) rfl rfl rfl rfl ?_
 refine OA.nil ?_
 intro _
 refine RA.rebase [(0, (Pt b 0 0)), (1, (.agg ⟨(xAc513 x k)⟩)), (2, (.slice (some ⟨j, 0, none⟩) 1 0)), (4, (Pt n 0 0)), (6, (.pointer (some ⟨(n + 1), 0, some 0⟩))), (7, (.pointer (some ⟨(n + 2), 0, some 0⟩))), (8, (.int .i64 0)), (9, (Pt n1 0 0)), (10, (W x)), (15, (.bool false)), (21, (.slice (some ⟨in1, 0, none⟩) 1 0)), (22, (.int .i64 1)), (23, (.int .i64 0)), (24, (.bool true))] ⟨rfl, rfl, rfl, rfl, rfl, rfl, rfl, rfl, rfl, rfl, rfl, rfl, rfl, rfl, trivial⟩ (fun τr3 => ?_)
 refine RA.seq hd ?_
 refine RA.region env_ok ?_
 refine OA.p (some 13) (.string (ByteArray.mk #[])) rfl rfl rfl rfl ?_
 refine OA.nil ?_
 intro _
 refine RA.seq hd ?_
 refine RA.seq hd ?_
 refine RA.region env_ok ?_
 refine OA.p (some 34) (.int .i64 0) rfl rfl rfl rfl ?_
 refine OA.p (some 35) (.slice (some ⟨j, 0, none⟩) 1 0) rfl rfl rfl rfl ?_
 refine OA.p (some 36) (.int .i64 1) rfl rfl rfl rfl ?_
 refine OA.p (some 37) (.bool true) rfl rfl rfl (r_bin rfl rfl rfl (b_lss rfl)) ?_
 refine OA.p (some 38) (.bool true) rfl rfl rfl rfl ?_
 refine OA.p (some 39) (.slice (some ⟨j, 0, none⟩) 1 0) rfl rfl rfl rfl ?_
 refine OA.p (some 40) (.int .i64 0) rfl rfl rfl rfl ?_
 refine OA.p (some 41) (Pt j 0 0) rfl rfl rfl (r_iaS (l := 0) rfl rfl rfl rfl rfl rfl (by omega) (by omega) (gt5 (by omega) hj) rfl (by omega)) ?_
 refine OA.p (some 42) (.int .i64 ((w : Nat) : Int)) rfl rfl rfl (r_load1 rfl rfl rfl rfl rfl (gt5 (by omega) hj) rfl rfl) ?_
 have hc1 : ((w : Nat) : Int) ≠ 0 := Classical.byContradiction (fun hdd => by exfalso; omega)
 refine OA.p (some 43) (.bool true) rfl rfl rfl (Eq.trans (r_bin rfl rfl rfl (b_neq rfl)) (dT hc1)) ?_
 refine OA.p (some 44) (.bool true) rfl rfl rfl rfl ?_
 refine OA.nil ?_
 intro _
 refine RA.condT rfl ?_
 refine RA.region env_ok ?_
 refine OA.p (some 45) (.slice (some ⟨j, 0, none⟩) 1 0) rfl rfl rfl rfl ?_
 refine OA.p (some 46) (.int .i64 0) rfl rfl rfl rfl ?_
 refine OA.p (some 47) (Pt j 0 0) rfl rfl rfl (r_iaS (l := 0) rfl rfl rfl rfl rfl rfl (by omega) (by omega) (gt5 (by omega) hj) rfl (by omega)) ?_
 refine OA.p (some 48) (.int .i64 ((w : Nat) : Int)) rfl rfl rfl (r_load1 rfl rfl rfl rfl rfl (gt5 (by omega) hj) rfl rfl) ?_
 refine OA.p (some 49) (.agg ⟨[(.int .i64 ((w : Nat) : Int)), (.string ByteArray.empty)]⟩) rfl rfl rfl (by kernel_rfl) ?_
 refine OA.callP (dst := (some 50)) (all := [(.agg ⟨[(.int .i64 ((w : Nat) : Int)), (.string ByteArray.empty)]⟩)]) (v := (.string (bstr (pL w [])))) (hd.of (by omega) (kb5 (by omega))) rfl rfl rfl rfl rfl rfl rfl rfl (lCPut w [] (by omega) (by decide)) ?_
 intro n4 hn4
 refine OA.p (some 13) (.string (bstr (pL w []))) rfl rfl rfl rfl ?_
 refine OA.nil ?_
 intro _
 refine RA.par (md := [some [], some [(n + 2)], some [], some [], none, some [], none, some [], none]) env_ok (hd.of (by omega) (kb5 (by omega))) (by kernel_rfl) ?_
 refine PQ.pure (dst := (some 51)) (v := (.pointer (some ⟨(n + 2), 0, some 11⟩))) rfl rfl rfl noStore (none_ok _ _) rfl ?_
 refine PQ.pure (dst := (some 52)) (v := (.slice none 0 0)) rfl rfl rfl (app [((n + 2), some ⟨[(xAc515 x)], 15, 53, true⟩)] noStore) (seen_one (V := []) (D := [(n1, some ⟨[[(.int .i64 49154), (.string (bstr (be4 x ++ (be2 5 ++ (be2 8 ++ (be4 0#32 ++ []))))))]], 2, 35, true⟩), (in1, some ⟨[[(.int .i64 49154), (.string (bstr (be4 x ++ (be2 5 ++ (be2 8 ++ (be4 0#32 ++ []))))))]], 2, 35, true⟩), ((n + 2), some ⟨[(xAc515 x)], 15, 53, true⟩), ((n + 1), some ⟨[xAc514], 15, 53, true⟩), (n, some ⟨[(xAc513 x k)], 15, 53, true⟩)]) (by kernel_rfl) (gt2 (by omega) get_here)) (r_load1 rfl rfl rfl rfl rfl get_here rfl rfl) ?_
 refine PQ.pure (dst := (some 53)) (v := (W x)) rfl rfl rfl noStore (none_ok _ _) rfl ?_
 refine PQ.pure (dst := (some 54)) (v := (.string (bstr (pL w [])))) rfl rfl rfl noStore (none_ok _ _) rfl ?_
 refine PQ.callP (dst := (some 55)) (all := [(W x), (.string (bstr (pL w [])))]) (v := (.agg ⟨[(.int .i64 49155), (.string (bstr (be4 x ++ pL w [])))]⟩)) _ (hd.of (by omega) (kb5 (by omega))) rfl rfl rfl rfl rfl rfl rfl rfl (seen_any (V := []) (D := [(n1, some ⟨[[(.int .i64 49154), (.string (bstr (be4 x ++ (be2 5 ++ (be2 8 ++ (be4 0#32 ++ []))))))]], 2, 35, true⟩), (in1, some ⟨[[(.int .i64 49154), (.string (bstr (be4 x ++ (be2 5 ++ (be2 8 ++ (be4 0#32 ++ []))))))]], 2, 35, true⟩), ((n + 2), some ⟨[(xAc515 x)], 15, 53, true⟩), ((n + 1), some ⟨[xAc514], 15, 53, true⟩), (n, some ⟨[(xAc513 x k)], 15, 53, true⟩)]) (by kernel_rfl)) (aAns1 x (pL w []) (pL0_len w)) ?_
 intro n5 hn5
 refine PQ.op (dst := (some 56)) (v := (.slice (some ⟨n5, 0, none⟩) 1 0)) (n1 := (n5 + 1)) (d1 := [(n5, some ⟨[[(.int .i64 49155), (.string (bstr (be4 x ++ pL w [])))]], 2, 35, true⟩)]) rfl rfl rfl noStore (none_ok _ _) (by kernel_rfl) (by omega) (kp1 (wr_new (by omega) (by omega))) ?_
 refine PQ.op (dst := (some 57)) (v := (.slice (some ⟨(n5 + 1), 0, none⟩) 1 0)) (n1 := (n5 + 2)) (d1 := [((n5 + 1), some ⟨[[(.int .i64 49155), (.string (bstr (be4 x ++ pL w [])))]], 2, 35, true⟩)]) rfl rfl rfl _ (seen_any (V := [(n5, some ⟨[[(.int .i64 49155), (.string (bstr (be4 x ++ pL w [])))]], 2, 35, true⟩)]) (D := [(n1, some ⟨[[(.int .i64 49154), (.string (bstr (be4 x ++ (be2 5 ++ (be2 8 ++ (be4 0#32 ++ []))))))]], 2, 35, true⟩), (in1, some ⟨[[(.int .i64 49154), (.string (bstr (be4 x ++ (be2 5 ++ (be2 8 ++ (be4 0#32 ++ []))))))]], 2, 35, true⟩), ((n + 2), some ⟨[(xAc515 x)], 15, 53, true⟩), ((n + 1), some ⟨[xAc514], 15, 53, true⟩), (n, some ⟨[(xAc513 x k)], 15, 53, true⟩)]) (by kernel_rfl)) (r_append0 rfl rfl rfl rfl rfl rfl rfl rfl rfl rfl (by decide) get_here (of_decide_eq_true (by kernel_rfl))) (by omega) (kp1 (wr_new (by omega) (by omega))) ?_
 refine PQ.pure (dst := (some 58)) (v := (.pointer (some ⟨(n + 2), 0, some 11⟩))) rfl rfl rfl noStore (none_ok _ _) rfl ?_
 refine PQ.op (dst := none) (v := (.tuple #[])) (n1 := (n5 + 2)) (d1 := [((n + 2), some ⟨[(xAc59 x n5)], 15, 53, true⟩)]) rfl rfl rfl _ (seen_any (V := [((n5 + 1), some ⟨[[(.int .i64 49155), (.string (bstr (be4 x ++ pL w [])))]], 2, 35, true⟩), (n5, some ⟨[[(.int .i64 49155), (.string (bstr (be4 x ++ pL w [])))]], 2, 35, true⟩)]) (D := [(n1, some ⟨[[(.int .i64 49154), (.string (bstr (be4 x ++ (be2 5 ++ (be2 8 ++ (be4 0#32 ++ []))))))]], 2, 35, true⟩), (in1, some ⟨[[(.int .i64 49154), (.string (bstr (be4 x ++ (be2 5 ++ (be2 8 ++ (be4 0#32 ++ []))))))]], 2, 35, true⟩), ((n + 2), some ⟨[(xAc515 x)], 15, 53, true⟩), ((n + 1), some ⟨[xAc514], 15, 53, true⟩), (n, some ⟨[(xAc513 x k)], 15, 53, true⟩)]) (by kernel_rfl)) (r_store rfl rfl rfl rfl rfl rfl rfl (gt4 (by omega) get_here) rfl rfl (Nat.le_of_ble_eq_true rfl) rfl) (by omega) (kp1 (wr_tight (by kernel_rfl) (by omega))) ?_
 refine PQ.done (d := [((n + 2), some ⟨[(xAc59 x n5)], 15, 53, true⟩), ((n5 + 1), some ⟨[[(.int .i64 49155), (.string (bstr (be4 x ++ pL w [])))]], 2, 35, true⟩), (n5, some ⟨[[(.int .i64 49155), (.string (bstr (be4 x ++ pL w [])))]], 2, 35, true⟩)]) (by kernel_rfl) ?_
 intro _
 refine RA.weaken (D' := [((n + 2), some ⟨[(xAc59 x n5)], 15, 53, true⟩), ((n5 + 1), some ⟨[[(.int .i64 49155), (.string (bstr (be4 x ++ pL w [])))]], 2, 35, true⟩), (n5, some ⟨[[(.int .i64 49155), (.string (bstr (be4 x ++ pL w [])))]], 2, 35, true⟩), (n1, some ⟨[[(.int .i64 49154), (.string (bstr (be4 x ++ (be2 5 ++ (be2 8 ++ (be4 0#32 ++ []))))))]], 2, 35, true⟩), (in1, some ⟨[[(.int .i64 49154), (.string (bstr (be4 x ++ (be2 5 ++ (be2 8 ++ (be4 0#32 ++ []))))))]], 2, 35, true⟩), ((n + 1), some ⟨[xAc514], 15, 53, true⟩), (n, some ⟨[(xAc513 x k)], 15, 53, true⟩)]) hd (Less.of (fac (mm (fun _ => get_here) (fun _ => get_here)) (fac (mm (fun _ => (get_there (by omega) get_here)) (fun _ => (get_there (by omega) get_here))) (fac (mm (fun _ => (gt2 (by omega) get_here)) (fun _ => (gt2 (by omega) get_here))) (fac (mm (fun _ => (gt3 (by omega) get_here)) (fun _ => (gt3 (by omega) get_here))) (fac (mm (fun _ => (gt4 (by omega) get_here)) (fun _ => (gt4 (by omega) get_here))) (fac (mm (fun _ => (gt5 (by omega) get_here)) (fun _ => (gt6 (by omega) get_here))) (fac (mm (fun _ => (gt6 (by omega) get_here)) (fun _ => (gt7 (by omega) get_here))) fan))))))) (gone_of (by simp only [goneP, memP, List.cons_append, List.nil_append, true_or, or_true, true_and, and_true, or_false] <;> omega))) ?_
 refine RA.rebase [(0, (Pt b 0 0)), (1, (.agg ⟨(xAc513 x k)⟩)), (2, (.slice (some ⟨j, 0, none⟩) 1 0)), (4, (Pt n 0 0)), (6, (.pointer (some ⟨(n + 1), 0, some 0⟩))), (7, (.pointer (some ⟨(n + 2), 0, some 0⟩))), (8, (.int .i64 0)), (9, (Pt n1 0 0)), (10, (W x)), (13, (.string (bstr (pL w [])))), (15, (.bool false)), (21, (.slice (some ⟨in1, 0, none⟩) 1 0)), (22, (.int .i64 1)), (23, (.int .i64 0)), (24, (.bool true)), (44, (.bool true))] ⟨rfl, rfl, rfl, rfl, rfl, rfl, rfl, rfl, rfl, rfl, rfl, rfl, rfl, rfl, rfl, rfl, trivial⟩ (fun τr6 => ?_)
 refine RA.region env_ok ?_
 refine OA.p (some 59) (.int .i64 1) rfl rfl rfl (r_bin rfl rfl rfl (b_add (i64_eq (by omega)))) ?_
 refine OA.p (some 23) (.int .i64 1) rfl rfl rfl rfl ?_
 refine OA.nil ?_
 intro _
 refine RA.unroll hd ?_
 refine RA.seq hd ?_
 refine RA.region env_ok ?_
 refine OA.p (some 24) (.bool false) rfl rfl rfl (r_bin rfl rfl rfl (b_lss rfl)) ?_
 refine OA.nil ?_
 intro _
 refine RA.seq hd ?_
 refine RA.condF rfl ?_
 refine RA.exit env_ok ?_
 intro _
 refine RA.seq hd ?_
 refine RA.region env_ok ?_
 refine OA.p (some 60) (Pt b 0 0) rfl rfl rfl rfl ?_
 refine OA.p (some 61) (Pt b 0 0) rfl rfl rfl rfl ?_
 refine OA.p (some 62) (.agg ⟨(xAc59 x n5)⟩) rfl rfl rfl (r_loadA rfl rfl rfl rfl get_here rfl rfl rfl) ?_
 refine OA.p (some 63) (Pt b 0 0) rfl rfl rfl rfl ?_
 refine OA.p (some 64) (Pt b 0 1) rfl rfl rfl rfl ?_
 refine OA.op1 (dst := none) (v := (.tuple #[])) (n1 := (n5 + 2)) (w := (b, some ⟨[[(W nx), (.int .i64 128), (.int .i64 0), (W x), (.int .i64 0), (.int .i64 0), (.int .u32 0), (.string ByteArray.empty), (.int .u32 0), (.int .u32 0), (.int .i64 0), (.int .i64 0), (.slice (some ⟨(n5 + 1), 0, none⟩) 1 0), (.slice none 0 0), (.slice none 0 0), (.slice none 0 0), (.bool false)]], 17, 103, true⟩)) rfl rfl rfl (r_store rfl rfl rfl rfl rfl rfl rfl (gt7 (by omega) hb) rfl rfl (Nat.le_of_ble_eq_true rfl) rfl) (by omega) ?_
 refine OA.p (some 65) (Pt b 0 0) rfl rfl rfl rfl ?_
 refine OA.p (some 66) (Pt b 0 16) rfl rfl rfl rfl ?_
 refine OA.op1 (dst := none) (v := (.tuple #[])) (n1 := (n5 + 2)) (w := (b, some ⟨[(xAc54 nx x n5)], 17, 103, true⟩)) rfl rfl rfl (r_store rfl rfl rfl rfl rfl rfl rfl get_here rfl rfl (Nat.le_of_ble_eq_true rfl) rfl) (by omega) ?_
 refine OA.nil ?_
 intro _
 refine RA.weaken (D' := [(b, some ⟨[(xAc54 nx x n5)], 17, 103, true⟩), ((n + 2), some ⟨[(xAc59 x n5)], 15, 53, true⟩), ((n5 + 1), some ⟨[[(.int .i64 49155), (.string (bstr (be4 x ++ pL w [])))]], 2, 35, true⟩), (n5, some ⟨[[(.int .i64 49155), (.string (bstr (be4 x ++ pL w [])))]], 2, 35, true⟩), (n1, some ⟨[[(.int .i64 49154), (.string (bstr (be4 x ++ (be2 5 ++ (be2 8 ++ (be4 0#32 ++ []))))))]], 2, 35, true⟩), (in1, some ⟨[[(.int .i64 49154), (.string (bstr (be4 x ++ (be2 5 ++ (be2 8 ++ (be4 0#32 ++ []))))))]], 2, 35, true⟩), ((n + 1), some ⟨[xAc514], 15, 53, true⟩), (n, some ⟨[(xAc513 x k)], 15, 53, true⟩)]) hd (Less.of (fac (mm (fun _ => get_here) (fun _ => get_here)) (fac (mm (fun _ => (get_there (by omega) get_here)) (fun _ => (gt2 (by omega) get_here))) (fac (mm (fun _ => (gt2 (by omega) get_here)) (fun _ => (gt3 (by omega) get_here))) (fac (mm (fun _ => (gt3 (by omega) get_here)) (fun _ => (gt4 (by omega) get_here))) (fac (mm (fun _ => (gt4 (by omega) get_here)) (fun _ => (gt5 (by omega) get_here))) (fac (mm (fun _ => (gt5 (by omega) get_here)) (fun _ => (gt6 (by omega) get_here))) (fac (mm (fun _ => (gt6 (by omega) get_here)) (fun _ => (gt7 (by omega) get_here))) (fac (mm (fun _ => (gt7 (by omega) get_here)) (fun _ => (gt8 (by omega) get_here))) fan)))))))) (gone_of (by simp only [goneP, memP, List.cons_append, List.nil_append, true_or, or_true, true_and, and_true, or_false] <;> omega))) ?_
 refine RA.seq hd ?_
 refine RA.region env_ok ?_
 refine OA.p (some 67) (Pt b 0 0) rfl rfl rfl rfl ?_
 refine OA.p (some 68) (Pt b 0 0) rfl rfl rfl rfl ?_
 refine OA.p (some 69) (Pt b 0 0) rfl rfl rfl rfl ?_
 refine OA.p (some 70) (W nx) rfl rfl rfl (r_load1 rfl rfl rfl rfl rfl get_here rfl rfl) ?_
 refine OA.p (some 71) (W (nx + (1#32))) rfl rfl rfl (r_bin rfl rfl rfl (b_addW nx (1#32))) ?_
 refine OA.p (some 72) (Pt b 0 0) rfl rfl rfl rfl ?_
 refine OA.p (some 73) (Pt b 0 0) rfl rfl rfl rfl ?_
 refine OA.op1 (dst := none) (v := (.tuple #[])) (n1 := (n5 + 2)) (w := (b, some ⟨[(xAc52 nx x n5)], 17, 103, true⟩)) rfl rfl rfl (r_store rfl rfl rfl rfl rfl rfl rfl get_here rfl rfl (Nat.le_of_ble_eq_true rfl) rfl) (by omega) ?_
 refine OA.nil ?_
 intro _
 refine RA.weaken (D' := [(b, some ⟨[(xAc52 nx x n5)], 17, 103, true⟩), ((n + 2), some ⟨[(xAc59 x n5)], 15, 53, true⟩), ((n5 + 1), some ⟨[[(.int .i64 49155), (.string (bstr (be4 x ++ pL w [])))]], 2, 35, true⟩), (n5, some ⟨[[(.int .i64 49155), (.string (bstr (be4 x ++ pL w [])))]], 2, 35, true⟩), (n1, some ⟨[[(.int .i64 49154), (.string (bstr (be4 x ++ (be2 5 ++ (be2 8 ++ (be4 0#32 ++ []))))))]], 2, 35, true⟩), (in1, some ⟨[[(.int .i64 49154), (.string (bstr (be4 x ++ (be2 5 ++ (be2 8 ++ (be4 0#32 ++ []))))))]], 2, 35, true⟩), ((n + 1), some ⟨[xAc514], 15, 53, true⟩), (n, some ⟨[(xAc513 x k)], 15, 53, true⟩)]) hd (Less.of (fac (mm (fun _ => get_here) (fun _ => get_here)) (fac (mm (fun _ => (get_there (by omega) get_here)) (fun _ => (gt2 (by omega) get_here))) (fac (mm (fun _ => (gt2 (by omega) get_here)) (fun _ => (gt3 (by omega) get_here))) (fac (mm (fun _ => (gt3 (by omega) get_here)) (fun _ => (gt4 (by omega) get_here))) (fac (mm (fun _ => (gt4 (by omega) get_here)) (fun _ => (gt5 (by omega) get_here))) (fac (mm (fun _ => (gt5 (by omega) get_here)) (fun _ => (gt6 (by omega) get_here))) (fac (mm (fun _ => (gt6 (by omega) get_here)) (fun _ => (gt7 (by omega) get_here))) (fac (mm (fun _ => (gt7 (by omega) get_here)) (fun _ => (gt8 (by omega) get_here))) fan)))))))) (gone_of (by simp only [goneP, memP, List.cons_append, List.nil_append, true_or, or_true, true_and, and_true, or_false] <;> omega))) ?_
 refine RA.seq hd ?_
 refine RA.region env_ok ?_
 refine OA.p (some 74) (.agg ⟨(xAc59 x n5)⟩) rfl rfl rfl (r_loadA rfl rfl rfl rfl (get_there (by omega) get_here) rfl rfl rfl) ?_
 refine OA.op1 (dst := none) (v := (.tuple #[])) (n1 := (n5 + 2)) (w := ((n + 1), some ⟨[(xAc59 x n5)], 15, 53, true⟩)) rfl rfl rfl (r_store rfl rfl rfl rfl rfl rfl rfl (gt6 (by omega) get_here) rfl rfl (Nat.le_of_ble_eq_true rfl) rfl) (by omega) ?_
 refine OA.nil ?_
 intro _
 refine RA.weaken (D' := [((n + 1), some ⟨[(xAc59 x n5)], 15, 53, true⟩), (b, some ⟨[(xAc52 nx x n5)], 17, 103, true⟩), ((n + 2), some ⟨[(xAc59 x n5)], 15, 53, true⟩), ((n5 + 1), some ⟨[[(.int .i64 49155), (.string (bstr (be4 x ++ pL w [])))]], 2, 35, true⟩), (n5, some ⟨[[(.int .i64 49155), (.string (bstr (be4 x ++ pL w [])))]], 2, 35, true⟩), (n1, some ⟨[[(.int .i64 49154), (.string (bstr (be4 x ++ (be2 5 ++ (be2 8 ++ (be4 0#32 ++ []))))))]], 2, 35, true⟩), (in1, some ⟨[[(.int .i64 49154), (.string (bstr (be4 x ++ (be2 5 ++ (be2 8 ++ (be4 0#32 ++ []))))))]], 2, 35, true⟩), (n, some ⟨[(xAc513 x k)], 15, 53, true⟩)]) hd (Less.of (fac (mm (fun _ => get_here) (fun _ => get_here)) (fac (mm (fun _ => (get_there (by omega) get_here)) (fun _ => (get_there (by omega) get_here))) (fac (mm (fun _ => (gt2 (by omega) get_here)) (fun _ => (gt2 (by omega) get_here))) (fac (mm (fun _ => (gt3 (by omega) get_here)) (fun _ => (gt3 (by omega) get_here))) (fac (mm (fun _ => (gt4 (by omega) get_here)) (fun _ => (gt4 (by omega) get_here))) (fac (mm (fun _ => (gt5 (by omega) get_here)) (fun _ => (gt5 (by omega) get_here))) (fac (mm (fun _ => (gt6 (by omega) get_here)) (fun _ => (gt6 (by omega) get_here))) (fac (mm (fun _ => (gt7 (by omega) get_here)) (fun _ => (gt8 (by omega) get_here))) fan)))))))) (gone_of (by simp only [goneP, memP, List.cons_append, List.nil_append, true_or, or_true, true_and, and_true, or_false] <;> omega))) ?_
 refine RA.ret env_ok ?_
 refine ⟨.inr rfl, [(.agg ⟨(xAc59 x n5)⟩)], (resL_cons (res_cellA rfl rfl rfl get_here rfl rfl rfl) resL_nil), [(b, some ⟨[(xAc52 nx x n5)], 17, 103, true⟩), ((n5 + 1), some ⟨[[(.int .i64 49155), (.string (bstr (be4 x ++ pL w [])))]], 2, 35, true⟩)], (Less.of (fac (mm (fun _ => get_here) (fun _ => (get_there (by omega) get_here))) (fac (mm (fun _ => (get_there (by omega) get_here)) (fun _ => (gt3 (by omega) get_here))) fan)) (gone_of (by simp only [goneP, memP, List.cons_append, List.nil_append, true_or, or_true, true_and, and_true, or_false] <;> omega))), ⟨(n5 + 1), by omega, by omega, rfl, rfl⟩⟩

theorem aGive491541T {n : Nat} {σ : Store} (hd : Dom n σ) (x nx lt : BitVec 32) (b k j ka : Nat) (w : Nat) (hw0 : ¬ w = 0) (hw : w ≤ 255) (hb : σ b = some ⟨[[(W nx), (.int .i64 128), (.int .i64 0), (W lt), (.int .i64 0), (.int .i64 0), (.int .u32 0), (.string ByteArray.empty), (.int .u32 0), (.int .u32 0), (.int .i64 0), (.int .i64 0), (.slice (some ⟨ka, 0, none⟩) 1 0), (.slice none 0 0), (.slice none 0 0), (.slice none 0 0), (.bool true)]], 17, 103, true⟩) (hk : σ k = some ⟨[[(.int .i64 5), (.string (bstr (be4 0#32)))], [(.int .i64 49154), (.string (bstr (be4 x ++ (be2 5 ++ (be2 8 ++ (be4 0#32 ++ []))))))], [(.int .i64 49160), (.string (bstr ((be4 x ++ be4 3#32) ++ be4 4#32)))]], 2, 35, true⟩) (hj : σ j = some ⟨[[(.int .i64 ((w : Nat) : Int))]], 1, 3, true⟩)  : CQ Try.prog noDen 41 [(Pt b 0 0), (.agg ⟨[(.int .i64 193), (.int .i64 0), (W x), (.int .i64 0), (.int .i64 0), (.int .u32 0), (.string ByteArray.empty), (.int .u32 0), (.int .u32 0), (.int .i64 0), (.int .i64 0), (.slice (some ⟨k, 0, none⟩) 3 0), (.slice none 0 0), (.slice none 0 0), (.slice none 0 0)]⟩), (.slice (some ⟨j, 0, none⟩) 1 0)] n σ (fun v n' d => ∃ i, n ≤ i ∧ i < n' ∧ v = (.agg ⟨[(.int .i64 128), (.int .i64 0), (W x), (.int .i64 0), (.int .i64 0), (.int .u32 0), (.string ByteArray.empty), (.int .u32 0), (.int .u32 0), (.int .i64 0), (.int .i64 0), (.slice (some ⟨i, 0, none⟩) 1 0), (.slice none 0 0), (.slice none 0 0), (.slice none 0 0)]⟩) ∧ d = [(b, some ⟨[[(W (nx + 1#32)), (.int .i64 128), (.int .i64 0), (W x), (.int .i64 0), (.int .i64 0), (.int .u32 0), (.string ByteArray.empty), (.int .u32 0), (.int .u32 0), (.int .i64 0), (.int .i64 0), (.slice (some ⟨i, 0, none⟩) 1 0), (.slice none 0 0), (.slice none 0 0), (.slice none 0 0), (.bool true)]], 17, 103, true⟩), (i, some ⟨[[(.int .i64 49155), (.string (bstr (be4 x ++ pL w [])))]], 2, 35, true⟩)]) := by
 have lhb := hd.lt hb
 have lhk := hd.lt hk
 have lhj := hd.lt hj
 refine CQ.body (E := env) env_ok hd rfl rfl (by show _ ≤ _; exact of_decide_eq_true (by kernel_rfl)) ?_
 refine RA.seq hd ?_
 refine RA.region env_ok ?_
 refine OA.op1 (dst := (some 4)) (v := (Pt n 0 0)) (n1 := (n + 1)) (w := (n, some ⟨[(xAc513 x k)], 15, 53, true⟩)) rfl rfl rfl rfl (by omega) ?_
 refine OA.op1 (dst := (some 6)) (v := (.pointer (some ⟨(n + 1), 0, some 0⟩))) (n1 := (n + 2)) (w := ((n + 1), some ⟨[xAc514], 15, 53, true⟩)) rfl rfl rfl rfl (by omega) ?_
 refine OA.nil ?_
 intro _
 refine RA.seq hd ?_
 refine RA.seq hd ?_
 refine RA.region env_ok ?_
 refine OA.p (some 14) (Pt b 0 0) rfl rfl rfl rfl ?_
 refine OA.p (some 15) (.bool false) rfl rfl rfl rfl ?_
 refine OA.nil ?_
 intro _
 refine RA.condF rfl ?_
 refine RA.skip env_ok ?_
 intro _
 refine RA.seq hd ?_
 refine RA.region env_ok ?_
 refine OA.p (some 17) (Pt n 0 2) rfl rfl rfl rfl ?_
 refine OA.p (some 18) (W x) rfl rfl rfl (r_load1 rfl rfl rfl rfl rfl (get_there (by omega) get_here) rfl rfl) ?_
 refine OA.p (some 19) (.agg ⟨(xAc515 x)⟩) rfl rfl rfl (by kernel_rfl) ?_
 refine OA.op1 (dst := (some 7)) (v := (.pointer (some ⟨(n + 2), 0, some 0⟩))) (n1 := (n + 3)) (w := ((n + 2), some ⟨[xAc514], 15, 53, true⟩)) rfl rfl rfl rfl (by omega) ?_
 refine OA.op1 (dst := none) (v := (.tuple #[])) (n1 := (n + 3)) (w := ((n + 2), some ⟨[(xAc515 x)], 15, 53, true⟩)) rfl rfl rfl (r_store rfl rfl rfl rfl rfl rfl rfl get_here rfl rfl (Nat.le_of_ble_eq_true rfl) rfl) (by omega) ?_
 refine OA.nil ?_
 intro _
 refine RA.weaken (D' := [((n + 2), some ⟨[(xAc515 x)], 15, 53, true⟩), ((n + 1), some ⟨[xAc514], 15, 53, true⟩), (n, some ⟨[(xAc513 x k)], 15, 53, true⟩)]) hd (Less.of (fac (mm (fun _ => get_here) (fun _ => get_here)) (fac (mm (fun _ => (get_there (by omega) get_here)) (fun _ => (gt2 (by omega) get_here))) (fac (mm (fun _ => (gt2 (by omega) get_here)) (fun _ => (gt3 (by omega) get_here))) fan))) (gone_of (by simp only [goneP, memP, List.cons_append, List.nil_append, true_or, or_true, true_and, and_true, or_false] <;> omega))) ?_
 refine RA.seq hd ?_
 refine RA.seq hd ?_
 refine RA.region env_ok ?_
 refine OA.p (some 20) (.agg ⟨(xAc513 x k)⟩) rfl rfl rfl (r_loadA rfl rfl rfl rfl (gt2 (by omega) get_here) rfl rfl rfl) ?_
 refine OA.call (dst := (some 21)) (all := [(.agg ⟨(xAc513 x k)⟩)]) rfl rfl rfl rfl rfl rfl rfl rfl (CQ.imp (aAsked49154 (hd.of (by omega) (kb3 (by omega))) x k (gt3 (by omega) hk)) ?_)
 rintro _ n1 _ ⟨in1, p1n1, p2n1, rfl, rfl⟩ hn1
 refine OA.app1 ?_
 refine OA.p (some 22) (.int .i64 1) rfl rfl rfl rfl ?_
 refine OA.p (some 23) (.int .i64 0) rfl rfl rfl rfl ?_
 refine OA.nil ?_
 intro _
 refine RA.block ?_
 refine RA.unroll hd ?_
 refine RA.seq hd ?_
 refine RA.region env_ok ?_
 refine OA.p (some 24) (.bool true) rfl rfl rfl (r_bin rfl rfl rfl (b_lss rfl)) ?_
 refine OA.nil ?_
 intro _
 refine RA.seq hd ?_
 refine RA.condT rfl ?_
 refine RA.skip env_ok ?_
 intro _
 refine RA.seq hd ?_
 refine RA.block ?_
 refine RA.seq hd ?_
 refine RA.region env_ok ?_
 refine OA.p (some 25) (.int .i64 0) rfl rfl rfl rfl ?_
 refine OA.p (some 26) (Pt in1 0 0) rfl rfl rfl (r_iaS (l := 0) rfl rfl rfl rfl rfl rfl (by omega) (by omega) get_here rfl (by omega)) ?_
 refine OA.p (some 27) (.agg ⟨[(.int .i64 49154), (.string (bstr (be4 x ++ (be2 5 ++ (be2 8 ++ (be4 0#32 ++ []))))))]⟩) rfl rfl rfl (r_loadA rfl rfl rfl rfl get_here rfl rfl rfl) ?_
 refine OA.op1 (dst := (some 9)) (v := (Pt n1 0 0)) (n1 := (n1 + 1)) (w := (n1, some ⟨[[(.int .i64 0), (.string ByteArray.empty)]], 2, 35, true⟩)) rfl rfl rfl rfl (by omega) ?_
 refine OA.p (some 8) (.int .i64 0) rfl rfl rfl rfl ?_
 refine OA.op1 (dst := none) (v := (.tuple #[])) (n1 := (n1 + 1)) (w := (n1, some ⟨[[(.int .i64 49154), (.string (bstr (be4 x ++ (be2 5 ++ (be2 8 ++ (be4 0#32 ++ []))))))]], 2, 35, true⟩)) rfl rfl rfl (r_store rfl rfl rfl rfl rfl rfl rfl get_here rfl rfl (Nat.le_of_ble_eq_true rfl) rfl) (by omega) ?_
 refine OA.nil ?_
 intro _
 refine RA.weaken (D' := [(n1, some ⟨[[(.int .i64 49154), (.string (bstr (be4 x ++ (be2 5 ++ (be2 8 ++ (be4 0#32 ++ []))))))]], 2, 35, true⟩), (in1, some ⟨[[(.int .i64 49154), (.string (bstr (be4 x ++ (be2 5 ++ (be2 8 ++ (be4 0#32 ++ []))))))]], 2, 35, true⟩), ((n + 2), some ⟨[(xAc515 x)], 15, 53, true⟩), ((n + 1), some ⟨[xAc514], 15, 53, true⟩), (n, some ⟨[(xAc513 x k)], 15, 53, true⟩)]) hd (Less.of (fac (mm (fun _ => get_here) (fun _ => get_here)) (fac (mm (fun _ => (get_there (by omega) get_here)) (fun _ => (gt2 (by omega) get_here))) (fac (mm (fun _ => (gt2 (by omega) get_here)) (fun _ => (gt3 (by omega) get_here))) (fac (mm (fun _ => (gt3 (by omega) get_here)) (fun _ => (gt4 (by omega) get_here))) (fac (mm (fun _ => (gt4 (by omega) get_here)) (fun _ => (gt5 (by omega) get_here))) fan))))) (gone_of (by simp only [goneP, memP, List.cons_append, List.nil_append, true_or, or_true, true_and, and_true, or_false] <;> omega))) ?_
 refine RA.seq hd ?_
 refine RA.region env_ok ?_
 refine OA.p (some 29) (.agg ⟨[(.int .i64 49154), (.string (bstr (be4 x ++ (be2 5 ++ (be2 8 ++ (be4 0#32 ++ []))))))]⟩) rfl rfl rfl (r_loadA rfl rfl rfl rfl get_here rfl rfl rfl) ?_
 refine OA.callP (dst := (some 30)) (all := [(.agg ⟨[(.int .i64 49154), (.string (bstr (be4 x ++ (be2 5 ++ (be2 8 ++ (be4 0#32 ++ []))))))]⟩)]) (v := (.tuple ⟨[(W x), (W 0#32), (.bool true)]⟩)) (hd.of (by omega) (kb5 (by omega))) rfl rfl rfl rfl rfl rfl rfl rfl (cReq49154 x) ?_
 intro n2 hn2
 refine OA.p (some 28) (.tuple ⟨[(W x), (W 0#32), (.bool true)]⟩) rfl rfl rfl rfl ?_
 refine OA.p (some 31) (W x) rfl rfl rfl rfl ?_
 refine OA.p (some 32) (W 0#32) rfl rfl rfl rfl ?_
 refine OA.p (some 33) (.bool true) rfl rfl rfl rfl ?_
 refine OA.p (some 10) (W x) rfl rfl rfl rfl ?_
 refine OA.p (some 11) (W 0#32) rfl rfl rfl rfl ?_
 refine OA.p (some 12) (.bool true) rfl rfl rfl rfl ?_
 refine OA.nil ?_
 intro _
 refine RA.rebase [(0, (Pt b 0 0)), (1, (.agg ⟨(xAc513 x k)⟩)), (2, (.slice (some ⟨j, 0, none⟩) 1 0)), (4, (Pt n 0 0)), (6, (.pointer (some ⟨(n + 1), 0, some 0⟩))), (7, (.pointer (some ⟨(n + 2), 0, some 0⟩))), (8, (.int .i64 0)), (9, (Pt n1 0 0)), (10, (W x)), (15, (.bool false)), (21, (.slice (some ⟨in1, 0, none⟩) 1 0)), (22, (.int .i64 1)), (23, (.int .i64 0)), (24, (.bool true))] ⟨rfl, rfl, rfl, rfl, rfl, rfl, rfl, rfl, rfl, rfl, rfl, rfl, rfl, rfl, trivial⟩ (fun τr3 => ?_)
 refine RA.seq hd ?_
 refine RA.region env_ok ?_
 refine OA.p (some 13) (.string (ByteArray.mk #[])) rfl rfl rfl rfl ?_
 refine OA.nil ?_
 intro _
 refine RA.seq hd ?_
 refine RA.seq hd ?_
 refine RA.region env_ok ?_
 refine OA.p (some 34) (.int .i64 0) rfl rfl rfl rfl ?_
 refine OA.p (some 35) (.slice (some ⟨j, 0, none⟩) 1 0) rfl rfl rfl rfl ?_
 refine OA.p (some 36) (.int .i64 1) rfl rfl rfl rfl ?_
 refine OA.p (some 37) (.bool true) rfl rfl rfl (r_bin rfl rfl rfl (b_lss rfl)) ?_
 refine OA.p (some 38) (.bool true) rfl rfl rfl rfl ?_
 refine OA.p (some 39) (.slice (some ⟨j, 0, none⟩) 1 0) rfl rfl rfl rfl ?_
 refine OA.p (some 40) (.int .i64 0) rfl rfl rfl rfl ?_
 refine OA.p (some 41) (Pt j 0 0) rfl rfl rfl (r_iaS (l := 0) rfl rfl rfl rfl rfl rfl (by omega) (by omega) (gt5 (by omega) hj) rfl (by omega)) ?_
 refine OA.p (some 42) (.int .i64 ((w : Nat) : Int)) rfl rfl rfl (r_load1 rfl rfl rfl rfl rfl (gt5 (by omega) hj) rfl rfl) ?_
 have hc1 : ((w : Nat) : Int) ≠ 0 := Classical.byContradiction (fun hdd => by exfalso; omega)
 refine OA.p (some 43) (.bool true) rfl rfl rfl (Eq.trans (r_bin rfl rfl rfl (b_neq rfl)) (dT hc1)) ?_
 refine OA.p (some 44) (.bool true) rfl rfl rfl rfl ?_
 refine OA.nil ?_
 intro _
 refine RA.condT rfl ?_
 refine RA.region env_ok ?_
 refine OA.p (some 45) (.slice (some ⟨j, 0, none⟩) 1 0) rfl rfl rfl rfl ?_
 refine OA.p (some 46) (.int .i64 0) rfl rfl rfl rfl ?_
 refine OA.p (some 47) (Pt j 0 0) rfl rfl rfl (r_iaS (l := 0) rfl rfl rfl rfl rfl rfl (by omega) (by omega) (gt5 (by omega) hj) rfl (by omega)) ?_
 refine OA.p (some 48) (.int .i64 ((w : Nat) : Int)) rfl rfl rfl (r_load1 rfl rfl rfl rfl rfl (gt5 (by omega) hj) rfl rfl) ?_
 refine OA.p (some 49) (.agg ⟨[(.int .i64 ((w : Nat) : Int)), (.string ByteArray.empty)]⟩) rfl rfl rfl (by kernel_rfl) ?_
 refine OA.callP (dst := (some 50)) (all := [(.agg ⟨[(.int .i64 ((w : Nat) : Int)), (.string ByteArray.empty)]⟩)]) (v := (.string (bstr (pL w [])))) (hd.of (by omega) (kb5 (by omega))) rfl rfl rfl rfl rfl rfl rfl rfl (lCPut w [] (by omega) (by decide)) ?_
 intro n4 hn4
 refine OA.p (some 13) (.string (bstr (pL w []))) rfl rfl rfl rfl ?_
 refine OA.nil ?_
 intro _
 refine RA.par (md := [some [], some [(n + 2)], some [], some [], none, some [], none, some [], none]) env_ok (hd.of (by omega) (kb5 (by omega))) (by kernel_rfl) ?_
 refine PQ.pure (dst := (some 51)) (v := (.pointer (some ⟨(n + 2), 0, some 11⟩))) rfl rfl rfl noStore (none_ok _ _) rfl ?_
 refine PQ.pure (dst := (some 52)) (v := (.slice none 0 0)) rfl rfl rfl (app [((n + 2), some ⟨[(xAc515 x)], 15, 53, true⟩)] noStore) (seen_one (V := []) (D := [(n1, some ⟨[[(.int .i64 49154), (.string (bstr (be4 x ++ (be2 5 ++ (be2 8 ++ (be4 0#32 ++ []))))))]], 2, 35, true⟩), (in1, some ⟨[[(.int .i64 49154), (.string (bstr (be4 x ++ (be2 5 ++ (be2 8 ++ (be4 0#32 ++ []))))))]], 2, 35, true⟩), ((n + 2), some ⟨[(xAc515 x)], 15, 53, true⟩), ((n + 1), some ⟨[xAc514], 15, 53, true⟩), (n, some ⟨[(xAc513 x k)], 15, 53, true⟩)]) (by kernel_rfl) (gt2 (by omega) get_here)) (r_load1 rfl rfl rfl rfl rfl get_here rfl rfl) ?_
 refine PQ.pure (dst := (some 53)) (v := (W x)) rfl rfl rfl noStore (none_ok _ _) rfl ?_
 refine PQ.pure (dst := (some 54)) (v := (.string (bstr (pL w [])))) rfl rfl rfl noStore (none_ok _ _) rfl ?_
 refine PQ.callP (dst := (some 55)) (all := [(W x), (.string (bstr (pL w [])))]) (v := (.agg ⟨[(.int .i64 49155), (.string (bstr (be4 x ++ pL w [])))]⟩)) _ (hd.of (by omega) (kb5 (by omega))) rfl rfl rfl rfl rfl rfl rfl rfl (seen_any (V := []) (D := [(n1, some ⟨[[(.int .i64 49154), (.string (bstr (be4 x ++ (be2 5 ++ (be2 8 ++ (be4 0#32 ++ []))))))]], 2, 35, true⟩), (in1, some ⟨[[(.int .i64 49154), (.string (bstr (be4 x ++ (be2 5 ++ (be2 8 ++ (be4 0#32 ++ []))))))]], 2, 35, true⟩), ((n + 2), some ⟨[(xAc515 x)], 15, 53, true⟩), ((n + 1), some ⟨[xAc514], 15, 53, true⟩), (n, some ⟨[(xAc513 x k)], 15, 53, true⟩)]) (by kernel_rfl)) (aAns1 x (pL w []) (pL0_len w)) ?_
 intro n5 hn5
 refine PQ.op (dst := (some 56)) (v := (.slice (some ⟨n5, 0, none⟩) 1 0)) (n1 := (n5 + 1)) (d1 := [(n5, some ⟨[[(.int .i64 49155), (.string (bstr (be4 x ++ pL w [])))]], 2, 35, true⟩)]) rfl rfl rfl noStore (none_ok _ _) (by kernel_rfl) (by omega) (kp1 (wr_new (by omega) (by omega))) ?_
 refine PQ.op (dst := (some 57)) (v := (.slice (some ⟨(n5 + 1), 0, none⟩) 1 0)) (n1 := (n5 + 2)) (d1 := [((n5 + 1), some ⟨[[(.int .i64 49155), (.string (bstr (be4 x ++ pL w [])))]], 2, 35, true⟩)]) rfl rfl rfl _ (seen_any (V := [(n5, some ⟨[[(.int .i64 49155), (.string (bstr (be4 x ++ pL w [])))]], 2, 35, true⟩)]) (D := [(n1, some ⟨[[(.int .i64 49154), (.string (bstr (be4 x ++ (be2 5 ++ (be2 8 ++ (be4 0#32 ++ []))))))]], 2, 35, true⟩), (in1, some ⟨[[(.int .i64 49154), (.string (bstr (be4 x ++ (be2 5 ++ (be2 8 ++ (be4 0#32 ++ []))))))]], 2, 35, true⟩), ((n + 2), some ⟨[(xAc515 x)], 15, 53, true⟩), ((n + 1), some ⟨[xAc514], 15, 53, true⟩), (n, some ⟨[(xAc513 x k)], 15, 53, true⟩)]) (by kernel_rfl)) (r_append0 rfl rfl rfl rfl rfl rfl rfl rfl rfl rfl (by decide) get_here (of_decide_eq_true (by kernel_rfl))) (by omega) (kp1 (wr_new (by omega) (by omega))) ?_
 refine PQ.pure (dst := (some 58)) (v := (.pointer (some ⟨(n + 2), 0, some 11⟩))) rfl rfl rfl noStore (none_ok _ _) rfl ?_
 refine PQ.op (dst := none) (v := (.tuple #[])) (n1 := (n5 + 2)) (d1 := [((n + 2), some ⟨[(xAc59 x n5)], 15, 53, true⟩)]) rfl rfl rfl _ (seen_any (V := [((n5 + 1), some ⟨[[(.int .i64 49155), (.string (bstr (be4 x ++ pL w [])))]], 2, 35, true⟩), (n5, some ⟨[[(.int .i64 49155), (.string (bstr (be4 x ++ pL w [])))]], 2, 35, true⟩)]) (D := [(n1, some ⟨[[(.int .i64 49154), (.string (bstr (be4 x ++ (be2 5 ++ (be2 8 ++ (be4 0#32 ++ []))))))]], 2, 35, true⟩), (in1, some ⟨[[(.int .i64 49154), (.string (bstr (be4 x ++ (be2 5 ++ (be2 8 ++ (be4 0#32 ++ []))))))]], 2, 35, true⟩), ((n + 2), some ⟨[(xAc515 x)], 15, 53, true⟩), ((n + 1), some ⟨[xAc514], 15, 53, true⟩), (n, some ⟨[(xAc513 x k)], 15, 53, true⟩)]) (by kernel_rfl)) (r_store rfl rfl rfl rfl rfl rfl rfl (gt4 (by omega) get_here) rfl rfl (Nat.le_of_ble_eq_true rfl) rfl) (by omega) (kp1 (wr_tight (by kernel_rfl) (by omega))) ?_
 refine PQ.done (d := [((n + 2), some ⟨[(xAc59 x n5)], 15, 53, true⟩), ((n5 + 1), some ⟨[[(.int .i64 49155), (.string (bstr (be4 x ++ pL w [])))]], 2, 35, true⟩), (n5, some ⟨[[(.int .i64 49155), (.string (bstr (be4 x ++ pL w [])))]], 2, 35, true⟩)]) (by kernel_rfl) ?_
 intro _
 refine RA.weaken (D' := [((n + 2), some ⟨[(xAc59 x n5)], 15, 53, true⟩), ((n5 + 1), some ⟨[[(.int .i64 49155), (.string (bstr (be4 x ++ pL w [])))]], 2, 35, true⟩), (n5, some ⟨[[(.int .i64 49155), (.string (bstr (be4 x ++ pL w [])))]], 2, 35, true⟩), (n1, some ⟨[[(.int .i64 49154), (.string (bstr (be4 x ++ (be2 5 ++ (be2 8 ++ (be4 0#32 ++ []))))))]], 2, 35, true⟩), (in1, some ⟨[[(.int .i64 49154), (.string (bstr (be4 x ++ (be2 5 ++ (be2 8 ++ (be4 0#32 ++ []))))))]], 2, 35, true⟩), ((n + 1), some ⟨[xAc514], 15, 53, true⟩), (n, some ⟨[(xAc513 x k)], 15, 53, true⟩)]) hd (Less.of (fac (mm (fun _ => get_here) (fun _ => get_here)) (fac (mm (fun _ => (get_there (by omega) get_here)) (fun _ => (get_there (by omega) get_here))) (fac (mm (fun _ => (gt2 (by omega) get_here)) (fun _ => (gt2 (by omega) get_here))) (fac (mm (fun _ => (gt3 (by omega) get_here)) (fun _ => (gt3 (by omega) get_here))) (fac (mm (fun _ => (gt4 (by omega) get_here)) (fun _ => (gt4 (by omega) get_here))) (fac (mm (fun _ => (gt5 (by omega) get_here)) (fun _ => (gt6 (by omega) get_here))) (fac (mm (fun _ => (gt6 (by omega) get_here)) (fun _ => (gt7 (by omega) get_here))) fan))))))) (gone_of (by simp only [goneP, memP, List.cons_append, List.nil_append, true_or, or_true, true_and, and_true, or_false] <;> omega))) ?_
 refine RA.rebase [(0, (Pt b 0 0)), (1, (.agg ⟨(xAc513 x k)⟩)), (2, (.slice (some ⟨j, 0, none⟩) 1 0)), (4, (Pt n 0 0)), (6, (.pointer (some ⟨(n + 1), 0, some 0⟩))), (7, (.pointer (some ⟨(n + 2), 0, some 0⟩))), (8, (.int .i64 0)), (9, (Pt n1 0 0)), (10, (W x)), (13, (.string (bstr (pL w [])))), (15, (.bool false)), (21, (.slice (some ⟨in1, 0, none⟩) 1 0)), (22, (.int .i64 1)), (23, (.int .i64 0)), (24, (.bool true)), (44, (.bool true))] ⟨rfl, rfl, rfl, rfl, rfl, rfl, rfl, rfl, rfl, rfl, rfl, rfl, rfl, rfl, rfl, rfl, trivial⟩ (fun τr6 => ?_)
 refine RA.region env_ok ?_
 refine OA.p (some 59) (.int .i64 1) rfl rfl rfl (r_bin rfl rfl rfl (b_add (i64_eq (by omega)))) ?_
 refine OA.p (some 23) (.int .i64 1) rfl rfl rfl rfl ?_
 refine OA.nil ?_
 intro _
 refine RA.unroll hd ?_
 refine RA.seq hd ?_
 refine RA.region env_ok ?_
 refine OA.p (some 24) (.bool false) rfl rfl rfl (r_bin rfl rfl rfl (b_lss rfl)) ?_
 refine OA.nil ?_
 intro _
 refine RA.seq hd ?_
 refine RA.condF rfl ?_
 refine RA.exit env_ok ?_
 intro _
 refine RA.seq hd ?_
 refine RA.region env_ok ?_
 refine OA.p (some 60) (Pt b 0 0) rfl rfl rfl rfl ?_
 refine OA.p (some 61) (Pt b 0 0) rfl rfl rfl rfl ?_
 refine OA.p (some 62) (.agg ⟨(xAc59 x n5)⟩) rfl rfl rfl (r_loadA rfl rfl rfl rfl get_here rfl rfl rfl) ?_
 refine OA.p (some 63) (Pt b 0 0) rfl rfl rfl rfl ?_
 refine OA.p (some 64) (Pt b 0 1) rfl rfl rfl rfl ?_
 refine OA.op1 (dst := none) (v := (.tuple #[])) (n1 := (n5 + 2)) (w := (b, some ⟨[(xAc54 nx x n5)], 17, 103, true⟩)) rfl rfl rfl (r_store rfl rfl rfl rfl rfl rfl rfl (gt7 (by omega) hb) rfl rfl (Nat.le_of_ble_eq_true rfl) rfl) (by omega) ?_
 refine OA.p (some 65) (Pt b 0 0) rfl rfl rfl rfl ?_
 refine OA.p (some 66) (Pt b 0 16) rfl rfl rfl rfl ?_
 refine OA.op1 (dst := none) (v := (.tuple #[])) (n1 := (n5 + 2)) (w := (b, some ⟨[(xAc54 nx x n5)], 17, 103, true⟩)) rfl rfl rfl (r_store rfl rfl rfl rfl rfl rfl rfl get_here rfl rfl (Nat.le_of_ble_eq_true rfl) rfl) (by omega) ?_
 refine OA.nil ?_
 intro _
 refine RA.weaken (D' := [(b, some ⟨[(xAc54 nx x n5)], 17, 103, true⟩), ((n + 2), some ⟨[(xAc59 x n5)], 15, 53, true⟩), ((n5 + 1), some ⟨[[(.int .i64 49155), (.string (bstr (be4 x ++ pL w [])))]], 2, 35, true⟩), (n5, some ⟨[[(.int .i64 49155), (.string (bstr (be4 x ++ pL w [])))]], 2, 35, true⟩), (n1, some ⟨[[(.int .i64 49154), (.string (bstr (be4 x ++ (be2 5 ++ (be2 8 ++ (be4 0#32 ++ []))))))]], 2, 35, true⟩), (in1, some ⟨[[(.int .i64 49154), (.string (bstr (be4 x ++ (be2 5 ++ (be2 8 ++ (be4 0#32 ++ []))))))]], 2, 35, true⟩), ((n + 1), some ⟨[xAc514], 15, 53, true⟩), (n, some ⟨[(xAc513 x k)], 15, 53, true⟩)]) hd (Less.of (fac (mm (fun _ => get_here) (fun _ => get_here)) (fac (mm (fun _ => (get_there (by omega) get_here)) (fun _ => (gt2 (by omega) get_here))) (fac (mm (fun _ => (gt2 (by omega) get_here)) (fun _ => (gt3 (by omega) get_here))) (fac (mm (fun _ => (gt3 (by omega) get_here)) (fun _ => (gt4 (by omega) get_here))) (fac (mm (fun _ => (gt4 (by omega) get_here)) (fun _ => (gt5 (by omega) get_here))) (fac (mm (fun _ => (gt5 (by omega) get_here)) (fun _ => (gt6 (by omega) get_here))) (fac (mm (fun _ => (gt6 (by omega) get_here)) (fun _ => (gt7 (by omega) get_here))) (fac (mm (fun _ => (gt7 (by omega) get_here)) (fun _ => (gt8 (by omega) get_here))) fan)))))))) (gone_of (by simp only [goneP, memP, List.cons_append, List.nil_append, true_or, or_true, true_and, and_true, or_false] <;> omega))) ?_
 refine RA.seq hd ?_
 refine RA.region env_ok ?_
 refine OA.p (some 67) (Pt b 0 0) rfl rfl rfl rfl ?_
 refine OA.p (some 68) (Pt b 0 0) rfl rfl rfl rfl ?_
 refine OA.p (some 69) (Pt b 0 0) rfl rfl rfl rfl ?_
 refine OA.p (some 70) (W nx) rfl rfl rfl (r_load1 rfl rfl rfl rfl rfl get_here rfl rfl) ?_
 refine OA.p (some 71) (W (nx + (1#32))) rfl rfl rfl (r_bin rfl rfl rfl (b_addW nx (1#32))) ?_
 refine OA.p (some 72) (Pt b 0 0) rfl rfl rfl rfl ?_
 refine OA.p (some 73) (Pt b 0 0) rfl rfl rfl rfl ?_
 refine OA.op1 (dst := none) (v := (.tuple #[])) (n1 := (n5 + 2)) (w := (b, some ⟨[(xAc52 nx x n5)], 17, 103, true⟩)) rfl rfl rfl (r_store rfl rfl rfl rfl rfl rfl rfl get_here rfl rfl (Nat.le_of_ble_eq_true rfl) rfl) (by omega) ?_
 refine OA.nil ?_
 intro _
 refine RA.weaken (D' := [(b, some ⟨[(xAc52 nx x n5)], 17, 103, true⟩), ((n + 2), some ⟨[(xAc59 x n5)], 15, 53, true⟩), ((n5 + 1), some ⟨[[(.int .i64 49155), (.string (bstr (be4 x ++ pL w [])))]], 2, 35, true⟩), (n5, some ⟨[[(.int .i64 49155), (.string (bstr (be4 x ++ pL w [])))]], 2, 35, true⟩), (n1, some ⟨[[(.int .i64 49154), (.string (bstr (be4 x ++ (be2 5 ++ (be2 8 ++ (be4 0#32 ++ []))))))]], 2, 35, true⟩), (in1, some ⟨[[(.int .i64 49154), (.string (bstr (be4 x ++ (be2 5 ++ (be2 8 ++ (be4 0#32 ++ []))))))]], 2, 35, true⟩), ((n + 1), some ⟨[xAc514], 15, 53, true⟩), (n, some ⟨[(xAc513 x k)], 15, 53, true⟩)]) hd (Less.of (fac (mm (fun _ => get_here) (fun _ => get_here)) (fac (mm (fun _ => (get_there (by omega) get_here)) (fun _ => (gt2 (by omega) get_here))) (fac (mm (fun _ => (gt2 (by omega) get_here)) (fun _ => (gt3 (by omega) get_here))) (fac (mm (fun _ => (gt3 (by omega) get_here)) (fun _ => (gt4 (by omega) get_here))) (fac (mm (fun _ => (gt4 (by omega) get_here)) (fun _ => (gt5 (by omega) get_here))) (fac (mm (fun _ => (gt5 (by omega) get_here)) (fun _ => (gt6 (by omega) get_here))) (fac (mm (fun _ => (gt6 (by omega) get_here)) (fun _ => (gt7 (by omega) get_here))) (fac (mm (fun _ => (gt7 (by omega) get_here)) (fun _ => (gt8 (by omega) get_here))) fan)))))))) (gone_of (by simp only [goneP, memP, List.cons_append, List.nil_append, true_or, or_true, true_and, and_true, or_false] <;> omega))) ?_
 refine RA.seq hd ?_
 refine RA.region env_ok ?_
 refine OA.p (some 74) (.agg ⟨(xAc59 x n5)⟩) rfl rfl rfl (r_loadA rfl rfl rfl rfl (get_there (by omega) get_here) rfl rfl rfl) ?_
 refine OA.op1 (dst := none) (v := (.tuple #[])) (n1 := (n5 + 2)) (w := ((n + 1), some ⟨[(xAc59 x n5)], 15, 53, true⟩)) rfl rfl rfl (r_store rfl rfl rfl rfl rfl rfl rfl (gt6 (by omega) get_here) rfl rfl (Nat.le_of_ble_eq_true rfl) rfl) (by omega) ?_
 refine OA.nil ?_
 intro _
 refine RA.weaken (D' := [((n + 1), some ⟨[(xAc59 x n5)], 15, 53, true⟩), (b, some ⟨[(xAc52 nx x n5)], 17, 103, true⟩), ((n + 2), some ⟨[(xAc59 x n5)], 15, 53, true⟩), ((n5 + 1), some ⟨[[(.int .i64 49155), (.string (bstr (be4 x ++ pL w [])))]], 2, 35, true⟩), (n5, some ⟨[[(.int .i64 49155), (.string (bstr (be4 x ++ pL w [])))]], 2, 35, true⟩), (n1, some ⟨[[(.int .i64 49154), (.string (bstr (be4 x ++ (be2 5 ++ (be2 8 ++ (be4 0#32 ++ []))))))]], 2, 35, true⟩), (in1, some ⟨[[(.int .i64 49154), (.string (bstr (be4 x ++ (be2 5 ++ (be2 8 ++ (be4 0#32 ++ []))))))]], 2, 35, true⟩), (n, some ⟨[(xAc513 x k)], 15, 53, true⟩)]) hd (Less.of (fac (mm (fun _ => get_here) (fun _ => get_here)) (fac (mm (fun _ => (get_there (by omega) get_here)) (fun _ => (get_there (by omega) get_here))) (fac (mm (fun _ => (gt2 (by omega) get_here)) (fun _ => (gt2 (by omega) get_here))) (fac (mm (fun _ => (gt3 (by omega) get_here)) (fun _ => (gt3 (by omega) get_here))) (fac (mm (fun _ => (gt4 (by omega) get_here)) (fun _ => (gt4 (by omega) get_here))) (fac (mm (fun _ => (gt5 (by omega) get_here)) (fun _ => (gt5 (by omega) get_here))) (fac (mm (fun _ => (gt6 (by omega) get_here)) (fun _ => (gt6 (by omega) get_here))) (fac (mm (fun _ => (gt7 (by omega) get_here)) (fun _ => (gt8 (by omega) get_here))) fan)))))))) (gone_of (by simp only [goneP, memP, List.cons_append, List.nil_append, true_or, or_true, true_and, and_true, or_false] <;> omega))) ?_
 refine RA.ret env_ok ?_
 refine ⟨.inr rfl, [(.agg ⟨(xAc59 x n5)⟩)], (resL_cons (res_cellA rfl rfl rfl get_here rfl rfl rfl) resL_nil), [(b, some ⟨[(xAc52 nx x n5)], 17, 103, true⟩), ((n5 + 1), some ⟨[[(.int .i64 49155), (.string (bstr (be4 x ++ pL w [])))]], 2, 35, true⟩)], (Less.of (fac (mm (fun _ => get_here) (fun _ => (get_there (by omega) get_here))) (fac (mm (fun _ => (get_there (by omega) get_here)) (fun _ => (gt3 (by omega) get_here))) fan)) (gone_of (by simp only [goneP, memP, List.cons_append, List.nil_append, true_or, or_true, true_and, and_true, or_false] <;> omega))), ⟨(n5 + 1), by omega, by omega, rfl, rfl⟩⟩

theorem aTakeF {σ : Store} (x nx  : BitVec 32) (b k  : Nat) (h : ¬ (x.toNat : Int) = (nx.toNat : Int)) (hb : σ b = some ⟨[[(W nx), (.int .i64 0), (.int .i64 0), (.int .u32 0), (.int .i64 0), (.int .i64 0), (.int .u32 0), (.string ByteArray.empty), (.int .u32 0), (.int .u32 0), (.int .i64 0), (.int .i64 0), (.slice none 0 0), (.slice none 0 0), (.slice none 0 0), (.slice none 0 0), (.bool false)]], 17, 103, true⟩)  : PS Try.prog noDen 40 [(Pt b 0 0), (.agg ⟨[(.int .i64 193), (.int .i64 0), (W x), (.int .i64 0), (.int .i64 0), (.int .u32 0), (.string ByteArray.empty), (.int .u32 0), (.int .u32 0), (.int .i64 0), (.int .i64 0), (.slice (some ⟨k, 0, none⟩) 3 0), (.slice none 0 0), (.slice none 0 0), (.slice none 0 0)]⟩)] σ (.tuple ⟨[(.bool false), (.agg ⟨[(.int .i64 0), (.int .i64 0), (.int .u32 0), (.int .i64 0), (.int .i64 0), (.int .u32 0), (.string ByteArray.empty), (.int .u32 0), (.int .u32 0), (.int .i64 0), (.int .i64 0), (.slice none 0 0), (.slice none 0 0), (.slice none 0 0), (.slice none 0 0)]⟩), (.bool false)]⟩) := by
 refine PS.body (E := env) env_ok rfl rfl (by show _ ≤ _; exact of_decide_eq_true (by kernel_rfl)) (fun n hd => ?_)
 have lhb := hd.lt hb
 refine RA.seq hd ?_
 refine RA.region env_ok ?_
 refine OA.op1 (dst := (some 3)) (v := (Pt n 0 0)) (n1 := (n + 1)) (w := (n, some ⟨[(xAc513 x k)], 15, 53, true⟩)) rfl rfl rfl rfl (by omega) ?_
 refine OA.p (some 4) (.bool false) rfl rfl rfl rfl ?_
 refine OA.op1 (dst := (some 5)) (v := (.pointer (some ⟨(n + 1), 0, some 0⟩))) (n1 := (n + 2)) (w := ((n + 1), some ⟨[xAc514], 15, 53, true⟩)) rfl rfl rfl rfl (by omega) ?_
 refine OA.p (some 6) (.bool false) rfl rfl rfl rfl ?_
 refine OA.nil ?_
 intro _
 refine RA.seq hd ?_
 refine RA.block ?_
 refine RA.seq hd ?_
 refine RA.region env_ok ?_
 refine OA.p (some 8) (Pt b 0 0) rfl rfl rfl rfl ?_
 refine OA.p (some 9) (.bool false) rfl rfl rfl rfl ?_
 refine OA.p (some 10) (.bool false) rfl rfl rfl rfl ?_
 refine OA.p (some 11) (Pt n 0 0) rfl rfl rfl rfl ?_
 refine OA.p (some 12) (.int .i64 193) rfl rfl rfl (r_load1 rfl rfl rfl rfl rfl (get_there (by omega) get_here) rfl rfl) ?_
 refine OA.p (some 13) (.bool false) rfl rfl rfl (r_bin rfl rfl rfl (b_neq rfl)) ?_
 refine OA.p (some 14) (.bool false) rfl rfl rfl rfl ?_
 refine OA.p (some 7) (.bool false) rfl rfl rfl rfl ?_
 refine OA.nil ?_
 intro _
 refine RA.condF rfl ?_
 refine RA.seq hd ?_
 refine RA.par (md := [some [], some [n], some [], some [], some [], some [b], some [], some []]) env_ok (hd.of (by omega) (kb2 (by omega))) (by kernel_rfl) ?_
 refine PQ.pure (dst := (some 17)) (v := (Pt n 0 2)) rfl rfl rfl noStore (none_ok _ _) rfl ?_
 refine PQ.pure (dst := (some 18)) (v := (W x)) rfl rfl rfl (app [(n, some ⟨[(xAc513 x k)], 15, 53, true⟩)] noStore) (seen_one (V := []) (D := [((n + 1), some ⟨[xAc514], 15, 53, true⟩), (n, some ⟨[(xAc513 x k)], 15, 53, true⟩)]) (by kernel_rfl) (get_there (by omega) get_here)) (r_load1 rfl rfl rfl rfl rfl get_here rfl rfl) ?_
 refine PQ.pure (dst := (some 19)) (v := (Pt b 0 0)) rfl rfl rfl noStore (none_ok _ _) rfl ?_
 refine PQ.pure (dst := (some 20)) (v := (Pt b 0 0)) rfl rfl rfl noStore (none_ok _ _) rfl ?_
 refine PQ.pure (dst := (some 21)) (v := (Pt b 0 0)) rfl rfl rfl noStore (none_ok _ _) rfl ?_
 refine PQ.pure (dst := (some 22)) (v := (W nx)) rfl rfl rfl (app [(b, some ⟨[(xAc56 nx)], 17, 103, true⟩)] noStore) (seen_one (V := []) (D := [((n + 1), some ⟨[xAc514], 15, 53, true⟩), (n, some ⟨[(xAc513 x k)], 15, 53, true⟩)]) (by kernel_rfl) (gt2 (by omega) hb)) (r_load1 rfl rfl rfl rfl rfl get_here rfl rfl) ?_
 have hc1 : ¬ ((x.toNat : Int) = (nx.toNat : Int)) := fun hdd => by exfalso; first | exact h hdd | exact hdd h | exact h2 hdd | exact hdd h2
 refine PQ.pure (dst := (some 23)) (v := (.bool false)) rfl rfl rfl noStore (none_ok _ _) (Eq.trans (r_bin rfl rfl rfl (b_eql rfl)) (dF hc1)) ?_
 refine PQ.pure (dst := (some 16)) (v := (.bool false)) rfl rfl rfl noStore (none_ok _ _) rfl ?_
 refine PQ.done (d := []) (by kernel_rfl) ?_
 intro _
 refine RA.condF rfl ?_
 refine RA.seq hd ?_
 refine RA.par (md := [some [], some [], some [], some [b], some [], some [], some [n], some [], some [], some [], some [], some [b], some [], some [], some []]) env_ok (hd.of (by omega) (kb2 (by omega))) (by kernel_rfl) ?_
 refine PQ.pure (dst := (some 26)) (v := (Pt b 0 0)) rfl rfl rfl noStore (none_ok _ _) rfl ?_
 refine PQ.pure (dst := (some 27)) (v := (Pt b 0 0)) rfl rfl rfl noStore (none_ok _ _) rfl ?_
 refine PQ.pure (dst := (some 28)) (v := (Pt b 0 16)) rfl rfl rfl noStore (none_ok _ _) rfl ?_
 refine PQ.pure (dst := (some 29)) (v := (.bool false)) rfl rfl rfl (app [(b, some ⟨[(xAc56 nx)], 17, 103, true⟩)] noStore) (seen_one (V := []) (D := [((n + 1), some ⟨[xAc514], 15, 53, true⟩), (n, some ⟨[(xAc513 x k)], 15, 53, true⟩)]) (by kernel_rfl) (gt2 (by omega) hb)) (r_load1 rfl rfl rfl rfl rfl get_here rfl rfl) ?_
 refine PQ.pure (dst := (some 30)) (v := (.bool false)) rfl rfl rfl noStore (none_ok _ _) rfl ?_
 refine PQ.off (dst := (some 31)) rfl rfl rfl ?_
 refine PQ.off (dst := (some 32)) rfl rfl rfl ?_
 refine PQ.off (dst := (some 33)) rfl rfl rfl ?_
 refine PQ.off (dst := (some 34)) rfl rfl rfl ?_
 refine PQ.off (dst := (some 35)) rfl rfl rfl ?_
 refine PQ.off (dst := (some 36)) rfl rfl rfl ?_
 refine PQ.off (dst := (some 37)) rfl rfl rfl ?_
 refine PQ.off (dst := (some 38)) rfl rfl rfl ?_
 refine PQ.pure (dst := (some 39)) (v := (.bool false)) rfl rfl rfl noStore (none_ok _ _) rfl ?_
 refine PQ.pure (dst := (some 25)) (v := (.bool false)) rfl rfl rfl noStore (none_ok _ _) rfl ?_
 refine PQ.done (d := []) (by kernel_rfl) ?_
 intro _
 refine RA.rebase [(0, (Pt b 0 0)), (1, (.agg ⟨(xAc513 x k)⟩)), (3, (Pt n 0 0)), (4, (.bool false)), (5, (.pointer (some ⟨(n + 1), 0, some 0⟩))), (6, (.bool false)), (7, (.bool false)), (16, (.bool false)), (25, (.bool false))] ⟨rfl, rfl, rfl, rfl, rfl, rfl, rfl, rfl, rfl, trivial⟩ (fun τr1 => ?_)
 refine RA.condF rfl ?_
 refine RA.skip env_ok ?_
 intro _
 refine RA.seq hd ?_
 refine RA.region env_ok ?_
 refine OA.p (some 44) (.agg ⟨xAc514⟩) rfl rfl rfl (by kernel_rfl) ?_
 refine OA.p (some 4) (.bool false) rfl rfl rfl rfl ?_
 refine OA.op1 (dst := none) (v := (.tuple #[])) (n1 := (n + 2)) (w := ((n + 1), some ⟨[xAc514], 15, 53, true⟩)) rfl rfl rfl (r_store rfl rfl rfl rfl rfl rfl rfl get_here rfl rfl (Nat.le_of_ble_eq_true rfl) rfl) (by omega) ?_
 refine OA.p (some 6) (.bool false) rfl rfl rfl rfl ?_
 refine OA.nil ?_
 intro _
 refine RA.weaken (D' := [((n + 1), some ⟨[xAc514], 15, 53, true⟩), (n, some ⟨[(xAc513 x k)], 15, 53, true⟩)]) hd (Less.of (fac (mm (fun _ => get_here) (fun _ => get_here)) (fac (mm (fun _ => (get_there (by omega) get_here)) (fun _ => (gt2 (by omega) get_here))) fan)) (gone_of (by simp only [goneP, memP, List.cons_append, List.nil_append, true_or, or_true, true_and, and_true, or_false] <;> omega))) ?_
 refine RA.ret env_ok ?_
 refine ⟨.inr rfl, [(.bool false), (.agg ⟨xAc514⟩), (.bool false)], (resL_cons rfl (resL_cons (res_cellA rfl rfl rfl get_here rfl rfl rfl) (resL_cons rfl resL_nil))), rfl, (kc2 (by omega))⟩

theorem aTakeN {σ : Store} (x nx  : BitVec 32) (b k  : Nat) (h : (x.toNat : Int) = (nx.toNat : Int)) (hb : σ b = some ⟨[[(W nx), (.int .i64 0), (.int .i64 0), (.int .u32 0), (.int .i64 0), (.int .i64 0), (.int .u32 0), (.string ByteArray.empty), (.int .u32 0), (.int .u32 0), (.int .i64 0), (.int .i64 0), (.slice none 0 0), (.slice none 0 0), (.slice none 0 0), (.slice none 0 0), (.bool false)]], 17, 103, true⟩)  : PS Try.prog noDen 40 [(Pt b 0 0), (.agg ⟨[(.int .i64 193), (.int .i64 0), (W x), (.int .i64 0), (.int .i64 0), (.int .u32 0), (.string ByteArray.empty), (.int .u32 0), (.int .u32 0), (.int .i64 0), (.int .i64 0), (.slice (some ⟨k, 0, none⟩) 3 0), (.slice none 0 0), (.slice none 0 0), (.slice none 0 0)]⟩)] σ (.tuple ⟨[(.bool true), (.agg ⟨[(.int .i64 0), (.int .i64 0), (.int .u32 0), (.int .i64 0), (.int .i64 0), (.int .u32 0), (.string ByteArray.empty), (.int .u32 0), (.int .u32 0), (.int .i64 0), (.int .i64 0), (.slice none 0 0), (.slice none 0 0), (.slice none 0 0), (.slice none 0 0)]⟩), (.bool false)]⟩) := by
 refine PS.body (E := env) env_ok rfl rfl (by show _ ≤ _; exact of_decide_eq_true (by kernel_rfl)) (fun n hd => ?_)
 have lhb := hd.lt hb
 refine RA.seq hd ?_
 refine RA.region env_ok ?_
 refine OA.op1 (dst := (some 3)) (v := (Pt n 0 0)) (n1 := (n + 1)) (w := (n, some ⟨[(xAc513 x k)], 15, 53, true⟩)) rfl rfl rfl rfl (by omega) ?_
 refine OA.p (some 4) (.bool false) rfl rfl rfl rfl ?_
 refine OA.op1 (dst := (some 5)) (v := (.pointer (some ⟨(n + 1), 0, some 0⟩))) (n1 := (n + 2)) (w := ((n + 1), some ⟨[xAc514], 15, 53, true⟩)) rfl rfl rfl rfl (by omega) ?_
 refine OA.p (some 6) (.bool false) rfl rfl rfl rfl ?_
 refine OA.nil ?_
 intro _
 refine RA.seq hd ?_
 refine RA.block ?_
 refine RA.seq hd ?_
 refine RA.region env_ok ?_
 refine OA.p (some 8) (Pt b 0 0) rfl rfl rfl rfl ?_
 refine OA.p (some 9) (.bool false) rfl rfl rfl rfl ?_
 refine OA.p (some 10) (.bool false) rfl rfl rfl rfl ?_
 refine OA.p (some 11) (Pt n 0 0) rfl rfl rfl rfl ?_
 refine OA.p (some 12) (.int .i64 193) rfl rfl rfl (r_load1 rfl rfl rfl rfl rfl (get_there (by omega) get_here) rfl rfl) ?_
 refine OA.p (some 13) (.bool false) rfl rfl rfl (r_bin rfl rfl rfl (b_neq rfl)) ?_
 refine OA.p (some 14) (.bool false) rfl rfl rfl rfl ?_
 refine OA.p (some 7) (.bool false) rfl rfl rfl rfl ?_
 refine OA.nil ?_
 intro _
 refine RA.condF rfl ?_
 refine RA.seq hd ?_
 refine RA.par (md := [some [], some [n], some [], some [], some [], some [b], some [], some []]) env_ok (hd.of (by omega) (kb2 (by omega))) (by kernel_rfl) ?_
 refine PQ.pure (dst := (some 17)) (v := (Pt n 0 2)) rfl rfl rfl noStore (none_ok _ _) rfl ?_
 refine PQ.pure (dst := (some 18)) (v := (W x)) rfl rfl rfl (app [(n, some ⟨[(xAc513 x k)], 15, 53, true⟩)] noStore) (seen_one (V := []) (D := [((n + 1), some ⟨[xAc514], 15, 53, true⟩), (n, some ⟨[(xAc513 x k)], 15, 53, true⟩)]) (by kernel_rfl) (get_there (by omega) get_here)) (r_load1 rfl rfl rfl rfl rfl get_here rfl rfl) ?_
 refine PQ.pure (dst := (some 19)) (v := (Pt b 0 0)) rfl rfl rfl noStore (none_ok _ _) rfl ?_
 refine PQ.pure (dst := (some 20)) (v := (Pt b 0 0)) rfl rfl rfl noStore (none_ok _ _) rfl ?_
 refine PQ.pure (dst := (some 21)) (v := (Pt b 0 0)) rfl rfl rfl noStore (none_ok _ _) rfl ?_
 refine PQ.pure (dst := (some 22)) (v := (W nx)) rfl rfl rfl (app [(b, some ⟨[(xAc56 nx)], 17, 103, true⟩)] noStore) (seen_one (V := []) (D := [((n + 1), some ⟨[xAc514], 15, 53, true⟩), (n, some ⟨[(xAc513 x k)], 15, 53, true⟩)]) (by kernel_rfl) (gt2 (by omega) hb)) (r_load1 rfl rfl rfl rfl rfl get_here rfl rfl) ?_
 have hc1 : (x.toNat : Int) = (nx.toNat : Int) := Classical.byContradiction (fun hdd => by exfalso; first | exact h hdd | exact hdd h | exact h2 hdd | exact hdd h2)
 refine PQ.pure (dst := (some 23)) (v := (.bool true)) rfl rfl rfl noStore (none_ok _ _) (Eq.trans (r_bin rfl rfl rfl (b_eql rfl)) (dT hc1)) ?_
 refine PQ.pure (dst := (some 16)) (v := (.bool true)) rfl rfl rfl noStore (none_ok _ _) rfl ?_
 refine PQ.done (d := []) (by kernel_rfl) ?_
 intro _
 refine RA.condT rfl ?_
 refine RA.seq hd ?_
 refine RA.region env_ok ?_
 refine OA.p (some 24) (.agg ⟨xAc514⟩) rfl rfl rfl (by kernel_rfl) ?_
 refine OA.p (some 4) (.bool true) rfl rfl rfl rfl ?_
 refine OA.op1 (dst := none) (v := (.tuple #[])) (n1 := (n + 2)) (w := ((n + 1), some ⟨[xAc514], 15, 53, true⟩)) rfl rfl rfl (r_store rfl rfl rfl rfl rfl rfl rfl get_here rfl rfl (Nat.le_of_ble_eq_true rfl) rfl) (by omega) ?_
 refine OA.p (some 6) (.bool false) rfl rfl rfl rfl ?_
 refine OA.nil ?_
 intro _
 refine RA.weaken (D' := [((n + 1), some ⟨[xAc514], 15, 53, true⟩), (n, some ⟨[(xAc513 x k)], 15, 53, true⟩)]) hd (Less.of (fac (mm (fun _ => get_here) (fun _ => get_here)) (fac (mm (fun _ => (get_there (by omega) get_here)) (fun _ => (gt2 (by omega) get_here))) fan)) (gone_of (by simp only [goneP, memP, List.cons_append, List.nil_append, true_or, or_true, true_and, and_true, or_false] <;> omega))) ?_
 refine RA.ret env_ok ?_
 refine ⟨.inr rfl, [(.bool true), (.agg ⟨xAc514⟩), (.bool false)], (resL_cons rfl (resL_cons (res_cellA rfl rfl rfl get_here rfl rfl rfl) (resL_cons rfl resL_nil))), rfl, (kc2 (by omega))⟩

theorem aTakeNT {σ : Store} (x nx lt : BitVec 32) (b k ka : Nat) (h : (x.toNat : Int) = (nx.toNat : Int)) (hb : σ b = some ⟨[[(W nx), (.int .i64 128), (.int .i64 0), (W lt), (.int .i64 0), (.int .i64 0), (.int .u32 0), (.string ByteArray.empty), (.int .u32 0), (.int .u32 0), (.int .i64 0), (.int .i64 0), (.slice (some ⟨ka, 0, none⟩) 1 0), (.slice none 0 0), (.slice none 0 0), (.slice none 0 0), (.bool true)]], 17, 103, true⟩)  : PS Try.prog noDen 40 [(Pt b 0 0), (.agg ⟨[(.int .i64 193), (.int .i64 0), (W x), (.int .i64 0), (.int .i64 0), (.int .u32 0), (.string ByteArray.empty), (.int .u32 0), (.int .u32 0), (.int .i64 0), (.int .i64 0), (.slice (some ⟨k, 0, none⟩) 3 0), (.slice none 0 0), (.slice none 0 0), (.slice none 0 0)]⟩)] σ (.tuple ⟨[(.bool true), (.agg ⟨[(.int .i64 0), (.int .i64 0), (.int .u32 0), (.int .i64 0), (.int .i64 0), (.int .u32 0), (.string ByteArray.empty), (.int .u32 0), (.int .u32 0), (.int .i64 0), (.int .i64 0), (.slice none 0 0), (.slice none 0 0), (.slice none 0 0), (.slice none 0 0)]⟩), (.bool false)]⟩) := by
 refine PS.body (E := env) env_ok rfl rfl (by show _ ≤ _; exact of_decide_eq_true (by kernel_rfl)) (fun n hd => ?_)
 have lhb := hd.lt hb
 refine RA.seq hd ?_
 refine RA.region env_ok ?_
 refine OA.op1 (dst := (some 3)) (v := (Pt n 0 0)) (n1 := (n + 1)) (w := (n, some ⟨[(xAc513 x k)], 15, 53, true⟩)) rfl rfl rfl rfl (by omega) ?_
 refine OA.p (some 4) (.bool false) rfl rfl rfl rfl ?_
 refine OA.op1 (dst := (some 5)) (v := (.pointer (some ⟨(n + 1), 0, some 0⟩))) (n1 := (n + 2)) (w := ((n + 1), some ⟨[xAc514], 15, 53, true⟩)) rfl rfl rfl rfl (by omega) ?_
 refine OA.p (some 6) (.bool false) rfl rfl rfl rfl ?_
 refine OA.nil ?_
 intro _
 refine RA.seq hd ?_
 refine RA.block ?_
 refine RA.seq hd ?_
 refine RA.region env_ok ?_
 refine OA.p (some 8) (Pt b 0 0) rfl rfl rfl rfl ?_
 refine OA.p (some 9) (.bool false) rfl rfl rfl rfl ?_
 refine OA.p (some 10) (.bool false) rfl rfl rfl rfl ?_
 refine OA.p (some 11) (Pt n 0 0) rfl rfl rfl rfl ?_
 refine OA.p (some 12) (.int .i64 193) rfl rfl rfl (r_load1 rfl rfl rfl rfl rfl (get_there (by omega) get_here) rfl rfl) ?_
 refine OA.p (some 13) (.bool false) rfl rfl rfl (r_bin rfl rfl rfl (b_neq rfl)) ?_
 refine OA.p (some 14) (.bool false) rfl rfl rfl rfl ?_
 refine OA.p (some 7) (.bool false) rfl rfl rfl rfl ?_
 refine OA.nil ?_
 intro _
 refine RA.condF rfl ?_
 refine RA.seq hd ?_
 refine RA.par (md := [some [], some [n], some [], some [], some [], some [b], some [], some []]) env_ok (hd.of (by omega) (kb2 (by omega))) (by kernel_rfl) ?_
 refine PQ.pure (dst := (some 17)) (v := (Pt n 0 2)) rfl rfl rfl noStore (none_ok _ _) rfl ?_
 refine PQ.pure (dst := (some 18)) (v := (W x)) rfl rfl rfl (app [(n, some ⟨[(xAc513 x k)], 15, 53, true⟩)] noStore) (seen_one (V := []) (D := [((n + 1), some ⟨[xAc514], 15, 53, true⟩), (n, some ⟨[(xAc513 x k)], 15, 53, true⟩)]) (by kernel_rfl) (get_there (by omega) get_here)) (r_load1 rfl rfl rfl rfl rfl get_here rfl rfl) ?_
 refine PQ.pure (dst := (some 19)) (v := (Pt b 0 0)) rfl rfl rfl noStore (none_ok _ _) rfl ?_
 refine PQ.pure (dst := (some 20)) (v := (Pt b 0 0)) rfl rfl rfl noStore (none_ok _ _) rfl ?_
 refine PQ.pure (dst := (some 21)) (v := (Pt b 0 0)) rfl rfl rfl noStore (none_ok _ _) rfl ?_
 refine PQ.pure (dst := (some 22)) (v := (W nx)) rfl rfl rfl (app [(b, some ⟨[(xAc55 nx lt ka)], 17, 103, true⟩)] noStore) (seen_one (V := []) (D := [((n + 1), some ⟨[xAc514], 15, 53, true⟩), (n, some ⟨[(xAc513 x k)], 15, 53, true⟩)]) (by kernel_rfl) (gt2 (by omega) hb)) (r_load1 rfl rfl rfl rfl rfl get_here rfl rfl) ?_
 have hc1 : (x.toNat : Int) = (nx.toNat : Int) := Classical.byContradiction (fun hdd => by exfalso; first | exact h hdd | exact hdd h | exact h2 hdd | exact hdd h2)
 refine PQ.pure (dst := (some 23)) (v := (.bool true)) rfl rfl rfl noStore (none_ok _ _) (Eq.trans (r_bin rfl rfl rfl (b_eql rfl)) (dT hc1)) ?_
 refine PQ.pure (dst := (some 16)) (v := (.bool true)) rfl rfl rfl noStore (none_ok _ _) rfl ?_
 refine PQ.done (d := []) (by kernel_rfl) ?_
 intro _
 refine RA.condT rfl ?_
 refine RA.seq hd ?_
 refine RA.region env_ok ?_
 refine OA.p (some 24) (.agg ⟨xAc514⟩) rfl rfl rfl (by kernel_rfl) ?_
 refine OA.p (some 4) (.bool true) rfl rfl rfl rfl ?_
 refine OA.op1 (dst := none) (v := (.tuple #[])) (n1 := (n + 2)) (w := ((n + 1), some ⟨[xAc514], 15, 53, true⟩)) rfl rfl rfl (r_store rfl rfl rfl rfl rfl rfl rfl get_here rfl rfl (Nat.le_of_ble_eq_true rfl) rfl) (by omega) ?_
 refine OA.p (some 6) (.bool false) rfl rfl rfl rfl ?_
 refine OA.nil ?_
 intro _
 refine RA.weaken (D' := [((n + 1), some ⟨[xAc514], 15, 53, true⟩), (n, some ⟨[(xAc513 x k)], 15, 53, true⟩)]) hd (Less.of (fac (mm (fun _ => get_here) (fun _ => get_here)) (fac (mm (fun _ => (get_there (by omega) get_here)) (fun _ => (gt2 (by omega) get_here))) fan)) (gone_of (by simp only [goneP, memP, List.cons_append, List.nil_append, true_or, or_true, true_and, and_true, or_false] <;> omega))) ?_
 refine RA.ret env_ok ?_
 refine ⟨.inr rfl, [(.bool true), (.agg ⟨xAc514⟩), (.bool false)], (resL_cons rfl (resL_cons (res_cellA rfl rfl rfl get_here rfl rfl rfl) (resL_cons rfl resL_nil))), rfl, (kc2 (by omega))⟩

theorem aTakeOT {σ : Store} (x nx lt : BitVec 32) (b k ka : Nat) (h : ¬ (x.toNat : Int) = (nx.toNat : Int)) (h2 : (x.toNat : Int) = (lt.toNat : Int)) (hb : σ b = some ⟨[[(W nx), (.int .i64 128), (.int .i64 0), (W lt), (.int .i64 0), (.int .i64 0), (.int .u32 0), (.string ByteArray.empty), (.int .u32 0), (.int .u32 0), (.int .i64 0), (.int .i64 0), (.slice (some ⟨ka, 0, none⟩) 1 0), (.slice none 0 0), (.slice none 0 0), (.slice none 0 0), (.bool true)]], 17, 103, true⟩)  : PS Try.prog noDen 40 [(Pt b 0 0), (.agg ⟨[(.int .i64 193), (.int .i64 0), (W x), (.int .i64 0), (.int .i64 0), (.int .u32 0), (.string ByteArray.empty), (.int .u32 0), (.int .u32 0), (.int .i64 0), (.int .i64 0), (.slice (some ⟨k, 0, none⟩) 3 0), (.slice none 0 0), (.slice none 0 0), (.slice none 0 0)]⟩)] σ (.tuple ⟨[(.bool false), (.agg ⟨[(.int .i64 128), (.int .i64 0), (W lt), (.int .i64 0), (.int .i64 0), (.int .u32 0), (.string ByteArray.empty), (.int .u32 0), (.int .u32 0), (.int .i64 0), (.int .i64 0), (.slice (some ⟨ka, 0, none⟩) 1 0), (.slice none 0 0), (.slice none 0 0), (.slice none 0 0)]⟩), (.bool true)]⟩) := by
 refine PS.body (E := env) env_ok rfl rfl (by show _ ≤ _; exact of_decide_eq_true (by kernel_rfl)) (fun n hd => ?_)
 have lhb := hd.lt hb
 refine RA.seq hd ?_
 refine RA.region env_ok ?_
 refine OA.op1 (dst := (some 3)) (v := (Pt n 0 0)) (n1 := (n + 1)) (w := (n, some ⟨[(xAc513 x k)], 15, 53, true⟩)) rfl rfl rfl rfl (by omega) ?_
 refine OA.p (some 4) (.bool false) rfl rfl rfl rfl ?_
 refine OA.op1 (dst := (some 5)) (v := (.pointer (some ⟨(n + 1), 0, some 0⟩))) (n1 := (n + 2)) (w := ((n + 1), some ⟨[xAc514], 15, 53, true⟩)) rfl rfl rfl rfl (by omega) ?_
 refine OA.p (some 6) (.bool false) rfl rfl rfl rfl ?_
 refine OA.nil ?_
 intro _
 refine RA.seq hd ?_
 refine RA.block ?_
 refine RA.seq hd ?_
 refine RA.region env_ok ?_
 refine OA.p (some 8) (Pt b 0 0) rfl rfl rfl rfl ?_
 refine OA.p (some 9) (.bool false) rfl rfl rfl rfl ?_
 refine OA.p (some 10) (.bool false) rfl rfl rfl rfl ?_
 refine OA.p (some 11) (Pt n 0 0) rfl rfl rfl rfl ?_
 refine OA.p (some 12) (.int .i64 193) rfl rfl rfl (r_load1 rfl rfl rfl rfl rfl (get_there (by omega) get_here) rfl rfl) ?_
 refine OA.p (some 13) (.bool false) rfl rfl rfl (r_bin rfl rfl rfl (b_neq rfl)) ?_
 refine OA.p (some 14) (.bool false) rfl rfl rfl rfl ?_
 refine OA.p (some 7) (.bool false) rfl rfl rfl rfl ?_
 refine OA.nil ?_
 intro _
 refine RA.condF rfl ?_
 refine RA.seq hd ?_
 refine RA.par (md := [some [], some [n], some [], some [], some [], some [b], some [], some []]) env_ok (hd.of (by omega) (kb2 (by omega))) (by kernel_rfl) ?_
 refine PQ.pure (dst := (some 17)) (v := (Pt n 0 2)) rfl rfl rfl noStore (none_ok _ _) rfl ?_
 refine PQ.pure (dst := (some 18)) (v := (W x)) rfl rfl rfl (app [(n, some ⟨[(xAc513 x k)], 15, 53, true⟩)] noStore) (seen_one (V := []) (D := [((n + 1), some ⟨[xAc514], 15, 53, true⟩), (n, some ⟨[(xAc513 x k)], 15, 53, true⟩)]) (by kernel_rfl) (get_there (by omega) get_here)) (r_load1 rfl rfl rfl rfl rfl get_here rfl rfl) ?_
 refine PQ.pure (dst := (some 19)) (v := (Pt b 0 0)) rfl rfl rfl noStore (none_ok _ _) rfl ?_
 refine PQ.pure (dst := (some 20)) (v := (Pt b 0 0)) rfl rfl rfl noStore (none_ok _ _) rfl ?_
 refine PQ.pure (dst := (some 21)) (v := (Pt b 0 0)) rfl rfl rfl noStore (none_ok _ _) rfl ?_
 refine PQ.pure (dst := (some 22)) (v := (W nx)) rfl rfl rfl (app [(b, some ⟨[(xAc55 nx lt ka)], 17, 103, true⟩)] noStore) (seen_one (V := []) (D := [((n + 1), some ⟨[xAc514], 15, 53, true⟩), (n, some ⟨[(xAc513 x k)], 15, 53, true⟩)]) (by kernel_rfl) (gt2 (by omega) hb)) (r_load1 rfl rfl rfl rfl rfl get_here rfl rfl) ?_
 have hc1 : ¬ ((x.toNat : Int) = (nx.toNat : Int)) := fun hdd => by exfalso; first | exact h hdd | exact hdd h | exact h2 hdd | exact hdd h2
 refine PQ.pure (dst := (some 23)) (v := (.bool false)) rfl rfl rfl noStore (none_ok _ _) (Eq.trans (r_bin rfl rfl rfl (b_eql rfl)) (dF hc1)) ?_
 refine PQ.pure (dst := (some 16)) (v := (.bool false)) rfl rfl rfl noStore (none_ok _ _) rfl ?_
 refine PQ.done (d := []) (by kernel_rfl) ?_
 intro _
 refine RA.condF rfl ?_
 refine RA.seq hd ?_
 refine RA.par (md := [some [], some [], some [], some [b], some [], some [], some [n], some [], some [], some [], some [], some [b], some [], some [], some []]) env_ok (hd.of (by omega) (kb2 (by omega))) (by kernel_rfl) ?_
 refine PQ.pure (dst := (some 26)) (v := (Pt b 0 0)) rfl rfl rfl noStore (none_ok _ _) rfl ?_
 refine PQ.pure (dst := (some 27)) (v := (Pt b 0 0)) rfl rfl rfl noStore (none_ok _ _) rfl ?_
 refine PQ.pure (dst := (some 28)) (v := (Pt b 0 16)) rfl rfl rfl noStore (none_ok _ _) rfl ?_
 refine PQ.pure (dst := (some 29)) (v := (.bool true)) rfl rfl rfl (app [(b, some ⟨[(xAc55 nx lt ka)], 17, 103, true⟩)] noStore) (seen_one (V := []) (D := [((n + 1), some ⟨[xAc514], 15, 53, true⟩), (n, some ⟨[(xAc513 x k)], 15, 53, true⟩)]) (by kernel_rfl) (gt2 (by omega) hb)) (r_load1 rfl rfl rfl rfl rfl get_here rfl rfl) ?_
 refine PQ.pure (dst := (some 30)) (v := (.bool true)) rfl rfl rfl noStore (none_ok _ _) rfl ?_
 refine PQ.pure (dst := (some 31)) (v := (Pt n 0 2)) rfl rfl rfl noStore (none_ok _ _) rfl ?_
 refine PQ.pure (dst := (some 32)) (v := (W x)) rfl rfl rfl (app [(n, some ⟨[(xAc513 x k)], 15, 53, true⟩)] noStore) (seen_one (V := []) (D := [((n + 1), some ⟨[xAc514], 15, 53, true⟩), (n, some ⟨[(xAc513 x k)], 15, 53, true⟩)]) (by kernel_rfl) (get_there (by omega) get_here)) (r_load1 rfl rfl rfl rfl rfl get_here rfl rfl) ?_
 refine PQ.pure (dst := (some 33)) (v := (Pt b 0 0)) rfl rfl rfl noStore (none_ok _ _) rfl ?_
 refine PQ.pure (dst := (some 34)) (v := (Pt b 0 0)) rfl rfl rfl noStore (none_ok _ _) rfl ?_
 refine PQ.pure (dst := (some 35)) (v := (Pt b 0 1)) rfl rfl rfl noStore (none_ok _ _) rfl ?_
 refine PQ.pure (dst := (some 36)) (v := (Pt b 0 3)) rfl rfl rfl noStore (none_ok _ _) rfl ?_
 refine PQ.pure (dst := (some 37)) (v := (W lt)) rfl rfl rfl (app [(b, some ⟨[(xAc55 nx lt ka)], 17, 103, true⟩)] noStore) (seen_one (V := []) (D := [((n + 1), some ⟨[xAc514], 15, 53, true⟩), (n, some ⟨[(xAc513 x k)], 15, 53, true⟩)]) (by kernel_rfl) (gt2 (by omega) hb)) (r_load1 rfl rfl rfl rfl rfl get_here rfl rfl) ?_
 have hc2 : (x.toNat : Int) = (lt.toNat : Int) := Classical.byContradiction (fun hdd => by exfalso; first | exact h hdd | exact hdd h | exact h2 hdd | exact hdd h2)
 refine PQ.pure (dst := (some 38)) (v := (.bool true)) rfl rfl rfl noStore (none_ok _ _) (Eq.trans (r_bin rfl rfl rfl (b_eql rfl)) (dT hc2)) ?_
 refine PQ.pure (dst := (some 39)) (v := (.bool true)) rfl rfl rfl noStore (none_ok _ _) rfl ?_
 refine PQ.pure (dst := (some 25)) (v := (.bool true)) rfl rfl rfl noStore (none_ok _ _) rfl ?_
 refine PQ.done (d := []) (by kernel_rfl) ?_
 intro _
 refine RA.rebase [(0, (Pt b 0 0)), (1, (.agg ⟨(xAc513 x k)⟩)), (3, (Pt n 0 0)), (4, (.bool false)), (5, (.pointer (some ⟨(n + 1), 0, some 0⟩))), (6, (.bool false)), (7, (.bool false)), (16, (.bool false)), (25, (.bool true))] ⟨rfl, rfl, rfl, rfl, rfl, rfl, rfl, rfl, rfl, trivial⟩ (fun τr1 => ?_)
 refine RA.condT rfl ?_
 refine RA.seq hd ?_
 refine RA.par (md := [some [], some [], some [], some [b], some [], none, some []]) env_ok (hd.of (by omega) (kb2 (by omega))) (by kernel_rfl) ?_
 refine PQ.pure (dst := (some 40)) (v := (Pt b 0 0)) rfl rfl rfl noStore (none_ok _ _) rfl ?_
 refine PQ.pure (dst := (some 41)) (v := (Pt b 0 0)) rfl rfl rfl noStore (none_ok _ _) rfl ?_
 refine PQ.pure (dst := (some 42)) (v := (Pt b 0 1)) rfl rfl rfl noStore (none_ok _ _) rfl ?_
 refine PQ.pure (dst := (some 43)) (v := (.agg ⟨(xAc510 lt ka)⟩)) rfl rfl rfl (app [(b, some ⟨[(xAc55 nx lt ka)], 17, 103, true⟩)] noStore) (seen_one (V := []) (D := [((n + 1), some ⟨[xAc514], 15, 53, true⟩), (n, some ⟨[(xAc513 x k)], 15, 53, true⟩)]) (by kernel_rfl) (gt2 (by omega) hb)) (r_loadA rfl rfl rfl rfl get_here rfl rfl rfl) ?_
 refine PQ.pure (dst := (some 4)) (v := (.bool false)) rfl rfl rfl noStore (none_ok _ _) rfl ?_
 refine PQ.op (dst := none) (v := (.tuple #[])) (n1 := (n + 2)) (d1 := [((n + 1), some ⟨[(xAc510 lt ka)], 15, 53, true⟩)]) rfl rfl rfl _ (seen_any (V := []) (D := [((n + 1), some ⟨[xAc514], 15, 53, true⟩), (n, some ⟨[(xAc513 x k)], 15, 53, true⟩)]) (by kernel_rfl)) (r_store rfl rfl rfl rfl rfl rfl rfl get_here rfl rfl (Nat.le_of_ble_eq_true rfl) rfl) (by omega) (kp1 (wr_tight (by kernel_rfl) (by omega))) ?_
 refine PQ.pure (dst := (some 6)) (v := (.bool true)) rfl rfl rfl noStore (none_ok _ _) rfl ?_
 refine PQ.done (d := [((n + 1), some ⟨[(xAc510 lt ka)], 15, 53, true⟩)]) (by kernel_rfl) ?_
 intro _
 refine RA.weaken (D' := [((n + 1), some ⟨[(xAc510 lt ka)], 15, 53, true⟩), (n, some ⟨[(xAc513 x k)], 15, 53, true⟩)]) hd (Less.of (fac (mm (fun _ => get_here) (fun _ => get_here)) (fac (mm (fun _ => (get_there (by omega) get_here)) (fun _ => (gt2 (by omega) get_here))) fan)) (gone_of (by simp only [goneP, memP, List.cons_append, List.nil_append, true_or, or_true, true_and, and_true, or_false] <;> omega))) ?_
 refine RA.ret env_ok ?_
 refine ⟨.inr rfl, [(.bool false), (.agg ⟨(xAc510 lt ka)⟩), (.bool true)], (resL_cons rfl (resL_cons (res_cellA rfl rfl rfl get_here rfl rfl rfl) (resL_cons rfl resL_nil))), rfl, (kc2 (by omega))⟩

theorem aTakeFT {σ : Store} (x nx lt : BitVec 32) (b k ka : Nat) (h : ¬ (x.toNat : Int) = (nx.toNat : Int)) (h2 : ¬ (x.toNat : Int) = (lt.toNat : Int)) (hb : σ b = some ⟨[[(W nx), (.int .i64 128), (.int .i64 0), (W lt), (.int .i64 0), (.int .i64 0), (.int .u32 0), (.string ByteArray.empty), (.int .u32 0), (.int .u32 0), (.int .i64 0), (.int .i64 0), (.slice (some ⟨ka, 0, none⟩) 1 0), (.slice none 0 0), (.slice none 0 0), (.slice none 0 0), (.bool true)]], 17, 103, true⟩)  : PS Try.prog noDen 40 [(Pt b 0 0), (.agg ⟨[(.int .i64 193), (.int .i64 0), (W x), (.int .i64 0), (.int .i64 0), (.int .u32 0), (.string ByteArray.empty), (.int .u32 0), (.int .u32 0), (.int .i64 0), (.int .i64 0), (.slice (some ⟨k, 0, none⟩) 3 0), (.slice none 0 0), (.slice none 0 0), (.slice none 0 0)]⟩)] σ (.tuple ⟨[(.bool false), (.agg ⟨[(.int .i64 0), (.int .i64 0), (.int .u32 0), (.int .i64 0), (.int .i64 0), (.int .u32 0), (.string ByteArray.empty), (.int .u32 0), (.int .u32 0), (.int .i64 0), (.int .i64 0), (.slice none 0 0), (.slice none 0 0), (.slice none 0 0), (.slice none 0 0)]⟩), (.bool false)]⟩) := by
 refine PS.body (E := env) env_ok rfl rfl (by show _ ≤ _; exact of_decide_eq_true (by kernel_rfl)) (fun n hd => ?_)
 have lhb := hd.lt hb
 refine RA.seq hd ?_
 refine RA.region env_ok ?_
 refine OA.op1 (dst := (some 3)) (v := (Pt n 0 0)) (n1 := (n + 1)) (w := (n, some ⟨[(xAc513 x k)], 15, 53, true⟩)) rfl rfl rfl rfl (by omega) ?_
 refine OA.p (some 4) (.bool false) rfl rfl rfl rfl ?_
 refine OA.op1 (dst := (some 5)) (v := (.pointer (some ⟨(n + 1), 0, some 0⟩))) (n1 := (n + 2)) (w := ((n + 1), some ⟨[xAc514], 15, 53, true⟩)) rfl rfl rfl rfl (by omega) ?_
 refine OA.p (some 6) (.bool false) rfl rfl rfl rfl ?_
 refine OA.nil ?_
 intro _
 refine RA.seq hd ?_
 refine RA.block ?_
 refine RA.seq hd ?_
 refine RA.region env_ok ?_
 refine OA.p (some 8) (Pt b 0 0) rfl rfl rfl rfl ?_
 refine OA.p (some 9) (.bool false) rfl rfl rfl rfl ?_
 refine OA.p (some 10) (.bool false) rfl rfl rfl rfl ?_
 refine OA.p (some 11) (Pt n 0 0) rfl rfl rfl rfl ?_
 refine OA.p (some 12) (.int .i64 193) rfl rfl rfl (r_load1 rfl rfl rfl rfl rfl (get_there (by omega) get_here) rfl rfl) ?_
 refine OA.p (some 13) (.bool false) rfl rfl rfl (r_bin rfl rfl rfl (b_neq rfl)) ?_
 refine OA.p (some 14) (.bool false) rfl rfl rfl rfl ?_
 refine OA.p (some 7) (.bool false) rfl rfl rfl rfl ?_
 refine OA.nil ?_
 intro _
 refine RA.condF rfl ?_
 refine RA.seq hd ?_
 refine RA.par (md := [some [], some [n], some [], some [], some [], some [b], some [], some []]) env_ok (hd.of (by omega) (kb2 (by omega))) (by kernel_rfl) ?_
 refine PQ.pure (dst := (some 17)) (v := (Pt n 0 2)) rfl rfl rfl noStore (none_ok _ _) rfl ?_
 refine PQ.pure (dst := (some 18)) (v := (W x)) rfl rfl rfl (app [(n, some ⟨[(xAc513 x k)], 15, 53, true⟩)] noStore) (seen_one (V := []) (D := [((n + 1), some ⟨[xAc514], 15, 53, true⟩), (n, some ⟨[(xAc513 x k)], 15, 53, true⟩)]) (by kernel_rfl) (get_there (by omega) get_here)) (r_load1 rfl rfl rfl rfl rfl get_here rfl rfl) ?_
 refine PQ.pure (dst := (some 19)) (v := (Pt b 0 0)) rfl rfl rfl noStore (none_ok _ _) rfl ?_
 refine PQ.pure (dst := (some 20)) (v := (Pt b 0 0)) rfl rfl rfl noStore (none_ok _ _) rfl ?_
 refine PQ.pure (dst := (some 21)) (v := (Pt b 0 0)) rfl rfl rfl noStore (none_ok _ _) rfl ?_
 refine PQ.pure (dst := (some 22)) (v := (W nx)) rfl rfl rfl (app [(b, some ⟨[(xAc55 nx lt ka)], 17, 103, true⟩)] noStore) (seen_one (V := []) (D := [((n + 1), some ⟨[xAc514], 15, 53, true⟩), (n, some ⟨[(xAc513 x k)], 15, 53, true⟩)]) (by kernel_rfl) (gt2 (by omega) hb)) (r_load1 rfl rfl rfl rfl rfl get_here rfl rfl) ?_
 have hc1 : ¬ ((x.toNat : Int) = (nx.toNat : Int)) := fun hdd => by exfalso; first | exact h hdd | exact hdd h | exact h2 hdd | exact hdd h2
 refine PQ.pure (dst := (some 23)) (v := (.bool false)) rfl rfl rfl noStore (none_ok _ _) (Eq.trans (r_bin rfl rfl rfl (b_eql rfl)) (dF hc1)) ?_
 refine PQ.pure (dst := (some 16)) (v := (.bool false)) rfl rfl rfl noStore (none_ok _ _) rfl ?_
 refine PQ.done (d := []) (by kernel_rfl) ?_
 intro _
 refine RA.condF rfl ?_
 refine RA.seq hd ?_
 refine RA.par (md := [some [], some [], some [], some [b], some [], some [], some [n], some [], some [], some [], some [], some [b], some [], some [], some []]) env_ok (hd.of (by omega) (kb2 (by omega))) (by kernel_rfl) ?_
 refine PQ.pure (dst := (some 26)) (v := (Pt b 0 0)) rfl rfl rfl noStore (none_ok _ _) rfl ?_
 refine PQ.pure (dst := (some 27)) (v := (Pt b 0 0)) rfl rfl rfl noStore (none_ok _ _) rfl ?_
 refine PQ.pure (dst := (some 28)) (v := (Pt b 0 16)) rfl rfl rfl noStore (none_ok _ _) rfl ?_
 refine PQ.pure (dst := (some 29)) (v := (.bool true)) rfl rfl rfl (app [(b, some ⟨[(xAc55 nx lt ka)], 17, 103, true⟩)] noStore) (seen_one (V := []) (D := [((n + 1), some ⟨[xAc514], 15, 53, true⟩), (n, some ⟨[(xAc513 x k)], 15, 53, true⟩)]) (by kernel_rfl) (gt2 (by omega) hb)) (r_load1 rfl rfl rfl rfl rfl get_here rfl rfl) ?_
 refine PQ.pure (dst := (some 30)) (v := (.bool true)) rfl rfl rfl noStore (none_ok _ _) rfl ?_
 refine PQ.pure (dst := (some 31)) (v := (Pt n 0 2)) rfl rfl rfl noStore (none_ok _ _) rfl ?_
 refine PQ.pure (dst := (some 32)) (v := (W x)) rfl rfl rfl (app [(n, some ⟨[(xAc513 x k)], 15, 53, true⟩)] noStore) (seen_one (V := []) (D := [((n + 1), some ⟨[xAc514], 15, 53, true⟩), (n, some ⟨[(xAc513 x k)], 15, 53, true⟩)]) (by kernel_rfl) (get_there (by omega) get_here)) (r_load1 rfl rfl rfl rfl rfl get_here rfl rfl) ?_
 refine PQ.pure (dst := (some 33)) (v := (Pt b 0 0)) rfl rfl rfl noStore (none_ok _ _) rfl ?_
 refine PQ.pure (dst := (some 34)) (v := (Pt b 0 0)) rfl rfl rfl noStore (none_ok _ _) rfl ?_
 refine PQ.pure (dst := (some 35)) (v := (Pt b 0 1)) rfl rfl rfl noStore (none_ok _ _) rfl ?_
 refine PQ.pure (dst := (some 36)) (v := (Pt b 0 3)) rfl rfl rfl noStore (none_ok _ _) rfl ?_
 refine PQ.pure (dst := (some 37)) (v := (W lt)) rfl rfl rfl (app [(b, some ⟨[(xAc55 nx lt ka)], 17, 103, true⟩)] noStore) (seen_one (V := []) (D := [((n + 1), some ⟨[xAc514], 15, 53, true⟩), (n, some ⟨[(xAc513 x k)], 15, 53, true⟩)]) (by kernel_rfl) (gt2 (by omega) hb)) (r_load1 rfl rfl rfl rfl rfl get_here rfl rfl) ?_
 have hc2 : ¬ ((x.toNat : Int) = (lt.toNat : Int)) := fun hdd => by exfalso; first | exact h hdd | exact hdd h | exact h2 hdd | exact hdd h2
 refine PQ.pure (dst := (some 38)) (v := (.bool false)) rfl rfl rfl noStore (none_ok _ _) (Eq.trans (r_bin rfl rfl rfl (b_eql rfl)) (dF hc2)) ?_
 refine PQ.pure (dst := (some 39)) (v := (.bool false)) rfl rfl rfl noStore (none_ok _ _) rfl ?_
 refine PQ.pure (dst := (some 25)) (v := (.bool false)) rfl rfl rfl noStore (none_ok _ _) rfl ?_
 refine PQ.done (d := []) (by kernel_rfl) ?_
 intro _
 refine RA.rebase [(0, (Pt b 0 0)), (1, (.agg ⟨(xAc513 x k)⟩)), (3, (Pt n 0 0)), (4, (.bool false)), (5, (.pointer (some ⟨(n + 1), 0, some 0⟩))), (6, (.bool false)), (7, (.bool false)), (16, (.bool false)), (25, (.bool false))] ⟨rfl, rfl, rfl, rfl, rfl, rfl, rfl, rfl, rfl, trivial⟩ (fun τr1 => ?_)
 refine RA.condF rfl ?_
 refine RA.skip env_ok ?_
 intro _
 refine RA.seq hd ?_
 refine RA.region env_ok ?_
 refine OA.p (some 44) (.agg ⟨xAc514⟩) rfl rfl rfl (by kernel_rfl) ?_
 refine OA.p (some 4) (.bool false) rfl rfl rfl rfl ?_
 refine OA.op1 (dst := none) (v := (.tuple #[])) (n1 := (n + 2)) (w := ((n + 1), some ⟨[xAc514], 15, 53, true⟩)) rfl rfl rfl (r_store rfl rfl rfl rfl rfl rfl rfl get_here rfl rfl (Nat.le_of_ble_eq_true rfl) rfl) (by omega) ?_
 refine OA.p (some 6) (.bool false) rfl rfl rfl rfl ?_
 refine OA.nil ?_
 intro _
 refine RA.weaken (D' := [((n + 1), some ⟨[xAc514], 15, 53, true⟩), (n, some ⟨[(xAc513 x k)], 15, 53, true⟩)]) hd (Less.of (fac (mm (fun _ => get_here) (fun _ => get_here)) (fac (mm (fun _ => (get_there (by omega) get_here)) (fun _ => (gt2 (by omega) get_here))) fan)) (gone_of (by simp only [goneP, memP, List.cons_append, List.nil_append, true_or, or_true, true_and, and_true, or_false] <;> omega))) ?_
 refine RA.ret env_ok ?_
 refine ⟨.inr rfl, [(.bool false), (.agg ⟨xAc514⟩), (.bool false)], (resL_cons rfl (resL_cons (res_cellA rfl rfl rfl get_here rfl rfl rfl) (resL_cons rfl resL_nil))), rfl, (kc2 (by omega))⟩

theorem aSame {σ : Store} (x : BitVec 32) (k1 k2 : Nat) (t : Int) (u : ByteArray) (hk1 : σ k1 = some ⟨[[(.int .i64 t), (.string u)]], 2, 35, true⟩) (hk2 : σ k2 = some ⟨[[(.int .i64 t), (.string u)]], 2, 35, true⟩)  : PS Try.prog noDen 26 [(.agg ⟨[(.int .i64 128), (.int .i64 0), (W x), (.int .i64 0), (.int .i64 0), (.int .u32 0), (.string ByteArray.empty), (.int .u32 0), (.int .u32 0), (.int .i64 0), (.int .i64 0), (.slice (some ⟨k1, 0, none⟩) 1 0), (.slice none 0 0), (.slice none 0 0), (.slice none 0 0)]⟩), (.agg ⟨[(.int .i64 128), (.int .i64 0), (W x), (.int .i64 0), (.int .i64 0), (.int .u32 0), (.string ByteArray.empty), (.int .u32 0), (.int .u32 0), (.int .i64 0), (.int .i64 0), (.slice (some ⟨k2, 0, none⟩) 1 0), (.slice none 0 0), (.slice none 0 0), (.slice none 0 0)]⟩)] σ (.bool true) := by
 refine PS.body (E := env) env_ok rfl rfl (by show _ ≤ _; exact of_decide_eq_true (by kernel_rfl)) (fun n hd => ?_)
 have lhk1 := hd.lt hk1
 have lhk2 := hd.lt hk2
 refine RA.seq hd ?_
 refine RA.region env_ok ?_
 refine OA.op1 (dst := (some 2)) (v := (Pt n 0 0)) (n1 := (n + 1)) (w := (n, some ⟨[(xAc511 x k1)], 15, 53, true⟩)) rfl rfl rfl rfl (by omega) ?_
 refine OA.op1 (dst := (some 3)) (v := (.pointer (some ⟨(n + 1), 0, some 0⟩))) (n1 := (n + 2)) (w := ((n + 1), some ⟨[(xAc512 x k2)], 15, 53, true⟩)) rfl rfl rfl rfl (by omega) ?_
 refine OA.p (some 4) (.bool false) rfl rfl rfl rfl ?_
 refine OA.nil ?_
 intro _
 refine RA.seq hd ?_
 refine RA.seq hd ?_
 refine RA.region env_ok ?_
 refine OA.p (some 9) (Pt n 0 0) rfl rfl rfl rfl ?_
 refine OA.p (some 10) (.int .i64 128) rfl rfl rfl (r_load1 rfl rfl rfl rfl rfl (get_there (by omega) get_here) rfl rfl) ?_
 refine OA.p (some 11) (.pointer (some ⟨(n + 1), 0, some 0⟩)) rfl rfl rfl rfl ?_
 refine OA.p (some 12) (.int .i64 128) rfl rfl rfl (r_load1 rfl rfl rfl rfl rfl get_here rfl rfl) ?_
 refine OA.p (some 13) (.bool false) rfl rfl rfl (r_bin rfl rfl rfl (b_neq rfl)) ?_
 refine OA.p (some 14) (.bool false) rfl rfl rfl rfl ?_
 refine OA.p (some 15) (Pt n 0 1) rfl rfl rfl rfl ?_
 refine OA.p (some 16) (.int .i64 0) rfl rfl rfl (r_load1 rfl rfl rfl rfl rfl (get_there (by omega) get_here) rfl rfl) ?_
 refine OA.p (some 17) (.pointer (some ⟨(n + 1), 0, some 1⟩)) rfl rfl rfl rfl ?_
 refine OA.p (some 18) (.int .i64 0) rfl rfl rfl (r_load1 rfl rfl rfl rfl rfl get_here rfl rfl) ?_
 refine OA.p (some 19) (.bool false) rfl rfl rfl (r_bin rfl rfl rfl (b_neq rfl)) ?_
 refine OA.p (some 20) (.bool false) rfl rfl rfl rfl ?_
 refine OA.p (some 21) (.bool false) rfl rfl rfl rfl ?_
 refine OA.p (some 22) (Pt n 0 2) rfl rfl rfl rfl ?_
 refine OA.p (some 23) (W x) rfl rfl rfl (r_load1 rfl rfl rfl rfl rfl (get_there (by omega) get_here) rfl rfl) ?_
 refine OA.p (some 24) (.pointer (some ⟨(n + 1), 0, some 2⟩)) rfl rfl rfl rfl ?_
 refine OA.p (some 25) (W x) rfl rfl rfl (r_load1 rfl rfl rfl rfl rfl get_here rfl rfl) ?_
 refine OA.p (some 26) (.bool false) rfl rfl rfl (r_bin rfl rfl rfl (b_neq (decide_eq_false (fun h => h rfl)))) ?_
 refine OA.p (some 27) (.bool false) rfl rfl rfl rfl ?_
 refine OA.p (some 28) (.bool false) rfl rfl rfl rfl ?_
 refine OA.p (some 29) (Pt n 0 3) rfl rfl rfl rfl ?_
 refine OA.p (some 30) (.int .i64 0) rfl rfl rfl (r_load1 rfl rfl rfl rfl rfl (get_there (by omega) get_here) rfl rfl) ?_
 refine OA.p (some 31) (.pointer (some ⟨(n + 1), 0, some 3⟩)) rfl rfl rfl rfl ?_
 refine OA.p (some 32) (.int .i64 0) rfl rfl rfl (r_load1 rfl rfl rfl rfl rfl get_here rfl rfl) ?_
 refine OA.p (some 33) (.bool false) rfl rfl rfl (r_bin rfl rfl rfl (b_neq rfl)) ?_
 refine OA.p (some 34) (.bool false) rfl rfl rfl rfl ?_
 refine OA.p (some 35) (.bool false) rfl rfl rfl rfl ?_
 refine OA.p (some 36) (Pt n 0 4) rfl rfl rfl rfl ?_
 refine OA.p (some 37) (.int .i64 0) rfl rfl rfl (r_load1 rfl rfl rfl rfl rfl (get_there (by omega) get_here) rfl rfl) ?_
 refine OA.p (some 38) (.pointer (some ⟨(n + 1), 0, some 4⟩)) rfl rfl rfl rfl ?_
 refine OA.p (some 39) (.int .i64 0) rfl rfl rfl (r_load1 rfl rfl rfl rfl rfl get_here rfl rfl) ?_
 refine OA.p (some 40) (.bool false) rfl rfl rfl (r_bin rfl rfl rfl (b_neq rfl)) ?_
 refine OA.p (some 41) (.bool false) rfl rfl rfl rfl ?_
 refine OA.p (some 42) (.bool false) rfl rfl rfl rfl ?_
 refine OA.p (some 43) (Pt n 0 5) rfl rfl rfl rfl ?_
 refine OA.p (some 44) (.int .u32 0) rfl rfl rfl (r_load1 rfl rfl rfl rfl rfl (get_there (by omega) get_here) rfl rfl) ?_
 refine OA.p (some 45) (.pointer (some ⟨(n + 1), 0, some 5⟩)) rfl rfl rfl rfl ?_
 refine OA.p (some 46) (.int .u32 0) rfl rfl rfl (r_load1 rfl rfl rfl rfl rfl get_here rfl rfl) ?_
 refine OA.p (some 47) (.bool false) rfl rfl rfl (r_bin rfl rfl rfl (b_neq rfl)) ?_
 refine OA.p (some 48) (.bool false) rfl rfl rfl rfl ?_
 refine OA.p (some 49) (.bool false) rfl rfl rfl rfl ?_
 refine OA.p (some 50) (Pt n 0 6) rfl rfl rfl rfl ?_
 refine OA.p (some 51) (.string ByteArray.empty) rfl rfl rfl (r_load1 rfl rfl rfl rfl rfl (get_there (by omega) get_here) rfl rfl) ?_
 refine OA.p (some 52) (.pointer (some ⟨(n + 1), 0, some 6⟩)) rfl rfl rfl rfl ?_
 refine OA.p (some 53) (.string ByteArray.empty) rfl rfl rfl (r_load1 rfl rfl rfl rfl rfl get_here rfl rfl) ?_
 refine OA.p (some 54) (.bool false) rfl rfl rfl (Eq.trans (r_neqS rfl rfl rfl) (by rw [decide_eq_true rfl] <;> rfl)) ?_
 refine OA.p (some 55) (.bool false) rfl rfl rfl rfl ?_
 refine OA.p (some 56) (.bool false) rfl rfl rfl rfl ?_
 refine OA.p (some 57) (Pt n 0 7) rfl rfl rfl rfl ?_
 refine OA.p (some 58) (.int .u32 0) rfl rfl rfl (r_load1 rfl rfl rfl rfl rfl (get_there (by omega) get_here) rfl rfl) ?_
 refine OA.p (some 59) (.pointer (some ⟨(n + 1), 0, some 7⟩)) rfl rfl rfl rfl ?_
 refine OA.p (some 60) (.int .u32 0) rfl rfl rfl (r_load1 rfl rfl rfl rfl rfl get_here rfl rfl) ?_
 refine OA.p (some 61) (.bool false) rfl rfl rfl (r_bin rfl rfl rfl (b_neq rfl)) ?_
 refine OA.p (some 62) (.bool false) rfl rfl rfl rfl ?_
 refine OA.p (some 63) (.bool false) rfl rfl rfl rfl ?_
 refine OA.p (some 64) (Pt n 0 8) rfl rfl rfl rfl ?_
 refine OA.p (some 65) (.int .u32 0) rfl rfl rfl (r_load1 rfl rfl rfl rfl rfl (get_there (by omega) get_here) rfl rfl) ?_
 refine OA.p (some 66) (.pointer (some ⟨(n + 1), 0, some 8⟩)) rfl rfl rfl rfl ?_
 refine OA.p (some 67) (.int .u32 0) rfl rfl rfl (r_load1 rfl rfl rfl rfl rfl get_here rfl rfl) ?_
 refine OA.p (some 68) (.bool false) rfl rfl rfl (r_bin rfl rfl rfl (b_neq rfl)) ?_
 refine OA.p (some 69) (.bool false) rfl rfl rfl rfl ?_
 refine OA.p (some 70) (.bool false) rfl rfl rfl rfl ?_
 refine OA.p (some 71) (Pt n 0 9) rfl rfl rfl rfl ?_
 refine OA.p (some 72) (.int .i64 0) rfl rfl rfl (r_load1 rfl rfl rfl rfl rfl (get_there (by omega) get_here) rfl rfl) ?_
 refine OA.p (some 73) (.pointer (some ⟨(n + 1), 0, some 9⟩)) rfl rfl rfl rfl ?_
 refine OA.p (some 74) (.int .i64 0) rfl rfl rfl (r_load1 rfl rfl rfl rfl rfl get_here rfl rfl) ?_
 refine OA.p (some 75) (.bool false) rfl rfl rfl (r_bin rfl rfl rfl (b_neq rfl)) ?_
 refine OA.p (some 76) (.bool false) rfl rfl rfl rfl ?_
 refine OA.p (some 77) (.bool false) rfl rfl rfl rfl ?_
 refine OA.p (some 78) (Pt n 0 10) rfl rfl rfl rfl ?_
 refine OA.p (some 79) (.int .i64 0) rfl rfl rfl (r_load1 rfl rfl rfl rfl rfl (get_there (by omega) get_here) rfl rfl) ?_
 refine OA.p (some 80) (.pointer (some ⟨(n + 1), 0, some 10⟩)) rfl rfl rfl rfl ?_
 refine OA.p (some 81) (.int .i64 0) rfl rfl rfl (r_load1 rfl rfl rfl rfl rfl get_here rfl rfl) ?_
 refine OA.p (some 82) (.bool false) rfl rfl rfl (r_bin rfl rfl rfl (b_neq rfl)) ?_
 refine OA.p (some 83) (.bool false) rfl rfl rfl rfl ?_
 refine OA.p (some 84) (.bool false) rfl rfl rfl rfl ?_
 refine OA.p (some 85) (Pt n 0 11) rfl rfl rfl rfl ?_
 refine OA.p (some 86) (.slice (some ⟨k1, 0, none⟩) 1 0) rfl rfl rfl (r_load1 rfl rfl rfl rfl rfl (get_there (by omega) get_here) rfl rfl) ?_
 refine OA.p (some 87) (.int .i64 1) rfl rfl rfl rfl ?_
 refine OA.p (some 88) (.pointer (some ⟨(n + 1), 0, some 11⟩)) rfl rfl rfl rfl ?_
 refine OA.p (some 89) (.slice (some ⟨k2, 0, none⟩) 1 0) rfl rfl rfl (r_load1 rfl rfl rfl rfl rfl get_here rfl rfl) ?_
 refine OA.p (some 90) (.int .i64 1) rfl rfl rfl rfl ?_
 refine OA.p (some 91) (.bool false) rfl rfl rfl (r_bin rfl rfl rfl (b_neq rfl)) ?_
 refine OA.p (some 92) (.bool false) rfl rfl rfl rfl ?_
 refine OA.p (some 93) (.bool false) rfl rfl rfl rfl ?_
 refine OA.p (some 94) (Pt n 0 12) rfl rfl rfl rfl ?_
 refine OA.p (some 95) (.slice none 0 0) rfl rfl rfl (r_load1 rfl rfl rfl rfl rfl (get_there (by omega) get_here) rfl rfl) ?_
 refine OA.p (some 96) (.int .i64 0) rfl rfl rfl rfl ?_
 refine OA.p (some 97) (.pointer (some ⟨(n + 1), 0, some 12⟩)) rfl rfl rfl rfl ?_
 refine OA.p (some 98) (.slice none 0 0) rfl rfl rfl (r_load1 rfl rfl rfl rfl rfl get_here rfl rfl) ?_
 refine OA.p (some 99) (.int .i64 0) rfl rfl rfl rfl ?_
 refine OA.p (some 100) (.bool false) rfl rfl rfl (r_bin rfl rfl rfl (b_neq rfl)) ?_
 refine OA.p (some 101) (.bool false) rfl rfl rfl rfl ?_
 refine OA.p (some 102) (.bool false) rfl rfl rfl rfl ?_
 refine OA.p (some 103) (Pt n 0 13) rfl rfl rfl rfl ?_
 refine OA.p (some 104) (.slice none 0 0) rfl rfl rfl (r_load1 rfl rfl rfl rfl rfl (get_there (by omega) get_here) rfl rfl) ?_
 refine OA.p (some 105) (.int .i64 0) rfl rfl rfl rfl ?_
 refine OA.p (some 106) (.pointer (some ⟨(n + 1), 0, some 13⟩)) rfl rfl rfl rfl ?_
 refine OA.p (some 107) (.slice none 0 0) rfl rfl rfl (r_load1 rfl rfl rfl rfl rfl get_here rfl rfl) ?_
 refine OA.p (some 108) (.int .i64 0) rfl rfl rfl rfl ?_
 refine OA.p (some 109) (.bool false) rfl rfl rfl (r_bin rfl rfl rfl (b_neq rfl)) ?_
 refine OA.p (some 110) (.bool false) rfl rfl rfl rfl ?_
 refine OA.p (some 111) (.bool false) rfl rfl rfl rfl ?_
 refine OA.p (some 112) (Pt n 0 14) rfl rfl rfl rfl ?_
 refine OA.p (some 113) (.slice none 0 0) rfl rfl rfl (r_load1 rfl rfl rfl rfl rfl (get_there (by omega) get_here) rfl rfl) ?_
 refine OA.p (some 114) (.int .i64 0) rfl rfl rfl rfl ?_
 refine OA.p (some 115) (.pointer (some ⟨(n + 1), 0, some 14⟩)) rfl rfl rfl rfl ?_
 refine OA.p (some 116) (.slice none 0 0) rfl rfl rfl (r_load1 rfl rfl rfl rfl rfl get_here rfl rfl) ?_
 refine OA.p (some 117) (.int .i64 0) rfl rfl rfl rfl ?_
 refine OA.p (some 118) (.bool false) rfl rfl rfl (r_bin rfl rfl rfl (b_neq rfl)) ?_
 refine OA.p (some 119) (.bool false) rfl rfl rfl rfl ?_
 refine OA.nil ?_
 intro _
 refine RA.rebase [(0, (.agg ⟨(xAc511 x k1)⟩)), (1, (.agg ⟨(xAc512 x k2)⟩)), (2, (Pt n 0 0)), (3, (.pointer (some ⟨(n + 1), 0, some 0⟩))), (4, (.bool false)), (119, (.bool false))] ⟨rfl, rfl, rfl, rfl, rfl, rfl, trivial⟩ (fun τr1 => ?_)
 refine RA.condF rfl ?_
 refine RA.skip env_ok ?_
 intro _
 refine RA.seq hd ?_
 refine RA.seq hd ?_
 refine RA.region env_ok ?_
 refine OA.p (some 5) (.int .i64 0) rfl rfl rfl rfl ?_
 refine OA.nil ?_
 intro _
 refine RA.block ?_
 refine RA.unroll hd ?_
 refine RA.seq hd ?_
 refine RA.seq hd ?_
 refine RA.region env_ok ?_
 refine OA.p (some 120) (.int .i64 0) rfl rfl rfl rfl ?_
 refine OA.p (some 121) (Pt n 0 11) rfl rfl rfl rfl ?_
 refine OA.p (some 122) (.slice (some ⟨k1, 0, none⟩) 1 0) rfl rfl rfl (r_load1 rfl rfl rfl rfl rfl (get_there (by omega) get_here) rfl rfl) ?_
 refine OA.p (some 123) (.int .i64 1) rfl rfl rfl rfl ?_
 refine OA.p (some 124) (.bool true) rfl rfl rfl (r_bin rfl rfl rfl (b_lss rfl)) ?_
 refine OA.nil ?_
 intro _
 refine RA.condT rfl ?_
 refine RA.skip env_ok ?_
 intro _
 refine RA.seq hd ?_
 refine RA.block ?_
 refine RA.seq hd ?_
 refine RA.par (md := [some [], some [n], some [], none, none, some [], some [(n + 1)], some [], none, none, some []]) env_ok (hd.of (by omega) (kb2 (by omega))) (by kernel_rfl) ?_
 refine PQ.pure (dst := (some 127)) (v := (Pt n 0 11)) rfl rfl rfl noStore (none_ok _ _) rfl ?_
 refine PQ.pure (dst := (some 128)) (v := (.slice (some ⟨k1, 0, none⟩) 1 0)) rfl rfl rfl (app [(n, some ⟨[(xAc511 x k1)], 15, 53, true⟩)] noStore) (seen_one (V := []) (D := [((n + 1), some ⟨[(xAc512 x k2)], 15, 53, true⟩), (n, some ⟨[(xAc511 x k1)], 15, 53, true⟩)]) (by kernel_rfl) (get_there (by omega) get_here)) (r_load1 rfl rfl rfl rfl rfl get_here rfl rfl) ?_
 refine PQ.pure (dst := (some 129)) (v := (.int .i64 0)) rfl rfl rfl noStore (none_ok _ _) rfl ?_
 refine PQ.pure (dst := (some 130)) (v := (Pt k1 0 0)) rfl rfl rfl _ (seen_any (V := []) (D := [((n + 1), some ⟨[(xAc512 x k2)], 15, 53, true⟩), (n, some ⟨[(xAc511 x k1)], 15, 53, true⟩)]) (by kernel_rfl)) (r_iaS (l := 0) rfl rfl rfl rfl rfl rfl (by omega) (by omega) (gt2 (by omega) hk1) rfl (by omega)) ?_
 refine PQ.pure (dst := (some 131)) (v := (.agg ⟨[(.int .i64 t), (.string u)]⟩)) rfl rfl rfl _ (seen_any (V := []) (D := [((n + 1), some ⟨[(xAc512 x k2)], 15, 53, true⟩), (n, some ⟨[(xAc511 x k1)], 15, 53, true⟩)]) (by kernel_rfl)) (r_loadA rfl rfl rfl rfl (gt2 (by omega) hk1) rfl rfl rfl) ?_
 refine PQ.pure (dst := (some 132)) (v := (.pointer (some ⟨(n + 1), 0, some 11⟩))) rfl rfl rfl noStore (none_ok _ _) rfl ?_
 refine PQ.pure (dst := (some 133)) (v := (.slice (some ⟨k2, 0, none⟩) 1 0)) rfl rfl rfl (app [((n + 1), some ⟨[(xAc512 x k2)], 15, 53, true⟩)] noStore) (seen_one (V := []) (D := [((n + 1), some ⟨[(xAc512 x k2)], 15, 53, true⟩), (n, some ⟨[(xAc511 x k1)], 15, 53, true⟩)]) (by kernel_rfl) get_here) (r_load1 rfl rfl rfl rfl rfl get_here rfl rfl) ?_
 refine PQ.pure (dst := (some 134)) (v := (.int .i64 0)) rfl rfl rfl noStore (none_ok _ _) rfl ?_
 refine PQ.pure (dst := (some 135)) (v := (Pt k2 0 0)) rfl rfl rfl _ (seen_any (V := []) (D := [((n + 1), some ⟨[(xAc512 x k2)], 15, 53, true⟩), (n, some ⟨[(xAc511 x k1)], 15, 53, true⟩)]) (by kernel_rfl)) (r_iaS (l := 0) rfl rfl rfl rfl rfl rfl (by omega) (by omega) (gt2 (by omega) hk2) rfl (by omega)) ?_
 refine PQ.pure (dst := (some 136)) (v := (.agg ⟨[(.int .i64 t), (.string u)]⟩)) rfl rfl rfl _ (seen_any (V := []) (D := [((n + 1), some ⟨[(xAc512 x k2)], 15, 53, true⟩), (n, some ⟨[(xAc511 x k1)], 15, 53, true⟩)]) (by kernel_rfl)) (r_loadA rfl rfl rfl rfl (gt2 (by omega) hk2) rfl rfl rfl) ?_
 refine PQ.pure (dst := (some 137)) (v := (.bool false)) rfl rfl rfl noStore (none_ok _ _) (r_neqA (r := true) rfl rfl rfl (by kernel_rfl) (aeq_self _ _ _ (by kernel_rfl))) ?_
 refine PQ.done (d := []) (by kernel_rfl) ?_
 intro _
 refine RA.condF rfl ?_
 refine RA.skip env_ok ?_
 intro _
 refine RA.region env_ok ?_
 refine OA.p (some 125) (.int .i64 0) rfl rfl rfl rfl ?_
 refine OA.p (some 126) (.int .i64 1) rfl rfl rfl (r_bin rfl rfl rfl (b_add (i64_eq (by omega)))) ?_
 refine OA.p (some 5) (.int .i64 1) rfl rfl rfl rfl ?_
 refine OA.nil ?_
 intro _
 refine RA.unroll hd ?_
 refine RA.seq hd ?_
 refine RA.seq hd ?_
 refine RA.region env_ok ?_
 refine OA.p (some 120) (.int .i64 1) rfl rfl rfl rfl ?_
 refine OA.p (some 121) (Pt n 0 11) rfl rfl rfl rfl ?_
 refine OA.p (some 122) (.slice (some ⟨k1, 0, none⟩) 1 0) rfl rfl rfl (r_load1 rfl rfl rfl rfl rfl (get_there (by omega) get_here) rfl rfl) ?_
 refine OA.p (some 123) (.int .i64 1) rfl rfl rfl rfl ?_
 refine OA.p (some 124) (.bool false) rfl rfl rfl (r_bin rfl rfl rfl (b_lss rfl)) ?_
 refine OA.nil ?_
 intro _
 refine RA.rebase [(0, (.agg ⟨(xAc511 x k1)⟩)), (1, (.agg ⟨(xAc512 x k2)⟩)), (2, (Pt n 0 0)), (3, (.pointer (some ⟨(n + 1), 0, some 0⟩))), (4, (.bool false)), (5, (.int .i64 1)), (119, (.bool false)), (124, (.bool false)), (137, (.bool false))] ⟨rfl, rfl, rfl, rfl, rfl, rfl, rfl, rfl, rfl, trivial⟩ (fun τr2 => ?_)
 refine RA.condF rfl ?_
 refine RA.exit env_ok ?_
 intro _
 refine RA.seq hd ?_
 refine RA.seq hd ?_
 refine RA.region env_ok ?_
 refine OA.p (some 6) (.int .i64 0) rfl rfl rfl rfl ?_
 refine OA.nil ?_
 intro _
 refine RA.block ?_
 refine RA.unroll hd ?_
 refine RA.seq hd ?_
 refine RA.seq hd ?_
 refine RA.region env_ok ?_
 refine OA.p (some 138) (.int .i64 0) rfl rfl rfl rfl ?_
 refine OA.p (some 139) (Pt n 0 12) rfl rfl rfl rfl ?_
 refine OA.p (some 140) (.slice none 0 0) rfl rfl rfl (r_load1 rfl rfl rfl rfl rfl (get_there (by omega) get_here) rfl rfl) ?_
 refine OA.p (some 141) (.int .i64 0) rfl rfl rfl rfl ?_
 refine OA.p (some 142) (.bool false) rfl rfl rfl (r_bin rfl rfl rfl (b_lss rfl)) ?_
 refine OA.nil ?_
 intro _
 refine RA.condF rfl ?_
 refine RA.exit env_ok ?_
 intro _
 refine RA.seq hd ?_
 refine RA.seq hd ?_
 refine RA.region env_ok ?_
 refine OA.p (some 7) (.int .i64 0) rfl rfl rfl rfl ?_
 refine OA.nil ?_
 intro _
 refine RA.block ?_
 refine RA.unroll hd ?_
 refine RA.seq hd ?_
 refine RA.seq hd ?_
 refine RA.region env_ok ?_
 refine OA.p (some 156) (.int .i64 0) rfl rfl rfl rfl ?_
 refine OA.p (some 157) (Pt n 0 13) rfl rfl rfl rfl ?_
 refine OA.p (some 158) (.slice none 0 0) rfl rfl rfl (r_load1 rfl rfl rfl rfl rfl (get_there (by omega) get_here) rfl rfl) ?_
 refine OA.p (some 159) (.int .i64 0) rfl rfl rfl rfl ?_
 refine OA.p (some 160) (.bool false) rfl rfl rfl (r_bin rfl rfl rfl (b_lss rfl)) ?_
 refine OA.nil ?_
 intro _
 refine RA.condF rfl ?_
 refine RA.exit env_ok ?_
 intro _
 refine RA.seq hd ?_
 refine RA.seq hd ?_
 refine RA.region env_ok ?_
 refine OA.p (some 8) (.int .i64 0) rfl rfl rfl rfl ?_
 refine OA.nil ?_
 intro _
 refine RA.block ?_
 refine RA.unroll hd ?_
 refine RA.seq hd ?_
 refine RA.seq hd ?_
 refine RA.region env_ok ?_
 refine OA.p (some 174) (.int .i64 0) rfl rfl rfl rfl ?_
 refine OA.p (some 175) (Pt n 0 14) rfl rfl rfl rfl ?_
 refine OA.p (some 176) (.slice none 0 0) rfl rfl rfl (r_load1 rfl rfl rfl rfl rfl (get_there (by omega) get_here) rfl rfl) ?_
 refine OA.p (some 177) (.int .i64 0) rfl rfl rfl rfl ?_
 refine OA.p (some 178) (.bool false) rfl rfl rfl (r_bin rfl rfl rfl (b_lss rfl)) ?_
 refine OA.nil ?_
 intro _
 refine RA.condF rfl ?_
 refine RA.exit env_ok ?_
 intro _
 refine RA.seq hd ?_
 refine RA.region env_ok ?_
 refine OA.p (some 4) (.bool true) rfl rfl rfl rfl ?_
 refine OA.nil ?_
 intro _
 refine RA.ret env_ok ?_
 refine ⟨.inr rfl, [(.bool true)], (resL_cons rfl resL_nil), rfl, (kc2 (by omega))⟩

theorem aNew {n : Nat} {σ : Store} (hd : Dom n σ) (x : BitVec 32)   : CQ Try.prog noDen 36 [(W x)] n σ (fun v n' d => ∃ i, n ≤ i ∧ i < n' ∧ v = .pointer (some ⟨i, 0, some 0⟩) ∧ d = [(i, some ⟨[[(W x), (.int .i64 0), (.int .i64 0), (.int .u32 0), (.int .i64 0), (.int .i64 0), (.int .u32 0), (.string ByteArray.empty), (.int .u32 0), (.int .u32 0), (.int .i64 0), (.int .i64 0), (.slice none 0 0), (.slice none 0 0), (.slice none 0 0), (.slice none 0 0), (.bool false)]], 17, 103, true⟩)]) := by
 refine CQ.body (E := env) env_ok hd rfl rfl (by show _ ≤ _; exact of_decide_eq_true (by kernel_rfl)) ?_
 refine RA.seq hd ?_
 refine RA.region env_ok ?_
 refine OA.p (some 2) (.pointer none) rfl rfl rfl rfl ?_
 refine OA.nil ?_
 intro _
 refine RA.seq hd ?_
 refine RA.region env_ok ?_
 refine OA.p (some 3) (W x) rfl rfl rfl rfl ?_
 refine OA.p (some 4) (.agg ⟨(xAc57 x)⟩) rfl rfl rfl (by kernel_rfl) ?_
 refine OA.op1 (dst := (some 5)) (v := (Pt n 0 0)) (n1 := (n + 1)) (w := (n, some ⟨[(xAc57 x)], 17, 103, true⟩)) rfl rfl rfl rfl (by omega) ?_
 refine OA.p (some 2) (Pt n 0 0) rfl rfl rfl rfl ?_
 refine OA.nil ?_
 intro _
 refine RA.ret env_ok ?_
 refine ⟨.inr rfl, [(Pt n 0 0)], (resL_cons rfl resL_nil), [(n, some ⟨[(xAc57 x)], 17, 103, true⟩)], (Less.refl _ _ _), ⟨n, by omega, by omega, rfl, rfl⟩⟩

theorem awakeA {σ : Store} : PS Try.prog noDen 37 [] σ (.bool true) := PS.closed env_ok rfl (F := 300) (k := 60) (by kernel_rfl) rfl rfl
end Go.Proofs.Ytgajcmanompmcaa.Vt
