/- Rn1: walks through functions of the program, by the calculus; written by a program of this workplace. -/
import Derived.Test.YtmepflkodjdgdaaIns
import Derived.Test.YtmepflkodjdgdaaVm6
namespace Go.Proofs.Ytmepflkodjdgdaa.Vt
open Go Go.Proofs Go.Proofs.YtmepflkodjdgdaaV
set_option maxRecDepth 100000
set_option linter.unusedVariables false
set_option linter.unusedSimpArgs false
theorem awakeR {σ : Store} : PS Try.prog noDen 29 [] σ (.bool true) := PS.closed2 env_ok rfl (L := [⟨73, 54, 15⟩, ⟨99, 60, 2⟩]) ⟨insOkChunk, insOkGap, trivial⟩ (F := 200) (k := 60) (by kernel_rfl) rfl rfl
theorem rnAdd {σ : Store} (a0 : Int) (a1 : Int) (a2 : Int) (a3 : Int) (a4 : Int) (a5 : Int) (a6 : ByteArray) (a7 : Int) (a8 : Int) (a9 : Int) (a10 : Int) (p11 : Option Addr) (m11 q11 : Nat) (p12 : Option Addr) (m12 q12 : Nat) (p13 : Option Addr) (m13 q13 : Nat) (p14 : Option Addr) (m14 q14 : Nat)   : PS Try.prog noDen 30 [(.pointer none), (.agg ⟨[(.int .i64 a0), (.int .i64 a1), (.int .u32 a2), (.int .i64 a3), (.int .i64 a4), (.int .u32 a5), (.string a6), (.int .u32 a7), (.int .u32 a8), (.int .i64 a9), (.int .i64 a10), (.slice p11 m11 q11), (.slice p12 m12 q12), (.slice p13 m13 q13), (.slice p14 m14 q14)]⟩)] σ (.tuple ⟨[(.agg ⟨[(.int .i64 0), (.int .i64 0), (.bool false), (.int .u32 0), (.string ByteArray.empty)]⟩), (.bool false)]⟩) := by
 refine PS.body (E := env) env_ok rfl rfl (by show _ ≤ _; exact of_decide_eq_true (by kernel_rfl)) (fun n hd => ?_)
 refine RA.seq hd ?_
 refine RA.region env_ok ?_
 refine OA.op1 (dst := (some 3)) (v := (.pointer (some ⟨n, 0, some 0⟩))) (n1 := (n + 1)) (w := (n, some ⟨[[(.int .i64 a0), (.int .i64 a1), (.int .u32 a2), (.int .i64 a3), (.int .i64 a4), (.int .u32 a5), (.string a6), (.int .u32 a7), (.int .u32 a8), (.int .i64 a9), (.int .i64 a10), (.slice p11 m11 q11), (.slice p12 m12 q12), (.slice p13 m13 q13), (.slice p14 m14 q14)]], 15, 54, true⟩)) rfl rfl rfl rfl (by omega) ?_
 refine OA.op1 (dst := (some 4)) (v := (.pointer (some ⟨(n + 1), 0, some 0⟩))) (n1 := (n + 2)) (w := ((n + 1), some ⟨[[(.int .i64 0), (.int .i64 0), (.bool false), (.int .u32 0), (.string ByteArray.empty)]], 5, 29, true⟩)) rfl rfl rfl rfl (by omega) ?_
 refine OA.p (some 5) (.bool false) rfl rfl rfl rfl ?_
 refine OA.nil ?_
 intro _
 refine RA.seq hd ?_
 refine RA.seq hd ?_
 refine RA.region env_ok ?_
 refine OA.p (some 14) (.pointer none) rfl rfl rfl rfl ?_
 refine OA.p (some 15) (.bool true) rfl rfl rfl rfl ?_
 refine OA.nil ?_
 intro _
 refine RA.condT rfl ?_
 refine RA.seq hd ?_
 refine RA.region env_ok ?_
 refine OA.p (some 16) (.agg ⟨[(.int .i64 0), (.int .i64 0), (.bool false), (.int .u32 0), (.string ByteArray.empty)]⟩) rfl rfl rfl (by kernel_rfl) ?_
 refine OA.op1 (dst := none) (v := (.tuple #[])) (n1 := (n + 2)) (w := ((n + 1), some ⟨[[(.int .i64 0), (.int .i64 0), (.bool false), (.int .u32 0), (.string ByteArray.empty)]], 5, 29, true⟩)) rfl rfl rfl (r_store rfl rfl rfl rfl rfl rfl rfl get_here rfl rfl (Nat.le_of_ble_eq_true rfl) rfl) (by omega) ?_
 refine OA.p (some 5) (.bool false) rfl rfl rfl rfl ?_
 refine OA.nil ?_
 intro _
 refine RA.ret env_ok ?_
 refine ⟨.inr rfl, [(.agg ⟨[(.int .i64 0), (.int .i64 0), (.bool false), (.int .u32 0), (.string ByteArray.empty)]⟩), (.bool false)], (resL_cons (res_cellA rfl rfl rfl get_here rfl rfl rfl) (resL_cons rfl resL_nil)), rfl, (kc3 (by omega))⟩

theorem rnLen {σ : Store}    : PS Try.prog noDen 32 [(.pointer none)] σ (.int .i64 0) := by
 refine PS.body (E := env) env_ok rfl rfl (by show _ ≤ _; exact of_decide_eq_true (by kernel_rfl)) (fun n hd => ?_)
 refine RA.seq hd ?_
 refine RA.region env_ok ?_
 refine OA.p (some 2) (.int .i64 0) rfl rfl rfl rfl ?_
 refine OA.nil ?_
 intro _
 refine RA.seq hd ?_
 refine RA.seq hd ?_
 refine RA.region env_ok ?_
 refine OA.p (some 3) (.pointer none) rfl rfl rfl rfl ?_
 refine OA.p (some 4) (.bool true) rfl rfl rfl rfl ?_
 refine OA.nil ?_
 intro _
 refine RA.condT rfl ?_
 refine RA.seq hd ?_
 refine RA.region env_ok ?_
 refine OA.p (some 2) (.int .i64 0) rfl rfl rfl rfl ?_
 refine OA.nil ?_
 intro _
 refine RA.ret env_ok ?_
 refine ⟨.inr rfl, [(.int .i64 0)], (resL_cons rfl resL_nil), rfl, (fun i hi => by cases hi)⟩

theorem rnBytes {σ : Store}    : PS Try.prog noDen 33 [(.pointer none)] σ (.int .i64 0) := by
 refine PS.body (E := env) env_ok rfl rfl (by show _ ≤ _; exact of_decide_eq_true (by kernel_rfl)) (fun n hd => ?_)
 refine RA.seq hd ?_
 refine RA.region env_ok ?_
 refine OA.p (some 2) (.int .i64 0) rfl rfl rfl rfl ?_
 refine OA.nil ?_
 intro _
 refine RA.seq hd ?_
 refine RA.seq hd ?_
 refine RA.region env_ok ?_
 refine OA.p (some 6) (.pointer none) rfl rfl rfl rfl ?_
 refine OA.p (some 7) (.bool true) rfl rfl rfl rfl ?_
 refine OA.nil ?_
 intro _
 refine RA.condT rfl ?_
 refine RA.seq hd ?_
 refine RA.region env_ok ?_
 refine OA.p (some 2) (.int .i64 0) rfl rfl rfl rfl ?_
 refine OA.nil ?_
 intro _
 refine RA.ret env_ok ?_
 refine ⟨.inr rfl, [(.int .i64 0)], (resL_cons rfl resL_nil), rfl, (fun i hi => by cases hi)⟩

theorem rNone {n : Nat} {σ : Store} (hd : Dom n σ) (a0 : Int) (a1 : Int) (a2 : Int) (a3 : Int) (a4 : Int) (a5 : Int) (a6 : ByteArray) (a7 : Int) (a8 : Int) (a9 : Int) (a10 : Int) (p11 : Option Addr) (m11 q11 : Nat) (p12 : Option Addr) (m12 q12 : Nat) (p13 : Option Addr) (m13 q13 : Nat) (p14 : Option Addr) (m14 q14 : Nat)   : CQ Try.prog noDen 8 [(.agg ⟨[(.int .i64 a0), (.int .i64 a1), (.int .u32 a2), (.int .i64 a3), (.int .i64 a4), (.int .u32 a5), (.string a6), (.int .u32 a7), (.int .u32 a8), (.int .i64 a9), (.int .i64 a10), (.slice p11 m11 q11), (.slice p12 m12 q12), (.slice p13 m13 q13), (.slice p14 m14 q14)]⟩)] n σ (fun v n' d => v = .bool true) := by
 refine CQ.body (E := env) env_ok hd rfl rfl (by show _ ≤ _; exact of_decide_eq_true (by kernel_rfl)) ?_
 refine RA.seq hd ?_
 refine RA.region env_ok ?_
 refine OA.op1 (dst := (some 1)) (v := (.pointer (some ⟨n, 0, some 0⟩))) (n1 := (n + 1)) (w := (n, some ⟨[[(.int .i64 a0), (.int .i64 a1), (.int .u32 a2), (.int .i64 a3), (.int .i64 a4), (.int .u32 a5), (.string a6), (.int .u32 a7), (.int .u32 a8), (.int .i64 a9), (.int .i64 a10), (.slice p11 m11 q11), (.slice p12 m12 q12), (.slice p13 m13 q13), (.slice p14 m14 q14)]], 15, 54, true⟩)) rfl rfl rfl rfl (by omega) ?_
 refine OA.p (some 2) (.bool false) rfl rfl rfl rfl ?_
 refine OA.nil ?_
 intro _
 refine RA.seq hd ?_
 refine RA.region env_ok ?_
 refine OA.p (some 3) (.pointer none) rfl rfl rfl rfl ?_
 refine OA.nil ?_
 intro _
 refine RA.seq hd ?_
 refine RA.region env_ok ?_
 refine OA.p (some 7) (.pointer none) rfl rfl rfl rfl ?_
 refine OA.p (some 8) (.agg ⟨[(.int .i64 a0), (.int .i64 a1), (.int .u32 a2), (.int .i64 a3), (.int .i64 a4), (.int .u32 a5), (.string a6), (.int .u32 a7), (.int .u32 a8), (.int .i64 a9), (.int .i64 a10), (.slice p11 m11 q11), (.slice p12 m12 q12), (.slice p13 m13 q13), (.slice p14 m14 q14)]⟩) rfl rfl rfl (r_loadA rfl rfl rfl rfl get_here rfl rfl rfl) ?_
 refine OA.callP (dst := (some 9)) (all := [(.pointer none), (.agg ⟨[(.int .i64 a0), (.int .i64 a1), (.int .u32 a2), (.int .i64 a3), (.int .i64 a4), (.int .u32 a5), (.string a6), (.int .u32 a7), (.int .u32 a8), (.int .i64 a9), (.int .i64 a10), (.slice p11 m11 q11), (.slice p12 m12 q12), (.slice p13 m13 q13), (.slice p14 m14 q14)]⟩)]) (v := (.tuple ⟨[(.agg ⟨[(.int .i64 0), (.int .i64 0), (.bool false), (.int .u32 0), (.string ByteArray.empty)]⟩), (.bool false)]⟩)) (hd.of (by omega) (kb1 (by omega))) rfl rfl rfl rfl rfl rfl rfl rfl (rnAdd a0 a1 a2 a3 a4 a5 a6 a7 a8 a9 a10 p11 m11 q11 p12 m12 q12 p13 m13 q13 p14 m14 q14) ?_
 intro n1 hn1
 refine OA.p (some 6) (.tuple ⟨[(.agg ⟨[(.int .i64 0), (.int .i64 0), (.bool false), (.int .u32 0), (.string ByteArray.empty)]⟩), (.bool false)]⟩) rfl rfl rfl rfl ?_
 refine OA.p (some 10) (.agg ⟨[(.int .i64 0), (.int .i64 0), (.bool false), (.int .u32 0), (.string ByteArray.empty)]⟩) rfl rfl rfl rfl ?_
 refine OA.p (some 11) (.bool false) rfl rfl rfl rfl ?_
 refine OA.op1 (dst := (some 4)) (v := (.pointer (some ⟨n1, 0, some 0⟩))) (n1 := (n1 + 1)) (w := (n1, some ⟨[[(.int .i64 0), (.int .i64 0), (.bool false), (.int .u32 0), (.string ByteArray.empty)]], 5, 29, true⟩)) rfl rfl rfl rfl (by omega) ?_
 refine OA.op1 (dst := none) (v := (.tuple #[])) (n1 := (n1 + 1)) (w := (n1, some ⟨[[(.int .i64 0), (.int .i64 0), (.bool false), (.int .u32 0), (.string ByteArray.empty)]], 5, 29, true⟩)) rfl rfl rfl (r_store rfl rfl rfl rfl rfl rfl rfl get_here rfl rfl (Nat.le_of_ble_eq_true rfl) rfl) (by omega) ?_
 refine OA.p (some 5) (.bool false) rfl rfl rfl rfl ?_
 refine OA.nil ?_
 intro _
 refine RA.seq hd ?_
 refine RA.region env_ok ?_
 refine OA.callP (dst := (some 12)) (all := []) (v := (.bool true)) (hd.of (by omega) (kb3 (by omega))) rfl rfl rfl rfl rfl rfl rfl rfl awakeR ?_
 intro n2 hn2
 refine OA.p (some 13) (.bool true) rfl rfl rfl rfl ?_
 refine OA.p (some 14) (.bool false) rfl rfl rfl rfl ?_
 refine OA.p (some 15) (.bool true) rfl rfl rfl rfl ?_
 refine OA.p (some 16) (.bool true) rfl rfl rfl rfl ?_
 refine OA.p (some 17) (.bool true) rfl rfl rfl rfl ?_
 refine OA.p (some 18) (.agg ⟨[(.int .i64 0), (.int .i64 0), (.bool false), (.int .u32 0), (.string ByteArray.empty)]⟩) rfl rfl rfl (r_loadA rfl rfl rfl rfl get_here rfl rfl rfl) ?_
 refine OA.p (some 19) (.agg ⟨[(.int .i64 0), (.int .i64 0), (.bool false), (.int .u32 0), (.string ByteArray.empty)]⟩) rfl rfl rfl (by kernel_rfl) ?_
 refine OA.p (some 20) (.bool true) rfl rfl rfl (r_eqlA (r := true) rfl rfl rfl (by kernel_rfl) (aeq_self _ _ _ (by kernel_rfl))) ?_
 refine OA.p (some 21) (.bool true) rfl rfl rfl rfl ?_
 refine OA.p (some 22) (.bool true) rfl rfl rfl rfl ?_
 refine OA.p (some 23) (.pointer none) rfl rfl rfl rfl ?_
 refine OA.callP (dst := (some 24)) (all := [(.pointer none)]) (v := (.int .i64 0)) (hd.of (by omega) (kb3 (by omega))) rfl rfl rfl rfl rfl rfl rfl rfl rnLen ?_
 intro n3 hn3
 refine OA.p (some 25) (.bool true) rfl rfl rfl (r_bin rfl rfl rfl (b_eql rfl)) ?_
 refine OA.p (some 26) (.bool true) rfl rfl rfl rfl ?_
 refine OA.p (some 27) (.bool true) rfl rfl rfl rfl ?_
 refine OA.p (some 28) (.pointer none) rfl rfl rfl rfl ?_
 refine OA.callP (dst := (some 29)) (all := [(.pointer none)]) (v := (.int .i64 0)) (hd.of (by omega) (kb3 (by omega))) rfl rfl rfl rfl rfl rfl rfl rfl rnBytes ?_
 intro n4 hn4
 refine OA.p (some 30) (.bool true) rfl rfl rfl (r_bin rfl rfl rfl (b_eql rfl)) ?_
 refine OA.p (some 31) (.bool true) rfl rfl rfl rfl ?_
 refine OA.p (some 2) (.bool true) rfl rfl rfl rfl ?_
 refine OA.nil ?_
 intro _
 refine RA.rebase [(0, (.agg ⟨[(.int .i64 a0), (.int .i64 a1), (.int .u32 a2), (.int .i64 a3), (.int .i64 a4), (.int .u32 a5), (.string a6), (.int .u32 a7), (.int .u32 a8), (.int .i64 a9), (.int .i64 a10), (.slice p11 m11 q11), (.slice p12 m12 q12), (.slice p13 m13 q13), (.slice p14 m14 q14)]⟩)), (1, (.pointer (some ⟨n, 0, some 0⟩))), (2, (.bool true)), (3, (.pointer none)), (4, (.pointer (some ⟨n1, 0, some 0⟩))), (5, (.bool false))] ⟨rfl, rfl, rfl, rfl, rfl, rfl, trivial⟩ (fun τr5 => ?_)
 refine RA.ret env_ok ?_
 refine ⟨.inr rfl, [(.bool true)], (resL_cons rfl resL_nil), [], (Less.of (fun p hp => by simp at hp) (gone_of (by simp only [goneP, memP, List.cons_append, List.nil_append, true_or, or_true, true_and, and_true, or_false] <;> omega))), rfl⟩
end Go.Proofs.Ytmepflkodjdgdaa.Vt
