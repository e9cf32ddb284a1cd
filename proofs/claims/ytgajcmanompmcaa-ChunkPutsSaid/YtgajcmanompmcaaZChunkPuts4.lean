/- Part 4 of the texts that prove ChunkPuts: the abstract machine, its calculus, and walks through functions; joined by a program of this workplace. -/
import Derived.Test.YtgajcmanompmcaaZChunkPuts3
/- Cp4: walks through functions of the program, by the calculus; written by a program of this workplace. -/
namespace Go.Proofs.Ytgajcmanompmcaa.Vt
open Go Go.Proofs Go.Proofs.YtgajcmanompmcaaV
set_option maxRecDepth 100000
set_option linter.unusedVariables false
set_option linter.unusedSimpArgs false
set_option maxHeartbeats 8000000
theorem pl_0 {d : Chk} (h : kd d.typ = 0) : plainD d = Chk.mk d.typ d.flags d.tsn d.stream d.ssn d.proto d.data 0#32 0#32 0 0 (.slice none 0 0) (.slice none 0 0) (.slice none 0 0) (.slice none 0 0) [] [] [] [] := by unfold plainD; rw [h]; rfl
theorem pl_1 {d : Chk} (h : kd d.typ = 1) : plainD d = Chk.mk d.typ d.flags d.tsn 0 0 0#32 ByteArray.empty d.tag d.rwnd d.outs d.ins d.pv (.slice none 0 0) (.slice none 0 0) (.slice none 0 0) d.ps [] [] [] := by unfold plainD; rw [h]; rfl
theorem pl_3 {d : Chk} (h : kd d.typ = 3) : plainD d = Chk.mk d.typ d.flags d.tsn 0 0 0#32 ByteArray.empty 0#32 d.rwnd 0 0 (.slice none 0 0) (.slice none 0 0) d.gv d.dv [] [] d.gs d.ds := by unfold plainD; rw [h]; rfl
theorem pl_4 {d : Chk} (h : kd d.typ = 4) : plainD d = Chk.mk d.typ d.flags 0#32 0 0 0#32 d.data 0#32 0#32 0 0 (.slice none 0 0) (.slice none 0 0) (.slice none 0 0) (.slice none 0 0) [] [] [] [] := by unfold plainD; rw [h]; rfl
theorem pl_6 {d : Chk} (h : kd d.typ = 6) : plainD d = Chk.mk d.typ d.flags 0#32 0 0 0#32 ByteArray.empty 0#32 0#32 0 0 (.slice none 0 0) d.cv (.slice none 0 0) (.slice none 0 0) [] d.cs [] [] := by unfold plainD; rw [h]; rfl
theorem pl_7 {d : Chk} (h : kd d.typ = 7) : plainD d = Chk.mk d.typ d.flags d.tsn 0 0 0#32 ByteArray.empty 0#32 0#32 0 0 (.slice none 0 0) (.slice none 0 0) (.slice none 0 0) (.slice none 0 0) [] [] [] [] := by unfold plainD; rw [h]; rfl
theorem pl_8 {d : Chk} (h : kd d.typ = 8) : plainD d = Chk.mk d.typ d.flags 0#32 0 0 0#32 ByteArray.empty 0#32 0#32 0 0 (.slice none 0 0) (.slice none 0 0) (.slice none 0 0) (.slice none 0 0) [] [] [] [] := by unfold plainD; rw [h]; rfl
theorem pl_10 {d : Chk} (h : kd d.typ = 10) : plainD d = Chk.mk d.typ d.flags 0#32 0 0 0#32 d.data 0#32 0#32 0 0 (.slice none 0 0) (.slice none 0 0) (.slice none 0 0) (.slice none 0 0) [] [] [] [] := by unfold plainD; rw [h]; rfl
theorem pl_15 {d : Chk} (h : kd d.typ = 15) : plainD d = Chk.mk d.typ d.flags 0#32 d.stream d.ssn 0#32 d.data 0#32 0#32 0 0 (.slice none 0 0) (.slice none 0 0) (.slice none 0 0) (.slice none 0 0) [] [] [] [] := by unfold plainD; rw [h]; rfl
theorem pl_16 {d : Chk} (h : kd d.typ = 16) : plainD d = Chk.mk d.typ d.flags d.tsn 0 0 0#32 ByteArray.empty 0#32 0#32 0 0 d.pv (.slice none 0 0) (.slice none 0 0) (.slice none 0 0) d.ps [] [] [] := by unfold plainD; rw [h]; rfl
theorem pl_20 {d : Chk} (h : kd d.typ = 20) : plainD d = Chk.mk d.typ d.flags 0#32 0 0 0#32 d.data 0#32 0#32 0 0 (.slice none 0 0) (.slice none 0 0) (.slice none 0 0) (.slice none 0 0) [] [] [] [] := by unfold plainD; rw [h]; rfl
abbrev xCp41 (d : Chk) : List Value := [(.int .i64 d.typ), (.int .i64 d.flags), (.int .u32 0), (.int .i64 d.stream), (.int .i64 d.ssn), (.int .u32 0), (.string ByteArray.empty), (.int .u32 0), (.int .u32 0), (.int .i64 0), (.int .i64 0), (.slice none 0 0), (.slice none 0 0), (.slice none 0 0), (.slice none 0 0)]
abbrev xCp42 (d : Chk) : List Value := [(.int .i64 d.typ), (.int .i64 d.flags), (W d.tsn), (.int .i64 d.stream), (.int .i64 d.ssn), (.int .u32 0), (.string ByteArray.empty), (.int .u32 0), (.int .u32 0), (.int .i64 0), (.int .i64 0), (.slice none 0 0), (.slice none 0 0), (.slice none 0 0), (.slice none 0 0)]
abbrev xCp43 (d : Chk) : List Value := [(.int .i64 d.typ), (.int .i64 d.flags), (.int .u32 0), (.int .i64 d.stream), (.int .i64 0), (.int .u32 0), (.string ByteArray.empty), (.int .u32 0), (.int .u32 0), (.int .i64 0), (.int .i64 0), (.slice none 0 0), (.slice none 0 0), (.slice none 0 0), (.slice none 0 0)]
abbrev xCp44 (d : Chk) : List Value := [(.int .i64 d.typ), (.int .i64 d.flags), (W d.tsn), (.int .i64 d.stream), (.int .i64 d.ssn), (W d.proto), (.string ByteArray.empty), (.int .u32 0), (.int .u32 0), (.int .i64 0), (.int .i64 0), (.slice none 0 0), (.slice none 0 0), (.slice none 0 0), (.slice none 0 0)]
abbrev xCp45 (d : Chk) : List Value := [(.int .i64 d.typ), (.int .i64 d.flags), (W d.tsn), (.int .i64 d.stream), (.int .i64 0), (.int .u32 0), (.string ByteArray.empty), (.int .u32 0), (.int .u32 0), (.int .i64 0), (.int .i64 0), (.slice none 0 0), (.slice none 0 0), (.slice none 0 0), (.slice none 0 0)]
abbrev xCp46 (d : Chk) : List Value := [(.int .i64 d.typ), (.int .i64 d.flags), (.int .u32 0), (.int .i64 0), (.int .i64 0), (.int .u32 0), (.string ByteArray.empty), (W d.tag), (W d.rwnd), (.int .i64 d.outs), (.int .i64 d.ins), (.slice none 0 0), (.slice none 0 0), (.slice none 0 0), (.slice none 0 0)]
abbrev xCp47 (d : Chk) : List Value := [(.int .i64 d.typ), (.int .i64 d.flags), (.int .u32 0), (.int .i64 d.stream), (.int .i64 d.ssn), (.int .u32 0), (.string d.data), (.int .u32 0), (.int .u32 0), (.int .i64 0), (.int .i64 0), (.slice none 0 0), (.slice none 0 0), (.slice none 0 0), (.slice none 0 0)]
abbrev xCp48 (d : Chk) : List Value := [(.int .i64 d.typ), (.int .i64 d.flags), (.int .u32 0), (.int .i64 0), (.int .i64 0), (.int .u32 0), (.string ByteArray.empty), (.int .u32 0), (.int .u32 0), (.int .i64 0), (.int .i64 0), (.slice none 0 0), (.slice none 0 0), (.slice none 0 0), (.slice none 0 0)]
abbrev xCp49 (d : Chk) : List Value := [(.int .i64 d.typ), (.int .i64 d.flags), (.int .u32 0), (.int .i64 0), (.int .i64 0), (.int .u32 0), (.string ByteArray.empty), (W d.tag), (W d.rwnd), (.int .i64 d.outs), (.int .i64 0), (.slice none 0 0), (.slice none 0 0), (.slice none 0 0), (.slice none 0 0)]
abbrev xCp410 (d : Chk) : List Value := [(.int .i64 d.typ), (.int .i64 d.flags), (W d.tsn), (.int .i64 0), (.int .i64 0), (.int .u32 0), (.string ByteArray.empty), (W d.tag), (W d.rwnd), (.int .i64 d.outs), (.int .i64 d.ins), (.slice none 0 0), (.slice none 0 0), (.slice none 0 0), (.slice none 0 0)]
abbrev xCp411 (d : Chk) : List Value := [(.int .i64 d.typ), (.int .i64 d.flags), (W d.tsn), (.int .i64 0), (.int .i64 0), (.int .u32 0), (.string ByteArray.empty), (.int .u32 0), (.int .u32 0), (.int .i64 0), (.int .i64 0), (.slice none 0 0), (.slice none 0 0), (.slice none 0 0), (.slice none 0 0)]
abbrev xCp412 (d : Chk) : List Value := [(.int .i64 d.typ), (.int .i64 d.flags), (W d.tsn), (.int .i64 d.stream), (.int .i64 d.ssn), (W d.proto), (.string d.data), (.int .u32 0), (.int .u32 0), (.int .i64 0), (.int .i64 0), (.slice none 0 0), (.slice none 0 0), (.slice none 0 0), (.slice none 0 0)]
abbrev xCp413 (d : Chk) : List Value := [(.int .i64 d.typ), (.int .i64 d.flags), (.int .u32 0), (.int .i64 0), (.int .i64 0), (.int .u32 0), (.string ByteArray.empty), (W d.tag), (.int .u32 0), (.int .i64 0), (.int .i64 0), (.slice none 0 0), (.slice none 0 0), (.slice none 0 0), (.slice none 0 0)]
abbrev xCp414 (d : Chk) : List Value := [(.int .i64 d.typ), (.int .i64 d.flags), (.int .u32 0), (.int .i64 0), (.int .i64 0), (.int .u32 0), (.string ByteArray.empty), (W d.tag), (W d.rwnd), (.int .i64 0), (.int .i64 0), (.slice none 0 0), (.slice none 0 0), (.slice none 0 0), (.slice none 0 0)]
abbrev xCp415 (d : Chk) : List Value := [(.int .i64 d.typ), (.int .i64 d.flags), (W d.tsn), (.int .i64 0), (.int .i64 0), (.int .u32 0), (.string ByteArray.empty), (.int .u32 0), (W d.rwnd), (.int .i64 0), (.int .i64 0), (.slice none 0 0), (.slice none 0 0), (.slice none 0 0), (.slice none 0 0)]
abbrev xCp416 (d : Chk) : List Value := [(.int .i64 d.typ), (.int .i64 d.flags), (.int .u32 0), (.int .i64 0), (.int .i64 0), (.int .u32 0), (.string d.data), (.int .u32 0), (.int .u32 0), (.int .i64 0), (.int .i64 0), (.slice none 0 0), (.slice none 0 0), (.slice none 0 0), (.slice none 0 0)]
abbrev xCp417 : List Value := [(.int .i64 0), (.int .i64 0), (.int .u32 0), (.int .i64 0), (.int .i64 0), (.int .u32 0), (.string ByteArray.empty), (.int .u32 0), (.int .u32 0), (.int .i64 0), (.int .i64 0), (.slice none 0 0), (.slice none 0 0), (.slice none 0 0), (.slice none 0 0)]
abbrev xCp418 (d : Chk) : List Value := [(.int .i64 d.typ), (.int .i64 d.flags), (.int .u32 0), (.int .i64 0), (.int .i64 0), (.int .u32 0), (.string ByteArray.empty), (.int .u32 0), (.int .u32 0), (.int .i64 0), (.int .i64 0), (.slice none 0 0), d.cv, (.slice none 0 0), (.slice none 0 0)]
abbrev xCp419 (d : Chk) : List Value := [(.int .i64 d.typ), (.int .i64 d.flags), (W d.tsn), (.int .i64 0), (.int .i64 0), (.int .u32 0), (.string ByteArray.empty), (W d.tag), (W d.rwnd), (.int .i64 d.outs), (.int .i64 d.ins), d.pv, (.slice none 0 0), (.slice none 0 0), (.slice none 0 0)]
abbrev xCp420 (d : Chk) : List Value := [(.int .i64 d.typ), (.int .i64 d.flags), (W d.tsn), (.int .i64 0), (.int .i64 0), (.int .u32 0), (.string ByteArray.empty), (.int .u32 0), (.int .u32 0), (.int .i64 0), (.int .i64 0), d.pv, (.slice none 0 0), (.slice none 0 0), (.slice none 0 0)]
abbrev xCp421 (d : Chk) : List Value := [(.int .i64 d.typ), (.int .i64 d.flags), (W d.tsn), (.int .i64 0), (.int .i64 0), (.int .u32 0), (.string ByteArray.empty), (.int .u32 0), (W d.rwnd), (.int .i64 0), (.int .i64 0), (.slice none 0 0), (.slice none 0 0), d.gv, (.slice none 0 0)]
abbrev xCp422 (d : Chk) : List Value := [(.int .i64 d.typ), (.int .i64 d.flags), (W d.tsn), (.int .i64 0), (.int .i64 0), (.int .u32 0), (.string ByteArray.empty), (.int .u32 0), (W d.rwnd), (.int .i64 0), (.int .i64 0), (.slice none 0 0), (.slice none 0 0), d.gv, d.dv]
set_option maxHeartbeats 8000000 in
theorem sPlain {σ : Store} (d : Chk)  (h : gd σ d) : PS Try.prog noDen 85 [(.agg ⟨(cChk d)⟩)] σ (.agg ⟨(cChk (plainD d))⟩) := by
 refine PS.body (E := env) env_ok rfl rfl (by show _ ≤ _; exact of_decide_eq_true (by kernel_rfl)) (fun n hd => ?_)
 refine RA.sR hd env_ok <| o1 (some 1) (Pt n 0 0) (n + 1) (n, some ⟨[(cChk d)], 15, 53, true⟩) (r_box (cs := (cChk d)) rfl rfl rfl (Nat.le_of_ble_eq_true rfl) (by simp only [List.all_cons, List.all_nil, Bool.and_true, Bool.and_eq_true, cChk]; exact ⟨rfl, rfl, rfl, rfl, rfl, rfl, rfl, rfl, rfl, rfl, rfl, (h.hp).one, (h.hc).one, (h.hg).one, (h.hu).one⟩)) <| o1 (some 2) (.pointer (some ⟨(n + 1), 0, some 0⟩)) (n + 2) ((n + 1), some ⟨[xCp417], 15, 53, true⟩) rfl <| OA.nil fun _ => RA.sR hd env_ok <| OA.ps [(4, (Pt n 0 0))] rfl <| oL 5 (.int .i64 d.typ) (get_there (by omega) get_here) <| OA.ps [(6, (Pt n 0 1))] rfl <| oL 7 (.int .i64 d.flags) (get_there (by omega) get_here) <| oP 8 (.agg ⟨(xCp48 d)⟩) rfl (by kernel_rfl) <| o1 (some 3) (.pointer (some ⟨(n + 2), 0, some 0⟩)) (n + 3) ((n + 2), some ⟨[xCp417], 15, 53, true⟩) rfl ?_
 refine o1 none yU (n + 3) ((n + 2), some ⟨[(xCp48 d)], 15, 53, true⟩) (rS get_here) <| OA.nil fun _ => RA.weaken hd (LsO (fA get_here get_here (fA (get_there (by omega) get_here) (gt2 (by omega) get_here) (fA (gt2 (by omega) get_here) (gt3 (by omega) get_here) fan)))) <| RA.seq hd <| RA.sR hd env_ok <| OA.ps [(9, (Pt n 0 0))] rfl <| oL 10 (.int .i64 d.typ) (gt2 (by omega) get_here) <| OA.nil fun _ => RA.block <| RA.sR hd env_ok ?_
 by_cases hc1 : d.typ = 0
 ·
  refine oP 15 yT rfl (Eq.trans (r_bin rfl rfl rfl (b_eql rfl)) (dT hc1)) <| OA.ps [(14, yT)] rfl <| OA.nil fun _ => RA.condT rfl <| RA.par (md := [some [], some [n], some [], some [n], some [], some [n], some [], some [n], some [], some [n], some [], none, some [], none, some [], none, some [], none, some [], none]) env_ok (hd.of (by omega) (kb3 (by omega))) (by kernel_rfl) <| PQ.ps [(16, (Pt n 0 2))] rfl <| pQl 17 (W d.tsn) (gt2 (by omega) get_here) <| PQ.ps [(18, (Pt n 0 3))] rfl <| pQl 19 (.int .i64 d.stream) (gt2 (by omega) get_here) <| PQ.ps [(20, (Pt n 0 4))] rfl <| pQl 21 (.int .i64 d.ssn) (gt2 (by omega) get_here) ?_
  refine PQ.ps [(22, (Pt n 0 5))] rfl <| pQl 23 (W d.proto) (gt2 (by omega) get_here) <| PQ.ps [(24, (Pt n 0 6))] rfl <| pQl 25 (.string d.data) (gt2 (by omega) get_here) <| PQ.ps [(26, (.pointer (some ⟨(n + 2), 0, some 2⟩)))] rfl <| PQ.op (dst := none) (v := (.tuple #[])) (n1 := (n + 3)) (d1 := [((n + 2), some ⟨[(xCp411 d)], 15, 53, true⟩)]) rfl rfl rfl _ (sA (V := []) (by kernel_rfl) (by kernel_rfl)) (rS get_here) (by omega) (kp1 (wr_old [2, 3, 4, 5, 6, 7, 8, 9] (by kernel_rfl) (by omega) (by omega) (fac (lo0 rfl) (fac (lo1 rfl (by omega)) (fac (lo0 rfl) (fac (lo1 rfl (by omega)) (fac (lo0 rfl) (fac (lo1 rfl (by omega)) (fac (lo0 rfl) (fac (lo1 rfl (by omega)) fan)))))))))) <| PQ.ps [(27, (.pointer (some ⟨(n + 2), 0, some 3⟩)))] rfl <| PQ.op (dst := none) (v := (.tuple #[])) (n1 := (n + 3)) (d1 := [((n + 2), some ⟨[(xCp45 d)], 15, 53, true⟩)]) rfl rfl rfl _ (sA (V := [((n + 2), some ⟨[(xCp411 d)], 15, 53, true⟩)]) (by kernel_rfl) (by kernel_rfl)) (rS get_here) (by omega) (kp1 (wr_late [4, 5, 6, 7, 8, 9] (by kernel_rfl) (by kernel_rfl) (by omega) 11 (by kernel_rfl) (by simp [keys]) (fac (lo0 rfl) (fac (lo1 rfl (by omega)) (fac (lo0 rfl) (fac (lo1 rfl (by omega)) (fac (lo0 rfl) (fac (lo1 rfl (by omega)) fan)))))))) <| PQ.ps [(28, (.pointer (some ⟨(n + 2), 0, some 4⟩)))] rfl <| PQ.op (dst := none) (v := (.tuple #[])) (n1 := (n + 3)) (d1 := [((n + 2), some ⟨[(xCp42 d)], 15, 53, true⟩)]) rfl rfl rfl _ (sA (V := [((n + 2), some ⟨[(xCp45 d)], 15, 53, true⟩), ((n + 2), some ⟨[(xCp411 d)], 15, 53, true⟩)]) (by kernel_rfl) (by kernel_rfl)) (rS get_here) (by omega) (kp1 (wr_late [6, 7, 8, 9] (by kernel_rfl) (by kernel_rfl) (by omega) 11 (by kernel_rfl) (by simp [keys]) (fac (lo0 rfl) (fac (lo1 rfl (by omega)) (fac (lo0 rfl) (fac (lo1 rfl (by omega)) fan)))))) <| PQ.ps [(29, (.pointer (some ⟨(n + 2), 0, some 5⟩)))] rfl ?_
  refine PQ.op (dst := none) (v := (.tuple #[])) (n1 := (n + 3)) (d1 := [((n + 2), some ⟨[(xCp44 d)], 15, 53, true⟩)]) rfl rfl rfl _ (sA (V := [((n + 2), some ⟨[(xCp42 d)], 15, 53, true⟩), ((n + 2), some ⟨[(xCp45 d)], 15, 53, true⟩), ((n + 2), some ⟨[(xCp411 d)], 15, 53, true⟩)]) (by kernel_rfl) (by kernel_rfl)) (rS get_here) (by omega) (kp1 (wr_late [8, 9] (by kernel_rfl) (by kernel_rfl) (by omega) 11 (by kernel_rfl) (by simp [keys]) (fac (lo0 rfl) (fac (lo1 rfl (by omega)) fan)))) <| PQ.ps [(30, (.pointer (some ⟨(n + 2), 0, some 6⟩)))] rfl <| PQ.op (dst := none) (v := (.tuple #[])) (n1 := (n + 3)) (d1 := [((n + 2), some ⟨[(xCp412 d)], 15, 53, true⟩)]) rfl rfl rfl _ (sA (V := [((n + 2), some ⟨[(xCp44 d)], 15, 53, true⟩), ((n + 2), some ⟨[(xCp42 d)], 15, 53, true⟩), ((n + 2), some ⟨[(xCp45 d)], 15, 53, true⟩), ((n + 2), some ⟨[(xCp411 d)], 15, 53, true⟩)]) (by kernel_rfl) (by kernel_rfl)) (rS get_here) (by omega) (kp1 (wr_tight (by kernel_rfl) (by omega))) <| PQ.done (d := [((n + 2), some ⟨[(xCp412 d)], 15, 53, true⟩), ((n + 2), some ⟨[(xCp44 d)], 15, 53, true⟩), ((n + 2), some ⟨[(xCp42 d)], 15, 53, true⟩), ((n + 2), some ⟨[(xCp45 d)], 15, 53, true⟩), ((n + 2), some ⟨[(xCp411 d)], 15, 53, true⟩)]) (by kernel_rfl) fun _ => RA.weaken hd (LsO (fA get_here get_here (fA (get_there (by omega) get_here) (gt6 (by omega) get_here) (fA (gt2 (by omega) get_here) (gt7 (by omega) get_here) fan)))) <| RA.rb [(0, (.agg ⟨(cChk d)⟩)), (1, (Pt n 0 0)), (2, (.pointer (some ⟨(n + 1), 0, some 0⟩))), (3, (.pointer (some ⟨(n + 2), 0, some 0⟩))), (10, (.int .i64 d.typ)), (14, yT)] rfl (fun τr1 => ?_)
  refine RA.sR hd env_ok <| oP 102 (.agg ⟨(xCp412 d)⟩) rfl (r_loadA rfl rfl rfl rfl get_here rfl rfl rfl) <| o1 none yU (n + 3) ((n + 1), some ⟨[(xCp412 d)], 15, 53, true⟩) (rS (get_there (by omega) get_here)) <| OA.nil fun _ => RA.weaken hd (LsO (fA get_here get_here (fA (get_there (by omega) get_here) (get_there (by omega) get_here) (fA (gt2 (by omega) get_here) (gt3 (by omega) get_here) fan)))) ?_
  refine RA.ret env_ok ?_
  refine ⟨.inr rfl, [(.agg ⟨(xCp412 d)⟩)], (resL_cons (res_cellA rfl rfl rfl get_here rfl rfl rfl) resL_nil), (congrArg (fun z => Value.agg ⟨cChk z⟩) (pl_0 (by have := kd_cases d.typ; omega)).symm), (kc3 (by omega))⟩
 ·
  refine oP 15 yF rfl (Eq.trans (r_bin rfl rfl rfl (b_eql rfl)) (dF hc1)) <| OA.ps [(14, yF)] rfl <| OA.nil fun _ => RA.condF rfl <| RA.seq hd <| RA.sR hd env_ok ?_
  by_cases hc2 : d.typ = 1
  ·
   refine oP 32 yT rfl (Eq.trans (r_bin rfl rfl rfl (b_eql rfl)) (dT hc2)) <| OA.ps [(31, yT)] rfl <| OA.nil fun _ => RA.condT rfl <| RA.skip env_ok ?_
   intro _
   refine RA.condT rfl <| RA.par (md := [some [], some [n], some [], some [n], some [], some [n], some [], some [n], some [], some [n], some [], some [n], some [], none, some [], none, some [], none, some [], none, some [], none, some [], none]) env_ok (hd.of (by omega) (kb3 (by omega))) (by kernel_rfl) <| PQ.ps [(34, (Pt n 0 7))] rfl <| pQl 35 (W d.tag) (gt2 (by omega) get_here) <| PQ.ps [(36, (Pt n 0 8))] rfl <| pQl 37 (W d.rwnd) (gt2 (by omega) get_here) <| PQ.ps [(38, (Pt n 0 9))] rfl <| pQl 39 (.int .i64 d.outs) (gt2 (by omega) get_here) <| PQ.ps [(40, (Pt n 0 10))] rfl <| pQl 41 (.int .i64 d.ins) (gt2 (by omega) get_here) <| PQ.ps [(42, (Pt n 0 2))] rfl ?_
   refine pQl 43 (W d.tsn) (gt2 (by omega) get_here) <| PQ.ps [(44, (Pt n 0 11))] rfl <| pQl 45 d.pv (gt2 (by omega) get_here) <| PQ.ps [(46, (.pointer (some ⟨(n + 2), 0, some 7⟩)))] rfl <| PQ.op (dst := none) (v := (.tuple #[])) (n1 := (n + 3)) (d1 := [((n + 2), some ⟨[(xCp413 d)], 15, 53, true⟩)]) rfl rfl rfl _ (sA (V := []) (by kernel_rfl) (by kernel_rfl)) (rS get_here) (by omega) (kp1 (wr_old [2, 3, 4, 5, 6, 7, 8, 9, 10, 11] (by kernel_rfl) (by omega) (by omega) (fac (lo0 rfl) (fac (lo1 rfl (by omega)) (fac (lo0 rfl) (fac (lo1 rfl (by omega)) (fac (lo0 rfl) (fac (lo1 rfl (by omega)) (fac (lo0 rfl) (fac (lo1 rfl (by omega)) (fac (lo0 rfl) (fac (lo1 rfl (by omega)) fan)))))))))))) <| PQ.ps [(47, (.pointer (some ⟨(n + 2), 0, some 8⟩)))] rfl <| PQ.op (dst := none) (v := (.tuple #[])) (n1 := (n + 3)) (d1 := [((n + 2), some ⟨[(xCp414 d)], 15, 53, true⟩)]) rfl rfl rfl _ (sA (V := [((n + 2), some ⟨[(xCp413 d)], 15, 53, true⟩)]) (by kernel_rfl) (by kernel_rfl)) (rS get_here) (by omega) (kp1 (wr_late [4, 5, 6, 7, 8, 9, 10, 11] (by kernel_rfl) (by kernel_rfl) (by omega) 13 (by kernel_rfl) (by simp [keys]) (fac (lo0 rfl) (fac (lo1 rfl (by omega)) (fac (lo0 rfl) (fac (lo1 rfl (by omega)) (fac (lo0 rfl) (fac (lo1 rfl (by omega)) (fac (lo0 rfl) (fac (lo1 rfl (by omega)) fan)))))))))) <| PQ.ps [(48, (.pointer (some ⟨(n + 2), 0, some 9⟩)))] rfl <| PQ.op (dst := none) (v := (.tuple #[])) (n1 := (n + 3)) (d1 := [((n + 2), some ⟨[(xCp49 d)], 15, 53, true⟩)]) rfl rfl rfl _ (sA (V := [((n + 2), some ⟨[(xCp414 d)], 15, 53, true⟩), ((n + 2), some ⟨[(xCp413 d)], 15, 53, true⟩)]) (by kernel_rfl) (by kernel_rfl)) (rS get_here) (by omega) (kp1 (wr_late [6, 7, 8, 9, 10, 11] (by kernel_rfl) (by kernel_rfl) (by omega) 13 (by kernel_rfl) (by simp [keys]) (fac (lo0 rfl) (fac (lo1 rfl (by omega)) (fac (lo0 rfl) (fac (lo1 rfl (by omega)) (fac (lo0 rfl) (fac (lo1 rfl (by omega)) fan)))))))) <| PQ.ps [(49, (.pointer (some ⟨(n + 2), 0, some 10⟩)))] rfl <| PQ.op (dst := none) (v := (.tuple #[])) (n1 := (n + 3)) (d1 := [((n + 2), some ⟨[(xCp46 d)], 15, 53, true⟩)]) rfl rfl rfl _ (sA (V := [((n + 2), some ⟨[(xCp49 d)], 15, 53, true⟩), ((n + 2), some ⟨[(xCp414 d)], 15, 53, true⟩), ((n + 2), some ⟨[(xCp413 d)], 15, 53, true⟩)]) (by kernel_rfl) (by kernel_rfl)) (rS get_here) (by omega) (kp1 (wr_late [8, 9, 10, 11] (by kernel_rfl) (by kernel_rfl) (by omega) 13 (by kernel_rfl) (by simp [keys]) (fac (lo0 rfl) (fac (lo1 rfl (by omega)) (fac (lo0 rfl) (fac (lo1 rfl (by omega)) fan)))))) ?_
   refine PQ.ps [(50, (.pointer (some ⟨(n + 2), 0, some 2⟩)))] rfl <| PQ.op (dst := none) (v := (.tuple #[])) (n1 := (n + 3)) (d1 := [((n + 2), some ⟨[(xCp410 d)], 15, 53, true⟩)]) rfl rfl rfl _ (sA (V := [((n + 2), some ⟨[(xCp46 d)], 15, 53, true⟩), ((n + 2), some ⟨[(xCp49 d)], 15, 53, true⟩), ((n + 2), some ⟨[(xCp414 d)], 15, 53, true⟩), ((n + 2), some ⟨[(xCp413 d)], 15, 53, true⟩)]) (by kernel_rfl) (by kernel_rfl)) (rS get_here) (by omega) (kp1 (wr_late [10, 11] (by kernel_rfl) (by kernel_rfl) (by omega) 13 (by kernel_rfl) (by simp [keys]) (fac (lo0 rfl) (fac (lo1 rfl (by omega)) fan)))) <| PQ.ps [(51, (.pointer (some ⟨(n + 2), 0, some 11⟩)))] rfl <| PQ.op (dst := none) (v := (.tuple #[])) (n1 := (n + 3)) (d1 := [((n + 2), some ⟨[(xCp419 d)], 15, 53, true⟩)]) rfl rfl rfl _ (sA (V := [((n + 2), some ⟨[(xCp410 d)], 15, 53, true⟩), ((n + 2), some ⟨[(xCp46 d)], 15, 53, true⟩), ((n + 2), some ⟨[(xCp49 d)], 15, 53, true⟩), ((n + 2), some ⟨[(xCp414 d)], 15, 53, true⟩), ((n + 2), some ⟨[(xCp413 d)], 15, 53, true⟩)]) (by kernel_rfl) (by kernel_rfl)) (r_store (cs := [d.pv]) rfl rfl rfl rfl (h.hp).cells rfl (by simp only [List.all_cons, List.all_nil, Bool.and_true]; exact (h.hp).one) get_here rfl rfl (Nat.le_of_ble_eq_true rfl) rfl) (by omega) (kp1 (wr_tight (by kernel_rfl) (by omega))) <| PQ.done (d := [((n + 2), some ⟨[(xCp419 d)], 15, 53, true⟩), ((n + 2), some ⟨[(xCp410 d)], 15, 53, true⟩), ((n + 2), some ⟨[(xCp46 d)], 15, 53, true⟩), ((n + 2), some ⟨[(xCp49 d)], 15, 53, true⟩), ((n + 2), some ⟨[(xCp414 d)], 15, 53, true⟩), ((n + 2), some ⟨[(xCp413 d)], 15, 53, true⟩)]) (by kernel_rfl) fun _ => RA.weaken hd (LsO (fA get_here get_here (fA (get_there (by omega) get_here) (gt7 (by omega) get_here) (fA (gt2 (by omega) get_here) (gt8 (by omega) get_here) fan)))) <| RA.rb [(0, (.agg ⟨(cChk d)⟩)), (1, (Pt n 0 0)), (2, (.pointer (some ⟨(n + 1), 0, some 0⟩))), (3, (.pointer (some ⟨(n + 2), 0, some 0⟩))), (10, (.int .i64 d.typ)), (14, yF), (31, yT)] rfl (fun τr2 => ?_)
   refine RA.sR hd env_ok <| oP 102 (.agg ⟨(xCp419 d)⟩) rfl (r_loadA rfl rfl rfl rfl get_here rfl rfl rfl) <| o1 none yU (n + 3) ((n + 1), some ⟨[(xCp419 d)], 15, 53, true⟩) (r_store (cs := (xCp419 d)) rfl rfl rfl rfl rfl rfl (by simp only [List.all_cons, List.all_nil, Bool.and_true, Bool.and_eq_true]; exact ⟨rfl, rfl, rfl, rfl, rfl, rfl, rfl, rfl, rfl, rfl, rfl, (h.hp).one, rfl, rfl, rfl⟩) (get_there (by omega) get_here) rfl rfl (Nat.le_of_ble_eq_true rfl) rfl) <| OA.nil fun _ => RA.weaken hd (LsO (fA get_here get_here (fA (get_there (by omega) get_here) (get_there (by omega) get_here) (fA (gt2 (by omega) get_here) (gt3 (by omega) get_here) fan)))) ?_
   refine RA.ret env_ok ?_
   refine ⟨.inr rfl, [(.agg ⟨(xCp419 d)⟩)], (resL_cons (res_cellA rfl rfl rfl get_here rfl rfl rfl) resL_nil), (congrArg (fun z => Value.agg ⟨cChk z⟩) (pl_1 (by have := kd_cases d.typ; omega)).symm), (kc3 (by omega))⟩
  ·
   refine oP 32 yF rfl (Eq.trans (r_bin rfl rfl rfl (b_eql rfl)) (dF hc2)) <| OA.ps [(31, yF)] rfl <| OA.nil fun _ => RA.condF rfl <| RA.region env_ok ?_
   by_cases hc3 : d.typ = 2
   ·
    refine oP 33 yT rfl (Eq.trans (r_bin rfl rfl rfl (b_eql rfl)) (dT hc3)) <| OA.ps [(31, yT)] rfl <| OA.nil fun _ => RA.condT rfl <| RA.par (md := [some [], some [n], some [], some [n], some [], some [n], some [], some [n], some [], some [n], some [], some [n], some [], none, some [], none, some [], none, some [], none, some [], none, some [], none]) env_ok (hd.of (by omega) (kb3 (by omega))) (by kernel_rfl) <| PQ.ps [(34, (Pt n 0 7))] rfl <| pQl 35 (W d.tag) (gt2 (by omega) get_here) <| PQ.ps [(36, (Pt n 0 8))] rfl <| pQl 37 (W d.rwnd) (gt2 (by omega) get_here) <| PQ.ps [(38, (Pt n 0 9))] rfl <| pQl 39 (.int .i64 d.outs) (gt2 (by omega) get_here) ?_
    refine PQ.ps [(40, (Pt n 0 10))] rfl <| pQl 41 (.int .i64 d.ins) (gt2 (by omega) get_here) <| PQ.ps [(42, (Pt n 0 2))] rfl <| pQl 43 (W d.tsn) (gt2 (by omega) get_here) <| PQ.ps [(44, (Pt n 0 11))] rfl <| pQl 45 d.pv (gt2 (by omega) get_here) <| PQ.ps [(46, (.pointer (some ⟨(n + 2), 0, some 7⟩)))] rfl <| PQ.op (dst := none) (v := (.tuple #[])) (n1 := (n + 3)) (d1 := [((n + 2), some ⟨[(xCp413 d)], 15, 53, true⟩)]) rfl rfl rfl _ (sA (V := []) (by kernel_rfl) (by kernel_rfl)) (rS get_here) (by omega) (kp1 (wr_old [2, 3, 4, 5, 6, 7, 8, 9, 10, 11] (by kernel_rfl) (by omega) (by omega) (fac (lo0 rfl) (fac (lo1 rfl (by omega)) (fac (lo0 rfl) (fac (lo1 rfl (by omega)) (fac (lo0 rfl) (fac (lo1 rfl (by omega)) (fac (lo0 rfl) (fac (lo1 rfl (by omega)) (fac (lo0 rfl) (fac (lo1 rfl (by omega)) fan)))))))))))) <| PQ.ps [(47, (.pointer (some ⟨(n + 2), 0, some 8⟩)))] rfl <| PQ.op (dst := none) (v := (.tuple #[])) (n1 := (n + 3)) (d1 := [((n + 2), some ⟨[(xCp414 d)], 15, 53, true⟩)]) rfl rfl rfl _ (sA (V := [((n + 2), some ⟨[(xCp413 d)], 15, 53, true⟩)]) (by kernel_rfl) (by kernel_rfl)) (rS get_here) (by omega) (kp1 (wr_late [4, 5, 6, 7, 8, 9, 10, 11] (by kernel_rfl) (by kernel_rfl) (by omega) 13 (by kernel_rfl) (by simp [keys]) (fac (lo0 rfl) (fac (lo1 rfl (by omega)) (fac (lo0 rfl) (fac (lo1 rfl (by omega)) (fac (lo0 rfl) (fac (lo1 rfl (by omega)) (fac (lo0 rfl) (fac (lo1 rfl (by omega)) fan)))))))))) <| PQ.ps [(48, (.pointer (some ⟨(n + 2), 0, some 9⟩)))] rfl ?_
    refine PQ.op (dst := none) (v := (.tuple #[])) (n1 := (n + 3)) (d1 := [((n + 2), some ⟨[(xCp49 d)], 15, 53, true⟩)]) rfl rfl rfl _ (sA (V := [((n + 2), some ⟨[(xCp414 d)], 15, 53, true⟩), ((n + 2), some ⟨[(xCp413 d)], 15, 53, true⟩)]) (by kernel_rfl) (by kernel_rfl)) (rS get_here) (by omega) (kp1 (wr_late [6, 7, 8, 9, 10, 11] (by kernel_rfl) (by kernel_rfl) (by omega) 13 (by kernel_rfl) (by simp [keys]) (fac (lo0 rfl) (fac (lo1 rfl (by omega)) (fac (lo0 rfl) (fac (lo1 rfl (by omega)) (fac (lo0 rfl) (fac (lo1 rfl (by omega)) fan)))))))) <| PQ.ps [(49, (.pointer (some ⟨(n + 2), 0, some 10⟩)))] rfl <| PQ.op (dst := none) (v := (.tuple #[])) (n1 := (n + 3)) (d1 := [((n + 2), some ⟨[(xCp46 d)], 15, 53, true⟩)]) rfl rfl rfl _ (sA (V := [((n + 2), some ⟨[(xCp49 d)], 15, 53, true⟩), ((n + 2), some ⟨[(xCp414 d)], 15, 53, true⟩), ((n + 2), some ⟨[(xCp413 d)], 15, 53, true⟩)]) (by kernel_rfl) (by kernel_rfl)) (rS get_here) (by omega) (kp1 (wr_late [8, 9, 10, 11] (by kernel_rfl) (by kernel_rfl) (by omega) 13 (by kernel_rfl) (by simp [keys]) (fac (lo0 rfl) (fac (lo1 rfl (by omega)) (fac (lo0 rfl) (fac (lo1 rfl (by omega)) fan)))))) <| PQ.ps [(50, (.pointer (some ⟨(n + 2), 0, some 2⟩)))] rfl <| PQ.op (dst := none) (v := (.tuple #[])) (n1 := (n + 3)) (d1 := [((n + 2), some ⟨[(xCp410 d)], 15, 53, true⟩)]) rfl rfl rfl _ (sA (V := [((n + 2), some ⟨[(xCp46 d)], 15, 53, true⟩), ((n + 2), some ⟨[(xCp49 d)], 15, 53, true⟩), ((n + 2), some ⟨[(xCp414 d)], 15, 53, true⟩), ((n + 2), some ⟨[(xCp413 d)], 15, 53, true⟩)]) (by kernel_rfl) (by kernel_rfl)) (rS get_here) (by omega) (kp1 (wr_late [10, 11] (by kernel_rfl) (by kernel_rfl) (by omega) 13 (by kernel_rfl) (by simp [keys]) (fac (lo0 rfl) (fac (lo1 rfl (by omega)) fan)))) <| PQ.ps [(51, (.pointer (some ⟨(n + 2), 0, some 11⟩)))] rfl <| PQ.op (dst := none) (v := (.tuple #[])) (n1 := (n + 3)) (d1 := [((n + 2), some ⟨[(xCp419 d)], 15, 53, true⟩)]) rfl rfl rfl _ (sA (V := [((n + 2), some ⟨[(xCp410 d)], 15, 53, true⟩), ((n + 2), some ⟨[(xCp46 d)], 15, 53, true⟩), ((n + 2), some ⟨[(xCp49 d)], 15, 53, true⟩), ((n + 2), some ⟨[(xCp414 d)], 15, 53, true⟩), ((n + 2), some ⟨[(xCp413 d)], 15, 53, true⟩)]) (by kernel_rfl) (by kernel_rfl)) (r_store (cs := [d.pv]) rfl rfl rfl rfl (h.hp).cells rfl (by simp only [List.all_cons, List.all_nil, Bool.and_true]; exact (h.hp).one) get_here rfl rfl (Nat.le_of_ble_eq_true rfl) rfl) (by omega) (kp1 (wr_tight (by kernel_rfl) (by omega))) <| PQ.done (d := [((n + 2), some ⟨[(xCp419 d)], 15, 53, true⟩), ((n + 2), some ⟨[(xCp410 d)], 15, 53, true⟩), ((n + 2), some ⟨[(xCp46 d)], 15, 53, true⟩), ((n + 2), some ⟨[(xCp49 d)], 15, 53, true⟩), ((n + 2), some ⟨[(xCp414 d)], 15, 53, true⟩), ((n + 2), some ⟨[(xCp413 d)], 15, 53, true⟩)]) (by kernel_rfl) fun _ => RA.weaken hd (LsO (fA get_here get_here (fA (get_there (by omega) get_here) (gt7 (by omega) get_here) (fA (gt2 (by omega) get_here) (gt8 (by omega) get_here) fan)))) <| RA.rb [(0, (.agg ⟨(cChk d)⟩)), (1, (Pt n 0 0)), (2, (.pointer (some ⟨(n + 1), 0, some 0⟩))), (3, (.pointer (some ⟨(n + 2), 0, some 0⟩))), (10, (.int .i64 d.typ)), (14, yF), (31, yT)] rfl (fun τr3 => ?_)
    refine RA.sR hd env_ok <| oP 102 (.agg ⟨(xCp419 d)⟩) rfl (r_loadA rfl rfl rfl rfl get_here rfl rfl rfl) <| o1 none yU (n + 3) ((n + 1), some ⟨[(xCp419 d)], 15, 53, true⟩) (r_store (cs := (xCp419 d)) rfl rfl rfl rfl rfl rfl (by simp only [List.all_cons, List.all_nil, Bool.and_true, Bool.and_eq_true]; exact ⟨rfl, rfl, rfl, rfl, rfl, rfl, rfl, rfl, rfl, rfl, rfl, (h.hp).one, rfl, rfl, rfl⟩) (get_there (by omega) get_here) rfl rfl (Nat.le_of_ble_eq_true rfl) rfl) <| OA.nil fun _ => RA.weaken hd (LsO (fA get_here get_here (fA (get_there (by omega) get_here) (get_there (by omega) get_here) (fA (gt2 (by omega) get_here) (gt3 (by omega) get_here) fan)))) ?_
    refine RA.ret env_ok ?_
    refine ⟨.inr rfl, [(.agg ⟨(xCp419 d)⟩)], (resL_cons (res_cellA rfl rfl rfl get_here rfl rfl rfl) resL_nil), (congrArg (fun z => Value.agg ⟨cChk z⟩) (pl_1 (by have := kd_cases d.typ; omega)).symm), (kc3 (by omega))⟩
   ·
    refine oP 33 yF rfl (Eq.trans (r_bin rfl rfl rfl (b_eql rfl)) (dF hc3)) <| OA.ps [(31, yF)] rfl <| OA.nil fun _ => RA.condF rfl <| RA.sR hd env_ok ?_
    by_cases hc4 : d.typ = 3
    ·
     refine oP 53 yT rfl (Eq.trans (r_bin rfl rfl rfl (b_eql rfl)) (dT hc4)) <| OA.ps [(52, yT)] rfl <| OA.nil fun _ => RA.condT rfl <| RA.par (md := [some [], some [n], some [], some [n], some [], some [n], some [], some [n], some [], none, some [], none, some [], none, some [], none]) env_ok (hd.of (by omega) (kb3 (by omega))) (by kernel_rfl) <| PQ.ps [(54, (Pt n 0 2))] rfl <| pQl 55 (W d.tsn) (gt2 (by omega) get_here) <| PQ.ps [(56, (Pt n 0 8))] rfl <| pQl 57 (W d.rwnd) (gt2 (by omega) get_here) <| PQ.ps [(58, (Pt n 0 13))] rfl <| pQl 59 d.gv (gt2 (by omega) get_here) ?_
     refine PQ.ps [(60, (Pt n 0 14))] rfl <| pQl 61 d.dv (gt2 (by omega) get_here) <| PQ.ps [(62, (.pointer (some ⟨(n + 2), 0, some 2⟩)))] rfl <| PQ.op (dst := none) (v := (.tuple #[])) (n1 := (n + 3)) (d1 := [((n + 2), some ⟨[(xCp411 d)], 15, 53, true⟩)]) rfl rfl rfl _ (sA (V := []) (by kernel_rfl) (by kernel_rfl)) (rS get_here) (by omega) (kp1 (wr_old [2, 3, 4, 5, 6, 7] (by kernel_rfl) (by omega) (by omega) (fac (lo0 rfl) (fac (lo1 rfl (by omega)) (fac (lo0 rfl) (fac (lo1 rfl (by omega)) (fac (lo0 rfl) (fac (lo1 rfl (by omega)) fan)))))))) <| PQ.ps [(63, (.pointer (some ⟨(n + 2), 0, some 8⟩)))] rfl <| PQ.op (dst := none) (v := (.tuple #[])) (n1 := (n + 3)) (d1 := [((n + 2), some ⟨[(xCp415 d)], 15, 53, true⟩)]) rfl rfl rfl _ (sA (V := [((n + 2), some ⟨[(xCp411 d)], 15, 53, true⟩)]) (by kernel_rfl) (by kernel_rfl)) (rS get_here) (by omega) (kp1 (wr_late [4, 5, 6, 7] (by kernel_rfl) (by kernel_rfl) (by omega) 9 (by kernel_rfl) (by simp [keys]) (fac (lo0 rfl) (fac (lo1 rfl (by omega)) (fac (lo0 rfl) (fac (lo1 rfl (by omega)) fan)))))) <| PQ.ps [(64, (.pointer (some ⟨(n + 2), 0, some 13⟩)))] rfl <| PQ.op (dst := none) (v := (.tuple #[])) (n1 := (n + 3)) (d1 := [((n + 2), some ⟨[(xCp421 d)], 15, 53, true⟩)]) rfl rfl rfl _ (sA (V := [((n + 2), some ⟨[(xCp415 d)], 15, 53, true⟩), ((n + 2), some ⟨[(xCp411 d)], 15, 53, true⟩)]) (by kernel_rfl) (by kernel_rfl)) (r_store (cs := [d.gv]) rfl rfl rfl rfl (h.hg).cells rfl (by simp only [List.all_cons, List.all_nil, Bool.and_true]; exact (h.hg).one) get_here rfl rfl (Nat.le_of_ble_eq_true rfl) rfl) (by omega) (kp1 (wr_late [6, 7] (by kernel_rfl) (by kernel_rfl) (by omega) 9 (by kernel_rfl) (by simp [keys]) (fac (lo0 rfl) (fac (lo1 rfl (by omega)) fan)))) <| PQ.ps [(65, (.pointer (some ⟨(n + 2), 0, some 14⟩)))] rfl <| PQ.op (dst := none) (v := (.tuple #[])) (n1 := (n + 3)) (d1 := [((n + 2), some ⟨[(xCp422 d)], 15, 53, true⟩)]) rfl rfl rfl _ (sA (V := [((n + 2), some ⟨[(xCp421 d)], 15, 53, true⟩), ((n + 2), some ⟨[(xCp415 d)], 15, 53, true⟩), ((n + 2), some ⟨[(xCp411 d)], 15, 53, true⟩)]) (by kernel_rfl) (by kernel_rfl)) (r_store (cs := [d.dv]) rfl rfl rfl rfl (h.hu).cells rfl (by simp only [List.all_cons, List.all_nil, Bool.and_true]; exact (h.hu).one) get_here rfl rfl (Nat.le_of_ble_eq_true rfl) rfl) (by omega) (kp1 (wr_tight (by kernel_rfl) (by omega))) <| PQ.done (d := [((n + 2), some ⟨[(xCp422 d)], 15, 53, true⟩), ((n + 2), some ⟨[(xCp421 d)], 15, 53, true⟩), ((n + 2), some ⟨[(xCp415 d)], 15, 53, true⟩), ((n + 2), some ⟨[(xCp411 d)], 15, 53, true⟩)]) (by kernel_rfl) fun _ => ?_
     refine RA.weaken hd (LsO (fA get_here get_here (fA (get_there (by omega) get_here) (gt5 (by omega) get_here) (fA (gt2 (by omega) get_here) (gt6 (by omega) get_here) fan)))) <| RA.rb [(0, (.agg ⟨(cChk d)⟩)), (1, (Pt n 0 0)), (2, (.pointer (some ⟨(n + 1), 0, some 0⟩))), (3, (.pointer (some ⟨(n + 2), 0, some 0⟩))), (10, (.int .i64 d.typ)), (14, yF), (31, yF), (52, yT)] rfl (fun τr4 => ?_)
     refine RA.sR hd env_ok <| oP 102 (.agg ⟨(xCp422 d)⟩) rfl (r_loadA rfl rfl rfl rfl get_here rfl rfl rfl) <| o1 none yU (n + 3) ((n + 1), some ⟨[(xCp422 d)], 15, 53, true⟩) (r_store (cs := (xCp422 d)) rfl rfl rfl rfl rfl rfl (by simp only [List.all_cons, List.all_nil, Bool.and_true, Bool.and_eq_true]; exact ⟨rfl, rfl, rfl, rfl, rfl, rfl, rfl, rfl, rfl, rfl, rfl, rfl, rfl, (h.hg).one, (h.hu).one⟩) (get_there (by omega) get_here) rfl rfl (Nat.le_of_ble_eq_true rfl) rfl) <| OA.nil fun _ => RA.weaken hd (LsO (fA get_here get_here (fA (get_there (by omega) get_here) (get_there (by omega) get_here) (fA (gt2 (by omega) get_here) (gt3 (by omega) get_here) fan)))) ?_
     refine RA.ret env_ok ?_
     refine ⟨.inr rfl, [(.agg ⟨(xCp422 d)⟩)], (resL_cons (res_cellA rfl rfl rfl get_here rfl rfl rfl) resL_nil), (congrArg (fun z => Value.agg ⟨cChk z⟩) (pl_3 (by have := kd_cases d.typ; omega)).symm), (kc3 (by omega))⟩
    ·
     refine oP 53 yF rfl (Eq.trans (r_bin rfl rfl rfl (b_eql rfl)) (dF hc4)) <| OA.ps [(52, yF)] rfl <| OA.nil fun _ => RA.condF rfl <| RA.seq hd <| RA.sR hd env_ok ?_
     by_cases hc5 : d.typ = 6
     ·
      refine oP 67 yT rfl (Eq.trans (r_bin rfl rfl rfl (b_eql rfl)) (dT hc5)) <| OA.ps [(66, yT)] rfl <| OA.nil fun _ => RA.condT rfl <| RA.skip env_ok ?_
      intro _
      refine RA.condT rfl <| RA.region env_ok <| OA.ps [(69, (Pt n 0 12))] rfl <| oL 70 d.cv (gt2 (by omega) get_here) <| OA.ps [(71, (.pointer (some ⟨(n + 2), 0, some 12⟩)))] rfl <| o1 none yU (n + 3) ((n + 2), some ⟨[(xCp418 d)], 15, 53, true⟩) (r_store (cs := [d.cv]) rfl rfl rfl rfl (h.hc).cells rfl (by simp only [List.all_cons, List.all_nil, Bool.and_true]; exact (h.hc).one) get_here rfl rfl (Nat.le_of_ble_eq_true rfl) rfl) <| OA.nil fun _ => RA.weaken hd (LsO (fA get_here get_here (fA (get_there (by omega) get_here) (gt2 (by omega) get_here) (fA (gt2 (by omega) get_here) (gt3 (by omega) get_here) fan)))) <| RA.rb [(0, (.agg ⟨(cChk d)⟩)), (1, (Pt n 0 0)), (2, (.pointer (some ⟨(n + 1), 0, some 0⟩))), (3, (.pointer (some ⟨(n + 2), 0, some 0⟩))), (10, (.int .i64 d.typ)), (14, yF), (31, yF), (52, yF), (66, yT)] rfl (fun τr5 => ?_)
      refine RA.sR hd env_ok <| oP 102 (.agg ⟨(xCp418 d)⟩) rfl (r_loadA rfl rfl rfl rfl get_here rfl rfl rfl) <| o1 none yU (n + 3) ((n + 1), some ⟨[(xCp418 d)], 15, 53, true⟩) (r_store (cs := (xCp418 d)) rfl rfl rfl rfl rfl rfl (by simp only [List.all_cons, List.all_nil, Bool.and_true, Bool.and_eq_true]; exact ⟨rfl, rfl, rfl, rfl, rfl, rfl, rfl, rfl, rfl, rfl, rfl, rfl, (h.hc).one, rfl, rfl⟩) (get_there (by omega) get_here) rfl rfl (Nat.le_of_ble_eq_true rfl) rfl) <| OA.nil fun _ => RA.weaken hd (LsO (fA get_here get_here (fA (get_there (by omega) get_here) (get_there (by omega) get_here) (fA (gt2 (by omega) get_here) (gt3 (by omega) get_here) fan)))) ?_
      refine RA.ret env_ok ?_
      refine ⟨.inr rfl, [(.agg ⟨(xCp418 d)⟩)], (resL_cons (res_cellA rfl rfl rfl get_here rfl rfl rfl) resL_nil), (congrArg (fun z => Value.agg ⟨cChk z⟩) (pl_6 (by have := kd_cases d.typ; omega)).symm), (kc3 (by omega))⟩
     ·
      refine oP 67 yF rfl (Eq.trans (r_bin rfl rfl rfl (b_eql rfl)) (dF hc5)) <| OA.ps [(66, yF)] rfl <| OA.nil fun _ => RA.condF rfl <| RA.region env_ok ?_
      by_cases hc6 : d.typ = 9
      ·
       refine oP 68 yT rfl (Eq.trans (r_bin rfl rfl rfl (b_eql rfl)) (dT hc6)) <| OA.ps [(66, yT)] rfl <| OA.nil fun _ => RA.condT rfl <| RA.region env_ok <| OA.ps [(69, (Pt n 0 12))] rfl <| oL 70 d.cv (gt2 (by omega) get_here) <| OA.ps [(71, (.pointer (some ⟨(n + 2), 0, some 12⟩)))] rfl <| o1 none yU (n + 3) ((n + 2), some ⟨[(xCp418 d)], 15, 53, true⟩) (r_store (cs := [d.cv]) rfl rfl rfl rfl (h.hc).cells rfl (by simp only [List.all_cons, List.all_nil, Bool.and_true]; exact (h.hc).one) get_here rfl rfl (Nat.le_of_ble_eq_true rfl) rfl) <| OA.nil fun _ => RA.weaken hd (LsO (fA get_here get_here (fA (get_there (by omega) get_here) (gt2 (by omega) get_here) (fA (gt2 (by omega) get_here) (gt3 (by omega) get_here) fan)))) ?_
       refine RA.rb [(0, (.agg ⟨(cChk d)⟩)), (1, (Pt n 0 0)), (2, (.pointer (some ⟨(n + 1), 0, some 0⟩))), (3, (.pointer (some ⟨(n + 2), 0, some 0⟩))), (10, (.int .i64 d.typ)), (14, yF), (31, yF), (52, yF), (66, yT)] rfl (fun τr6 => ?_)
       refine RA.sR hd env_ok <| oP 102 (.agg ⟨(xCp418 d)⟩) rfl (r_loadA rfl rfl rfl rfl get_here rfl rfl rfl) <| o1 none yU (n + 3) ((n + 1), some ⟨[(xCp418 d)], 15, 53, true⟩) (r_store (cs := (xCp418 d)) rfl rfl rfl rfl rfl rfl (by simp only [List.all_cons, List.all_nil, Bool.and_true, Bool.and_eq_true]; exact ⟨rfl, rfl, rfl, rfl, rfl, rfl, rfl, rfl, rfl, rfl, rfl, rfl, (h.hc).one, rfl, rfl⟩) (get_there (by omega) get_here) rfl rfl (Nat.le_of_ble_eq_true rfl) rfl) <| OA.nil fun _ => RA.weaken hd (LsO (fA get_here get_here (fA (get_there (by omega) get_here) (get_there (by omega) get_here) (fA (gt2 (by omega) get_here) (gt3 (by omega) get_here) fan)))) ?_
       refine RA.ret env_ok ?_
       refine ⟨.inr rfl, [(.agg ⟨(xCp418 d)⟩)], (resL_cons (res_cellA rfl rfl rfl get_here rfl rfl rfl) resL_nil), (congrArg (fun z => Value.agg ⟨cChk z⟩) (pl_6 (by have := kd_cases d.typ; omega)).symm), (kc3 (by omega))⟩
      ·
       refine oP 68 yF rfl (Eq.trans (r_bin rfl rfl rfl (b_eql rfl)) (dF hc6)) <| OA.ps [(66, yF)] rfl <| OA.nil fun _ => RA.condF rfl <| RA.sR hd env_ok ?_
       by_cases hc7 : d.typ = 7
       ·
        refine oP 73 yT rfl (Eq.trans (r_bin rfl rfl rfl (b_eql rfl)) (dT hc7)) <| OA.ps [(72, yT)] rfl <| OA.nil fun _ => RA.rb [(0, (.agg ⟨(cChk d)⟩)), (1, (Pt n 0 0)), (2, (.pointer (some ⟨(n + 1), 0, some 0⟩))), (3, (.pointer (some ⟨(n + 2), 0, some 0⟩))), (10, (.int .i64 d.typ)), (14, yF), (31, yF), (52, yF), (66, yF), (72, yT)] rfl (fun τr7 => ?_)
        refine RA.condT rfl <| RA.region env_ok <| OA.ps [(74, (Pt n 0 2))] rfl <| oL 75 (W d.tsn) (gt2 (by omega) get_here) <| OA.ps [(76, (.pointer (some ⟨(n + 2), 0, some 2⟩)))] rfl <| o1 none yU (n + 3) ((n + 2), some ⟨[(xCp411 d)], 15, 53, true⟩) (rS get_here) <| OA.nil fun _ => RA.weaken hd (LsO (fA get_here get_here (fA (get_there (by omega) get_here) (gt2 (by omega) get_here) (fA (gt2 (by omega) get_here) (gt3 (by omega) get_here) fan)))) <| RA.sR hd env_ok <| oP 102 (.agg ⟨(xCp411 d)⟩) rfl (r_loadA rfl rfl rfl rfl get_here rfl rfl rfl) <| o1 none yU (n + 3) ((n + 1), some ⟨[(xCp411 d)], 15, 53, true⟩) (rS (get_there (by omega) get_here)) ?_
        refine OA.nil fun _ => RA.weaken hd (LsO (fA get_here get_here (fA (get_there (by omega) get_here) (get_there (by omega) get_here) (fA (gt2 (by omega) get_here) (gt3 (by omega) get_here) fan)))) ?_
        refine RA.ret env_ok ?_
        refine ⟨.inr rfl, [(.agg ⟨(xCp411 d)⟩)], (resL_cons (res_cellA rfl rfl rfl get_here rfl rfl rfl) resL_nil), (congrArg (fun z => Value.agg ⟨cChk z⟩) (pl_7 (by have := kd_cases d.typ; omega)).symm), (kc3 (by omega))⟩
       ·
        refine oP 73 yF rfl (Eq.trans (r_bin rfl rfl rfl (b_eql rfl)) (dF hc7)) <| OA.ps [(72, yF)] rfl <| OA.nil fun _ => RA.rb [(0, (.agg ⟨(cChk d)⟩)), (1, (Pt n 0 0)), (2, (.pointer (some ⟨(n + 1), 0, some 0⟩))), (3, (.pointer (some ⟨(n + 2), 0, some 0⟩))), (10, (.int .i64 d.typ)), (14, yF), (31, yF), (52, yF), (66, yF), (72, yF)] rfl (fun τr8 => ?_)
        refine RA.condF rfl <| RA.seq hd <| RA.sR hd env_ok ?_
        by_cases hc8 : d.typ = 193
        ·
         refine oP 78 yT rfl (Eq.trans (r_bin rfl rfl rfl (b_eql rfl)) (dT hc8)) <| OA.ps [(77, yT)] rfl <| OA.nil fun _ => RA.condT rfl <| RA.skip env_ok ?_
         intro _
         refine RA.condT rfl <| RA.par (md := [some [], some [n], some [], some [n], some [], none, some [], none]) env_ok (hd.of (by omega) (kb3 (by omega))) (by kernel_rfl) <| PQ.ps [(81, (Pt n 0 2))] rfl <| pQl 82 (W d.tsn) (gt2 (by omega) get_here) <| PQ.ps [(83, (Pt n 0 11))] rfl <| pQl 84 d.pv (gt2 (by omega) get_here) <| PQ.ps [(85, (.pointer (some ⟨(n + 2), 0, some 2⟩)))] rfl <| PQ.op (dst := none) (v := (.tuple #[])) (n1 := (n + 3)) (d1 := [((n + 2), some ⟨[(xCp411 d)], 15, 53, true⟩)]) rfl rfl rfl _ (sA (V := []) (by kernel_rfl) (by kernel_rfl)) (rS get_here) (by omega) (kp1 (wr_old [2, 3] (by kernel_rfl) (by omega) (by omega) (fac (lo0 rfl) (fac (lo1 rfl (by omega)) fan)))) <| PQ.ps [(86, (.pointer (some ⟨(n + 2), 0, some 11⟩)))] rfl <| PQ.op (dst := none) (v := (.tuple #[])) (n1 := (n + 3)) (d1 := [((n + 2), some ⟨[(xCp420 d)], 15, 53, true⟩)]) rfl rfl rfl _ (sA (V := [((n + 2), some ⟨[(xCp411 d)], 15, 53, true⟩)]) (by kernel_rfl) (by kernel_rfl)) (r_store (cs := [d.pv]) rfl rfl rfl rfl (h.hp).cells rfl (by simp only [List.all_cons, List.all_nil, Bool.and_true]; exact (h.hp).one) get_here rfl rfl (Nat.le_of_ble_eq_true rfl) rfl) (by omega) (kp1 (wr_tight (by kernel_rfl) (by omega))) <| PQ.done (d := [((n + 2), some ⟨[(xCp420 d)], 15, 53, true⟩), ((n + 2), some ⟨[(xCp411 d)], 15, 53, true⟩)]) (by kernel_rfl) fun _ => ?_
         refine RA.weaken hd (LsO (fA get_here get_here (fA (get_there (by omega) get_here) (gt3 (by omega) get_here) (fA (gt2 (by omega) get_here) (gt4 (by omega) get_here) fan)))) <| RA.sR hd env_ok <| oP 102 (.agg ⟨(xCp420 d)⟩) rfl (r_loadA rfl rfl rfl rfl get_here rfl rfl rfl) <| o1 none yU (n + 3) ((n + 1), some ⟨[(xCp420 d)], 15, 53, true⟩) (r_store (cs := (xCp420 d)) rfl rfl rfl rfl rfl rfl (by simp only [List.all_cons, List.all_nil, Bool.and_true, Bool.and_eq_true]; exact ⟨rfl, rfl, rfl, rfl, rfl, rfl, rfl, rfl, rfl, rfl, rfl, (h.hp).one, rfl, rfl, rfl⟩) (get_there (by omega) get_here) rfl rfl (Nat.le_of_ble_eq_true rfl) rfl) <| OA.nil fun _ => RA.weaken hd (LsO (fA get_here get_here (fA (get_there (by omega) get_here) (get_there (by omega) get_here) (fA (gt2 (by omega) get_here) (gt3 (by omega) get_here) fan)))) ?_
         refine RA.ret env_ok ?_
         refine ⟨.inr rfl, [(.agg ⟨(xCp420 d)⟩)], (resL_cons (res_cellA rfl rfl rfl get_here rfl rfl rfl) resL_nil), (congrArg (fun z => Value.agg ⟨cChk z⟩) (pl_16 (by have := kd_cases d.typ; omega)).symm), (kc3 (by omega))⟩
        ·
         refine oP 78 yF rfl (Eq.trans (r_bin rfl rfl rfl (b_eql rfl)) (dF hc8)) <| OA.ps [(77, yF)] rfl <| OA.nil fun _ => RA.condF rfl <| RA.sR hd env_ok ?_
         by_cases hc9 : d.typ = 128
         ·
          refine oP 79 yT rfl (Eq.trans (r_bin rfl rfl rfl (b_eql rfl)) (dT hc9)) <| OA.ps [(77, yT)] rfl <| OA.nil fun _ => RA.condT rfl <| RA.skip env_ok ?_
          intro _
          refine RA.condT rfl <| RA.par (md := [some [], some [n], some [], some [n], some [], none, some [], none]) env_ok (hd.of (by omega) (kb3 (by omega))) (by kernel_rfl) <| PQ.ps [(81, (Pt n 0 2))] rfl <| pQl 82 (W d.tsn) (gt2 (by omega) get_here) <| PQ.ps [(83, (Pt n 0 11))] rfl <| pQl 84 d.pv (gt2 (by omega) get_here) <| PQ.ps [(85, (.pointer (some ⟨(n + 2), 0, some 2⟩)))] rfl <| PQ.op (dst := none) (v := (.tuple #[])) (n1 := (n + 3)) (d1 := [((n + 2), some ⟨[(xCp411 d)], 15, 53, true⟩)]) rfl rfl rfl _ (sA (V := []) (by kernel_rfl) (by kernel_rfl)) (rS get_here) (by omega) (kp1 (wr_old [2, 3] (by kernel_rfl) (by omega) (by omega) (fac (lo0 rfl) (fac (lo1 rfl (by omega)) fan)))) <| PQ.ps [(86, (.pointer (some ⟨(n + 2), 0, some 11⟩)))] rfl <| PQ.op (dst := none) (v := (.tuple #[])) (n1 := (n + 3)) (d1 := [((n + 2), some ⟨[(xCp420 d)], 15, 53, true⟩)]) rfl rfl rfl _ (sA (V := [((n + 2), some ⟨[(xCp411 d)], 15, 53, true⟩)]) (by kernel_rfl) (by kernel_rfl)) (r_store (cs := [d.pv]) rfl rfl rfl rfl (h.hp).cells rfl (by simp only [List.all_cons, List.all_nil, Bool.and_true]; exact (h.hp).one) get_here rfl rfl (Nat.le_of_ble_eq_true rfl) rfl) (by omega) (kp1 (wr_tight (by kernel_rfl) (by omega))) <| PQ.done (d := [((n + 2), some ⟨[(xCp420 d)], 15, 53, true⟩), ((n + 2), some ⟨[(xCp411 d)], 15, 53, true⟩)]) (by kernel_rfl) fun _ => ?_
          refine RA.weaken hd (LsO (fA get_here get_here (fA (get_there (by omega) get_here) (gt3 (by omega) get_here) (fA (gt2 (by omega) get_here) (gt4 (by omega) get_here) fan)))) <| RA.sR hd env_ok <| oP 102 (.agg ⟨(xCp420 d)⟩) rfl (r_loadA rfl rfl rfl rfl get_here rfl rfl rfl) <| o1 none yU (n + 3) ((n + 1), some ⟨[(xCp420 d)], 15, 53, true⟩) (r_store (cs := (xCp420 d)) rfl rfl rfl rfl rfl rfl (by simp only [List.all_cons, List.all_nil, Bool.and_true, Bool.and_eq_true]; exact ⟨rfl, rfl, rfl, rfl, rfl, rfl, rfl, rfl, rfl, rfl, rfl, (h.hp).one, rfl, rfl, rfl⟩) (get_there (by omega) get_here) rfl rfl (Nat.le_of_ble_eq_true rfl) rfl) <| OA.nil fun _ => RA.weaken hd (LsO (fA get_here get_here (fA (get_there (by omega) get_here) (get_there (by omega) get_here) (fA (gt2 (by omega) get_here) (gt3 (by omega) get_here) fan)))) ?_
          refine RA.ret env_ok ?_
          refine ⟨.inr rfl, [(.agg ⟨(xCp420 d)⟩)], (resL_cons (res_cellA rfl rfl rfl get_here rfl rfl rfl) resL_nil), (congrArg (fun z => Value.agg ⟨cChk z⟩) (pl_16 (by have := kd_cases d.typ; omega)).symm), (kc3 (by omega))⟩
         ·
          refine oP 79 yF rfl (Eq.trans (r_bin rfl rfl rfl (b_eql rfl)) (dF hc9)) <| OA.ps [(77, yF)] rfl <| OA.nil fun _ => RA.condF rfl <| RA.region env_ok ?_
          by_cases hc10 : d.typ = 130
          ·
           refine oP 80 yT rfl (Eq.trans (r_bin rfl rfl rfl (b_eql rfl)) (dT hc10)) <| OA.ps [(77, yT)] rfl <| OA.nil fun _ => RA.condT rfl <| RA.par (md := [some [], some [n], some [], some [n], some [], none, some [], none]) env_ok (hd.of (by omega) (kb3 (by omega))) (by kernel_rfl) <| PQ.ps [(81, (Pt n 0 2))] rfl <| pQl 82 (W d.tsn) (gt2 (by omega) get_here) <| PQ.ps [(83, (Pt n 0 11))] rfl <| pQl 84 d.pv (gt2 (by omega) get_here) <| PQ.ps [(85, (.pointer (some ⟨(n + 2), 0, some 2⟩)))] rfl <| PQ.op (dst := none) (v := (.tuple #[])) (n1 := (n + 3)) (d1 := [((n + 2), some ⟨[(xCp411 d)], 15, 53, true⟩)]) rfl rfl rfl _ (sA (V := []) (by kernel_rfl) (by kernel_rfl)) (rS get_here) (by omega) (kp1 (wr_old [2, 3] (by kernel_rfl) (by omega) (by omega) (fac (lo0 rfl) (fac (lo1 rfl (by omega)) fan)))) ?_
           refine PQ.ps [(86, (.pointer (some ⟨(n + 2), 0, some 11⟩)))] rfl <| PQ.op (dst := none) (v := (.tuple #[])) (n1 := (n + 3)) (d1 := [((n + 2), some ⟨[(xCp420 d)], 15, 53, true⟩)]) rfl rfl rfl _ (sA (V := [((n + 2), some ⟨[(xCp411 d)], 15, 53, true⟩)]) (by kernel_rfl) (by kernel_rfl)) (r_store (cs := [d.pv]) rfl rfl rfl rfl (h.hp).cells rfl (by simp only [List.all_cons, List.all_nil, Bool.and_true]; exact (h.hp).one) get_here rfl rfl (Nat.le_of_ble_eq_true rfl) rfl) (by omega) (kp1 (wr_tight (by kernel_rfl) (by omega))) <| PQ.done (d := [((n + 2), some ⟨[(xCp420 d)], 15, 53, true⟩), ((n + 2), some ⟨[(xCp411 d)], 15, 53, true⟩)]) (by kernel_rfl) fun _ => RA.weaken hd (LsO (fA get_here get_here (fA (get_there (by omega) get_here) (gt3 (by omega) get_here) (fA (gt2 (by omega) get_here) (gt4 (by omega) get_here) fan)))) <| RA.sR hd env_ok <| oP 102 (.agg ⟨(xCp420 d)⟩) rfl (r_loadA rfl rfl rfl rfl get_here rfl rfl rfl) <| o1 none yU (n + 3) ((n + 1), some ⟨[(xCp420 d)], 15, 53, true⟩) (r_store (cs := (xCp420 d)) rfl rfl rfl rfl rfl rfl (by simp only [List.all_cons, List.all_nil, Bool.and_true, Bool.and_eq_true]; exact ⟨rfl, rfl, rfl, rfl, rfl, rfl, rfl, rfl, rfl, rfl, rfl, (h.hp).one, rfl, rfl, rfl⟩) (get_there (by omega) get_here) rfl rfl (Nat.le_of_ble_eq_true rfl) rfl) <| OA.nil fun _ => RA.weaken hd (LsO (fA get_here get_here (fA (get_there (by omega) get_here) (get_there (by omega) get_here) (fA (gt2 (by omega) get_here) (gt3 (by omega) get_here) fan)))) ?_
           refine RA.ret env_ok ?_
           refine ⟨.inr rfl, [(.agg ⟨(xCp420 d)⟩)], (resL_cons (res_cellA rfl rfl rfl get_here rfl rfl rfl) resL_nil), (congrArg (fun z => Value.agg ⟨cChk z⟩) (pl_16 (by have := kd_cases d.typ; omega)).symm), (kc3 (by omega))⟩
          ·
           refine oP 80 yF rfl (Eq.trans (r_bin rfl rfl rfl (b_eql rfl)) (dF hc10)) <| OA.ps [(77, yF)] rfl <| OA.nil fun _ => RA.condF rfl <| RA.seq hd <| RA.sR hd env_ok ?_
           by_cases hc11 : d.typ = 8
           ·
            refine oP 88 yT rfl (Eq.trans (r_bin rfl rfl rfl (b_eql rfl)) (dT hc11)) <| OA.ps [(87, yT)] rfl <| OA.nil fun _ => RA.condT rfl <| RA.skip env_ok ?_
            intro _
            refine RA.condT rfl <| RA.skip env_ok ?_
            intro _
            refine RA.sR hd env_ok <| oP 102 (.agg ⟨(xCp48 d)⟩) rfl (r_loadA rfl rfl rfl rfl get_here rfl rfl rfl) <| o1 none yU (n + 3) ((n + 1), some ⟨[(xCp48 d)], 15, 53, true⟩) (rS (get_there (by omega) get_here)) <| OA.nil fun _ => RA.weaken hd (LsO (fA get_here get_here (fA (get_there (by omega) get_here) (get_there (by omega) get_here) (fA (gt2 (by omega) get_here) (gt3 (by omega) get_here) fan)))) ?_
            refine RA.ret env_ok ?_
            refine ⟨.inr rfl, [(.agg ⟨(xCp48 d)⟩)], (resL_cons (res_cellA rfl rfl rfl get_here rfl rfl rfl) resL_nil), (congrArg (fun z => Value.agg ⟨cChk z⟩) (pl_8 (by have := kd_cases d.typ; omega)).symm), (kc3 (by omega))⟩
           ·
            refine oP 88 yF rfl (Eq.trans (r_bin rfl rfl rfl (b_eql rfl)) (dF hc11)) <| OA.ps [(87, yF)] rfl <| OA.nil fun _ => RA.condF rfl <| RA.sR hd env_ok ?_
            by_cases hc12 : d.typ = 11
            ·
             refine oP 89 yT rfl (Eq.trans (r_bin rfl rfl rfl (b_eql rfl)) (dT hc12)) <| OA.ps [(87, yT)] rfl <| OA.nil fun _ => RA.condT rfl <| RA.skip env_ok ?_
             intro _
             refine RA.condT rfl <| RA.skip env_ok ?_
             intro _
             refine RA.sR hd env_ok <| oP 102 (.agg ⟨(xCp48 d)⟩) rfl (r_loadA rfl rfl rfl rfl get_here rfl rfl rfl) <| o1 none yU (n + 3) ((n + 1), some ⟨[(xCp48 d)], 15, 53, true⟩) (rS (get_there (by omega) get_here)) <| OA.nil fun _ => RA.weaken hd (LsO (fA get_here get_here (fA (get_there (by omega) get_here) (get_there (by omega) get_here) (fA (gt2 (by omega) get_here) (gt3 (by omega) get_here) fan)))) ?_
             refine RA.ret env_ok ?_
             refine ⟨.inr rfl, [(.agg ⟨(xCp48 d)⟩)], (resL_cons (res_cellA rfl rfl rfl get_here rfl rfl rfl) resL_nil), (congrArg (fun z => Value.agg ⟨cChk z⟩) (pl_8 (by have := kd_cases d.typ; omega)).symm), (kc3 (by omega))⟩
            ·
             refine oP 89 yF rfl (Eq.trans (r_bin rfl rfl rfl (b_eql rfl)) (dF hc12)) <| OA.ps [(87, yF)] rfl <| OA.nil fun _ => RA.condF rfl <| RA.region env_ok ?_
             by_cases hc13 : d.typ = 14
             ·
              refine oP 90 yT rfl (Eq.trans (r_bin rfl rfl rfl (b_eql rfl)) (dT hc13)) <| OA.ps [(87, yT)] rfl <| OA.nil fun _ => RA.condT rfl <| RA.skip env_ok ?_
              intro _
              refine RA.sR hd env_ok <| oP 102 (.agg ⟨(xCp48 d)⟩) rfl (r_loadA rfl rfl rfl rfl get_here rfl rfl rfl) <| o1 none yU (n + 3) ((n + 1), some ⟨[(xCp48 d)], 15, 53, true⟩) (rS (get_there (by omega) get_here)) <| OA.nil fun _ => RA.weaken hd (LsO (fA get_here get_here (fA (get_there (by omega) get_here) (get_there (by omega) get_here) (fA (gt2 (by omega) get_here) (gt3 (by omega) get_here) fan)))) ?_
              refine RA.ret env_ok ?_
              refine ⟨.inr rfl, [(.agg ⟨(xCp48 d)⟩)], (resL_cons (res_cellA rfl rfl rfl get_here rfl rfl rfl) resL_nil), (congrArg (fun z => Value.agg ⟨cChk z⟩) (pl_8 (by have := kd_cases d.typ; omega)).symm), (kc3 (by omega))⟩
             ·
              refine oP 90 yF rfl (Eq.trans (r_bin rfl rfl rfl (b_eql rfl)) (dF hc13)) <| OA.ps [(87, yF)] rfl <| OA.nil fun _ => RA.condF rfl <| RA.sR hd env_ok ?_
              by_cases hc14 : d.typ = 15
              ·
               refine oP 92 yT rfl (Eq.trans (r_bin rfl rfl rfl (b_eql rfl)) (dT hc14)) <| OA.ps [(91, yT)] rfl <| OA.nil fun _ => RA.condT rfl <| RA.par (md := [some [], some [n], some [], some [n], some [], some [n], some [], none, some [], none, some [], none]) env_ok (hd.of (by omega) (kb3 (by omega))) (by kernel_rfl) <| PQ.ps [(93, (Pt n 0 3))] rfl <| pQl 94 (.int .i64 d.stream) (gt2 (by omega) get_here) <| PQ.ps [(95, (Pt n 0 4))] rfl <| pQl 96 (.int .i64 d.ssn) (gt2 (by omega) get_here) <| PQ.ps [(97, (Pt n 0 6))] rfl <| pQl 98 (.string d.data) (gt2 (by omega) get_here) ?_
               refine PQ.ps [(99, (.pointer (some ⟨(n + 2), 0, some 3⟩)))] rfl <| PQ.op (dst := none) (v := (.tuple #[])) (n1 := (n + 3)) (d1 := [((n + 2), some ⟨[(xCp43 d)], 15, 53, true⟩)]) rfl rfl rfl _ (sA (V := []) (by kernel_rfl) (by kernel_rfl)) (rS get_here) (by omega) (kp1 (wr_old [2, 3, 4, 5] (by kernel_rfl) (by omega) (by omega) (fac (lo0 rfl) (fac (lo1 rfl (by omega)) (fac (lo0 rfl) (fac (lo1 rfl (by omega)) fan)))))) <| PQ.ps [(100, (.pointer (some ⟨(n + 2), 0, some 4⟩)))] rfl <| PQ.op (dst := none) (v := (.tuple #[])) (n1 := (n + 3)) (d1 := [((n + 2), some ⟨[(xCp41 d)], 15, 53, true⟩)]) rfl rfl rfl _ (sA (V := [((n + 2), some ⟨[(xCp43 d)], 15, 53, true⟩)]) (by kernel_rfl) (by kernel_rfl)) (rS get_here) (by omega) (kp1 (wr_late [4, 5] (by kernel_rfl) (by kernel_rfl) (by omega) 7 (by kernel_rfl) (by simp [keys]) (fac (lo0 rfl) (fac (lo1 rfl (by omega)) fan)))) <| PQ.ps [(101, (.pointer (some ⟨(n + 2), 0, some 6⟩)))] rfl <| PQ.op (dst := none) (v := (.tuple #[])) (n1 := (n + 3)) (d1 := [((n + 2), some ⟨[(xCp47 d)], 15, 53, true⟩)]) rfl rfl rfl _ (sA (V := [((n + 2), some ⟨[(xCp41 d)], 15, 53, true⟩), ((n + 2), some ⟨[(xCp43 d)], 15, 53, true⟩)]) (by kernel_rfl) (by kernel_rfl)) (rS get_here) (by omega) (kp1 (wr_tight (by kernel_rfl) (by omega))) <| PQ.done (d := [((n + 2), some ⟨[(xCp47 d)], 15, 53, true⟩), ((n + 2), some ⟨[(xCp41 d)], 15, 53, true⟩), ((n + 2), some ⟨[(xCp43 d)], 15, 53, true⟩)]) (by kernel_rfl) fun _ => RA.weaken hd (LsO (fA get_here get_here (fA (get_there (by omega) get_here) (gt4 (by omega) get_here) (fA (gt2 (by omega) get_here) (gt5 (by omega) get_here) fan)))) <| RA.rb [(0, (.agg ⟨(cChk d)⟩)), (1, (Pt n 0 0)), (2, (.pointer (some ⟨(n + 1), 0, some 0⟩))), (3, (.pointer (some ⟨(n + 2), 0, some 0⟩))), (10, (.int .i64 d.typ)), (14, yF), (31, yF), (52, yF), (66, yF), (72, yF), (77, yF), (87, yF), (91, yT)] rfl (fun τr9 => ?_)
               refine RA.sR hd env_ok <| oP 102 (.agg ⟨(xCp47 d)⟩) rfl (r_loadA rfl rfl rfl rfl get_here rfl rfl rfl) <| o1 none yU (n + 3) ((n + 1), some ⟨[(xCp47 d)], 15, 53, true⟩) (rS (get_there (by omega) get_here)) <| OA.nil fun _ => RA.weaken hd (LsO (fA get_here get_here (fA (get_there (by omega) get_here) (get_there (by omega) get_here) (fA (gt2 (by omega) get_here) (gt3 (by omega) get_here) fan)))) ?_
               refine RA.ret env_ok ?_
               refine ⟨.inr rfl, [(.agg ⟨(xCp47 d)⟩)], (resL_cons (res_cellA rfl rfl rfl get_here rfl rfl rfl) resL_nil), (congrArg (fun z => Value.agg ⟨cChk z⟩) (pl_15 (by have := kd_cases d.typ; omega)).symm), (kc3 (by omega))⟩
              ·
               refine oP 92 yF rfl (Eq.trans (r_bin rfl rfl rfl (b_eql rfl)) (dF hc14)) <| OA.ps [(91, yF)] rfl <| OA.nil fun _ => RA.condF rfl <| RA.region env_ok <| OA.ps [(11, (Pt n 0 6))] rfl <| oL 12 (.string d.data) (gt2 (by omega) get_here) <| OA.ps [(13, (.pointer (some ⟨(n + 2), 0, some 6⟩)))] rfl <| o1 none yU (n + 3) ((n + 2), some ⟨[(xCp416 d)], 15, 53, true⟩) (rS get_here) <| OA.nil fun _ => RA.weaken hd (LsO (fA get_here get_here (fA (get_there (by omega) get_here) (gt2 (by omega) get_here) (fA (gt2 (by omega) get_here) (gt3 (by omega) get_here) fan)))) ?_
               refine RA.sR hd env_ok <| oP 102 (.agg ⟨(xCp416 d)⟩) rfl (r_loadA rfl rfl rfl rfl get_here rfl rfl rfl) <| o1 none yU (n + 3) ((n + 1), some ⟨[(xCp416 d)], 15, 53, true⟩) (rS (get_there (by omega) get_here)) <| OA.nil fun _ => RA.weaken hd (LsO (fA get_here get_here (fA (get_there (by omega) get_here) (get_there (by omega) get_here) (fA (gt2 (by omega) get_here) (gt3 (by omega) get_here) fan)))) ?_
               refine RA.ret env_ok ?_
               refine ⟨.inr rfl, [(.agg ⟨(xCp416 d)⟩)], (resL_cons (res_cellA rfl rfl rfl get_here rfl rfl rfl) resL_nil), (by rcases (show kd d.typ = 4 ∨ kd d.typ = 10 ∨ kd d.typ = 20 from by have := kd_cases d.typ; omega) with h1 | h1 | h1 <;> first | exact congrArg (fun z => Value.agg ⟨cChk z⟩) (pl_4 h1).symm | exact congrArg (fun z => Value.agg ⟨cChk z⟩) (pl_10 h1).symm | exact congrArg (fun z => Value.agg ⟨cChk z⟩) (pl_20 h1).symm), (kc3 (by omega))⟩
end Go.Proofs.Ytgajcmanompmcaa.Vt
/- Cp5: walks through functions of the program, by the calculus; written by a program of this workplace. -/
namespace Go.Proofs.Ytgajcmanompmcaa.Vt
open Go Go.Proofs Go.Proofs.YtgajcmanompmcaaV
set_option maxRecDepth 100000
set_option linter.unusedVariables false
set_option linter.unusedSimpArgs false
set_option maxHeartbeats 8000000
def sameB (d e : Chk) : Bool := (((((((((((((decide ((d.tsn.toNat : Int) = (e.tsn.toNat : Int))) && (decide (d.stream = e.stream))) && (decide (d.ssn = e.ssn))) && (decide ((d.proto.toNat : Int) = (e.proto.toNat : Int)))) && (decide (d.data = e.data))) && (decide ((d.tag.toNat : Int) = (e.tag.toNat : Int)))) && (decide ((d.rwnd.toNat : Int) = (e.rwnd.toNat : Int)))) && (decide (d.outs = e.outs))) && (decide (d.ins = e.ins))) && (decide (((d.ps.length : Nat) : Int) = ((e.ps.length : Nat) : Int)))) && (decide (((d.cs.length : Nat) : Int) = ((e.cs.length : Nat) : Int)))) && (decide (((d.gs.length : Nat) : Int) = ((e.gs.length : Nat) : Int)))) && (decide (((d.ds.length : Nat) : Int) = ((e.ds.length : Nat) : Int))))
theorem c_w (p : Prop) [Decidable p] (x : BitVec 32) : (x = if p then x else 0#32) ↔ (p ∨ x.toNat = 0) := by
  by_cases h : p
  · rw [if_pos h]; exact ⟨fun _ => .inl h, fun _ => rfl⟩
  · rw [if_neg h]; exact ⟨fun e => .inr (by rw [e]; rfl), fun q => BitVec.eq_of_toNat_eq (q.resolve_left h)⟩
theorem c_i (p : Prop) [Decidable p] (x : Int) : (x = if p then x else 0) ↔ (p ∨ x = 0) := by
  by_cases h : p
  · rw [if_pos h]; exact ⟨fun _ => .inl h, fun _ => rfl⟩
  · rw [if_neg h]; exact ⟨fun e => .inr e, fun q => q.resolve_left h⟩
theorem c_s (p : Prop) [Decidable p] (x : ByteArray) : (x = if p then x else ByteArray.empty) ↔ (p ∨ x.size = 0) := by
  by_cases h : p
  · rw [if_pos h]; exact ⟨fun _ => .inl h, fun _ => rfl⟩
  · rw [if_neg h]; exact ⟨fun e => .inr (by rw [e]; rfl), fun q => sz0 (q.resolve_left h)⟩
theorem c_l {α : Type} (p : Prop) [Decidable p] (x : List α) : (((x.length : Nat) : Int) = (((if p then x else []).length : Nat) : Int)) ↔ (p ∨ x.length = 0) := by
  by_cases h : p
  · rw [if_pos h]; exact ⟨fun _ => .inl h, fun _ => rfl⟩
  · rw [if_neg h]; exact ⟨fun e => .inr (by have : (([] : List α).length : Int) = 0 := rfl; omega), fun q => by have := q.resolve_left h; rw [this]; rfl⟩
theorem c_n (p : Prop) [Decidable p] (x : BitVec 32) : (((x.toNat : Nat) : Int) = (((if p then x else 0#32).toNat : Nat) : Int)) ↔ (p ∨ x.toNat = 0) := by
  by_cases h : p
  · rw [if_pos h]; exact ⟨fun _ => .inl h, fun _ => rfl⟩
  · rw [if_neg h]; exact ⟨fun e => .inr (by have : ((0#32).toNat : Int) = 0 := rfl; omega), fun q => by have := q.resolve_left h; rw [this]; rfl⟩
theorem same_plain (d : Chk) : sameB d (plainD d) = true ↔ hasntP d := by
  unfold sameB hasntP plainD plainQ
  simp only [Bool.and_eq_true, decide_eq_true_eq, and_assoc]
  simp only [c_w, c_i, c_s, c_l, c_n]
  constructor
  · rintro ⟨a1, a2, a3, a4, a5, a6, a7, a8, a9, a10, a11, a12, a13⟩
    exact ⟨by simpa only [or_assoc] using a1, by simpa only [or_assoc] using a2, by simpa only [or_assoc] using a3, a4, by simpa only [or_assoc] using a5, a6, a8, a9, by simpa only [or_assoc] using a7, by simpa only [or_assoc] using a10, a11, a12, a13⟩
  · rintro ⟨a1, a2, a3, a4, a5, a6, a8, a9, a7, a10, a11, a12, a13⟩
    exact ⟨by simpa only [or_assoc] using a1, by simpa only [or_assoc] using a2, by simpa only [or_assoc] using a3, a4, by simpa only [or_assoc] using a5, a6, by simpa only [or_assoc] using a7, a8, a9, by simpa only [or_assoc] using a10, a11, a12, a13⟩
abbrev xCp51 (e : Chk) : List Value := [(.int .i64 e.typ), (.int .i64 e.flags), (W e.tsn), (.int .i64 e.stream), (.int .i64 e.ssn), (W e.proto), (.string e.data), (W e.tag), (W e.rwnd), (.int .i64 e.outs), (.int .i64 e.ins), e.pv, e.cv, e.gv, e.dv]
theorem sSame {σ : Store} (d e : Chk)  (h : gd σ d) (he : gd σ e) : PS Try.prog noDen 84 [(.agg ⟨(cChk d)⟩), (.agg ⟨[(.int .i64 e.typ), (.int .i64 e.flags), (W e.tsn), (.int .i64 e.stream), (.int .i64 e.ssn), (W e.proto), (.string e.data), (W e.tag), (W e.rwnd), (.int .i64 e.outs), (.int .i64 e.ins), e.pv, e.cv, e.gv, e.dv]⟩)] σ (.bool (sameB d e)) := by
 refine PS.body (E := env) env_ok rfl rfl (by show _ ≤ _; exact of_decide_eq_true (by kernel_rfl)) (fun n hd => ?_)
 refine RA.sR hd env_ok <| o1 (some 2) (Pt n 0 0) (n + 1) (n, some ⟨[(cChk d)], 15, 53, true⟩) (r_box (cs := (cChk d)) rfl rfl rfl (Nat.le_of_ble_eq_true rfl) (by simp only [List.all_cons, List.all_nil, Bool.and_true, Bool.and_eq_true, cChk]; exact ⟨rfl, rfl, rfl, rfl, rfl, rfl, rfl, rfl, rfl, rfl, rfl, (h.hp).one, (h.hc).one, (h.hg).one, (h.hu).one⟩)) <| o1 (some 3) (.pointer (some ⟨(n + 1), 0, some 0⟩)) (n + 2) ((n + 1), some ⟨[(xCp51 e)], 15, 53, true⟩) (r_box (cs := (xCp51 e)) rfl rfl rfl (Nat.le_of_ble_eq_true rfl) (by simp only [List.all_cons, List.all_nil, Bool.and_true, Bool.and_eq_true]; exact ⟨rfl, rfl, rfl, rfl, rfl, rfl, rfl, rfl, rfl, rfl, rfl, (he.hp).one, (he.hc).one, (he.hg).one, (he.hu).one⟩)) <| OA.ps [(4, yF)] rfl <| OA.nil fun _ => RA.sR hd env_ok <| OA.ps [(5, (Pt n 0 2))] rfl <| oL 6 (W d.tsn) (get_there (by omega) get_here) <| OA.ps [(7, (.pointer (some ⟨(n + 1), 0, some 2⟩)))] rfl <| oL 8 (W e.tsn) get_here ?_
 obtain ⟨b1, hb1⟩ : ∃ b_ : Bool, (decide ((d.tsn.toNat : Int) = (e.tsn.toNat : Int))) = b_ := ⟨_, rfl⟩
 refine oP 9 (.bool b1) rfl (Eq.trans (r_bin rfl rfl rfl (b_eql rfl)) (by rw [hb1])) <| OA.ps [(10, (.bool b1))] rfl <| oB b1 11 (Pt n 0 3) (by cases b1 <;> rfl) rfl (fun hb_ => by cases b1 <;> first | exact Bool.noConfusion hb_ | exact rfl) <| oB b1 12 (.int .i64 d.stream) (by cases b1 <;> rfl) rfl (fun hb_ => by cases b1 <;> first | exact Bool.noConfusion hb_ | exact (rG (get_there (by omega) get_here) rfl rfl)) <| oB b1 13 (.pointer (some ⟨(n + 1), 0, some 3⟩)) (by cases b1 <;> rfl) rfl (fun hb_ => by cases b1 <;> first | exact Bool.noConfusion hb_ | exact rfl) <| oB b1 14 (.int .i64 e.stream) (by cases b1 <;> rfl) rfl (fun hb_ => by cases b1 <;> first | exact Bool.noConfusion hb_ | exact (rG get_here rfl rfl)) ?_
 obtain ⟨b2, hb2⟩ : ∃ b_ : Bool, (decide (d.stream = e.stream)) = b_ := ⟨_, rfl⟩
 refine oB b1 15 (.bool b2) (by cases b1 <;> rfl) rfl (fun hb_ => by cases b1 <;> first | exact Bool.noConfusion hb_ | exact (Eq.trans (r_bin rfl rfl rfl (b_eql rfl)) (by rw [hb2]))) ?_
 obtain ⟨b3, hb3⟩ : ∃ b_ : Bool, (b1 && b2) = b_ := ⟨_, rfl⟩
 refine oP 16 (.bool b3) rfl (by rw [← hb3]; cases b1 <;> rfl) <| OA.ps [(17, (.bool b3))] rfl <| oB b3 18 (Pt n 0 4) (by cases b3 <;> rfl) rfl (fun hb_ => by cases b3 <;> first | exact Bool.noConfusion hb_ | exact rfl) <| oB b3 19 (.int .i64 d.ssn) (by cases b3 <;> rfl) rfl (fun hb_ => by cases b3 <;> first | exact Bool.noConfusion hb_ | exact (rG (get_there (by omega) get_here) rfl rfl)) <| oB b3 20 (.pointer (some ⟨(n + 1), 0, some 4⟩)) (by cases b3 <;> rfl) rfl (fun hb_ => by cases b3 <;> first | exact Bool.noConfusion hb_ | exact rfl) <| oB b3 21 (.int .i64 e.ssn) (by cases b3 <;> rfl) rfl (fun hb_ => by cases b3 <;> first | exact Bool.noConfusion hb_ | exact (rG get_here rfl rfl)) ?_
 obtain ⟨b4, hb4⟩ : ∃ b_ : Bool, (decide (d.ssn = e.ssn)) = b_ := ⟨_, rfl⟩
 refine oB b3 22 (.bool b4) (by cases b3 <;> rfl) rfl (fun hb_ => by cases b3 <;> first | exact Bool.noConfusion hb_ | exact (Eq.trans (r_bin rfl rfl rfl (b_eql rfl)) (by rw [hb4]))) ?_
 obtain ⟨b5, hb5⟩ : ∃ b_ : Bool, (b3 && b4) = b_ := ⟨_, rfl⟩
 refine oP 23 (.bool b5) rfl (by rw [← hb5]; cases b3 <;> rfl) <| OA.ps [(24, (.bool b5))] rfl <| oB b5 25 (Pt n 0 5) (by cases b5 <;> rfl) rfl (fun hb_ => by cases b5 <;> first | exact Bool.noConfusion hb_ | exact rfl) <| oB b5 26 (W d.proto) (by cases b5 <;> rfl) rfl (fun hb_ => by cases b5 <;> first | exact Bool.noConfusion hb_ | exact (rG (get_there (by omega) get_here) rfl rfl)) <| oB b5 27 (.pointer (some ⟨(n + 1), 0, some 5⟩)) (by cases b5 <;> rfl) rfl (fun hb_ => by cases b5 <;> first | exact Bool.noConfusion hb_ | exact rfl) <| oB b5 28 (W e.proto) (by cases b5 <;> rfl) rfl (fun hb_ => by cases b5 <;> first | exact Bool.noConfusion hb_ | exact (rG get_here rfl rfl)) ?_
 obtain ⟨b6, hb6⟩ : ∃ b_ : Bool, (decide ((d.proto.toNat : Int) = (e.proto.toNat : Int))) = b_ := ⟨_, rfl⟩
 refine oB b5 29 (.bool b6) (by cases b5 <;> rfl) rfl (fun hb_ => by cases b5 <;> first | exact Bool.noConfusion hb_ | exact (Eq.trans (r_bin rfl rfl rfl (b_eql rfl)) (by rw [hb6]))) ?_
 obtain ⟨b7, hb7⟩ : ∃ b_ : Bool, (b5 && b6) = b_ := ⟨_, rfl⟩
 refine oP 30 (.bool b7) rfl (by rw [← hb7]; cases b5 <;> rfl) <| OA.ps [(31, (.bool b7))] rfl <| oB b7 32 (Pt n 0 6) (by cases b7 <;> rfl) rfl (fun hb_ => by cases b7 <;> first | exact Bool.noConfusion hb_ | exact rfl) <| oB b7 33 (.string d.data) (by cases b7 <;> rfl) rfl (fun hb_ => by cases b7 <;> first | exact Bool.noConfusion hb_ | exact (rG (get_there (by omega) get_here) rfl rfl)) <| oB b7 34 (.pointer (some ⟨(n + 1), 0, some 6⟩)) (by cases b7 <;> rfl) rfl (fun hb_ => by cases b7 <;> first | exact Bool.noConfusion hb_ | exact rfl) <| oB b7 35 (.string e.data) (by cases b7 <;> rfl) rfl (fun hb_ => by cases b7 <;> first | exact Bool.noConfusion hb_ | exact (rG get_here rfl rfl)) ?_
 obtain ⟨b8, hb8⟩ : ∃ b_ : Bool, (decide (d.data = e.data)) = b_ := ⟨_, rfl⟩
 refine oB b7 36 (.bool b8) (by cases b7 <;> rfl) rfl (fun hb_ => by cases b7 <;> first | exact Bool.noConfusion hb_ | exact (Eq.trans (r_eqlS rfl rfl rfl) (by rw [hb8]))) ?_
 obtain ⟨b9, hb9⟩ : ∃ b_ : Bool, (b7 && b8) = b_ := ⟨_, rfl⟩
 refine oP 37 (.bool b9) rfl (by rw [← hb9]; cases b7 <;> rfl) <| OA.ps [(38, (.bool b9))] rfl <| oB b9 39 (Pt n 0 7) (by cases b9 <;> rfl) rfl (fun hb_ => by cases b9 <;> first | exact Bool.noConfusion hb_ | exact rfl) <| oB b9 40 (W d.tag) (by cases b9 <;> rfl) rfl (fun hb_ => by cases b9 <;> first | exact Bool.noConfusion hb_ | exact (rG (get_there (by omega) get_here) rfl rfl)) <| oB b9 41 (.pointer (some ⟨(n + 1), 0, some 7⟩)) (by cases b9 <;> rfl) rfl (fun hb_ => by cases b9 <;> first | exact Bool.noConfusion hb_ | exact rfl) <| oB b9 42 (W e.tag) (by cases b9 <;> rfl) rfl (fun hb_ => by cases b9 <;> first | exact Bool.noConfusion hb_ | exact (rG get_here rfl rfl)) ?_
 obtain ⟨b10, hb10⟩ : ∃ b_ : Bool, (decide ((d.tag.toNat : Int) = (e.tag.toNat : Int))) = b_ := ⟨_, rfl⟩
 refine oB b9 43 (.bool b10) (by cases b9 <;> rfl) rfl (fun hb_ => by cases b9 <;> first | exact Bool.noConfusion hb_ | exact (Eq.trans (r_bin rfl rfl rfl (b_eql rfl)) (by rw [hb10]))) ?_
 obtain ⟨b11, hb11⟩ : ∃ b_ : Bool, (b9 && b10) = b_ := ⟨_, rfl⟩
 refine oP 44 (.bool b11) rfl (by rw [← hb11]; cases b9 <;> rfl) <| OA.ps [(45, (.bool b11))] rfl <| oB b11 46 (Pt n 0 8) (by cases b11 <;> rfl) rfl (fun hb_ => by cases b11 <;> first | exact Bool.noConfusion hb_ | exact rfl) <| oB b11 47 (W d.rwnd) (by cases b11 <;> rfl) rfl (fun hb_ => by cases b11 <;> first | exact Bool.noConfusion hb_ | exact (rG (get_there (by omega) get_here) rfl rfl)) <| oB b11 48 (.pointer (some ⟨(n + 1), 0, some 8⟩)) (by cases b11 <;> rfl) rfl (fun hb_ => by cases b11 <;> first | exact Bool.noConfusion hb_ | exact rfl) <| oB b11 49 (W e.rwnd) (by cases b11 <;> rfl) rfl (fun hb_ => by cases b11 <;> first | exact Bool.noConfusion hb_ | exact (rG get_here rfl rfl)) ?_
 obtain ⟨b12, hb12⟩ : ∃ b_ : Bool, (decide ((d.rwnd.toNat : Int) = (e.rwnd.toNat : Int))) = b_ := ⟨_, rfl⟩
 refine oB b11 50 (.bool b12) (by cases b11 <;> rfl) rfl (fun hb_ => by cases b11 <;> first | exact Bool.noConfusion hb_ | exact (Eq.trans (r_bin rfl rfl rfl (b_eql rfl)) (by rw [hb12]))) ?_
 obtain ⟨b13, hb13⟩ : ∃ b_ : Bool, (b11 && b12) = b_ := ⟨_, rfl⟩
 refine oP 51 (.bool b13) rfl (by rw [← hb13]; cases b11 <;> rfl) <| OA.ps [(52, (.bool b13))] rfl <| oB b13 53 (Pt n 0 9) (by cases b13 <;> rfl) rfl (fun hb_ => by cases b13 <;> first | exact Bool.noConfusion hb_ | exact rfl) <| oB b13 54 (.int .i64 d.outs) (by cases b13 <;> rfl) rfl (fun hb_ => by cases b13 <;> first | exact Bool.noConfusion hb_ | exact (rG (get_there (by omega) get_here) rfl rfl)) <| oB b13 55 (.pointer (some ⟨(n + 1), 0, some 9⟩)) (by cases b13 <;> rfl) rfl (fun hb_ => by cases b13 <;> first | exact Bool.noConfusion hb_ | exact rfl) <| oB b13 56 (.int .i64 e.outs) (by cases b13 <;> rfl) rfl (fun hb_ => by cases b13 <;> first | exact Bool.noConfusion hb_ | exact (rG get_here rfl rfl)) ?_
 obtain ⟨b14, hb14⟩ : ∃ b_ : Bool, (decide (d.outs = e.outs)) = b_ := ⟨_, rfl⟩
 refine oB b13 57 (.bool b14) (by cases b13 <;> rfl) rfl (fun hb_ => by cases b13 <;> first | exact Bool.noConfusion hb_ | exact (Eq.trans (r_bin rfl rfl rfl (b_eql rfl)) (by rw [hb14]))) ?_
 obtain ⟨b15, hb15⟩ : ∃ b_ : Bool, (b13 && b14) = b_ := ⟨_, rfl⟩
 refine oP 58 (.bool b15) rfl (by rw [← hb15]; cases b13 <;> rfl) <| OA.ps [(59, (.bool b15))] rfl <| oB b15 60 (Pt n 0 10) (by cases b15 <;> rfl) rfl (fun hb_ => by cases b15 <;> first | exact Bool.noConfusion hb_ | exact rfl) <| oB b15 61 (.int .i64 d.ins) (by cases b15 <;> rfl) rfl (fun hb_ => by cases b15 <;> first | exact Bool.noConfusion hb_ | exact (rG (get_there (by omega) get_here) rfl rfl)) <| oB b15 62 (.pointer (some ⟨(n + 1), 0, some 10⟩)) (by cases b15 <;> rfl) rfl (fun hb_ => by cases b15 <;> first | exact Bool.noConfusion hb_ | exact rfl) <| oB b15 63 (.int .i64 e.ins) (by cases b15 <;> rfl) rfl (fun hb_ => by cases b15 <;> first | exact Bool.noConfusion hb_ | exact (rG get_here rfl rfl)) ?_
 obtain ⟨b16, hb16⟩ : ∃ b_ : Bool, (decide (d.ins = e.ins)) = b_ := ⟨_, rfl⟩
 refine oB b15 64 (.bool b16) (by cases b15 <;> rfl) rfl (fun hb_ => by cases b15 <;> first | exact Bool.noConfusion hb_ | exact (Eq.trans (r_bin rfl rfl rfl (b_eql rfl)) (by rw [hb16]))) ?_
 obtain ⟨b17, hb17⟩ : ∃ b_ : Bool, (b15 && b16) = b_ := ⟨_, rfl⟩
 refine oP 65 (.bool b17) rfl (by rw [← hb17]; cases b15 <;> rfl) <| OA.ps [(66, (.bool b17))] rfl <| oB b17 67 (Pt n 0 11) (by cases b17 <;> rfl) rfl (fun hb_ => by cases b17 <;> first | exact Bool.noConfusion hb_ | exact rfl) <| oB b17 68 d.pv (by cases b17 <;> rfl) rfl (fun hb_ => by cases b17 <;> first | exact Bool.noConfusion hb_ | exact (rG (get_there (by omega) get_here) rfl rfl)) <| oB b17 69 (.int .i64 ((d.ps.length : Nat) : Int)) (by cases b17 <;> rfl) rfl (fun hb_ => by cases b17 <;> first | exact Bool.noConfusion hb_ | exact (r_lenQ (c := cPrm) rfl rfl rfl rfl rfl rfl h.hp rfl)) <| oB b17 70 (.pointer (some ⟨(n + 1), 0, some 11⟩)) (by cases b17 <;> rfl) rfl (fun hb_ => by cases b17 <;> first | exact Bool.noConfusion hb_ | exact rfl) <| oB b17 71 e.pv (by cases b17 <;> rfl) rfl (fun hb_ => by cases b17 <;> first | exact Bool.noConfusion hb_ | exact (rG get_here rfl rfl)) <| oB b17 72 (.int .i64 ((e.ps.length : Nat) : Int)) (by cases b17 <;> rfl) rfl (fun hb_ => by cases b17 <;> first | exact Bool.noConfusion hb_ | exact (r_lenQ (c := cPrm) rfl rfl rfl rfl rfl rfl he.hp rfl)) ?_
 obtain ⟨b18, hb18⟩ : ∃ b_ : Bool, (decide (((d.ps.length : Nat) : Int) = ((e.ps.length : Nat) : Int))) = b_ := ⟨_, rfl⟩
 refine oB b17 73 (.bool b18) (by cases b17 <;> rfl) rfl (fun hb_ => by cases b17 <;> first | exact Bool.noConfusion hb_ | exact (Eq.trans (r_bin rfl rfl rfl (b_eql rfl)) (by rw [hb18]))) ?_
 obtain ⟨b19, hb19⟩ : ∃ b_ : Bool, (b17 && b18) = b_ := ⟨_, rfl⟩
 refine oP 74 (.bool b19) rfl (by rw [← hb19]; cases b17 <;> rfl) <| OA.ps [(75, (.bool b19))] rfl <| oB b19 76 (Pt n 0 12) (by cases b19 <;> rfl) rfl (fun hb_ => by cases b19 <;> first | exact Bool.noConfusion hb_ | exact rfl) <| oB b19 77 d.cv (by cases b19 <;> rfl) rfl (fun hb_ => by cases b19 <;> first | exact Bool.noConfusion hb_ | exact (rG (get_there (by omega) get_here) rfl rfl)) <| oB b19 78 (.int .i64 ((d.cs.length : Nat) : Int)) (by cases b19 <;> rfl) rfl (fun hb_ => by cases b19 <;> first | exact Bool.noConfusion hb_ | exact (r_lenQ (c := cCau) rfl rfl rfl rfl rfl rfl h.hc rfl)) <| oB b19 79 (.pointer (some ⟨(n + 1), 0, some 12⟩)) (by cases b19 <;> rfl) rfl (fun hb_ => by cases b19 <;> first | exact Bool.noConfusion hb_ | exact rfl) <| oB b19 80 e.cv (by cases b19 <;> rfl) rfl (fun hb_ => by cases b19 <;> first | exact Bool.noConfusion hb_ | exact (rG get_here rfl rfl)) <| oB b19 81 (.int .i64 ((e.cs.length : Nat) : Int)) (by cases b19 <;> rfl) rfl (fun hb_ => by cases b19 <;> first | exact Bool.noConfusion hb_ | exact (r_lenQ (c := cCau) rfl rfl rfl rfl rfl rfl he.hc rfl)) ?_
 obtain ⟨b20, hb20⟩ : ∃ b_ : Bool, (decide (((d.cs.length : Nat) : Int) = ((e.cs.length : Nat) : Int))) = b_ := ⟨_, rfl⟩
 refine oB b19 82 (.bool b20) (by cases b19 <;> rfl) rfl (fun hb_ => by cases b19 <;> first | exact Bool.noConfusion hb_ | exact (Eq.trans (r_bin rfl rfl rfl (b_eql rfl)) (by rw [hb20]))) ?_
 obtain ⟨b21, hb21⟩ : ∃ b_ : Bool, (b19 && b20) = b_ := ⟨_, rfl⟩
 refine oP 83 (.bool b21) rfl (by rw [← hb21]; cases b19 <;> rfl) <| OA.ps [(84, (.bool b21))] rfl <| oB b21 85 (Pt n 0 13) (by cases b21 <;> rfl) rfl (fun hb_ => by cases b21 <;> first | exact Bool.noConfusion hb_ | exact rfl) <| oB b21 86 d.gv (by cases b21 <;> rfl) rfl (fun hb_ => by cases b21 <;> first | exact Bool.noConfusion hb_ | exact (rG (get_there (by omega) get_here) rfl rfl)) <| oB b21 87 (.int .i64 ((d.gs.length : Nat) : Int)) (by cases b21 <;> rfl) rfl (fun hb_ => by cases b21 <;> first | exact Bool.noConfusion hb_ | exact (r_lenQ (c := cGp) rfl rfl rfl rfl rfl rfl h.hg rfl)) <| oB b21 88 (.pointer (some ⟨(n + 1), 0, some 13⟩)) (by cases b21 <;> rfl) rfl (fun hb_ => by cases b21 <;> first | exact Bool.noConfusion hb_ | exact rfl) <| oB b21 89 e.gv (by cases b21 <;> rfl) rfl (fun hb_ => by cases b21 <;> first | exact Bool.noConfusion hb_ | exact (rG get_here rfl rfl)) <| oB b21 90 (.int .i64 ((e.gs.length : Nat) : Int)) (by cases b21 <;> rfl) rfl (fun hb_ => by cases b21 <;> first | exact Bool.noConfusion hb_ | exact (r_lenQ (c := cGp) rfl rfl rfl rfl rfl rfl he.hg rfl)) ?_
 obtain ⟨b22, hb22⟩ : ∃ b_ : Bool, (decide (((d.gs.length : Nat) : Int) = ((e.gs.length : Nat) : Int))) = b_ := ⟨_, rfl⟩
 refine oB b21 91 (.bool b22) (by cases b21 <;> rfl) rfl (fun hb_ => by cases b21 <;> first | exact Bool.noConfusion hb_ | exact (Eq.trans (r_bin rfl rfl rfl (b_eql rfl)) (by rw [hb22]))) ?_
 obtain ⟨b23, hb23⟩ : ∃ b_ : Bool, (b21 && b22) = b_ := ⟨_, rfl⟩
 refine oP 92 (.bool b23) rfl (by rw [← hb23]; cases b21 <;> rfl) <| OA.ps [(93, (.bool b23))] rfl <| oB b23 94 (Pt n 0 14) (by cases b23 <;> rfl) rfl (fun hb_ => by cases b23 <;> first | exact Bool.noConfusion hb_ | exact rfl) <| oB b23 95 d.dv (by cases b23 <;> rfl) rfl (fun hb_ => by cases b23 <;> first | exact Bool.noConfusion hb_ | exact (rG (get_there (by omega) get_here) rfl rfl)) <| oB b23 96 (.int .i64 ((d.ds.length : Nat) : Int)) (by cases b23 <;> rfl) rfl (fun hb_ => by cases b23 <;> first | exact Bool.noConfusion hb_ | exact (r_lenQ (c := cDp) rfl rfl rfl rfl rfl rfl h.hu rfl)) <| oB b23 97 (.pointer (some ⟨(n + 1), 0, some 14⟩)) (by cases b23 <;> rfl) rfl (fun hb_ => by cases b23 <;> first | exact Bool.noConfusion hb_ | exact rfl) <| oB b23 98 e.dv (by cases b23 <;> rfl) rfl (fun hb_ => by cases b23 <;> first | exact Bool.noConfusion hb_ | exact (rG get_here rfl rfl)) <| oB b23 99 (.int .i64 ((e.ds.length : Nat) : Int)) (by cases b23 <;> rfl) rfl (fun hb_ => by cases b23 <;> first | exact Bool.noConfusion hb_ | exact (r_lenQ (c := cDp) rfl rfl rfl rfl rfl rfl he.hu rfl)) ?_
 obtain ⟨b24, hb24⟩ : ∃ b_ : Bool, (decide (((d.ds.length : Nat) : Int) = ((e.ds.length : Nat) : Int))) = b_ := ⟨_, rfl⟩
 refine oB b23 100 (.bool b24) (by cases b23 <;> rfl) rfl (fun hb_ => by cases b23 <;> first | exact Bool.noConfusion hb_ | exact (Eq.trans (r_bin rfl rfl rfl (b_eql rfl)) (by rw [hb24]))) ?_
 obtain ⟨b25, hb25⟩ : ∃ b_ : Bool, (b23 && b24) = b_ := ⟨_, rfl⟩
 refine oP 101 (.bool b25) rfl (by rw [← hb25]; cases b23 <;> rfl) <| OA.ps [(4, (.bool b25))] rfl <| OA.nil fun _ => RA.rb [(0, (.agg ⟨(cChk d)⟩)), (1, (.agg ⟨(xCp51 e)⟩)), (2, (Pt n 0 0)), (3, (.pointer (some ⟨(n + 1), 0, some 0⟩))), (4, (.bool b25))] rfl (fun τr26 => ?_)
 refine RA.ret env_ok ?_
 exact lf (.bool b25) (by subst_vars; rfl)
theorem sSameP {σ : Store} (d : Chk) (b : Bool) (hb : b = true ↔ hasntP d) (h : gd σ d) : PS Try.prog noDen 84 [.agg ⟨cChk d⟩, .agg ⟨cChk (plainD d)⟩] σ (.bool b) :=
  PS.to (sSame d (plainD d) h h.plain) (by rw [show sameB d (plainD d) = b from by rw [Bool.eq_iff_iff, same_plain, hb]])
end Go.Proofs.Ytgajcmanompmcaa.Vt
/- Cp8: walks through functions of the program, by the calculus; written by a program of this workplace. -/
namespace Go.Proofs.Ytgajcmanompmcaa.Vt
open Go Go.Proofs Go.Proofs.YtgajcmanompmcaaV
set_option maxRecDepth 100000
set_option linter.unusedVariables false
set_option linter.unusedSimpArgs false
set_option maxHeartbeats 8000000
theorem mask_and (x : BitVec 64) (k : Nat) (hk : k ≤ 8) : (x &&& ~~~BitVec.ofNat 64 (2 ^ k - 1) = 0#64) ↔ x.toNat ≤ 2 ^ k - 1 := by
  have hp : 2 ^ k ≤ 2 ^ 8 := Nat.pow_le_pow_right (by decide) hk
  have h0 : 0 < 2 ^ k := Nat.two_pow_pos k
  have hm : (BitVec.ofNat 64 (2 ^ k - 1)).toNat = 2 ^ k - 1 := by rw [BitVec.toNat_ofNat]; omega
  have e : (x &&& BitVec.ofNat 64 (2 ^ k - 1)).toNat = x.toNat % 2 ^ k := by rw [BitVec.toNat_and, hm, Nat.and_two_pow_sub_one_eq_mod]
  constructor
  · intro h
    have h1 : x &&& BitVec.ofNat 64 (2 ^ k - 1) = x := by
      apply BitVec.eq_of_getLsbD_eq
      intro i hi
      have h2 := congrArg (fun z : BitVec 64 => z.getLsbD i) h
      simp only [BitVec.getLsbD_and, BitVec.getLsbD_not, BitVec.getLsbD_zero, hi, decide_true, Bool.true_and] at h2
      simp only [BitVec.getLsbD_and]
      cases hx : x.getLsbD i <;> cases hy : (BitVec.ofNat 64 (2 ^ k - 1)).getLsbD i <;> simp_all
    have h3 := congrArg BitVec.toNat h1
    rw [e] at h3
    have := Nat.mod_lt x.toNat h0
    omega
  · intro h
    have h1 : x &&& BitVec.ofNat 64 (2 ^ k - 1) = x := BitVec.eq_of_toNat_eq (by rw [e, Nat.mod_eq_of_lt (by omega)])
    rw [← h1]
    apply BitVec.eq_of_getLsbD_eq
    intro i hi
    simp only [BitVec.getLsbD_and, BitVec.getLsbD_not, BitVec.getLsbD_zero, hi, decide_true, Bool.true_and]
    cases (BitVec.ofNat 64 (2 ^ k - 1)).getLsbD i <;> simp
theorem fl_pow (t : Int) : ∃ k, k ≤ 8 ∧ fl t = 2 ^ k - 1 := by
  rcases fl_cases t with h | h | h | h | h
  · exact ⟨3, by omega, h.1⟩
  · exact ⟨2, by omega, h.1⟩
  · exact ⟨1, by omega, h.1⟩
  · exact ⟨8, by omega, h.1⟩
  · exact ⟨0, by omega, h.1⟩
theorem ofInt_nat (f : Nat) : BitVec.ofInt 64 (f : Int) = BitVec.ofNat 64 f := by simp
theorem clr_iff {F : Int} (t : Int) (h0 : 0 ≤ F) (h1 : F < 9223372036854775808) : clrN F (fl t) = 0 ↔ F ≤ (fl t : Nat) := by
  obtain ⟨k, hk, hf⟩ := fl_pow t
  obtain ⟨f, rfl⟩ := Int.eq_ofNat_of_zero_le h0
  have hp : 2 ^ k ≤ 2 ^ 8 := Nat.pow_le_pow_right (by decide) hk
  have h2 := mask_and (BitVec.ofNat 64 f) k hk
  have e1 : (BitVec.ofNat 64 f).toNat = f := by rw [BitVec.toNat_ofNat]; omega
  have h3 : (BitVec.ofNat 64 f &&& ~~~BitVec.ofNat 64 (2 ^ k - 1)).toNat ≤ f := by
    rw [BitVec.toNat_and, e1]; exact Nat.and_le_left
  rw [e1] at h2
  unfold clrN
  rw [ofInt_nat, ofInt_nat, hf, i64_of (by omega) (by omega)]
  constructor
  · intro h
    have := h2.1 (BitVec.eq_of_toNat_eq (by rw [BitVec.toNat_ofNat]; omega))
    omega
  · intro h
    rw [h2.2 (by omega)]; rfl
theorem and_mask : ∀ f : Fin 256, ∀ k : Fin 9, (f.val &&& (255 - (2 ^ k.val - 1)) = 0) ↔ f.val ≤ 2 ^ k.val - 1 := of_decide_eq_true (by kernel_rfl)
theorem and_iff {F : Int} (t : Int) (h0 : 0 ≤ F) (h1 : F ≤ 255) : andN F (255 - fl t) = 0 ↔ F ≤ (fl t : Nat) := by
  obtain ⟨k, hk, hf⟩ := fl_pow t
  obtain ⟨f, rfl⟩ := Int.eq_ofNat_of_zero_le h0
  have h2 := and_mask ⟨f, by omega⟩ ⟨k, by omega⟩
  have e1 : (BitVec.ofNat 64 f).toNat = f := by rw [BitVec.toNat_ofNat]; omega
  have e2 : (BitVec.ofNat 64 (255 - (2 ^ k - 1))).toNat = 255 - (2 ^ k - 1) := by rw [BitVec.toNat_ofNat]; omega
  unfold andN
  rw [ofInt_nat, ofInt_nat, hf, BitVec.toNat_and, e1, e2]
  simp only at h2
  rw [h2]
  omega
theorem fl_le (t : Int) : fl t ≤ 255 := by have := fl_cases t; omega
def mayP (d : Chk) : Prop := (0 ≤ d.typ ∧ d.typ ≤ 255 ∧ 0 ≤ d.flags ∧ d.flags ≤ (fl d.typ : Nat)) ∧ bodyOk d ∧ (kd d.typ = 1 → d.tag.toNat ≠ 0) ∧ hasntP d
def chL (d : Chk) : List UInt8 := fillL (be1 d.typ.toNat ++ be1 d.flags.toNat ++ be2 ((bodyL d).length + 4) ++ bodyL d)
abbrev xCp81 (d : Chk) : List Value := [(.int .i64 d.typ), (.int .i64 d.flags), (W d.tsn), (.int .i64 d.stream), (.int .i64 d.ssn), (W d.proto), (.string d.data), (W d.tag), (W d.rwnd), (.int .i64 d.outs), (.int .i64 d.ins), d.pv, d.cv, d.gv, d.dv]
set_option maxHeartbeats 8000000 in
theorem sMay {σ : Store} (d : Chk) (b : Bool) (hb : b = true ↔ mayP d)  (h : gd σ d) : PS Try.prog noDen 48 [(.agg ⟨(cChk d)⟩)] σ (.bool b) := by
 have hp18 := h.p18
 have hc18 := h.c18
 have hg18 := h.g18
 have hd18 := h.u18
 have hfl := h.fl
 refine PS.body (E := env) env_ok rfl rfl (by show _ ≤ _; exact of_decide_eq_true (by kernel_rfl)) (fun n hd => ?_)
 refine RA.sR hd env_ok <| o1 (some 1) (Pt n 0 0) (n + 1) (n, some ⟨[(cChk d)], 15, 53, true⟩) (r_box (cs := (cChk d)) rfl rfl rfl (Nat.le_of_ble_eq_true rfl) (by simp only [List.all_cons, List.all_nil, Bool.and_true, Bool.and_eq_true, cChk]; exact ⟨rfl, rfl, rfl, rfl, rfl, rfl, rfl, rfl, rfl, rfl, rfl, (h.hp).one, (h.hc).one, (h.hg).one, (h.hu).one⟩)) <| OA.ps [(2, yF)] rfl <| OA.nil fun _ => RA.seq hd <| RA.seq hd <| RA.par (md := [some [], some [n], some [], some [], some [], some [n], some [], some [], some [], some [], some [n], some [], some [], some [], some [], some [n], some [], some [n], some [], some [], some [], some [], some [], some [n], none, some [], some []]) env_ok (hd.of (by omega) (kb1 (by omega))) (by kernel_rfl) <| PQ.ps [(3, (Pt n 0 0))] rfl <| pQl 4 (.int .i64 d.typ) get_here ?_
 by_cases hc1 : d.typ < 0
 ·
  refine pP 5 yT rfl (Eq.trans (r_bin rfl rfl rfl (b_lss rfl)) (dT hc1)) <| PQ.ps [(6, yT)] rfl <| PQ.offs 7 3 rfl <| PQ.ps [(10, yT), (11, yT)] rfl <| PQ.offs 12 3 rfl <| PQ.ps [(15, yT), (16, yT)] rfl <| PQ.offs 17 7 rfl <| PQ.ps [(24, yT), (25, yT)] rfl <| PQ.offs 26 3 rfl <| PQ.ps [(29, yT)] rfl <| PQ.done (d := []) (by kernel_rfl) fun _ => ?_
  refine RA.rb [(0, (.agg ⟨(cChk d)⟩)), (1, (Pt n 0 0)), (2, yF), (29, yT)] rfl (fun τr1 => ?_)
  refine RA.condT rfl <| RA.sR hd env_ok <| OA.ps [(2, yF)] rfl <| OA.nil fun _ => ?_
  refine RA.ret env_ok ?_
  exact lf yF (bf hb (fun q => by have q1 := q.1; have q2 := q.2.1.data; have q3 := q.2.1.dups; have q4 := q.2.2.1; have q5 := kd_cases d.typ; omega))
 ·
  refine pP 5 yF rfl (Eq.trans (r_bin rfl rfl rfl (b_lss rfl)) (dF hc1)) <| PQ.ps [(6, yF), (7, (Pt n 0 0))] rfl <| pQl 8 (.int .i64 d.typ) get_here ?_
  by_cases hc2 : 255 < d.typ
  ·
   refine pP 9 yT rfl (Eq.trans (r_bin rfl rfl rfl (b_gtr rfl)) (dT hc2)) <| PQ.ps [(10, yT), (11, yT)] rfl <| PQ.offs 12 3 rfl <| PQ.ps [(15, yT), (16, yT)] rfl <| PQ.offs 17 7 rfl <| PQ.ps [(24, yT), (25, yT)] rfl <| PQ.offs 26 3 rfl <| PQ.ps [(29, yT)] rfl <| PQ.done (d := []) (by kernel_rfl) fun _ => RA.rb [(0, (.agg ⟨(cChk d)⟩)), (1, (Pt n 0 0)), (2, yF), (29, yT)] rfl (fun τr2 => ?_)
   refine RA.condT rfl <| RA.sR hd env_ok <| OA.ps [(2, yF)] rfl <| OA.nil fun _ => ?_
   refine RA.ret env_ok ?_
   exact lf yF (bf hb (fun q => by have q1 := q.1; have q2 := q.2.1.data; have q3 := q.2.1.dups; have q4 := q.2.2.1; have q5 := kd_cases d.typ; omega))
  ·
   refine pP 9 yF rfl (Eq.trans (r_bin rfl rfl rfl (b_gtr rfl)) (dF hc2)) <| PQ.ps [(10, yF), (11, yF), (12, (Pt n 0 1))] rfl <| pQl 13 (.int .i64 d.flags) get_here ?_
   by_cases hc3 : d.flags < 0
   ·
    refine pP 14 yT rfl (Eq.trans (r_bin rfl rfl rfl (b_lss rfl)) (dT hc3)) <| PQ.ps [(15, yT), (16, yT)] rfl <| PQ.offs 17 7 rfl <| PQ.ps [(24, yT), (25, yT)] rfl <| PQ.offs 26 3 rfl <| PQ.ps [(29, yT)] rfl <| PQ.done (d := []) (by kernel_rfl) fun _ => RA.rb [(0, (.agg ⟨(cChk d)⟩)), (1, (Pt n 0 0)), (2, yF), (29, yT)] rfl (fun τr3 => ?_)
    refine RA.condT rfl <| RA.sR hd env_ok <| OA.ps [(2, yF)] rfl <| OA.nil fun _ => ?_
    refine RA.ret env_ok ?_
    exact lf yF (bf hb (fun q => by have q1 := q.1; have q2 := q.2.1.data; have q3 := q.2.1.dups; have q4 := q.2.2.1; have q5 := kd_cases d.typ; omega))
   ·
    refine pP 14 yF rfl (Eq.trans (r_bin rfl rfl rfl (b_lss rfl)) (dF hc3)) <| PQ.ps [(15, yF), (16, yF), (17, (Pt n 0 1))] rfl <| pQl 18 (.int .i64 d.flags) get_here <| PQ.ps [(19, (Pt n 0 0))] rfl <| pQl 20 (.int .i64 d.typ) get_here <| pC 21 rfl rfl (sFlags d.typ) fun n4 hn4 => pP 22 (.int .i64 (clrN d.flags (fl d.typ))) rfl (r_bin rfl rfl rfl (b_clrN _ _)) ?_
    by_cases hc4 : (clrN d.flags (fl d.typ)) ≠ 0
    ·
     have hmk := clr_iff d.typ (F := d.flags) (by omega) hfl
     refine pP 23 yT rfl (Eq.trans (r_bin rfl rfl rfl (b_neq rfl)) (dT hc4)) <| PQ.ps [(24, yT), (25, yT)] rfl <| PQ.offs 26 3 rfl <| PQ.ps [(29, yT)] rfl <| PQ.done (d := []) (by kernel_rfl) fun _ => RA.rb [(0, (.agg ⟨(cChk d)⟩)), (1, (Pt n 0 0)), (2, yF), (29, yT)] rfl (fun τr5 => ?_)
     refine RA.condT rfl <| RA.sR hd env_ok <| OA.ps [(2, yF)] rfl <| OA.nil fun _ => ?_
     refine RA.ret env_ok ?_
     exact lf yF (bf hb (fun q => by have q1 := q.1; have q2 := q.2.1.data; have q3 := q.2.1.dups; have q4 := q.2.2.1; have q5 := kd_cases d.typ; omega))
    ·
     have hmk := clr_iff d.typ (F := d.flags) (by omega) hfl
     refine pP 23 yF rfl (Eq.trans (r_bin rfl rfl rfl (b_neq rfl)) (dF hc4)) <| PQ.ps [(24, yF), (25, yF)] rfl <| pQL 26 (.agg ⟨(xCp81 d)⟩) (V := []) rfl (by kernel_rfl) (by kernel_rfl) get_here (r_loadA rfl rfl rfl rfl get_here rfl rfl rfl) ?_
     by_cases hc5 : listsP d
     ·
      refine pA 27 (V := []) (hd.of (by omega) (kb1 (by omega))) rfl rfl (by kernel_rfl) (by kernel_rfl) (sLists d true (bT hc5) (h.mono (sub_a1 hd))) fun n6 hn6 => PQ.ps [(28, yF), (29, yF)] rfl <| PQ.done (d := []) (by kernel_rfl) fun _ => RA.rb [(0, (.agg ⟨(cChk d)⟩)), (1, (Pt n 0 0)), (2, yF), (29, yF)] rfl (fun τr7 => ?_)
      refine RA.condF rfl <| RA.skip env_ok ?_
      intro _
      refine RA.seq hd <| RA.sR hd env_ok <| OA.ps [(30, (Pt n 0 3))] rfl <| oL 31 (.int .i64 d.stream) get_here ?_
      by_cases hc6 : wordP (d.stream)
      ·
       refine oC 32 (hd.of (by omega) (kb1 (by omega))) rfl rfl (sWord (d.stream) true (bT hc6)) fun n8 hn8 => OA.ps [(33, yF), (34, yF), (35, (Pt n 0 4))] rfl <| oL 36 (.int .i64 d.ssn) get_here ?_
       by_cases hc7 : wordP (d.ssn)
       ·
        refine oC 37 (hd.of (by omega) (kb1 (by omega))) rfl rfl (sWord (d.ssn) true (bT hc7)) fun n9 hn9 => OA.ps [(38, yF), (39, yF), (40, yF), (41, (Pt n 0 9))] rfl <| oL 42 (.int .i64 d.outs) get_here ?_
        by_cases hc8 : wordP (d.outs)
        ·
         refine oC 43 (hd.of (by omega) (kb1 (by omega))) rfl rfl (sWord (d.outs) true (bT hc8)) fun n10 hn10 => OA.ps [(44, yF), (45, yF), (46, yF), (47, (Pt n 0 10))] rfl <| oL 48 (.int .i64 d.ins) get_here ?_
         by_cases hc9 : wordP (d.ins)
         ·
          refine oC 49 (hd.of (by omega) (kb1 (by omega))) rfl rfl (sWord (d.ins) true (bT hc9)) fun n11 hn11 => OA.ps [(50, yF), (51, yF), (52, yF), (53, (Pt n 0 6))] rfl <| oL 54 (.string d.data) get_here <| OA.ps [(55, (.int .i64 ((d.data.size : Nat) : Int)))] rfl ?_
          by_cases hc10 : 900 < ((d.data.size : Nat) : Int)
          ·
           refine oP 56 yT rfl (Eq.trans (r_bin rfl rfl rfl (b_gtr rfl)) (dT hc10)) <| OA.ps [(57, yT), (58, yT)] rfl <| OA.offs 59 4 rfl <| OA.ps [(63, yT), (64, yT)] rfl <| OA.offs 65 4 rfl <| OA.ps [(69, yT)] rfl <| OA.nil fun _ => RA.rb [(0, (.agg ⟨(cChk d)⟩)), (1, (Pt n 0 0)), (2, yF), (29, yF), (69, yT)] rfl (fun τr12 => ?_)
           refine RA.condT rfl <| RA.sR hd env_ok <| OA.ps [(2, yF)] rfl <| OA.nil fun _ => ?_
           refine RA.ret env_ok ?_
           exact lf yF (bf hb (fun q => by have q1 := q.1; have q2 := q.2.1.data; have q3 := q.2.1.dups; have q4 := q.2.2.1; have q5 := kd_cases d.typ; omega))
          ·
           refine oP 56 yF rfl (Eq.trans (r_bin rfl rfl rfl (b_gtr rfl)) (dF hc10)) <| OA.ps [(57, yF), (58, yF), (59, (Pt n 0 13))] rfl <| oL 60 d.gv get_here ?_
           by_cases hc11 : gapsP d.gs
           ·
            refine oC 61 (hd.of (by omega) (kb1 (by omega))) rfl rfl (sRising d true (bT hc11) (h.mono (sub_a1 hd))) fun n13 hn13 => OA.ps [(62, yF), (63, yF), (64, yF), (65, (Pt n 0 14))] rfl <| oL 66 d.dv get_here <| oP 67 (.int .i64 ((d.ds.length : Nat) : Int)) rfl (r_lenQ (c := cDp) rfl rfl rfl rfl rfl rfl h.hu rfl) ?_
            by_cases hc12 : 16 < ((d.ds.length : Nat) : Int)
            ·
             refine oP 68 yT rfl (Eq.trans (r_bin rfl rfl rfl (b_gtr rfl)) (dT hc12)) <| OA.ps [(69, yT)] rfl <| OA.nil fun _ => RA.rb [(0, (.agg ⟨(cChk d)⟩)), (1, (Pt n 0 0)), (2, yF), (29, yF), (69, yT)] rfl (fun τr14 => ?_)
             refine RA.condT rfl <| RA.sR hd env_ok <| OA.ps [(2, yF)] rfl <| OA.nil fun _ => ?_
             refine RA.ret env_ok ?_
             exact lf yF (bf hb (fun q => by have q1 := q.1; have q2 := q.2.1.data; have q3 := q.2.1.dups; have q4 := q.2.2.1; have q5 := kd_cases d.typ; omega))
            ·
             refine oP 68 yF rfl (Eq.trans (r_bin rfl rfl rfl (b_gtr rfl)) (dF hc12)) <| OA.ps [(69, yF)] rfl <| OA.nil fun _ => RA.rb [(0, (.agg ⟨(cChk d)⟩)), (1, (Pt n 0 0)), (2, yF), (29, yF), (69, yF)] rfl (fun τr15 => ?_)
             refine RA.condF rfl <| RA.skip env_ok ?_
             intro _
             refine RA.seq hd <| RA.sR hd env_ok <| OA.ps [(70, (Pt n 0 0))] rfl <| oL 71 (.int .i64 d.typ) get_here ?_
             by_cases hc13 : d.typ = 1
             ·
              refine oP 72 yT rfl (Eq.trans (r_bin rfl rfl rfl (b_eql rfl)) (dT hc13)) <| OA.ps [(73, yT)] rfl <| OA.offs 74 3 rfl <| OA.ps [(77, yT), (78, yT), (79, (Pt n 0 7))] rfl <| oL 80 (W d.tag) get_here ?_
              by_cases hc14 : (d.tag.toNat : Int) = 0
              ·
               refine oP 81 yT rfl (Eq.trans (r_bin rfl rfl rfl (b_eql rfl)) (dT hc14)) <| OA.ps [(82, yT)] rfl <| OA.nil fun _ => RA.condT rfl <| RA.sR hd env_ok <| OA.ps [(2, yF)] rfl <| OA.nil fun _ => ?_
               refine RA.ret env_ok ?_
               exact lf yF (bf hb (fun q => by have q1 := q.1; have q2 := q.2.1.data; have q3 := q.2.1.dups; have q4 := q.2.2.1; have q5 := kd_cases d.typ; omega))
              ·
               refine oP 81 yF rfl (Eq.trans (r_bin rfl rfl rfl (b_eql rfl)) (dF hc14)) <| OA.ps [(82, yF)] rfl <| OA.nil fun _ => RA.condF rfl <| RA.skip env_ok ?_
               intro _
               refine RA.seq hd <| RA.par (md := [some [n], none, some [], some [], some [], some [n], some [n], none, none, some [], some []]) env_ok (hd.of (by omega) (kb1 (by omega))) (by kernel_rfl) <| pQL 83 (.agg ⟨(xCp81 d)⟩) (V := []) rfl (by kernel_rfl) (by kernel_rfl) get_here (r_loadA rfl rfl rfl rfl get_here rfl rfl rfl) ?_
               have hok : bodyOk d := ⟨hc5, hc6, hc7, hc8, hc9, by omega, hc11, by omega⟩
               have hbl := bodyL_len hok
               refine pA 84 (V := []) (hd.of (by omega) (kb1 (by omega))) rfl rfl (by kernel_rfl) (by kernel_rfl) (sBody d hok (h.mono (sub_a1 hd))) fun n16 hn16 => pP 85 (.int .i64 (((bodyL d).length : Nat) : Int)) rfl (Eq.trans (show _ = some (Value.int .i64 (((bstr (bodyL d)).size : Nat) : Int), _, []) from rfl) (by rw [bstr_size] <;> rfl)) ?_
               have hc15 : (((bodyL d).length : Nat) : Int) ≤ 65531 := Classical.byContradiction (fun hdd => by exfalso; omega)
               refine pP 86 yT rfl (Eq.trans (r_bin rfl rfl rfl (b_leq rfl)) (dT hc15)) <| PQ.ps [(87, yT)] rfl <| pQL 88 (.agg ⟨(xCp81 d)⟩) (V := []) rfl (by kernel_rfl) (by kernel_rfl) get_here (r_loadA rfl rfl rfl rfl get_here rfl rfl rfl) <| pQL 89 (.agg ⟨(xCp81 d)⟩) (V := []) rfl (by kernel_rfl) (by kernel_rfl) get_here (r_loadA rfl rfl rfl rfl get_here rfl rfl rfl) <| pA 90 (V := []) (hd.of (by omega) (kb1 (by omega))) rfl rfl (by kernel_rfl) (by kernel_rfl) (sPlain d (h.mono (sub_a1 hd))) fun n17 hn17 => ?_
               by_cases hc16 : hasntP d
               ·
                refine pA 91 (V := []) (hd.of (by omega) (kb1 (by omega))) rfl rfl (by kernel_rfl) (by kernel_rfl) (sSameP d true (bT hc16) (h.mono (sub_a1 hd))) fun n18 hn18 => PQ.ps [(92, yT), (2, yT)] rfl <| PQ.done (d := []) (by kernel_rfl) fun _ => ?_
                refine RA.ret env_ok ?_
                exact lf yT (bt hb (⟨⟨by omega, by omega, by omega, by omega⟩, hok, by have := kd_cases d.typ; omega, hc16⟩))
               ·
                refine pA 91 (V := []) (hd.of (by omega) (kb1 (by omega))) rfl rfl (by kernel_rfl) (by kernel_rfl) (sSameP d false (bF hc16) (h.mono (sub_a1 hd))) fun n19 hn19 => PQ.ps [(92, yF), (2, yF)] rfl <| PQ.done (d := []) (by kernel_rfl) fun _ => ?_
                refine RA.ret env_ok ?_
                exact lf yF (bf hb (fun q => hc16 q.2.2.2))
             ·
              refine oP 72 yF rfl (Eq.trans (r_bin rfl rfl rfl (b_eql rfl)) (dF hc13)) <| OA.ps [(73, yF), (74, (Pt n 0 0))] rfl <| oL 75 (.int .i64 d.typ) get_here ?_
              by_cases hc17 : d.typ = 2
              ·
               refine oP 76 yT rfl (Eq.trans (r_bin rfl rfl rfl (b_eql rfl)) (dT hc17)) <| OA.ps [(77, yT), (78, yT), (79, (Pt n 0 7))] rfl <| oL 80 (W d.tag) get_here ?_
               by_cases hc18 : (d.tag.toNat : Int) = 0
               ·
                refine oP 81 yT rfl (Eq.trans (r_bin rfl rfl rfl (b_eql rfl)) (dT hc18)) <| OA.ps [(82, yT)] rfl <| OA.nil fun _ => RA.condT rfl <| RA.sR hd env_ok <| OA.ps [(2, yF)] rfl <| OA.nil fun _ => ?_
                refine RA.ret env_ok ?_
                exact lf yF (bf hb (fun q => by have q1 := q.1; have q2 := q.2.1.data; have q3 := q.2.1.dups; have q4 := q.2.2.1; have q5 := kd_cases d.typ; omega))
               ·
                refine oP 81 yF rfl (Eq.trans (r_bin rfl rfl rfl (b_eql rfl)) (dF hc18)) <| OA.ps [(82, yF)] rfl <| OA.nil fun _ => RA.condF rfl <| RA.skip env_ok ?_
                intro _
                refine RA.seq hd <| RA.par (md := [some [n], none, some [], some [], some [], some [n], some [n], none, none, some [], some []]) env_ok (hd.of (by omega) (kb1 (by omega))) (by kernel_rfl) <| pQL 83 (.agg ⟨(xCp81 d)⟩) (V := []) rfl (by kernel_rfl) (by kernel_rfl) get_here (r_loadA rfl rfl rfl rfl get_here rfl rfl rfl) ?_
                have hok : bodyOk d := ⟨hc5, hc6, hc7, hc8, hc9, by omega, hc11, by omega⟩
                have hbl := bodyL_len hok
                refine pA 84 (V := []) (hd.of (by omega) (kb1 (by omega))) rfl rfl (by kernel_rfl) (by kernel_rfl) (sBody d hok (h.mono (sub_a1 hd))) fun n20 hn20 => pP 85 (.int .i64 (((bodyL d).length : Nat) : Int)) rfl (Eq.trans (show _ = some (Value.int .i64 (((bstr (bodyL d)).size : Nat) : Int), _, []) from rfl) (by rw [bstr_size] <;> rfl)) ?_
                have hc19 : (((bodyL d).length : Nat) : Int) ≤ 65531 := Classical.byContradiction (fun hdd => by exfalso; omega)
                refine pP 86 yT rfl (Eq.trans (r_bin rfl rfl rfl (b_leq rfl)) (dT hc19)) <| PQ.ps [(87, yT)] rfl <| pQL 88 (.agg ⟨(xCp81 d)⟩) (V := []) rfl (by kernel_rfl) (by kernel_rfl) get_here (r_loadA rfl rfl rfl rfl get_here rfl rfl rfl) <| pQL 89 (.agg ⟨(xCp81 d)⟩) (V := []) rfl (by kernel_rfl) (by kernel_rfl) get_here (r_loadA rfl rfl rfl rfl get_here rfl rfl rfl) <| pA 90 (V := []) (hd.of (by omega) (kb1 (by omega))) rfl rfl (by kernel_rfl) (by kernel_rfl) (sPlain d (h.mono (sub_a1 hd))) fun n21 hn21 => ?_
                by_cases hc20 : hasntP d
                ·
                 refine pA 91 (V := []) (hd.of (by omega) (kb1 (by omega))) rfl rfl (by kernel_rfl) (by kernel_rfl) (sSameP d true (bT hc20) (h.mono (sub_a1 hd))) fun n22 hn22 => PQ.ps [(92, yT), (2, yT)] rfl <| PQ.done (d := []) (by kernel_rfl) fun _ => ?_
                 refine RA.ret env_ok ?_
                 exact lf yT (bt hb (⟨⟨by omega, by omega, by omega, by omega⟩, hok, by have := kd_cases d.typ; omega, hc20⟩))
                ·
                 refine pA 91 (V := []) (hd.of (by omega) (kb1 (by omega))) rfl rfl (by kernel_rfl) (by kernel_rfl) (sSameP d false (bF hc20) (h.mono (sub_a1 hd))) fun n23 hn23 => PQ.ps [(92, yF), (2, yF)] rfl <| PQ.done (d := []) (by kernel_rfl) fun _ => ?_
                 refine RA.ret env_ok ?_
                 exact lf yF (bf hb (fun q => hc20 q.2.2.2))
              ·
               refine oP 76 yF rfl (Eq.trans (r_bin rfl rfl rfl (b_eql rfl)) (dF hc17)) <| OA.ps [(77, yF), (78, yF)] rfl <| OA.offs 79 3 rfl <| OA.ps [(82, yF)] rfl <| OA.nil fun _ => RA.condF rfl <| RA.skip env_ok ?_
               intro _
               refine RA.seq hd <| RA.par (md := [some [n], none, some [], some [], some [], some [n], some [n], none, none, some [], some []]) env_ok (hd.of (by omega) (kb1 (by omega))) (by kernel_rfl) <| pQL 83 (.agg ⟨(xCp81 d)⟩) (V := []) rfl (by kernel_rfl) (by kernel_rfl) get_here (r_loadA rfl rfl rfl rfl get_here rfl rfl rfl) ?_
               have hok : bodyOk d := ⟨hc5, hc6, hc7, hc8, hc9, by omega, hc11, by omega⟩
               have hbl := bodyL_len hok
               refine pA 84 (V := []) (hd.of (by omega) (kb1 (by omega))) rfl rfl (by kernel_rfl) (by kernel_rfl) (sBody d hok (h.mono (sub_a1 hd))) fun n24 hn24 => pP 85 (.int .i64 (((bodyL d).length : Nat) : Int)) rfl (Eq.trans (show _ = some (Value.int .i64 (((bstr (bodyL d)).size : Nat) : Int), _, []) from rfl) (by rw [bstr_size] <;> rfl)) ?_
               have hc21 : (((bodyL d).length : Nat) : Int) ≤ 65531 := Classical.byContradiction (fun hdd => by exfalso; omega)
               refine pP 86 yT rfl (Eq.trans (r_bin rfl rfl rfl (b_leq rfl)) (dT hc21)) <| PQ.ps [(87, yT)] rfl <| pQL 88 (.agg ⟨(xCp81 d)⟩) (V := []) rfl (by kernel_rfl) (by kernel_rfl) get_here (r_loadA rfl rfl rfl rfl get_here rfl rfl rfl) <| pQL 89 (.agg ⟨(xCp81 d)⟩) (V := []) rfl (by kernel_rfl) (by kernel_rfl) get_here (r_loadA rfl rfl rfl rfl get_here rfl rfl rfl) <| pA 90 (V := []) (hd.of (by omega) (kb1 (by omega))) rfl rfl (by kernel_rfl) (by kernel_rfl) (sPlain d (h.mono (sub_a1 hd))) fun n25 hn25 => ?_
               by_cases hc22 : hasntP d
               ·
                refine pA 91 (V := []) (hd.of (by omega) (kb1 (by omega))) rfl rfl (by kernel_rfl) (by kernel_rfl) (sSameP d true (bT hc22) (h.mono (sub_a1 hd))) fun n26 hn26 => PQ.ps [(92, yT), (2, yT)] rfl <| PQ.done (d := []) (by kernel_rfl) fun _ => ?_
                refine RA.ret env_ok ?_
                exact lf yT (bt hb (⟨⟨by omega, by omega, by omega, by omega⟩, hok, by have := kd_cases d.typ; omega, hc22⟩))
               ·
                refine pA 91 (V := []) (hd.of (by omega) (kb1 (by omega))) rfl rfl (by kernel_rfl) (by kernel_rfl) (sSameP d false (bF hc22) (h.mono (sub_a1 hd))) fun n27 hn27 => PQ.ps [(92, yF), (2, yF)] rfl <| PQ.done (d := []) (by kernel_rfl) fun _ => ?_
                refine RA.ret env_ok ?_
                exact lf yF (bf hb (fun q => hc22 q.2.2.2))
           ·
            refine oC 61 (hd.of (by omega) (kb1 (by omega))) rfl rfl (sRising d false (bF hc11) (h.mono (sub_a1 hd))) fun n28 hn28 => OA.ps [(62, yT), (63, yT), (64, yT)] rfl <| OA.offs 65 4 rfl <| OA.ps [(69, yT)] rfl <| OA.nil fun _ => RA.rb [(0, (.agg ⟨(cChk d)⟩)), (1, (Pt n 0 0)), (2, yF), (29, yF), (69, yT)] rfl (fun τr29 => ?_)
            refine RA.condT rfl <| RA.sR hd env_ok <| OA.ps [(2, yF)] rfl <| OA.nil fun _ => ?_
            refine RA.ret env_ok ?_
            exact lf yF (bf hb (fun q => hc11 q.2.1.gaps))
         ·
          refine oC 49 (hd.of (by omega) (kb1 (by omega))) rfl rfl (sWord (d.ins) false (bF hc9)) fun n30 hn30 => OA.ps [(50, yT), (51, yT), (52, yT)] rfl <| OA.offs 53 4 rfl <| OA.ps [(57, yT), (58, yT)] rfl <| OA.offs 59 4 rfl <| OA.ps [(63, yT), (64, yT)] rfl <| OA.offs 65 4 rfl <| OA.ps [(69, yT)] rfl <| OA.nil fun _ => RA.rb [(0, (.agg ⟨(cChk d)⟩)), (1, (Pt n 0 0)), (2, yF), (29, yF), (69, yT)] rfl (fun τr31 => ?_)
          refine RA.condT rfl <| RA.sR hd env_ok <| OA.ps [(2, yF)] rfl <| OA.nil fun _ => ?_
          refine RA.ret env_ok ?_
          exact lf yF (bf hb (fun q => hc9 q.2.1.w4))
        ·
         refine oC 43 (hd.of (by omega) (kb1 (by omega))) rfl rfl (sWord (d.outs) false (bF hc8)) fun n32 hn32 => OA.ps [(44, yT), (45, yT), (46, yT)] rfl <| OA.offs 47 4 rfl <| OA.ps [(51, yT), (52, yT)] rfl <| OA.offs 53 4 rfl <| OA.ps [(57, yT), (58, yT)] rfl <| OA.offs 59 4 rfl <| OA.ps [(63, yT), (64, yT)] rfl <| OA.offs 65 4 rfl <| OA.ps [(69, yT)] rfl <| OA.nil fun _ => ?_
         refine RA.rb [(0, (.agg ⟨(cChk d)⟩)), (1, (Pt n 0 0)), (2, yF), (29, yF), (69, yT)] rfl (fun τr33 => ?_)
         refine RA.condT rfl <| RA.sR hd env_ok <| OA.ps [(2, yF)] rfl <| OA.nil fun _ => ?_
         refine RA.ret env_ok ?_
         exact lf yF (bf hb (fun q => hc8 q.2.1.w3))
       ·
        refine oC 37 (hd.of (by omega) (kb1 (by omega))) rfl rfl (sWord (d.ssn) false (bF hc7)) fun n34 hn34 => OA.ps [(38, yT), (39, yT), (40, yT)] rfl <| OA.offs 41 4 rfl <| OA.ps [(45, yT), (46, yT)] rfl <| OA.offs 47 4 rfl <| OA.ps [(51, yT), (52, yT)] rfl <| OA.offs 53 4 rfl <| OA.ps [(57, yT), (58, yT)] rfl <| OA.offs 59 4 rfl <| OA.ps [(63, yT), (64, yT)] rfl <| OA.offs 65 4 rfl ?_
        refine OA.ps [(69, yT)] rfl <| OA.nil fun _ => RA.rb [(0, (.agg ⟨(cChk d)⟩)), (1, (Pt n 0 0)), (2, yF), (29, yF), (69, yT)] rfl (fun τr35 => ?_)
        refine RA.condT rfl <| RA.sR hd env_ok <| OA.ps [(2, yF)] rfl <| OA.nil fun _ => ?_
        refine RA.ret env_ok ?_
        exact lf yF (bf hb (fun q => hc7 q.2.1.w2))
      ·
       refine oC 32 (hd.of (by omega) (kb1 (by omega))) rfl rfl (sWord (d.stream) false (bF hc6)) fun n36 hn36 => OA.ps [(33, yT), (34, yT)] rfl <| OA.offs 35 4 rfl <| OA.ps [(39, yT), (40, yT)] rfl <| OA.offs 41 4 rfl <| OA.ps [(45, yT), (46, yT)] rfl <| OA.offs 47 4 rfl <| OA.ps [(51, yT), (52, yT)] rfl <| OA.offs 53 4 rfl <| OA.ps [(57, yT), (58, yT)] rfl <| OA.offs 59 4 rfl ?_
       refine OA.ps [(63, yT), (64, yT)] rfl <| OA.offs 65 4 rfl <| OA.ps [(69, yT)] rfl <| OA.nil fun _ => RA.rb [(0, (.agg ⟨(cChk d)⟩)), (1, (Pt n 0 0)), (2, yF), (29, yF), (69, yT)] rfl (fun τr37 => ?_)
       refine RA.condT rfl <| RA.sR hd env_ok <| OA.ps [(2, yF)] rfl <| OA.nil fun _ => ?_
       refine RA.ret env_ok ?_
       exact lf yF (bf hb (fun q => hc6 q.2.1.w1))
     ·
      refine pA 27 (V := []) (hd.of (by omega) (kb1 (by omega))) rfl rfl (by kernel_rfl) (by kernel_rfl) (sLists d false (bF hc5) (h.mono (sub_a1 hd))) fun n38 hn38 => PQ.ps [(28, yT), (29, yT)] rfl <| PQ.done (d := []) (by kernel_rfl) fun _ => RA.rb [(0, (.agg ⟨(cChk d)⟩)), (1, (Pt n 0 0)), (2, yF), (29, yT)] rfl (fun τr39 => ?_)
      refine RA.condT rfl <| RA.sR hd env_ok <| OA.ps [(2, yF)] rfl <| OA.nil fun _ => ?_
      refine RA.ret env_ok ?_
      exact lf yF (bf hb (fun q => hc5 q.2.1.lists))
theorem sChPutT {σ : Store} (d : Chk) (hm : mayP d)  (h : gd σ d) : PS Try.prog noDen 46 [(.agg ⟨(cChk d)⟩)] σ (.string (bstr (chL d))) := by
 have hp18 := h.p18
 have hc18 := h.c18
 have hg18 := h.g18
 have hd18 := h.u18
 have hfl := h.fl
 have hm1 := hm.1
 have hfle := fl_le d.typ
 have hbl := bodyL_len hm.2.1
 refine PS.body (E := env) env_ok rfl rfl (by show _ ≤ _; exact of_decide_eq_true (by kernel_rfl)) (fun n hd => ?_)
 refine RA.sR hd env_ok <| o1 (some 1) (Pt n 0 0) (n + 1) (n, some ⟨[(cChk d)], 15, 53, true⟩) (r_box (cs := (cChk d)) rfl rfl rfl (Nat.le_of_ble_eq_true rfl) (by simp only [List.all_cons, List.all_nil, Bool.and_true, Bool.and_eq_true, cChk]; exact ⟨rfl, rfl, rfl, rfl, rfl, rfl, rfl, rfl, rfl, rfl, rfl, (h.hp).one, (h.hc).one, (h.hg).one, (h.hu).one⟩)) <| OA.ps [(2, (.string (ByteArray.mk #[])))] rfl <| OA.nil fun _ => RA.seq hd <| RA.sR hd env_ok <| oP 4 (.agg ⟨(xCp81 d)⟩) rfl (r_loadA rfl rfl rfl rfl get_here rfl rfl rfl) <| oC 5 (hd.of (by omega) (kb1 (by omega))) rfl rfl (sMay d true (bT hm) (h.mono (sub_a1 hd))) fun n1 hn1 => OA.ps [(6, yF)] rfl <| OA.nil fun _ => RA.condF rfl ?_
 refine RA.skip env_ok ?_
 intro _
 refine RA.sR hd env_ok <| oP 7 (.agg ⟨(xCp81 d)⟩) rfl (r_loadA rfl rfl rfl rfl get_here rfl rfl rfl) <| oC 8 (hd.of (by omega) (kb1 (by omega))) rfl rfl (sBody d hm.2.1 (h.mono (sub_a1 hd))) fun n2 hn2 => OA.ps [(3, (.string (bstr (bodyL d))))] rfl <| OA.nil fun _ => RA.seq hd <| RA.par (md := [some [], some [n], none, some [], some [n], none, some [], some [], some [], some [], none, some [], some [], some [], none, some []]) env_ok (hd.of (by omega) (kb1 (by omega))) (by kernel_rfl) <| PQ.ps [(9, (Pt n 0 0))] rfl <| pQl 10 (.int .i64 d.typ) get_here <| pA 11 (V := []) (hd.of (by omega) (kb1 (by omega))) rfl rfl (by kernel_rfl) (by kernel_rfl) (zU8 d.typ (by omega) (by omega)) fun n3 hn3 => PQ.ps [(12, (Pt n 0 1))] rfl ?_
 refine pQl 13 (.int .i64 d.flags) get_here <| pA 14 (V := []) (hd.of (by omega) (kb1 (by omega))) rfl rfl (by kernel_rfl) (by kernel_rfl) (zU8 d.flags (by omega) (by omega)) fun n4 hn4 => pP 15 (.string (bstr ((be1 (d.typ).toNat) ++ (be1 (d.flags).toNat)))) rfl (Eq.trans (r_cat rfl rfl rfl (by simp only [bstr_size, size_lit, List.length_append, be2_len, be4_len, be1_len, List.length_replicate, List.length_cons, List.length_nil, List.size_toArray, be1_len]; omega)) (by rw [bstr_app] <;> rfl)) <| PQ.ps [(16, (.string (bstr (bodyL d))))] rfl <| pP 17 (.int .i64 (((bodyL d).length : Nat) : Int)) rfl (Eq.trans (show _ = some (Value.int .i64 (((bstr (bodyL d)).size : Nat) : Int), _, []) from rfl) (by rw [bstr_size] <;> rfl)) <| pP 18 (.int .i64 ((((bodyL d).length + 4) : Nat) : Int)) rfl (r_bin rfl rfl rfl (b_add (i64_eq (by omega)))) <| pA 19 (V := []) (hd.of (by omega) (kb1 (by omega))) rfl rfl (by kernel_rfl) (by kernel_rfl) (sU16 ((bodyL d).length + 4) (by omega)) fun n5 hn5 => pP 20 (.string (bstr (((be1 (d.typ).toNat) ++ (be1 (d.flags).toNat)) ++ (be2 ((bodyL d).length + 4))))) rfl (Eq.trans (r_cat rfl rfl rfl (by simp only [bstr_size, size_lit, List.length_append, be2_len, be4_len, be1_len, List.length_replicate, List.length_cons, List.length_nil, List.size_toArray, be1_len]; omega)) (by rw [bstr_app] <;> rfl)) <| PQ.ps [(21, (.string (bstr (bodyL d))))] rfl <| pP 22 (.string (bstr ((((be1 (d.typ).toNat) ++ (be1 (d.flags).toNat)) ++ (be2 ((bodyL d).length + 4))) ++ (bodyL d)))) rfl (Eq.trans (r_cat rfl rfl rfl (by simp only [bstr_size, size_lit, List.length_append, be2_len, be4_len, be1_len, List.length_replicate, List.length_cons, List.length_nil, List.size_toArray, be1_len]; omega)) (by rw [bstr_app] <;> rfl)) <| pA 23 (V := []) (hd.of (by omega) (kb1 (by omega))) rfl rfl (by kernel_rfl) (by kernel_rfl) (lFilled (be1 d.typ.toNat ++ be1 d.flags.toNat ++ be2 ((bodyL d).length + 4) ++ bodyL d) (by simp only [List.length_append, be1_len, be2_len]; omega)) fun n6 hn6 => ?_
 refine PQ.ps [(2, (.string (bstr (chL d))))] rfl <| PQ.done (d := []) (by kernel_rfl) fun _ => ?_
 refine RA.ret env_ok ?_
 exact lf (.string (bstr (chL d))) rfl
theorem sChPutF {σ : Store} (d : Chk) (hm : ¬ mayP d)  (h : gd σ d) : PS Try.prog noDen 46 [(.agg ⟨(cChk d)⟩)] σ (.string (ByteArray.mk #[])) := by
 have hp18 := h.p18
 have hc18 := h.c18
 have hg18 := h.g18
 have hd18 := h.u18
 have hfl := h.fl
 refine PS.body (E := env) env_ok rfl rfl (by show _ ≤ _; exact of_decide_eq_true (by kernel_rfl)) (fun n hd => ?_)
 refine RA.sR hd env_ok <| o1 (some 1) (Pt n 0 0) (n + 1) (n, some ⟨[(cChk d)], 15, 53, true⟩) (r_box (cs := (cChk d)) rfl rfl rfl (Nat.le_of_ble_eq_true rfl) (by simp only [List.all_cons, List.all_nil, Bool.and_true, Bool.and_eq_true, cChk]; exact ⟨rfl, rfl, rfl, rfl, rfl, rfl, rfl, rfl, rfl, rfl, rfl, (h.hp).one, (h.hc).one, (h.hg).one, (h.hu).one⟩)) <| OA.ps [(2, (.string (ByteArray.mk #[])))] rfl <| OA.nil fun _ => RA.seq hd <| RA.sR hd env_ok <| oP 4 (.agg ⟨(xCp81 d)⟩) rfl (r_loadA rfl rfl rfl rfl get_here rfl rfl rfl) <| oC 5 (hd.of (by omega) (kb1 (by omega))) rfl rfl (sMay d false (bF hm) (h.mono (sub_a1 hd))) fun n1 hn1 => OA.ps [(6, yT)] rfl <| OA.nil fun _ => RA.condT rfl ?_
 refine RA.sR hd env_ok <| OA.ps [(2, (.string (ByteArray.mk #[])))] rfl <| OA.nil fun _ => ?_
 refine RA.ret env_ok ?_
 exact lf (.string (ByteArray.mk #[])) rfl
end Go.Proofs.Ytgajcmanompmcaa.Vt
/- Cx1: walks through functions of the program, by the calculus; written by a program of this workplace. -/
namespace Go.Proofs.Ytgajcmanompmcaa.Vt
open Go Go.Proofs Go.Proofs.YtgajcmanompmcaaV
set_option maxRecDepth 100000
set_option linter.unusedVariables false
set_option linter.unusedSimpArgs false
set_option maxHeartbeats 8000000
theorem beN_be1 (m : Nat) (h : m < 256) : beN (be1 m) = m := by
  show 0 * 256 + (UInt8.ofNat m).toNat = m
  rw [UInt8.toNat_ofNat', Nat.zero_mul, Nat.zero_add]; omega
theorem padN4 (k : Nat) : padN (4 + k) = padN k := by unfold padN; omega
theorem padN_le (k : Nat) : padN k ≤ 3 := by unfold padN; omega
theorem pB_ex (t : Int) (v : ByteArray) (rest : List UInt8) : pB t v ++ rest = be2 t.toNat ++ (be2 (v.size + 4) ++ (L v ++ (List.replicate (padN v.size) 0 ++ rest))) := by
  unfold pB pL
  rw [fillL_eq, pL_len, L_len, padN4]
  simp only [List.append_assoc]
theorem pB_pos (t : Int) (v : ByteArray) : 4 ≤ (pB t v).length := by
  unfold pB pL; rw [fillL_eq, List.length_append, pL_len]; omega
theorem psL_at {l : List Prm} {i : Nat} (h : i < l.length) : psL (l.drop i) = pB (l.getD i dPrm).typ (l.getD i dPrm).val ++ psL (l.drop (i + 1)) := by
  rw [List.drop_eq_getElem_cons h, show l.getD i dPrm = l[i] from by simp [List.getD, List.getElem?_eq_getElem h]]; rfl
theorem psL_end {l : List Prm} {i : Nat} (h : l.length ≤ i) : psL (l.drop i) = [] := by rw [List.drop_of_length_le h]; rfl
theorem psL_pos {l : List Prm} {i : Nat} (h : i < l.length) : 0 < (psL (l.drop i)).length := by
  rw [psL_at h, List.length_append]; have := pB_pos (l.getD i dPrm).typ (l.getD i dPrm).val; omega
theorem psD_len {l : List Prm} (h : prmsOk l) {i : Nat} (h16 : l.length ≤ 16) : (psL (l.drop i)).length ≤ 16112 := by
  have h1 := fm_len (f := fun p : Prm => pB p.typ p.val) (k := 1007) (l.drop i) (fun x hx => pB_len (h x (List.mem_of_mem_drop hx)))
  have h2 : (l.drop i).length ≤ 16 := by rw [List.length_drop]; omega
  have h3 := Nat.mul_le_mul_right 1007 h2
  unfold psL; omega
theorem take_len {α : Type} {l : List α} {i : Nat} (h : i ≤ l.length) : (l.take i).length = i := by rw [List.length_take]; omega
theorem take_one {α : Type} {l : List α} {i : Nat} {d0 : α} (h0 : i = 0) (h : i < l.length) : l.take (i + 1) = [l.getD i d0] := by rw [← take_snoc (d0 := d0) h, h0]; rfl
theorem prm_snoc {l : List Prm} {i : Nat} (h : i < l.length) : ((l.take i).map cPrm) ++ [cPrm (l.getD i dPrm)] = (l.take (i + 1)).map cPrm := by rw [← take_snoc (d0 := dPrm) h, List.map_append]; rfl
def c2p (e : Cau) : Prm := ⟨e.code, e.info⟩
theorem csL_c2p (l : List Cau) : psL (l.map c2p) = csL l := by unfold psL csL; rw [List.flatMap_map]; rfl
theorem ok_c2p {l : List Cau} (h : causOk l) : prmsOk (l.map c2p) := fun p hp => by obtain ⟨x, hx, rfl⟩ := List.mem_map.1 hp; exact h x hx
theorem c2p_get {l : List Cau} {i : Nat} (h : i < l.length) : (l.map c2p).getD i dPrm = c2p (l.getD i dCau) := by
  simp [List.getD, List.getElem?_map, List.getElem?_eq_getElem h]
theorem cau_rec {l : List Cau} {i : Nat} (h : i < l.length) : Cau.mk ((l.map c2p).getD i dPrm).typ ((l.map c2p).getD i dPrm).val = l.getD i dCau := by rw [c2p_get h]; rfl
theorem cau_snoc {l : List Cau} {i : Nat} (h : i < l.length) : ((l.take i).map cCau) ++ [cCau (Cau.mk ((l.map c2p).getD i dPrm).typ ((l.map c2p).getD i dPrm).val)] = (l.take (i + 1)).map cCau := by rw [cau_rec h, ← take_snoc (d0 := dCau) h, List.map_append]; rfl
theorem cau_one {l : List Cau} {i : Nat} (h0 : i = 0) (h : i < l.length) : l.take (i + 1) = [Cau.mk ((l.map c2p).getD i dPrm).typ ((l.map c2p).getD i dPrm).val] := by rw [cau_rec h]; exact take_one h0 h
theorem cU8 {n : Nat} {σ : Store} (hd : Dom n σ) (r m : Nat) (hm : m < 256) (l2 : List UInt8) (hs : (be1 m ++ l2).length < 4294967296) (hr : σ r = some ⟨[[(.string (bstr (be1 m ++ l2))), (.int .i64 0)]], 2, 121, true⟩)  : CQ Try.prog noDen 86 [(Pt r 0 0)] n σ (fun v n' d => v = (.int .i64 ((m : Nat) : Int)) ∧ d = [(r, some ⟨[[(.string (bstr l2)), (.int .i64 0)]], 2, 121, true⟩)]) := by
 have lhr := hd.lt hr
 refine CQ.body (E := env) env_ok hd rfl rfl (by show _ ≤ _; exact of_decide_eq_true (by kernel_rfl)) ?_
 refine RA.sR hd env_ok <| OA.ps [(2, (.int .i64 0))] rfl <| OA.nil fun _ => RA.sR hd env_ok <| OA.ps [(3, (Pt r 0 0))] rfl ?_
 refine OA.call (dst := (some 4)) (all := [(Pt r 0 0), (.int .i64 1)]) rfl rfl rfl rfl rfl rfl rfl rfl (CQ.imp (cNum (hd.up (by omega)) r (be1 m) l2 1 rfl (by decide) hs hr) ?_)
 rintro _ n1 _ ⟨rfl, rfl⟩ hn1
 refine OA.app1 ?_
 refine oP 5 (.int .i64 (((beN (be1 m)) : Nat) : Int)) rfl (r_cvt rfl rfl rfl rfl rfl ⟨_, rfl⟩ (i64_eq (by have := (show beN (be1 m) < 256 by rw [beN_be1 m hm]; exact hm); omega))) <| OA.ps [(2, (.int .i64 (((beN (be1 m)) : Nat) : Int)))] rfl <| OA.nil fun _ => ?_
 refine RA.ret env_ok ?_
 refine ⟨.inr rfl, [(.int .i64 (((beN (be1 m)) : Nat) : Int))], (resL_cons rfl resL_nil), [(r, some ⟨[[(.string (bstr l2)), (.int .i64 0)]], 2, 121, true⟩)], (Less.refl _ _ _), ⟨by rw [beN_be1 m hm] <;> rfl, rfl⟩⟩
theorem cRest {n : Nat} {σ : Store} (hd : Dom n σ) (r : Nat) (l : List UInt8) (hs : l.length < 4294967296) (hr : σ r = some ⟨[[(.string (bstr l)), (.int .i64 0)]], 2, 121, true⟩)  : CQ Try.prog noDen 114 [(Pt r 0 0)] n σ (fun v n' d => v = (.string (bstr l)) ∧ d = [(r, some ⟨[[(.string (bstr ([] : List UInt8))), (.int .i64 0)]], 2, 121, true⟩)]) := by
 have lhr := hd.lt hr
 refine CQ.body (E := env) env_ok hd rfl rfl (by show _ ≤ _; exact of_decide_eq_true (by kernel_rfl)) ?_
 refine RA.sR hd env_ok <| OA.ps [(2, (.string (ByteArray.mk #[])))] rfl <| OA.nil fun _ => RA.sR hd env_ok <| OA.ps [(3, (Pt r 0 0)), (4, (Pt r 0 0))] rfl <| oC 5 (hd.up (by omega)) rfl rfl (cLeft r l hr) fun n1 hn1 => ?_
 refine OA.call (dst := (some 6)) (all := [(Pt r 0 0), (.int .i64 ((l.length : Nat) : Int))]) rfl rfl rfl rfl rfl rfl rfl rfl (CQ.imp (cTake (hd.up (by omega)) r l [] l.length rfl (by rw [List.append_nil]; exact hs) (by rw [List.append_nil]; exact hr)) ?_)
 rintro _ n2 _ ⟨rfl, rfl⟩ hn2
 refine OA.app1 ?_
 refine OA.ps [(2, (.string (bstr l)))] rfl <| OA.nil fun _ => ?_
 refine RA.ret env_ok ?_
 refine ⟨.inr rfl, [(.string (bstr l))], (resL_cons rfl resL_nil), [(r, some ⟨[[(.string (bstr ([] : List UInt8))), (.int .i64 0)]], 2, 121, true⟩)], (Less.refl _ _ _), ⟨rfl, rfl⟩⟩
theorem cFillG {n : Nat} {σ : Store} (hd : Dom n σ) (r k : Nat) (hk : k < 1000000) (l : List UInt8) (hs : (List.replicate (padN k) 0 ++ l).length < 4294967296) (hr : σ r = some ⟨[[(.string (bstr (List.replicate (padN k) 0 ++ l))), (.int .i64 0)]], 2, 121, true⟩)  : CQ Try.prog noDen 90 [(Pt r 0 0), (.int .i64 ((k : Nat) : Int))] n σ (fun v n' d => v = .tuple #[] ∧ d = [(r, some ⟨[[(.string (bstr l)), (.int .i64 0)]], 2, 121, true⟩)]) := by
 have lhr := hd.lt hr
 refine CQ.body (E := env) env_ok hd rfl rfl (by show _ ≤ _; exact of_decide_eq_true (by kernel_rfl)) ?_
 refine RA.sR hd env_ok <| OA.ps [(5, (Pt r 0 0)), (6, (.int .i64 ((k : Nat) : Int)))] rfl <| oC 7 (hd.up (by omega)) rfl rfl (lPad k (by omega)) fun n1 hn1 => OA.ps [(8, (Pt r 0 0))] rfl <| oC 9 (hd.up (by omega)) rfl rfl (cLeft r (List.replicate (padN k) 0 ++ l) hr) fun n2 hn2 => oP 10 (.int .i64 (((padN k) : Nat) : Int)) rfl (Eq.trans (r_min (a := padN k) (b := ((List.replicate (padN k) 0 ++ l)).length) rfl rfl rfl) (by rw [Nat.min_eq_left (by rw [List.length_append, List.length_replicate]; omega)] <;> rfl)) ?_
 refine OA.call (dst := (some 11)) (all := [(Pt r 0 0), (.int .i64 (((padN k) : Nat) : Int))]) rfl rfl rfl rfl rfl rfl rfl rfl (CQ.imp (cTake (hd.up (by omega)) r (List.replicate (padN k) 0) l (padN k) List.length_replicate hs hr) ?_)
 rintro _ n3 _ ⟨rfl, rfl⟩ hn3
 refine OA.app1 ?_
 refine OA.ps [(4, (.string (bstr (List.replicate (padN k) 0))))] rfl <| OA.nil fun _ => RA.sR hd env_ok <| OA.ps [(12, (.string (bstr (List.replicate (padN k) 0)))), (13, (.string (bstr (List.replicate (padN k) 0))))] rfl <| oP 14 (.int .i64 (((padN k) : Nat) : Int)) rfl (Eq.trans (show _ = some (Value.int .i64 (((bstr (List.replicate (padN k) 0)).size : Nat) : Int), _, []) from rfl) (by rw [bstr_size, List.length_replicate] <;> rfl)) <| oP 15 (.string (bstr (List.replicate (padN k) 0))) rfl (Eq.trans (r_cut (a := 0) (b := (padN k)) rfl rfl (fun _ => rfl) (fun _ => rfl) rfl rfl rfl bound_nat (by omega) (by show (padN k) ≤ 3; unfold padN; omega) rfl) (by rw [zeros_cut (by unfold padN; omega)] <;> rfl)) <| oP 16 yF rfl (Eq.trans (r_neqS rfl rfl rfl) (by rw [decide_eq_true rfl] <;> rfl)) <| OA.nil fun _ => RA.condF rfl <| RA.skip env_ok ?_
 refine ⟨.inl rfl, [], resL_nil, [(r, some ⟨[[(.string (bstr l)), (.int .i64 0)]], 2, 121, true⟩)], (Less.refl _ _ _), ⟨rfl, rfl⟩⟩
theorem cPTkN {n : Nat} {σ : Store} (hd : Dom n σ) (r m : Nat) (v : ByteArray) (hm : m < 65536) (hv : v.size ≤ 1000) (l : List UInt8) (hs : l.length < 1000000) (hr : σ r = some ⟨[[(.string (bstr (be2 m ++ (be2 (v.size + 4) ++ (L v ++ (List.replicate (padN v.size) 0 ++ l)))))), (.int .i64 0)]], 2, 121, true⟩)  : CQ Try.prog noDen 100 [(Pt r 0 0)] n σ (fun z n' d => z = (.agg ⟨[(.int .i64 ((m : Nat) : Int)), (.string v)]⟩) ∧ d = [(r, some ⟨[[(.string (bstr l)), (.int .i64 0)]], 2, 121, true⟩)]) := by
 have lhr := hd.lt hr
 have hpv := padN_le v.size
 have hrl : (List.replicate (padN v.size) (0 : UInt8) ++ l).length = padN v.size + l.length := by rw [List.length_append, List.length_replicate]
 refine CQ.body (E := env) env_ok hd rfl rfl (by show _ ≤ _; exact of_decide_eq_true (by kernel_rfl)) ?_
 refine RA.sR hd env_ok <| o1 (some 2) (Pt n 0 0) (n + 1) (n, some ⟨[[(.int .i64 0), (.string ByteArray.empty)]], 2, 35, true⟩) rfl <| OA.nil fun _ => RA.sR hd env_ok <| OA.ps [(5, (Pt r 0 0))] rfl ?_
 refine OA.call (dst := (some 6)) (all := [(Pt r 0 0)]) rfl rfl rfl rfl rfl rfl rfl rfl (CQ.imp (cU16 (hd.of (by omega) (kb1 (by omega))) r m (by omega) (be2 (v.size + 4) ++ (L v ++ (List.replicate (padN v.size) 0 ++ l))) (by simp only [List.length_append, be2_len, L_len, List.length_replicate]; omega) (get_there (by omega) hr)) ?_)
 rintro _ n1 _ ⟨rfl, rfl⟩ hn1
 refine OA.app1 ?_
 refine oP 7 (.agg ⟨[(.int .i64 ((m : Nat) : Int)), (.string ByteArray.empty)]⟩) rfl (by kernel_rfl) <| o1 (some 3) (Pt n1 0 0) (n1 + 1) (n1, some ⟨[[(.int .i64 0), (.string ByteArray.empty)]], 2, 35, true⟩) rfl <| o1 none yU (n1 + 1) (n1, some ⟨[[(.int .i64 ((m : Nat) : Int)), (.string ByteArray.empty)]], 2, 35, true⟩) (rS get_here) <| OA.nil fun _ => RA.sR hd env_ok <| OA.ps [(8, (Pt r 0 0))] rfl ?_
 refine OA.call (dst := (some 9)) (all := [(Pt r 0 0)]) rfl rfl rfl rfl rfl rfl rfl rfl (CQ.imp (cU16 (hd.of (by omega) (kb4 (by omega))) r (v.size + 4) (by omega) (L v ++ (List.replicate (padN v.size) 0 ++ l)) (by simp only [List.length_append, be2_len, L_len, List.length_replicate]; omega) (gt2 (by omega) get_here)) ?_)
 rintro _ n2 _ ⟨rfl, rfl⟩ hn2
 refine OA.app1 ?_
 refine oP 10 (.int .i64 ((v.size : Nat) : Int)) rfl (r_bin rfl rfl rfl (b_sub (by rw [i64_of (by omega) (by omega)]; omega))) <| OA.ps [(4, (.int .i64 ((v.size : Nat) : Int)))] rfl <| OA.nil fun _ => RA.seq hd <| RA.sR hd env_ok <| OA.ps [(11, (Pt r 0 0))] rfl <| oC 12 (v := (.int .i64 0)) (hd.of (by omega) (kb5 (by omega))) rfl rfl (rErr r _ 0 get_here) fun n3 hn3 => oP 13 yT rfl (r_bin rfl rfl rfl (b_eql (by simp))) <| OA.ps [(14, yT), (15, (.int .i64 ((v.size : Nat) : Int)))] rfl ?_
 have hc1 : ¬ (((v.size : Nat) : Int) < 0) := fun hdd => by exfalso; omega
 refine oP 16 yF rfl (Eq.trans (r_bin rfl rfl rfl (b_lss rfl)) (Go.Proofs.YtgajcmanompmcaaV.dF hc1)) <| OA.ps [(17, yF), (18, (.int .i64 ((v.size : Nat) : Int)))] rfl ?_
 have hc2 : ¬ (1000 < ((v.size : Nat) : Int)) := fun hdd => by exfalso; omega
 refine oP 19 yF rfl (Eq.trans (r_bin rfl rfl rfl (b_gtr rfl)) (Go.Proofs.YtgajcmanompmcaaV.dF hc2)) <| OA.ps [(20, yF), (21, yF)] rfl <| OA.nil fun _ => RA.condF rfl <| RA.skip env_ok ?_
 intro _
 refine RA.sR hd env_ok <| OA.ps [(24, (Pt r 0 0)), (25, (.int .i64 ((v.size : Nat) : Int)))] rfl ?_
 refine OA.call (dst := (some 26)) (all := [(Pt r 0 0), (.int .i64 ((v.size : Nat) : Int))]) rfl rfl rfl rfl rfl rfl rfl rfl (CQ.imp (cTake (hd.of (by omega) (kb5 (by omega))) r (L v) (List.replicate (padN v.size) 0 ++ l) v.size (L_len v) (by simp only [List.length_append, L_len, List.length_replicate]; omega) get_here) ?_)
 rintro _ n4 _ ⟨rfl, rfl⟩ hn4
 refine OA.app1 ?_
 refine OA.ps [(27, (Pt n1 0 1))] rfl <| o1 none yU n4 (n1, some ⟨[[(.int .i64 ((m : Nat) : Int)), (.string (bstr (L v)))]], 2, 35, true⟩) (rS (gt2 (by omega) get_here)) <| OA.nil fun _ => RA.weaken hd (LsO (fA get_here get_here (fA (get_there (by omega) get_here) (get_there (by omega) get_here) (fA (gt2 (by omega) get_here) (gt6 (by omega) get_here) fan)))) <| RA.rb [(0, (Pt r 0 0)), (2, (Pt n 0 0)), (3, (Pt n1 0 0)), (4, (.int .i64 ((v.size : Nat) : Int))), (21, yF)] rfl (fun τr5 => ?_)
 refine RA.seq hd <| RA.sR hd env_ok <| OA.ps [(28, (Pt r 0 0))] rfl <| oC 29 (v := (.int .i64 0)) (hd.of (by omega) (kb3 (by omega))) rfl rfl (rErr r _ 0 (get_there (by omega) get_here)) fun n6 hn6 => oP 30 yF rfl (r_bin rfl rfl rfl (b_neq (by simp))) <| OA.nil fun _ => RA.condF rfl <| RA.skip env_ok ?_
 intro _
 refine RA.seq hd <| RA.sR hd env_ok <| OA.ps [(32, (.int .i64 ((v.size : Nat) : Int)))] rfl <| oC 33 (hd.of (by omega) (kb3 (by omega))) rfl rfl (lPad v.size (by omega)) fun n7 hn7 => OA.ps [(34, (Pt r 0 0))] rfl <| oC 35 (hd.of (by omega) (kb3 (by omega))) rfl rfl (cLeft r (List.replicate (padN v.size) 0 ++ l) (get_there (by omega) get_here)) fun n8 hn8 => ?_
 have hc3 : ¬ ((((List.replicate (padN v.size) 0 ++ l).length : Nat) : Int) < (((padN v.size) : Nat) : Int)) := fun hdd => by exfalso; omega
 refine oP 36 yF rfl (Eq.trans (r_bin rfl rfl rfl (b_gtr rfl)) (Go.Proofs.YtgajcmanompmcaaV.dF hc3)) <| OA.nil fun _ => RA.condF rfl <| RA.skip env_ok ?_
 intro _
 refine RA.sR hd env_ok <| OA.ps [(39, (Pt r 0 0)), (40, (.int .i64 ((v.size : Nat) : Int)))] rfl ?_
 refine OA.call (dst := (some 41)) (all := [(Pt r 0 0), (.int .i64 ((v.size : Nat) : Int))]) rfl rfl rfl rfl rfl rfl rfl rfl (CQ.imp (cFillG (hd.of (by omega) (kb3 (by omega))) r v.size (by omega) l (by simp only [List.length_append, List.length_replicate]; omega) (get_there (by omega) get_here)) ?_)
 rintro _ n9 _ ⟨rfl, rfl⟩ hn9
 refine OA.app1 ?_
 refine OA.nil fun _ => RA.seq hd <| RA.sR hd env_ok <| OA.ps [(42, (Pt r 0 0))] rfl <| oC 43 (v := (.int .i64 0)) (hd.of (by omega) (kb4 (by omega))) rfl rfl (rErr r _ 0 get_here) fun n10 hn10 => oP 44 yF rfl (r_bin rfl rfl rfl (b_neq (by simp))) <| OA.nil fun _ => RA.condF rfl <| RA.skip env_ok ?_
 intro _
 refine RA.sR hd env_ok <| oP 46 (.agg ⟨[(.int .i64 ((m : Nat) : Int)), (.string (bstr (L v)))]⟩) rfl (r_loadA rfl rfl rfl rfl (get_there (by omega) get_here) rfl rfl rfl) <| o1 none yU n10 (n, some ⟨[[(.int .i64 ((m : Nat) : Int)), (.string (bstr (L v)))]], 2, 35, true⟩) (rS (gt3 (by omega) get_here)) <| OA.nil fun _ => ?_
 refine RA.ret env_ok ?_
 refine ⟨.inr rfl, [(.agg ⟨[(.int .i64 ((m : Nat) : Int)), (.string (bstr (L v)))]⟩)], (resL_cons (res_cellA rfl rfl rfl get_here rfl rfl rfl) resL_nil), [(r, some ⟨[[(.string (bstr l)), (.int .i64 0)]], 2, 121, true⟩)], (LsO (fA get_here (get_there (by omega) get_here) fan)), ⟨by rw [bstr_Lr] <;> rfl, rfl⟩⟩
theorem cPTk {n : Nat} {σ : Store} (hd : Dom n σ) (r : Nat) (t : Int) (w : ByteArray) (h : prmOk t w) (l : List UInt8) (hs : l.length < 1000000) (hr : σ r = some ⟨[[(.string (bstr (pB t w ++ l))), (.int .i64 0)]], 2, 121, true⟩) : CQ Try.prog noDen 100 [(Pt r 0 0)] n σ (fun z n' d => z = (.agg ⟨[(.int .i64 t), (.string w)]⟩) ∧ d = [(r, some ⟨[[(.string (bstr l)), (.int .i64 0)]], 2, 121, true⟩)]) := by
  obtain ⟨m, rfl⟩ := Int.eq_ofNat_of_zero_le h.1
  have h2 := h.2.1
  rw [pB_ex] at hr
  exact cPTkN hd r m w (by omega) h.2.2 l hs hr
theorem cPAll {n : Nat} {σ : Store} (hd : Dom n σ) (ps : List Prm) (hok : prmsOk ps) (h16 : ps.length ≤ 16)   : CQ Try.prog noDen 118 [(.string (bstr (psL ps)))] n σ (fun v n' d => (ps = [] ∧ v = .tuple ⟨[.slice none 0 0, .int .i64 0]⟩ ∧ d = []) ∨ (ps ≠ [] ∧ ∃ k, n ≤ k ∧ k < n' ∧ v = .tuple ⟨[.slice (some ⟨k, 0, none⟩) ps.length 0, .int .i64 0]⟩ ∧ d = [(k, some (oPrm ps))])) := by
 refine CQ.body (E := env) env_ok hd rfl rfl (by show _ ≤ _; exact of_decide_eq_true (by kernel_rfl)) ?_
 refine RA.sR hd env_ok <| OA.ps [(2, (.slice none 0 0)), (3, (.int .i64 0))] rfl <| OA.nil fun _ => RA.sR hd env_ok <| OA.ps [(7, (.string (bstr (psL ps))))] rfl ?_
 refine OA.call (dst := (some 8)) (all := [(.string (bstr (psL ps)))]) rfl rfl rfl rfl rfl rfl rfl rfl (CQ.imp (cNewR (hd.up (by omega)) (psL ps)) ?_)
 rintro _ n1 _ ⟨rn1, p1n1, p2n1, rfl, rfl⟩ hn1
 refine OA.app1 ?_
 refine OA.ps [(4, (Pt rn1 0 0))] rfl <| OA.nil fun _ => RA.sR hd env_ok <| OA.ps [(5, (.slice none 0 0))] rfl <| OA.nil fun _ => RA.seq hd <| RA.block ?_
 refine RA.loop hd (fun kk_ τ n' D => (∃ i : Nat, kk_ = (ps.length + 1 - i) ∧ n1 ≤ n' ∧ Has τ [(4, (Pt rn1 0 0)), (5, (.slice none 0 0))] ∧ D = [(rn1, some ⟨[[(.string (bstr (psL (ps.drop i)))), (.int .i64 0)]], 2, 121, true⟩)] ∧ (∀ i ∈ keys D, i < n') ∧ i = 0) ∨ (∃ i : Nat, ∃ jo : Nat, kk_ = (ps.length + 1 - i) ∧ n1 ≤ n' ∧ Has τ [(4, (Pt rn1 0 0)), (5, (.slice (some ⟨jo, 0, none⟩) i 0))] ∧ D = [(rn1, some ⟨[[(.string (bstr (psL (ps.drop i)))), (.int .i64 0)]], 2, 121, true⟩), (jo, some (oPrm (ps.take i)))] ∧ (∀ i ∈ keys D, i < n') ∧ 1 ≤ i ∧ i ≤ ps.length ∧ n ≤ jo ∧ jo ≠ rn1)) ((ps.length + 1 - 0)) (.inl (⟨0, rfl, by omega, ⟨rfl, rfl, trivial⟩, rfl, (kb1 (by omega)), rfl⟩)) ?_
 rintro kn2 τ2 n2 Dn2 hSn2
 rcases hSn2 with ⟨i, rfl, hn2, hHn2, rfl, hKn2, hIn2⟩ | ⟨i, jo, rfl, hn2, hHn2, rfl, hKn2, hIn2⟩
 ·
  rw [Has.eq hHn2]
  have hKn2_0 := kk0 hKn2
  clear hKn2
  have hi0 := hIn2
  have hpl := psD_len hok (i := i) h16
  refine RA.seq hd <| RA.sR hd env_ok <| OA.ps [(9, (Pt rn1 0 0))] rfl <| oC 10 (hd.of (by omega) (kb1 (by omega))) rfl rfl (cLeft rn1 (psL (ps.drop i)) get_here) fun n3 hn3 => ?_
  by_cases hc1 : 0 < (((psL (ps.drop i)).length : Nat) : Int)
  ·
   have hil2 : i < ps.length := Nat.lt_of_not_le (fun hh => by rw [psL_end hh] at hc1; simp at hc1)
   refine oP 11 yT rfl (Eq.trans (r_bin rfl rfl rfl (b_gtr rfl)) (Go.Proofs.YtgajcmanompmcaaV.dT hc1)) <| OA.nil fun _ => RA.condT rfl <| RA.skip env_ok ?_
   intro _
   refine RA.block <| RA.seq hd <| RA.sR hd env_ok <| OA.ps [(12, (.slice none 0 0)), (13, (.int .i64 0))] rfl <| oP 14 yF rfl (r_bin rfl rfl rfl (b_eql rfl)) <| OA.nil fun _ => RA.condF rfl <| RA.skip env_ok ?_
   intro _
   refine RA.region env_ok <| OA.ps [(17, (.slice none 0 0)), (18, (Pt rn1 0 0))] rfl ?_
   have hpl2 := psD_len hok (i := i + 1) h16
   refine OA.call (dst := (some 19)) (all := [(Pt rn1 0 0)]) rfl rfl rfl rfl rfl rfl rfl rfl (CQ.imp (cPTk (hd.of (by omega) (kb1 (by omega))) rn1 (ps.getD i dPrm).typ (ps.getD i dPrm).val (hok _ (getD_mem (by omega))) (psL (ps.drop (i + 1))) (by omega) (by rw [← psL_at hil2]; exact get_here)) ?_)
   rintro _ n4 _ ⟨rfl, rfl⟩ hn4
   refine OA.app1 ?_
   refine o1 (some 20) (.slice (some ⟨n4, 0, none⟩) 1 0) (n4 + 1) (n4, some ⟨[[(.int .i64 (ps.getD i dPrm).typ), (.string (ps.getD i dPrm).val)]], 2, 35, true⟩) (by kernel_rfl) <| o1 (some 21) (.slice (some ⟨(n4 + 1), 0, none⟩) 1 0) (n4 + 2) ((n4 + 1), some (oPrm [(ps.getD i dPrm)])) (r_append0R (c := cPrm) (x := (ps.getD i dPrm)) rfl rfl rfl rfl rfl rfl rfl rfl rfl rfl (by decide) get_here (of_decide_eq_true (by kernel_rfl))) <| OA.ps [(5, (.slice (some ⟨(n4 + 1), 0, none⟩) 1 0))] rfl <| OA.nil ?_
   refine ⟨(ps.length + 1 - (i + 1)), by omega, [(rn1, some ⟨[[(.string (bstr (psL (ps.drop (i + 1))))), (.int .i64 0)]], 2, 121, true⟩), ((n4 + 1), some (oPrm [(ps.getD i dPrm)]))], (LsO (fA get_here (gt2 (by omega) get_here) (fA (get_there (by omega) get_here) get_here fan))), .inr (⟨(i + 1), (n4 + 1), rfl, by omega, ⟨rfl, (by rw [show i + 1 = 1 from by omega] <;> rfl), trivial⟩, (by rw [take_one hi0 hil2]), (kb2 (by omega)), ⟨by omega, by omega, by omega, by omega⟩⟩)⟩
  ·
   have hil2 : ps.length ≤ i := Nat.le_of_not_lt (fun hh => by have := psL_pos hh; omega)
   refine oP 11 yF rfl (Eq.trans (r_bin rfl rfl rfl (b_gtr rfl)) (Go.Proofs.YtgajcmanompmcaaV.dF hc1)) <| OA.nil fun _ => RA.condF rfl ?_
   refine RA.exit env_ok ?_
   intro _
   refine RA.seq hd <| RA.sR hd env_ok <| OA.ps [(22, (Pt rn1 0 0))] rfl <| oC 23 (v := (.int .i64 0)) (hd.of (by omega) (kb1 (by omega))) rfl rfl (rErr rn1 _ 0 get_here) fun n5 hn5 => OA.ps [(6, (.int .i64 0))] rfl <| OA.nil fun _ => RA.sR hd env_ok <| OA.ps [(24, (.int .i64 0))] rfl <| oP 25 yF rfl (r_bin rfl rfl rfl (b_neq (by simp))) <| OA.nil fun _ => RA.condF rfl ?_
   refine RA.skip env_ok ?_
   intro _
   refine RA.sR hd env_ok <| OA.ps [(27, (.slice none 0 0)), (2, (.slice none 0 0)), (3, (.int .i64 0))] rfl <| OA.nil fun _ => ?_
   refine RA.ret env_ok ?_
   refine ⟨.inr rfl, [(.slice none 0 0), (.int .i64 0)], (resL_cons rfl (resL_cons rfl resL_nil)), [], (LsO fan), (.inl ⟨List.length_eq_zero_iff.1 (by omega), rfl, rfl⟩)⟩
 ·
  rw [Has.eq hHn2]
  have hKn2_0 := kk0 hKn2
  have hKn2_1 := kk1 hKn2
  clear hKn2
  obtain ⟨hi1, hil, hj1, hj2⟩ := hIn2
  have hpl := psD_len hok (i := i) h16
  refine RA.seq hd <| RA.sR hd env_ok <| OA.ps [(9, (Pt rn1 0 0))] rfl <| oC 10 (hd.of (by omega) (kb2 (by omega))) rfl rfl (cLeft rn1 (psL (ps.drop i)) get_here) fun n6 hn6 => ?_
  by_cases hc2 : 0 < (((psL (ps.drop i)).length : Nat) : Int)
  ·
   have hil2 : i < ps.length := Nat.lt_of_not_le (fun hh => by rw [psL_end hh] at hc2; simp at hc2)
   refine oP 11 yT rfl (Eq.trans (r_bin rfl rfl rfl (b_gtr rfl)) (Go.Proofs.YtgajcmanompmcaaV.dT hc2)) <| OA.nil fun _ => RA.condT rfl <| RA.skip env_ok ?_
   intro _
   refine RA.block <| RA.seq hd <| RA.sR hd env_ok <| OA.ps [(12, (.slice (some ⟨jo, 0, none⟩) i 0)), (13, (.int .i64 ((i : Nat) : Int)))] rfl ?_
   have hc3 : ¬ (((i : Nat) : Int) = 16) := fun hdd => by exfalso; omega
   refine oP 14 yF rfl (Eq.trans (r_bin rfl rfl rfl (b_eql rfl)) (Go.Proofs.YtgajcmanompmcaaV.dF hc3)) <| OA.nil fun _ => RA.condF rfl <| RA.skip env_ok ?_
   intro _
   refine RA.region env_ok <| OA.ps [(17, (.slice (some ⟨jo, 0, none⟩) i 0)), (18, (Pt rn1 0 0))] rfl ?_
   have hpl2 := psD_len hok (i := i + 1) h16
   refine OA.call (dst := (some 19)) (all := [(Pt rn1 0 0)]) rfl rfl rfl rfl rfl rfl rfl rfl (CQ.imp (cPTk (hd.of (by omega) (kb2 (by omega))) rn1 (ps.getD i dPrm).typ (ps.getD i dPrm).val (hok _ (getD_mem (by omega))) (psL (ps.drop (i + 1))) (by omega) (by rw [← psL_at hil2]; exact get_here)) ?_)
   rintro _ n7 _ ⟨rfl, rfl⟩ hn7
   refine OA.app1 ?_
   refine o1 (some 20) (.slice (some ⟨n7, 0, none⟩) 1 0) (n7 + 1) (n7, some ⟨[[(.int .i64 (ps.getD i dPrm).typ), (.string (ps.getD i dPrm).val)]], 2, 35, true⟩) (by kernel_rfl) <| OA.op (dst := (some 21)) (v := (.slice (some ⟨(n7 + 1), 0, none⟩) (i + 1) 0)) (n1 := (n7 + 2)) (d1 := [((n7 + 1), some (oPrm (ps.take (i + 1)))), (jo, none)]) (D' := [((n7 + 1), some (oPrm (ps.take (i + 1)))), (jo, none), (n7, some ⟨[[(.int .i64 (ps.getD i dPrm).typ), (.string (ps.getD i dPrm).val)]], 2, 35, true⟩), (rn1, some ⟨[[(.string (bstr (psL (ps.drop (i + 1))))), (.int .i64 0)]], 2, 121, true⟩), (rn1, some ⟨[[(.string (bstr (psL (ps.drop i)))), (.int .i64 0)]], 2, 121, true⟩), (jo, some (oPrm (ps.take i)))]) rfl rfl rfl (r_appendR (c := cPrm) (l' := (ps.take (i + 1))) rfl rfl rfl rfl rfl rfl rfl rfl rfl rfl (by decide) (gt3 (by omega) get_here) get_here (by rw [take_len (by omega)]) (prm_snoc (by omega)) (by omega) (of_decide_eq_true (by kernel_rfl)) (by omega)) (by omega) rfl <| OA.ps [(5, (.slice (some ⟨(n7 + 1), 0, none⟩) (i + 1) 0))] rfl <| OA.nil ?_
   refine ⟨(ps.length + 1 - (i + 1)), by omega, [(rn1, some ⟨[[(.string (bstr (psL (ps.drop (i + 1))))), (.int .i64 0)]], 2, 121, true⟩), ((n7 + 1), some (oPrm (ps.take (i + 1))))], (LsO (fA get_here (gt3 (by omega) get_here) (fA (get_there (by omega) get_here) get_here fan))), .inr (⟨(i + 1), (n7 + 1), rfl, by omega, ⟨rfl, rfl, trivial⟩, rfl, (kb2 (by omega)), ⟨by omega, by omega, by omega, by omega⟩⟩)⟩
  ·
   have hil2 : ps.length ≤ i := Nat.le_of_not_lt (fun hh => by have := psL_pos hh; omega)
   refine oP 11 yF rfl (Eq.trans (r_bin rfl rfl rfl (b_gtr rfl)) (Go.Proofs.YtgajcmanompmcaaV.dF hc2)) <| OA.nil fun _ => RA.condF rfl ?_
   refine RA.exit env_ok ?_
   intro _
   refine RA.seq hd <| RA.sR hd env_ok <| OA.ps [(22, (Pt rn1 0 0))] rfl <| oC 23 (v := (.int .i64 0)) (hd.of (by omega) (kb2 (by omega))) rfl rfl (rErr rn1 _ 0 get_here) fun n8 hn8 => OA.ps [(6, (.int .i64 0))] rfl <| OA.nil fun _ => RA.sR hd env_ok <| OA.ps [(24, (.int .i64 0))] rfl <| oP 25 yF rfl (r_bin rfl rfl rfl (b_neq (by simp))) <| OA.nil fun _ => RA.condF rfl ?_
   refine RA.skip env_ok ?_
   intro _
   refine RA.sR hd env_ok <| OA.ps [(27, (.slice (some ⟨jo, 0, none⟩) i 0)), (2, (.slice (some ⟨jo, 0, none⟩) i 0)), (3, (.int .i64 0))] rfl <| OA.nil fun _ => ?_
   refine RA.ret env_ok ?_
   refine ⟨.inr rfl, [(.slice (some ⟨jo, 0, none⟩) i 0), (.int .i64 0)], (resL_cons rfl (resL_cons rfl resL_nil)), [(jo, some (oPrm (ps.take i)))], (LsO (fA get_here (get_there (by omega) get_here) fan)), (.inr ⟨fun e => by have h0 := congrArg List.length e; simp only [List.length_nil] at h0; omega, jo, by omega, by omega, by rw [show i = ps.length from by omega] <;> rfl, by rw [take_full (by omega)] <;> rfl⟩)⟩
theorem cPAllN {n : Nat} {σ : Store} (hd : Dom n σ) (ps : List Prm) (hok : prmsOk ps) (h16 : ps.length ≤ 16) (h0 : ps = []) : CQ Try.prog noDen 118 [(.string (bstr (psL ps)))] n σ (fun v n' d => v = .tuple ⟨[.slice none 0 0, .int .i64 0]⟩ ∧ d = []) := by
  refine CQ.imp (cPAll hd ps hok h16) ?_
  rintro v n' d (⟨_, h1, h2⟩ | ⟨h, _⟩)
  · exact ⟨h1, h2⟩
  · exact absurd h0 h
theorem cPAllR {n : Nat} {σ : Store} (hd : Dom n σ) (ps : List Prm) (hok : prmsOk ps) (h16 : ps.length ≤ 16) (h0 : ¬ ps = []) : CQ Try.prog noDen 118 [(.string (bstr (psL ps)))] n σ (fun v n' d => ∃ k, n ≤ k ∧ k < n' ∧ v = .tuple ⟨[.slice (some ⟨k, 0, none⟩) ps.length 0, .int .i64 0]⟩ ∧ d = [(k, some (oPrm ps))]) := by
  refine CQ.imp (cPAll hd ps hok h16) ?_
  rintro v n' d (⟨h, _⟩ | ⟨_, h⟩)
  · exact absurd h h0
  · exact h
theorem cCAll {n : Nat} {σ : Store} (hd : Dom n σ) (cs : List Cau) (hok : causOk cs) (h16 : cs.length ≤ 16)   : CQ Try.prog noDen 117 [(.string (bstr (csL cs)))] n σ (fun v n' d => (cs = [] ∧ v = .tuple ⟨[.slice none 0 0, .int .i64 0]⟩ ∧ d = []) ∨ (cs ≠ [] ∧ ∃ k, n ≤ k ∧ k < n' ∧ v = .tuple ⟨[.slice (some ⟨k, 0, none⟩) cs.length 0, .int .i64 0]⟩ ∧ d = [(k, some (oCau cs))])) := by
 refine CQ.body (E := env) env_ok hd rfl rfl (by show _ ≤ _; exact of_decide_eq_true (by kernel_rfl)) ?_
 refine RA.sR hd env_ok <| OA.ps [(2, (.slice none 0 0)), (3, (.int .i64 0))] rfl <| OA.nil fun _ => RA.sR hd env_ok <| OA.ps [(10, (.string (bstr (csL cs))))] rfl ?_
 by_cases hc1 : cs = []
 ·
  refine OA.call (dst := (some 11)) (all := [(.string (bstr (csL cs)))]) rfl rfl rfl rfl rfl rfl rfl rfl (CQ.imp ((by rw [← csL_c2p]; exact cPAllN (hd.up (by omega)) (cs.map c2p) (ok_c2p hok) (by rw [List.length_map]; omega) (by rw [hc1]; rfl))) ?_)
  rintro _ n1 _ ⟨rfl, rfl⟩ hn1
  refine OA.app0 ?_
  refine OA.ps [(9, (.tuple ⟨[(.slice none 0 0), (.int .i64 0)]⟩)), (12, (.slice none 0 0)), (13, (.int .i64 0)), (4, (.slice none 0 0)), (5, (.int .i64 0))] rfl <| OA.nil fun _ => RA.seq hd <| RA.sR hd env_ok <| OA.ps [(14, (.int .i64 0))] rfl <| oP 15 yF rfl (r_bin rfl rfl rfl (b_neq (by simp))) <| OA.nil fun _ => RA.condF rfl <| RA.skip env_ok ?_
  intro _
  refine RA.sR hd env_ok <| OA.ps [(6, (.slice none 0 0))] rfl <| OA.nil fun _ => RA.seq hd <| RA.sR hd env_ok <| OA.ps [(17, (.slice none 0 0)), (18, (.int .i64 0)), (19, (.int .i64 0))] rfl <| OA.nil fun _ => RA.block ?_
  refine RA.unroll hd ?_
  refine RA.sR hd env_ok <| oP 20 yF rfl (r_bin rfl rfl rfl (b_lss rfl)) <| OA.nil fun _ => RA.seq hd <| RA.condF rfl ?_
  refine RA.exit env_ok ?_
  intro _
  refine RA.sR hd env_ok <| OA.ps [(32, (.slice none 0 0)), (2, (.slice none 0 0)), (3, (.int .i64 0))] rfl <| OA.nil fun _ => ?_
  refine RA.ret env_ok ?_
  refine ⟨.inr rfl, [(.slice none 0 0), (.int .i64 0)], (resL_cons rfl (resL_cons rfl resL_nil)), [], (Less.refl _ _ _), (.inl ⟨hc1, rfl, rfl⟩)⟩
 ·
  refine OA.call (dst := (some 11)) (all := [(.string (bstr (csL cs)))]) rfl rfl rfl rfl rfl rfl rfl rfl (CQ.imp ((show CQ _ _ _ _ _ _ (fun v n' d => ∃ k, n ≤ k ∧ k < n' ∧ v = .tuple ⟨[.slice (some ⟨k, 0, none⟩) cs.length 0, .int .i64 0]⟩ ∧ d = [(k, some (oPrm (cs.map c2p)))]) from by have hq := cPAllR (hd.up (by omega)) (cs.map c2p) (ok_c2p hok) (by rw [List.length_map]; omega) (by simpa using hc1); rw [csL_c2p, List.length_map] at hq; exact hq)) ?_)
  rintro _ n2 _ ⟨kn2, p1n2, p2n2, rfl, rfl⟩ hn2
  refine OA.app1 ?_
  refine OA.ps [(9, (.tuple ⟨[(.slice (some ⟨kn2, 0, none⟩) cs.length 0), (.int .i64 0)]⟩)), (12, (.slice (some ⟨kn2, 0, none⟩) cs.length 0)), (13, (.int .i64 0)), (4, (.slice (some ⟨kn2, 0, none⟩) cs.length 0)), (5, (.int .i64 0))] rfl <| OA.nil fun _ => RA.seq hd <| RA.sR hd env_ok <| OA.ps [(14, (.int .i64 0))] rfl <| oP 15 yF rfl (r_bin rfl rfl rfl (b_neq (by simp))) <| OA.nil fun _ => RA.condF rfl <| RA.skip env_ok ?_
  intro _
  refine RA.sR hd env_ok <| OA.ps [(6, (.slice none 0 0))] rfl <| OA.nil fun _ => RA.seq hd <| RA.sR hd env_ok <| OA.ps [(17, (.slice (some ⟨kn2, 0, none⟩) cs.length 0)), (18, (.int .i64 ((cs.length : Nat) : Int))), (19, (.int .i64 0))] rfl <| OA.nil fun _ => RA.block ?_
  refine RA.loop hd (fun kk_ τ n' D => (∃ i : Nat, kk_ = (cs.length + 1 - i) ∧ n2 ≤ n' ∧ Has τ [(6, (.slice none 0 0)), (17, (.slice (some ⟨kn2, 0, none⟩) cs.length 0)), (18, (.int .i64 ((cs.length : Nat) : Int))), (19, (.int .i64 ((i : Nat) : Int)))] ∧ D = [(kn2, some (oPrm (cs.map c2p)))] ∧ (∀ i ∈ keys D, i < n') ∧ i = 0) ∨ (∃ i : Nat, ∃ jo : Nat, kk_ = (cs.length + 1 - i) ∧ n2 ≤ n' ∧ Has τ [(6, (.slice (some ⟨jo, 0, none⟩) i 0)), (17, (.slice (some ⟨kn2, 0, none⟩) cs.length 0)), (18, (.int .i64 ((cs.length : Nat) : Int))), (19, (.int .i64 ((i : Nat) : Int)))] ∧ D = [(kn2, some (oPrm (cs.map c2p))), (jo, some (oCau (cs.take i)))] ∧ (∀ i ∈ keys D, i < n') ∧ 1 ≤ i ∧ i ≤ cs.length ∧ n ≤ jo ∧ jo ≠ kn2)) ((cs.length + 1 - 0)) (.inl (⟨0, rfl, by omega, ⟨rfl, rfl, rfl, rfl, trivial⟩, rfl, (kb1 (by omega)), rfl⟩)) ?_
  rintro kn3 τ3 n3 Dn3 hSn3
  rcases hSn3 with ⟨i, rfl, hn3, hHn3, rfl, hKn3, hIn3⟩ | ⟨i, jo, rfl, hn3, hHn3, rfl, hKn3, hIn3⟩
  ·
   rw [Has.eq hHn3]
   have hKn3_0 := kk0 hKn3
   clear hKn3
   have hi0 := hIn3
   refine RA.sR hd env_ok ?_
   by_cases hc2 : ((i : Nat) : Int) < ((cs.length : Nat) : Int)
   ·
    refine oP 20 yT rfl (Eq.trans (r_bin rfl rfl rfl (b_lss rfl)) (Go.Proofs.YtgajcmanompmcaaV.dT hc2)) <| OA.nil fun _ => RA.seq hd <| RA.condT rfl <| RA.skip env_ok ?_
    intro _
    refine RA.seq hd <| RA.block <| RA.sR hd env_ok <| oP 21 (Pt kn2 i 0) rfl (r_iaS (l := i) rfl rfl rfl rfl rfl rfl (by omega) (by omega) get_here rfl (by omega)) <| oP 22 (.agg ⟨(cPrm ((cs.map c2p).getD i dPrm))⟩) rfl (r_loadR (c := cPrm) dPrm rfl rfl rfl rfl get_here (by rw [List.length_map]; omega) rfl) <| o1 (some 8) (Pt n3 0 0) (n3 + 1) (n3, some ⟨[[(.int .i64 0), (.string ByteArray.empty)]], 2, 35, true⟩) rfl <| o1 none yU (n3 + 1) (n3, some ⟨[(cPrm ((cs.map c2p).getD i dPrm))], 2, 35, true⟩) (rS get_here) <| OA.nil fun _ => RA.region env_ok <| OA.ps [(23, (.slice none 0 0)), (24, (Pt n3 0 0))] rfl <| oL 25 (.int .i64 ((cs.map c2p).getD i dPrm).typ) get_here ?_
    refine OA.ps [(26, (Pt n3 0 1))] rfl <| oL 27 (.string ((cs.map c2p).getD i dPrm).val) get_here <| oP 28 (.agg ⟨[(.int .i64 ((cs.map c2p).getD i dPrm).typ), (.string ((cs.map c2p).getD i dPrm).val)]⟩) rfl (by kernel_rfl) <| o1 (some 29) (.slice (some ⟨(n3 + 1), 0, none⟩) 1 0) (n3 + 2) ((n3 + 1), some ⟨[[(.int .i64 ((cs.map c2p).getD i dPrm).typ), (.string ((cs.map c2p).getD i dPrm).val)]], 2, 99, true⟩) (by kernel_rfl) <| o1 (some 30) (.slice (some ⟨(n3 + 2), 0, none⟩) 1 0) (n3 + 3) ((n3 + 2), some (oCau [(Cau.mk (((cs.map c2p).getD i dPrm).typ) (((cs.map c2p).getD i dPrm).val))])) (r_append0R (c := cCau) (x := (Cau.mk (((cs.map c2p).getD i dPrm).typ) (((cs.map c2p).getD i dPrm).val))) rfl rfl rfl rfl rfl rfl rfl rfl rfl rfl (by decide) get_here (of_decide_eq_true (by kernel_rfl))) <| OA.ps [(6, (.slice (some ⟨(n3 + 2), 0, none⟩) 1 0))] rfl <| OA.nil fun _ => RA.region env_ok <| oP 31 (.int .i64 (((i + 1) : Nat) : Int)) rfl (r_bin rfl rfl rfl (b_add (i64_eq (by omega)))) <| OA.ps [(19, (.int .i64 (((i + 1) : Nat) : Int)))] rfl <| OA.nil ?_
    refine ⟨(cs.length + 1 - (i + 1)), by omega, [(kn2, some (oPrm (cs.map c2p))), ((n3 + 2), some (oCau [(Cau.mk (((cs.map c2p).getD i dPrm).typ) (((cs.map c2p).getD i dPrm).val))]))], (LsO (fA get_here (gt4 (by omega) get_here) (fA (get_there (by omega) get_here) get_here fan))), .inr (⟨(i + 1), (n3 + 2), rfl, by omega, ⟨(by rw [show i + 1 = 1 from by omega] <;> rfl), rfl, rfl, rfl, trivial⟩, (by rw [cau_one hi0 (by omega)]), (kb2 (by omega)), ⟨by omega, by omega, by omega, by omega⟩⟩)⟩
   ·
    refine oP 20 yF rfl (Eq.trans (r_bin rfl rfl rfl (b_lss rfl)) (Go.Proofs.YtgajcmanompmcaaV.dF hc2)) <| OA.nil fun _ => RA.seq hd <| RA.condF rfl ?_
    refine RA.exit env_ok ?_
    intro _
    refine RA.sR hd env_ok <| OA.ps [(32, (.slice none 0 0)), (2, (.slice none 0 0)), (3, (.int .i64 0))] rfl <| OA.nil fun _ => ?_
    refine RA.ret env_ok ?_
    refine ⟨.inr rfl, [(.slice none 0 0), (.int .i64 0)], (resL_cons rfl (resL_cons rfl resL_nil)), [], (LsO fan), (.inl ⟨List.length_eq_zero_iff.1 (by omega), rfl, rfl⟩)⟩
  ·
   rw [Has.eq hHn3]
   have hKn3_0 := kk0 hKn3
   have hKn3_1 := kk1 hKn3
   clear hKn3
   obtain ⟨hi1, hil, hj1, hj2⟩ := hIn3
   refine RA.sR hd env_ok ?_
   by_cases hc3 : ((i : Nat) : Int) < ((cs.length : Nat) : Int)
   ·
    refine oP 20 yT rfl (Eq.trans (r_bin rfl rfl rfl (b_lss rfl)) (Go.Proofs.YtgajcmanompmcaaV.dT hc3)) <| OA.nil fun _ => RA.seq hd <| RA.condT rfl <| RA.skip env_ok ?_
    intro _
    refine RA.seq hd <| RA.block <| RA.sR hd env_ok <| oP 21 (Pt kn2 i 0) rfl (r_iaS (l := i) rfl rfl rfl rfl rfl rfl (by omega) (by omega) get_here rfl (by omega)) <| oP 22 (.agg ⟨(cPrm ((cs.map c2p).getD i dPrm))⟩) rfl (r_loadR (c := cPrm) dPrm rfl rfl rfl rfl get_here (by rw [List.length_map]; omega) rfl) <| o1 (some 8) (Pt n3 0 0) (n3 + 1) (n3, some ⟨[[(.int .i64 0), (.string ByteArray.empty)]], 2, 35, true⟩) rfl <| o1 none yU (n3 + 1) (n3, some ⟨[(cPrm ((cs.map c2p).getD i dPrm))], 2, 35, true⟩) (rS get_here) <| OA.nil fun _ => RA.region env_ok <| OA.ps [(23, (.slice (some ⟨jo, 0, none⟩) i 0)), (24, (Pt n3 0 0))] rfl <| oL 25 (.int .i64 ((cs.map c2p).getD i dPrm).typ) get_here ?_
    refine OA.ps [(26, (Pt n3 0 1))] rfl <| oL 27 (.string ((cs.map c2p).getD i dPrm).val) get_here <| oP 28 (.agg ⟨[(.int .i64 ((cs.map c2p).getD i dPrm).typ), (.string ((cs.map c2p).getD i dPrm).val)]⟩) rfl (by kernel_rfl) <| o1 (some 29) (.slice (some ⟨(n3 + 1), 0, none⟩) 1 0) (n3 + 2) ((n3 + 1), some ⟨[[(.int .i64 ((cs.map c2p).getD i dPrm).typ), (.string ((cs.map c2p).getD i dPrm).val)]], 2, 99, true⟩) (by kernel_rfl) <| OA.op (dst := (some 30)) (v := (.slice (some ⟨(n3 + 2), 0, none⟩) (i + 1) 0)) (n1 := (n3 + 3)) (d1 := [((n3 + 2), some (oCau (cs.take (i + 1)))), (jo, none)]) (D' := [((n3 + 2), some (oCau (cs.take (i + 1)))), (jo, none), ((n3 + 1), some ⟨[[(.int .i64 ((cs.map c2p).getD i dPrm).typ), (.string ((cs.map c2p).getD i dPrm).val)]], 2, 99, true⟩), (n3, some ⟨[(cPrm ((cs.map c2p).getD i dPrm))], 2, 35, true⟩), (n3, some ⟨[[(.int .i64 0), (.string ByteArray.empty)]], 2, 35, true⟩), (kn2, some (oPrm (cs.map c2p))), (jo, some (oCau (cs.take i)))]) rfl rfl rfl (r_appendR (c := cCau) (l' := (cs.take (i + 1))) rfl rfl rfl rfl rfl rfl rfl rfl rfl rfl (by decide) (gt4 (by omega) get_here) get_here (by rw [take_len (by omega)]) (cau_snoc (by omega)) (by omega) (of_decide_eq_true (by kernel_rfl)) (by omega)) (by omega) rfl <| OA.ps [(6, (.slice (some ⟨(n3 + 2), 0, none⟩) (i + 1) 0))] rfl <| OA.nil fun _ => RA.region env_ok <| oP 31 (.int .i64 (((i + 1) : Nat) : Int)) rfl (r_bin rfl rfl rfl (b_add (i64_eq (by omega)))) <| OA.ps [(19, (.int .i64 (((i + 1) : Nat) : Int)))] rfl <| OA.nil ?_
    refine ⟨(cs.length + 1 - (i + 1)), by omega, [(kn2, some (oPrm (cs.map c2p))), ((n3 + 2), some (oCau (cs.take (i + 1))))], (LsO (fA get_here (gt5 (by omega) get_here) (fA (get_there (by omega) get_here) get_here fan))), .inr (⟨(i + 1), (n3 + 2), rfl, by omega, ⟨rfl, rfl, rfl, rfl, trivial⟩, rfl, (kb2 (by omega)), ⟨by omega, by omega, by omega, by omega⟩⟩)⟩
   ·
    refine oP 20 yF rfl (Eq.trans (r_bin rfl rfl rfl (b_lss rfl)) (Go.Proofs.YtgajcmanompmcaaV.dF hc3)) <| OA.nil fun _ => RA.seq hd <| RA.condF rfl ?_
    refine RA.exit env_ok ?_
    intro _
    refine RA.sR hd env_ok <| OA.ps [(32, (.slice (some ⟨jo, 0, none⟩) i 0)), (2, (.slice (some ⟨jo, 0, none⟩) i 0)), (3, (.int .i64 0))] rfl <| OA.nil fun _ => ?_
    refine RA.ret env_ok ?_
    refine ⟨.inr rfl, [(.slice (some ⟨jo, 0, none⟩) i 0), (.int .i64 0)], (resL_cons rfl (resL_cons rfl resL_nil)), [(jo, some (oCau (cs.take i)))], (LsO (fA get_here (get_there (by omega) get_here) fan)), (.inr ⟨fun e => by have h0 := congrArg List.length e; simp only [List.length_nil] at h0; omega, jo, by omega, by omega, by rw [show i = cs.length from by omega] <;> rfl, by rw [take_full (by omega)] <;> rfl⟩)⟩
theorem cCAllN {n : Nat} {σ : Store} (hd : Dom n σ) (cs : List Cau) (hok : causOk cs) (h16 : cs.length ≤ 16) (h0 : cs = []) : CQ Try.prog noDen 117 [(.string (bstr (csL cs)))] n σ (fun v n' d => v = .tuple ⟨[.slice none 0 0, .int .i64 0]⟩ ∧ d = []) := by
  refine CQ.imp (cCAll hd cs hok h16) ?_
  rintro v n' d (⟨_, h1, h2⟩ | ⟨h, _⟩)
  · exact ⟨h1, h2⟩
  · exact absurd h0 h
theorem cCAllR {n : Nat} {σ : Store} (hd : Dom n σ) (cs : List Cau) (hok : causOk cs) (h16 : cs.length ≤ 16) (h0 : ¬ cs = []) : CQ Try.prog noDen 117 [(.string (bstr (csL cs)))] n σ (fun v n' d => ∃ k, n ≤ k ∧ k < n' ∧ v = .tuple ⟨[.slice (some ⟨k, 0, none⟩) cs.length 0, .int .i64 0]⟩ ∧ d = [(k, some (oCau cs))]) := by
  refine CQ.imp (cCAll hd cs hok h16) ?_
  rintro v n' d (⟨h, _⟩ | ⟨_, h⟩)
  · exact absurd h h0
  · exact h
theorem cParN {n : Nat} {σ : Store} (hd : Dom n σ) (r : Nat) (ps : List Prm) (hok : prmsOk ps) (h16 : ps.length ≤ 16) (h0 : ps = []) (hr : σ r = some ⟨[[(.string (bstr (psL ps))), (.int .i64 0)]], 2, 121, true⟩)  : CQ Try.prog noDen 115 [(Pt r 0 0)] n σ (fun v n' d => v = .slice none 0 0 ∧ d = [(r, some ⟨[[(.string (bstr ([] : List UInt8))), (.int .i64 0)]], 2, 121, true⟩)]) := by
 have lhr := hd.lt hr
 refine CQ.body (E := env) env_ok hd rfl rfl (by show _ ≤ _; exact of_decide_eq_true (by kernel_rfl)) ?_
 refine RA.sR hd env_ok <| OA.ps [(2, (.slice none 0 0))] rfl <| OA.nil fun _ => RA.sR hd env_ok <| OA.ps [(6, (Pt r 0 0))] rfl ?_
 refine OA.call (dst := (some 7)) (all := [(Pt r 0 0)]) rfl rfl rfl rfl rfl rfl rfl rfl (CQ.imp (cRest (hd.up (by omega)) r (psL ps) (by have := psD_len hok (i := 0) h16; rw [List.drop_zero] at this; omega) hr) ?_)
 rintro _ n1 _ ⟨rfl, rfl⟩ hn1
 refine OA.app1 ?_
 refine OA.call (dst := (some 8)) (all := [(.string (bstr (psL ps)))]) rfl rfl rfl rfl rfl rfl rfl rfl (CQ.imp (cPAllN (hd.of (by omega) (kb1 (by omega))) ps hok h16 h0) ?_)
 rintro _ n2 _ ⟨rfl, rfl⟩ hn2
 refine OA.app0 ?_
 refine OA.ps [(5, (.tuple ⟨[(.slice none 0 0), (.int .i64 0)]⟩)), (9, (.slice none 0 0)), (10, (.int .i64 0)), (3, (.slice none 0 0)), (4, (.int .i64 0))] rfl <| OA.nil fun _ => RA.seq hd <| RA.sR hd env_ok <| OA.ps [(11, (.int .i64 0))] rfl <| oP 12 yF rfl (r_bin rfl rfl rfl (b_neq (by simp))) <| OA.nil fun _ => RA.condF rfl <| RA.skip env_ok ?_
 intro _
 refine RA.sR hd env_ok <| OA.ps [(16, (.slice none 0 0)), (2, (.slice none 0 0))] rfl <| OA.nil fun _ => ?_
 refine RA.ret env_ok ?_
 refine ⟨.inr rfl, [(.slice none 0 0)], (resL_cons rfl resL_nil), [(r, some ⟨[[(.string (bstr ([] : List UInt8))), (.int .i64 0)]], 2, 121, true⟩)], (Less.refl _ _ _), ⟨rfl, rfl⟩⟩
theorem cParR {n : Nat} {σ : Store} (hd : Dom n σ) (r : Nat) (ps : List Prm) (hok : prmsOk ps) (h16 : ps.length ≤ 16) (h0 : ¬ ps = []) (hr : σ r = some ⟨[[(.string (bstr (psL ps))), (.int .i64 0)]], 2, 121, true⟩)  : CQ Try.prog noDen 115 [(Pt r 0 0)] n σ (fun v n' d => ∃ k, n ≤ k ∧ k < n' ∧ v = .slice (some ⟨k, 0, none⟩) ps.length 0 ∧ d = [(k, some (oPrm ps)), (r, some ⟨[[(.string (bstr ([] : List UInt8))), (.int .i64 0)]], 2, 121, true⟩)]) := by
 have lhr := hd.lt hr
 refine CQ.body (E := env) env_ok hd rfl rfl (by show _ ≤ _; exact of_decide_eq_true (by kernel_rfl)) ?_
 refine RA.sR hd env_ok <| OA.ps [(2, (.slice none 0 0))] rfl <| OA.nil fun _ => RA.sR hd env_ok <| OA.ps [(6, (Pt r 0 0))] rfl ?_
 refine OA.call (dst := (some 7)) (all := [(Pt r 0 0)]) rfl rfl rfl rfl rfl rfl rfl rfl (CQ.imp (cRest (hd.up (by omega)) r (psL ps) (by have := psD_len hok (i := 0) h16; rw [List.drop_zero] at this; omega) hr) ?_)
 rintro _ n1 _ ⟨rfl, rfl⟩ hn1
 refine OA.app1 ?_
 refine OA.call (dst := (some 8)) (all := [(.string (bstr (psL ps)))]) rfl rfl rfl rfl rfl rfl rfl rfl (CQ.imp (cPAllR (hd.of (by omega) (kb1 (by omega))) ps hok h16 h0) ?_)
 rintro _ n2 _ ⟨kn2, p1n2, p2n2, rfl, rfl⟩ hn2
 refine OA.app1 ?_
 refine OA.ps [(5, (.tuple ⟨[(.slice (some ⟨kn2, 0, none⟩) ps.length 0), (.int .i64 0)]⟩)), (9, (.slice (some ⟨kn2, 0, none⟩) ps.length 0)), (10, (.int .i64 0)), (3, (.slice (some ⟨kn2, 0, none⟩) ps.length 0)), (4, (.int .i64 0))] rfl <| OA.nil fun _ => RA.seq hd <| RA.sR hd env_ok <| OA.ps [(11, (.int .i64 0))] rfl <| oP 12 yF rfl (r_bin rfl rfl rfl (b_neq (by simp))) <| OA.nil fun _ => RA.condF rfl <| RA.skip env_ok ?_
 intro _
 refine RA.sR hd env_ok <| OA.ps [(16, (.slice (some ⟨kn2, 0, none⟩) ps.length 0)), (2, (.slice (some ⟨kn2, 0, none⟩) ps.length 0))] rfl <| OA.nil fun _ => ?_
 refine RA.ret env_ok ?_
 refine ⟨.inr rfl, [(.slice (some ⟨kn2, 0, none⟩) ps.length 0)], (resL_cons rfl resL_nil), [(kn2, some (oPrm ps)), (r, some ⟨[[(.string (bstr ([] : List UInt8))), (.int .i64 0)]], 2, 121, true⟩)], (Less.refl _ _ _), ⟨kn2, by omega, by omega, rfl, rfl⟩⟩
end Go.Proofs.Ytgajcmanompmcaa.Vt
/- Cx2: walks through functions of the program, by the calculus; written by a program of this workplace. -/
namespace Go.Proofs.Ytgajcmanompmcaa.Vt
open Go Go.Proofs Go.Proofs.YtgajcmanompmcaaV
set_option maxRecDepth 100000
set_option linter.unusedVariables false
set_option linter.unusedSimpArgs false
set_option maxHeartbeats 8000000
theorem rq_full {α : Type} {c : α → List Value} {σ' : Store} {j i sz e : Nat} {w : Bool} {l : List α} (h : σ' j = some ⟨(l.take i).map c, sz, e, w⟩) (h1 : l.length ≤ i) (h2 : i ≤ l.length) : RowQ σ' e sz (.slice (some ⟨j, 0, none⟩) i 0) (l.map c) := by
  have hq := RowQ.new (c := c) h (take_len h2)
  rw [take_full h1] at hq; exact hq
theorem tk_snoc {α : Type} {c : α → List Value} {l : List α} {i : Nat} {d0 : α} (h : i < l.length) : ((l.take i).map c) ++ [c (l.getD i d0)] = (l.take (i + 1)).map c := by rw [← take_snoc (d0 := d0) h, List.map_append]; rfl
theorem gs_at {l : List Gp} {i : Nat} {X : List UInt8} (h : i < l.length) : gsL (l.drop i) ++ X = be2 (l.getD i dGp).lo.toNat ++ (be2 (l.getD i dGp).hi.toNat ++ (gsL (l.drop (i + 1)) ++ X)) := by
  rw [List.drop_eq_getElem_cons h, show l.getD i dGp = l[i] from by simp [List.getD, List.getElem?_eq_getElem h]]
  unfold gsL
  rw [List.flatMap_cons]
  simp only [List.append_assoc]
theorem ds_at {l : List Dp} {i : Nat} (h : i < l.length) : dsL (l.drop i) = be4 (l.getD i dDp).x ++ dsL (l.drop (i + 1)) := by
  rw [List.drop_eq_getElem_cons h, show l.getD i dDp = l[i] from by simp [List.getD, List.getElem?_eq_getElem h]]
  unfold dsL
  rw [List.flatMap_cons]
theorem gs_end {l : List Gp} {i : Nat} {X : List UInt8} (h : l.length ≤ i) : gsL (l.drop i) ++ X = X := by rw [List.drop_of_length_le h]; rfl
theorem ds_end {l : List Dp} {i : Nat} (h : l.length ≤ i) : dsL (l.drop i) = [] := by rw [List.drop_of_length_le h]; rfl
abbrev gapE (v : Value) (gs : List Gp) : Chk := Chk.mk 0 0 0#32 0 0 0#32 ByteArray.empty 0#32 0#32 0 0 (.slice none 0 0) (.slice none 0 0) v (.slice none 0 0) [] [] gs []
theorem gd_gapE {σ : Store} {v : Value} {gs : List Gp} (h : RowQ σ 101 2 v (gs.map cGp)) (h18 : gs.length ≤ 18) (hgr : ∀ g ∈ gs, g.lo < 9223372036854775808) : gd σ (gapE v gs) := ⟨.nil, .nil, h, .nil, Nat.zero_le _, Nat.zero_le _, h18, Nat.zero_le _, by show (0 : Int) < 9223372036854775808; omega, hgr⟩
def yEq (d y : Chk) : Prop := y.typ = d.typ ∧ y.flags = d.flags ∧ y.tsn = d.tsn ∧ y.stream = d.stream ∧ y.ssn = d.ssn ∧ y.proto = d.proto ∧ y.data = d.data ∧ y.tag = d.tag ∧ y.rwnd = d.rwnd ∧ y.outs = d.outs ∧ y.ins = d.ins ∧ y.ps = d.ps ∧ y.cs = d.cs ∧ y.gs = d.gs ∧ y.ds = d.ds
theorem plain_eq {d : Chk} (h : hasntP d) : yEq d (plainD d) := by
  obtain ⟨a1, a2, a3, a4, a5, a6, a8, a9, a7, a10, a11, a12, a13⟩ := h
  have nl : ∀ {α : Type} {l : List α} {p : Prop} [Decidable p], (p ∨ l.length = 0) → (if p then l else []) = l := fun {α l p _} h => by
    by_cases hp : p
    · rw [if_pos hp]
    · rw [if_neg hp, List.length_eq_zero_iff.1 (h.resolve_left hp)]
  exact ⟨rfl, rfl, ((c_w _ d.tsn).2 a1).symm, ((c_i _ d.stream).2 a2).symm, ((c_i _ d.ssn).2 a3).symm, ((c_w _ d.proto).2 a4).symm, ((c_s _ d.data).2 a5).symm, ((c_w _ d.tag).2 a6).symm, ((c_w _ d.rwnd).2 a7).symm, ((c_i _ d.outs).2 a8).symm, ((c_i _ d.ins).2 a9).symm, nl a10, nl a11, nl a12, nl a13⟩
theorem may_yEq {d y : Chk} (h : yEq d y) (hm : mayP d) : mayP y := by
  obtain ⟨h1, h2, h3, h4, h5, h6, h7, h8, h9, h10, h11, h12, h13, h14, h15⟩ := h
  cases d
  cases y
  dsimp only at h1 h2 h3 h4 h5 h6 h7 h8 h9 h10 h11 h12 h13 h14 h15
  subst h1 h2 h3 h4 h5 h6 h7 h8 h9 h10 h11 h12 h13 h14 h15
  exact ⟨hm.1, ⟨hm.2.1.lists, hm.2.1.w1, hm.2.1.w2, hm.2.1.w3, hm.2.1.w4, hm.2.1.data, hm.2.1.gaps, hm.2.1.dups⟩, hm.2.2.1, hm.2.2.2⟩
abbrev xCx21 (d : Chk) (jg : Nat) (i : Nat) (n22 : Nat) (m : Nat) : List Value := [(.int .i64 d.typ), (.int .i64 d.flags), (W d.tsn), (.int .i64 0), (.int .i64 0), (.int .u32 0), (.string ByteArray.empty), (.int .u32 0), (W d.rwnd), (.int .i64 0), (.int .i64 0), (.slice none 0 0), (.slice none 0 0), (.slice (some ⟨jg, 0, none⟩) i 0), (.slice (some ⟨(n22 + 1), 0, none⟩) (m + 1) 0)]
abbrev xCx22 (d : Chk) (jg : Nat) (i : Nat) (n19 : Nat) : List Value := [(.int .i64 d.typ), (.int .i64 d.flags), (W d.tsn), (.int .i64 0), (.int .i64 0), (.int .u32 0), (.string ByteArray.empty), (.int .u32 0), (W d.rwnd), (.int .i64 0), (.int .i64 0), (.slice none 0 0), (.slice none 0 0), (.slice (some ⟨jg, 0, none⟩) i 0), (.slice (some ⟨(n19 + 1), 0, none⟩) 1 0)]
abbrev xCx23 (d : Chk) (jg : Nat) (i : Nat) (jd : Nat) (m : Nat) : List Value := [(.int .i64 d.typ), (.int .i64 d.flags), (W d.tsn), (.int .i64 0), (.int .i64 0), (.int .u32 0), (.string ByteArray.empty), (.int .u32 0), (W d.rwnd), (.int .i64 0), (.int .i64 0), (.slice none 0 0), (.slice none 0 0), (.slice (some ⟨jg, 0, none⟩) i 0), (.slice (some ⟨jd, 0, none⟩) m 0)]
abbrev xCx24 (d : Chk) (n13 : Nat) (m : Nat) : List Value := [(.int .i64 d.typ), (.int .i64 d.flags), (W d.tsn), (.int .i64 0), (.int .i64 0), (.int .u32 0), (.string ByteArray.empty), (.int .u32 0), (W d.rwnd), (.int .i64 0), (.int .i64 0), (.slice none 0 0), (.slice none 0 0), (.slice none 0 0), (.slice (some ⟨(n13 + 1), 0, none⟩) (m + 1) 0)]
abbrev xCx25 (d : Chk) (n17 : Nat) (i : Nat) : List Value := [(.int .i64 d.typ), (.int .i64 d.flags), (W d.tsn), (.int .i64 0), (.int .i64 0), (.int .u32 0), (.string ByteArray.empty), (.int .u32 0), (W d.rwnd), (.int .i64 0), (.int .i64 0), (.slice none 0 0), (.slice none 0 0), (.slice (some ⟨(n17 + 1), 0, none⟩) (i + 1) 0), (.slice none 0 0)]
abbrev xCx26 (d : Chk) (n10 : Nat) : List Value := [(.int .i64 d.typ), (.int .i64 d.flags), (W d.tsn), (.int .i64 0), (.int .i64 0), (.int .u32 0), (.string ByteArray.empty), (.int .u32 0), (W d.rwnd), (.int .i64 0), (.int .i64 0), (.slice none 0 0), (.slice none 0 0), (.slice none 0 0), (.slice (some ⟨(n10 + 1), 0, none⟩) 1 0)]
abbrev xCx27 (d : Chk) (n8 : Nat) : List Value := [(.int .i64 d.typ), (.int .i64 d.flags), (W d.tsn), (.int .i64 0), (.int .i64 0), (.int .u32 0), (.string ByteArray.empty), (.int .u32 0), (W d.rwnd), (.int .i64 0), (.int .i64 0), (.slice none 0 0), (.slice none 0 0), (.slice (some ⟨(n8 + 1), 0, none⟩) 1 0), (.slice none 0 0)]
abbrev xCx28 (d : Chk) (jg : Nat) (i : Nat) : List Value := [(.int .i64 d.typ), (.int .i64 d.flags), (W d.tsn), (.int .i64 0), (.int .i64 0), (.int .u32 0), (.string ByteArray.empty), (.int .u32 0), (W d.rwnd), (.int .i64 0), (.int .i64 0), (.slice none 0 0), (.slice none 0 0), (.slice (some ⟨jg, 0, none⟩) i 0), (.slice none 0 0)]
abbrev xCx29 (d : Chk) (jd : Nat) (m : Nat) : List Value := [(.int .i64 d.typ), (.int .i64 d.flags), (W d.tsn), (.int .i64 0), (.int .i64 0), (.int .u32 0), (.string ByteArray.empty), (.int .u32 0), (W d.rwnd), (.int .i64 0), (.int .i64 0), (.slice none 0 0), (.slice none 0 0), (.slice none 0 0), (.slice (some ⟨jd, 0, none⟩) m 0)]
abbrev xCx210 (d : Chk) : List Value := [(.int .i64 d.typ), (.int .i64 d.flags), (W d.tsn), (.int .i64 0), (.int .i64 0), (.int .u32 0), (.string ByteArray.empty), (.int .u32 0), (W d.rwnd), (.int .i64 0), (.int .i64 0), (.slice none 0 0), (.slice none 0 0), (.slice none 0 0), (.slice none 0 0)]
abbrev xCx211 (d : Chk) (i : Nat) : List Value := [(.string (bstr (be2 (d.gs.getD i dGp).hi.toNat ++ (gsL (d.gs.drop (i + 1)) ++ dsL d.ds)))), (.int .i64 0)]
theorem cU8z {n : Nat} {σ : Store} (hd : Dom n σ) (r : Nat) (t : Int) (h0 : 0 ≤ t) (h1 : t < 256) (l2 : List UInt8) (hs : (be1 t.toNat ++ l2).length < 4294967296) (hr : σ r = some ⟨[[(.string (bstr (be1 t.toNat ++ l2))), (.int .i64 0)]], 2, 121, true⟩) : CQ Try.prog noDen 86 [(Pt r 0 0)] n σ (fun v n' d => v = .int .i64 t ∧ d = [(r, some ⟨[[(.string (bstr l2)), (.int .i64 0)]], 2, 121, true⟩)]) := by
  obtain ⟨m, rfl⟩ := Int.eq_ofNat_of_zero_le h0
  exact cU8 hd r m (by omega) l2 hs hr
theorem cU16z {n : Nat} {σ : Store} (hd : Dom n σ) (r : Nat) (t : Int) (h0 : 0 ≤ t) (h1 : t < 65536) (l2 : List UInt8) (hs : (be2 t.toNat ++ l2).length < 4294967296) (hr : σ r = some ⟨[[(.string (bstr (be2 t.toNat ++ l2))), (.int .i64 0)]], 2, 121, true⟩) : CQ Try.prog noDen 61 [(Pt r 0 0)] n σ (fun v n' d => v = .int .i64 t ∧ d = [(r, some ⟨[[(.string (bstr l2)), (.int .i64 0)]], 2, 121, true⟩)]) := by
  obtain ⟨m, rfl⟩ := Int.eq_ofNat_of_zero_le h0
  exact cU16 hd r m (by omega) l2 hs hr
theorem cRestD {n : Nat} {σ : Store} (hd : Dom n σ) (r : Nat) (w : ByteArray) (hs : w.size < 4294967296) (hr : σ r = some ⟨[[(.string (bstr (L w))), (.int .i64 0)]], 2, 121, true⟩) : CQ Try.prog noDen 114 [(Pt r 0 0)] n σ (fun v n' d => v = .string w ∧ d = [(r, some ⟨[[(.string (bstr ([] : List UInt8))), (.int .i64 0)]], 2, 121, true⟩)]) := by
  have h := cRest hd r (L w) (by rw [L_len]; exact hs) hr
  rw [bstr_Lr] at h
  exact h
set_option maxHeartbeats 16000000 in
theorem cSack {n : Nat} {σ : Store} (hd : Dom n σ) (r c : Nat) (hrc : r ≠ c) (d : Chk) (hm : mayP d) (h : gd σ d) (hr : σ r = some ⟨[[(.string (bstr (be4 d.tsn ++ (be4 d.rwnd ++ (be2 d.gs.length ++ (be2 d.ds.length ++ (gsL d.gs ++ dsL d.ds))))))), (.int .i64 0)]], 2, 121, true⟩) (hc : σ c = some ⟨[[(.int .i64 d.typ), (.int .i64 d.flags), (.int .u32 0), (.int .i64 0), (.int .i64 0), (.int .u32 0), (.string ByteArray.empty), (.int .u32 0), (.int .u32 0), (.int .i64 0), (.int .i64 0), (.slice none 0 0), (.slice none 0 0), (.slice none 0 0), (.slice none 0 0)]], 15, 53, true⟩)  : CQ Try.prog noDen 116 [(Pt r 0 0), (Pt c 0 0)] n σ (fun v n' D_ => v = .tuple #[] ∧ ∃ gv dv, app D_ σ c = some ⟨[[(.int .i64 d.typ), (.int .i64 d.flags), (W d.tsn), (.int .i64 0), (.int .i64 0), (.int .u32 0), (.string ByteArray.empty), (.int .u32 0), (W d.rwnd), (.int .i64 0), (.int .i64 0), (.slice none 0 0), (.slice none 0 0), gv, dv]], 15, 53, true⟩ ∧ app D_ σ r = some ⟨[[(.string (bstr ([] : List UInt8))), (.int .i64 0)]], 2, 121, true⟩ ∧ RowQ (app D_ σ) 101 2 gv (d.gs.map cGp) ∧ RowQ (app D_ σ) 36 1 dv (d.ds.map cDp) ∧ ∀ q_ ∈ keys D_, q_ = c ∨ q_ = r ∨ (n ≤ q_ ∧ q_ < n')) := by
 have lhr := hd.lt hr
 have lhc := hd.lt hc
 have hgp := hm.2.1.gaps
 have hg16 := hgp.2
 have hd16 := hm.2.1.dups
 have hgl0 := gsL_len d.gs
 have hdl0 := dsL_len d.ds
 have hg18 := h.g18
 refine CQ.body (E := env) env_ok hd rfl rfl (by show _ ≤ _; exact of_decide_eq_true (by kernel_rfl)) ?_
 refine RA.sR hd env_ok <| OA.ps [(6, (Pt c 0 0)), (7, (Pt c 0 0)), (8, (Pt r 0 0))] rfl ?_
 refine OA.call (dst := (some 9)) (all := [(Pt r 0 0)]) rfl rfl rfl rfl rfl rfl rfl rfl (CQ.imp (cU32 (hd.up (by omega)) r d.tsn (be4 d.rwnd ++ (be2 d.gs.length ++ (be2 d.ds.length ++ (gsL d.gs ++ dsL d.ds)))) (by simp only [List.length_append, be1_len, be2_len, be4_len, L_len, List.length_nil, List.length_replicate]; omega) hr) ?_)
 rintro _ n1 _ ⟨rfl, rfl⟩ hn1
 refine OA.app1 ?_
 refine OA.ps [(10, (Pt r 0 0))] rfl ?_
 refine OA.call (dst := (some 11)) (all := [(Pt r 0 0)]) rfl rfl rfl rfl rfl rfl rfl rfl (CQ.imp (cU32 (hd.of (by omega) (kb1 (by omega))) r d.rwnd (be2 d.gs.length ++ (be2 d.ds.length ++ (gsL d.gs ++ dsL d.ds))) (by simp only [List.length_append, be1_len, be2_len, be4_len, L_len, List.length_nil, List.length_replicate]; omega) get_here) ?_)
 rintro _ n2 _ ⟨rfl, rfl⟩ hn2
 refine OA.app1 ?_
 refine OA.ps [(12, (Pt c 0 0)), (13, (Pt c 0 2))] rfl <| o1 none yU n2 (c, some ⟨[[(.int .i64 d.typ), (.int .i64 d.flags), (W d.tsn), (.int .i64 0), (.int .i64 0), (.int .u32 0), (.string ByteArray.empty), (.int .u32 0), (.int .u32 0), (.int .i64 0), (.int .i64 0), (.slice none 0 0), (.slice none 0 0), (.slice none 0 0), (.slice none 0 0)]], 15, 53, true⟩) (rS (gt2 (by omega) hc)) <| OA.ps [(14, (Pt c 0 0)), (15, (Pt c 0 8))] rfl <| o1 none yU n2 (c, some ⟨[(xCx210 d)], 15, 53, true⟩) (rS get_here) <| OA.nil fun _ => RA.weaken hd (LsO (fA get_here get_here (fA (get_there (by omega) get_here) (gt2 (by omega) get_here) fan))) <| RA.sR hd env_ok <| OA.ps [(16, (Pt r 0 0))] rfl ?_
 refine OA.call (dst := (some 17)) (all := [(Pt r 0 0)]) rfl rfl rfl rfl rfl rfl rfl rfl (CQ.imp (cU16 (hd.of (by omega) (kb2 (by omega))) r d.gs.length (by omega) (be2 d.ds.length ++ (gsL d.gs ++ dsL d.ds)) (by simp only [List.length_append, be1_len, be2_len, be4_len, L_len, List.length_nil, List.length_replicate]; omega) (get_there (by omega) get_here)) ?_)
 rintro _ n3 _ ⟨rfl, rfl⟩ hn3
 refine OA.app1 ?_
 refine OA.ps [(18, (Pt r 0 0))] rfl ?_
 refine OA.call (dst := (some 19)) (all := [(Pt r 0 0)]) rfl rfl rfl rfl rfl rfl rfl rfl (CQ.imp (cU16 (hd.of (by omega) (kb3 (by omega))) r d.ds.length (by omega) (gsL d.gs ++ dsL d.ds) (by simp only [List.length_append, be1_len, be2_len, be4_len, L_len, List.length_nil, List.length_replicate]; omega) get_here) ?_)
 rintro _ n4 _ ⟨rfl, rfl⟩ hn4
 refine OA.app1 ?_
 refine OA.ps [(4, (.int .i64 ((d.gs.length : Nat) : Int))), (5, (.int .i64 ((d.ds.length : Nat) : Int)))] rfl <| OA.nil fun _ => RA.weaken hd (LsO (fA get_here get_here (fA (get_there (by omega) get_here) (gt2 (by omega) get_here) fan))) <| RA.seq hd <| RA.sR hd env_ok <| OA.ps [(20, (.int .i64 ((d.gs.length : Nat) : Int)))] rfl ?_
 have hc1 : ¬ (16 < ((d.gs.length : Nat) : Int)) := fun hdd => by exfalso; omega
 refine oP 21 yF rfl (Eq.trans (r_bin rfl rfl rfl (b_gtr rfl)) (Go.Proofs.YtgajcmanompmcaaV.dF hc1)) <| OA.ps [(22, yF), (23, (.int .i64 ((d.ds.length : Nat) : Int)))] rfl ?_
 have hc2 : ¬ (16 < ((d.ds.length : Nat) : Int)) := fun hdd => by exfalso; omega
 refine oP 24 yF rfl (Eq.trans (r_bin rfl rfl rfl (b_gtr rfl)) (Go.Proofs.YtgajcmanompmcaaV.dF hc2)) <| OA.ps [(25, yF)] rfl <| OA.nil fun _ => RA.condF rfl <| RA.skip env_ok ?_
 intro _
 refine RA.seq hd <| RA.sR hd env_ok <| OA.ps [(28, (.int .i64 ((d.gs.length : Nat) : Int))), (29, (.int .i64 0))] rfl <| OA.nil fun _ => RA.rb [(0, (Pt r 0 0)), (1, (Pt c 0 0)), (4, (.int .i64 ((d.gs.length : Nat) : Int))), (5, (.int .i64 ((d.ds.length : Nat) : Int))), (25, yF), (28, (.int .i64 ((d.gs.length : Nat) : Int))), (29, (.int .i64 0))] rfl (fun τr5 => ?_)
 refine RA.block <| RA.weaken hd (LsO (fA get_here (get_there (by omega) get_here) (fA (get_there (by omega) get_here) get_here fan))) ?_
 refine RA.loop hd (fun kk_ τ n' D => (∃ i : Nat, kk_ = (d.gs.length + 1 - i) ∧ n4 ≤ n' ∧ Has τ [(0, (Pt r 0 0)), (1, (Pt c 0 0)), (4, (.int .i64 ((d.gs.length : Nat) : Int))), (5, (.int .i64 ((d.ds.length : Nat) : Int))), (28, (.int .i64 ((d.gs.length : Nat) : Int))), (29, (.int .i64 ((i : Nat) : Int)))] ∧ D = [(c, some ⟨[(xCx210 d)], 15, 53, true⟩), (r, some ⟨[[(.string (bstr (gsL (d.gs.drop i) ++ dsL d.ds))), (.int .i64 0)]], 2, 121, true⟩)] ∧ (∀ i ∈ keys D, i < n') ∧ i = 0) ∨ (∃ i : Nat, ∃ jg : Nat, kk_ = (d.gs.length + 1 - i) ∧ n4 ≤ n' ∧ Has τ [(0, (Pt r 0 0)), (1, (Pt c 0 0)), (4, (.int .i64 ((d.gs.length : Nat) : Int))), (5, (.int .i64 ((d.ds.length : Nat) : Int))), (28, (.int .i64 ((d.gs.length : Nat) : Int))), (29, (.int .i64 ((i : Nat) : Int)))] ∧ D = [(c, some ⟨[(xCx28 d jg i)], 15, 53, true⟩), (r, some ⟨[[(.string (bstr (gsL (d.gs.drop i) ++ dsL d.ds))), (.int .i64 0)]], 2, 121, true⟩), (jg, some (oGp (d.gs.take i)))] ∧ (∀ i ∈ keys D, i < n') ∧ 1 ≤ i ∧ i ≤ d.gs.length ∧ n ≤ jg)) ((d.gs.length + 1 - 0)) (.inl (⟨0, rfl, by omega, ⟨rfl, rfl, rfl, rfl, rfl, rfl, trivial⟩, rfl, (kb2 (by omega)), rfl⟩)) ?_
 rintro kn6 τ6 n6 Dn6 hSn6
 rcases hSn6 with ⟨i, rfl, hn6, hHn6, rfl, hKn6, hIn6⟩ | ⟨i, jg, rfl, hn6, hHn6, rfl, hKn6, hIn6⟩
 ·
  rw [Has.eq hHn6]
  have hKn6_0 := kk0 hKn6
  have hKn6_1 := kk1 hKn6
  clear hKn6
  have hi0 := hIn6
  have hgdl := gsL_len (d.gs.drop i)
  have hgd2 := List.length_drop (i := i) (l := d.gs)
  have hgdl3 := gsL_len (d.gs.drop (i + 1))
  have hgd4 := List.length_drop (i := i + 1) (l := d.gs)
  refine RA.sR hd env_ok ?_
  by_cases hc3 : ((i : Nat) : Int) < ((d.gs.length : Nat) : Int)
  ·
   have hil2 : i < d.gs.length := by omega
   have hmm := ris_mem (by omega) hgp.1 _ (getD_mem (d := dGp) hil2)
   refine oP 30 yT rfl (Eq.trans (r_bin rfl rfl rfl (b_lss rfl)) (Go.Proofs.YtgajcmanompmcaaV.dT hc3)) <| OA.nil fun _ => RA.seq hd <| RA.condT rfl <| RA.skip env_ok ?_
   intro _
   refine RA.seq hd <| RA.block <| RA.par (md := [some [], some [], some [], some [], some [c], some [], none, some [], none, some [], some [], none, some [], some [], none]) env_ok (hd.of (by omega) (kb2 (by omega))) (by kernel_rfl) <| PQ.ps [(31, (Pt c 0 0)), (32, (Pt c 0 0)), (33, (Pt c 0 0)), (34, (Pt c 0 13))] rfl <| pQl 35 (.slice none 0 0) get_here <| PQ.ps [(36, (Pt r 0 0))] rfl ?_
   refine PQ.call (dst := (some 37)) (all := [(Pt r 0 0)]) rfl rfl rfl rfl rfl rfl rfl rfl _ (sA (V := []) (by kernel_rfl) (by kernel_rfl)) (CQ.imp (CQ.keys (cU16z (hd.of (by omega) (kb2 (by omega))) r (d.gs.getD i dGp).lo (by omega) (by omega) (be2 (d.gs.getD i dGp).hi.toNat ++ (gsL (d.gs.drop (i + 1)) ++ dsL d.ds)) (by simp only [List.length_append, be1_len, be2_len, be4_len, L_len, List.length_nil, List.length_replicate]; omega) (by rw [← gs_at (by omega)]; exact (get_there (by omega) get_here)))) ?_)
   rintro _ n7 _ ⟨hkn7, ⟨rfl, rfl⟩⟩
   have hn7 := hkn7.1
   refine ⟨hn7, (kp1 (by first | exact wr_new (by omega) (by omega) | exact wr_old [0, 1, 2, 3, 4, 7] (by kernel_rfl) (by omega) (by omega) (fac (lo0 rfl) (fac (lo0 rfl) (fac (lo0 rfl) (fac (lo0 rfl) (fac (lo1 rfl (by omega)) (fac (lo0 rfl) fan)))))))), ?_⟩
   refine PQ.ps [(38, (Pt r 0 0))] rfl ?_
   refine PQ.call (dst := (some 39)) (all := [(Pt r 0 0)]) rfl rfl rfl rfl rfl rfl rfl rfl _ (sA (V := [(r, some ⟨[(xCx211 d i)], 2, 121, true⟩)]) (by kernel_rfl) (by kernel_rfl)) (CQ.imp (CQ.keys (cU16z (hd.of (by omega) (kb3 (by omega))) r (d.gs.getD i dGp).hi (by omega) (by omega) (gsL (d.gs.drop (i + 1)) ++ dsL d.ds) (by simp only [List.length_append, be1_len, be2_len, be4_len, L_len, List.length_nil, List.length_replicate]; omega) get_here)) ?_)
   rintro _ n8 _ ⟨hkn8, ⟨rfl, rfl⟩⟩
   have hn8 := hkn8.1
   refine ⟨hn8, (kp1 (by first | exact wr_new (by omega) (by omega) | exact wr_late [0, 1, 2, 3, 4] (by kernel_rfl) (by kernel_rfl) (by omega) 6 (by kernel_rfl) (by simp [keys]) (fac (lo0 rfl) (fac (lo0 rfl) (fac (lo0 rfl) (fac (lo0 rfl) (fac (lo1 rfl (by omega)) fan))))) | exact wr_old [0, 1, 2, 3, 4] (by kernel_rfl) (by omega) (by omega) (fac (lo0 rfl) (fac (lo0 rfl) (fac (lo0 rfl) (fac (lo0 rfl) (fac (lo1 rfl (by omega)) fan))))))), ?_⟩
   refine pP 40 (.agg ⟨[(.int .i64 (d.gs.getD i dGp).lo), (.int .i64 (d.gs.getD i dGp).hi)]⟩) rfl (by kernel_rfl) <| PQ.op (dst := (some 41)) (v := (.slice (some ⟨n8, 0, none⟩) 1 0)) (n1 := (n8 + 1)) (d1 := [(n8, some ⟨[[(.int .i64 (d.gs.getD i dGp).lo), (.int .i64 (d.gs.getD i dGp).hi)]], 2, 101, true⟩)]) rfl rfl rfl noStore nOK (by kernel_rfl) (by omega) (kp1 (wr_new (by omega) (by omega))) <| PQ.op (dst := (some 42)) (v := (.slice (some ⟨(n8 + 1), 0, none⟩) 1 0)) (n1 := (n8 + 2)) (d1 := [((n8 + 1), some (oGp [(d.gs.getD i dGp)]))]) rfl rfl rfl _ (sA (V := [(n8, some ⟨[[(.int .i64 (d.gs.getD i dGp).lo), (.int .i64 (d.gs.getD i dGp).hi)]], 2, 101, true⟩), (r, some ⟨[[(.string (bstr (gsL (d.gs.drop (i + 1)) ++ dsL d.ds))), (.int .i64 0)]], 2, 121, true⟩), (r, some ⟨[(xCx211 d i)], 2, 121, true⟩)]) (by kernel_rfl) (by kernel_rfl)) (r_append0R (c := cGp) (x := (d.gs.getD i dGp)) rfl rfl rfl rfl rfl rfl rfl rfl rfl rfl (by decide) get_here (of_decide_eq_true (by kernel_rfl))) (by omega) (kp1 (wr_new (by omega) (by omega))) <| PQ.ps [(43, (Pt c 0 0)), (44, (Pt c 0 13))] rfl <| PQ.op (dst := none) (v := (.tuple #[])) (n1 := (n8 + 2)) (d1 := [(c, some ⟨[(xCx27 d n8)], 15, 53, true⟩)]) rfl rfl rfl _ (sA (V := [((n8 + 1), some (oGp [(d.gs.getD i dGp)])), (n8, some ⟨[[(.int .i64 (d.gs.getD i dGp).lo), (.int .i64 (d.gs.getD i dGp).hi)]], 2, 101, true⟩), (r, some ⟨[[(.string (bstr (gsL (d.gs.drop (i + 1)) ++ dsL d.ds))), (.int .i64 0)]], 2, 121, true⟩), (r, some ⟨[(xCx211 d i)], 2, 121, true⟩)]) (by kernel_rfl) (by kernel_rfl)) (rS (gt4 (by omega) get_here)) (by omega) (kp1 (wr_tight (by kernel_rfl) (by omega))) <| PQ.done (d := [(c, some ⟨[(xCx27 d n8)], 15, 53, true⟩), ((n8 + 1), some (oGp [(d.gs.getD i dGp)])), (n8, some ⟨[[(.int .i64 (d.gs.getD i dGp).lo), (.int .i64 (d.gs.getD i dGp).hi)]], 2, 101, true⟩), (r, some ⟨[[(.string (bstr (gsL (d.gs.drop (i + 1)) ++ dsL d.ds))), (.int .i64 0)]], 2, 121, true⟩), (r, some ⟨[(xCx211 d i)], 2, 121, true⟩)]) (by kernel_rfl) fun _ => RA.weaken hd (LsO (fA get_here get_here (fA (get_there (by omega) get_here) (get_there (by omega) get_here) (fA (gt2 (by omega) get_here) (gt2 (by omega) get_here) (fA (gt3 (by omega) get_here) (gt3 (by omega) get_here) fan))))) <| RA.region env_ok <| oP 45 (.int .i64 (((i + 1) : Nat) : Int)) rfl (r_bin rfl rfl rfl (b_add (i64_eq (by omega)))) <| OA.ps [(29, (.int .i64 (((i + 1) : Nat) : Int)))] rfl <| OA.nil ?_
   refine ⟨(d.gs.length + 1 - (i + 1)), by omega, [(c, some ⟨[(xCx27 d n8)], 15, 53, true⟩), (r, some ⟨[[(.string (bstr (gsL (d.gs.drop (i + 1)) ++ dsL d.ds))), (.int .i64 0)]], 2, 121, true⟩), ((n8 + 1), some (oGp [(d.gs.getD i dGp)]))], (LsO (fA get_here get_here (fA (get_there (by omega) get_here) (gt3 (by omega) get_here) (fA (gt2 (by omega) get_here) (get_there (by omega) get_here) fan)))), .inr (⟨(i + 1), (n8 + 1), rfl, by omega, ⟨rfl, rfl, rfl, rfl, rfl, rfl, trivial⟩, (by rw [take_one hi0 hil2, show i + 1 = 1 from by omega] <;> rfl), (kb3 (by omega)), ⟨by omega, by omega, by omega⟩⟩)⟩
  ·
   refine oP 30 yF rfl (Eq.trans (r_bin rfl rfl rfl (b_lss rfl)) (Go.Proofs.YtgajcmanompmcaaV.dF hc3)) <| OA.nil fun _ => RA.seq hd <| RA.condF rfl ?_
   refine RA.exit env_ok ?_
   intro _
   refine RA.seq hd <| RA.sR hd env_ok <| OA.ps [(46, (.int .i64 ((d.ds.length : Nat) : Int))), (47, (.int .i64 0))] rfl <| OA.nil fun _ => RA.block ?_
   refine RA.loop hd (fun kk_ τ n' D => (∃ m : Nat, kk_ = (d.ds.length + 1 - m) ∧ n6 ≤ n' ∧ Has τ [(0, (Pt r 0 0)), (1, (Pt c 0 0)), (46, (.int .i64 ((d.ds.length : Nat) : Int))), (47, (.int .i64 ((m : Nat) : Int)))] ∧ D = [(c, some ⟨[(xCx210 d)], 15, 53, true⟩), (r, some ⟨[[(.string (bstr (dsL (d.ds.drop m)))), (.int .i64 0)]], 2, 121, true⟩)] ∧ (∀ i ∈ keys D, i < n') ∧ m = 0) ∨ (∃ m : Nat, ∃ jd : Nat, kk_ = (d.ds.length + 1 - m) ∧ n6 ≤ n' ∧ Has τ [(0, (Pt r 0 0)), (1, (Pt c 0 0)), (46, (.int .i64 ((d.ds.length : Nat) : Int))), (47, (.int .i64 ((m : Nat) : Int)))] ∧ D = [(c, some ⟨[(xCx29 d jd m)], 15, 53, true⟩), (r, some ⟨[[(.string (bstr (dsL (d.ds.drop m)))), (.int .i64 0)]], 2, 121, true⟩), (jd, some (oDp (d.ds.take m)))] ∧ (∀ i ∈ keys D, i < n') ∧ 1 ≤ m ∧ m ≤ d.ds.length ∧ n ≤ jd)) ((d.ds.length + 1 - 0)) (.inl (⟨0, rfl, by omega, ⟨rfl, rfl, rfl, rfl, trivial⟩, (by rw [gs_end (by omega)] <;> rfl), (kb2 (by omega)), rfl⟩)) ?_
   rintro kn9 τ9 n9 Dn9 hSn9
   rcases hSn9 with ⟨m, rfl, hn9, hHn9, rfl, hKn9, hIn9⟩ | ⟨m, jd, rfl, hn9, hHn9, rfl, hKn9, hIn9⟩
   ·
    rw [Has.eq hHn9]
    have hKn9_0 := kk0 hKn9
    have hKn9_1 := kk1 hKn9
    clear hKn9
    have hm0 := hIn9
    have hddl := dsL_len (d.ds.drop m)
    have hdd2 := List.length_drop (i := m) (l := d.ds)
    have hddl3 := dsL_len (d.ds.drop (m + 1))
    have hdd4 := List.length_drop (i := m + 1) (l := d.ds)
    refine RA.sR hd env_ok ?_
    by_cases hc4 : ((m : Nat) : Int) < ((d.ds.length : Nat) : Int)
    ·
     refine oP 48 yT rfl (Eq.trans (r_bin rfl rfl rfl (b_lss rfl)) (Go.Proofs.YtgajcmanompmcaaV.dT hc4)) <| OA.nil fun _ => RA.seq hd <| RA.condT rfl <| RA.skip env_ok ?_
     intro _
     refine RA.seq hd <| RA.block <| RA.par (md := [some [], some [], some [], some [], some [c], some [], none, some [], none, some [], some [], none]) env_ok (hd.of (by omega) (kb2 (by omega))) (by kernel_rfl) <| PQ.ps [(49, (Pt c 0 0)), (50, (Pt c 0 0)), (51, (Pt c 0 0)), (52, (Pt c 0 14))] rfl <| pQl 53 (.slice none 0 0) get_here <| PQ.ps [(54, (Pt r 0 0))] rfl ?_
     refine PQ.call (dst := (some 55)) (all := [(Pt r 0 0)]) rfl rfl rfl rfl rfl rfl rfl rfl _ (sA (V := []) (by kernel_rfl) (by kernel_rfl)) (CQ.imp (CQ.keys (cU32 (hd.of (by omega) (kb2 (by omega))) r (d.ds.getD m dDp).x (dsL (d.ds.drop (m + 1))) (by simp only [List.length_append, be1_len, be2_len, be4_len, L_len, List.length_nil, List.length_replicate]; omega) (by rw [← ds_at (by omega)]; exact (get_there (by omega) get_here)))) ?_)
     rintro _ n10 _ ⟨hkn10, ⟨rfl, rfl⟩⟩
     have hn10 := hkn10.1
     refine ⟨hn10, (kp1 (by first | exact wr_new (by omega) (by omega) | exact wr_old [0, 1, 2, 3, 4] (by kernel_rfl) (by omega) (by omega) (fac (lo0 rfl) (fac (lo0 rfl) (fac (lo0 rfl) (fac (lo0 rfl) (fac (lo1 rfl (by omega)) fan))))))), ?_⟩
     refine PQ.op (dst := (some 56)) (v := (.slice (some ⟨n10, 0, none⟩) 1 0)) (n1 := (n10 + 1)) (d1 := [(n10, some ⟨[[(W (d.ds.getD m dDp).x)]], 1, 36, true⟩)]) rfl rfl rfl noStore nOK (by kernel_rfl) (by omega) (kp1 (wr_new (by omega) (by omega))) <| PQ.op (dst := (some 57)) (v := (.slice (some ⟨(n10 + 1), 0, none⟩) 1 0)) (n1 := (n10 + 2)) (d1 := [((n10 + 1), some (oDp [(d.ds.getD m dDp)]))]) rfl rfl rfl _ (sA (V := [(n10, some ⟨[[(W (d.ds.getD m dDp).x)]], 1, 36, true⟩), (r, some ⟨[[(.string (bstr (dsL (d.ds.drop (m + 1))))), (.int .i64 0)]], 2, 121, true⟩)]) (by kernel_rfl) (by kernel_rfl)) (r_append0R (c := cDp) (x := (d.ds.getD m dDp)) rfl rfl rfl rfl rfl rfl rfl rfl rfl rfl (by decide) get_here (of_decide_eq_true (by kernel_rfl))) (by omega) (kp1 (wr_new (by omega) (by omega))) <| PQ.ps [(58, (Pt c 0 0)), (59, (Pt c 0 14))] rfl <| PQ.op (dst := none) (v := (.tuple #[])) (n1 := (n10 + 2)) (d1 := [(c, some ⟨[(xCx26 d n10)], 15, 53, true⟩)]) rfl rfl rfl _ (sA (V := [((n10 + 1), some (oDp [(d.ds.getD m dDp)])), (n10, some ⟨[[(W (d.ds.getD m dDp).x)]], 1, 36, true⟩), (r, some ⟨[[(.string (bstr (dsL (d.ds.drop (m + 1))))), (.int .i64 0)]], 2, 121, true⟩)]) (by kernel_rfl) (by kernel_rfl)) (rS (gt3 (by omega) get_here)) (by omega) (kp1 (wr_tight (by kernel_rfl) (by omega))) <| PQ.done (d := [(c, some ⟨[(xCx26 d n10)], 15, 53, true⟩), ((n10 + 1), some (oDp [(d.ds.getD m dDp)])), (n10, some ⟨[[(W (d.ds.getD m dDp).x)]], 1, 36, true⟩), (r, some ⟨[[(.string (bstr (dsL (d.ds.drop (m + 1))))), (.int .i64 0)]], 2, 121, true⟩)]) (by kernel_rfl) fun _ => RA.weaken hd (LsO (fA get_here get_here (fA (get_there (by omega) get_here) (get_there (by omega) get_here) (fA (gt2 (by omega) get_here) (gt2 (by omega) get_here) (fA (gt3 (by omega) get_here) (gt3 (by omega) get_here) fan))))) <| RA.region env_ok <| oP 60 (.int .i64 (((m + 1) : Nat) : Int)) rfl (r_bin rfl rfl rfl (b_add (i64_eq (by omega)))) <| OA.ps [(47, (.int .i64 (((m + 1) : Nat) : Int)))] rfl <| OA.nil ?_
     refine ⟨(d.ds.length + 1 - (m + 1)), by omega, [(c, some ⟨[(xCx26 d n10)], 15, 53, true⟩), (r, some ⟨[[(.string (bstr (dsL (d.ds.drop (m + 1))))), (.int .i64 0)]], 2, 121, true⟩), ((n10 + 1), some (oDp [(d.ds.getD m dDp)]))], (LsO (fA get_here get_here (fA (get_there (by omega) get_here) (gt3 (by omega) get_here) (fA (gt2 (by omega) get_here) (get_there (by omega) get_here) fan)))), .inr (⟨(m + 1), (n10 + 1), rfl, by omega, ⟨rfl, rfl, rfl, rfl, trivial⟩, (by rw [take_one hm0 (by omega), show m + 1 = 1 from by omega] <;> rfl), (kb3 (by omega)), ⟨by omega, by omega, by omega⟩⟩)⟩
    ·
     refine oP 48 yF rfl (Eq.trans (r_bin rfl rfl rfl (b_lss rfl)) (Go.Proofs.YtgajcmanompmcaaV.dF hc4)) <| OA.nil fun _ => RA.seq hd <| RA.condF rfl ?_
     refine RA.exit env_ok ?_
     intro _
     refine RA.sR hd env_ok <| OA.ps [(61, (Pt r 0 0))] rfl <| oC 62 (v := (.int .i64 0)) (hd.of (by omega) (kb2 (by omega))) rfl rfl (rErr r _ 0 (get_there (by omega) get_here)) fun n11 hn11 => oP 63 yT rfl (r_bin rfl rfl rfl (b_eql (by simp))) <| OA.ps [(64, yT), (65, (Pt c 0 0)), (66, (Pt c 0 0)), (67, (Pt c 0 13))] rfl <| oL 68 (.slice none 0 0) get_here <| oC 69 (hd.of (by omega) (kb2 (by omega))) rfl rfl (sRising (gapE (.slice none 0 0) []) true (bT ⟨trivial, Nat.zero_le _⟩) (gd_gapE .nil (Nat.zero_le _) (fun g hg => by cases hg))) fun n12 hn12 => OA.ps [(70, yF), (71, yF)] rfl <| OA.nil fun _ => RA.condF rfl <| RA.skip env_ok ?_
     refine ⟨.inl rfl, [], resL_nil, [(c, some ⟨[(xCx210 d)], 15, 53, true⟩), (r, some ⟨[[(.string (bstr (dsL (d.ds.drop m)))), (.int .i64 0)]], 2, 121, true⟩)], (Less.refl _ _ _), ⟨rfl, (.slice none 0 0), (.slice none 0 0), get_here, by rw [ds_end (by omega)] <;> exact (get_there (by omega) get_here), (by rw [List.length_eq_zero_iff.1 (show d.gs.length = 0 from by omega)]; exact .nil), (by rw [List.length_eq_zero_iff.1 (show d.ds.length = 0 from by omega)]; exact .nil), by intro q_ hq_; simp only [keys, List.cons_append, List.nil_append, List.map_cons, List.map_nil, List.mem_cons, List.not_mem_nil, or_false, false_or] at hq_; omega⟩⟩
   ·
    rw [Has.eq hHn9]
    have hKn9_0 := kk0 hKn9
    have hKn9_1 := kk1 hKn9
    have hKn9_2 := kk2 hKn9
    clear hKn9
    obtain ⟨hm1, hml, hj2⟩ := hIn9
    have hddl := dsL_len (d.ds.drop m)
    have hdd2 := List.length_drop (i := m) (l := d.ds)
    have hddl3 := dsL_len (d.ds.drop (m + 1))
    have hdd4 := List.length_drop (i := m + 1) (l := d.ds)
    refine RA.sR hd env_ok ?_
    by_cases hc5 : ((m : Nat) : Int) < ((d.ds.length : Nat) : Int)
    ·
     refine oP 48 yT rfl (Eq.trans (r_bin rfl rfl rfl (b_lss rfl)) (Go.Proofs.YtgajcmanompmcaaV.dT hc5)) <| OA.nil fun _ => RA.seq hd <| RA.condT rfl <| RA.skip env_ok ?_
     intro _
     refine RA.seq hd <| RA.block <| RA.par (md := [some [], some [], some [], some [], some [c], some [], none, some [], none, some [], some [], none]) env_ok (hd.of (by omega) (kb3 (by omega))) (by kernel_rfl) <| PQ.ps [(49, (Pt c 0 0)), (50, (Pt c 0 0)), (51, (Pt c 0 0)), (52, (Pt c 0 14))] rfl <| pQl 53 (.slice (some ⟨jd, 0, none⟩) m 0) get_here <| PQ.ps [(54, (Pt r 0 0))] rfl ?_
     refine PQ.call (dst := (some 55)) (all := [(Pt r 0 0)]) rfl rfl rfl rfl rfl rfl rfl rfl _ (sA (V := []) (by kernel_rfl) (by kernel_rfl)) (CQ.imp (CQ.keys (cU32 (hd.of (by omega) (kb3 (by omega))) r (d.ds.getD m dDp).x (dsL (d.ds.drop (m + 1))) (by simp only [List.length_append, be1_len, be2_len, be4_len, L_len, List.length_nil, List.length_replicate]; omega) (by rw [← ds_at (by omega)]; exact (get_there (by omega) get_here)))) ?_)
     rintro _ n13 _ ⟨hkn13, ⟨rfl, rfl⟩⟩
     have hn13 := hkn13.1
     refine ⟨hn13, (kp1 (by first | exact wr_new (by omega) (by omega) | exact wr_old [0, 1, 2, 3, 4] (by kernel_rfl) (by omega) (by omega) (fac (lo0 rfl) (fac (lo0 rfl) (fac (lo0 rfl) (fac (lo0 rfl) (fac (lo1 rfl (by omega)) fan))))))), ?_⟩
     refine PQ.op (dst := (some 56)) (v := (.slice (some ⟨n13, 0, none⟩) 1 0)) (n1 := (n13 + 1)) (d1 := [(n13, some ⟨[[(W (d.ds.getD m dDp).x)]], 1, 36, true⟩)]) rfl rfl rfl noStore nOK (by kernel_rfl) (by omega) (kp1 (wr_new (by omega) (by omega))) <| PQ.op (dst := (some 57)) (v := (.slice (some ⟨(n13 + 1), 0, none⟩) (m + 1) 0)) (n1 := (n13 + 2)) (d1 := [((n13 + 1), some (oDp (d.ds.take (m + 1)))), (jd, none)]) rfl rfl rfl _ (sA (V := [(n13, some ⟨[[(W (d.ds.getD m dDp).x)]], 1, 36, true⟩), (r, some ⟨[[(.string (bstr (dsL (d.ds.drop (m + 1))))), (.int .i64 0)]], 2, 121, true⟩)]) (by kernel_rfl) (by kernel_rfl)) (r_appendR (c := cDp) (l' := (d.ds.take (m + 1))) rfl rfl rfl rfl rfl rfl rfl rfl rfl rfl (by decide) (gt4 (by omega) get_here) get_here (by rw [take_len (by omega)]) (tk_snoc (c := cDp) (d0 := dDp) (by omega)) (by omega) (of_decide_eq_true (by kernel_rfl)) (by omega)) (by omega) (kp2 (wr_new (by omega) (by omega)) (wr_old [0] (by kernel_rfl) (by omega) (by omega) (fac (lo0 rfl) fan))) <| PQ.ps [(58, (Pt c 0 0)), (59, (Pt c 0 14))] rfl <| PQ.op (dst := none) (v := (.tuple #[])) (n1 := (n13 + 2)) (d1 := [(c, some ⟨[(xCx24 d n13 m)], 15, 53, true⟩)]) rfl rfl rfl _ (sA (V := [((n13 + 1), some (oDp (d.ds.take (m + 1)))), (jd, none), (n13, some ⟨[[(W (d.ds.getD m dDp).x)]], 1, 36, true⟩), (r, some ⟨[[(.string (bstr (dsL (d.ds.drop (m + 1))))), (.int .i64 0)]], 2, 121, true⟩)]) (by kernel_rfl) (by kernel_rfl)) (rS (gt4 (by omega) get_here)) (by omega) (kp1 (wr_tight (by kernel_rfl) (by omega))) <| PQ.done (d := [(c, some ⟨[(xCx24 d n13 m)], 15, 53, true⟩), ((n13 + 1), some (oDp (d.ds.take (m + 1)))), (jd, none), (n13, some ⟨[[(W (d.ds.getD m dDp).x)]], 1, 36, true⟩), (r, some ⟨[[(.string (bstr (dsL (d.ds.drop (m + 1))))), (.int .i64 0)]], 2, 121, true⟩)]) (by kernel_rfl) fun _ => RA.weaken hd (LsO (fA get_here get_here (fA (get_there (by omega) get_here) (get_there (by omega) get_here) (fA (gt2 (by omega) get_here) (gt2 (by omega) get_here) (fA (gt3 (by omega) get_here) (gt3 (by omega) get_here) (fA (gt4 (by omega) get_here) (gt4 (by omega) get_here) fan)))))) <| RA.region env_ok <| oP 60 (.int .i64 (((m + 1) : Nat) : Int)) rfl (r_bin rfl rfl rfl (b_add (i64_eq (by omega)))) <| OA.ps [(47, (.int .i64 (((m + 1) : Nat) : Int)))] rfl <| OA.nil ?_
     refine ⟨(d.ds.length + 1 - (m + 1)), by omega, [(c, some ⟨[(xCx24 d n13 m)], 15, 53, true⟩), (r, some ⟨[[(.string (bstr (dsL (d.ds.drop (m + 1))))), (.int .i64 0)]], 2, 121, true⟩), ((n13 + 1), some (oDp (d.ds.take (m + 1))))], (LsO (fA get_here get_here (fA (get_there (by omega) get_here) (gt4 (by omega) get_here) (fA (gt2 (by omega) get_here) (get_there (by omega) get_here) fan)))), .inr (⟨(m + 1), (n13 + 1), rfl, by omega, ⟨rfl, rfl, rfl, rfl, trivial⟩, rfl, (kb3 (by omega)), ⟨by omega, by omega, by omega⟩⟩)⟩
    ·
     refine oP 48 yF rfl (Eq.trans (r_bin rfl rfl rfl (b_lss rfl)) (Go.Proofs.YtgajcmanompmcaaV.dF hc5)) <| OA.nil fun _ => RA.seq hd <| RA.condF rfl ?_
     refine RA.exit env_ok ?_
     intro _
     refine RA.sR hd env_ok <| OA.ps [(61, (Pt r 0 0))] rfl <| oC 62 (v := (.int .i64 0)) (hd.of (by omega) (kb3 (by omega))) rfl rfl (rErr r _ 0 (get_there (by omega) get_here)) fun n14 hn14 => oP 63 yT rfl (r_bin rfl rfl rfl (b_eql (by simp))) <| OA.ps [(64, yT), (65, (Pt c 0 0)), (66, (Pt c 0 0)), (67, (Pt c 0 13))] rfl <| oL 68 (.slice none 0 0) get_here <| oC 69 (hd.of (by omega) (kb3 (by omega))) rfl rfl (sRising (gapE (.slice none 0 0) []) true (bT ⟨trivial, Nat.zero_le _⟩) (gd_gapE .nil (Nat.zero_le _) (fun g hg => by cases hg))) fun n15 hn15 => OA.ps [(70, yF), (71, yF)] rfl <| OA.nil fun _ => RA.condF rfl <| RA.skip env_ok ?_
     refine ⟨.inl rfl, [], resL_nil, [(c, some ⟨[(xCx29 d jd m)], 15, 53, true⟩), (r, some ⟨[[(.string (bstr (dsL (d.ds.drop m)))), (.int .i64 0)]], 2, 121, true⟩), (jd, some (oDp (d.ds.take m)))], (Less.refl _ _ _), ⟨rfl, (.slice none 0 0), (.slice (some ⟨jd, 0, none⟩) m 0), get_here, by rw [ds_end (by omega)] <;> exact (get_there (by omega) get_here), (by rw [List.length_eq_zero_iff.1 (show d.gs.length = 0 from by omega)]; exact .nil), (rq_full (gt2 (by omega) get_here) (by omega) (by omega)), by intro q_ hq_; simp only [keys, List.cons_append, List.nil_append, List.map_cons, List.map_nil, List.mem_cons, List.not_mem_nil, or_false, false_or] at hq_; omega⟩⟩
 ·
  rw [Has.eq hHn6]
  have hKn6_0 := kk0 hKn6
  have hKn6_1 := kk1 hKn6
  have hKn6_2 := kk2 hKn6
  clear hKn6
  obtain ⟨hi1, hil, hj1⟩ := hIn6
  have hgdl := gsL_len (d.gs.drop i)
  have hgd2 := List.length_drop (i := i) (l := d.gs)
  have hgdl3 := gsL_len (d.gs.drop (i + 1))
  have hgd4 := List.length_drop (i := i + 1) (l := d.gs)
  refine RA.sR hd env_ok ?_
  by_cases hc6 : ((i : Nat) : Int) < ((d.gs.length : Nat) : Int)
  ·
   have hil2 : i < d.gs.length := by omega
   have hmm := ris_mem (by omega) hgp.1 _ (getD_mem (d := dGp) hil2)
   refine oP 30 yT rfl (Eq.trans (r_bin rfl rfl rfl (b_lss rfl)) (Go.Proofs.YtgajcmanompmcaaV.dT hc6)) <| OA.nil fun _ => RA.seq hd <| RA.condT rfl <| RA.skip env_ok ?_
   intro _
   refine RA.seq hd <| RA.block <| RA.par (md := [some [], some [], some [], some [], some [c], some [], none, some [], none, some [], some [], none, some [], some [], none]) env_ok (hd.of (by omega) (kb3 (by omega))) (by kernel_rfl) <| PQ.ps [(31, (Pt c 0 0)), (32, (Pt c 0 0)), (33, (Pt c 0 0)), (34, (Pt c 0 13))] rfl <| pQl 35 (.slice (some ⟨jg, 0, none⟩) i 0) get_here <| PQ.ps [(36, (Pt r 0 0))] rfl ?_
   refine PQ.call (dst := (some 37)) (all := [(Pt r 0 0)]) rfl rfl rfl rfl rfl rfl rfl rfl _ (sA (V := []) (by kernel_rfl) (by kernel_rfl)) (CQ.imp (CQ.keys (cU16z (hd.of (by omega) (kb3 (by omega))) r (d.gs.getD i dGp).lo (by omega) (by omega) (be2 (d.gs.getD i dGp).hi.toNat ++ (gsL (d.gs.drop (i + 1)) ++ dsL d.ds)) (by simp only [List.length_append, be1_len, be2_len, be4_len, L_len, List.length_nil, List.length_replicate]; omega) (by rw [← gs_at (by omega)]; exact (get_there (by omega) get_here)))) ?_)
   rintro _ n16 _ ⟨hkn16, ⟨rfl, rfl⟩⟩
   have hn16 := hkn16.1
   refine ⟨hn16, (kp1 (by first | exact wr_new (by omega) (by omega) | exact wr_old [0, 1, 2, 3, 4, 7] (by kernel_rfl) (by omega) (by omega) (fac (lo0 rfl) (fac (lo0 rfl) (fac (lo0 rfl) (fac (lo0 rfl) (fac (lo1 rfl (by omega)) (fac (lo0 rfl) fan)))))))), ?_⟩
   refine PQ.ps [(38, (Pt r 0 0))] rfl ?_
   refine PQ.call (dst := (some 39)) (all := [(Pt r 0 0)]) rfl rfl rfl rfl rfl rfl rfl rfl _ (sA (V := [(r, some ⟨[(xCx211 d i)], 2, 121, true⟩)]) (by kernel_rfl) (by kernel_rfl)) (CQ.imp (CQ.keys (cU16z (hd.of (by omega) (kb4 (by omega))) r (d.gs.getD i dGp).hi (by omega) (by omega) (gsL (d.gs.drop (i + 1)) ++ dsL d.ds) (by simp only [List.length_append, be1_len, be2_len, be4_len, L_len, List.length_nil, List.length_replicate]; omega) get_here)) ?_)
   rintro _ n17 _ ⟨hkn17, ⟨rfl, rfl⟩⟩
   have hn17 := hkn17.1
   refine ⟨hn17, (kp1 (by first | exact wr_new (by omega) (by omega) | exact wr_late [0, 1, 2, 3, 4] (by kernel_rfl) (by kernel_rfl) (by omega) 6 (by kernel_rfl) (by simp [keys]) (fac (lo0 rfl) (fac (lo0 rfl) (fac (lo0 rfl) (fac (lo0 rfl) (fac (lo1 rfl (by omega)) fan))))) | exact wr_old [0, 1, 2, 3, 4] (by kernel_rfl) (by omega) (by omega) (fac (lo0 rfl) (fac (lo0 rfl) (fac (lo0 rfl) (fac (lo0 rfl) (fac (lo1 rfl (by omega)) fan))))))), ?_⟩
   refine pP 40 (.agg ⟨[(.int .i64 (d.gs.getD i dGp).lo), (.int .i64 (d.gs.getD i dGp).hi)]⟩) rfl (by kernel_rfl) <| PQ.op (dst := (some 41)) (v := (.slice (some ⟨n17, 0, none⟩) 1 0)) (n1 := (n17 + 1)) (d1 := [(n17, some ⟨[[(.int .i64 (d.gs.getD i dGp).lo), (.int .i64 (d.gs.getD i dGp).hi)]], 2, 101, true⟩)]) rfl rfl rfl noStore nOK (by kernel_rfl) (by omega) (kp1 (wr_new (by omega) (by omega))) <| PQ.op (dst := (some 42)) (v := (.slice (some ⟨(n17 + 1), 0, none⟩) (i + 1) 0)) (n1 := (n17 + 2)) (d1 := [((n17 + 1), some (oGp (d.gs.take (i + 1)))), (jg, none)]) rfl rfl rfl _ (sA (V := [(n17, some ⟨[[(.int .i64 (d.gs.getD i dGp).lo), (.int .i64 (d.gs.getD i dGp).hi)]], 2, 101, true⟩), (r, some ⟨[[(.string (bstr (gsL (d.gs.drop (i + 1)) ++ dsL d.ds))), (.int .i64 0)]], 2, 121, true⟩), (r, some ⟨[(xCx211 d i)], 2, 121, true⟩)]) (by kernel_rfl) (by kernel_rfl)) (r_appendR (c := cGp) (l' := (d.gs.take (i + 1))) rfl rfl rfl rfl rfl rfl rfl rfl rfl rfl (by decide) (gt5 (by omega) get_here) get_here (by rw [take_len (by omega)]) (tk_snoc (c := cGp) (d0 := dGp) (by omega)) (by omega) (of_decide_eq_true (by kernel_rfl)) (by omega)) (by omega) (kp2 (wr_new (by omega) (by omega)) (wr_old [0] (by kernel_rfl) (by omega) (by omega) (fac (lo0 rfl) fan))) <| PQ.ps [(43, (Pt c 0 0)), (44, (Pt c 0 13))] rfl <| PQ.op (dst := none) (v := (.tuple #[])) (n1 := (n17 + 2)) (d1 := [(c, some ⟨[(xCx25 d n17 i)], 15, 53, true⟩)]) rfl rfl rfl _ (sA (V := [((n17 + 1), some (oGp (d.gs.take (i + 1)))), (jg, none), (n17, some ⟨[[(.int .i64 (d.gs.getD i dGp).lo), (.int .i64 (d.gs.getD i dGp).hi)]], 2, 101, true⟩), (r, some ⟨[[(.string (bstr (gsL (d.gs.drop (i + 1)) ++ dsL d.ds))), (.int .i64 0)]], 2, 121, true⟩), (r, some ⟨[(xCx211 d i)], 2, 121, true⟩)]) (by kernel_rfl) (by kernel_rfl)) (rS (gt5 (by omega) get_here)) (by omega) (kp1 (wr_tight (by kernel_rfl) (by omega))) <| PQ.done (d := [(c, some ⟨[(xCx25 d n17 i)], 15, 53, true⟩), ((n17 + 1), some (oGp (d.gs.take (i + 1)))), (jg, none), (n17, some ⟨[[(.int .i64 (d.gs.getD i dGp).lo), (.int .i64 (d.gs.getD i dGp).hi)]], 2, 101, true⟩), (r, some ⟨[[(.string (bstr (gsL (d.gs.drop (i + 1)) ++ dsL d.ds))), (.int .i64 0)]], 2, 121, true⟩), (r, some ⟨[(xCx211 d i)], 2, 121, true⟩)]) (by kernel_rfl) fun _ => RA.weaken hd (LsO (fA get_here get_here (fA (get_there (by omega) get_here) (get_there (by omega) get_here) (fA (gt2 (by omega) get_here) (gt2 (by omega) get_here) (fA (gt3 (by omega) get_here) (gt3 (by omega) get_here) (fA (gt4 (by omega) get_here) (gt4 (by omega) get_here) fan)))))) <| RA.region env_ok <| oP 45 (.int .i64 (((i + 1) : Nat) : Int)) rfl (r_bin rfl rfl rfl (b_add (i64_eq (by omega)))) <| OA.ps [(29, (.int .i64 (((i + 1) : Nat) : Int)))] rfl <| OA.nil ?_
   refine ⟨(d.gs.length + 1 - (i + 1)), by omega, [(c, some ⟨[(xCx25 d n17 i)], 15, 53, true⟩), (r, some ⟨[[(.string (bstr (gsL (d.gs.drop (i + 1)) ++ dsL d.ds))), (.int .i64 0)]], 2, 121, true⟩), ((n17 + 1), some (oGp (d.gs.take (i + 1))))], (LsO (fA get_here get_here (fA (get_there (by omega) get_here) (gt4 (by omega) get_here) (fA (gt2 (by omega) get_here) (get_there (by omega) get_here) fan)))), .inr (⟨(i + 1), (n17 + 1), rfl, by omega, ⟨rfl, rfl, rfl, rfl, rfl, rfl, trivial⟩, rfl, (kb3 (by omega)), ⟨by omega, by omega, by omega⟩⟩)⟩
  ·
   refine oP 30 yF rfl (Eq.trans (r_bin rfl rfl rfl (b_lss rfl)) (Go.Proofs.YtgajcmanompmcaaV.dF hc6)) <| OA.nil fun _ => RA.seq hd <| RA.condF rfl ?_
   refine RA.exit env_ok ?_
   intro _
   refine RA.seq hd <| RA.sR hd env_ok <| OA.ps [(46, (.int .i64 ((d.ds.length : Nat) : Int))), (47, (.int .i64 0))] rfl <| OA.nil fun _ => RA.block ?_
   refine RA.loop hd (fun kk_ τ n' D => (∃ m : Nat, kk_ = (d.ds.length + 1 - m) ∧ n6 ≤ n' ∧ Has τ [(0, (Pt r 0 0)), (1, (Pt c 0 0)), (46, (.int .i64 ((d.ds.length : Nat) : Int))), (47, (.int .i64 ((m : Nat) : Int)))] ∧ D = [(c, some ⟨[(xCx28 d jg i)], 15, 53, true⟩), (r, some ⟨[[(.string (bstr (dsL (d.ds.drop m)))), (.int .i64 0)]], 2, 121, true⟩), (jg, some (oGp (d.gs.take i)))] ∧ (∀ i ∈ keys D, i < n') ∧ m = 0) ∨ (∃ m : Nat, ∃ jd : Nat, kk_ = (d.ds.length + 1 - m) ∧ n6 ≤ n' ∧ Has τ [(0, (Pt r 0 0)), (1, (Pt c 0 0)), (46, (.int .i64 ((d.ds.length : Nat) : Int))), (47, (.int .i64 ((m : Nat) : Int)))] ∧ D = [(c, some ⟨[(xCx23 d jg i jd m)], 15, 53, true⟩), (r, some ⟨[[(.string (bstr (dsL (d.ds.drop m)))), (.int .i64 0)]], 2, 121, true⟩), (jg, some (oGp (d.gs.take i))), (jd, some (oDp (d.ds.take m)))] ∧ (∀ i ∈ keys D, i < n') ∧ 1 ≤ m ∧ m ≤ d.ds.length ∧ n ≤ jd ∧ jd ≠ jg)) ((d.ds.length + 1 - 0)) (.inl (⟨0, rfl, by omega, ⟨rfl, rfl, rfl, rfl, trivial⟩, (by rw [gs_end (by omega)] <;> rfl), (kb3 (by omega)), rfl⟩)) ?_
   rintro kn18 τ18 n18 Dn18 hSn18
   rcases hSn18 with ⟨m, rfl, hn18, hHn18, rfl, hKn18, hIn18⟩ | ⟨m, jd, rfl, hn18, hHn18, rfl, hKn18, hIn18⟩
   ·
    rw [Has.eq hHn18]
    have hKn18_0 := kk0 hKn18
    have hKn18_1 := kk1 hKn18
    have hKn18_2 := kk2 hKn18
    clear hKn18
    have hm0 := hIn18
    have hddl := dsL_len (d.ds.drop m)
    have hdd2 := List.length_drop (i := m) (l := d.ds)
    have hddl3 := dsL_len (d.ds.drop (m + 1))
    have hdd4 := List.length_drop (i := m + 1) (l := d.ds)
    refine RA.sR hd env_ok ?_
    by_cases hc7 : ((m : Nat) : Int) < ((d.ds.length : Nat) : Int)
    ·
     refine oP 48 yT rfl (Eq.trans (r_bin rfl rfl rfl (b_lss rfl)) (Go.Proofs.YtgajcmanompmcaaV.dT hc7)) <| OA.nil fun _ => RA.seq hd <| RA.condT rfl <| RA.skip env_ok ?_
     intro _
     refine RA.seq hd <| RA.block <| RA.par (md := [some [], some [], some [], some [], some [c], some [], none, some [], none, some [], some [], none]) env_ok (hd.of (by omega) (kb3 (by omega))) (by kernel_rfl) <| PQ.ps [(49, (Pt c 0 0)), (50, (Pt c 0 0)), (51, (Pt c 0 0)), (52, (Pt c 0 14))] rfl <| pQl 53 (.slice none 0 0) get_here <| PQ.ps [(54, (Pt r 0 0))] rfl ?_
     refine PQ.call (dst := (some 55)) (all := [(Pt r 0 0)]) rfl rfl rfl rfl rfl rfl rfl rfl _ (sA (V := []) (by kernel_rfl) (by kernel_rfl)) (CQ.imp (CQ.keys (cU32 (hd.of (by omega) (kb3 (by omega))) r (d.ds.getD m dDp).x (dsL (d.ds.drop (m + 1))) (by simp only [List.length_append, be1_len, be2_len, be4_len, L_len, List.length_nil, List.length_replicate]; omega) (by rw [← ds_at (by omega)]; exact (get_there (by omega) get_here)))) ?_)
     rintro _ n19 _ ⟨hkn19, ⟨rfl, rfl⟩⟩
     have hn19 := hkn19.1
     refine ⟨hn19, (kp1 (by first | exact wr_new (by omega) (by omega) | exact wr_old [0, 1, 2, 3, 4] (by kernel_rfl) (by omega) (by omega) (fac (lo0 rfl) (fac (lo0 rfl) (fac (lo0 rfl) (fac (lo0 rfl) (fac (lo1 rfl (by omega)) fan))))))), ?_⟩
     refine PQ.op (dst := (some 56)) (v := (.slice (some ⟨n19, 0, none⟩) 1 0)) (n1 := (n19 + 1)) (d1 := [(n19, some ⟨[[(W (d.ds.getD m dDp).x)]], 1, 36, true⟩)]) rfl rfl rfl noStore nOK (by kernel_rfl) (by omega) (kp1 (wr_new (by omega) (by omega))) <| PQ.op (dst := (some 57)) (v := (.slice (some ⟨(n19 + 1), 0, none⟩) 1 0)) (n1 := (n19 + 2)) (d1 := [((n19 + 1), some (oDp [(d.ds.getD m dDp)]))]) rfl rfl rfl _ (sA (V := [(n19, some ⟨[[(W (d.ds.getD m dDp).x)]], 1, 36, true⟩), (r, some ⟨[[(.string (bstr (dsL (d.ds.drop (m + 1))))), (.int .i64 0)]], 2, 121, true⟩)]) (by kernel_rfl) (by kernel_rfl)) (r_append0R (c := cDp) (x := (d.ds.getD m dDp)) rfl rfl rfl rfl rfl rfl rfl rfl rfl rfl (by decide) get_here (of_decide_eq_true (by kernel_rfl))) (by omega) (kp1 (wr_new (by omega) (by omega))) <| PQ.ps [(58, (Pt c 0 0)), (59, (Pt c 0 14))] rfl <| PQ.op (dst := none) (v := (.tuple #[])) (n1 := (n19 + 2)) (d1 := [(c, some ⟨[(xCx22 d jg i n19)], 15, 53, true⟩)]) rfl rfl rfl _ (sA (V := [((n19 + 1), some (oDp [(d.ds.getD m dDp)])), (n19, some ⟨[[(W (d.ds.getD m dDp).x)]], 1, 36, true⟩), (r, some ⟨[[(.string (bstr (dsL (d.ds.drop (m + 1))))), (.int .i64 0)]], 2, 121, true⟩)]) (by kernel_rfl) (by kernel_rfl)) (rS (gt3 (by omega) get_here)) (by omega) (kp1 (wr_tight (by kernel_rfl) (by omega))) <| PQ.done (d := [(c, some ⟨[(xCx22 d jg i n19)], 15, 53, true⟩), ((n19 + 1), some (oDp [(d.ds.getD m dDp)])), (n19, some ⟨[[(W (d.ds.getD m dDp).x)]], 1, 36, true⟩), (r, some ⟨[[(.string (bstr (dsL (d.ds.drop (m + 1))))), (.int .i64 0)]], 2, 121, true⟩)]) (by kernel_rfl) fun _ => RA.weaken hd (LsO (fA get_here get_here (fA (get_there (by omega) get_here) (get_there (by omega) get_here) (fA (gt2 (by omega) get_here) (gt2 (by omega) get_here) (fA (gt3 (by omega) get_here) (gt3 (by omega) get_here) (fA (gt4 (by omega) get_here) (gt6 (by omega) get_here) fan)))))) <| RA.region env_ok <| oP 60 (.int .i64 (((m + 1) : Nat) : Int)) rfl (r_bin rfl rfl rfl (b_add (i64_eq (by omega)))) <| OA.ps [(47, (.int .i64 (((m + 1) : Nat) : Int)))] rfl <| OA.nil ?_
     refine ⟨(d.ds.length + 1 - (m + 1)), by omega, [(c, some ⟨[(xCx22 d jg i n19)], 15, 53, true⟩), (r, some ⟨[[(.string (bstr (dsL (d.ds.drop (m + 1))))), (.int .i64 0)]], 2, 121, true⟩), (jg, some (oGp (d.gs.take i))), ((n19 + 1), some (oDp [(d.ds.getD m dDp)]))], (LsO (fA get_here get_here (fA (get_there (by omega) get_here) (gt3 (by omega) get_here) (fA (gt2 (by omega) get_here) (gt4 (by omega) get_here) (fA (gt3 (by omega) get_here) (get_there (by omega) get_here) fan))))), .inr (⟨(m + 1), (n19 + 1), rfl, by omega, ⟨rfl, rfl, rfl, rfl, trivial⟩, (by rw [take_one hm0 (by omega), show m + 1 = 1 from by omega] <;> rfl), (kb4 (by omega)), ⟨by omega, by omega, by omega, by omega⟩⟩)⟩
    ·
     refine oP 48 yF rfl (Eq.trans (r_bin rfl rfl rfl (b_lss rfl)) (Go.Proofs.YtgajcmanompmcaaV.dF hc7)) <| OA.nil fun _ => RA.seq hd <| RA.condF rfl ?_
     refine RA.exit env_ok ?_
     intro _
     refine RA.sR hd env_ok <| OA.ps [(61, (Pt r 0 0))] rfl <| oC 62 (v := (.int .i64 0)) (hd.of (by omega) (kb3 (by omega))) rfl rfl (rErr r _ 0 (get_there (by omega) get_here)) fun n20 hn20 => oP 63 yT rfl (r_bin rfl rfl rfl (b_eql (by simp))) <| OA.ps [(64, yT), (65, (Pt c 0 0)), (66, (Pt c 0 0)), (67, (Pt c 0 13))] rfl <| oL 68 (.slice (some ⟨jg, 0, none⟩) i 0) get_here <| oC 69 (hd.of (by omega) (kb3 (by omega))) rfl rfl (sRising (gapE (.slice (some ⟨jg, 0, none⟩) i 0) (d.gs.take i)) true (bT (by show gapsP (d.gs.take i); rw [take_full (by omega)]; exact hgp)) (gd_gapE (RowQ.new (c := cGp) (gt2 (by omega) get_here) (take_len (by omega))) (by rw [take_len (by omega)]; omega) (fun g hg => h.gr g (List.mem_of_mem_take hg)))) fun n21 hn21 => OA.ps [(70, yF), (71, yF)] rfl <| OA.nil fun _ => RA.condF rfl <| RA.skip env_ok ?_
     refine ⟨.inl rfl, [], resL_nil, [(c, some ⟨[(xCx28 d jg i)], 15, 53, true⟩), (r, some ⟨[[(.string (bstr (dsL (d.ds.drop m)))), (.int .i64 0)]], 2, 121, true⟩), (jg, some (oGp (d.gs.take i)))], (Less.refl _ _ _), ⟨rfl, (.slice (some ⟨jg, 0, none⟩) i 0), (.slice none 0 0), get_here, by rw [ds_end (by omega)] <;> exact (get_there (by omega) get_here), (rq_full (gt2 (by omega) get_here) (by omega) (by omega)), (by rw [List.length_eq_zero_iff.1 (show d.ds.length = 0 from by omega)]; exact .nil), by intro q_ hq_; simp only [keys, List.cons_append, List.nil_append, List.map_cons, List.map_nil, List.mem_cons, List.not_mem_nil, or_false, false_or] at hq_; omega⟩⟩
   ·
    rw [Has.eq hHn18]
    have hKn18_0 := kk0 hKn18
    have hKn18_1 := kk1 hKn18
    have hKn18_2 := kk2 hKn18
    have hKn18_3 := kk3 hKn18
    clear hKn18
    obtain ⟨hm1, hml, hj2, hj3⟩ := hIn18
    have hddl := dsL_len (d.ds.drop m)
    have hdd2 := List.length_drop (i := m) (l := d.ds)
    have hddl3 := dsL_len (d.ds.drop (m + 1))
    have hdd4 := List.length_drop (i := m + 1) (l := d.ds)
    refine RA.sR hd env_ok ?_
    by_cases hc8 : ((m : Nat) : Int) < ((d.ds.length : Nat) : Int)
    ·
     refine oP 48 yT rfl (Eq.trans (r_bin rfl rfl rfl (b_lss rfl)) (Go.Proofs.YtgajcmanompmcaaV.dT hc8)) <| OA.nil fun _ => RA.seq hd <| RA.condT rfl <| RA.skip env_ok ?_
     intro _
     refine RA.seq hd <| RA.block <| RA.par (md := [some [], some [], some [], some [], some [c], some [], none, some [], none, some [], some [], none]) env_ok (hd.of (by omega) (kb4 (by omega))) (by kernel_rfl) <| PQ.ps [(49, (Pt c 0 0)), (50, (Pt c 0 0)), (51, (Pt c 0 0)), (52, (Pt c 0 14))] rfl <| pQl 53 (.slice (some ⟨jd, 0, none⟩) m 0) get_here <| PQ.ps [(54, (Pt r 0 0))] rfl ?_
     refine PQ.call (dst := (some 55)) (all := [(Pt r 0 0)]) rfl rfl rfl rfl rfl rfl rfl rfl _ (sA (V := []) (by kernel_rfl) (by kernel_rfl)) (CQ.imp (CQ.keys (cU32 (hd.of (by omega) (kb4 (by omega))) r (d.ds.getD m dDp).x (dsL (d.ds.drop (m + 1))) (by simp only [List.length_append, be1_len, be2_len, be4_len, L_len, List.length_nil, List.length_replicate]; omega) (by rw [← ds_at (by omega)]; exact (get_there (by omega) get_here)))) ?_)
     rintro _ n22 _ ⟨hkn22, ⟨rfl, rfl⟩⟩
     have hn22 := hkn22.1
     refine ⟨hn22, (kp1 (by first | exact wr_new (by omega) (by omega) | exact wr_old [0, 1, 2, 3, 4] (by kernel_rfl) (by omega) (by omega) (fac (lo0 rfl) (fac (lo0 rfl) (fac (lo0 rfl) (fac (lo0 rfl) (fac (lo1 rfl (by omega)) fan))))))), ?_⟩
     refine PQ.op (dst := (some 56)) (v := (.slice (some ⟨n22, 0, none⟩) 1 0)) (n1 := (n22 + 1)) (d1 := [(n22, some ⟨[[(W (d.ds.getD m dDp).x)]], 1, 36, true⟩)]) rfl rfl rfl noStore nOK (by kernel_rfl) (by omega) (kp1 (wr_new (by omega) (by omega))) <| PQ.op (dst := (some 57)) (v := (.slice (some ⟨(n22 + 1), 0, none⟩) (m + 1) 0)) (n1 := (n22 + 2)) (d1 := [((n22 + 1), some (oDp (d.ds.take (m + 1)))), (jd, none)]) rfl rfl rfl _ (sA (V := [(n22, some ⟨[[(W (d.ds.getD m dDp).x)]], 1, 36, true⟩), (r, some ⟨[[(.string (bstr (dsL (d.ds.drop (m + 1))))), (.int .i64 0)]], 2, 121, true⟩)]) (by kernel_rfl) (by kernel_rfl)) (r_appendR (c := cDp) (l' := (d.ds.take (m + 1))) rfl rfl rfl rfl rfl rfl rfl rfl rfl rfl (by decide) (gt5 (by omega) get_here) get_here (by rw [take_len (by omega)]) (tk_snoc (c := cDp) (d0 := dDp) (by omega)) (by omega) (of_decide_eq_true (by kernel_rfl)) (by omega)) (by omega) (kp2 (wr_new (by omega) (by omega)) (wr_old [0] (by kernel_rfl) (by omega) (by omega) (fac (lo0 rfl) fan))) <| PQ.ps [(58, (Pt c 0 0)), (59, (Pt c 0 14))] rfl <| PQ.op (dst := none) (v := (.tuple #[])) (n1 := (n22 + 2)) (d1 := [(c, some ⟨[(xCx21 d jg i n22 m)], 15, 53, true⟩)]) rfl rfl rfl _ (sA (V := [((n22 + 1), some (oDp (d.ds.take (m + 1)))), (jd, none), (n22, some ⟨[[(W (d.ds.getD m dDp).x)]], 1, 36, true⟩), (r, some ⟨[[(.string (bstr (dsL (d.ds.drop (m + 1))))), (.int .i64 0)]], 2, 121, true⟩)]) (by kernel_rfl) (by kernel_rfl)) (rS (gt4 (by omega) get_here)) (by omega) (kp1 (wr_tight (by kernel_rfl) (by omega))) <| PQ.done (d := [(c, some ⟨[(xCx21 d jg i n22 m)], 15, 53, true⟩), ((n22 + 1), some (oDp (d.ds.take (m + 1)))), (jd, none), (n22, some ⟨[[(W (d.ds.getD m dDp).x)]], 1, 36, true⟩), (r, some ⟨[[(.string (bstr (dsL (d.ds.drop (m + 1))))), (.int .i64 0)]], 2, 121, true⟩)]) (by kernel_rfl) fun _ => RA.weaken hd (LsO (fA get_here get_here (fA (get_there (by omega) get_here) (get_there (by omega) get_here) (fA (gt2 (by omega) get_here) (gt2 (by omega) get_here) (fA (gt3 (by omega) get_here) (gt3 (by omega) get_here) (fA (gt4 (by omega) get_here) (gt4 (by omega) get_here) (fA (gt5 (by omega) get_here) (gt7 (by omega) get_here) fan))))))) <| RA.region env_ok <| oP 60 (.int .i64 (((m + 1) : Nat) : Int)) rfl (r_bin rfl rfl rfl (b_add (i64_eq (by omega)))) <| OA.ps [(47, (.int .i64 (((m + 1) : Nat) : Int)))] rfl <| OA.nil ?_
     refine ⟨(d.ds.length + 1 - (m + 1)), by omega, [(c, some ⟨[(xCx21 d jg i n22 m)], 15, 53, true⟩), (r, some ⟨[[(.string (bstr (dsL (d.ds.drop (m + 1))))), (.int .i64 0)]], 2, 121, true⟩), (jg, some (oGp (d.gs.take i))), ((n22 + 1), some (oDp (d.ds.take (m + 1))))], (LsO (fA get_here get_here (fA (get_there (by omega) get_here) (gt4 (by omega) get_here) (fA (gt2 (by omega) get_here) (gt5 (by omega) get_here) (fA (gt3 (by omega) get_here) (get_there (by omega) get_here) fan))))), .inr (⟨(m + 1), (n22 + 1), rfl, by omega, ⟨rfl, rfl, rfl, rfl, trivial⟩, rfl, (kb4 (by omega)), ⟨by omega, by omega, by omega, by omega⟩⟩)⟩
    ·
     refine oP 48 yF rfl (Eq.trans (r_bin rfl rfl rfl (b_lss rfl)) (Go.Proofs.YtgajcmanompmcaaV.dF hc8)) <| OA.nil fun _ => RA.seq hd <| RA.condF rfl ?_
     refine RA.exit env_ok ?_
     intro _
     refine RA.sR hd env_ok <| OA.ps [(61, (Pt r 0 0))] rfl <| oC 62 (v := (.int .i64 0)) (hd.of (by omega) (kb4 (by omega))) rfl rfl (rErr r _ 0 (get_there (by omega) get_here)) fun n23 hn23 => oP 63 yT rfl (r_bin rfl rfl rfl (b_eql (by simp))) <| OA.ps [(64, yT), (65, (Pt c 0 0)), (66, (Pt c 0 0)), (67, (Pt c 0 13))] rfl <| oL 68 (.slice (some ⟨jg, 0, none⟩) i 0) get_here <| oC 69 (hd.of (by omega) (kb4 (by omega))) rfl rfl (sRising (gapE (.slice (some ⟨jg, 0, none⟩) i 0) (d.gs.take i)) true (bT (by show gapsP (d.gs.take i); rw [take_full (by omega)]; exact hgp)) (gd_gapE (RowQ.new (c := cGp) (gt2 (by omega) get_here) (take_len (by omega))) (by rw [take_len (by omega)]; omega) (fun g hg => h.gr g (List.mem_of_mem_take hg)))) fun n24 hn24 => OA.ps [(70, yF), (71, yF)] rfl <| OA.nil fun _ => RA.condF rfl <| RA.skip env_ok ?_
     refine ⟨.inl rfl, [], resL_nil, [(c, some ⟨[(xCx23 d jg i jd m)], 15, 53, true⟩), (r, some ⟨[[(.string (bstr (dsL (d.ds.drop m)))), (.int .i64 0)]], 2, 121, true⟩), (jg, some (oGp (d.gs.take i))), (jd, some (oDp (d.ds.take m)))], (Less.refl _ _ _), ⟨rfl, (.slice (some ⟨jg, 0, none⟩) i 0), (.slice (some ⟨jd, 0, none⟩) m 0), get_here, by rw [ds_end (by omega)] <;> exact (get_there (by omega) get_here), (rq_full (gt2 (by omega) get_here) (by omega) (by omega)), (rq_full (gt3 (by omega) get_here) (by omega) (by omega)), by intro q_ hq_; simp only [keys, List.cons_append, List.nil_append, List.map_cons, List.map_nil, List.mem_cons, List.not_mem_nil, or_false, false_or] at hq_; omega⟩⟩
end Go.Proofs.Ytgajcmanompmcaa.Vt
