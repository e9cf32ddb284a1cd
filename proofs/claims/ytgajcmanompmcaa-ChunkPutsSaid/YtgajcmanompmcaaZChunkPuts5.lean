/- Part 5 of the texts that prove ChunkPuts: the abstract machine, its calculus, and walks through functions; joined by a program of this workplace. -/
import Derived.Test.YtgajcmanompmcaaZChunkPuts4
/- Cx3: walks through functions of the program, by the calculus; written by a program of this workplace. -/
namespace Go.Proofs.Ytgajcmanompmcaa.Vt
open Go Go.Proofs Go.Proofs.YtgajcmanompmcaaV
set_option maxRecDepth 100000
set_option linter.unusedVariables false
set_option linter.unusedSimpArgs false
set_option maxHeartbeats 8000000
abbrev xCx31 (d : Chk) : List Value := [(.int .i64 d.typ), (.int .i64 d.flags), (.int .u32 0), (.int .i64 0), (.int .i64 0), (.int .u32 0), (.string ByteArray.empty), (.int .u32 0), (.int .u32 0), (.int .i64 0), (.int .i64 0), (.slice none 0 0), (.slice none 0 0), (.slice none 0 0), (.slice none 0 0)]
abbrev xCx32 (d : Chk) : List Value := [(.int .i64 d.typ), (.int .i64 d.flags), (W d.tsn), (.int .i64 0), (.int .i64 0), (.int .u32 0), (.string ByteArray.empty), (W d.tag), (W d.rwnd), (.int .i64 d.outs), (.int .i64 d.ins), (.slice none 0 0), (.slice none 0 0), (.slice none 0 0), (.slice none 0 0)]
abbrev xCx33 (d : Chk) : List Value := [(.int .i64 d.typ), (.int .i64 d.flags), (W d.tsn), (.int .i64 0), (.int .i64 0), (.int .u32 0), (.string ByteArray.empty), (.int .u32 0), (.int .u32 0), (.int .i64 0), (.int .i64 0), (.slice none 0 0), (.slice none 0 0), (.slice none 0 0), (.slice none 0 0)]
abbrev xCx34 (d : Chk) : List Value := [(.int .i64 d.typ), (.int .i64 d.flags), (.int .u32 0), (.int .i64 0), (.int .i64 0), (.int .u32 0), (.string d.data), (.int .u32 0), (.int .u32 0), (.int .i64 0), (.int .i64 0), (.slice none 0 0), (.slice none 0 0), (.slice none 0 0), (.slice none 0 0)]
abbrev xCx35 (d : Chk) : Chk := (Chk.mk d.typ d.flags d.tsn 0 0 (0#32) ByteArray.empty (0#32) (0#32) 0 0 (.slice none 0 0) (.slice none 0 0) (.slice none 0 0) (.slice none 0 0) d.ps [] [] [])
abbrev xCx36 (d : Chk) : Chk := (Chk.mk d.typ d.flags (0#32) 0 0 (0#32) ByteArray.empty (0#32) (0#32) 0 0 (.slice none 0 0) (.slice none 0 0) (.slice none 0 0) (.slice none 0 0) [] [] [] [])
abbrev xCx37 (d : Chk) : Chk := (Chk.mk d.typ d.flags (0#32) 0 0 (0#32) d.data (0#32) (0#32) 0 0 (.slice none 0 0) (.slice none 0 0) (.slice none 0 0) (.slice none 0 0) [] [] [] [])
set_option maxHeartbeats 16000000 in
theorem cSays0 {n : Nat} {σ : Store} (hd : Dom n σ) (r c : Nat) (hrc : r ≠ c) (d : Chk) (hm : mayP d) (h : gd σ d) (hk : kd d.typ = 0) (hr : σ r = some ⟨[[(.string (bstr (be4 d.tsn ++ (be2 d.stream.toNat ++ (be2 d.ssn.toNat ++ (be4 d.proto ++ L d.data)))))), (.int .i64 0)]], 2, 121, true⟩) (hc : σ c = some ⟨[[(.int .i64 d.typ), (.int .i64 d.flags), (.int .u32 0), (.int .i64 0), (.int .i64 0), (.int .u32 0), (.string ByteArray.empty), (.int .u32 0), (.int .u32 0), (.int .i64 0), (.int .i64 0), (.slice none 0 0), (.slice none 0 0), (.slice none 0 0), (.slice none 0 0)]], 15, 53, true⟩)  : CQ Try.prog noDen 91 [(Pt r 0 0), (Pt c 0 0)] n σ (fun v n' D_ => v = .tuple #[] ∧ ∃ y : Chk, app D_ σ c = some ⟨[cChk y], 15, 53, true⟩ ∧ app D_ σ r = some ⟨[[(.string (bstr ([] : List UInt8))), (.int .i64 0)]], 2, 121, true⟩ ∧ gd (app D_ σ) y ∧ yEq d y ∧ ∀ q_ ∈ keys D_, q_ = c ∨ q_ = r ∨ (n ≤ q_ ∧ q_ < n')) := by
 have lhr := hd.lt hr
 have lhc := hd.lt hc
 have hkk := kd_cases d.typ
 have hok := hm.2.1
 have hls := hok.lists
 have hw1 := hok.w1
 have hw2 := hok.w2
 have hw3 := hok.w3
 have hw4 := hok.w4
 unfold wordP at hw1 hw2 hw3 hw4
 have hda := hok.data
 have hgp := hok.gaps
 have hdp := hok.dups
 have hp16 := hls.2.2.1
 have hc16 := hls.2.2.2
 have hp1 : prmOk 1 d.data := ⟨by omega, by omega, by omega⟩
 have hpl := psL_len hls.1 (i := d.ps.length) hp16
 have hcl := csL_len hls.2.1 (i := d.cs.length) hc16
 rw [List.take_length] at hpl hcl
 have hgl := gsL_len d.gs
 have hdl := dsL_len d.ds
 have hLd := L_len d.data
 have hg16 := hgp.2
 have hgal : (gapsL d).length ≤ 200 := by unfold gapsL; simp only [List.length_append, be2_len]; omega
 refine CQ.body (E := env) env_ok hd rfl rfl (by show _ ≤ _; exact of_decide_eq_true (by kernel_rfl)) ?_
 refine RA.sR hd env_ok <| OA.ps [(7, (Pt c 0 0)), (8, (Pt c 0 0)), (9, (Pt c 0 0))] rfl <| oL 10 (.int .i64 d.typ) hc <| OA.nil fun _ => RA.block <| RA.sR hd env_ok ?_
 have hc1 : d.typ = 0 := Classical.byContradiction (fun hdd => by exfalso; omega)
 refine oP 17 yT rfl (Eq.trans (r_bin rfl rfl rfl (b_eql rfl)) (Go.Proofs.YtgajcmanompmcaaV.dT hc1)) <| OA.ps [(16, yT)] rfl <| OA.nil fun _ => RA.condT rfl <| RA.sR hd env_ok <| OA.ps [(18, (Pt c 0 0)), (19, (Pt c 0 0)), (20, (Pt c 0 0)), (21, (Pt c 0 0)), (22, (Pt r 0 0))] rfl ?_
 refine OA.call (dst := (some 23)) (all := [(Pt r 0 0)]) rfl rfl rfl rfl rfl rfl rfl rfl (CQ.imp (cU32 (hd.up (by omega)) r d.tsn (be2 d.stream.toNat ++ (be2 d.ssn.toNat ++ (be4 d.proto ++ L d.data))) (by simp only [List.length_append, be1_len, be2_len, be4_len, L_len, List.length_nil, List.length_replicate]; omega) hr) ?_)
 rintro _ n1 _ ⟨rfl, rfl⟩ hn1
 refine OA.app1 ?_
 refine OA.ps [(24, (Pt r 0 0))] rfl ?_
 refine OA.call (dst := (some 25)) (all := [(Pt r 0 0)]) rfl rfl rfl rfl rfl rfl rfl rfl (CQ.imp (cU16z (hd.of (by omega) (kb1 (by omega))) r d.stream (by omega) (by omega) (be2 d.ssn.toNat ++ (be4 d.proto ++ L d.data)) (by simp only [List.length_append, be1_len, be2_len, be4_len, L_len, List.length_nil, List.length_replicate]; omega) get_here) ?_)
 rintro _ n2 _ ⟨rfl, rfl⟩ hn2
 refine OA.app1 ?_
 refine OA.ps [(26, (Pt r 0 0))] rfl ?_
 refine OA.call (dst := (some 27)) (all := [(Pt r 0 0)]) rfl rfl rfl rfl rfl rfl rfl rfl (CQ.imp (cU16z (hd.of (by omega) (kb2 (by omega))) r d.ssn (by omega) (by omega) (be4 d.proto ++ L d.data) (by simp only [List.length_append, be1_len, be2_len, be4_len, L_len, List.length_nil, List.length_replicate]; omega) get_here) ?_)
 rintro _ n3 _ ⟨rfl, rfl⟩ hn3
 refine OA.app1 ?_
 refine OA.ps [(28, (Pt r 0 0))] rfl ?_
 refine OA.call (dst := (some 29)) (all := [(Pt r 0 0)]) rfl rfl rfl rfl rfl rfl rfl rfl (CQ.imp (cU32 (hd.of (by omega) (kb3 (by omega))) r d.proto (L d.data) (by simp only [List.length_append, be1_len, be2_len, be4_len, L_len, List.length_nil, List.length_replicate]; omega) get_here) ?_)
 rintro _ n4 _ ⟨rfl, rfl⟩ hn4
 refine OA.app1 ?_
 refine OA.ps [(30, (Pt c 0 0)), (31, (Pt c 0 2))] rfl <| o1 none yU n4 (c, some ⟨[(xCx33 d)], 15, 53, true⟩) (rS (gt4 (by omega) hc)) <| OA.ps [(32, (Pt c 0 0)), (33, (Pt c 0 3))] rfl <| o1 none yU n4 (c, some ⟨[[(.int .i64 d.typ), (.int .i64 d.flags), (W d.tsn), (.int .i64 d.stream), (.int .i64 0), (.int .u32 0), (.string ByteArray.empty), (.int .u32 0), (.int .u32 0), (.int .i64 0), (.int .i64 0), (.slice none 0 0), (.slice none 0 0), (.slice none 0 0), (.slice none 0 0)]], 15, 53, true⟩) (rS get_here) <| OA.ps [(34, (Pt c 0 0)), (35, (Pt c 0 4))] rfl <| o1 none yU n4 (c, some ⟨[[(.int .i64 d.typ), (.int .i64 d.flags), (W d.tsn), (.int .i64 d.stream), (.int .i64 d.ssn), (.int .u32 0), (.string ByteArray.empty), (.int .u32 0), (.int .u32 0), (.int .i64 0), (.int .i64 0), (.slice none 0 0), (.slice none 0 0), (.slice none 0 0), (.slice none 0 0)]], 15, 53, true⟩) (rS get_here) <| OA.ps [(36, (Pt c 0 0)), (37, (Pt c 0 5))] rfl <| o1 none yU n4 (c, some ⟨[[(.int .i64 d.typ), (.int .i64 d.flags), (W d.tsn), (.int .i64 d.stream), (.int .i64 d.ssn), (W d.proto), (.string ByteArray.empty), (.int .u32 0), (.int .u32 0), (.int .i64 0), (.int .i64 0), (.slice none 0 0), (.slice none 0 0), (.slice none 0 0), (.slice none 0 0)]], 15, 53, true⟩) (rS get_here) <| OA.nil fun _ => RA.weaken hd (LsO (fA get_here get_here (fA (get_there (by omega) get_here) (gt4 (by omega) get_here) fan))) <| RA.rb [(0, (Pt r 0 0)), (1, (Pt c 0 0)), (10, (.int .i64 d.typ)), (16, yT)] rfl (fun τr5 => ?_)
 refine RA.region env_ok <| OA.ps [(38, (Pt c 0 0)), (39, (Pt r 0 0))] rfl ?_
 refine OA.call (dst := (some 40)) (all := [(Pt r 0 0)]) rfl rfl rfl rfl rfl rfl rfl rfl (CQ.imp (cRestD (hd.of (by omega) (kb2 (by omega))) r d.data (by omega) (get_there (by omega) get_here)) ?_)
 rintro _ n6 _ ⟨rfl, rfl⟩ hn6
 refine OA.app1 ?_
 refine OA.ps [(41, (Pt c 0 0)), (42, (Pt c 0 6))] rfl <| o1 none yU n6 (c, some ⟨[[(.int .i64 d.typ), (.int .i64 d.flags), (W d.tsn), (.int .i64 d.stream), (.int .i64 d.ssn), (W d.proto), (.string d.data), (.int .u32 0), (.int .u32 0), (.int .i64 0), (.int .i64 0), (.slice none 0 0), (.slice none 0 0), (.slice none 0 0), (.slice none 0 0)]], 15, 53, true⟩) (rS (get_there (by omega) get_here)) <| OA.nil ?_
 refine ⟨.inl rfl, [], resL_nil, [(c, some ⟨[[(.int .i64 d.typ), (.int .i64 d.flags), (W d.tsn), (.int .i64 d.stream), (.int .i64 d.ssn), (W d.proto), (.string d.data), (.int .u32 0), (.int .u32 0), (.int .i64 0), (.int .i64 0), (.slice none 0 0), (.slice none 0 0), (.slice none 0 0), (.slice none 0 0)]], 15, 53, true⟩), (r, some ⟨[[(.string (bstr ([] : List UInt8))), (.int .i64 0)]], 2, 121, true⟩)], (LsO (fA get_here get_here (fA (get_there (by omega) get_here) (get_there (by omega) get_here) fan))), ⟨rfl, (Chk.mk d.typ d.flags d.tsn d.stream d.ssn d.proto d.data (0#32) (0#32) 0 0 (.slice none 0 0) (.slice none 0 0) (.slice none 0 0) (.slice none 0 0) [] [] [] []), get_here, (get_there (by omega) get_here), ⟨.nil, .nil, .nil, .nil, Nat.zero_le _, Nat.zero_le _, Nat.zero_le _, Nat.zero_le _, h.fl, fun g hg => by cases hg⟩, (by have hq := plain_eq hm.2.2.2; rw [pl_0 hk] at hq; exact hq), by intro q_ hq_; simp only [keys, List.cons_append, List.nil_append, List.map_cons, List.map_nil, List.mem_cons, List.not_mem_nil, or_false, false_or] at hq_ <;> omega⟩⟩
set_option maxHeartbeats 16000000 in
theorem cSays1 {n : Nat} {σ : Store} (hd : Dom n σ) (r c : Nat) (hrc : r ≠ c) (d : Chk) (hm : mayP d) (h : gd σ d) (hk : kd d.typ = 1) (hr : σ r = some ⟨[[(.string (bstr (be4 d.tag ++ (be4 d.rwnd ++ (be2 d.outs.toNat ++ (be2 d.ins.toNat ++ (be4 d.tsn ++ psL d.ps))))))), (.int .i64 0)]], 2, 121, true⟩) (hc : σ c = some ⟨[[(.int .i64 d.typ), (.int .i64 d.flags), (.int .u32 0), (.int .i64 0), (.int .i64 0), (.int .u32 0), (.string ByteArray.empty), (.int .u32 0), (.int .u32 0), (.int .i64 0), (.int .i64 0), (.slice none 0 0), (.slice none 0 0), (.slice none 0 0), (.slice none 0 0)]], 15, 53, true⟩)  : CQ Try.prog noDen 91 [(Pt r 0 0), (Pt c 0 0)] n σ (fun v n' D_ => v = .tuple #[] ∧ ∃ y : Chk, app D_ σ c = some ⟨[cChk y], 15, 53, true⟩ ∧ app D_ σ r = some ⟨[[(.string (bstr ([] : List UInt8))), (.int .i64 0)]], 2, 121, true⟩ ∧ gd (app D_ σ) y ∧ yEq d y ∧ ∀ q_ ∈ keys D_, q_ = c ∨ q_ = r ∨ (n ≤ q_ ∧ q_ < n')) := by
 have lhr := hd.lt hr
 have lhc := hd.lt hc
 have hkk := kd_cases d.typ
 have hok := hm.2.1
 have hls := hok.lists
 have hw1 := hok.w1
 have hw2 := hok.w2
 have hw3 := hok.w3
 have hw4 := hok.w4
 unfold wordP at hw1 hw2 hw3 hw4
 have hda := hok.data
 have hgp := hok.gaps
 have hdp := hok.dups
 have hp16 := hls.2.2.1
 have hc16 := hls.2.2.2
 have hp1 : prmOk 1 d.data := ⟨by omega, by omega, by omega⟩
 have hpl := psL_len hls.1 (i := d.ps.length) hp16
 have hcl := csL_len hls.2.1 (i := d.cs.length) hc16
 rw [List.take_length] at hpl hcl
 have hgl := gsL_len d.gs
 have hdl := dsL_len d.ds
 have hLd := L_len d.data
 have hg16 := hgp.2
 have hgal : (gapsL d).length ≤ 200 := by unfold gapsL; simp only [List.length_append, be2_len]; omega
 refine CQ.body (E := env) env_ok hd rfl rfl (by show _ ≤ _; exact of_decide_eq_true (by kernel_rfl)) ?_
 refine RA.sR hd env_ok <| OA.ps [(7, (Pt c 0 0)), (8, (Pt c 0 0)), (9, (Pt c 0 0))] rfl <| oL 10 (.int .i64 d.typ) hc <| OA.nil fun _ => RA.block <| RA.sR hd env_ok ?_
 have hc1 : ¬ (d.typ = 0) := fun hdd => by exfalso; omega
 refine oP 17 yF rfl (Eq.trans (r_bin rfl rfl rfl (b_eql rfl)) (Go.Proofs.YtgajcmanompmcaaV.dF hc1)) <| OA.ps [(16, yF)] rfl <| OA.nil fun _ => RA.condF rfl <| RA.seq hd <| RA.sR hd env_ok ?_
 by_cases hc2 : d.typ = 1
 ·
  refine oP 44 yT rfl (Eq.trans (r_bin rfl rfl rfl (b_eql rfl)) (Go.Proofs.YtgajcmanompmcaaV.dT hc2)) <| OA.ps [(43, yT)] rfl <| OA.nil fun _ => RA.condT rfl <| RA.skip env_ok ?_
  intro _
  refine RA.condT rfl <| RA.sR hd env_ok <| OA.ps [(46, (Pt c 0 0)), (47, (Pt c 0 0)), (48, (Pt c 0 0)), (49, (Pt c 0 0)), (50, (Pt c 0 0)), (51, (Pt r 0 0))] rfl ?_
  refine OA.call (dst := (some 52)) (all := [(Pt r 0 0)]) rfl rfl rfl rfl rfl rfl rfl rfl (CQ.imp (cU32 (hd.up (by omega)) r d.tag (be4 d.rwnd ++ (be2 d.outs.toNat ++ (be2 d.ins.toNat ++ (be4 d.tsn ++ psL d.ps)))) (by simp only [List.length_append, be1_len, be2_len, be4_len, L_len, List.length_nil, List.length_replicate]; omega) hr) ?_)
  rintro _ n1 _ ⟨rfl, rfl⟩ hn1
  refine OA.app1 ?_
  refine OA.ps [(53, (Pt r 0 0))] rfl ?_
  refine OA.call (dst := (some 54)) (all := [(Pt r 0 0)]) rfl rfl rfl rfl rfl rfl rfl rfl (CQ.imp (cU32 (hd.of (by omega) (kb1 (by omega))) r d.rwnd (be2 d.outs.toNat ++ (be2 d.ins.toNat ++ (be4 d.tsn ++ psL d.ps))) (by simp only [List.length_append, be1_len, be2_len, be4_len, L_len, List.length_nil, List.length_replicate]; omega) get_here) ?_)
  rintro _ n2 _ ⟨rfl, rfl⟩ hn2
  refine OA.app1 ?_
  refine OA.ps [(55, (Pt r 0 0))] rfl ?_
  refine OA.call (dst := (some 56)) (all := [(Pt r 0 0)]) rfl rfl rfl rfl rfl rfl rfl rfl (CQ.imp (cU16z (hd.of (by omega) (kb2 (by omega))) r d.outs (by omega) (by omega) (be2 d.ins.toNat ++ (be4 d.tsn ++ psL d.ps)) (by simp only [List.length_append, be1_len, be2_len, be4_len, L_len, List.length_nil, List.length_replicate]; omega) get_here) ?_)
  rintro _ n3 _ ⟨rfl, rfl⟩ hn3
  refine OA.app1 ?_
  refine OA.ps [(57, (Pt r 0 0))] rfl ?_
  refine OA.call (dst := (some 58)) (all := [(Pt r 0 0)]) rfl rfl rfl rfl rfl rfl rfl rfl (CQ.imp (cU16z (hd.of (by omega) (kb3 (by omega))) r d.ins (by omega) (by omega) (be4 d.tsn ++ psL d.ps) (by simp only [List.length_append, be1_len, be2_len, be4_len, L_len, List.length_nil, List.length_replicate]; omega) get_here) ?_)
  rintro _ n4 _ ⟨rfl, rfl⟩ hn4
  refine OA.app1 ?_
  refine OA.ps [(59, (Pt r 0 0))] rfl ?_
  refine OA.call (dst := (some 60)) (all := [(Pt r 0 0)]) rfl rfl rfl rfl rfl rfl rfl rfl (CQ.imp (cU32 (hd.of (by omega) (kb4 (by omega))) r d.tsn (psL d.ps) (by simp only [List.length_append, be1_len, be2_len, be4_len, L_len, List.length_nil, List.length_replicate]; omega) get_here) ?_)
  rintro _ n5 _ ⟨rfl, rfl⟩ hn5
  refine OA.app1 ?_
  refine OA.ps [(61, (Pt c 0 0)), (62, (Pt c 0 7))] rfl <| o1 none yU n5 (c, some ⟨[[(.int .i64 d.typ), (.int .i64 d.flags), (.int .u32 0), (.int .i64 0), (.int .i64 0), (.int .u32 0), (.string ByteArray.empty), (W d.tag), (.int .u32 0), (.int .i64 0), (.int .i64 0), (.slice none 0 0), (.slice none 0 0), (.slice none 0 0), (.slice none 0 0)]], 15, 53, true⟩) (rS (gt5 (by omega) hc)) <| OA.ps [(63, (Pt c 0 0)), (64, (Pt c 0 8))] rfl <| o1 none yU n5 (c, some ⟨[[(.int .i64 d.typ), (.int .i64 d.flags), (.int .u32 0), (.int .i64 0), (.int .i64 0), (.int .u32 0), (.string ByteArray.empty), (W d.tag), (W d.rwnd), (.int .i64 0), (.int .i64 0), (.slice none 0 0), (.slice none 0 0), (.slice none 0 0), (.slice none 0 0)]], 15, 53, true⟩) (rS get_here) <| OA.ps [(65, (Pt c 0 0)), (66, (Pt c 0 9))] rfl <| o1 none yU n5 (c, some ⟨[[(.int .i64 d.typ), (.int .i64 d.flags), (.int .u32 0), (.int .i64 0), (.int .i64 0), (.int .u32 0), (.string ByteArray.empty), (W d.tag), (W d.rwnd), (.int .i64 d.outs), (.int .i64 0), (.slice none 0 0), (.slice none 0 0), (.slice none 0 0), (.slice none 0 0)]], 15, 53, true⟩) (rS get_here) <| OA.ps [(67, (Pt c 0 0)), (68, (Pt c 0 10))] rfl <| o1 none yU n5 (c, some ⟨[[(.int .i64 d.typ), (.int .i64 d.flags), (.int .u32 0), (.int .i64 0), (.int .i64 0), (.int .u32 0), (.string ByteArray.empty), (W d.tag), (W d.rwnd), (.int .i64 d.outs), (.int .i64 d.ins), (.slice none 0 0), (.slice none 0 0), (.slice none 0 0), (.slice none 0 0)]], 15, 53, true⟩) (rS get_here) <| OA.ps [(69, (Pt c 0 0)), (70, (Pt c 0 2))] rfl <| o1 none yU n5 (c, some ⟨[(xCx32 d)], 15, 53, true⟩) (rS get_here) <| OA.nil fun _ => ?_
  refine RA.weaken hd (LsO (fA get_here get_here (fA (get_there (by omega) get_here) (gt5 (by omega) get_here) fan))) <| RA.rb [(0, (Pt r 0 0)), (1, (Pt c 0 0)), (10, (.int .i64 d.typ)), (16, yF), (43, yT)] rfl (fun τr6 => ?_)
  refine RA.region env_ok <| OA.ps [(71, (Pt c 0 0)), (72, (Pt r 0 0))] rfl ?_
  by_cases hc3 : d.ps = []
  ·
   refine OA.call (dst := (some 73)) (all := [(Pt r 0 0)]) rfl rfl rfl rfl rfl rfl rfl rfl (CQ.imp (cParN (hd.of (by omega) (kb2 (by omega))) r d.ps hls.1 hp16 hc3 (get_there (by omega) get_here)) ?_)
   rintro _ n7 _ ⟨rfl, rfl⟩ hn7
   refine OA.app1 ?_
   refine OA.ps [(74, (Pt c 0 0)), (75, (Pt c 0 11))] rfl <| o1 none yU n7 (c, some ⟨[(xCx32 d)], 15, 53, true⟩) (rS (get_there (by omega) get_here)) <| OA.nil ?_
   refine ⟨.inl rfl, [], resL_nil, [(c, some ⟨[(xCx32 d)], 15, 53, true⟩), (r, some ⟨[[(.string (bstr ([] : List UInt8))), (.int .i64 0)]], 2, 121, true⟩)], (LsO (fA get_here get_here (fA (get_there (by omega) get_here) (get_there (by omega) get_here) fan))), ⟨rfl, (Chk.mk d.typ d.flags d.tsn 0 0 (0#32) ByteArray.empty d.tag d.rwnd d.outs d.ins (.slice none 0 0) (.slice none 0 0) (.slice none 0 0) (.slice none 0 0) d.ps [] [] []), get_here, (get_there (by omega) get_here), ⟨(by rw [hc3]; exact .nil), .nil, .nil, .nil, h.p18, Nat.zero_le _, Nat.zero_le _, Nat.zero_le _, h.fl, fun g hg => by cases hg⟩, (by have hq := plain_eq hm.2.2.2; rw [pl_1 hk] at hq; exact hq), by intro q_ hq_; simp only [keys, List.cons_append, List.nil_append, List.map_cons, List.map_nil, List.mem_cons, List.not_mem_nil, or_false, false_or] at hq_ <;> omega⟩⟩
  ·
   refine OA.call (dst := (some 73)) (all := [(Pt r 0 0)]) rfl rfl rfl rfl rfl rfl rfl rfl (CQ.imp (cParR (hd.of (by omega) (kb2 (by omega))) r d.ps hls.1 hp16 hc3 (get_there (by omega) get_here)) ?_)
   rintro _ n8 _ ⟨kpn8, p1n8, p2n8, rfl, rfl⟩ hn8
   refine OA.app2 ?_
   refine OA.ps [(74, (Pt c 0 0)), (75, (Pt c 0 11))] rfl <| o1 none yU n8 (c, some ⟨[[(.int .i64 d.typ), (.int .i64 d.flags), (W d.tsn), (.int .i64 0), (.int .i64 0), (.int .u32 0), (.string ByteArray.empty), (W d.tag), (W d.rwnd), (.int .i64 d.outs), (.int .i64 d.ins), (.slice (some ⟨kpn8, 0, none⟩) d.ps.length 0), (.slice none 0 0), (.slice none 0 0), (.slice none 0 0)]], 15, 53, true⟩) (rS (gt2 (by omega) get_here)) <| OA.nil ?_
   refine ⟨.inl rfl, [], resL_nil, [(c, some ⟨[[(.int .i64 d.typ), (.int .i64 d.flags), (W d.tsn), (.int .i64 0), (.int .i64 0), (.int .u32 0), (.string ByteArray.empty), (W d.tag), (W d.rwnd), (.int .i64 d.outs), (.int .i64 d.ins), (.slice (some ⟨kpn8, 0, none⟩) d.ps.length 0), (.slice none 0 0), (.slice none 0 0), (.slice none 0 0)]], 15, 53, true⟩), (r, some ⟨[[(.string (bstr ([] : List UInt8))), (.int .i64 0)]], 2, 121, true⟩), (kpn8, some (oPrm d.ps))], (LsO (fA get_here get_here (fA (get_there (by omega) get_here) (gt2 (by omega) get_here) (fA (gt2 (by omega) get_here) (get_there (by omega) get_here) fan)))), ⟨rfl, (Chk.mk d.typ d.flags d.tsn 0 0 (0#32) ByteArray.empty d.tag d.rwnd d.outs d.ins (.slice (some ⟨kpn8, 0, none⟩) d.ps.length 0) (.slice none 0 0) (.slice none 0 0) (.slice none 0 0) d.ps [] [] []), get_here, (get_there (by omega) get_here), ⟨(RowQ.new (gt2 (by omega) get_here) rfl), .nil, .nil, .nil, h.p18, Nat.zero_le _, Nat.zero_le _, Nat.zero_le _, h.fl, fun g hg => by cases hg⟩, (by have hq := plain_eq hm.2.2.2; rw [pl_1 hk] at hq; exact hq), by intro q_ hq_; simp only [keys, List.cons_append, List.nil_append, List.map_cons, List.map_nil, List.mem_cons, List.not_mem_nil, or_false, false_or] at hq_ <;> omega⟩⟩
 ·
  refine oP 44 yF rfl (Eq.trans (r_bin rfl rfl rfl (b_eql rfl)) (Go.Proofs.YtgajcmanompmcaaV.dF hc2)) <| OA.ps [(43, yF)] rfl <| OA.nil fun _ => RA.condF rfl <| RA.region env_ok ?_
  have hc4 : d.typ = 2 := Classical.byContradiction (fun hdd => by exfalso; omega)
  refine oP 45 yT rfl (Eq.trans (r_bin rfl rfl rfl (b_eql rfl)) (Go.Proofs.YtgajcmanompmcaaV.dT hc4)) <| OA.ps [(43, yT)] rfl <| OA.nil fun _ => RA.condT rfl <| RA.sR hd env_ok <| OA.ps [(46, (Pt c 0 0)), (47, (Pt c 0 0)), (48, (Pt c 0 0)), (49, (Pt c 0 0)), (50, (Pt c 0 0)), (51, (Pt r 0 0))] rfl ?_
  refine OA.call (dst := (some 52)) (all := [(Pt r 0 0)]) rfl rfl rfl rfl rfl rfl rfl rfl (CQ.imp (cU32 (hd.up (by omega)) r d.tag (be4 d.rwnd ++ (be2 d.outs.toNat ++ (be2 d.ins.toNat ++ (be4 d.tsn ++ psL d.ps)))) (by simp only [List.length_append, be1_len, be2_len, be4_len, L_len, List.length_nil, List.length_replicate]; omega) hr) ?_)
  rintro _ n9 _ ⟨rfl, rfl⟩ hn9
  refine OA.app1 ?_
  refine OA.ps [(53, (Pt r 0 0))] rfl ?_
  refine OA.call (dst := (some 54)) (all := [(Pt r 0 0)]) rfl rfl rfl rfl rfl rfl rfl rfl (CQ.imp (cU32 (hd.of (by omega) (kb1 (by omega))) r d.rwnd (be2 d.outs.toNat ++ (be2 d.ins.toNat ++ (be4 d.tsn ++ psL d.ps))) (by simp only [List.length_append, be1_len, be2_len, be4_len, L_len, List.length_nil, List.length_replicate]; omega) get_here) ?_)
  rintro _ n10 _ ⟨rfl, rfl⟩ hn10
  refine OA.app1 ?_
  refine OA.ps [(55, (Pt r 0 0))] rfl ?_
  refine OA.call (dst := (some 56)) (all := [(Pt r 0 0)]) rfl rfl rfl rfl rfl rfl rfl rfl (CQ.imp (cU16z (hd.of (by omega) (kb2 (by omega))) r d.outs (by omega) (by omega) (be2 d.ins.toNat ++ (be4 d.tsn ++ psL d.ps)) (by simp only [List.length_append, be1_len, be2_len, be4_len, L_len, List.length_nil, List.length_replicate]; omega) get_here) ?_)
  rintro _ n11 _ ⟨rfl, rfl⟩ hn11
  refine OA.app1 ?_
  refine OA.ps [(57, (Pt r 0 0))] rfl ?_
  refine OA.call (dst := (some 58)) (all := [(Pt r 0 0)]) rfl rfl rfl rfl rfl rfl rfl rfl (CQ.imp (cU16z (hd.of (by omega) (kb3 (by omega))) r d.ins (by omega) (by omega) (be4 d.tsn ++ psL d.ps) (by simp only [List.length_append, be1_len, be2_len, be4_len, L_len, List.length_nil, List.length_replicate]; omega) get_here) ?_)
  rintro _ n12 _ ⟨rfl, rfl⟩ hn12
  refine OA.app1 ?_
  refine OA.ps [(59, (Pt r 0 0))] rfl ?_
  refine OA.call (dst := (some 60)) (all := [(Pt r 0 0)]) rfl rfl rfl rfl rfl rfl rfl rfl (CQ.imp (cU32 (hd.of (by omega) (kb4 (by omega))) r d.tsn (psL d.ps) (by simp only [List.length_append, be1_len, be2_len, be4_len, L_len, List.length_nil, List.length_replicate]; omega) get_here) ?_)
  rintro _ n13 _ ⟨rfl, rfl⟩ hn13
  refine OA.app1 ?_
  refine OA.ps [(61, (Pt c 0 0)), (62, (Pt c 0 7))] rfl <| o1 none yU n13 (c, some ⟨[[(.int .i64 d.typ), (.int .i64 d.flags), (.int .u32 0), (.int .i64 0), (.int .i64 0), (.int .u32 0), (.string ByteArray.empty), (W d.tag), (.int .u32 0), (.int .i64 0), (.int .i64 0), (.slice none 0 0), (.slice none 0 0), (.slice none 0 0), (.slice none 0 0)]], 15, 53, true⟩) (rS (gt5 (by omega) hc)) <| OA.ps [(63, (Pt c 0 0)), (64, (Pt c 0 8))] rfl <| o1 none yU n13 (c, some ⟨[[(.int .i64 d.typ), (.int .i64 d.flags), (.int .u32 0), (.int .i64 0), (.int .i64 0), (.int .u32 0), (.string ByteArray.empty), (W d.tag), (W d.rwnd), (.int .i64 0), (.int .i64 0), (.slice none 0 0), (.slice none 0 0), (.slice none 0 0), (.slice none 0 0)]], 15, 53, true⟩) (rS get_here) <| OA.ps [(65, (Pt c 0 0)), (66, (Pt c 0 9))] rfl <| o1 none yU n13 (c, some ⟨[[(.int .i64 d.typ), (.int .i64 d.flags), (.int .u32 0), (.int .i64 0), (.int .i64 0), (.int .u32 0), (.string ByteArray.empty), (W d.tag), (W d.rwnd), (.int .i64 d.outs), (.int .i64 0), (.slice none 0 0), (.slice none 0 0), (.slice none 0 0), (.slice none 0 0)]], 15, 53, true⟩) (rS get_here) <| OA.ps [(67, (Pt c 0 0)), (68, (Pt c 0 10))] rfl <| o1 none yU n13 (c, some ⟨[[(.int .i64 d.typ), (.int .i64 d.flags), (.int .u32 0), (.int .i64 0), (.int .i64 0), (.int .u32 0), (.string ByteArray.empty), (W d.tag), (W d.rwnd), (.int .i64 d.outs), (.int .i64 d.ins), (.slice none 0 0), (.slice none 0 0), (.slice none 0 0), (.slice none 0 0)]], 15, 53, true⟩) (rS get_here) <| OA.ps [(69, (Pt c 0 0)), (70, (Pt c 0 2))] rfl <| o1 none yU n13 (c, some ⟨[(xCx32 d)], 15, 53, true⟩) (rS get_here) <| OA.nil fun _ => ?_
  refine RA.weaken hd (LsO (fA get_here get_here (fA (get_there (by omega) get_here) (gt5 (by omega) get_here) fan))) <| RA.rb [(0, (Pt r 0 0)), (1, (Pt c 0 0)), (10, (.int .i64 d.typ)), (16, yF), (43, yT)] rfl (fun τr14 => ?_)
  refine RA.region env_ok <| OA.ps [(71, (Pt c 0 0)), (72, (Pt r 0 0))] rfl ?_
  by_cases hc5 : d.ps = []
  ·
   refine OA.call (dst := (some 73)) (all := [(Pt r 0 0)]) rfl rfl rfl rfl rfl rfl rfl rfl (CQ.imp (cParN (hd.of (by omega) (kb2 (by omega))) r d.ps hls.1 hp16 hc5 (get_there (by omega) get_here)) ?_)
   rintro _ n15 _ ⟨rfl, rfl⟩ hn15
   refine OA.app1 ?_
   refine OA.ps [(74, (Pt c 0 0)), (75, (Pt c 0 11))] rfl <| o1 none yU n15 (c, some ⟨[(xCx32 d)], 15, 53, true⟩) (rS (get_there (by omega) get_here)) <| OA.nil ?_
   refine ⟨.inl rfl, [], resL_nil, [(c, some ⟨[(xCx32 d)], 15, 53, true⟩), (r, some ⟨[[(.string (bstr ([] : List UInt8))), (.int .i64 0)]], 2, 121, true⟩)], (LsO (fA get_here get_here (fA (get_there (by omega) get_here) (get_there (by omega) get_here) fan))), ⟨rfl, (Chk.mk d.typ d.flags d.tsn 0 0 (0#32) ByteArray.empty d.tag d.rwnd d.outs d.ins (.slice none 0 0) (.slice none 0 0) (.slice none 0 0) (.slice none 0 0) d.ps [] [] []), get_here, (get_there (by omega) get_here), ⟨(by rw [hc5]; exact .nil), .nil, .nil, .nil, h.p18, Nat.zero_le _, Nat.zero_le _, Nat.zero_le _, h.fl, fun g hg => by cases hg⟩, (by have hq := plain_eq hm.2.2.2; rw [pl_1 hk] at hq; exact hq), by intro q_ hq_; simp only [keys, List.cons_append, List.nil_append, List.map_cons, List.map_nil, List.mem_cons, List.not_mem_nil, or_false, false_or] at hq_ <;> omega⟩⟩
  ·
   refine OA.call (dst := (some 73)) (all := [(Pt r 0 0)]) rfl rfl rfl rfl rfl rfl rfl rfl (CQ.imp (cParR (hd.of (by omega) (kb2 (by omega))) r d.ps hls.1 hp16 hc5 (get_there (by omega) get_here)) ?_)
   rintro _ n16 _ ⟨kpn16, p1n16, p2n16, rfl, rfl⟩ hn16
   refine OA.app2 ?_
   refine OA.ps [(74, (Pt c 0 0)), (75, (Pt c 0 11))] rfl <| o1 none yU n16 (c, some ⟨[[(.int .i64 d.typ), (.int .i64 d.flags), (W d.tsn), (.int .i64 0), (.int .i64 0), (.int .u32 0), (.string ByteArray.empty), (W d.tag), (W d.rwnd), (.int .i64 d.outs), (.int .i64 d.ins), (.slice (some ⟨kpn16, 0, none⟩) d.ps.length 0), (.slice none 0 0), (.slice none 0 0), (.slice none 0 0)]], 15, 53, true⟩) (rS (gt2 (by omega) get_here)) <| OA.nil ?_
   refine ⟨.inl rfl, [], resL_nil, [(c, some ⟨[[(.int .i64 d.typ), (.int .i64 d.flags), (W d.tsn), (.int .i64 0), (.int .i64 0), (.int .u32 0), (.string ByteArray.empty), (W d.tag), (W d.rwnd), (.int .i64 d.outs), (.int .i64 d.ins), (.slice (some ⟨kpn16, 0, none⟩) d.ps.length 0), (.slice none 0 0), (.slice none 0 0), (.slice none 0 0)]], 15, 53, true⟩), (r, some ⟨[[(.string (bstr ([] : List UInt8))), (.int .i64 0)]], 2, 121, true⟩), (kpn16, some (oPrm d.ps))], (LsO (fA get_here get_here (fA (get_there (by omega) get_here) (gt2 (by omega) get_here) (fA (gt2 (by omega) get_here) (get_there (by omega) get_here) fan)))), ⟨rfl, (Chk.mk d.typ d.flags d.tsn 0 0 (0#32) ByteArray.empty d.tag d.rwnd d.outs d.ins (.slice (some ⟨kpn16, 0, none⟩) d.ps.length 0) (.slice none 0 0) (.slice none 0 0) (.slice none 0 0) d.ps [] [] []), get_here, (get_there (by omega) get_here), ⟨(RowQ.new (gt2 (by omega) get_here) rfl), .nil, .nil, .nil, h.p18, Nat.zero_le _, Nat.zero_le _, Nat.zero_le _, h.fl, fun g hg => by cases hg⟩, (by have hq := plain_eq hm.2.2.2; rw [pl_1 hk] at hq; exact hq), by intro q_ hq_; simp only [keys, List.cons_append, List.nil_append, List.map_cons, List.map_nil, List.mem_cons, List.not_mem_nil, or_false, false_or] at hq_ <;> omega⟩⟩
set_option maxHeartbeats 16000000 in
theorem cSays3 {n : Nat} {σ : Store} (hd : Dom n σ) (r c : Nat) (hrc : r ≠ c) (d : Chk) (hm : mayP d) (h : gd σ d) (hk : kd d.typ = 3) (hr : σ r = some ⟨[[(.string (bstr (be4 d.tsn ++ (be4 d.rwnd ++ (be2 d.gs.length ++ (be2 d.ds.length ++ (gsL d.gs ++ dsL d.ds))))))), (.int .i64 0)]], 2, 121, true⟩) (hc : σ c = some ⟨[[(.int .i64 d.typ), (.int .i64 d.flags), (.int .u32 0), (.int .i64 0), (.int .i64 0), (.int .u32 0), (.string ByteArray.empty), (.int .u32 0), (.int .u32 0), (.int .i64 0), (.int .i64 0), (.slice none 0 0), (.slice none 0 0), (.slice none 0 0), (.slice none 0 0)]], 15, 53, true⟩) : CQ Try.prog noDen 91 [(Pt r 0 0), (Pt c 0 0)] n σ (fun v n' D_ => v = .tuple #[] ∧ ∃ y : Chk, app D_ σ c = some ⟨[cChk y], 15, 53, true⟩ ∧ app D_ σ r = some ⟨[[(.string (bstr ([] : List UInt8))), (.int .i64 0)]], 2, 121, true⟩ ∧ gd (app D_ σ) y ∧ yEq d y ∧ ∀ q_ ∈ keys D_, q_ = c ∨ q_ = r ∨ (n ≤ q_ ∧ q_ < n')) := by
 have lhr := hd.lt hr
 have lhc := hd.lt hc
 have hkk := kd_cases d.typ
 have hok := hm.2.1
 have hls := hok.lists
 have hw1 := hok.w1
 have hw2 := hok.w2
 have hw3 := hok.w3
 have hw4 := hok.w4
 unfold wordP at hw1 hw2 hw3 hw4
 have hda := hok.data
 have hgp := hok.gaps
 have hdp := hok.dups
 have hp16 := hls.2.2.1
 have hc16 := hls.2.2.2
 have hp1 : prmOk 1 d.data := ⟨by omega, by omega, by omega⟩
 have hpl := psL_len hls.1 (i := d.ps.length) hp16
 have hcl := csL_len hls.2.1 (i := d.cs.length) hc16
 rw [List.take_length] at hpl hcl
 have hgl := gsL_len d.gs
 have hdl := dsL_len d.ds
 have hLd := L_len d.data
 have hg16 := hgp.2
 have hgal : (gapsL d).length ≤ 200 := by unfold gapsL; simp only [List.length_append, be2_len]; omega
 refine CQ.body (E := env) env_ok hd rfl rfl (by show _ ≤ _; exact of_decide_eq_true (by kernel_rfl)) ?_
 refine RA.sR hd env_ok <| OA.ps [(7, (Pt c 0 0)), (8, (Pt c 0 0)), (9, (Pt c 0 0))] rfl <| oL 10 (.int .i64 d.typ) hc <| OA.nil fun _ => RA.block <| RA.sR hd env_ok ?_
 have hc1 : ¬ (d.typ = 0) := fun hdd => by exfalso; omega
 refine oP 17 yF rfl (Eq.trans (r_bin rfl rfl rfl (b_eql rfl)) (Go.Proofs.YtgajcmanompmcaaV.dF hc1)) <| OA.ps [(16, yF)] rfl <| OA.nil fun _ => RA.condF rfl <| RA.seq hd <| RA.sR hd env_ok ?_
 have hc2 : ¬ (d.typ = 1) := fun hdd => by exfalso; omega
 refine oP 44 yF rfl (Eq.trans (r_bin rfl rfl rfl (b_eql rfl)) (Go.Proofs.YtgajcmanompmcaaV.dF hc2)) <| OA.ps [(43, yF)] rfl <| OA.nil fun _ => RA.condF rfl <| RA.region env_ok ?_
 have hc3 : ¬ (d.typ = 2) := fun hdd => by exfalso; omega
 refine oP 45 yF rfl (Eq.trans (r_bin rfl rfl rfl (b_eql rfl)) (Go.Proofs.YtgajcmanompmcaaV.dF hc3)) <| OA.ps [(43, yF)] rfl <| OA.nil fun _ => RA.condF rfl <| RA.sR hd env_ok ?_
 have hc4 : d.typ = 3 := Classical.byContradiction (fun hdd => by exfalso; omega)
 refine oP 77 yT rfl (Eq.trans (r_bin rfl rfl rfl (b_eql rfl)) (Go.Proofs.YtgajcmanompmcaaV.dT hc4)) <| OA.ps [(76, yT)] rfl <| OA.nil fun _ => RA.condT rfl <| RA.region env_ok <| OA.ps [(78, (Pt r 0 0)), (79, (Pt c 0 0))] rfl ?_
 refine OA.call (dst := (some 80)) (all := [(Pt r 0 0), (Pt c 0 0)]) rfl rfl rfl rfl rfl rfl rfl rfl (CQ.imp (cSack (hd.up (by omega)) r c hrc d hm h hr hc) ?_)
 rintro _ n1 ddn1 ⟨rfl, gv, dv, s1, s2, s3, s4, s5⟩ hn1
 refine OA.nil ?_
 rw [List.append_nil]
 refine ⟨.inl rfl, [], resL_nil, ddn1, Less.refl _ _ _, ⟨rfl, (Chk.mk d.typ d.flags d.tsn 0 0 (0#32) ByteArray.empty (0#32) d.rwnd 0 0 (.slice none 0 0) (.slice none 0 0) gv dv [] [] d.gs d.ds), s1, s2, ⟨.nil, .nil, s3, s4, Nat.zero_le _, Nat.zero_le _, h.g18, h.u18, h.fl, h.gr⟩, (by have hq := plain_eq hm.2.2.2; rw [pl_3 hk] at hq; exact hq), fun q_ hq_ => by have := s5 q_ hq_; omega⟩⟩
set_option maxHeartbeats 16000000 in
theorem cSays4 {n : Nat} {σ : Store} (hd : Dom n σ) (r c : Nat) (hrc : r ≠ c) (d : Chk) (hm : mayP d) (h : gd σ d) (hk : kd d.typ = 4) (hr : σ r = some ⟨[[(.string (bstr (pB 1 d.data))), (.int .i64 0)]], 2, 121, true⟩) (hc : σ c = some ⟨[[(.int .i64 d.typ), (.int .i64 d.flags), (.int .u32 0), (.int .i64 0), (.int .i64 0), (.int .u32 0), (.string ByteArray.empty), (.int .u32 0), (.int .u32 0), (.int .i64 0), (.int .i64 0), (.slice none 0 0), (.slice none 0 0), (.slice none 0 0), (.slice none 0 0)]], 15, 53, true⟩)  : CQ Try.prog noDen 91 [(Pt r 0 0), (Pt c 0 0)] n σ (fun v n' D_ => v = .tuple #[] ∧ ∃ y : Chk, app D_ σ c = some ⟨[cChk y], 15, 53, true⟩ ∧ app D_ σ r = some ⟨[[(.string (bstr ([] : List UInt8))), (.int .i64 0)]], 2, 121, true⟩ ∧ gd (app D_ σ) y ∧ yEq d y ∧ ∀ q_ ∈ keys D_, q_ = c ∨ q_ = r ∨ (n ≤ q_ ∧ q_ < n')) := by
 have lhr := hd.lt hr
 have lhc := hd.lt hc
 have hkk := kd_cases d.typ
 have hok := hm.2.1
 have hls := hok.lists
 have hw1 := hok.w1
 have hw2 := hok.w2
 have hw3 := hok.w3
 have hw4 := hok.w4
 unfold wordP at hw1 hw2 hw3 hw4
 have hda := hok.data
 have hgp := hok.gaps
 have hdp := hok.dups
 have hp16 := hls.2.2.1
 have hc16 := hls.2.2.2
 have hp1 : prmOk 1 d.data := ⟨by omega, by omega, by omega⟩
 have hpl := psL_len hls.1 (i := d.ps.length) hp16
 have hcl := csL_len hls.2.1 (i := d.cs.length) hc16
 rw [List.take_length] at hpl hcl
 have hgl := gsL_len d.gs
 have hdl := dsL_len d.ds
 have hLd := L_len d.data
 have hg16 := hgp.2
 have hgal : (gapsL d).length ≤ 200 := by unfold gapsL; simp only [List.length_append, be2_len]; omega
 refine CQ.body (E := env) env_ok hd rfl rfl (by show _ ≤ _; exact of_decide_eq_true (by kernel_rfl)) ?_
 refine RA.sR hd env_ok <| OA.ps [(7, (Pt c 0 0)), (8, (Pt c 0 0)), (9, (Pt c 0 0))] rfl <| oL 10 (.int .i64 d.typ) hc <| OA.nil fun _ => RA.block <| RA.sR hd env_ok ?_
 have hc1 : ¬ (d.typ = 0) := fun hdd => by exfalso; omega
 refine oP 17 yF rfl (Eq.trans (r_bin rfl rfl rfl (b_eql rfl)) (Go.Proofs.YtgajcmanompmcaaV.dF hc1)) <| OA.ps [(16, yF)] rfl <| OA.nil fun _ => RA.condF rfl <| RA.seq hd <| RA.sR hd env_ok ?_
 have hc2 : ¬ (d.typ = 1) := fun hdd => by exfalso; omega
 refine oP 44 yF rfl (Eq.trans (r_bin rfl rfl rfl (b_eql rfl)) (Go.Proofs.YtgajcmanompmcaaV.dF hc2)) <| OA.ps [(43, yF)] rfl <| OA.nil fun _ => RA.condF rfl <| RA.region env_ok ?_
 have hc3 : ¬ (d.typ = 2) := fun hdd => by exfalso; omega
 refine oP 45 yF rfl (Eq.trans (r_bin rfl rfl rfl (b_eql rfl)) (Go.Proofs.YtgajcmanompmcaaV.dF hc3)) <| OA.ps [(43, yF)] rfl <| OA.nil fun _ => RA.condF rfl <| RA.sR hd env_ok ?_
 have hc4 : ¬ (d.typ = 3) := fun hdd => by exfalso; omega
 refine oP 77 yF rfl (Eq.trans (r_bin rfl rfl rfl (b_eql rfl)) (Go.Proofs.YtgajcmanompmcaaV.dF hc4)) <| OA.ps [(76, yF)] rfl <| OA.nil fun _ => RA.condF rfl <| RA.seq hd <| RA.sR hd env_ok ?_
 by_cases hc5 : d.typ = 4
 ·
  refine oP 82 yT rfl (Eq.trans (r_bin rfl rfl rfl (b_eql rfl)) (Go.Proofs.YtgajcmanompmcaaV.dT hc5)) <| OA.ps [(81, yT)] rfl <| OA.nil fun _ => RA.condT rfl <| RA.skip env_ok ?_
  intro _
  refine RA.condT rfl <| RA.sR hd env_ok <| OA.ps [(84, (Pt r 0 0))] rfl ?_
  refine OA.call (dst := (some 85)) (all := [(Pt r 0 0)]) rfl rfl rfl rfl rfl rfl rfl rfl (CQ.imp (cPTk (hd.up (by omega)) r 1 d.data hp1 [] (by decide) (by rw [List.append_nil]; exact hr)) ?_)
  rintro _ n1 _ ⟨rfl, rfl⟩ hn1
  refine OA.app1 ?_
  refine o1 (some 4) (Pt n1 0 0) (n1 + 1) (n1, some ⟨[[(.int .i64 0), (.string ByteArray.empty)]], 2, 35, true⟩) rfl <| o1 none yU (n1 + 1) (n1, some ⟨[[(.int .i64 1), (.string d.data)]], 2, 35, true⟩) (rS get_here) <| OA.nil fun _ => RA.seq hd <| RA.sR hd env_ok <| OA.ps [(86, (Pt r 0 0))] rfl <| oC 87 (v := (.int .i64 0)) (hd.of (by omega) (kb3 (by omega))) rfl rfl (rErr r _ 0 (gt2 (by omega) get_here)) fun n2 hn2 => oP 88 yT rfl (r_bin rfl rfl rfl (b_eql (by simp))) <| OA.ps [(89, yT), (90, (Pt n1 0 0))] rfl <| oL 91 (.int .i64 1) get_here <| oP 92 yF rfl (r_bin rfl rfl rfl (b_neq (by simp))) ?_
  refine OA.ps [(93, yF)] rfl <| OA.nil fun _ => RA.rb [(0, (Pt r 0 0)), (1, (Pt c 0 0)), (4, (Pt n1 0 0)), (10, (.int .i64 d.typ)), (16, yF), (43, yF), (76, yF), (81, yT), (93, yF)] rfl (fun τr3 => ?_)
  refine RA.condF rfl <| RA.skip env_ok ?_
  intro _
  refine RA.region env_ok <| OA.ps [(96, (Pt c 0 0)), (97, (Pt n1 0 1))] rfl <| oL 98 (.string d.data) get_here <| OA.ps [(99, (Pt c 0 0)), (100, (Pt c 0 6))] rfl <| o1 none yU n2 (c, some ⟨[(xCx34 d)], 15, 53, true⟩) (rS (gt3 (by omega) hc)) <| OA.nil ?_
  refine ⟨.inl rfl, [], resL_nil, [(c, some ⟨[(xCx34 d)], 15, 53, true⟩), (r, some ⟨[[(.string (bstr ([] : List UInt8))), (.int .i64 0)]], 2, 121, true⟩)], (LsO (fA get_here get_here (fA (get_there (by omega) get_here) (gt3 (by omega) get_here) fan))), ⟨rfl, (xCx37 d), get_here, (get_there (by omega) get_here), ⟨.nil, .nil, .nil, .nil, Nat.zero_le _, Nat.zero_le _, Nat.zero_le _, Nat.zero_le _, h.fl, fun g hg => by cases hg⟩, (by have hq := plain_eq hm.2.2.2; rw [pl_4 hk] at hq; exact hq), by intro q_ hq_; simp only [keys, List.cons_append, List.nil_append, List.map_cons, List.map_nil, List.mem_cons, List.not_mem_nil, or_false, false_or] at hq_ <;> omega⟩⟩
 ·
  refine oP 82 yF rfl (Eq.trans (r_bin rfl rfl rfl (b_eql rfl)) (Go.Proofs.YtgajcmanompmcaaV.dF hc5)) <| OA.ps [(81, yF)] rfl <| OA.nil fun _ => RA.condF rfl <| RA.region env_ok ?_
  have hc6 : d.typ = 5 := Classical.byContradiction (fun hdd => by exfalso; omega)
  refine oP 83 yT rfl (Eq.trans (r_bin rfl rfl rfl (b_eql rfl)) (Go.Proofs.YtgajcmanompmcaaV.dT hc6)) <| OA.ps [(81, yT)] rfl <| OA.nil fun _ => RA.condT rfl <| RA.sR hd env_ok <| OA.ps [(84, (Pt r 0 0))] rfl ?_
  refine OA.call (dst := (some 85)) (all := [(Pt r 0 0)]) rfl rfl rfl rfl rfl rfl rfl rfl (CQ.imp (cPTk (hd.up (by omega)) r 1 d.data hp1 [] (by decide) (by rw [List.append_nil]; exact hr)) ?_)
  rintro _ n4 _ ⟨rfl, rfl⟩ hn4
  refine OA.app1 ?_
  refine o1 (some 4) (Pt n4 0 0) (n4 + 1) (n4, some ⟨[[(.int .i64 0), (.string ByteArray.empty)]], 2, 35, true⟩) rfl <| o1 none yU (n4 + 1) (n4, some ⟨[[(.int .i64 1), (.string d.data)]], 2, 35, true⟩) (rS get_here) <| OA.nil fun _ => RA.seq hd <| RA.sR hd env_ok <| OA.ps [(86, (Pt r 0 0))] rfl <| oC 87 (v := (.int .i64 0)) (hd.of (by omega) (kb3 (by omega))) rfl rfl (rErr r _ 0 (gt2 (by omega) get_here)) fun n5 hn5 => oP 88 yT rfl (r_bin rfl rfl rfl (b_eql (by simp))) <| OA.ps [(89, yT), (90, (Pt n4 0 0))] rfl <| oL 91 (.int .i64 1) get_here <| oP 92 yF rfl (r_bin rfl rfl rfl (b_neq (by simp))) ?_
  refine OA.ps [(93, yF)] rfl <| OA.nil fun _ => RA.rb [(0, (Pt r 0 0)), (1, (Pt c 0 0)), (4, (Pt n4 0 0)), (10, (.int .i64 d.typ)), (16, yF), (43, yF), (76, yF), (81, yT), (93, yF)] rfl (fun τr6 => ?_)
  refine RA.condF rfl <| RA.skip env_ok ?_
  intro _
  refine RA.region env_ok <| OA.ps [(96, (Pt c 0 0)), (97, (Pt n4 0 1))] rfl <| oL 98 (.string d.data) get_here <| OA.ps [(99, (Pt c 0 0)), (100, (Pt c 0 6))] rfl <| o1 none yU n5 (c, some ⟨[(xCx34 d)], 15, 53, true⟩) (rS (gt3 (by omega) hc)) <| OA.nil ?_
  refine ⟨.inl rfl, [], resL_nil, [(c, some ⟨[(xCx34 d)], 15, 53, true⟩), (r, some ⟨[[(.string (bstr ([] : List UInt8))), (.int .i64 0)]], 2, 121, true⟩)], (LsO (fA get_here get_here (fA (get_there (by omega) get_here) (gt3 (by omega) get_here) fan))), ⟨rfl, (xCx37 d), get_here, (get_there (by omega) get_here), ⟨.nil, .nil, .nil, .nil, Nat.zero_le _, Nat.zero_le _, Nat.zero_le _, Nat.zero_le _, h.fl, fun g hg => by cases hg⟩, (by have hq := plain_eq hm.2.2.2; rw [pl_4 hk] at hq; exact hq), by intro q_ hq_; simp only [keys, List.cons_append, List.nil_append, List.map_cons, List.map_nil, List.mem_cons, List.not_mem_nil, or_false, false_or] at hq_ <;> omega⟩⟩
set_option maxHeartbeats 16000000 in
theorem cSays6 {n : Nat} {σ : Store} (hd : Dom n σ) (r c : Nat) (hrc : r ≠ c) (d : Chk) (hm : mayP d) (h : gd σ d) (hk : kd d.typ = 6) (hr : σ r = some ⟨[[(.string (bstr (csL d.cs))), (.int .i64 0)]], 2, 121, true⟩) (hc : σ c = some ⟨[[(.int .i64 d.typ), (.int .i64 d.flags), (.int .u32 0), (.int .i64 0), (.int .i64 0), (.int .u32 0), (.string ByteArray.empty), (.int .u32 0), (.int .u32 0), (.int .i64 0), (.int .i64 0), (.slice none 0 0), (.slice none 0 0), (.slice none 0 0), (.slice none 0 0)]], 15, 53, true⟩)  : CQ Try.prog noDen 91 [(Pt r 0 0), (Pt c 0 0)] n σ (fun v n' D_ => v = .tuple #[] ∧ ∃ y : Chk, app D_ σ c = some ⟨[cChk y], 15, 53, true⟩ ∧ app D_ σ r = some ⟨[[(.string (bstr ([] : List UInt8))), (.int .i64 0)]], 2, 121, true⟩ ∧ gd (app D_ σ) y ∧ yEq d y ∧ ∀ q_ ∈ keys D_, q_ = c ∨ q_ = r ∨ (n ≤ q_ ∧ q_ < n')) := by
 have lhr := hd.lt hr
 have lhc := hd.lt hc
 have hkk := kd_cases d.typ
 have hok := hm.2.1
 have hls := hok.lists
 have hw1 := hok.w1
 have hw2 := hok.w2
 have hw3 := hok.w3
 have hw4 := hok.w4
 unfold wordP at hw1 hw2 hw3 hw4
 have hda := hok.data
 have hgp := hok.gaps
 have hdp := hok.dups
 have hp16 := hls.2.2.1
 have hc16 := hls.2.2.2
 have hp1 : prmOk 1 d.data := ⟨by omega, by omega, by omega⟩
 have hpl := psL_len hls.1 (i := d.ps.length) hp16
 have hcl := csL_len hls.2.1 (i := d.cs.length) hc16
 rw [List.take_length] at hpl hcl
 have hgl := gsL_len d.gs
 have hdl := dsL_len d.ds
 have hLd := L_len d.data
 have hg16 := hgp.2
 have hgal : (gapsL d).length ≤ 200 := by unfold gapsL; simp only [List.length_append, be2_len]; omega
 refine CQ.body (E := env) env_ok hd rfl rfl (by show _ ≤ _; exact of_decide_eq_true (by kernel_rfl)) ?_
 refine RA.sR hd env_ok <| OA.ps [(7, (Pt c 0 0)), (8, (Pt c 0 0)), (9, (Pt c 0 0))] rfl <| oL 10 (.int .i64 d.typ) hc <| OA.nil fun _ => RA.block <| RA.sR hd env_ok ?_
 have hc1 : ¬ (d.typ = 0) := fun hdd => by exfalso; omega
 refine oP 17 yF rfl (Eq.trans (r_bin rfl rfl rfl (b_eql rfl)) (Go.Proofs.YtgajcmanompmcaaV.dF hc1)) <| OA.ps [(16, yF)] rfl <| OA.nil fun _ => RA.condF rfl <| RA.seq hd <| RA.sR hd env_ok ?_
 have hc2 : ¬ (d.typ = 1) := fun hdd => by exfalso; omega
 refine oP 44 yF rfl (Eq.trans (r_bin rfl rfl rfl (b_eql rfl)) (Go.Proofs.YtgajcmanompmcaaV.dF hc2)) <| OA.ps [(43, yF)] rfl <| OA.nil fun _ => RA.condF rfl <| RA.region env_ok ?_
 have hc3 : ¬ (d.typ = 2) := fun hdd => by exfalso; omega
 refine oP 45 yF rfl (Eq.trans (r_bin rfl rfl rfl (b_eql rfl)) (Go.Proofs.YtgajcmanompmcaaV.dF hc3)) <| OA.ps [(43, yF)] rfl <| OA.nil fun _ => RA.condF rfl <| RA.sR hd env_ok ?_
 have hc4 : ¬ (d.typ = 3) := fun hdd => by exfalso; omega
 refine oP 77 yF rfl (Eq.trans (r_bin rfl rfl rfl (b_eql rfl)) (Go.Proofs.YtgajcmanompmcaaV.dF hc4)) <| OA.ps [(76, yF)] rfl <| OA.nil fun _ => RA.condF rfl <| RA.seq hd <| RA.sR hd env_ok ?_
 have hc5 : ¬ (d.typ = 4) := fun hdd => by exfalso; omega
 refine oP 82 yF rfl (Eq.trans (r_bin rfl rfl rfl (b_eql rfl)) (Go.Proofs.YtgajcmanompmcaaV.dF hc5)) <| OA.ps [(81, yF)] rfl <| OA.nil fun _ => RA.condF rfl <| RA.region env_ok ?_
 have hc6 : ¬ (d.typ = 5) := fun hdd => by exfalso; omega
 refine oP 83 yF rfl (Eq.trans (r_bin rfl rfl rfl (b_eql rfl)) (Go.Proofs.YtgajcmanompmcaaV.dF hc6)) <| OA.ps [(81, yF)] rfl <| OA.nil fun _ => RA.condF rfl <| RA.seq hd <| RA.sR hd env_ok ?_
 by_cases hc7 : d.typ = 6
 ·
  refine oP 102 yT rfl (Eq.trans (r_bin rfl rfl rfl (b_eql rfl)) (Go.Proofs.YtgajcmanompmcaaV.dT hc7)) <| OA.ps [(101, yT)] rfl <| OA.nil fun _ => RA.condT rfl <| RA.skip env_ok ?_
  intro _
  refine RA.condT rfl <| RA.sR hd env_ok <| OA.ps [(105, (Pt r 0 0))] rfl ?_
  refine OA.call (dst := (some 106)) (all := [(Pt r 0 0)]) rfl rfl rfl rfl rfl rfl rfl rfl (CQ.imp (cRest (hd.up (by omega)) r (csL d.cs) (by omega) hr) ?_)
  rintro _ n1 _ ⟨rfl, rfl⟩ hn1
  refine OA.app1 ?_
  by_cases hc8 : d.cs = []
  ·
   refine OA.call (dst := (some 107)) (all := [(.string (bstr (csL d.cs)))]) rfl rfl rfl rfl rfl rfl rfl rfl (CQ.imp (cCAllN (hd.of (by omega) (kb1 (by omega))) d.cs hls.2.1 hc16 hc8) ?_)
   rintro _ n2 _ ⟨rfl, rfl⟩ hn2
   refine OA.app0 ?_
   refine OA.ps [(104, (.tuple ⟨[(.slice none 0 0), (.int .i64 0)]⟩)), (108, (.slice none 0 0)), (109, (.int .i64 0)), (5, (.slice none 0 0)), (6, (.int .i64 0))] rfl <| OA.nil fun _ => RA.rb [(0, (Pt r 0 0)), (1, (Pt c 0 0)), (5, (.slice none 0 0)), (6, (.int .i64 0)), (10, (.int .i64 d.typ)), (16, yF), (43, yF), (76, yF), (81, yF), (101, yT)] rfl (fun τr3 => ?_)
   refine RA.seq hd <| RA.sR hd env_ok <| OA.ps [(110, (.int .i64 0))] rfl <| oP 111 yF rfl (r_bin rfl rfl rfl (b_neq (by simp))) <| OA.nil fun _ => RA.condF rfl <| RA.skip env_ok ?_
   intro _
   refine RA.region env_ok <| OA.ps [(115, (Pt c 0 0)), (116, (.slice none 0 0)), (117, (Pt c 0 0)), (118, (Pt c 0 12))] rfl <| o1 none yU n2 (c, some ⟨[(xCx31 d)], 15, 53, true⟩) (rS (get_there (by omega) hc)) <| OA.nil ?_
   refine ⟨.inl rfl, [], resL_nil, [(c, some ⟨[(xCx31 d)], 15, 53, true⟩), (r, some ⟨[[(.string (bstr ([] : List UInt8))), (.int .i64 0)]], 2, 121, true⟩)], (Less.refl _ _ _), ⟨rfl, (Chk.mk d.typ d.flags (0#32) 0 0 (0#32) ByteArray.empty (0#32) (0#32) 0 0 (.slice none 0 0) (.slice none 0 0) (.slice none 0 0) (.slice none 0 0) [] d.cs [] []), get_here, (get_there (by omega) get_here), ⟨.nil, (by rw [hc8]; exact .nil), .nil, .nil, Nat.zero_le _, h.c18, Nat.zero_le _, Nat.zero_le _, h.fl, fun g hg => by cases hg⟩, (by have hq := plain_eq hm.2.2.2; rw [pl_6 hk] at hq; exact hq), by intro q_ hq_; simp only [keys, List.cons_append, List.nil_append, List.map_cons, List.map_nil, List.mem_cons, List.not_mem_nil, or_false, false_or] at hq_ <;> omega⟩⟩
  ·
   refine OA.call (dst := (some 107)) (all := [(.string (bstr (csL d.cs)))]) rfl rfl rfl rfl rfl rfl rfl rfl (CQ.imp (cCAllR (hd.of (by omega) (kb1 (by omega))) d.cs hls.2.1 hc16 hc8) ?_)
   rintro _ n4 _ ⟨kcn4, p1n4, p2n4, rfl, rfl⟩ hn4
   refine OA.app1 ?_
   refine OA.ps [(104, (.tuple ⟨[(.slice (some ⟨kcn4, 0, none⟩) d.cs.length 0), (.int .i64 0)]⟩)), (108, (.slice (some ⟨kcn4, 0, none⟩) d.cs.length 0)), (109, (.int .i64 0)), (5, (.slice (some ⟨kcn4, 0, none⟩) d.cs.length 0)), (6, (.int .i64 0))] rfl <| OA.nil fun _ => RA.rb [(0, (Pt r 0 0)), (1, (Pt c 0 0)), (5, (.slice (some ⟨kcn4, 0, none⟩) d.cs.length 0)), (6, (.int .i64 0)), (10, (.int .i64 d.typ)), (16, yF), (43, yF), (76, yF), (81, yF), (101, yT)] rfl (fun τr5 => ?_)
   refine RA.seq hd <| RA.sR hd env_ok <| OA.ps [(110, (.int .i64 0))] rfl <| oP 111 yF rfl (r_bin rfl rfl rfl (b_neq (by simp))) <| OA.nil fun _ => RA.condF rfl <| RA.skip env_ok ?_
   intro _
   refine RA.region env_ok <| OA.ps [(115, (Pt c 0 0)), (116, (.slice (some ⟨kcn4, 0, none⟩) d.cs.length 0)), (117, (Pt c 0 0)), (118, (Pt c 0 12))] rfl <| o1 none yU n4 (c, some ⟨[[(.int .i64 d.typ), (.int .i64 d.flags), (.int .u32 0), (.int .i64 0), (.int .i64 0), (.int .u32 0), (.string ByteArray.empty), (.int .u32 0), (.int .u32 0), (.int .i64 0), (.int .i64 0), (.slice none 0 0), (.slice (some ⟨kcn4, 0, none⟩) d.cs.length 0), (.slice none 0 0), (.slice none 0 0)]], 15, 53, true⟩) (rS (gt2 (by omega) hc)) <| OA.nil ?_
   refine ⟨.inl rfl, [], resL_nil, [(c, some ⟨[[(.int .i64 d.typ), (.int .i64 d.flags), (.int .u32 0), (.int .i64 0), (.int .i64 0), (.int .u32 0), (.string ByteArray.empty), (.int .u32 0), (.int .u32 0), (.int .i64 0), (.int .i64 0), (.slice none 0 0), (.slice (some ⟨kcn4, 0, none⟩) d.cs.length 0), (.slice none 0 0), (.slice none 0 0)]], 15, 53, true⟩), (r, some ⟨[[(.string (bstr ([] : List UInt8))), (.int .i64 0)]], 2, 121, true⟩), (kcn4, some (oCau d.cs))], (LsO (fA get_here get_here (fA (get_there (by omega) get_here) (gt2 (by omega) get_here) (fA (gt2 (by omega) get_here) (get_there (by omega) get_here) fan)))), ⟨rfl, (Chk.mk d.typ d.flags (0#32) 0 0 (0#32) ByteArray.empty (0#32) (0#32) 0 0 (.slice none 0 0) (.slice (some ⟨kcn4, 0, none⟩) d.cs.length 0) (.slice none 0 0) (.slice none 0 0) [] d.cs [] []), get_here, (get_there (by omega) get_here), ⟨.nil, (RowQ.new (gt2 (by omega) get_here) rfl), .nil, .nil, Nat.zero_le _, h.c18, Nat.zero_le _, Nat.zero_le _, h.fl, fun g hg => by cases hg⟩, (by have hq := plain_eq hm.2.2.2; rw [pl_6 hk] at hq; exact hq), by intro q_ hq_; simp only [keys, List.cons_append, List.nil_append, List.map_cons, List.map_nil, List.mem_cons, List.not_mem_nil, or_false, false_or] at hq_ <;> omega⟩⟩
 ·
  refine oP 102 yF rfl (Eq.trans (r_bin rfl rfl rfl (b_eql rfl)) (Go.Proofs.YtgajcmanompmcaaV.dF hc7)) <| OA.ps [(101, yF)] rfl <| OA.nil fun _ => RA.condF rfl <| RA.region env_ok ?_
  have hc9 : d.typ = 9 := Classical.byContradiction (fun hdd => by exfalso; omega)
  refine oP 103 yT rfl (Eq.trans (r_bin rfl rfl rfl (b_eql rfl)) (Go.Proofs.YtgajcmanompmcaaV.dT hc9)) <| OA.ps [(101, yT)] rfl <| OA.nil fun _ => RA.condT rfl <| RA.sR hd env_ok <| OA.ps [(105, (Pt r 0 0))] rfl ?_
  refine OA.call (dst := (some 106)) (all := [(Pt r 0 0)]) rfl rfl rfl rfl rfl rfl rfl rfl (CQ.imp (cRest (hd.up (by omega)) r (csL d.cs) (by omega) hr) ?_)
  rintro _ n6 _ ⟨rfl, rfl⟩ hn6
  refine OA.app1 ?_
  by_cases hc10 : d.cs = []
  ·
   refine OA.call (dst := (some 107)) (all := [(.string (bstr (csL d.cs)))]) rfl rfl rfl rfl rfl rfl rfl rfl (CQ.imp (cCAllN (hd.of (by omega) (kb1 (by omega))) d.cs hls.2.1 hc16 hc10) ?_)
   rintro _ n7 _ ⟨rfl, rfl⟩ hn7
   refine OA.app0 ?_
   refine OA.ps [(104, (.tuple ⟨[(.slice none 0 0), (.int .i64 0)]⟩)), (108, (.slice none 0 0)), (109, (.int .i64 0)), (5, (.slice none 0 0)), (6, (.int .i64 0))] rfl <| OA.nil fun _ => RA.rb [(0, (Pt r 0 0)), (1, (Pt c 0 0)), (5, (.slice none 0 0)), (6, (.int .i64 0)), (10, (.int .i64 d.typ)), (16, yF), (43, yF), (76, yF), (81, yF), (101, yT)] rfl (fun τr8 => ?_)
   refine RA.seq hd <| RA.sR hd env_ok <| OA.ps [(110, (.int .i64 0))] rfl <| oP 111 yF rfl (r_bin rfl rfl rfl (b_neq (by simp))) <| OA.nil fun _ => RA.condF rfl <| RA.skip env_ok ?_
   intro _
   refine RA.region env_ok <| OA.ps [(115, (Pt c 0 0)), (116, (.slice none 0 0)), (117, (Pt c 0 0)), (118, (Pt c 0 12))] rfl <| o1 none yU n7 (c, some ⟨[(xCx31 d)], 15, 53, true⟩) (rS (get_there (by omega) hc)) <| OA.nil ?_
   refine ⟨.inl rfl, [], resL_nil, [(c, some ⟨[(xCx31 d)], 15, 53, true⟩), (r, some ⟨[[(.string (bstr ([] : List UInt8))), (.int .i64 0)]], 2, 121, true⟩)], (Less.refl _ _ _), ⟨rfl, (Chk.mk d.typ d.flags (0#32) 0 0 (0#32) ByteArray.empty (0#32) (0#32) 0 0 (.slice none 0 0) (.slice none 0 0) (.slice none 0 0) (.slice none 0 0) [] d.cs [] []), get_here, (get_there (by omega) get_here), ⟨.nil, (by rw [hc10]; exact .nil), .nil, .nil, Nat.zero_le _, h.c18, Nat.zero_le _, Nat.zero_le _, h.fl, fun g hg => by cases hg⟩, (by have hq := plain_eq hm.2.2.2; rw [pl_6 hk] at hq; exact hq), by intro q_ hq_; simp only [keys, List.cons_append, List.nil_append, List.map_cons, List.map_nil, List.mem_cons, List.not_mem_nil, or_false, false_or] at hq_ <;> omega⟩⟩
  ·
   refine OA.call (dst := (some 107)) (all := [(.string (bstr (csL d.cs)))]) rfl rfl rfl rfl rfl rfl rfl rfl (CQ.imp (cCAllR (hd.of (by omega) (kb1 (by omega))) d.cs hls.2.1 hc16 hc10) ?_)
   rintro _ n9 _ ⟨kcn9, p1n9, p2n9, rfl, rfl⟩ hn9
   refine OA.app1 ?_
   refine OA.ps [(104, (.tuple ⟨[(.slice (some ⟨kcn9, 0, none⟩) d.cs.length 0), (.int .i64 0)]⟩)), (108, (.slice (some ⟨kcn9, 0, none⟩) d.cs.length 0)), (109, (.int .i64 0)), (5, (.slice (some ⟨kcn9, 0, none⟩) d.cs.length 0)), (6, (.int .i64 0))] rfl <| OA.nil fun _ => RA.rb [(0, (Pt r 0 0)), (1, (Pt c 0 0)), (5, (.slice (some ⟨kcn9, 0, none⟩) d.cs.length 0)), (6, (.int .i64 0)), (10, (.int .i64 d.typ)), (16, yF), (43, yF), (76, yF), (81, yF), (101, yT)] rfl (fun τr10 => ?_)
   refine RA.seq hd <| RA.sR hd env_ok <| OA.ps [(110, (.int .i64 0))] rfl <| oP 111 yF rfl (r_bin rfl rfl rfl (b_neq (by simp))) <| OA.nil fun _ => RA.condF rfl <| RA.skip env_ok ?_
   intro _
   refine RA.region env_ok <| OA.ps [(115, (Pt c 0 0)), (116, (.slice (some ⟨kcn9, 0, none⟩) d.cs.length 0)), (117, (Pt c 0 0)), (118, (Pt c 0 12))] rfl <| o1 none yU n9 (c, some ⟨[[(.int .i64 d.typ), (.int .i64 d.flags), (.int .u32 0), (.int .i64 0), (.int .i64 0), (.int .u32 0), (.string ByteArray.empty), (.int .u32 0), (.int .u32 0), (.int .i64 0), (.int .i64 0), (.slice none 0 0), (.slice (some ⟨kcn9, 0, none⟩) d.cs.length 0), (.slice none 0 0), (.slice none 0 0)]], 15, 53, true⟩) (rS (gt2 (by omega) hc)) <| OA.nil ?_
   refine ⟨.inl rfl, [], resL_nil, [(c, some ⟨[[(.int .i64 d.typ), (.int .i64 d.flags), (.int .u32 0), (.int .i64 0), (.int .i64 0), (.int .u32 0), (.string ByteArray.empty), (.int .u32 0), (.int .u32 0), (.int .i64 0), (.int .i64 0), (.slice none 0 0), (.slice (some ⟨kcn9, 0, none⟩) d.cs.length 0), (.slice none 0 0), (.slice none 0 0)]], 15, 53, true⟩), (r, some ⟨[[(.string (bstr ([] : List UInt8))), (.int .i64 0)]], 2, 121, true⟩), (kcn9, some (oCau d.cs))], (LsO (fA get_here get_here (fA (get_there (by omega) get_here) (gt2 (by omega) get_here) (fA (gt2 (by omega) get_here) (get_there (by omega) get_here) fan)))), ⟨rfl, (Chk.mk d.typ d.flags (0#32) 0 0 (0#32) ByteArray.empty (0#32) (0#32) 0 0 (.slice none 0 0) (.slice (some ⟨kcn9, 0, none⟩) d.cs.length 0) (.slice none 0 0) (.slice none 0 0) [] d.cs [] []), get_here, (get_there (by omega) get_here), ⟨.nil, (RowQ.new (gt2 (by omega) get_here) rfl), .nil, .nil, Nat.zero_le _, h.c18, Nat.zero_le _, Nat.zero_le _, h.fl, fun g hg => by cases hg⟩, (by have hq := plain_eq hm.2.2.2; rw [pl_6 hk] at hq; exact hq), by intro q_ hq_; simp only [keys, List.cons_append, List.nil_append, List.map_cons, List.map_nil, List.mem_cons, List.not_mem_nil, or_false, false_or] at hq_ <;> omega⟩⟩
set_option maxHeartbeats 16000000 in
theorem cSays7 {n : Nat} {σ : Store} (hd : Dom n σ) (r c : Nat) (hrc : r ≠ c) (d : Chk) (hm : mayP d) (h : gd σ d) (hk : kd d.typ = 7) (hr : σ r = some ⟨[[(.string (bstr (be4 d.tsn))), (.int .i64 0)]], 2, 121, true⟩) (hc : σ c = some ⟨[[(.int .i64 d.typ), (.int .i64 d.flags), (.int .u32 0), (.int .i64 0), (.int .i64 0), (.int .u32 0), (.string ByteArray.empty), (.int .u32 0), (.int .u32 0), (.int .i64 0), (.int .i64 0), (.slice none 0 0), (.slice none 0 0), (.slice none 0 0), (.slice none 0 0)]], 15, 53, true⟩)  : CQ Try.prog noDen 91 [(Pt r 0 0), (Pt c 0 0)] n σ (fun v n' D_ => v = .tuple #[] ∧ ∃ y : Chk, app D_ σ c = some ⟨[cChk y], 15, 53, true⟩ ∧ app D_ σ r = some ⟨[[(.string (bstr ([] : List UInt8))), (.int .i64 0)]], 2, 121, true⟩ ∧ gd (app D_ σ) y ∧ yEq d y ∧ ∀ q_ ∈ keys D_, q_ = c ∨ q_ = r ∨ (n ≤ q_ ∧ q_ < n')) := by
 have lhr := hd.lt hr
 have lhc := hd.lt hc
 have hkk := kd_cases d.typ
 have hok := hm.2.1
 have hls := hok.lists
 have hw1 := hok.w1
 have hw2 := hok.w2
 have hw3 := hok.w3
 have hw4 := hok.w4
 unfold wordP at hw1 hw2 hw3 hw4
 have hda := hok.data
 have hgp := hok.gaps
 have hdp := hok.dups
 have hp16 := hls.2.2.1
 have hc16 := hls.2.2.2
 have hp1 : prmOk 1 d.data := ⟨by omega, by omega, by omega⟩
 have hpl := psL_len hls.1 (i := d.ps.length) hp16
 have hcl := csL_len hls.2.1 (i := d.cs.length) hc16
 rw [List.take_length] at hpl hcl
 have hgl := gsL_len d.gs
 have hdl := dsL_len d.ds
 have hLd := L_len d.data
 have hg16 := hgp.2
 have hgal : (gapsL d).length ≤ 200 := by unfold gapsL; simp only [List.length_append, be2_len]; omega
 refine CQ.body (E := env) env_ok hd rfl rfl (by show _ ≤ _; exact of_decide_eq_true (by kernel_rfl)) ?_
 refine RA.sR hd env_ok <| OA.ps [(7, (Pt c 0 0)), (8, (Pt c 0 0)), (9, (Pt c 0 0))] rfl <| oL 10 (.int .i64 d.typ) hc <| OA.nil fun _ => RA.block <| RA.sR hd env_ok ?_
 have hc1 : ¬ (d.typ = 0) := fun hdd => by exfalso; omega
 refine oP 17 yF rfl (Eq.trans (r_bin rfl rfl rfl (b_eql rfl)) (Go.Proofs.YtgajcmanompmcaaV.dF hc1)) <| OA.ps [(16, yF)] rfl <| OA.nil fun _ => RA.condF rfl <| RA.seq hd <| RA.sR hd env_ok ?_
 have hc2 : ¬ (d.typ = 1) := fun hdd => by exfalso; omega
 refine oP 44 yF rfl (Eq.trans (r_bin rfl rfl rfl (b_eql rfl)) (Go.Proofs.YtgajcmanompmcaaV.dF hc2)) <| OA.ps [(43, yF)] rfl <| OA.nil fun _ => RA.condF rfl <| RA.region env_ok ?_
 have hc3 : ¬ (d.typ = 2) := fun hdd => by exfalso; omega
 refine oP 45 yF rfl (Eq.trans (r_bin rfl rfl rfl (b_eql rfl)) (Go.Proofs.YtgajcmanompmcaaV.dF hc3)) <| OA.ps [(43, yF)] rfl <| OA.nil fun _ => RA.condF rfl <| RA.sR hd env_ok ?_
 have hc4 : ¬ (d.typ = 3) := fun hdd => by exfalso; omega
 refine oP 77 yF rfl (Eq.trans (r_bin rfl rfl rfl (b_eql rfl)) (Go.Proofs.YtgajcmanompmcaaV.dF hc4)) <| OA.ps [(76, yF)] rfl <| OA.nil fun _ => RA.condF rfl <| RA.seq hd <| RA.sR hd env_ok ?_
 have hc5 : ¬ (d.typ = 4) := fun hdd => by exfalso; omega
 refine oP 82 yF rfl (Eq.trans (r_bin rfl rfl rfl (b_eql rfl)) (Go.Proofs.YtgajcmanompmcaaV.dF hc5)) <| OA.ps [(81, yF)] rfl <| OA.nil fun _ => RA.condF rfl <| RA.region env_ok ?_
 have hc6 : ¬ (d.typ = 5) := fun hdd => by exfalso; omega
 refine oP 83 yF rfl (Eq.trans (r_bin rfl rfl rfl (b_eql rfl)) (Go.Proofs.YtgajcmanompmcaaV.dF hc6)) <| OA.ps [(81, yF)] rfl <| OA.nil fun _ => RA.condF rfl <| RA.seq hd <| RA.sR hd env_ok ?_
 have hc7 : ¬ (d.typ = 6) := fun hdd => by exfalso; omega
 refine oP 102 yF rfl (Eq.trans (r_bin rfl rfl rfl (b_eql rfl)) (Go.Proofs.YtgajcmanompmcaaV.dF hc7)) <| OA.ps [(101, yF)] rfl <| OA.nil fun _ => RA.condF rfl <| RA.region env_ok ?_
 have hc8 : ¬ (d.typ = 9) := fun hdd => by exfalso; omega
 refine oP 103 yF rfl (Eq.trans (r_bin rfl rfl rfl (b_eql rfl)) (Go.Proofs.YtgajcmanompmcaaV.dF hc8)) <| OA.ps [(101, yF)] rfl <| OA.nil fun _ => RA.condF rfl <| RA.sR hd env_ok ?_
 have hc9 : d.typ = 7 := Classical.byContradiction (fun hdd => by exfalso; omega)
 refine oP 120 yT rfl (Eq.trans (r_bin rfl rfl rfl (b_eql rfl)) (Go.Proofs.YtgajcmanompmcaaV.dT hc9)) <| OA.ps [(119, yT)] rfl <| OA.nil fun _ => RA.condT rfl <| RA.region env_ok <| OA.ps [(121, (Pt c 0 0)), (122, (Pt r 0 0))] rfl ?_
 refine OA.call (dst := (some 123)) (all := [(Pt r 0 0)]) rfl rfl rfl rfl rfl rfl rfl rfl (CQ.imp (cU32 (hd.up (by omega)) r d.tsn ([] : List UInt8) (by simp only [List.length_append, be1_len, be2_len, be4_len, L_len, List.length_nil, List.length_replicate]; omega) (by rw [List.append_nil]; exact hr)) ?_)
 rintro _ n1 _ ⟨rfl, rfl⟩ hn1
 refine OA.app1 ?_
 refine OA.ps [(124, (Pt c 0 0)), (125, (Pt c 0 2))] rfl <| o1 none yU n1 (c, some ⟨[(xCx33 d)], 15, 53, true⟩) (rS (get_there (by omega) hc)) <| OA.nil ?_
 refine ⟨.inl rfl, [], resL_nil, [(c, some ⟨[(xCx33 d)], 15, 53, true⟩), (r, some ⟨[[(.string (bstr ([] : List UInt8))), (.int .i64 0)]], 2, 121, true⟩)], (Less.refl _ _ _), ⟨rfl, (Chk.mk d.typ d.flags d.tsn 0 0 (0#32) ByteArray.empty (0#32) (0#32) 0 0 (.slice none 0 0) (.slice none 0 0) (.slice none 0 0) (.slice none 0 0) [] [] [] []), get_here, (get_there (by omega) get_here), ⟨.nil, .nil, .nil, .nil, Nat.zero_le _, Nat.zero_le _, Nat.zero_le _, Nat.zero_le _, h.fl, fun g hg => by cases hg⟩, (by have hq := plain_eq hm.2.2.2; rw [pl_7 hk] at hq; exact hq), by intro q_ hq_; simp only [keys, List.cons_append, List.nil_append, List.map_cons, List.map_nil, List.mem_cons, List.not_mem_nil, or_false, false_or] at hq_ <;> omega⟩⟩
set_option maxHeartbeats 16000000 in
theorem cSays8 {n : Nat} {σ : Store} (hd : Dom n σ) (r c : Nat) (hrc : r ≠ c) (d : Chk) (hm : mayP d) (h : gd σ d) (hk : kd d.typ = 8) (hr : σ r = some ⟨[[(.string (bstr ([] : List UInt8))), (.int .i64 0)]], 2, 121, true⟩) (hc : σ c = some ⟨[[(.int .i64 d.typ), (.int .i64 d.flags), (.int .u32 0), (.int .i64 0), (.int .i64 0), (.int .u32 0), (.string ByteArray.empty), (.int .u32 0), (.int .u32 0), (.int .i64 0), (.int .i64 0), (.slice none 0 0), (.slice none 0 0), (.slice none 0 0), (.slice none 0 0)]], 15, 53, true⟩)  : CQ Try.prog noDen 91 [(Pt r 0 0), (Pt c 0 0)] n σ (fun v n' D_ => v = .tuple #[] ∧ ∃ y : Chk, app D_ σ c = some ⟨[cChk y], 15, 53, true⟩ ∧ app D_ σ r = some ⟨[[(.string (bstr ([] : List UInt8))), (.int .i64 0)]], 2, 121, true⟩ ∧ gd (app D_ σ) y ∧ yEq d y ∧ ∀ q_ ∈ keys D_, q_ = c ∨ q_ = r ∨ (n ≤ q_ ∧ q_ < n')) := by
 have lhr := hd.lt hr
 have lhc := hd.lt hc
 have hkk := kd_cases d.typ
 have hok := hm.2.1
 have hls := hok.lists
 have hw1 := hok.w1
 have hw2 := hok.w2
 have hw3 := hok.w3
 have hw4 := hok.w4
 unfold wordP at hw1 hw2 hw3 hw4
 have hda := hok.data
 have hgp := hok.gaps
 have hdp := hok.dups
 have hp16 := hls.2.2.1
 have hc16 := hls.2.2.2
 have hp1 : prmOk 1 d.data := ⟨by omega, by omega, by omega⟩
 have hpl := psL_len hls.1 (i := d.ps.length) hp16
 have hcl := csL_len hls.2.1 (i := d.cs.length) hc16
 rw [List.take_length] at hpl hcl
 have hgl := gsL_len d.gs
 have hdl := dsL_len d.ds
 have hLd := L_len d.data
 have hg16 := hgp.2
 have hgal : (gapsL d).length ≤ 200 := by unfold gapsL; simp only [List.length_append, be2_len]; omega
 refine CQ.body (E := env) env_ok hd rfl rfl (by show _ ≤ _; exact of_decide_eq_true (by kernel_rfl)) ?_
 refine RA.sR hd env_ok <| OA.ps [(7, (Pt c 0 0)), (8, (Pt c 0 0)), (9, (Pt c 0 0))] rfl <| oL 10 (.int .i64 d.typ) hc <| OA.nil fun _ => RA.block <| RA.sR hd env_ok ?_
 have hc1 : ¬ (d.typ = 0) := fun hdd => by exfalso; omega
 refine oP 17 yF rfl (Eq.trans (r_bin rfl rfl rfl (b_eql rfl)) (Go.Proofs.YtgajcmanompmcaaV.dF hc1)) <| OA.ps [(16, yF)] rfl <| OA.nil fun _ => RA.condF rfl <| RA.seq hd <| RA.sR hd env_ok ?_
 have hc2 : ¬ (d.typ = 1) := fun hdd => by exfalso; omega
 refine oP 44 yF rfl (Eq.trans (r_bin rfl rfl rfl (b_eql rfl)) (Go.Proofs.YtgajcmanompmcaaV.dF hc2)) <| OA.ps [(43, yF)] rfl <| OA.nil fun _ => RA.condF rfl <| RA.region env_ok ?_
 have hc3 : ¬ (d.typ = 2) := fun hdd => by exfalso; omega
 refine oP 45 yF rfl (Eq.trans (r_bin rfl rfl rfl (b_eql rfl)) (Go.Proofs.YtgajcmanompmcaaV.dF hc3)) <| OA.ps [(43, yF)] rfl <| OA.nil fun _ => RA.condF rfl <| RA.sR hd env_ok ?_
 have hc4 : ¬ (d.typ = 3) := fun hdd => by exfalso; omega
 refine oP 77 yF rfl (Eq.trans (r_bin rfl rfl rfl (b_eql rfl)) (Go.Proofs.YtgajcmanompmcaaV.dF hc4)) <| OA.ps [(76, yF)] rfl <| OA.nil fun _ => RA.condF rfl <| RA.seq hd <| RA.sR hd env_ok ?_
 have hc5 : ¬ (d.typ = 4) := fun hdd => by exfalso; omega
 refine oP 82 yF rfl (Eq.trans (r_bin rfl rfl rfl (b_eql rfl)) (Go.Proofs.YtgajcmanompmcaaV.dF hc5)) <| OA.ps [(81, yF)] rfl <| OA.nil fun _ => RA.condF rfl <| RA.region env_ok ?_
 have hc6 : ¬ (d.typ = 5) := fun hdd => by exfalso; omega
 refine oP 83 yF rfl (Eq.trans (r_bin rfl rfl rfl (b_eql rfl)) (Go.Proofs.YtgajcmanompmcaaV.dF hc6)) <| OA.ps [(81, yF)] rfl <| OA.nil fun _ => RA.condF rfl <| RA.seq hd <| RA.sR hd env_ok ?_
 have hc7 : ¬ (d.typ = 6) := fun hdd => by exfalso; omega
 refine oP 102 yF rfl (Eq.trans (r_bin rfl rfl rfl (b_eql rfl)) (Go.Proofs.YtgajcmanompmcaaV.dF hc7)) <| OA.ps [(101, yF)] rfl <| OA.nil fun _ => RA.condF rfl <| RA.region env_ok ?_
 have hc8 : ¬ (d.typ = 9) := fun hdd => by exfalso; omega
 refine oP 103 yF rfl (Eq.trans (r_bin rfl rfl rfl (b_eql rfl)) (Go.Proofs.YtgajcmanompmcaaV.dF hc8)) <| OA.ps [(101, yF)] rfl <| OA.nil fun _ => RA.condF rfl <| RA.sR hd env_ok ?_
 have hc9 : ¬ (d.typ = 7) := fun hdd => by exfalso; omega
 refine oP 120 yF rfl (Eq.trans (r_bin rfl rfl rfl (b_eql rfl)) (Go.Proofs.YtgajcmanompmcaaV.dF hc9)) <| OA.ps [(119, yF)] rfl <| OA.nil fun _ => RA.condF rfl <| RA.seq hd <| RA.sR hd env_ok ?_
 have hc10 : ¬ (d.typ = 193) := fun hdd => by exfalso; omega
 refine oP 127 yF rfl (Eq.trans (r_bin rfl rfl rfl (b_eql rfl)) (Go.Proofs.YtgajcmanompmcaaV.dF hc10)) <| OA.ps [(126, yF)] rfl <| OA.nil fun _ => RA.condF rfl <| RA.sR hd env_ok ?_
 have hc11 : ¬ (d.typ = 128) := fun hdd => by exfalso; omega
 refine oP 128 yF rfl (Eq.trans (r_bin rfl rfl rfl (b_eql rfl)) (Go.Proofs.YtgajcmanompmcaaV.dF hc11)) <| OA.ps [(126, yF)] rfl <| OA.nil fun _ => RA.rb [(0, (Pt r 0 0)), (1, (Pt c 0 0)), (10, (.int .i64 d.typ)), (16, yF), (43, yF), (76, yF), (81, yF), (101, yF), (119, yF), (126, yF)] rfl (fun τr1 => ?_)
 refine RA.condF rfl <| RA.region env_ok ?_
 have hc12 : ¬ (d.typ = 130) := fun hdd => by exfalso; omega
 refine oP 129 yF rfl (Eq.trans (r_bin rfl rfl rfl (b_eql rfl)) (Go.Proofs.YtgajcmanompmcaaV.dF hc12)) <| OA.ps [(126, yF)] rfl <| OA.nil fun _ => RA.condF rfl <| RA.seq hd <| RA.sR hd env_ok ?_
 by_cases hc13 : d.typ = 8
 ·
  refine oP 141 yT rfl (Eq.trans (r_bin rfl rfl rfl (b_eql rfl)) (Go.Proofs.YtgajcmanompmcaaV.dT hc13)) <| OA.ps [(140, yT)] rfl <| OA.nil fun _ => RA.condT rfl <| RA.skip env_ok ?_
  intro _
  refine RA.condT rfl <| RA.skip env_ok ?_
  refine ⟨.inl rfl, [], resL_nil, [], (Less.refl _ _ _), ⟨rfl, (xCx36 d), hc, hr, ⟨.nil, .nil, .nil, .nil, Nat.zero_le _, Nat.zero_le _, Nat.zero_le _, Nat.zero_le _, h.fl, fun g hg => by cases hg⟩, (by have hq := plain_eq hm.2.2.2; rw [pl_8 hk] at hq; exact hq), by intro q_ hq_; simp only [keys, List.cons_append, List.nil_append, List.map_cons, List.map_nil, List.mem_cons, List.not_mem_nil, or_false, false_or] at hq_ <;> omega⟩⟩
 ·
  refine oP 141 yF rfl (Eq.trans (r_bin rfl rfl rfl (b_eql rfl)) (Go.Proofs.YtgajcmanompmcaaV.dF hc13)) <| OA.ps [(140, yF)] rfl <| OA.nil fun _ => RA.condF rfl <| RA.sR hd env_ok ?_
  by_cases hc14 : d.typ = 11
  ·
   refine oP 142 yT rfl (Eq.trans (r_bin rfl rfl rfl (b_eql rfl)) (Go.Proofs.YtgajcmanompmcaaV.dT hc14)) <| OA.ps [(140, yT)] rfl <| OA.nil fun _ => RA.condT rfl <| RA.skip env_ok ?_
   intro _
   refine RA.condT rfl <| RA.skip env_ok ?_
   refine ⟨.inl rfl, [], resL_nil, [], (Less.refl _ _ _), ⟨rfl, (xCx36 d), hc, hr, ⟨.nil, .nil, .nil, .nil, Nat.zero_le _, Nat.zero_le _, Nat.zero_le _, Nat.zero_le _, h.fl, fun g hg => by cases hg⟩, (by have hq := plain_eq hm.2.2.2; rw [pl_8 hk] at hq; exact hq), by intro q_ hq_; simp only [keys, List.cons_append, List.nil_append, List.map_cons, List.map_nil, List.mem_cons, List.not_mem_nil, or_false, false_or] at hq_ <;> omega⟩⟩
  ·
   refine oP 142 yF rfl (Eq.trans (r_bin rfl rfl rfl (b_eql rfl)) (Go.Proofs.YtgajcmanompmcaaV.dF hc14)) <| OA.ps [(140, yF)] rfl <| OA.nil fun _ => RA.condF rfl <| RA.region env_ok ?_
   have hc15 : d.typ = 14 := Classical.byContradiction (fun hdd => by exfalso; omega)
   refine oP 143 yT rfl (Eq.trans (r_bin rfl rfl rfl (b_eql rfl)) (Go.Proofs.YtgajcmanompmcaaV.dT hc15)) <| OA.ps [(140, yT)] rfl <| OA.nil fun _ => RA.condT rfl <| RA.skip env_ok ?_
   refine ⟨.inl rfl, [], resL_nil, [], (Less.refl _ _ _), ⟨rfl, (xCx36 d), hc, hr, ⟨.nil, .nil, .nil, .nil, Nat.zero_le _, Nat.zero_le _, Nat.zero_le _, Nat.zero_le _, h.fl, fun g hg => by cases hg⟩, (by have hq := plain_eq hm.2.2.2; rw [pl_8 hk] at hq; exact hq), by intro q_ hq_; simp only [keys, List.cons_append, List.nil_append, List.map_cons, List.map_nil, List.mem_cons, List.not_mem_nil, or_false, false_or] at hq_ <;> omega⟩⟩
set_option maxHeartbeats 16000000 in
theorem cSays10 {n : Nat} {σ : Store} (hd : Dom n σ) (r c : Nat) (hrc : r ≠ c) (d : Chk) (hm : mayP d) (h : gd σ d) (hk : kd d.typ = 10) (hr : σ r = some ⟨[[(.string (bstr (L d.data))), (.int .i64 0)]], 2, 121, true⟩) (hc : σ c = some ⟨[[(.int .i64 d.typ), (.int .i64 d.flags), (.int .u32 0), (.int .i64 0), (.int .i64 0), (.int .u32 0), (.string ByteArray.empty), (.int .u32 0), (.int .u32 0), (.int .i64 0), (.int .i64 0), (.slice none 0 0), (.slice none 0 0), (.slice none 0 0), (.slice none 0 0)]], 15, 53, true⟩)  : CQ Try.prog noDen 91 [(Pt r 0 0), (Pt c 0 0)] n σ (fun v n' D_ => v = .tuple #[] ∧ ∃ y : Chk, app D_ σ c = some ⟨[cChk y], 15, 53, true⟩ ∧ app D_ σ r = some ⟨[[(.string (bstr ([] : List UInt8))), (.int .i64 0)]], 2, 121, true⟩ ∧ gd (app D_ σ) y ∧ yEq d y ∧ ∀ q_ ∈ keys D_, q_ = c ∨ q_ = r ∨ (n ≤ q_ ∧ q_ < n')) := by
 have lhr := hd.lt hr
 have lhc := hd.lt hc
 have hkk := kd_cases d.typ
 have hok := hm.2.1
 have hls := hok.lists
 have hw1 := hok.w1
 have hw2 := hok.w2
 have hw3 := hok.w3
 have hw4 := hok.w4
 unfold wordP at hw1 hw2 hw3 hw4
 have hda := hok.data
 have hgp := hok.gaps
 have hdp := hok.dups
 have hp16 := hls.2.2.1
 have hc16 := hls.2.2.2
 have hp1 : prmOk 1 d.data := ⟨by omega, by omega, by omega⟩
 have hpl := psL_len hls.1 (i := d.ps.length) hp16
 have hcl := csL_len hls.2.1 (i := d.cs.length) hc16
 rw [List.take_length] at hpl hcl
 have hgl := gsL_len d.gs
 have hdl := dsL_len d.ds
 have hLd := L_len d.data
 have hg16 := hgp.2
 have hgal : (gapsL d).length ≤ 200 := by unfold gapsL; simp only [List.length_append, be2_len]; omega
 refine CQ.body (E := env) env_ok hd rfl rfl (by show _ ≤ _; exact of_decide_eq_true (by kernel_rfl)) ?_
 refine RA.sR hd env_ok <| OA.ps [(7, (Pt c 0 0)), (8, (Pt c 0 0)), (9, (Pt c 0 0))] rfl <| oL 10 (.int .i64 d.typ) hc <| OA.nil fun _ => RA.block <| RA.sR hd env_ok ?_
 have hc1 : ¬ (d.typ = 0) := fun hdd => by exfalso; omega
 refine oP 17 yF rfl (Eq.trans (r_bin rfl rfl rfl (b_eql rfl)) (Go.Proofs.YtgajcmanompmcaaV.dF hc1)) <| OA.ps [(16, yF)] rfl <| OA.nil fun _ => RA.condF rfl <| RA.seq hd <| RA.sR hd env_ok ?_
 have hc2 : ¬ (d.typ = 1) := fun hdd => by exfalso; omega
 refine oP 44 yF rfl (Eq.trans (r_bin rfl rfl rfl (b_eql rfl)) (Go.Proofs.YtgajcmanompmcaaV.dF hc2)) <| OA.ps [(43, yF)] rfl <| OA.nil fun _ => RA.condF rfl <| RA.region env_ok ?_
 have hc3 : ¬ (d.typ = 2) := fun hdd => by exfalso; omega
 refine oP 45 yF rfl (Eq.trans (r_bin rfl rfl rfl (b_eql rfl)) (Go.Proofs.YtgajcmanompmcaaV.dF hc3)) <| OA.ps [(43, yF)] rfl <| OA.nil fun _ => RA.condF rfl <| RA.sR hd env_ok ?_
 have hc4 : ¬ (d.typ = 3) := fun hdd => by exfalso; omega
 refine oP 77 yF rfl (Eq.trans (r_bin rfl rfl rfl (b_eql rfl)) (Go.Proofs.YtgajcmanompmcaaV.dF hc4)) <| OA.ps [(76, yF)] rfl <| OA.nil fun _ => RA.condF rfl <| RA.seq hd <| RA.sR hd env_ok ?_
 have hc5 : ¬ (d.typ = 4) := fun hdd => by exfalso; omega
 refine oP 82 yF rfl (Eq.trans (r_bin rfl rfl rfl (b_eql rfl)) (Go.Proofs.YtgajcmanompmcaaV.dF hc5)) <| OA.ps [(81, yF)] rfl <| OA.nil fun _ => RA.condF rfl <| RA.region env_ok ?_
 have hc6 : ¬ (d.typ = 5) := fun hdd => by exfalso; omega
 refine oP 83 yF rfl (Eq.trans (r_bin rfl rfl rfl (b_eql rfl)) (Go.Proofs.YtgajcmanompmcaaV.dF hc6)) <| OA.ps [(81, yF)] rfl <| OA.nil fun _ => RA.condF rfl <| RA.seq hd <| RA.sR hd env_ok ?_
 have hc7 : ¬ (d.typ = 6) := fun hdd => by exfalso; omega
 refine oP 102 yF rfl (Eq.trans (r_bin rfl rfl rfl (b_eql rfl)) (Go.Proofs.YtgajcmanompmcaaV.dF hc7)) <| OA.ps [(101, yF)] rfl <| OA.nil fun _ => RA.condF rfl <| RA.region env_ok ?_
 have hc8 : ¬ (d.typ = 9) := fun hdd => by exfalso; omega
 refine oP 103 yF rfl (Eq.trans (r_bin rfl rfl rfl (b_eql rfl)) (Go.Proofs.YtgajcmanompmcaaV.dF hc8)) <| OA.ps [(101, yF)] rfl <| OA.nil fun _ => RA.condF rfl <| RA.sR hd env_ok ?_
 have hc9 : ¬ (d.typ = 7) := fun hdd => by exfalso; omega
 refine oP 120 yF rfl (Eq.trans (r_bin rfl rfl rfl (b_eql rfl)) (Go.Proofs.YtgajcmanompmcaaV.dF hc9)) <| OA.ps [(119, yF)] rfl <| OA.nil fun _ => RA.condF rfl <| RA.seq hd <| RA.sR hd env_ok ?_
 have hc10 : ¬ (d.typ = 193) := fun hdd => by exfalso; omega
 refine oP 127 yF rfl (Eq.trans (r_bin rfl rfl rfl (b_eql rfl)) (Go.Proofs.YtgajcmanompmcaaV.dF hc10)) <| OA.ps [(126, yF)] rfl <| OA.nil fun _ => RA.condF rfl <| RA.sR hd env_ok ?_
 have hc11 : ¬ (d.typ = 128) := fun hdd => by exfalso; omega
 refine oP 128 yF rfl (Eq.trans (r_bin rfl rfl rfl (b_eql rfl)) (Go.Proofs.YtgajcmanompmcaaV.dF hc11)) <| OA.ps [(126, yF)] rfl <| OA.nil fun _ => RA.rb [(0, (Pt r 0 0)), (1, (Pt c 0 0)), (10, (.int .i64 d.typ)), (16, yF), (43, yF), (76, yF), (81, yF), (101, yF), (119, yF), (126, yF)] rfl (fun τr1 => ?_)
 refine RA.condF rfl <| RA.region env_ok ?_
 have hc12 : ¬ (d.typ = 130) := fun hdd => by exfalso; omega
 refine oP 129 yF rfl (Eq.trans (r_bin rfl rfl rfl (b_eql rfl)) (Go.Proofs.YtgajcmanompmcaaV.dF hc12)) <| OA.ps [(126, yF)] rfl <| OA.nil fun _ => RA.condF rfl <| RA.seq hd <| RA.sR hd env_ok ?_
 have hc13 : ¬ (d.typ = 8) := fun hdd => by exfalso; omega
 refine oP 141 yF rfl (Eq.trans (r_bin rfl rfl rfl (b_eql rfl)) (Go.Proofs.YtgajcmanompmcaaV.dF hc13)) <| OA.ps [(140, yF)] rfl <| OA.nil fun _ => RA.condF rfl <| RA.sR hd env_ok ?_
 have hc14 : ¬ (d.typ = 11) := fun hdd => by exfalso; omega
 refine oP 142 yF rfl (Eq.trans (r_bin rfl rfl rfl (b_eql rfl)) (Go.Proofs.YtgajcmanompmcaaV.dF hc14)) <| OA.ps [(140, yF)] rfl <| OA.nil fun _ => RA.condF rfl <| RA.region env_ok ?_
 have hc15 : ¬ (d.typ = 14) := fun hdd => by exfalso; omega
 refine oP 143 yF rfl (Eq.trans (r_bin rfl rfl rfl (b_eql rfl)) (Go.Proofs.YtgajcmanompmcaaV.dF hc15)) <| OA.ps [(140, yF)] rfl <| OA.nil fun _ => RA.condF rfl <| RA.sR hd env_ok ?_
 have hc16 : ¬ (d.typ = 15) := fun hdd => by exfalso; omega
 refine oP 145 yF rfl (Eq.trans (r_bin rfl rfl rfl (b_eql rfl)) (Go.Proofs.YtgajcmanompmcaaV.dF hc16)) <| OA.ps [(144, yF)] rfl <| OA.nil fun _ => RA.condF rfl <| RA.region env_ok <| OA.ps [(11, (Pt c 0 0)), (12, (Pt r 0 0))] rfl ?_
 refine OA.call (dst := (some 13)) (all := [(Pt r 0 0)]) rfl rfl rfl rfl rfl rfl rfl rfl (CQ.imp (cRestD (hd.up (by omega)) r d.data (by omega) hr) ?_)
 rintro _ n2 _ ⟨rfl, rfl⟩ hn2
 refine OA.app1 ?_
 refine OA.ps [(14, (Pt c 0 0)), (15, (Pt c 0 6))] rfl <| o1 none yU n2 (c, some ⟨[(xCx34 d)], 15, 53, true⟩) (rS (get_there (by omega) hc)) <| OA.nil ?_
 refine ⟨.inl rfl, [], resL_nil, [(c, some ⟨[(xCx34 d)], 15, 53, true⟩), (r, some ⟨[[(.string (bstr ([] : List UInt8))), (.int .i64 0)]], 2, 121, true⟩)], (Less.refl _ _ _), ⟨rfl, (xCx37 d), get_here, (get_there (by omega) get_here), ⟨.nil, .nil, .nil, .nil, Nat.zero_le _, Nat.zero_le _, Nat.zero_le _, Nat.zero_le _, h.fl, fun g hg => by cases hg⟩, (by have hq := plain_eq hm.2.2.2; rw [pl_10 hk] at hq; exact hq), by intro q_ hq_; simp only [keys, List.cons_append, List.nil_append, List.map_cons, List.map_nil, List.mem_cons, List.not_mem_nil, or_false, false_or] at hq_ <;> omega⟩⟩
set_option maxHeartbeats 16000000 in
theorem cSays15 {n : Nat} {σ : Store} (hd : Dom n σ) (r c : Nat) (hrc : r ≠ c) (d : Chk) (hm : mayP d) (h : gd σ d) (hk : kd d.typ = 15) (hr : σ r = some ⟨[[(.string (bstr (be2 d.stream.toNat ++ (be2 d.ssn.toNat ++ L d.data)))), (.int .i64 0)]], 2, 121, true⟩) (hc : σ c = some ⟨[[(.int .i64 d.typ), (.int .i64 d.flags), (.int .u32 0), (.int .i64 0), (.int .i64 0), (.int .u32 0), (.string ByteArray.empty), (.int .u32 0), (.int .u32 0), (.int .i64 0), (.int .i64 0), (.slice none 0 0), (.slice none 0 0), (.slice none 0 0), (.slice none 0 0)]], 15, 53, true⟩)  : CQ Try.prog noDen 91 [(Pt r 0 0), (Pt c 0 0)] n σ (fun v n' D_ => v = .tuple #[] ∧ ∃ y : Chk, app D_ σ c = some ⟨[cChk y], 15, 53, true⟩ ∧ app D_ σ r = some ⟨[[(.string (bstr ([] : List UInt8))), (.int .i64 0)]], 2, 121, true⟩ ∧ gd (app D_ σ) y ∧ yEq d y ∧ ∀ q_ ∈ keys D_, q_ = c ∨ q_ = r ∨ (n ≤ q_ ∧ q_ < n')) := by
 have lhr := hd.lt hr
 have lhc := hd.lt hc
 have hkk := kd_cases d.typ
 have hok := hm.2.1
 have hls := hok.lists
 have hw1 := hok.w1
 have hw2 := hok.w2
 have hw3 := hok.w3
 have hw4 := hok.w4
 unfold wordP at hw1 hw2 hw3 hw4
 have hda := hok.data
 have hgp := hok.gaps
 have hdp := hok.dups
 have hp16 := hls.2.2.1
 have hc16 := hls.2.2.2
 have hp1 : prmOk 1 d.data := ⟨by omega, by omega, by omega⟩
 have hpl := psL_len hls.1 (i := d.ps.length) hp16
 have hcl := csL_len hls.2.1 (i := d.cs.length) hc16
 rw [List.take_length] at hpl hcl
 have hgl := gsL_len d.gs
 have hdl := dsL_len d.ds
 have hLd := L_len d.data
 have hg16 := hgp.2
 have hgal : (gapsL d).length ≤ 200 := by unfold gapsL; simp only [List.length_append, be2_len]; omega
 refine CQ.body (E := env) env_ok hd rfl rfl (by show _ ≤ _; exact of_decide_eq_true (by kernel_rfl)) ?_
 refine RA.sR hd env_ok <| OA.ps [(7, (Pt c 0 0)), (8, (Pt c 0 0)), (9, (Pt c 0 0))] rfl <| oL 10 (.int .i64 d.typ) hc <| OA.nil fun _ => RA.block <| RA.sR hd env_ok ?_
 have hc1 : ¬ (d.typ = 0) := fun hdd => by exfalso; omega
 refine oP 17 yF rfl (Eq.trans (r_bin rfl rfl rfl (b_eql rfl)) (Go.Proofs.YtgajcmanompmcaaV.dF hc1)) <| OA.ps [(16, yF)] rfl <| OA.nil fun _ => RA.condF rfl <| RA.seq hd <| RA.sR hd env_ok ?_
 have hc2 : ¬ (d.typ = 1) := fun hdd => by exfalso; omega
 refine oP 44 yF rfl (Eq.trans (r_bin rfl rfl rfl (b_eql rfl)) (Go.Proofs.YtgajcmanompmcaaV.dF hc2)) <| OA.ps [(43, yF)] rfl <| OA.nil fun _ => RA.condF rfl <| RA.region env_ok ?_
 have hc3 : ¬ (d.typ = 2) := fun hdd => by exfalso; omega
 refine oP 45 yF rfl (Eq.trans (r_bin rfl rfl rfl (b_eql rfl)) (Go.Proofs.YtgajcmanompmcaaV.dF hc3)) <| OA.ps [(43, yF)] rfl <| OA.nil fun _ => RA.condF rfl <| RA.sR hd env_ok ?_
 have hc4 : ¬ (d.typ = 3) := fun hdd => by exfalso; omega
 refine oP 77 yF rfl (Eq.trans (r_bin rfl rfl rfl (b_eql rfl)) (Go.Proofs.YtgajcmanompmcaaV.dF hc4)) <| OA.ps [(76, yF)] rfl <| OA.nil fun _ => RA.condF rfl <| RA.seq hd <| RA.sR hd env_ok ?_
 have hc5 : ¬ (d.typ = 4) := fun hdd => by exfalso; omega
 refine oP 82 yF rfl (Eq.trans (r_bin rfl rfl rfl (b_eql rfl)) (Go.Proofs.YtgajcmanompmcaaV.dF hc5)) <| OA.ps [(81, yF)] rfl <| OA.nil fun _ => RA.condF rfl <| RA.region env_ok ?_
 have hc6 : ¬ (d.typ = 5) := fun hdd => by exfalso; omega
 refine oP 83 yF rfl (Eq.trans (r_bin rfl rfl rfl (b_eql rfl)) (Go.Proofs.YtgajcmanompmcaaV.dF hc6)) <| OA.ps [(81, yF)] rfl <| OA.nil fun _ => RA.condF rfl <| RA.seq hd <| RA.sR hd env_ok ?_
 have hc7 : ¬ (d.typ = 6) := fun hdd => by exfalso; omega
 refine oP 102 yF rfl (Eq.trans (r_bin rfl rfl rfl (b_eql rfl)) (Go.Proofs.YtgajcmanompmcaaV.dF hc7)) <| OA.ps [(101, yF)] rfl <| OA.nil fun _ => RA.condF rfl <| RA.region env_ok ?_
 have hc8 : ¬ (d.typ = 9) := fun hdd => by exfalso; omega
 refine oP 103 yF rfl (Eq.trans (r_bin rfl rfl rfl (b_eql rfl)) (Go.Proofs.YtgajcmanompmcaaV.dF hc8)) <| OA.ps [(101, yF)] rfl <| OA.nil fun _ => RA.condF rfl <| RA.sR hd env_ok ?_
 have hc9 : ¬ (d.typ = 7) := fun hdd => by exfalso; omega
 refine oP 120 yF rfl (Eq.trans (r_bin rfl rfl rfl (b_eql rfl)) (Go.Proofs.YtgajcmanompmcaaV.dF hc9)) <| OA.ps [(119, yF)] rfl <| OA.nil fun _ => RA.condF rfl <| RA.seq hd <| RA.sR hd env_ok ?_
 have hc10 : ¬ (d.typ = 193) := fun hdd => by exfalso; omega
 refine oP 127 yF rfl (Eq.trans (r_bin rfl rfl rfl (b_eql rfl)) (Go.Proofs.YtgajcmanompmcaaV.dF hc10)) <| OA.ps [(126, yF)] rfl <| OA.nil fun _ => RA.condF rfl <| RA.sR hd env_ok ?_
 have hc11 : ¬ (d.typ = 128) := fun hdd => by exfalso; omega
 refine oP 128 yF rfl (Eq.trans (r_bin rfl rfl rfl (b_eql rfl)) (Go.Proofs.YtgajcmanompmcaaV.dF hc11)) <| OA.ps [(126, yF)] rfl <| OA.nil fun _ => RA.rb [(0, (Pt r 0 0)), (1, (Pt c 0 0)), (10, (.int .i64 d.typ)), (16, yF), (43, yF), (76, yF), (81, yF), (101, yF), (119, yF), (126, yF)] rfl (fun τr1 => ?_)
 refine RA.condF rfl <| RA.region env_ok ?_
 have hc12 : ¬ (d.typ = 130) := fun hdd => by exfalso; omega
 refine oP 129 yF rfl (Eq.trans (r_bin rfl rfl rfl (b_eql rfl)) (Go.Proofs.YtgajcmanompmcaaV.dF hc12)) <| OA.ps [(126, yF)] rfl <| OA.nil fun _ => RA.condF rfl <| RA.seq hd <| RA.sR hd env_ok ?_
 have hc13 : ¬ (d.typ = 8) := fun hdd => by exfalso; omega
 refine oP 141 yF rfl (Eq.trans (r_bin rfl rfl rfl (b_eql rfl)) (Go.Proofs.YtgajcmanompmcaaV.dF hc13)) <| OA.ps [(140, yF)] rfl <| OA.nil fun _ => RA.condF rfl <| RA.sR hd env_ok ?_
 have hc14 : ¬ (d.typ = 11) := fun hdd => by exfalso; omega
 refine oP 142 yF rfl (Eq.trans (r_bin rfl rfl rfl (b_eql rfl)) (Go.Proofs.YtgajcmanompmcaaV.dF hc14)) <| OA.ps [(140, yF)] rfl <| OA.nil fun _ => RA.condF rfl <| RA.region env_ok ?_
 have hc15 : ¬ (d.typ = 14) := fun hdd => by exfalso; omega
 refine oP 143 yF rfl (Eq.trans (r_bin rfl rfl rfl (b_eql rfl)) (Go.Proofs.YtgajcmanompmcaaV.dF hc15)) <| OA.ps [(140, yF)] rfl <| OA.nil fun _ => RA.condF rfl <| RA.sR hd env_ok ?_
 have hc16 : d.typ = 15 := Classical.byContradiction (fun hdd => by exfalso; omega)
 refine oP 145 yT rfl (Eq.trans (r_bin rfl rfl rfl (b_eql rfl)) (Go.Proofs.YtgajcmanompmcaaV.dT hc16)) <| OA.ps [(144, yT)] rfl <| OA.nil fun _ => RA.condT rfl <| RA.sR hd env_ok <| OA.ps [(146, (Pt c 0 0)), (147, (Pt c 0 0)), (148, (Pt r 0 0))] rfl ?_
 refine OA.call (dst := (some 149)) (all := [(Pt r 0 0)]) rfl rfl rfl rfl rfl rfl rfl rfl (CQ.imp (cU16z (hd.up (by omega)) r d.stream (by omega) (by omega) (be2 d.ssn.toNat ++ L d.data) (by simp only [List.length_append, be1_len, be2_len, be4_len, L_len, List.length_nil, List.length_replicate]; omega) hr) ?_)
 rintro _ n2 _ ⟨rfl, rfl⟩ hn2
 refine OA.app1 ?_
 refine OA.ps [(150, (Pt r 0 0))] rfl ?_
 refine OA.call (dst := (some 151)) (all := [(Pt r 0 0)]) rfl rfl rfl rfl rfl rfl rfl rfl (CQ.imp (cU16z (hd.of (by omega) (kb1 (by omega))) r d.ssn (by omega) (by omega) (L d.data) (by simp only [List.length_append, be1_len, be2_len, be4_len, L_len, List.length_nil, List.length_replicate]; omega) get_here) ?_)
 rintro _ n3 _ ⟨rfl, rfl⟩ hn3
 refine OA.app1 ?_
 refine OA.ps [(152, (Pt c 0 0)), (153, (Pt c 0 3))] rfl <| o1 none yU n3 (c, some ⟨[[(.int .i64 d.typ), (.int .i64 d.flags), (.int .u32 0), (.int .i64 d.stream), (.int .i64 0), (.int .u32 0), (.string ByteArray.empty), (.int .u32 0), (.int .u32 0), (.int .i64 0), (.int .i64 0), (.slice none 0 0), (.slice none 0 0), (.slice none 0 0), (.slice none 0 0)]], 15, 53, true⟩) (rS (gt2 (by omega) hc)) <| OA.ps [(154, (Pt c 0 0)), (155, (Pt c 0 4))] rfl <| o1 none yU n3 (c, some ⟨[[(.int .i64 d.typ), (.int .i64 d.flags), (.int .u32 0), (.int .i64 d.stream), (.int .i64 d.ssn), (.int .u32 0), (.string ByteArray.empty), (.int .u32 0), (.int .u32 0), (.int .i64 0), (.int .i64 0), (.slice none 0 0), (.slice none 0 0), (.slice none 0 0), (.slice none 0 0)]], 15, 53, true⟩) (rS get_here) <| OA.nil fun _ => RA.weaken hd (LsO (fA get_here get_here (fA (get_there (by omega) get_here) (gt2 (by omega) get_here) fan))) <| RA.region env_ok <| OA.ps [(156, (Pt c 0 0)), (157, (Pt r 0 0))] rfl ?_
 refine OA.call (dst := (some 158)) (all := [(Pt r 0 0)]) rfl rfl rfl rfl rfl rfl rfl rfl (CQ.imp (cRestD (hd.of (by omega) (kb2 (by omega))) r d.data (by omega) (get_there (by omega) get_here)) ?_)
 rintro _ n4 _ ⟨rfl, rfl⟩ hn4
 refine OA.app1 ?_
 refine OA.ps [(159, (Pt c 0 0)), (160, (Pt c 0 6))] rfl <| o1 none yU n4 (c, some ⟨[[(.int .i64 d.typ), (.int .i64 d.flags), (.int .u32 0), (.int .i64 d.stream), (.int .i64 d.ssn), (.int .u32 0), (.string d.data), (.int .u32 0), (.int .u32 0), (.int .i64 0), (.int .i64 0), (.slice none 0 0), (.slice none 0 0), (.slice none 0 0), (.slice none 0 0)]], 15, 53, true⟩) (rS (get_there (by omega) get_here)) <| OA.nil ?_
 refine ⟨.inl rfl, [], resL_nil, [(c, some ⟨[[(.int .i64 d.typ), (.int .i64 d.flags), (.int .u32 0), (.int .i64 d.stream), (.int .i64 d.ssn), (.int .u32 0), (.string d.data), (.int .u32 0), (.int .u32 0), (.int .i64 0), (.int .i64 0), (.slice none 0 0), (.slice none 0 0), (.slice none 0 0), (.slice none 0 0)]], 15, 53, true⟩), (r, some ⟨[[(.string (bstr ([] : List UInt8))), (.int .i64 0)]], 2, 121, true⟩)], (LsO (fA get_here get_here (fA (get_there (by omega) get_here) (get_there (by omega) get_here) fan))), ⟨rfl, (Chk.mk d.typ d.flags (0#32) d.stream d.ssn (0#32) d.data (0#32) (0#32) 0 0 (.slice none 0 0) (.slice none 0 0) (.slice none 0 0) (.slice none 0 0) [] [] [] []), get_here, (get_there (by omega) get_here), ⟨.nil, .nil, .nil, .nil, Nat.zero_le _, Nat.zero_le _, Nat.zero_le _, Nat.zero_le _, h.fl, fun g hg => by cases hg⟩, (by have hq := plain_eq hm.2.2.2; rw [pl_15 hk] at hq; exact hq), by intro q_ hq_; simp only [keys, List.cons_append, List.nil_append, List.map_cons, List.map_nil, List.mem_cons, List.not_mem_nil, or_false, false_or] at hq_ <;> omega⟩⟩
set_option maxHeartbeats 16000000 in
theorem cSays16 {n : Nat} {σ : Store} (hd : Dom n σ) (r c : Nat) (hrc : r ≠ c) (d : Chk) (hm : mayP d) (h : gd σ d) (hk : kd d.typ = 16) (hr : σ r = some ⟨[[(.string (bstr (be4 d.tsn ++ psL d.ps))), (.int .i64 0)]], 2, 121, true⟩) (hc : σ c = some ⟨[[(.int .i64 d.typ), (.int .i64 d.flags), (.int .u32 0), (.int .i64 0), (.int .i64 0), (.int .u32 0), (.string ByteArray.empty), (.int .u32 0), (.int .u32 0), (.int .i64 0), (.int .i64 0), (.slice none 0 0), (.slice none 0 0), (.slice none 0 0), (.slice none 0 0)]], 15, 53, true⟩)  : CQ Try.prog noDen 91 [(Pt r 0 0), (Pt c 0 0)] n σ (fun v n' D_ => v = .tuple #[] ∧ ∃ y : Chk, app D_ σ c = some ⟨[cChk y], 15, 53, true⟩ ∧ app D_ σ r = some ⟨[[(.string (bstr ([] : List UInt8))), (.int .i64 0)]], 2, 121, true⟩ ∧ gd (app D_ σ) y ∧ yEq d y ∧ ∀ q_ ∈ keys D_, q_ = c ∨ q_ = r ∨ (n ≤ q_ ∧ q_ < n')) := by
 have lhr := hd.lt hr
 have lhc := hd.lt hc
 have hkk := kd_cases d.typ
 have hok := hm.2.1
 have hls := hok.lists
 have hw1 := hok.w1
 have hw2 := hok.w2
 have hw3 := hok.w3
 have hw4 := hok.w4
 unfold wordP at hw1 hw2 hw3 hw4
 have hda := hok.data
 have hgp := hok.gaps
 have hdp := hok.dups
 have hp16 := hls.2.2.1
 have hc16 := hls.2.2.2
 have hp1 : prmOk 1 d.data := ⟨by omega, by omega, by omega⟩
 have hpl := psL_len hls.1 (i := d.ps.length) hp16
 have hcl := csL_len hls.2.1 (i := d.cs.length) hc16
 rw [List.take_length] at hpl hcl
 have hgl := gsL_len d.gs
 have hdl := dsL_len d.ds
 have hLd := L_len d.data
 have hg16 := hgp.2
 have hgal : (gapsL d).length ≤ 200 := by unfold gapsL; simp only [List.length_append, be2_len]; omega
 refine CQ.body (E := env) env_ok hd rfl rfl (by show _ ≤ _; exact of_decide_eq_true (by kernel_rfl)) ?_
 refine RA.sR hd env_ok <| OA.ps [(7, (Pt c 0 0)), (8, (Pt c 0 0)), (9, (Pt c 0 0))] rfl <| oL 10 (.int .i64 d.typ) hc <| OA.nil fun _ => RA.block <| RA.sR hd env_ok ?_
 have hc1 : ¬ (d.typ = 0) := fun hdd => by exfalso; omega
 refine oP 17 yF rfl (Eq.trans (r_bin rfl rfl rfl (b_eql rfl)) (Go.Proofs.YtgajcmanompmcaaV.dF hc1)) <| OA.ps [(16, yF)] rfl <| OA.nil fun _ => RA.condF rfl <| RA.seq hd <| RA.sR hd env_ok ?_
 have hc2 : ¬ (d.typ = 1) := fun hdd => by exfalso; omega
 refine oP 44 yF rfl (Eq.trans (r_bin rfl rfl rfl (b_eql rfl)) (Go.Proofs.YtgajcmanompmcaaV.dF hc2)) <| OA.ps [(43, yF)] rfl <| OA.nil fun _ => RA.condF rfl <| RA.region env_ok ?_
 have hc3 : ¬ (d.typ = 2) := fun hdd => by exfalso; omega
 refine oP 45 yF rfl (Eq.trans (r_bin rfl rfl rfl (b_eql rfl)) (Go.Proofs.YtgajcmanompmcaaV.dF hc3)) <| OA.ps [(43, yF)] rfl <| OA.nil fun _ => RA.condF rfl <| RA.sR hd env_ok ?_
 have hc4 : ¬ (d.typ = 3) := fun hdd => by exfalso; omega
 refine oP 77 yF rfl (Eq.trans (r_bin rfl rfl rfl (b_eql rfl)) (Go.Proofs.YtgajcmanompmcaaV.dF hc4)) <| OA.ps [(76, yF)] rfl <| OA.nil fun _ => RA.condF rfl <| RA.seq hd <| RA.sR hd env_ok ?_
 have hc5 : ¬ (d.typ = 4) := fun hdd => by exfalso; omega
 refine oP 82 yF rfl (Eq.trans (r_bin rfl rfl rfl (b_eql rfl)) (Go.Proofs.YtgajcmanompmcaaV.dF hc5)) <| OA.ps [(81, yF)] rfl <| OA.nil fun _ => RA.condF rfl <| RA.region env_ok ?_
 have hc6 : ¬ (d.typ = 5) := fun hdd => by exfalso; omega
 refine oP 83 yF rfl (Eq.trans (r_bin rfl rfl rfl (b_eql rfl)) (Go.Proofs.YtgajcmanompmcaaV.dF hc6)) <| OA.ps [(81, yF)] rfl <| OA.nil fun _ => RA.condF rfl <| RA.seq hd <| RA.sR hd env_ok ?_
 have hc7 : ¬ (d.typ = 6) := fun hdd => by exfalso; omega
 refine oP 102 yF rfl (Eq.trans (r_bin rfl rfl rfl (b_eql rfl)) (Go.Proofs.YtgajcmanompmcaaV.dF hc7)) <| OA.ps [(101, yF)] rfl <| OA.nil fun _ => RA.condF rfl <| RA.region env_ok ?_
 have hc8 : ¬ (d.typ = 9) := fun hdd => by exfalso; omega
 refine oP 103 yF rfl (Eq.trans (r_bin rfl rfl rfl (b_eql rfl)) (Go.Proofs.YtgajcmanompmcaaV.dF hc8)) <| OA.ps [(101, yF)] rfl <| OA.nil fun _ => RA.condF rfl <| RA.sR hd env_ok ?_
 have hc9 : ¬ (d.typ = 7) := fun hdd => by exfalso; omega
 refine oP 120 yF rfl (Eq.trans (r_bin rfl rfl rfl (b_eql rfl)) (Go.Proofs.YtgajcmanompmcaaV.dF hc9)) <| OA.ps [(119, yF)] rfl <| OA.nil fun _ => RA.condF rfl <| RA.seq hd <| RA.sR hd env_ok ?_
 by_cases hc10 : d.typ = 193
 ·
  refine oP 127 yT rfl (Eq.trans (r_bin rfl rfl rfl (b_eql rfl)) (Go.Proofs.YtgajcmanompmcaaV.dT hc10)) <| OA.ps [(126, yT)] rfl <| OA.nil fun _ => RA.condT rfl <| RA.skip env_ok ?_
  intro _
  refine RA.condT rfl <| RA.sR hd env_ok <| OA.ps [(130, (Pt c 0 0)), (131, (Pt r 0 0))] rfl ?_
  refine OA.call (dst := (some 132)) (all := [(Pt r 0 0)]) rfl rfl rfl rfl rfl rfl rfl rfl (CQ.imp (cU32 (hd.up (by omega)) r d.tsn (psL d.ps) (by simp only [List.length_append, be1_len, be2_len, be4_len, L_len, List.length_nil, List.length_replicate]; omega) hr) ?_)
  rintro _ n1 _ ⟨rfl, rfl⟩ hn1
  refine OA.app1 ?_
  refine OA.ps [(133, (Pt c 0 0)), (134, (Pt c 0 2))] rfl <| o1 none yU n1 (c, some ⟨[(xCx33 d)], 15, 53, true⟩) (rS (get_there (by omega) hc)) <| OA.nil fun _ => RA.rb [(0, (Pt r 0 0)), (1, (Pt c 0 0)), (10, (.int .i64 d.typ)), (16, yF), (43, yF), (76, yF), (81, yF), (101, yF), (119, yF), (126, yT)] rfl (fun τr2 => ?_)
  refine RA.region env_ok <| OA.ps [(135, (Pt c 0 0)), (136, (Pt r 0 0))] rfl ?_
  by_cases hc11 : d.ps = []
  ·
   refine OA.call (dst := (some 137)) (all := [(Pt r 0 0)]) rfl rfl rfl rfl rfl rfl rfl rfl (CQ.imp (cParN (hd.of (by omega) (kb2 (by omega))) r d.ps hls.1 hp16 hc11 (get_there (by omega) get_here)) ?_)
   rintro _ n3 _ ⟨rfl, rfl⟩ hn3
   refine OA.app1 ?_
   refine OA.ps [(138, (Pt c 0 0)), (139, (Pt c 0 11))] rfl <| o1 none yU n3 (c, some ⟨[(xCx33 d)], 15, 53, true⟩) (rS (get_there (by omega) get_here)) <| OA.nil ?_
   refine ⟨.inl rfl, [], resL_nil, [(c, some ⟨[(xCx33 d)], 15, 53, true⟩), (r, some ⟨[[(.string (bstr ([] : List UInt8))), (.int .i64 0)]], 2, 121, true⟩)], (LsO (fA get_here get_here (fA (get_there (by omega) get_here) (get_there (by omega) get_here) fan))), ⟨rfl, (xCx35 d), get_here, (get_there (by omega) get_here), ⟨(by rw [hc11]; exact .nil), .nil, .nil, .nil, h.p18, Nat.zero_le _, Nat.zero_le _, Nat.zero_le _, h.fl, fun g hg => by cases hg⟩, (by have hq := plain_eq hm.2.2.2; rw [pl_16 hk] at hq; exact hq), by intro q_ hq_; simp only [keys, List.cons_append, List.nil_append, List.map_cons, List.map_nil, List.mem_cons, List.not_mem_nil, or_false, false_or] at hq_ <;> omega⟩⟩
  ·
   refine OA.call (dst := (some 137)) (all := [(Pt r 0 0)]) rfl rfl rfl rfl rfl rfl rfl rfl (CQ.imp (cParR (hd.of (by omega) (kb2 (by omega))) r d.ps hls.1 hp16 hc11 (get_there (by omega) get_here)) ?_)
   rintro _ n4 _ ⟨kpn4, p1n4, p2n4, rfl, rfl⟩ hn4
   refine OA.app2 ?_
   refine OA.ps [(138, (Pt c 0 0)), (139, (Pt c 0 11))] rfl <| o1 none yU n4 (c, some ⟨[[(.int .i64 d.typ), (.int .i64 d.flags), (W d.tsn), (.int .i64 0), (.int .i64 0), (.int .u32 0), (.string ByteArray.empty), (.int .u32 0), (.int .u32 0), (.int .i64 0), (.int .i64 0), (.slice (some ⟨kpn4, 0, none⟩) d.ps.length 0), (.slice none 0 0), (.slice none 0 0), (.slice none 0 0)]], 15, 53, true⟩) (rS (gt2 (by omega) get_here)) <| OA.nil ?_
   refine ⟨.inl rfl, [], resL_nil, [(c, some ⟨[[(.int .i64 d.typ), (.int .i64 d.flags), (W d.tsn), (.int .i64 0), (.int .i64 0), (.int .u32 0), (.string ByteArray.empty), (.int .u32 0), (.int .u32 0), (.int .i64 0), (.int .i64 0), (.slice (some ⟨kpn4, 0, none⟩) d.ps.length 0), (.slice none 0 0), (.slice none 0 0), (.slice none 0 0)]], 15, 53, true⟩), (r, some ⟨[[(.string (bstr ([] : List UInt8))), (.int .i64 0)]], 2, 121, true⟩), (kpn4, some (oPrm d.ps))], (LsO (fA get_here get_here (fA (get_there (by omega) get_here) (gt2 (by omega) get_here) (fA (gt2 (by omega) get_here) (get_there (by omega) get_here) fan)))), ⟨rfl, (Chk.mk d.typ d.flags d.tsn 0 0 (0#32) ByteArray.empty (0#32) (0#32) 0 0 (.slice (some ⟨kpn4, 0, none⟩) d.ps.length 0) (.slice none 0 0) (.slice none 0 0) (.slice none 0 0) d.ps [] [] []), get_here, (get_there (by omega) get_here), ⟨(RowQ.new (gt2 (by omega) get_here) rfl), .nil, .nil, .nil, h.p18, Nat.zero_le _, Nat.zero_le _, Nat.zero_le _, h.fl, fun g hg => by cases hg⟩, (by have hq := plain_eq hm.2.2.2; rw [pl_16 hk] at hq; exact hq), by intro q_ hq_; simp only [keys, List.cons_append, List.nil_append, List.map_cons, List.map_nil, List.mem_cons, List.not_mem_nil, or_false, false_or] at hq_ <;> omega⟩⟩
 ·
  refine oP 127 yF rfl (Eq.trans (r_bin rfl rfl rfl (b_eql rfl)) (Go.Proofs.YtgajcmanompmcaaV.dF hc10)) <| OA.ps [(126, yF)] rfl <| OA.nil fun _ => RA.condF rfl <| RA.sR hd env_ok ?_
  by_cases hc12 : d.typ = 128
  ·
   refine oP 128 yT rfl (Eq.trans (r_bin rfl rfl rfl (b_eql rfl)) (Go.Proofs.YtgajcmanompmcaaV.dT hc12)) <| OA.ps [(126, yT)] rfl <| OA.nil fun _ => RA.rb [(0, (Pt r 0 0)), (1, (Pt c 0 0)), (10, (.int .i64 d.typ)), (16, yF), (43, yF), (76, yF), (81, yF), (101, yF), (119, yF), (126, yT)] rfl (fun τr5 => ?_)
   refine RA.condT rfl <| RA.skip env_ok ?_
   intro _
   refine RA.condT rfl <| RA.sR hd env_ok <| OA.ps [(130, (Pt c 0 0)), (131, (Pt r 0 0))] rfl ?_
   refine OA.call (dst := (some 132)) (all := [(Pt r 0 0)]) rfl rfl rfl rfl rfl rfl rfl rfl (CQ.imp (cU32 (hd.up (by omega)) r d.tsn (psL d.ps) (by simp only [List.length_append, be1_len, be2_len, be4_len, L_len, List.length_nil, List.length_replicate]; omega) hr) ?_)
   rintro _ n6 _ ⟨rfl, rfl⟩ hn6
   refine OA.app1 ?_
   refine OA.ps [(133, (Pt c 0 0)), (134, (Pt c 0 2))] rfl <| o1 none yU n6 (c, some ⟨[(xCx33 d)], 15, 53, true⟩) (rS (get_there (by omega) hc)) <| OA.nil fun _ => RA.region env_ok <| OA.ps [(135, (Pt c 0 0)), (136, (Pt r 0 0))] rfl ?_
   by_cases hc13 : d.ps = []
   ·
    refine OA.call (dst := (some 137)) (all := [(Pt r 0 0)]) rfl rfl rfl rfl rfl rfl rfl rfl (CQ.imp (cParN (hd.of (by omega) (kb2 (by omega))) r d.ps hls.1 hp16 hc13 (get_there (by omega) get_here)) ?_)
    rintro _ n7 _ ⟨rfl, rfl⟩ hn7
    refine OA.app1 ?_
    refine OA.ps [(138, (Pt c 0 0)), (139, (Pt c 0 11))] rfl <| o1 none yU n7 (c, some ⟨[(xCx33 d)], 15, 53, true⟩) (rS (get_there (by omega) get_here)) <| OA.nil ?_
    refine ⟨.inl rfl, [], resL_nil, [(c, some ⟨[(xCx33 d)], 15, 53, true⟩), (r, some ⟨[[(.string (bstr ([] : List UInt8))), (.int .i64 0)]], 2, 121, true⟩)], (LsO (fA get_here get_here (fA (get_there (by omega) get_here) (get_there (by omega) get_here) fan))), ⟨rfl, (xCx35 d), get_here, (get_there (by omega) get_here), ⟨(by rw [hc13]; exact .nil), .nil, .nil, .nil, h.p18, Nat.zero_le _, Nat.zero_le _, Nat.zero_le _, h.fl, fun g hg => by cases hg⟩, (by have hq := plain_eq hm.2.2.2; rw [pl_16 hk] at hq; exact hq), by intro q_ hq_; simp only [keys, List.cons_append, List.nil_append, List.map_cons, List.map_nil, List.mem_cons, List.not_mem_nil, or_false, false_or] at hq_ <;> omega⟩⟩
   ·
    refine OA.call (dst := (some 137)) (all := [(Pt r 0 0)]) rfl rfl rfl rfl rfl rfl rfl rfl (CQ.imp (cParR (hd.of (by omega) (kb2 (by omega))) r d.ps hls.1 hp16 hc13 (get_there (by omega) get_here)) ?_)
    rintro _ n8 _ ⟨kpn8, p1n8, p2n8, rfl, rfl⟩ hn8
    refine OA.app2 ?_
    refine OA.ps [(138, (Pt c 0 0)), (139, (Pt c 0 11))] rfl <| o1 none yU n8 (c, some ⟨[[(.int .i64 d.typ), (.int .i64 d.flags), (W d.tsn), (.int .i64 0), (.int .i64 0), (.int .u32 0), (.string ByteArray.empty), (.int .u32 0), (.int .u32 0), (.int .i64 0), (.int .i64 0), (.slice (some ⟨kpn8, 0, none⟩) d.ps.length 0), (.slice none 0 0), (.slice none 0 0), (.slice none 0 0)]], 15, 53, true⟩) (rS (gt2 (by omega) get_here)) <| OA.nil ?_
    refine ⟨.inl rfl, [], resL_nil, [(c, some ⟨[[(.int .i64 d.typ), (.int .i64 d.flags), (W d.tsn), (.int .i64 0), (.int .i64 0), (.int .u32 0), (.string ByteArray.empty), (.int .u32 0), (.int .u32 0), (.int .i64 0), (.int .i64 0), (.slice (some ⟨kpn8, 0, none⟩) d.ps.length 0), (.slice none 0 0), (.slice none 0 0), (.slice none 0 0)]], 15, 53, true⟩), (r, some ⟨[[(.string (bstr ([] : List UInt8))), (.int .i64 0)]], 2, 121, true⟩), (kpn8, some (oPrm d.ps))], (LsO (fA get_here get_here (fA (get_there (by omega) get_here) (gt2 (by omega) get_here) (fA (gt2 (by omega) get_here) (get_there (by omega) get_here) fan)))), ⟨rfl, (Chk.mk d.typ d.flags d.tsn 0 0 (0#32) ByteArray.empty (0#32) (0#32) 0 0 (.slice (some ⟨kpn8, 0, none⟩) d.ps.length 0) (.slice none 0 0) (.slice none 0 0) (.slice none 0 0) d.ps [] [] []), get_here, (get_there (by omega) get_here), ⟨(RowQ.new (gt2 (by omega) get_here) rfl), .nil, .nil, .nil, h.p18, Nat.zero_le _, Nat.zero_le _, Nat.zero_le _, h.fl, fun g hg => by cases hg⟩, (by have hq := plain_eq hm.2.2.2; rw [pl_16 hk] at hq; exact hq), by intro q_ hq_; simp only [keys, List.cons_append, List.nil_append, List.map_cons, List.map_nil, List.mem_cons, List.not_mem_nil, or_false, false_or] at hq_ <;> omega⟩⟩
  ·
   refine oP 128 yF rfl (Eq.trans (r_bin rfl rfl rfl (b_eql rfl)) (Go.Proofs.YtgajcmanompmcaaV.dF hc12)) <| OA.ps [(126, yF)] rfl <| OA.nil fun _ => RA.rb [(0, (Pt r 0 0)), (1, (Pt c 0 0)), (10, (.int .i64 d.typ)), (16, yF), (43, yF), (76, yF), (81, yF), (101, yF), (119, yF), (126, yF)] rfl (fun τr9 => ?_)
   refine RA.condF rfl <| RA.region env_ok ?_
   have hc14 : d.typ = 130 := Classical.byContradiction (fun hdd => by exfalso; omega)
   refine oP 129 yT rfl (Eq.trans (r_bin rfl rfl rfl (b_eql rfl)) (Go.Proofs.YtgajcmanompmcaaV.dT hc14)) <| OA.ps [(126, yT)] rfl <| OA.nil fun _ => RA.condT rfl <| RA.sR hd env_ok <| OA.ps [(130, (Pt c 0 0)), (131, (Pt r 0 0))] rfl ?_
   refine OA.call (dst := (some 132)) (all := [(Pt r 0 0)]) rfl rfl rfl rfl rfl rfl rfl rfl (CQ.imp (cU32 (hd.up (by omega)) r d.tsn (psL d.ps) (by simp only [List.length_append, be1_len, be2_len, be4_len, L_len, List.length_nil, List.length_replicate]; omega) hr) ?_)
   rintro _ n10 _ ⟨rfl, rfl⟩ hn10
   refine OA.app1 ?_
   refine OA.ps [(133, (Pt c 0 0)), (134, (Pt c 0 2))] rfl <| o1 none yU n10 (c, some ⟨[(xCx33 d)], 15, 53, true⟩) (rS (get_there (by omega) hc)) <| OA.nil fun _ => RA.region env_ok <| OA.ps [(135, (Pt c 0 0)), (136, (Pt r 0 0))] rfl ?_
   by_cases hc15 : d.ps = []
   ·
    refine OA.call (dst := (some 137)) (all := [(Pt r 0 0)]) rfl rfl rfl rfl rfl rfl rfl rfl (CQ.imp (cParN (hd.of (by omega) (kb2 (by omega))) r d.ps hls.1 hp16 hc15 (get_there (by omega) get_here)) ?_)
    rintro _ n11 _ ⟨rfl, rfl⟩ hn11
    refine OA.app1 ?_
    refine OA.ps [(138, (Pt c 0 0)), (139, (Pt c 0 11))] rfl <| o1 none yU n11 (c, some ⟨[(xCx33 d)], 15, 53, true⟩) (rS (get_there (by omega) get_here)) <| OA.nil ?_
    refine ⟨.inl rfl, [], resL_nil, [(c, some ⟨[(xCx33 d)], 15, 53, true⟩), (r, some ⟨[[(.string (bstr ([] : List UInt8))), (.int .i64 0)]], 2, 121, true⟩)], (LsO (fA get_here get_here (fA (get_there (by omega) get_here) (get_there (by omega) get_here) fan))), ⟨rfl, (xCx35 d), get_here, (get_there (by omega) get_here), ⟨(by rw [hc15]; exact .nil), .nil, .nil, .nil, h.p18, Nat.zero_le _, Nat.zero_le _, Nat.zero_le _, h.fl, fun g hg => by cases hg⟩, (by have hq := plain_eq hm.2.2.2; rw [pl_16 hk] at hq; exact hq), by intro q_ hq_; simp only [keys, List.cons_append, List.nil_append, List.map_cons, List.map_nil, List.mem_cons, List.not_mem_nil, or_false, false_or] at hq_ <;> omega⟩⟩
   ·
    refine OA.call (dst := (some 137)) (all := [(Pt r 0 0)]) rfl rfl rfl rfl rfl rfl rfl rfl (CQ.imp (cParR (hd.of (by omega) (kb2 (by omega))) r d.ps hls.1 hp16 hc15 (get_there (by omega) get_here)) ?_)
    rintro _ n12 _ ⟨kpn12, p1n12, p2n12, rfl, rfl⟩ hn12
    refine OA.app2 ?_
    refine OA.ps [(138, (Pt c 0 0)), (139, (Pt c 0 11))] rfl <| o1 none yU n12 (c, some ⟨[[(.int .i64 d.typ), (.int .i64 d.flags), (W d.tsn), (.int .i64 0), (.int .i64 0), (.int .u32 0), (.string ByteArray.empty), (.int .u32 0), (.int .u32 0), (.int .i64 0), (.int .i64 0), (.slice (some ⟨kpn12, 0, none⟩) d.ps.length 0), (.slice none 0 0), (.slice none 0 0), (.slice none 0 0)]], 15, 53, true⟩) (rS (gt2 (by omega) get_here)) <| OA.nil ?_
    refine ⟨.inl rfl, [], resL_nil, [(c, some ⟨[[(.int .i64 d.typ), (.int .i64 d.flags), (W d.tsn), (.int .i64 0), (.int .i64 0), (.int .u32 0), (.string ByteArray.empty), (.int .u32 0), (.int .u32 0), (.int .i64 0), (.int .i64 0), (.slice (some ⟨kpn12, 0, none⟩) d.ps.length 0), (.slice none 0 0), (.slice none 0 0), (.slice none 0 0)]], 15, 53, true⟩), (r, some ⟨[[(.string (bstr ([] : List UInt8))), (.int .i64 0)]], 2, 121, true⟩), (kpn12, some (oPrm d.ps))], (LsO (fA get_here get_here (fA (get_there (by omega) get_here) (gt2 (by omega) get_here) (fA (gt2 (by omega) get_here) (get_there (by omega) get_here) fan)))), ⟨rfl, (Chk.mk d.typ d.flags d.tsn 0 0 (0#32) ByteArray.empty (0#32) (0#32) 0 0 (.slice (some ⟨kpn12, 0, none⟩) d.ps.length 0) (.slice none 0 0) (.slice none 0 0) (.slice none 0 0) d.ps [] [] []), get_here, (get_there (by omega) get_here), ⟨(RowQ.new (gt2 (by omega) get_here) rfl), .nil, .nil, .nil, h.p18, Nat.zero_le _, Nat.zero_le _, Nat.zero_le _, h.fl, fun g hg => by cases hg⟩, (by have hq := plain_eq hm.2.2.2; rw [pl_16 hk] at hq; exact hq), by intro q_ hq_; simp only [keys, List.cons_append, List.nil_append, List.map_cons, List.map_nil, List.mem_cons, List.not_mem_nil, or_false, false_or] at hq_ <;> omega⟩⟩
set_option maxHeartbeats 16000000 in
theorem cSays20 {n : Nat} {σ : Store} (hd : Dom n σ) (r c : Nat) (hrc : r ≠ c) (d : Chk) (hm : mayP d) (h : gd σ d) (hk : kd d.typ = 20) (hr : σ r = some ⟨[[(.string (bstr (L d.data))), (.int .i64 0)]], 2, 121, true⟩) (hc : σ c = some ⟨[[(.int .i64 d.typ), (.int .i64 d.flags), (.int .u32 0), (.int .i64 0), (.int .i64 0), (.int .u32 0), (.string ByteArray.empty), (.int .u32 0), (.int .u32 0), (.int .i64 0), (.int .i64 0), (.slice none 0 0), (.slice none 0 0), (.slice none 0 0), (.slice none 0 0)]], 15, 53, true⟩)  : CQ Try.prog noDen 91 [(Pt r 0 0), (Pt c 0 0)] n σ (fun v n' D_ => v = .tuple #[] ∧ ∃ y : Chk, app D_ σ c = some ⟨[cChk y], 15, 53, true⟩ ∧ app D_ σ r = some ⟨[[(.string (bstr ([] : List UInt8))), (.int .i64 0)]], 2, 121, true⟩ ∧ gd (app D_ σ) y ∧ yEq d y ∧ ∀ q_ ∈ keys D_, q_ = c ∨ q_ = r ∨ (n ≤ q_ ∧ q_ < n')) := by
 have lhr := hd.lt hr
 have lhc := hd.lt hc
 have hkk := kd_cases d.typ
 have hok := hm.2.1
 have hls := hok.lists
 have hw1 := hok.w1
 have hw2 := hok.w2
 have hw3 := hok.w3
 have hw4 := hok.w4
 unfold wordP at hw1 hw2 hw3 hw4
 have hda := hok.data
 have hgp := hok.gaps
 have hdp := hok.dups
 have hp16 := hls.2.2.1
 have hc16 := hls.2.2.2
 have hp1 : prmOk 1 d.data := ⟨by omega, by omega, by omega⟩
 have hpl := psL_len hls.1 (i := d.ps.length) hp16
 have hcl := csL_len hls.2.1 (i := d.cs.length) hc16
 rw [List.take_length] at hpl hcl
 have hgl := gsL_len d.gs
 have hdl := dsL_len d.ds
 have hLd := L_len d.data
 have hg16 := hgp.2
 have hgal : (gapsL d).length ≤ 200 := by unfold gapsL; simp only [List.length_append, be2_len]; omega
 refine CQ.body (E := env) env_ok hd rfl rfl (by show _ ≤ _; exact of_decide_eq_true (by kernel_rfl)) ?_
 refine RA.sR hd env_ok <| OA.ps [(7, (Pt c 0 0)), (8, (Pt c 0 0)), (9, (Pt c 0 0))] rfl <| oL 10 (.int .i64 d.typ) hc <| OA.nil fun _ => RA.block <| RA.sR hd env_ok ?_
 have hc1 : ¬ (d.typ = 0) := fun hdd => by exfalso; omega
 refine oP 17 yF rfl (Eq.trans (r_bin rfl rfl rfl (b_eql rfl)) (Go.Proofs.YtgajcmanompmcaaV.dF hc1)) <| OA.ps [(16, yF)] rfl <| OA.nil fun _ => RA.condF rfl <| RA.seq hd <| RA.sR hd env_ok ?_
 have hc2 : ¬ (d.typ = 1) := fun hdd => by exfalso; omega
 refine oP 44 yF rfl (Eq.trans (r_bin rfl rfl rfl (b_eql rfl)) (Go.Proofs.YtgajcmanompmcaaV.dF hc2)) <| OA.ps [(43, yF)] rfl <| OA.nil fun _ => RA.condF rfl <| RA.region env_ok ?_
 have hc3 : ¬ (d.typ = 2) := fun hdd => by exfalso; omega
 refine oP 45 yF rfl (Eq.trans (r_bin rfl rfl rfl (b_eql rfl)) (Go.Proofs.YtgajcmanompmcaaV.dF hc3)) <| OA.ps [(43, yF)] rfl <| OA.nil fun _ => RA.condF rfl <| RA.sR hd env_ok ?_
 have hc4 : ¬ (d.typ = 3) := fun hdd => by exfalso; omega
 refine oP 77 yF rfl (Eq.trans (r_bin rfl rfl rfl (b_eql rfl)) (Go.Proofs.YtgajcmanompmcaaV.dF hc4)) <| OA.ps [(76, yF)] rfl <| OA.nil fun _ => RA.condF rfl <| RA.seq hd <| RA.sR hd env_ok ?_
 have hc5 : ¬ (d.typ = 4) := fun hdd => by exfalso; omega
 refine oP 82 yF rfl (Eq.trans (r_bin rfl rfl rfl (b_eql rfl)) (Go.Proofs.YtgajcmanompmcaaV.dF hc5)) <| OA.ps [(81, yF)] rfl <| OA.nil fun _ => RA.condF rfl <| RA.region env_ok ?_
 have hc6 : ¬ (d.typ = 5) := fun hdd => by exfalso; omega
 refine oP 83 yF rfl (Eq.trans (r_bin rfl rfl rfl (b_eql rfl)) (Go.Proofs.YtgajcmanompmcaaV.dF hc6)) <| OA.ps [(81, yF)] rfl <| OA.nil fun _ => RA.condF rfl <| RA.seq hd <| RA.sR hd env_ok ?_
 have hc7 : ¬ (d.typ = 6) := fun hdd => by exfalso; omega
 refine oP 102 yF rfl (Eq.trans (r_bin rfl rfl rfl (b_eql rfl)) (Go.Proofs.YtgajcmanompmcaaV.dF hc7)) <| OA.ps [(101, yF)] rfl <| OA.nil fun _ => RA.condF rfl <| RA.region env_ok ?_
 have hc8 : ¬ (d.typ = 9) := fun hdd => by exfalso; omega
 refine oP 103 yF rfl (Eq.trans (r_bin rfl rfl rfl (b_eql rfl)) (Go.Proofs.YtgajcmanompmcaaV.dF hc8)) <| OA.ps [(101, yF)] rfl <| OA.nil fun _ => RA.condF rfl <| RA.sR hd env_ok ?_
 have hc9 : ¬ (d.typ = 7) := fun hdd => by exfalso; omega
 refine oP 120 yF rfl (Eq.trans (r_bin rfl rfl rfl (b_eql rfl)) (Go.Proofs.YtgajcmanompmcaaV.dF hc9)) <| OA.ps [(119, yF)] rfl <| OA.nil fun _ => RA.condF rfl <| RA.seq hd <| RA.sR hd env_ok ?_
 have hc10 : ¬ (d.typ = 193) := fun hdd => by exfalso; omega
 refine oP 127 yF rfl (Eq.trans (r_bin rfl rfl rfl (b_eql rfl)) (Go.Proofs.YtgajcmanompmcaaV.dF hc10)) <| OA.ps [(126, yF)] rfl <| OA.nil fun _ => RA.condF rfl <| RA.sR hd env_ok ?_
 have hc11 : ¬ (d.typ = 128) := fun hdd => by exfalso; omega
 refine oP 128 yF rfl (Eq.trans (r_bin rfl rfl rfl (b_eql rfl)) (Go.Proofs.YtgajcmanompmcaaV.dF hc11)) <| OA.ps [(126, yF)] rfl <| OA.nil fun _ => RA.rb [(0, (Pt r 0 0)), (1, (Pt c 0 0)), (10, (.int .i64 d.typ)), (16, yF), (43, yF), (76, yF), (81, yF), (101, yF), (119, yF), (126, yF)] rfl (fun τr1 => ?_)
 refine RA.condF rfl <| RA.region env_ok ?_
 have hc12 : ¬ (d.typ = 130) := fun hdd => by exfalso; omega
 refine oP 129 yF rfl (Eq.trans (r_bin rfl rfl rfl (b_eql rfl)) (Go.Proofs.YtgajcmanompmcaaV.dF hc12)) <| OA.ps [(126, yF)] rfl <| OA.nil fun _ => RA.condF rfl <| RA.seq hd <| RA.sR hd env_ok ?_
 have hc13 : ¬ (d.typ = 8) := fun hdd => by exfalso; omega
 refine oP 141 yF rfl (Eq.trans (r_bin rfl rfl rfl (b_eql rfl)) (Go.Proofs.YtgajcmanompmcaaV.dF hc13)) <| OA.ps [(140, yF)] rfl <| OA.nil fun _ => RA.condF rfl <| RA.sR hd env_ok ?_
 have hc14 : ¬ (d.typ = 11) := fun hdd => by exfalso; omega
 refine oP 142 yF rfl (Eq.trans (r_bin rfl rfl rfl (b_eql rfl)) (Go.Proofs.YtgajcmanompmcaaV.dF hc14)) <| OA.ps [(140, yF)] rfl <| OA.nil fun _ => RA.condF rfl <| RA.region env_ok ?_
 have hc15 : ¬ (d.typ = 14) := fun hdd => by exfalso; omega
 refine oP 143 yF rfl (Eq.trans (r_bin rfl rfl rfl (b_eql rfl)) (Go.Proofs.YtgajcmanompmcaaV.dF hc15)) <| OA.ps [(140, yF)] rfl <| OA.nil fun _ => RA.condF rfl <| RA.sR hd env_ok ?_
 have hc16 : ¬ (d.typ = 15) := fun hdd => by exfalso; omega
 refine oP 145 yF rfl (Eq.trans (r_bin rfl rfl rfl (b_eql rfl)) (Go.Proofs.YtgajcmanompmcaaV.dF hc16)) <| OA.ps [(144, yF)] rfl <| OA.nil fun _ => RA.condF rfl <| RA.region env_ok <| OA.ps [(11, (Pt c 0 0)), (12, (Pt r 0 0))] rfl ?_
 refine OA.call (dst := (some 13)) (all := [(Pt r 0 0)]) rfl rfl rfl rfl rfl rfl rfl rfl (CQ.imp (cRestD (hd.up (by omega)) r d.data (by omega) hr) ?_)
 rintro _ n2 _ ⟨rfl, rfl⟩ hn2
 refine OA.app1 ?_
 refine OA.ps [(14, (Pt c 0 0)), (15, (Pt c 0 6))] rfl <| o1 none yU n2 (c, some ⟨[(xCx34 d)], 15, 53, true⟩) (rS (get_there (by omega) hc)) <| OA.nil ?_
 refine ⟨.inl rfl, [], resL_nil, [(c, some ⟨[(xCx34 d)], 15, 53, true⟩), (r, some ⟨[[(.string (bstr ([] : List UInt8))), (.int .i64 0)]], 2, 121, true⟩)], (Less.refl _ _ _), ⟨rfl, (xCx37 d), get_here, (get_there (by omega) get_here), ⟨.nil, .nil, .nil, .nil, Nat.zero_le _, Nat.zero_le _, Nat.zero_le _, Nat.zero_le _, h.fl, fun g hg => by cases hg⟩, (by have hq := plain_eq hm.2.2.2; rw [pl_20 hk] at hq; exact hq), by intro q_ hq_; simp only [keys, List.cons_append, List.nil_append, List.map_cons, List.map_nil, List.mem_cons, List.not_mem_nil, or_false, false_or] at hq_ <;> omega⟩⟩
theorem cSays {n : Nat} {σ : Store} (hd : Dom n σ) (r c : Nat) (hrc : r ≠ c) (d : Chk) (hm : mayP d) (h : gd σ d) (hr : σ r = some ⟨[[(.string (bstr (bodyL d))), (.int .i64 0)]], 2, 121, true⟩) (hc : σ c = some ⟨[[(.int .i64 d.typ), (.int .i64 d.flags), (.int .u32 0), (.int .i64 0), (.int .i64 0), (.int .u32 0), (.string ByteArray.empty), (.int .u32 0), (.int .u32 0), (.int .i64 0), (.int .i64 0), (.slice none 0 0), (.slice none 0 0), (.slice none 0 0), (.slice none 0 0)]], 15, 53, true⟩) : CQ Try.prog noDen 91 [(Pt r 0 0), (Pt c 0 0)] n σ (fun v n' D_ => v = .tuple #[] ∧ ∃ y : Chk, app D_ σ c = some ⟨[cChk y], 15, 53, true⟩ ∧ app D_ σ r = some ⟨[[(.string (bstr ([] : List UInt8))), (.int .i64 0)]], 2, 121, true⟩ ∧ gd (app D_ σ) y ∧ yEq d y ∧ ∀ q_ ∈ keys D_, q_ = c ∨ q_ = r ∨ (n ≤ q_ ∧ q_ < n')) := by
  rcases kd_cases d.typ with ⟨hk, _⟩ | ⟨hk, _⟩ | ⟨hk, _⟩ | ⟨hk, _⟩ | ⟨hk, _⟩ | ⟨hk, _⟩ | ⟨hk, _⟩ | ⟨hk, _⟩ | ⟨hk, _⟩ | ⟨hk, _⟩ | ⟨hk, _⟩
  · rw [body_0 hk] at hr
    try simp only [List.append_assoc] at hr
    exact cSays0 hd r c hrc d hm h hk hr hc
  · rw [body_1 hk] at hr
    try simp only [List.append_assoc] at hr
    exact cSays1 hd r c hrc d hm h hk hr hc
  · rw [body_3 hk] at hr
    try simp only [List.append_assoc] at hr
    exact cSays3 hd r c hrc d hm h hk hr hc
  · rw [body_4 hk] at hr
    try simp only [List.append_assoc] at hr
    exact cSays4 hd r c hrc d hm h hk hr hc
  · rw [body_6 hk] at hr
    try simp only [List.append_assoc] at hr
    exact cSays6 hd r c hrc d hm h hk hr hc
  · rw [body_7 hk] at hr
    try simp only [List.append_assoc] at hr
    exact cSays7 hd r c hrc d hm h hk hr hc
  · rw [body_8 hk] at hr
    try simp only [List.append_assoc] at hr
    exact cSays8 hd r c hrc d hm h hk hr hc
  · rw [body_20 (by omega)] at hr
    try simp only [List.append_assoc] at hr
    exact cSays10 hd r c hrc d hm h hk hr hc
  · rw [body_15 hk] at hr
    try simp only [List.append_assoc] at hr
    exact cSays15 hd r c hrc d hm h hk hr hc
  · rw [body_16 hk] at hr
    try simp only [List.append_assoc] at hr
    exact cSays16 hd r c hrc d hm h hk hr hc
  · rw [body_20 (by omega)] at hr
    try simp only [List.append_assoc] at hr
    exact cSays20 hd r c hrc d hm h hk hr hc
end Go.Proofs.Ytgajcmanompmcaa.Vt
/- Cx4: walks through functions of the program, by the calculus; written by a program of this workplace. -/
namespace Go.Proofs.Ytgajcmanompmcaa.Vt
open Go Go.Proofs Go.Proofs.YtgajcmanompmcaaV
set_option maxRecDepth 100000
set_option linter.unusedVariables false
set_option linter.unusedSimpArgs false
set_option maxHeartbeats 8000000
def Keep (T : Nat) (σ σ' : Store) : Prop := ∀ i o, σ i = some o → o.t ≠ T → σ' i = some o
theorem rowq_keep {T : Nat} {σ σ' : Store} (hk : Keep T σ σ') {e sz : Nat} (he : e ≠ T) {v : Value} {es : List (List Value)} : RowQ σ e sz v es → RowQ σ' e sz v es
  | .nil => .nil
  | .zero => .zero
  | .obj h => .obj (hk _ _ h he)
theorem gdk {T : Nat} (hT : 35 ≠ T ∧ 99 ≠ T ∧ 101 ≠ T ∧ 36 ≠ T) {σ σ' : Store} {d : Chk} (h : gd σ d) (hk : Keep T σ σ') : gd σ' d := ⟨rowq_keep hk hT.1 h.hp, rowq_keep hk hT.2.1 h.hc, rowq_keep hk hT.2.2.1 h.hg, rowq_keep hk hT.2.2.2 h.hu, h.p18, h.c18, h.g18, h.u18, h.fl, h.gr⟩
theorem keep_app {T n : Nat} {σ : Store} {D : Delta} (hd : Dom n σ) (hk : ∀ k ∈ keys D, n ≤ k ∨ ∃ o, σ k = some o ∧ o.t = T) : Keep T σ (app D σ) := by
  intro i o hi ho
  rw [app_off]
  · exact hi
  · intro hm
    rcases hk i hm with h | ⟨q, h1, h2⟩
    · have := hd.lt hi; omega
    · rw [hi] at h1; cases h1; exact ho h2
theorem chL_ex (d : Chk) : chL d = be1 d.typ.toNat ++ (be1 d.flags.toNat ++ (be2 ((bodyL d).length + 4) ++ (bodyL d ++ (List.replicate (padN (bodyL d).length) 0 ++ [])))) := by
  unfold chL
  rw [fillL_eq]
  simp only [List.length_append, be1_len, be2_len, List.append_assoc, List.append_nil]
  rw [show 1 + (1 + (2 + (bodyL d).length)) = 4 + (bodyL d).length by omega, padN4]
theorem chL_ne (d : Chk) : ¬ bstr (chL d) = ByteArray.mk #[] := fun h => by
  have h1 := congrArg ByteArray.size h
  rw [bstr_size, chL_ex] at h1
  simp only [List.length_append, be1_len] at h1
  have h2 : (ByteArray.mk #[]).size = 0 := rfl
  omega
abbrev setV (d : Chk) (v1 v2 v3 v4 : Value) : Chk := Chk.mk d.typ d.flags d.tsn d.stream d.ssn d.proto d.data d.tag d.rwnd d.outs d.ins v1 v2 v3 v4 d.ps d.cs d.gs d.ds
theorem yEq_set {d y : Chk} (h : yEq d y) : y = setV d y.pv y.cv y.gv y.dv := by
  obtain ⟨h1, h2, h3, h4, h5, h6, h7, h8, h9, h10, h11, h12, h13, h14, h15⟩ := h
  cases d
  cases y
  dsimp only at h1 h2 h3 h4 h5 h6 h7 h8 h9 h10 h11 h12 h13 h14 h15
  subst h1 h2 h3 h4 h5 h6 h7 h8 h9 h10 h11 h12 h13 h14 h15
  rfl
abbrev xCx41 (d : Chk) : List Value := [(.int .i64 d.typ), (.int .i64 d.flags), (.int .u32 0), (.int .i64 0), (.int .i64 0), (.int .u32 0), (.string ByteArray.empty), (.int .u32 0), (.int .u32 0), (.int .i64 0), (.int .i64 0), (.slice none 0 0), (.slice none 0 0), (.slice none 0 0), (.slice none 0 0)]
abbrev xCx42 : List Value := [(.int .i64 0), (.int .i64 0), (.int .u32 0), (.int .i64 0), (.int .i64 0), (.int .u32 0), (.string ByteArray.empty), (.int .u32 0), (.int .u32 0), (.int .i64 0), (.int .i64 0), (.slice none 0 0), (.slice none 0 0), (.slice none 0 0), (.slice none 0 0)]
abbrev xCx43 (y : Chk) : List Value := [(.int .i64 y.typ), (.int .i64 y.flags), (W y.tsn), (.int .i64 y.stream), (.int .i64 y.ssn), (W y.proto), (.string y.data), (W y.tag), (W y.rwnd), (.int .i64 y.outs), (.int .i64 y.ins), y.pv, y.cv, y.gv, y.dv]
set_option maxHeartbeats 16000000 in
theorem cTkT0 {n : Nat} {σ : Store} (hd : Dom n σ) (r : Nat) (d : Chk) (hm : mayP d) (h : gd σ d) (hr : σ r = some ⟨[[(.string (bstr (be1 d.typ.toNat ++ (be1 d.flags.toNat ++ (be2 ((bodyL d).length + 4) ++ (bodyL d ++ (List.replicate (padN (bodyL d).length) 0 ++ ([] : List UInt8)))))))), (.int .i64 0)]], 2, 121, true⟩) : CQ Try.prog noDen 50 [(Pt r 0 0)] n σ (fun v n' D_ => ∃ y : Chk, v = .agg ⟨cChk y⟩ ∧ app D_ σ r = some ⟨[[(.string (bstr ([] : List UInt8))), (.int .i64 0)]], 2, 121, true⟩ ∧ gd (app D_ σ) y ∧ yEq d y ∧ ∀ q_ ∈ keys D_, q_ = r ∨ (n ≤ q_ ∧ q_ < n')) := by
 have lhr := hd.lt hr
 have hm1 := hm.1
 have hfle := fl_le d.typ
 have hbl := bodyL_len hm.2.1
 have hpl0 := padN_le (bodyL d).length
 have hrl : (List.replicate (padN (bodyL d).length) (0 : UInt8) ++ []).length = padN (bodyL d).length := by rw [List.append_nil, List.length_replicate]
 refine CQ.body (E := env) env_ok hd rfl rfl (by show _ ≤ _; exact of_decide_eq_true (by kernel_rfl)) ?_
 refine RA.sR hd env_ok <| o1 (some 2) (Pt n 0 0) (n + 1) (n, some ⟨[xCx42], 15, 53, true⟩) rfl <| OA.nil fun _ => RA.sR hd env_ok <| OA.ps [(7, (Pt r 0 0))] rfl ?_
 refine OA.call (dst := (some 8)) (all := [(Pt r 0 0)]) rfl rfl rfl rfl rfl rfl rfl rfl (CQ.imp (cU8z (hd.of (by omega) (kb1 (by omega))) r d.typ (by omega) (by omega) (be1 d.flags.toNat ++ (be2 ((bodyL d).length + 4) ++ (bodyL d ++ (List.replicate (padN (bodyL d).length) 0 ++ ([] : List UInt8))))) (by simp only [List.length_append, be1_len, be2_len, be4_len, L_len, List.length_nil, List.length_replicate]; omega) (get_there (by omega) hr)) ?_)
 rintro _ n1 _ ⟨rfl, rfl⟩ hn1
 refine OA.app1 ?_
 refine OA.ps [(9, (Pt r 0 0))] rfl ?_
 refine OA.call (dst := (some 10)) (all := [(Pt r 0 0)]) rfl rfl rfl rfl rfl rfl rfl rfl (CQ.imp (cU8z (hd.of (by omega) (kb2 (by omega))) r d.flags (by omega) (by omega) (be2 ((bodyL d).length + 4) ++ (bodyL d ++ (List.replicate (padN (bodyL d).length) 0 ++ ([] : List UInt8)))) (by simp only [List.length_append, be1_len, be2_len, be4_len, L_len, List.length_nil, List.length_replicate]; omega) get_here) ?_)
 rintro _ n2 _ ⟨rfl, rfl⟩ hn2
 refine OA.app1 ?_
 refine oP 11 (.agg ⟨(xCx41 d)⟩) rfl (by kernel_rfl) <| o1 (some 3) (Pt n2 0 0) (n2 + 1) (n2, some ⟨[xCx42], 15, 53, true⟩) rfl <| o1 none yU (n2 + 1) (n2, some ⟨[(xCx41 d)], 15, 53, true⟩) (rS get_here) <| OA.nil fun _ => RA.weaken hd (LsO (fA get_here get_here (fA (get_there (by omega) get_here) (gt2 (by omega) get_here) (fA (gt2 (by omega) get_here) (gt4 (by omega) get_here) fan)))) <| RA.sR hd env_ok <| OA.ps [(12, (Pt r 0 0))] rfl ?_
 refine OA.call (dst := (some 13)) (all := [(Pt r 0 0)]) rfl rfl rfl rfl rfl rfl rfl rfl (CQ.imp (cU16 (hd.of (by omega) (kb3 (by omega))) r ((bodyL d).length + 4) (by omega) (bodyL d ++ (List.replicate (padN (bodyL d).length) 0 ++ ([] : List UInt8))) (by simp only [List.length_append, be1_len, be2_len, be4_len, L_len, List.length_nil, List.length_replicate]; omega) (get_there (by omega) get_here)) ?_)
 rintro _ n3 _ ⟨rfl, rfl⟩ hn3
 refine OA.app1 ?_
 refine oP 14 (.int .i64 (((bodyL d).length : Nat) : Int)) rfl (r_bin rfl rfl rfl (b_sub (by rw [i64_of (by omega) (by omega)]; omega))) <| OA.ps [(4, (.int .i64 (((bodyL d).length : Nat) : Int)))] rfl <| OA.nil fun _ => RA.weaken hd (LsO (fA get_here get_here (fA (get_there (by omega) get_here) (get_there (by omega) get_here) (fA (gt2 (by omega) get_here) (gt3 (by omega) get_here) fan)))) <| RA.seq hd <| RA.sR hd env_ok <| OA.ps [(15, (Pt r 0 0))] rfl <| oC 16 (v := (.int .i64 0)) (hd.of (by omega) (kb3 (by omega))) rfl rfl (rErr r _ 0 get_here) fun n4 hn4 => oP 17 yT rfl (r_bin rfl rfl rfl (b_eql (by simp))) <| OA.ps [(18, yT), (19, (.int .i64 (((bodyL d).length : Nat) : Int)))] rfl ?_
 have hc1 : ¬ ((((bodyL d).length : Nat) : Int) < 0) := fun hdd => by exfalso; omega
 refine oP 20 yF rfl (Eq.trans (r_bin rfl rfl rfl (b_lss rfl)) (Go.Proofs.YtgajcmanompmcaaV.dF hc1)) <| OA.ps [(21, yF)] rfl <| OA.nil fun _ => RA.condF rfl <| RA.skip env_ok ?_
 intro _
 refine RA.sR hd env_ok <| OA.ps [(24, (Pt r 0 0)), (25, (.int .i64 (((bodyL d).length : Nat) : Int)))] rfl ?_
 refine OA.call (dst := (some 26)) (all := [(Pt r 0 0), (.int .i64 (((bodyL d).length : Nat) : Int))]) rfl rfl rfl rfl rfl rfl rfl rfl (CQ.imp (cTake (hd.of (by omega) (kb3 (by omega))) r (bodyL d) (List.replicate (padN (bodyL d).length) 0 ++ ([] : List UInt8)) (bodyL d).length rfl (by simp only [List.length_append, be1_len, be2_len, be4_len, L_len, List.length_nil, List.length_replicate]; omega) get_here) ?_)
 rintro _ n5 _ ⟨rfl, rfl⟩ hn5
 refine OA.app1 ?_
 refine OA.call (dst := (some 27)) (all := [(.string (bstr (bodyL d)))]) rfl rfl rfl rfl rfl rfl rfl rfl (CQ.imp (cNewR (hd.of (by omega) (kb4 (by omega))) (bodyL d)) ?_)
 rintro _ n6 _ ⟨qn6, p1n6, p2n6, rfl, rfl⟩ hn6
 refine OA.app1 ?_
 refine OA.ps [(5, (Pt qn6 0 0))] rfl <| OA.nil fun _ => RA.weaken hd (LsO (fA get_here get_here (fA (get_there (by omega) get_here) (get_there (by omega) get_here) (fA (gt2 (by omega) get_here) (gt3 (by omega) get_here) (fA (gt3 (by omega) get_here) (gt4 (by omega) get_here) fan))))) <| RA.seq hd <| RA.sR hd env_ok <| OA.ps [(28, (Pt r 0 0))] rfl <| oC 29 (v := (.int .i64 0)) (hd.of (by omega) (kb4 (by omega))) rfl rfl (rErr r _ 0 (get_there (by omega) get_here)) fun n7 hn7 => oP 30 yF rfl (r_bin rfl rfl rfl (b_neq (by simp))) <| OA.nil fun _ => RA.rb [(0, (Pt r 0 0)), (2, (Pt n 0 0)), (3, (Pt n2 0 0)), (4, (.int .i64 (((bodyL d).length : Nat) : Int))), (5, (Pt qn6 0 0)), (21, yF), (30, yF)] rfl (fun τr8 => ?_)
 refine RA.condF rfl <| RA.skip env_ok ?_
 intro _
 refine RA.seq hd <| RA.sR hd env_ok <| OA.ps [(32, (.int .i64 (((bodyL d).length : Nat) : Int)))] rfl <| oC 33 (hd.of (by omega) (kb4 (by omega))) rfl rfl (lPad (bodyL d).length (by omega)) fun n9 hn9 => OA.ps [(34, (Pt r 0 0))] rfl <| oC 35 (hd.of (by omega) (kb4 (by omega))) rfl rfl (cLeft r (List.replicate (padN (bodyL d).length) 0 ++ ([] : List UInt8)) (get_there (by omega) get_here)) fun n10 hn10 => ?_
 have hc2 : ¬ ((((List.replicate (padN (bodyL d).length) 0 ++ ([] : List UInt8)).length : Nat) : Int) < (((padN (bodyL d).length) : Nat) : Int)) := fun hdd => by exfalso; omega
 refine oP 36 yF rfl (Eq.trans (r_bin rfl rfl rfl (b_gtr rfl)) (Go.Proofs.YtgajcmanompmcaaV.dF hc2)) <| OA.nil fun _ => RA.condF rfl <| RA.skip env_ok ?_
 intro _
 refine RA.sR hd env_ok <| OA.ps [(39, (Pt r 0 0)), (40, (.int .i64 (((bodyL d).length : Nat) : Int)))] rfl ?_
 refine OA.call (dst := (some 41)) (all := [(Pt r 0 0), (.int .i64 (((bodyL d).length : Nat) : Int))]) rfl rfl rfl rfl rfl rfl rfl rfl (CQ.imp (cFillG (hd.of (by omega) (kb4 (by omega))) r (bodyL d).length (by omega) [] (by simp only [List.length_append, List.length_replicate, List.length_nil]; omega) (get_there (by omega) get_here)) ?_)
 rintro _ n11 _ ⟨rfl, rfl⟩ hn11
 refine OA.app1 ?_
 refine OA.nil fun _ => RA.weaken hd (LsO (fA get_here get_here (fA (get_there (by omega) get_here) (get_there (by omega) get_here) (fA (gt2 (by omega) get_here) (gt3 (by omega) get_here) (fA (gt3 (by omega) get_here) (gt4 (by omega) get_here) fan))))) <| RA.seq hd <| RA.sR hd env_ok <| OA.ps [(42, (Pt r 0 0))] rfl <| oC 43 (v := (.int .i64 0)) (hd.of (by omega) (kb4 (by omega))) rfl rfl (rErr r _ 0 get_here) fun n12 hn12 => oP 44 yF rfl (r_bin rfl rfl rfl (b_neq (by simp))) <| OA.nil fun _ => RA.condF rfl <| RA.skip env_ok ?_
 intro _
 refine RA.sR hd env_ok <| OA.ps [(46, (Pt qn6 0 0))] rfl ?_
 refine OA.call (dst := (some 47)) (all := [(Pt qn6 0 0), (Pt n2 0 0)]) rfl rfl rfl rfl rfl rfl rfl rfl (CQ.imp (cSays (hd.of (by omega) (kb4 (by omega))) qn6 n2 (by omega) d hm (gdk (T := 121) (by decide) h (keep_app hd (by intro k_ hk_; simp only [keys, List.cons_append, List.nil_append, List.map_cons, List.map_nil, List.mem_cons, List.not_mem_nil, or_false, false_or] at hk_; exact if hjk : k_ = r then .inr (by rw [hjk]; exact ⟨_, hr, rfl⟩) else .inl (by omega)))) (get_there (by omega) get_here) (gt2 (by omega) get_here)) ?_)
 rintro _ n13 ddn13 ⟨rfl, y, s1, s2, s3, s4, s5⟩ hn13
 refine OA.nil fun _ => ?_
 have hkD : ∀ i_ ∈ keys (ddn13 ++ [(r, some ⟨[[(.string (bstr ([] : List UInt8))), (.int .i64 0)]], 2, 121, true⟩), (qn6, some ⟨[[(.string (bstr (bodyL d))), (.int .i64 0)]], 2, 121, true⟩), (n2, some ⟨[(xCx41 d)], 15, 53, true⟩), (n, some ⟨[xCx42], 15, 53, true⟩)]), i_ < n13 := by
   intro i_ hi_
   rw [keys_append, List.mem_append] at hi_
   rcases hi_ with hi_ | hi_
   · have := s5 i_ hi_; omega
   · simp only [keys, List.cons_append, List.nil_append, List.map_cons, List.map_nil, List.mem_cons, List.not_mem_nil, or_false, false_or] at hi_; omega
 refine RA.restartD (by omega) hkD ?_
 rw [app_append]
 have hdD : Dom n13 (app ddn13 (app [(r, some ⟨[[(.string (bstr ([] : List UInt8))), (.int .i64 0)]], 2, 121, true⟩), (qn6, some ⟨[[(.string (bstr (bodyL d))), (.int .i64 0)]], 2, 121, true⟩), (n2, some ⟨[(xCx41 d)], 15, 53, true⟩), (n, some ⟨[xCx42], 15, 53, true⟩)] σ)) := by rw [← app_append]; exact Dom.of hd (by omega) hkD
 have hr1 : app ddn13 (app [(r, some ⟨[[(.string (bstr ([] : List UInt8))), (.int .i64 0)]], 2, 121, true⟩), (qn6, some ⟨[[(.string (bstr (bodyL d))), (.int .i64 0)]], 2, 121, true⟩), (n2, some ⟨[(xCx41 d)], 15, 53, true⟩), (n, some ⟨[xCx42], 15, 53, true⟩)] σ) r = some ⟨[[(.string (bstr ([] : List UInt8))), (.int .i64 0)]], 2, 121, true⟩ := by rw [app_off (fun hm_ => by have := s5 r hm_; omega)]; exact get_here
 have hn1 : app ddn13 (app [(r, some ⟨[[(.string (bstr ([] : List UInt8))), (.int .i64 0)]], 2, 121, true⟩), (qn6, some ⟨[[(.string (bstr (bodyL d))), (.int .i64 0)]], 2, 121, true⟩), (n2, some ⟨[(xCx41 d)], 15, 53, true⟩), (n, some ⟨[xCx42], 15, 53, true⟩)] σ) n = some ⟨[xCx42], 15, 53, true⟩ := by rw [app_off (fun hm_ => by have := s5 n hm_; omega)]; exact (gt3 (by omega) get_here)
 obtain ⟨σ1, hσ1⟩ : ∃ s, app ddn13 (app [(r, some ⟨[[(.string (bstr ([] : List UInt8))), (.int .i64 0)]], 2, 121, true⟩), (qn6, some ⟨[[(.string (bstr (bodyL d))), (.int .i64 0)]], 2, 121, true⟩), (n2, some ⟨[(xCx41 d)], 15, 53, true⟩), (n, some ⟨[xCx42], 15, 53, true⟩)] σ) = s := ⟨_, rfl⟩
 rw [hσ1] at hdD s1 s2 s3 hr1 hn1 ⊢
 have hd0 := hd
 have hd := hdD
 refine RA.seq hd <| RA.sR hd env_ok <| OA.ps [(48, (Pt qn6 0 0))] rfl ?_
 refine OA.call (dst := (some 49)) (all := [(Pt qn6 0 0)]) rfl rfl rfl rfl rfl rfl rfl rfl (CQ.imp (rEnd (hd.up (by omega)) qn6 (bstr []) rfl s2) ?_)
 rintro _ n14 _ ⟨rfl, rfl⟩ hn14
 refine OA.app0 ?_
 refine OA.ps [(6, (.int .i64 0))] rfl <| OA.nil fun _ => RA.sR hd env_ok <| OA.ps [(50, (.int .i64 0))] rfl <| oP 51 yF rfl (r_bin rfl rfl rfl (b_neq (by simp))) <| OA.nil fun _ => RA.condF rfl <| RA.skip env_ok ?_
 intro _
 refine RA.seq hd <| RA.sR hd env_ok <| oP 56 (.agg ⟨(xCx43 y)⟩) rfl (r_loadA rfl rfl rfl rfl s1 rfl rfl rfl) <| oC 57 (v := yT) (hd.up (by omega)) rfl rfl (sMay y true (bT (may_yEq s4 hm)) (gdk (T := 53) (by decide) s3 (fun i o h_ _ => h_))) fun n15 hn15 => OA.ps [(58, yF)] rfl <| OA.nil fun _ => RA.condF rfl <| RA.skip env_ok ?_
 intro _
 refine RA.sR hd env_ok <| oP 62 (.agg ⟨(xCx43 y)⟩) rfl (r_loadA rfl rfl rfl rfl s1 rfl rfl rfl) <| o1 none yU n15 (n, some ⟨[(xCx43 y)], 15, 53, true⟩) (r_store (cs := (xCx43 y)) rfl rfl rfl rfl rfl rfl (by simp only [List.all_cons, List.all_nil, Bool.and_true, Bool.and_eq_true]; exact ⟨rfl, rfl, rfl, rfl, rfl, rfl, rfl, rfl, rfl, rfl, rfl, (s3.hp).one, (s3.hc).one, (s3.hg).one, (s3.hu).one⟩) hn1 rfl rfl (Nat.le_of_ble_eq_true rfl) rfl) <| OA.nil fun _ => ?_
 refine RA.ret env_ok ?_
 have eA : app ([(n, some ⟨[(xCx43 y)], 15, 53, true⟩)] ++ (ddn13 ++ [(r, some ⟨[[(.string (bstr ([] : List UInt8))), (.int .i64 0)]], 2, 121, true⟩), (qn6, some ⟨[[(.string (bstr (bodyL d))), (.int .i64 0)]], 2, 121, true⟩), (n2, some ⟨[(xCx41 d)], 15, 53, true⟩), (n, some ⟨[xCx42], 15, 53, true⟩)])) σ = app [(n, some ⟨[(xCx43 y)], 15, 53, true⟩)] σ1 := by rw [app_append, app_append, hσ1]
 rw [eA]
 refine ⟨.inr rfl, [(.agg ⟨(xCx43 y)⟩)], (resL_cons (res_cellA rfl rfl rfl get_here rfl rfl rfl) resL_nil), ([(n, some ⟨[(xCx43 y)], 15, 53, true⟩)] ++ (ddn13 ++ [(r, some ⟨[[(.string (bstr ([] : List UInt8))), (.int .i64 0)]], 2, 121, true⟩), (qn6, some ⟨[[(.string (bstr (bodyL d))), (.int .i64 0)]], 2, 121, true⟩), (n2, some ⟨[(xCx41 d)], 15, 53, true⟩), (n, some ⟨[xCx42], 15, 53, true⟩)])), Less.refl _ _ _, ⟨y, rfl, by rw [eA]; exact (get_there (by omega) hr1), by rw [eA]; exact gdk (T := 53) (by decide) s3 (keep_app hd (by intro k_ hk_; simp only [keys, List.cons_append, List.nil_append, List.map_cons, List.map_nil, List.mem_cons, List.not_mem_nil, or_false, false_or] at hk_; exact if hjk : k_ = n then .inr (by rw [hjk]; exact ⟨_, hn1, rfl⟩) else .inl (by omega))), s4, ?_⟩⟩
 intro q_ hq_
 rw [keys_append, List.mem_append, keys_append, List.mem_append] at hq_
 rcases hq_ with hq_ | hq_ | hq_
 · simp only [keys, List.cons_append, List.nil_append, List.map_cons, List.map_nil, List.mem_cons, List.not_mem_nil, or_false, false_or] at hq_; omega
 · have := s5 q_ hq_; omega
 · simp only [keys, List.cons_append, List.nil_append, List.map_cons, List.map_nil, List.mem_cons, List.not_mem_nil, or_false, false_or] at hq_; omega
theorem cTkT {n : Nat} {σ : Store} (hd : Dom n σ) (r : Nat) (d : Chk) (hm : mayP d) (h : gd σ d) (hr : σ r = some ⟨[[(.string (bstr (chL d))), (.int .i64 0)]], 2, 121, true⟩) : CQ Try.prog noDen 50 [(Pt r 0 0)] n σ (fun v n' D_ => ∃ y : Chk, v = .agg ⟨cChk y⟩ ∧ app D_ σ r = some ⟨[[(.string (bstr ([] : List UInt8))), (.int .i64 0)]], 2, 121, true⟩ ∧ gd (app D_ σ) y ∧ yEq d y ∧ ∀ q_ ∈ keys D_, q_ = r ∨ (n ≤ q_ ∧ q_ < n')) := by
  rw [chL_ex] at hr
  exact cTkT0 hd r d hm h hr
end Go.Proofs.Ytgajcmanompmcaa.Vt
/- Cr1: walks through functions of the program, by the calculus; written by a program of this workplace. -/
namespace Go.Proofs.Ytgajcmanompmcaa.Vt
open Go Go.Proofs Go.Proofs.YtgajcmanompmcaaV
set_option maxRecDepth 100000
set_option linter.unusedVariables false
set_option linter.unusedSimpArgs false
set_option maxHeartbeats 8000000
structure Prp where
  typ : Int
  val : ByteArray
deriving DecidableEq
def dPrp : Prp := ⟨0, ByteArray.empty⟩
abbrev cPrp (e : Prp) : List Value := [(.int .i64 e.typ), (.string e.val)]
abbrev oPrp (l : List Prp) : AObj := ⟨l.map cPrp, 2, 79, true⟩
def toP (e : Prm) : Prp := ⟨e.typ, e.val⟩
def toC (e : Cau) : Prp := ⟨e.code, e.info⟩
theorem toP_snoc {l : List Prm} {i : Nat} (h : i < l.length) : (((l.take i).map toP).map cPrp) ++ [cPrp (Prp.mk (l.getD i dPrm).typ (l.getD i dPrm).val)] = ((l.take (i + 1)).map toP).map cPrp := by
  rw [← take_snoc (d0 := dPrm) h, List.map_append, List.map_append]; rfl
theorem toC_snoc {l : List Cau} {i : Nat} (h : i < l.length) : (((l.take i).map toC).map cPrp) ++ [cPrp (Prp.mk (l.getD i dCau).code (l.getD i dCau).info)] = ((l.take (i + 1)).map toC).map cPrp := by
  rw [← take_snoc (d0 := dCau) h, List.map_append, List.map_append]; rfl
theorem toP_len {l : List Prm} {i : Nat} (h : i ≤ l.length) : ((l.take i).map toP).length = i := by rw [List.length_map, List.length_take]; omega
theorem toC_len {l : List Cau} {i : Nat} (h : i ≤ l.length) : ((l.take i).map toC).length = i := by rw [List.length_map, List.length_take]; omega
def prpsOk (l : List Prp) : Prop := ∀ p ∈ l, prmOk p.typ p.val
def qsL (l : List Prp) : List UInt8 := l.flatMap fun p => pB p.typ p.val
theorem qsL_snoc {l : List Prp} {i : Nat} (h : i < l.length) : qsL (l.take i) ++ pB (l.getD i dPrp).typ (l.getD i dPrp).val = qsL (l.take (i + 1)) := fm_snoc (f := fun p : Prp => pB p.typ p.val) h
theorem qsL_len {l : List Prp} (h : prpsOk l) {i : Nat} (hi : i ≤ 16) : (qsL (l.take i)).length ≤ 16112 := by
  have h1 := fm_len (f := fun p : Prp => pB p.typ p.val) (k := 1007) (l.take i) (fun x hx => pB_len (h x (List.mem_of_mem_take hx)))
  have h2 : (l.take i).length ≤ 16 := by rw [List.length_take]; omega
  have h3 := Nat.mul_le_mul_right 1007 h2
  unfold qsL; omega
theorem qsL_P (l : List Prm) : qsL (l.map toP) = psL l := by unfold qsL psL; rw [List.flatMap_map]; rfl
theorem qsL_C (l : List Cau) : qsL (l.map toC) = csL l := by unfold qsL csL; rw [List.flatMap_map]; rfl
theorem okP {l : List Prm} : prpsOk (l.map toP) ↔ prmsOk l := ⟨fun h p hp => h _ (List.mem_map_of_mem hp), fun h p hp => by obtain ⟨x, hx, rfl⟩ := List.mem_map.1 hp; exact h x hx⟩
theorem okC {l : List Cau} : prpsOk (l.map toC) ↔ causOk l := ⟨fun h p hp => h _ (List.mem_map_of_mem hp), fun h p hp => by obtain ⟨x, hx, rfl⟩ := List.mem_map.1 hp; exact h x hx⟩
theorem okPC {l : List Prm} {m : List Cau} : prpsOk (l.map toP ++ m.map toC) ↔ (prmsOk l ∧ causOk m) := by
  constructor
  · intro h
    exact ⟨okP.1 (fun p hp => h p (List.mem_append_left _ hp)), okC.1 (fun p hp => h p (List.mem_append_right _ hp))⟩
  · intro h p hp
    rcases List.mem_append.1 hp with hp | hp
    · exact okP.2 h.1 p hp
    · exact okC.2 h.2 p hp
theorem okPC0 {l : List Prm} {m : List Cau} (h : m.length = 0) : prpsOk (l.map toP) ↔ (prmsOk l ∧ causOk m) := by
  rw [List.length_eq_zero_iff.1 h]
  exact ⟨fun q => ⟨okP.1 q, fun p hp => by cases hp⟩, fun q => okP.2 q.1⟩
theorem putL_be1 (m : Nat) (h : m < 256) : putL m 1 = be1 m := by
  show [] ++ [UInt8.ofNat (m % 256)] = [UInt8.ofNat m]
  rw [Nat.mod_eq_of_lt h]; rfl
theorem qNum {σ : Store} (m k : Nat) (hm : m < 9223372036854775808) (hk : k ≤ 8)   : PS Try.prog noDen 79 [(.int .i64 ((m : Nat) : Int)), (.int .i64 ((k : Nat) : Int))] σ (.string (bstr (putL m k))) := by
 refine PS.body (E := env) env_ok rfl rfl (by show _ ≤ _; exact of_decide_eq_true (by kernel_rfl)) (fun n hd => ?_)
 refine RA.sR hd env_ok <| OA.ps [(4, (.string (ByteArray.mk #[])))] rfl <| OA.nil fun _ => RA.sR hd env_ok <| OA.ps [(5, (.int .i64 ((m : Nat) : Int)))] rfl <| oP 6 (.int .u64 ((m : Nat) : Int)) rfl (r_cvt rfl rfl rfl rfl rfl ⟨_, rfl⟩ (u64_eq (by omega))) <| OA.ps [(7, (.int .i64 ((k : Nat) : Int)))] rfl <| oC 8 (hd.up (by omega)) rfl rfl (sPut k m (by omega) hk) fun n1 hn1 => OA.ps [(4, (.string (bstr (putL m k))))] rfl <| OA.nil fun _ => ?_
 refine RA.ret env_ok ?_
 exact lf (.string (bstr (putL m k))) rfl
theorem qNum1 {σ : Store} (z : Int) (h0 : 0 ≤ z) (h1 : z < 256) : PS Try.prog noDen 79 [.int .i64 z, .int .i64 1] σ (.string (bstr (be1 z.toNat))) := by
  obtain ⟨m, rfl⟩ := Int.eq_ofNat_of_zero_le h0
  exact (qNum m 1 (by omega) (by decide)).to (by rw [putL_be1 m (by omega)]; rfl)
theorem qNum2 {σ : Store} (z : Int) (h0 : 0 ≤ z) (h1 : z < 65536) : PS Try.prog noDen 79 [.int .i64 z, .int .i64 2] σ (.string (bstr (be2 z.toNat))) := by
  obtain ⟨m, rfl⟩ := Int.eq_ofNat_of_zero_le h0
  exact (qNum m 2 (by omega) (by decide)).to (by rw [putL_be2 m (by omega)]; rfl)
theorem qNum2n {σ : Store} (m : Nat) (h1 : m < 65536) : PS Try.prog noDen 79 [.int .i64 ((m : Nat) : Int), .int .i64 2] σ (.string (bstr (be2 m))) := (qNum m 2 (by omega) (by decide)).to (by rw [putL_be2 m (by omega)])
theorem qNum4 {σ : Store} (x : BitVec 32) : PS Try.prog noDen 79 [.int .i64 ((x.toNat : Nat) : Int), .int .i64 4] σ (.string (bstr (be4 x))) := (qNum x.toNat 4 (by have := x.isLt; omega) (by decide)).to (by rw [putL_be4])
theorem rKind {σ : Store} (t : Int)   : PS Try.prog noDen 35 [(.int .i64 t)] σ (.int .i64 ((kd t : Nat) : Int)) := by
 refine PS.body (E := env) env_ok rfl rfl (by show _ ≤ _; exact of_decide_eq_true (by kernel_rfl)) (fun n hd => ?_)
 refine RA.sR hd env_ok <| OA.ps [(2, (.int .i64 0))] rfl <| OA.nil fun _ => RA.seq hd <| RA.sR hd env_ok <| OA.ps [(3, (.int .i64 t))] rfl <| OA.nil fun _ => RA.block <| RA.seq hd <| RA.sR hd env_ok ?_
 by_cases hc1 : t = 0
 ·
  refine oP 5 yT rfl (Eq.trans (r_bin rfl rfl rfl (b_eql rfl)) (dT hc1)) <| OA.ps [(4, yT)] rfl <| OA.nil fun _ => RA.condT rfl <| RA.skip env_ok ?_
  intro _
  refine RA.condT rfl <| RA.sR hd env_ok <| OA.ps [(10, (.int .i64 t)), (2, (.int .i64 t))] rfl <| OA.nil fun _ => ?_
  refine RA.ret env_ok ?_
  exact lf (.int .i64 t) (by rw [show kd t = t from by have := kd_cases t; omega] <;> rfl)
 ·
  refine oP 5 yF rfl (Eq.trans (r_bin rfl rfl rfl (b_eql rfl)) (dF hc1)) <| OA.ps [(4, yF)] rfl <| OA.nil fun _ => RA.condF rfl <| RA.sR hd env_ok ?_
  by_cases hc2 : t = 3
  ·
   refine oP 6 yT rfl (Eq.trans (r_bin rfl rfl rfl (b_eql rfl)) (dT hc2)) <| OA.ps [(4, yT)] rfl <| OA.nil fun _ => RA.condT rfl <| RA.skip env_ok ?_
   intro _
   refine RA.condT rfl <| RA.sR hd env_ok <| OA.ps [(10, (.int .i64 t)), (2, (.int .i64 t))] rfl <| OA.nil fun _ => ?_
   refine RA.ret env_ok ?_
   exact lf (.int .i64 t) (by rw [show kd t = t from by have := kd_cases t; omega] <;> rfl)
  ·
   refine oP 6 yF rfl (Eq.trans (r_bin rfl rfl rfl (b_eql rfl)) (dF hc2)) <| OA.ps [(4, yF)] rfl <| OA.nil fun _ => RA.condF rfl <| RA.sR hd env_ok ?_
   by_cases hc3 : t = 7
   ·
    refine oP 7 yT rfl (Eq.trans (r_bin rfl rfl rfl (b_eql rfl)) (dT hc3)) <| OA.ps [(4, yT)] rfl <| OA.nil fun _ => RA.condT rfl <| RA.skip env_ok ?_
    intro _
    refine RA.condT rfl <| RA.sR hd env_ok <| OA.ps [(10, (.int .i64 t)), (2, (.int .i64 t))] rfl <| OA.nil fun _ => ?_
    refine RA.ret env_ok ?_
    exact lf (.int .i64 t) (by rw [show kd t = t from by have := kd_cases t; omega] <;> rfl)
   ·
    refine oP 7 yF rfl (Eq.trans (r_bin rfl rfl rfl (b_eql rfl)) (dF hc3)) <| OA.ps [(4, yF)] rfl <| OA.nil fun _ => RA.condF rfl <| RA.sR hd env_ok ?_
    by_cases hc4 : t = 10
    ·
     refine oP 8 yT rfl (Eq.trans (r_bin rfl rfl rfl (b_eql rfl)) (dT hc4)) <| OA.ps [(4, yT)] rfl <| OA.nil fun _ => RA.condT rfl <| RA.skip env_ok ?_
     intro _
     refine RA.condT rfl <| RA.sR hd env_ok <| OA.ps [(10, (.int .i64 t)), (2, (.int .i64 t))] rfl <| OA.nil fun _ => ?_
     refine RA.ret env_ok ?_
     exact lf (.int .i64 t) (by rw [show kd t = t from by have := kd_cases t; omega] <;> rfl)
    ·
     refine oP 8 yF rfl (Eq.trans (r_bin rfl rfl rfl (b_eql rfl)) (dF hc4)) <| OA.ps [(4, yF)] rfl <| OA.nil fun _ => RA.condF rfl <| RA.region env_ok ?_
     by_cases hc5 : t = 15
     ·
      refine oP 9 yT rfl (Eq.trans (r_bin rfl rfl rfl (b_eql rfl)) (dT hc5)) <| OA.ps [(4, yT)] rfl <| OA.nil fun _ => RA.condT rfl <| RA.sR hd env_ok <| OA.ps [(10, (.int .i64 t)), (2, (.int .i64 t))] rfl <| OA.nil fun _ => ?_
      refine RA.ret env_ok ?_
      exact lf (.int .i64 t) (by rw [show kd t = t from by have := kd_cases t; omega] <;> rfl)
     ·
      refine oP 9 yF rfl (Eq.trans (r_bin rfl rfl rfl (b_eql rfl)) (dF hc5)) <| OA.ps [(4, yF)] rfl <| OA.nil fun _ => RA.condF rfl <| RA.seq hd <| RA.sR hd env_ok ?_
      by_cases hc6 : t = 1
      ·
       refine oP 12 yT rfl (Eq.trans (r_bin rfl rfl rfl (b_eql rfl)) (dT hc6)) <| OA.ps [(11, yT)] rfl <| OA.nil fun _ => RA.condT rfl <| RA.skip env_ok ?_
       intro _
       refine RA.condT rfl <| RA.sR hd env_ok <| OA.ps [(2, (.int .i64 1))] rfl <| OA.nil fun _ => ?_
       refine RA.ret env_ok ?_
       exact lf (.int .i64 1) (by rw [show kd t = 1 from by have := kd_cases t; omega] <;> rfl)
      ·
       refine oP 12 yF rfl (Eq.trans (r_bin rfl rfl rfl (b_eql rfl)) (dF hc6)) <| OA.ps [(11, yF)] rfl <| OA.nil fun _ => RA.condF rfl <| RA.region env_ok ?_
       by_cases hc7 : t = 2
       ·
        refine oP 13 yT rfl (Eq.trans (r_bin rfl rfl rfl (b_eql rfl)) (dT hc7)) <| OA.ps [(11, yT)] rfl <| OA.nil fun _ => RA.condT rfl <| RA.sR hd env_ok <| OA.ps [(2, (.int .i64 1))] rfl <| OA.nil fun _ => ?_
        refine RA.ret env_ok ?_
        exact lf (.int .i64 1) (by rw [show kd t = 1 from by have := kd_cases t; omega] <;> rfl)
       ·
        refine oP 13 yF rfl (Eq.trans (r_bin rfl rfl rfl (b_eql rfl)) (dF hc7)) <| OA.ps [(11, yF)] rfl <| OA.nil fun _ => RA.condF rfl <| RA.seq hd <| RA.sR hd env_ok ?_
        by_cases hc8 : t = 4
        ·
         refine oP 15 yT rfl (Eq.trans (r_bin rfl rfl rfl (b_eql rfl)) (dT hc8)) <| OA.ps [(14, yT)] rfl <| OA.nil fun _ => RA.condT rfl <| RA.skip env_ok ?_
         intro _
         refine RA.condT rfl <| RA.sR hd env_ok <| OA.ps [(2, (.int .i64 4))] rfl <| OA.nil fun _ => ?_
         refine RA.ret env_ok ?_
         exact lf (.int .i64 4) (by rw [show kd t = 4 from by have := kd_cases t; omega] <;> rfl)
        ·
         refine oP 15 yF rfl (Eq.trans (r_bin rfl rfl rfl (b_eql rfl)) (dF hc8)) <| OA.ps [(14, yF)] rfl <| OA.nil fun _ => RA.condF rfl <| RA.region env_ok ?_
         by_cases hc9 : t = 5
         ·
          refine oP 16 yT rfl (Eq.trans (r_bin rfl rfl rfl (b_eql rfl)) (dT hc9)) <| OA.ps [(14, yT)] rfl <| OA.nil fun _ => RA.condT rfl <| RA.sR hd env_ok <| OA.ps [(2, (.int .i64 4))] rfl <| OA.nil fun _ => ?_
          refine RA.ret env_ok ?_
          exact lf (.int .i64 4) (by rw [show kd t = 4 from by have := kd_cases t; omega] <;> rfl)
         ·
          refine oP 16 yF rfl (Eq.trans (r_bin rfl rfl rfl (b_eql rfl)) (dF hc9)) <| OA.ps [(14, yF)] rfl <| OA.nil fun _ => RA.condF rfl <| RA.seq hd <| RA.sR hd env_ok ?_
          by_cases hc10 : t = 6
          ·
           refine oP 18 yT rfl (Eq.trans (r_bin rfl rfl rfl (b_eql rfl)) (dT hc10)) <| OA.ps [(17, yT)] rfl <| OA.nil fun _ => RA.condT rfl <| RA.skip env_ok ?_
           intro _
           refine RA.condT rfl <| RA.sR hd env_ok <| OA.ps [(2, (.int .i64 6))] rfl <| OA.nil fun _ => ?_
           refine RA.ret env_ok ?_
           exact lf (.int .i64 6) (by rw [show kd t = 6 from by have := kd_cases t; omega] <;> rfl)
          ·
           refine oP 18 yF rfl (Eq.trans (r_bin rfl rfl rfl (b_eql rfl)) (dF hc10)) <| OA.ps [(17, yF)] rfl <| OA.nil fun _ => RA.condF rfl <| RA.region env_ok ?_
           by_cases hc11 : t = 9
           ·
            refine oP 19 yT rfl (Eq.trans (r_bin rfl rfl rfl (b_eql rfl)) (dT hc11)) <| OA.ps [(17, yT)] rfl <| OA.nil fun _ => RA.condT rfl <| RA.sR hd env_ok <| OA.ps [(2, (.int .i64 6))] rfl <| OA.nil fun _ => RA.rb [(0, (.int .i64 t)), (2, (.int .i64 6)), (3, (.int .i64 t)), (4, yF), (11, yF), (14, yF), (17, yT)] rfl (fun τr1 => ?_)
            refine RA.ret env_ok ?_
            exact lf (.int .i64 6) (by rw [show kd t = 6 from by have := kd_cases t; omega] <;> rfl)
           ·
            refine oP 19 yF rfl (Eq.trans (r_bin rfl rfl rfl (b_eql rfl)) (dF hc11)) <| OA.ps [(17, yF)] rfl <| OA.nil fun _ => RA.condF rfl <| RA.seq hd <| RA.sR hd env_ok ?_
            by_cases hc12 : t = 8
            ·
             refine oP 21 yT rfl (Eq.trans (r_bin rfl rfl rfl (b_eql rfl)) (dT hc12)) <| OA.ps [(20, yT)] rfl <| OA.nil fun _ => RA.rb [(0, (.int .i64 t)), (2, (.int .i64 0)), (3, (.int .i64 t)), (4, yF), (11, yF), (14, yF), (17, yF), (20, yT)] rfl (fun τr2 => ?_)
             refine RA.condT rfl <| RA.skip env_ok ?_
             intro _
             refine RA.condT rfl <| RA.sR hd env_ok <| OA.ps [(2, (.int .i64 8))] rfl <| OA.nil fun _ => ?_
             refine RA.ret env_ok ?_
             exact lf (.int .i64 8) (by rw [show kd t = 8 from by have := kd_cases t; omega] <;> rfl)
            ·
             refine oP 21 yF rfl (Eq.trans (r_bin rfl rfl rfl (b_eql rfl)) (dF hc12)) <| OA.ps [(20, yF)] rfl <| OA.nil fun _ => RA.rb [(0, (.int .i64 t)), (2, (.int .i64 0)), (3, (.int .i64 t)), (4, yF), (11, yF), (14, yF), (17, yF), (20, yF)] rfl (fun τr3 => ?_)
             refine RA.condF rfl <| RA.sR hd env_ok ?_
             by_cases hc13 : t = 11
             ·
              refine oP 22 yT rfl (Eq.trans (r_bin rfl rfl rfl (b_eql rfl)) (dT hc13)) <| OA.ps [(20, yT)] rfl <| OA.nil fun _ => RA.condT rfl <| RA.skip env_ok ?_
              intro _
              refine RA.condT rfl <| RA.sR hd env_ok <| OA.ps [(2, (.int .i64 8))] rfl <| OA.nil fun _ => ?_
              refine RA.ret env_ok ?_
              exact lf (.int .i64 8) (by rw [show kd t = 8 from by have := kd_cases t; omega] <;> rfl)
             ·
              refine oP 22 yF rfl (Eq.trans (r_bin rfl rfl rfl (b_eql rfl)) (dF hc13)) <| OA.ps [(20, yF)] rfl <| OA.nil fun _ => RA.condF rfl <| RA.region env_ok ?_
              by_cases hc14 : t = 14
              ·
               refine oP 23 yT rfl (Eq.trans (r_bin rfl rfl rfl (b_eql rfl)) (dT hc14)) <| OA.ps [(20, yT)] rfl <| OA.nil fun _ => RA.condT rfl <| RA.sR hd env_ok <| OA.ps [(2, (.int .i64 8))] rfl <| OA.nil fun _ => ?_
               refine RA.ret env_ok ?_
               exact lf (.int .i64 8) (by rw [show kd t = 8 from by have := kd_cases t; omega] <;> rfl)
              ·
               refine oP 23 yF rfl (Eq.trans (r_bin rfl rfl rfl (b_eql rfl)) (dF hc14)) <| OA.ps [(20, yF)] rfl <| OA.nil fun _ => RA.condF rfl <| RA.seq hd <| RA.sR hd env_ok ?_
               by_cases hc15 : t = 193
               ·
                refine oP 25 yT rfl (Eq.trans (r_bin rfl rfl rfl (b_eql rfl)) (dT hc15)) <| OA.ps [(24, yT)] rfl <| OA.nil fun _ => RA.condT rfl <| RA.skip env_ok ?_
                intro _
                refine RA.condT rfl <| RA.sR hd env_ok <| OA.ps [(2, (.int .i64 16))] rfl <| OA.nil fun _ => ?_
                refine RA.ret env_ok ?_
                exact lf (.int .i64 16) (by rw [show kd t = 16 from by have := kd_cases t; omega] <;> rfl)
               ·
                refine oP 25 yF rfl (Eq.trans (r_bin rfl rfl rfl (b_eql rfl)) (dF hc15)) <| OA.ps [(24, yF)] rfl <| OA.nil fun _ => RA.condF rfl <| RA.sR hd env_ok ?_
                by_cases hc16 : t = 128
                ·
                 refine oP 26 yT rfl (Eq.trans (r_bin rfl rfl rfl (b_eql rfl)) (dT hc16)) <| OA.ps [(24, yT)] rfl <| OA.nil fun _ => RA.condT rfl <| RA.skip env_ok ?_
                 intro _
                 refine RA.condT rfl <| RA.sR hd env_ok <| OA.ps [(2, (.int .i64 16))] rfl <| OA.nil fun _ => ?_
                 refine RA.ret env_ok ?_
                 exact lf (.int .i64 16) (by rw [show kd t = 16 from by have := kd_cases t; omega] <;> rfl)
                ·
                 refine oP 26 yF rfl (Eq.trans (r_bin rfl rfl rfl (b_eql rfl)) (dF hc16)) <| OA.ps [(24, yF)] rfl <| OA.nil fun _ => RA.condF rfl <| RA.region env_ok ?_
                 by_cases hc17 : t = 130
                 ·
                  refine oP 27 yT rfl (Eq.trans (r_bin rfl rfl rfl (b_eql rfl)) (dT hc17)) <| OA.ps [(24, yT)] rfl <| OA.nil fun _ => RA.condT rfl <| RA.sR hd env_ok <| OA.ps [(2, (.int .i64 16))] rfl <| OA.nil fun _ => ?_
                  refine RA.ret env_ok ?_
                  exact lf (.int .i64 16) (by rw [show kd t = 16 from by have := kd_cases t; omega] <;> rfl)
                 ·
                  refine oP 27 yF rfl (Eq.trans (r_bin rfl rfl rfl (b_eql rfl)) (dF hc17)) <| OA.ps [(24, yF)] rfl <| OA.nil fun _ => RA.condF rfl <| RA.skip env_ok ?_
                  intro _
                  refine RA.sR hd env_ok <| OA.ps [(2, (.int .i64 20))] rfl <| OA.nil fun _ => ?_
                  refine RA.ret env_ok ?_
                  exact lf (.int .i64 20) (by rw [show kd t = 20 from by have := kd_cases t; omega] <;> rfl)
theorem rFlags {σ : Store} (t : Int)   : PS Try.prog noDen 105 [(.int .i64 t)] σ (.int .i64 ((fl t : Nat) : Int)) := by
 refine PS.body (E := env) env_ok rfl rfl (by show _ ≤ _; exact of_decide_eq_true (by kernel_rfl)) (fun n hd => ?_)
 refine RA.sR hd env_ok <| OA.ps [(2, (.int .i64 0))] rfl <| OA.nil fun _ => RA.seq hd <| RA.block <| RA.sR hd env_ok <| OA.ps [(4, (.int .i64 t))] rfl ?_
 by_cases hc1 : t = 0
 ·
  refine oP 5 yT rfl (Eq.trans (r_bin rfl rfl rfl (b_eql rfl)) (dT hc1)) <| OA.ps [(3, yT)] rfl <| OA.nil fun _ => RA.condT rfl <| RA.sR hd env_ok <| OA.ps [(2, (.int .i64 7))] rfl <| OA.nil fun _ => ?_
  refine RA.ret env_ok ?_
  exact lf (.int .i64 7) (by rw [show fl t = 7 from by have := fl_cases t; have := kd_cases t; omega] <;> rfl)
 ·
  refine oP 5 yF rfl (Eq.trans (r_bin rfl rfl rfl (b_eql rfl)) (dF hc1)) <| OA.ps [(3, yF)] rfl <| OA.nil fun _ => RA.condF rfl <| RA.sR hd env_ok <| OA.ps [(7, (.int .i64 t))] rfl ?_
  by_cases hc2 : t = 6
  ·
   refine oP 8 yT rfl (Eq.trans (r_bin rfl rfl rfl (b_eql rfl)) (dT hc2)) <| OA.ps [(9, yT)] rfl <| OA.offs 10 2 rfl <| OA.ps [(12, yT), (6, yT)] rfl <| OA.nil fun _ => RA.condT rfl <| RA.sR hd env_ok <| OA.ps [(2, (.int .i64 3))] rfl <| OA.nil fun _ => ?_
   refine RA.ret env_ok ?_
   exact lf (.int .i64 3) (by rw [show fl t = 3 from by have := fl_cases t; have := kd_cases t; omega] <;> rfl)
  ·
   refine oP 8 yF rfl (Eq.trans (r_bin rfl rfl rfl (b_eql rfl)) (dF hc2)) <| OA.ps [(9, yF), (10, (.int .i64 t))] rfl ?_
   by_cases hc3 : t = 9
   ·
    refine oP 11 yT rfl (Eq.trans (r_bin rfl rfl rfl (b_eql rfl)) (dT hc3)) <| OA.ps [(12, yT), (6, yT)] rfl <| OA.nil fun _ => RA.condT rfl <| RA.sR hd env_ok <| OA.ps [(2, (.int .i64 3))] rfl <| OA.nil fun _ => ?_
    refine RA.ret env_ok ?_
    exact lf (.int .i64 3) (by rw [show fl t = 3 from by have := fl_cases t; have := kd_cases t; omega] <;> rfl)
   ·
    refine oP 11 yF rfl (Eq.trans (r_bin rfl rfl rfl (b_eql rfl)) (dF hc3)) <| OA.ps [(12, yF), (6, yF)] rfl <| OA.nil fun _ => RA.condF rfl <| RA.sR hd env_ok <| OA.ps [(14, (.int .i64 t))] rfl ?_
    by_cases hc4 : t = 14
    ·
     refine oP 15 yT rfl (Eq.trans (r_bin rfl rfl rfl (b_eql rfl)) (dT hc4)) <| OA.ps [(13, yT)] rfl <| OA.nil fun _ => RA.condT rfl <| RA.sR hd env_ok <| OA.ps [(2, (.int .i64 1))] rfl <| OA.nil fun _ => ?_
     refine RA.ret env_ok ?_
     exact lf (.int .i64 1) (by rw [show fl t = 1 from by have := fl_cases t; have := kd_cases t; omega] <;> rfl)
    ·
     refine oP 15 yF rfl (Eq.trans (r_bin rfl rfl rfl (b_eql rfl)) (dF hc4)) <| OA.ps [(13, yF)] rfl <| OA.nil fun _ => RA.condF rfl <| RA.sR hd env_ok <| OA.ps [(17, (.int .i64 t))] rfl <| oC 18 (hd.up (by omega)) rfl rfl (rKind (t)) fun n1 hn1 => ?_
     by_cases hc5 : (((kd (t)) : Nat) : Int) = 20
     ·
      refine oP 19 yT rfl (Eq.trans (r_bin rfl rfl rfl (b_eql rfl)) (dT hc5)) <| OA.ps [(16, yT)] rfl <| OA.nil fun _ => RA.condT rfl <| RA.sR hd env_ok <| OA.ps [(2, (.int .i64 255))] rfl <| OA.nil fun _ => ?_
      refine RA.ret env_ok ?_
      exact lf (.int .i64 255) (by rw [show fl t = 255 from by have := fl_cases t; have := kd_cases t; omega] <;> rfl)
     ·
      refine oP 19 yF rfl (Eq.trans (r_bin rfl rfl rfl (b_eql rfl)) (dF hc5)) <| OA.ps [(16, yF)] rfl <| OA.nil fun _ => RA.condF rfl <| RA.skip env_ok ?_
      intro _
      refine RA.sR hd env_ok <| OA.ps [(2, (.int .i64 0))] rfl <| OA.nil fun _ => ?_
      refine RA.ret env_ok ?_
      exact lf (.int .i64 0) (by rw [show fl t = 0 from by have := fl_cases t; have := kd_cases t; omega] <;> rfl)
theorem rWord {σ : Store} (t : Int) (b : Bool) (hb : b = true ↔ wordP t)   : PS Try.prog noDen 110 [(.int .i64 t)] σ (.bool b) := by
 refine PS.body (E := env) env_ok rfl rfl (by show _ ≤ _; exact of_decide_eq_true (by kernel_rfl)) (fun n hd => ?_)
 refine RA.sR hd env_ok <| OA.ps [(2, yF)] rfl <| OA.nil fun _ => RA.sR hd env_ok <| OA.ps [(3, (.int .i64 t))] rfl ?_
 by_cases hc1 : 0 ≤ t
 ·
  refine oP 4 yT rfl (Eq.trans (r_bin rfl rfl rfl (b_geq rfl)) (dT hc1)) <| OA.ps [(5, yT), (6, (.int .i64 t))] rfl ?_
  by_cases hc2 : t ≤ 65535
  ·
   refine oP 7 yT rfl (Eq.trans (r_bin rfl rfl rfl (b_leq rfl)) (dT hc2)) <| OA.ps [(8, yT), (2, yT)] rfl <| OA.nil fun _ => ?_
   refine RA.ret env_ok ?_
   exact lf yT (bt hb (by first | omega | (unfold wordP; omega)))
  ·
   refine oP 7 yF rfl (Eq.trans (r_bin rfl rfl rfl (b_leq rfl)) (dF hc2)) <| OA.ps [(8, yF), (2, yF)] rfl <| OA.nil fun _ => ?_
   refine RA.ret env_ok ?_
   exact lf yF (bf hb (fun q => by first | omega | (unfold wordP at q; omega)))
 ·
  refine oP 4 yF rfl (Eq.trans (r_bin rfl rfl rfl (b_geq rfl)) (dF hc1)) <| OA.ps [(5, yF)] rfl <| OA.offs 6 2 rfl <| OA.ps [(8, yF), (2, yF)] rfl <| OA.nil fun _ => ?_
  refine RA.ret env_ok ?_
  exact lf yF (bf hb (fun q => by first | omega | (unfold wordP at q; omega)))
theorem r4May {σ : Store} (t : Int) (v : ByteArray) (b : Bool) (hb : b = true ↔ prmOk t v)   : PS Try.prog noDen 73 [(.agg ⟨[(.int .i64 t), (.string v)]⟩)] σ (.bool b) := by
 refine PS.body (E := env) env_ok rfl rfl (by show _ ≤ _; exact of_decide_eq_true (by kernel_rfl)) (fun n hd => ?_)
 refine RA.sR hd env_ok <| o1 (some 1) (Pt n 0 0) (n + 1) (n, some ⟨[[(.int .i64 t), (.string v)]], 2, 79, true⟩) rfl <| OA.ps [(2, yF)] rfl <| OA.nil fun _ => RA.sR hd env_ok <| OA.ps [(3, (Pt n 0 0))] rfl <| oL 4 (.int .i64 t) get_here ?_
 by_cases hc1 : 0 ≤ t
 ·
  refine oP 5 yT rfl (Eq.trans (r_bin rfl rfl rfl (b_geq rfl)) (dT hc1)) <| OA.ps [(6, yT), (7, (Pt n 0 0))] rfl <| oL 8 (.int .i64 t) get_here ?_
  by_cases hc2 : t ≤ 65535
  ·
   refine oP 9 yT rfl (Eq.trans (r_bin rfl rfl rfl (b_leq rfl)) (dT hc2)) <| OA.ps [(10, yT), (11, yT), (12, (Pt n 0 1))] rfl <| oL 13 (.string v) get_here <| OA.ps [(14, (.int .i64 ((v.size : Nat) : Int)))] rfl ?_
   by_cases hc3 : ((v.size : Nat) : Int) ≤ 1000
   ·
    refine oP 15 yT rfl (Eq.trans (r_bin rfl rfl rfl (b_leq rfl)) (dT hc3)) <| OA.ps [(16, yT), (2, yT)] rfl <| OA.nil fun _ => ?_
    refine RA.ret env_ok ?_
    exact lf yT (bt hb (by first | omega | (unfold prmOk; omega)))
   ·
    refine oP 15 yF rfl (Eq.trans (r_bin rfl rfl rfl (b_leq rfl)) (dF hc3)) <| OA.ps [(16, yF), (2, yF)] rfl <| OA.nil fun _ => ?_
    refine RA.ret env_ok ?_
    exact lf yF (bf hb (fun q => by first | omega | (unfold prmOk at q; omega)))
  ·
   refine oP 9 yF rfl (Eq.trans (r_bin rfl rfl rfl (b_leq rfl)) (dF hc2)) <| OA.ps [(10, yF), (11, yF)] rfl <| OA.offs 12 4 rfl <| OA.ps [(16, yF), (2, yF)] rfl <| OA.nil fun _ => ?_
   refine RA.ret env_ok ?_
   exact lf yF (bf hb (fun q => by first | omega | (unfold prmOk at q; omega)))
 ·
  refine oP 5 yF rfl (Eq.trans (r_bin rfl rfl rfl (b_geq rfl)) (dF hc1)) <| OA.ps [(6, yF)] rfl <| OA.offs 7 3 rfl <| OA.ps [(10, yF), (11, yF)] rfl <| OA.offs 12 4 rfl <| OA.ps [(16, yF), (2, yF)] rfl <| OA.nil fun _ => ?_
  refine RA.ret env_ok ?_
  exact lf yF (bf hb (fun q => by first | omega | (unfold prmOk at q; omega)))
theorem r4PutN {σ : Store} (m : Nat) (v : ByteArray) (h : prmOk ((m : Nat) : Int) v)   : PS Try.prog noDen 43 [(.agg ⟨[(.int .i64 ((m : Nat) : Int)), (.string v)]⟩)] σ (.string (bstr (pB ((m : Nat) : Int) v))) := by
 have h1 := h.1
 have h2 := h.2.1
 have h3 := h.2.2
 refine PS.body (E := env) env_ok rfl rfl (by show _ ≤ _; exact of_decide_eq_true (by kernel_rfl)) (fun n hd => ?_)
 refine RA.sR hd env_ok <| o1 (some 1) (Pt n 0 0) (n + 1) (n, some ⟨[[(.int .i64 ((m : Nat) : Int)), (.string v)]], 2, 79, true⟩) rfl <| OA.ps [(2, (.string (ByteArray.mk #[])))] rfl <| OA.nil fun _ => RA.seq hd <| RA.sR hd env_ok <| oP 3 (.agg ⟨[(.int .i64 ((m : Nat) : Int)), (.string v)]⟩) rfl (r_loadA rfl rfl rfl rfl get_here rfl rfl rfl) <| oC 4 (hd.of (by omega) (kb1 (by omega))) rfl rfl (r4May ((m : Nat) : Int) v true (bT h)) fun n1 hn1 => OA.ps [(5, yF)] rfl <| OA.nil fun _ => RA.condF rfl ?_
 refine RA.skip env_ok ?_
 intro _
 refine RA.seq hd <| RA.par (md := [some [], some [n], some [], none, some [], some [n], some [], some [], some [], none, some [], some [], some [n], some [], none, some []]) env_ok (hd.of (by omega) (kb1 (by omega))) (by kernel_rfl) <| PQ.ps [(6, (Pt n 0 0))] rfl <| pQl 7 (.int .i64 ((m : Nat) : Int)) get_here <| pP 8 (.int .u64 ((m : Nat) : Int)) rfl (r_cvt rfl rfl rfl rfl rfl ⟨_, rfl⟩ (u64_eq (by omega))) <| pA 9 (V := []) (hd.of (by omega) (kb1 (by omega))) rfl rfl (by kernel_rfl) (by kernel_rfl) (lPut2 m (by omega)) fun n2 hn2 => PQ.ps [(10, (Pt n 0 1))] rfl <| pQl 11 (.string v) get_here <| PQ.ps [(12, (.int .i64 ((v.size : Nat) : Int)))] rfl <| pP 13 (.int .i64 (((v.size + 4) : Nat) : Int)) rfl (r_bin rfl rfl rfl (b_add (i64_eq (by omega)))) <| pP 14 (.int .u64 (((v.size + 4) : Nat) : Int)) rfl (r_cvt rfl rfl rfl rfl rfl ⟨_, rfl⟩ (u64_eq (by omega))) ?_
 refine pA 15 (V := []) (hd.of (by omega) (kb1 (by omega))) rfl rfl (by kernel_rfl) (by kernel_rfl) (lPut2 (v.size + 4) (by omega)) fun n3 hn3 => pP 16 (.string (bstr ((be2 m) ++ (be2 (v.size + 4))))) rfl (Eq.trans (r_cat rfl rfl rfl (by simp only [bstr_size, size_lit, List.length_append, be2_len, be4_len, be1_len, List.length_replicate, List.length_cons, List.length_nil, List.size_toArray]; omega)) (by rw [bstr_app] <;> rfl)) <| PQ.ps [(17, (Pt n 0 1))] rfl <| pQl 18 (.string v) get_here <| pP 19 (.string (bstr (((be2 m) ++ (be2 (v.size + 4))) ++ L v))) rfl (Eq.trans (r_cat rfl rfl rfl (by simp only [bstr_size, List.length_append, be2_len, be4_len, be1_len]; omega)) (by rw [bstr_appL] <;> rfl)) <| pA 20 (v := (.string (bstr (pB ((m : Nat) : Int) v)))) (V := []) (hd.of (by omega) (kb1 (by omega))) rfl rfl (by kernel_rfl) (by kernel_rfl) (PS.to (lRF (be2 m ++ be2 (v.size + 4) ++ L v) (by simp only [List.length_append, be2_len, L_len]; omega)) (by unfold pB pL; rw [L_len] <;> rfl)) fun n4 hn4 => PQ.ps [(2, (.string (bstr (pB ((m : Nat) : Int) v))))] rfl <| PQ.done (d := []) (by kernel_rfl) fun _ => ?_
 refine RA.ret env_ok ?_
 exact lf (.string (bstr (pB ((m : Nat) : Int) v))) rfl
theorem r4Put {σ : Store} (t : Int) (v : ByteArray) (h : prmOk t v) : PS Try.prog noDen 43 [(.agg ⟨[(.int .i64 t), (.string v)]⟩)] σ (.string (bstr (pB t v))) := by
  obtain ⟨m, rfl⟩ := Int.eq_ofNat_of_zero_le h.1
  exact r4PutN m v h
theorem r4All {σ : Store} (l : List Prp) (N : Nat) (hl : l.length = N) (j : Nat) (h : prpsOk l) (h16 : N ≤ 16) (hj : σ j = some (oPrp l))  : PS Try.prog noDen 111 [(.slice (some ⟨j, 0, none⟩) N 0)] σ (.string (bstr (qsL l))) := by
 refine PS.body (E := env) env_ok rfl rfl (by show _ ≤ _; exact of_decide_eq_true (by kernel_rfl)) (fun n hd => ?_)
 have lhj := hd.lt hj
 refine RA.sR hd env_ok <| OA.ps [(2, (.string (ByteArray.mk #[])))] rfl <| OA.nil fun _ => RA.sR hd env_ok <| OA.ps [(3, (.string (ByteArray.mk #[])))] rfl <| OA.nil fun _ => RA.seq hd <| RA.sR hd env_ok <| OA.ps [(4, (.int .i64 0))] rfl <| OA.nil fun _ => RA.block ?_
 refine RA.loop hd (fun kk_ τ n' D => (∃ i : Nat, kk_ = (N - i) ∧ n ≤ n' ∧ Has τ [(0, (.slice (some ⟨j, 0, none⟩) N 0)), (3, (.string (bstr (qsL (l.take i))))), (4, (.int .i64 ((i : Nat) : Int)))] ∧ D = [] ∧ (∀ i ∈ keys D, i < n') ∧ i ≤ N)) ((N - 0)) (⟨0, rfl, by omega, ⟨rfl, rfl, rfl, trivial⟩, rfl, (fun i hi => by cases hi), by omega⟩) ?_
 rintro kn1 τ1 n1 _ ⟨i, rfl, hn1, hHn1, rfl, hKn1, hIn1⟩
 rw [Has.eq hHn1]
 have hil := hIn1
 have hpl := qsL_len h (i := i) (by omega)
 refine RA.seq hd <| RA.sR hd env_ok <| OA.ps [(5, (.int .i64 ((i : Nat) : Int))), (6, (.slice (some ⟨j, 0, none⟩) N 0)), (7, (.int .i64 ((N : Nat) : Int)))] rfl ?_
 by_cases hc1 : ((i : Nat) : Int) < ((N : Nat) : Int)
 ·
  have hok := h _ (getD_mem (d := dPrp) (show i < l.length by omega))
  have hpb := pB_len hok
  refine oP 8 yT rfl (Eq.trans (r_bin rfl rfl rfl (b_lss rfl)) (dT hc1)) <| OA.nil fun _ => RA.condT rfl <| RA.skip env_ok ?_
  intro _
  refine RA.seq hd <| RA.block <| RA.region env_ok <| OA.ps [(11, (.string (bstr (qsL (l.take i))))), (12, (.slice (some ⟨j, 0, none⟩) N 0)), (13, (.int .i64 ((i : Nat) : Int)))] rfl <| oP 14 (Pt j i 0) rfl (r_iaS (l := i) rfl rfl rfl rfl rfl rfl (by omega) (by omega) hj rfl (by omega)) <| oP 15 (.agg ⟨(cPrp (l.getD i dPrp))⟩) rfl (r_loadR (c := cPrp) dPrp rfl rfl rfl rfl hj (by rw [hl]; omega) rfl) <| oC 16 (hd.up (by omega)) rfl rfl (r4Put ((l.getD i dPrp).typ) (l.getD i dPrp).val (by assumption)) fun n2 hn2 => oP 17 (.string (bstr ((qsL (l.take i)) ++ (pB ((l.getD i dPrp).typ) (l.getD i dPrp).val)))) rfl (Eq.trans (r_cat rfl rfl rfl (by simp only [bstr_size, size_lit, List.length_append, be2_len, be4_len, be1_len, List.length_replicate, List.length_cons, List.length_nil, List.size_toArray]; omega)) (by rw [bstr_app] <;> rfl)) <| OA.ps [(3, (.string (bstr ((qsL (l.take i)) ++ (pB ((l.getD i dPrp).typ) (l.getD i dPrp).val)))))] rfl <| OA.nil fun _ => RA.region env_ok ?_
  refine OA.ps [(9, (.int .i64 ((i : Nat) : Int)))] rfl <| oP 10 (.int .i64 (((i + 1) : Nat) : Int)) rfl (r_bin rfl rfl rfl (b_add (i64_eq (by omega)))) <| OA.ps [(4, (.int .i64 (((i + 1) : Nat) : Int)))] rfl <| OA.nil ?_
  refine ⟨(N - (i + 1)), by omega, [], (Less.refl _ _ _), ⟨(i + 1), rfl, by omega, ⟨rfl, (by rw [qsL_snoc (l := l) (i := i) (by omega)] <;> rfl), rfl, trivial⟩, rfl, (fun i hi => by cases hi), by omega⟩⟩
 ·
  refine oP 8 yF rfl (Eq.trans (r_bin rfl rfl rfl (b_lss rfl)) (dF hc1)) <| OA.nil fun _ => RA.condF rfl ?_
  refine RA.exit env_ok ?_
  intro _
  refine RA.sR hd env_ok <| OA.ps [(18, (.string (bstr (qsL (l.take i))))), (2, (.string (bstr (qsL (l.take i)))))] rfl <| OA.nil fun _ => ?_
  refine RA.ret env_ok ?_
  exact lf (.string (bstr (qsL (l.take i)))) (by rw [take_full (by omega)] <;> rfl)
theorem rParams {n : Nat} {σ : Store} (hd : Dom n σ) (l : List Prm) (v : Value) (h18 : l.length ≤ 18) (hv : RowQ σ 35 2 v (l.map cPrm))   : CQ Try.prog noDen 108 [v] n σ (fun v n' d => ∃ k, n ≤ k ∧ k < n' ∧ v = (.slice (some ⟨k, 0, none⟩) l.length 0) ∧ d = [(k, some (oPrp (l.map toP)))]) := by
 refine CQ.body (E := env) env_ok hd rfl rfl (by show _ ≤ _; exact of_decide_eq_true (by kernel_rfl)) ?_
 refine RA.sR hd env_ok <| OA.ps [(2, (.slice none 0 0))] rfl <| OA.nil fun _ => RA.sR hd env_ok <| o1 (some 5) (.slice (some ⟨n, 0, none⟩) 0 0) (n + 1) (n, some (oPrp ([] : List Prp))) (by kernel_rfl) <| OA.ps [(3, (.slice (some ⟨n, 0, none⟩) 0 0))] rfl <| OA.nil fun _ => RA.seq hd <| RA.sR hd env_ok <| OA.ps [(4, (.int .i64 0))] rfl <| OA.nil fun _ => ?_
 refine RA.block ?_
 refine RA.loop hd (fun kk_ τ n' D => (∃ i : Nat, ∃ k : Nat, kk_ = (l.length - i) ∧ (n + 1) ≤ n' ∧ Has τ [(0, v), (3, (.slice (some ⟨k, 0, none⟩) i 0)), (4, (.int .i64 ((i : Nat) : Int)))] ∧ D = [(k, some (oPrp ((l.take i).map toP)))] ∧ (∀ i ∈ keys D, i < n') ∧ i ≤ l.length ∧ n ≤ k)) ((l.length - 0)) (⟨0, n, rfl, by omega, ⟨rfl, rfl, rfl, trivial⟩, rfl, (kb1 (by omega)), ⟨by omega, by omega⟩⟩) ?_
 rintro kn1 τ1 n1 _ ⟨i, k, rfl, hn1, hHn1, rfl, hKn1, hIn1⟩
 rw [Has.eq hHn1]
 have hKn1_0 := kk0 hKn1
 clear hKn1
 obtain ⟨hil, hk1⟩ := hIn1
 refine RA.seq hd <| RA.sR hd env_ok <| OA.ps [(6, (.int .i64 ((i : Nat) : Int))), (7, v)] rfl <| oP 8 (.int .i64 ((l.length : Nat) : Int)) rfl (r_lenQ (c := cPrm) rfl rfl rfl rfl rfl rfl hv rfl) ?_
 by_cases hc1 : ((i : Nat) : Int) < ((l.length : Nat) : Int)
 ·
  obtain ⟨rv, wqhatv, hatv⟩ := hv.get (m := i) (by omega)
  have lathatv := hd.lt hatv
  refine oP 9 yT rfl (Eq.trans (r_bin rfl rfl rfl (b_lss rfl)) (dT hc1)) <| OA.nil fun _ => RA.condT rfl <| RA.skip env_ok ?_
  intro _
  refine RA.seq hd <| RA.block <| RA.region env_ok <| OA.ps [(12, (.slice (some ⟨k, 0, none⟩) i 0)), (13, v), (14, (.int .i64 ((i : Nat) : Int)))] rfl <| oP 15 (.pointer (some ⟨(rk v), i, some 0⟩)) rfl (r_iaQ (c := cPrm) (m := i) rfl rfl rfl rfl rfl rfl hv rfl (by omega) (get_there (by omega) hatv) rfl) <| oP 16 (.agg ⟨(cPrm (l.getD i dPrm))⟩) rfl (r_loadA (e := cPrm (l.getD i dPrm)) rfl rfl rfl rfl (get_there (by omega) hatv) (mp_getA (by omega)) rfl rfl) <| o1 (some 17) (.slice (some ⟨n1, 0, none⟩) 1 0) (n1 + 1) (n1, some ⟨[[(.int .i64 (l.getD i dPrm).typ), (.string (l.getD i dPrm).val)]], 2, 79, true⟩) (by kernel_rfl) <| OA.op (dst := (some 18)) (v := (.slice (some ⟨(n1 + 1), 0, none⟩) (i + 1) 0)) (n1 := (n1 + 2)) (d1 := [((n1 + 1), some (oPrp ((l.take (i + 1)).map toP))), (k, none)]) (D' := [((n1 + 1), some (oPrp ((l.take (i + 1)).map toP))), (k, none), (n1, some ⟨[[(.int .i64 (l.getD i dPrm).typ), (.string (l.getD i dPrm).val)]], 2, 79, true⟩), (k, some (oPrp ((l.take i).map toP)))]) rfl rfl rfl (r_appendR (c := cPrp) (l' := ((l.take (i + 1)).map toP)) rfl rfl rfl rfl rfl rfl rfl rfl rfl rfl (by decide) (get_there (by omega) get_here) get_here (by rw [toP_len (by omega)]) (toP_snoc (by omega)) (by omega) (of_decide_eq_true (by kernel_rfl)) (by omega)) (by omega) rfl <| OA.ps [(3, (.slice (some ⟨(n1 + 1), 0, none⟩) (i + 1) 0))] rfl <| OA.nil fun _ => RA.region env_ok ?_
  refine OA.ps [(10, (.int .i64 ((i : Nat) : Int)))] rfl <| oP 11 (.int .i64 (((i + 1) : Nat) : Int)) rfl (r_bin rfl rfl rfl (b_add (i64_eq (by omega)))) <| OA.ps [(4, (.int .i64 (((i + 1) : Nat) : Int)))] rfl <| OA.nil ?_
  refine ⟨(l.length - (i + 1)), by omega, [((n1 + 1), some (oPrp ((l.take (i + 1)).map toP)))], (LsO (fA get_here get_here fan)), ⟨(i + 1), (n1 + 1), rfl, by omega, ⟨rfl, rfl, rfl, trivial⟩, rfl, (kb1 (by omega)), ⟨by omega, by omega⟩⟩⟩
 ·
  refine oP 9 yF rfl (Eq.trans (r_bin rfl rfl rfl (b_lss rfl)) (dF hc1)) <| OA.nil fun _ => RA.condF rfl ?_
  refine RA.exit env_ok ?_
  intro _
  refine RA.sR hd env_ok <| OA.ps [(19, (.slice (some ⟨k, 0, none⟩) i 0)), (2, (.slice (some ⟨k, 0, none⟩) i 0))] rfl <| OA.nil fun _ => ?_
  refine RA.ret env_ok ?_
  refine ⟨.inr rfl, [(.slice (some ⟨k, 0, none⟩) i 0)], (resL_cons rfl resL_nil), [(k, some (oPrp ((l.take i).map toP)))], (Less.refl _ _ _), ⟨k, by omega, by omega, by rw [show i = l.length from by omega] <;> rfl, by rw [take_full (by omega)] <;> rfl⟩⟩
theorem rCauses {n : Nat} {σ : Store} (hd : Dom n σ) (l : List Cau) (v : Value) (h18 : l.length ≤ 18) (hv : RowQ σ 99 2 v (l.map cCau))   : CQ Try.prog noDen 109 [v] n σ (fun v n' d => ∃ k, n ≤ k ∧ k < n' ∧ v = (.slice (some ⟨k, 0, none⟩) l.length 0) ∧ d = [(k, some (oPrp (l.map toC)))]) := by
 refine CQ.body (E := env) env_ok hd rfl rfl (by show _ ≤ _; exact of_decide_eq_true (by kernel_rfl)) ?_
 refine RA.sR hd env_ok <| OA.ps [(2, (.slice none 0 0))] rfl <| OA.nil fun _ => RA.sR hd env_ok <| o1 (some 5) (.slice (some ⟨n, 0, none⟩) 0 0) (n + 1) (n, some (oPrp ([] : List Prp))) (by kernel_rfl) <| OA.ps [(3, (.slice (some ⟨n, 0, none⟩) 0 0))] rfl <| OA.nil fun _ => RA.seq hd <| RA.sR hd env_ok <| OA.ps [(4, (.int .i64 0))] rfl <| OA.nil fun _ => ?_
 refine RA.block ?_
 refine RA.loop hd (fun kk_ τ n' D => (∃ i : Nat, ∃ k : Nat, kk_ = (l.length - i) ∧ (n + 1) ≤ n' ∧ Has τ [(0, v), (3, (.slice (some ⟨k, 0, none⟩) i 0)), (4, (.int .i64 ((i : Nat) : Int)))] ∧ D = [(k, some (oPrp ((l.take i).map toC)))] ∧ (∀ i ∈ keys D, i < n') ∧ i ≤ l.length ∧ n ≤ k)) ((l.length - 0)) (⟨0, n, rfl, by omega, ⟨rfl, rfl, rfl, trivial⟩, rfl, (kb1 (by omega)), ⟨by omega, by omega⟩⟩) ?_
 rintro kn1 τ1 n1 _ ⟨i, k, rfl, hn1, hHn1, rfl, hKn1, hIn1⟩
 rw [Has.eq hHn1]
 have hKn1_0 := kk0 hKn1
 clear hKn1
 obtain ⟨hil, hk1⟩ := hIn1
 refine RA.seq hd <| RA.sR hd env_ok <| OA.ps [(6, (.int .i64 ((i : Nat) : Int))), (7, v)] rfl <| oP 8 (.int .i64 ((l.length : Nat) : Int)) rfl (r_lenQ (c := cCau) rfl rfl rfl rfl rfl rfl hv rfl) ?_
 by_cases hc1 : ((i : Nat) : Int) < ((l.length : Nat) : Int)
 ·
  obtain ⟨rv, wqhatv, hatv⟩ := hv.get (m := i) (by omega)
  have lathatv := hd.lt hatv
  refine oP 9 yT rfl (Eq.trans (r_bin rfl rfl rfl (b_lss rfl)) (dT hc1)) <| OA.nil fun _ => RA.condT rfl <| RA.skip env_ok ?_
  intro _
  refine RA.seq hd <| RA.block <| RA.par (md := [some [], some [], some [], none, some [], none, some [], some [], none, some [], none, some [], some [], none, some []]) env_ok (hd.of (by omega) (kb1 (by omega))) (by kernel_rfl) <| PQ.ps [(12, (.slice (some ⟨k, 0, none⟩) i 0)), (13, v), (14, (.int .i64 ((i : Nat) : Int)))] rfl <| PQ.pure (dst := (some 15)) (v := (.pointer (some ⟨(rk v), i, some 0⟩))) rfl rfl rfl _ (sA (V := []) (by kernel_rfl) (by kernel_rfl)) (r_iaQ (c := cCau) (m := i) rfl rfl rfl rfl rfl rfl hv rfl (by omega) (get_there (by omega) hatv) rfl) <| PQ.ps [(16, (.pointer (some ⟨(rk v), i, some 0⟩)))] rfl <| PQ.pure (dst := (some 17)) (v := (.int .i64 (l.getD i dCau).code)) rfl rfl rfl _ (sA (V := []) (by kernel_rfl) (by kernel_rfl)) (r_load1 (e := cCau (l.getD i dCau)) rfl rfl rfl rfl rfl (get_there (by omega) hatv) (mp_getA (by omega)) rfl) <| PQ.ps [(18, v), (19, (.int .i64 ((i : Nat) : Int)))] rfl <| PQ.pure (dst := (some 20)) (v := (.pointer (some ⟨(rk v), i, some 0⟩))) rfl rfl rfl _ (sA (V := []) (by kernel_rfl) (by kernel_rfl)) (r_iaQ (c := cCau) (m := i) rfl rfl rfl rfl rfl rfl hv rfl (by omega) (get_there (by omega) hatv) rfl) <| PQ.ps [(21, (.pointer (some ⟨(rk v), i, some 1⟩)))] rfl <| PQ.pure (dst := (some 22)) (v := (.string (l.getD i dCau).info)) rfl rfl rfl _ (sA (V := []) (by kernel_rfl) (by kernel_rfl)) (r_load1 (e := cCau (l.getD i dCau)) rfl rfl rfl rfl rfl (get_there (by omega) hatv) (mp_getA (by omega)) rfl) ?_
  refine pP 23 (.agg ⟨[(.int .i64 (l.getD i dCau).code), (.string (l.getD i dCau).info)]⟩) rfl (by kernel_rfl) <| PQ.op (dst := (some 24)) (v := (.slice (some ⟨n1, 0, none⟩) 1 0)) (n1 := (n1 + 1)) (d1 := [(n1, some ⟨[[(.int .i64 (l.getD i dCau).code), (.string (l.getD i dCau).info)]], 2, 79, true⟩)]) rfl rfl rfl noStore nOK (by kernel_rfl) (by omega) (kp1 (wr_new (by omega) (by omega))) <| PQ.op (dst := (some 25)) (v := (.slice (some ⟨(n1 + 1), 0, none⟩) (i + 1) 0)) (n1 := (n1 + 2)) (d1 := [((n1 + 1), some (oPrp ((l.take (i + 1)).map toC))), (k, none)]) rfl rfl rfl _ (sA (V := [(n1, some ⟨[[(.int .i64 (l.getD i dCau).code), (.string (l.getD i dCau).info)]], 2, 79, true⟩)]) (by kernel_rfl) (by kernel_rfl)) (r_appendR (c := cPrp) (l' := ((l.take (i + 1)).map toC)) rfl rfl rfl rfl rfl rfl rfl rfl rfl rfl (by decide) (get_there (by omega) get_here) get_here (by rw [toC_len (by omega)]) (toC_snoc (by omega)) (by omega) (of_decide_eq_true (by kernel_rfl)) (by omega)) (by omega) (kp2 (wr_new (by omega) (by omega)) (wr_tight (by kernel_rfl) (by omega))) <| PQ.ps [(3, (.slice (some ⟨(n1 + 1), 0, none⟩) (i + 1) 0))] rfl <| PQ.done (d := [((n1 + 1), some (oPrp ((l.take (i + 1)).map toC))), (k, none), (n1, some ⟨[[(.int .i64 (l.getD i dCau).code), (.string (l.getD i dCau).info)]], 2, 79, true⟩)]) (by kernel_rfl) fun _ => RA.region env_ok <| OA.ps [(10, (.int .i64 ((i : Nat) : Int)))] rfl <| oP 11 (.int .i64 (((i + 1) : Nat) : Int)) rfl (r_bin rfl rfl rfl (b_add (i64_eq (by omega)))) <| OA.ps [(4, (.int .i64 (((i + 1) : Nat) : Int)))] rfl <| OA.nil ?_
  refine ⟨(l.length - (i + 1)), by omega, [((n1 + 1), some (oPrp ((l.take (i + 1)).map toC)))], (LsO (fA get_here get_here fan)), ⟨(i + 1), (n1 + 1), rfl, by omega, ⟨rfl, rfl, rfl, trivial⟩, rfl, (kb1 (by omega)), ⟨by omega, by omega⟩⟩⟩
 ·
  refine oP 9 yF rfl (Eq.trans (r_bin rfl rfl rfl (b_lss rfl)) (dF hc1)) <| OA.nil fun _ => RA.condF rfl ?_
  refine RA.exit env_ok ?_
  intro _
  refine RA.sR hd env_ok <| OA.ps [(26, (.slice (some ⟨k, 0, none⟩) i 0)), (2, (.slice (some ⟨k, 0, none⟩) i 0))] rfl <| OA.nil fun _ => ?_
  refine RA.ret env_ok ?_
  refine ⟨.inr rfl, [(.slice (some ⟨k, 0, none⟩) i 0)], (resL_cons rfl resL_nil), [(k, some (oPrp ((l.take i).map toC)))], (Less.refl _ _ _), ⟨k, by omega, by omega, by rw [show i = l.length from by omega] <;> rfl, by rw [take_full (by omega)] <;> rfl⟩⟩
theorem rGaps {σ : Store} (d : Chk) (b : Bool) (hb : b = true ↔ gapsP d.gs)  (h : gd σ d) : PS Try.prog noDen 107 [d.gv] σ (.bool b) := by
 have hp18 := h.p18
 have hc18 := h.c18
 have hg18 := h.g18
 have hd18 := h.u18
 have hfl := h.fl
 have hgr := h.gr
 refine PS.body (E := env) env_ok rfl rfl (by show _ ≤ _; exact of_decide_eq_true (by kernel_rfl)) (fun n hd => ?_)
 refine RA.sR hd env_ok <| OA.ps [(2, yF)] rfl <| OA.nil fun _ => RA.sR hd env_ok <| OA.ps [(3, (.int .i64 0))] rfl <| OA.nil fun _ => RA.seq hd <| RA.sR hd env_ok <| OA.ps [(4, (.int .i64 0))] rfl <| OA.nil fun _ => RA.block ?_
 refine RA.loop hd (fun kk_ τ n' D => (∃ i : Nat, ∃ a : Int, kk_ = (d.gs.length - i) ∧ n ≤ n' ∧ Has τ [(0, d.gv), (3, (.int .i64 a)), (4, (.int .i64 ((i : Nat) : Int)))] ∧ D = [] ∧ (∀ i ∈ keys D, i < n') ∧ i ≤ d.gs.length ∧ 0 ≤ a ∧ a < 65536 ∧ (risP 0 d.gs ↔ risP a (d.gs.drop i)))) ((d.gs.length - 0)) (⟨0, 0, rfl, by omega, ⟨rfl, rfl, rfl, trivial⟩, rfl, (fun i hi => by cases hi), ⟨by omega, by omega, by omega, Iff.rfl⟩⟩) ?_
 rintro kn1 τ1 n1 _ ⟨i, a, rfl, hn1, hHn1, rfl, hKn1, hIn1⟩
 rw [Has.eq hHn1]
 obtain ⟨hil, ha0, ha1, hris⟩ := hIn1
 refine RA.seq hd <| RA.sR hd env_ok <| OA.ps [(5, (.int .i64 ((i : Nat) : Int))), (6, d.gv)] rfl <| oP 7 (.int .i64 ((d.gs.length : Nat) : Int)) rfl (r_lenQ (c := cGp) rfl rfl rfl rfl rfl rfl h.hg rfl) ?_
 by_cases hc1 : ((i : Nat) : Int) < ((d.gs.length : Nat) : Int)
 ·
  obtain ⟨rg, wqhatg, hatg⟩ := h.hg.get (m := i) (by omega)
  have lathatg := hd.lt hatg
  have hri := hris.trans (ris_cons (by omega))
  have hlo := hgr _ (getD_mem (d := dGp) (show i < d.gs.length by omega))
  refine oP 8 yT rfl (Eq.trans (r_bin rfl rfl rfl (b_lss rfl)) (dT hc1)) <| OA.nil fun _ => RA.condT rfl <| RA.skip env_ok ?_
  intro _
  refine RA.seq hd <| RA.block <| RA.seq hd <| RA.seq hd <| RA.par (md := [some [], some [], none, some [], none, some [], some [], some [], some [], none, some [], none, some [], some [], some [], some [], some [], some [], some [], none, some [], none, some [], some [], none, some [], none, some [], some [], some [], some [], some [], none, some [], none, some [], some []]) env_ok (hd.up (by omega)) (by kernel_rfl) <| PQ.ps [(11, d.gv), (12, (.int .i64 ((i : Nat) : Int)))] rfl <| PQ.pure (dst := (some 13)) (v := (.pointer (some ⟨(rk d.gv), i, some 0⟩))) rfl rfl rfl _ (sA (V := []) (by kernel_rfl) (by kernel_rfl)) (r_iaQ (c := cGp) (m := i) rfl rfl rfl rfl rfl rfl h.hg rfl (by omega) hatg rfl) <| PQ.ps [(14, (.pointer (some ⟨(rk d.gv), i, some 0⟩)))] rfl <| PQ.pure (dst := (some 15)) (v := (.int .i64 (d.gs.getD i dGp).lo)) rfl rfl rfl _ (sA (V := []) (by kernel_rfl) (by kernel_rfl)) (r_load1 (e := cGp (d.gs.getD i dGp)) rfl rfl rfl rfl rfl hatg (mp_getA (by omega)) rfl) ?_
  by_cases hc2 : (d.gs.getD i dGp).lo < 2
  ·
   refine pP 16 yT rfl (Eq.trans (r_bin rfl rfl rfl (b_lss rfl)) (dT hc2)) <| PQ.ps [(17, yT)] rfl <| PQ.offs 18 8 rfl <| PQ.ps [(26, yT), (27, yT)] rfl <| PQ.offs 28 11 rfl <| PQ.ps [(39, yT), (40, yT)] rfl <| PQ.offs 41 6 rfl <| PQ.ps [(47, yT)] rfl <| PQ.done (d := []) (by kernel_rfl) fun _ => RA.rb [(0, d.gv), (3, (.int .i64 a)), (4, (.int .i64 ((i : Nat) : Int))), (8, yT), (47, yT)] rfl (fun τr2 => ?_)
   refine RA.condT rfl <| RA.sR hd env_ok <| OA.ps [(2, yF)] rfl <| OA.nil fun _ => ?_
   refine RA.ret env_ok ?_
   exact lf yF (bf hb (fun q => by first | (have q2 := q.2; omega) | (obtain ⟨q1, q2, q3, q4⟩ := hri.1 q.1; omega)))
  ·
   refine pP 16 yF rfl (Eq.trans (r_bin rfl rfl rfl (b_lss rfl)) (dF hc2)) <| PQ.ps [(17, yF), (18, d.gv), (19, (.int .i64 ((i : Nat) : Int)))] rfl <| PQ.pure (dst := (some 20)) (v := (.pointer (some ⟨(rk d.gv), i, some 0⟩))) rfl rfl rfl _ (sA (V := []) (by kernel_rfl) (by kernel_rfl)) (r_iaQ (c := cGp) (m := i) rfl rfl rfl rfl rfl rfl h.hg rfl (by omega) hatg rfl) <| PQ.ps [(21, (.pointer (some ⟨(rk d.gv), i, some 0⟩)))] rfl <| PQ.pure (dst := (some 22)) (v := (.int .i64 (d.gs.getD i dGp).lo)) rfl rfl rfl _ (sA (V := []) (by kernel_rfl) (by kernel_rfl)) (r_load1 (e := cGp (d.gs.getD i dGp)) rfl rfl rfl rfl rfl hatg (mp_getA (by omega)) rfl) <| pP 23 (.int .i64 ((d.gs.getD i dGp).lo - 2)) rfl (r_bin rfl rfl rfl (b_sub (i64_eq (by omega)))) <| PQ.ps [(24, (.int .i64 a))] rfl ?_
   by_cases hc3 : ((d.gs.getD i dGp).lo - 2) < a
   ·
    refine pP 25 yT rfl (Eq.trans (r_bin rfl rfl rfl (b_lss rfl)) (dT hc3)) <| PQ.ps [(26, yT), (27, yT)] rfl <| PQ.offs 28 11 rfl <| PQ.ps [(39, yT), (40, yT)] rfl <| PQ.offs 41 6 rfl <| PQ.ps [(47, yT)] rfl <| PQ.done (d := []) (by kernel_rfl) fun _ => RA.rb [(0, d.gv), (3, (.int .i64 a)), (4, (.int .i64 ((i : Nat) : Int))), (8, yT), (47, yT)] rfl (fun τr3 => ?_)
    refine RA.condT rfl <| RA.sR hd env_ok <| OA.ps [(2, yF)] rfl <| OA.nil fun _ => ?_
    refine RA.ret env_ok ?_
    exact lf yF (bf hb (fun q => by first | (have q2 := q.2; omega) | (obtain ⟨q1, q2, q3, q4⟩ := hri.1 q.1; omega)))
   ·
    refine pP 25 yF rfl (Eq.trans (r_bin rfl rfl rfl (b_lss rfl)) (dF hc3)) <| PQ.ps [(26, yF), (27, yF), (28, d.gv), (29, (.int .i64 ((i : Nat) : Int)))] rfl <| PQ.pure (dst := (some 30)) (v := (.pointer (some ⟨(rk d.gv), i, some 0⟩))) rfl rfl rfl _ (sA (V := []) (by kernel_rfl) (by kernel_rfl)) (r_iaQ (c := cGp) (m := i) rfl rfl rfl rfl rfl rfl h.hg rfl (by omega) hatg rfl) <| PQ.ps [(31, (.pointer (some ⟨(rk d.gv), i, some 1⟩)))] rfl <| PQ.pure (dst := (some 32)) (v := (.int .i64 (d.gs.getD i dGp).hi)) rfl rfl rfl _ (sA (V := []) (by kernel_rfl) (by kernel_rfl)) (r_load1 (e := cGp (d.gs.getD i dGp)) rfl rfl rfl rfl rfl hatg (mp_getA (by omega)) rfl) <| PQ.ps [(33, d.gv), (34, (.int .i64 ((i : Nat) : Int)))] rfl <| PQ.pure (dst := (some 35)) (v := (.pointer (some ⟨(rk d.gv), i, some 0⟩))) rfl rfl rfl _ (sA (V := []) (by kernel_rfl) (by kernel_rfl)) (r_iaQ (c := cGp) (m := i) rfl rfl rfl rfl rfl rfl h.hg rfl (by omega) hatg rfl) <| PQ.ps [(36, (.pointer (some ⟨(rk d.gv), i, some 0⟩)))] rfl <| PQ.pure (dst := (some 37)) (v := (.int .i64 (d.gs.getD i dGp).lo)) rfl rfl rfl _ (sA (V := []) (by kernel_rfl) (by kernel_rfl)) (r_load1 (e := cGp (d.gs.getD i dGp)) rfl rfl rfl rfl rfl hatg (mp_getA (by omega)) rfl) ?_
    by_cases hc4 : (d.gs.getD i dGp).hi < (d.gs.getD i dGp).lo
    ·
     refine pP 38 yT rfl (Eq.trans (r_bin rfl rfl rfl (b_lss rfl)) (dT hc4)) <| PQ.ps [(39, yT), (40, yT)] rfl <| PQ.offs 41 6 rfl <| PQ.ps [(47, yT)] rfl <| PQ.done (d := []) (by kernel_rfl) fun _ => RA.rb [(0, d.gv), (3, (.int .i64 a)), (4, (.int .i64 ((i : Nat) : Int))), (8, yT), (47, yT)] rfl (fun τr4 => ?_)
     refine RA.condT rfl <| RA.sR hd env_ok <| OA.ps [(2, yF)] rfl <| OA.nil fun _ => ?_
     refine RA.ret env_ok ?_
     exact lf yF (bf hb (fun q => by first | (have q2 := q.2; omega) | (obtain ⟨q1, q2, q3, q4⟩ := hri.1 q.1; omega)))
    ·
     refine pP 38 yF rfl (Eq.trans (r_bin rfl rfl rfl (b_lss rfl)) (dF hc4)) <| PQ.ps [(39, yF), (40, yF), (41, d.gv), (42, (.int .i64 ((i : Nat) : Int)))] rfl <| PQ.pure (dst := (some 43)) (v := (.pointer (some ⟨(rk d.gv), i, some 0⟩))) rfl rfl rfl _ (sA (V := []) (by kernel_rfl) (by kernel_rfl)) (r_iaQ (c := cGp) (m := i) rfl rfl rfl rfl rfl rfl h.hg rfl (by omega) hatg rfl) <| PQ.ps [(44, (.pointer (some ⟨(rk d.gv), i, some 1⟩)))] rfl <| PQ.pure (dst := (some 45)) (v := (.int .i64 (d.gs.getD i dGp).hi)) rfl rfl rfl _ (sA (V := []) (by kernel_rfl) (by kernel_rfl)) (r_load1 (e := cGp (d.gs.getD i dGp)) rfl rfl rfl rfl rfl hatg (mp_getA (by omega)) rfl) ?_
     by_cases hc5 : 65535 < (d.gs.getD i dGp).hi
     ·
      refine pP 46 yT rfl (Eq.trans (r_bin rfl rfl rfl (b_gtr rfl)) (dT hc5)) <| PQ.ps [(47, yT)] rfl <| PQ.done (d := []) (by kernel_rfl) fun _ => RA.rb [(0, d.gv), (3, (.int .i64 a)), (4, (.int .i64 ((i : Nat) : Int))), (8, yT), (47, yT)] rfl (fun τr5 => ?_)
      refine RA.condT rfl <| RA.sR hd env_ok <| OA.ps [(2, yF)] rfl <| OA.nil fun _ => ?_
      refine RA.ret env_ok ?_
      exact lf yF (bf hb (fun q => by first | (have q2 := q.2; omega) | (obtain ⟨q1, q2, q3, q4⟩ := hri.1 q.1; omega)))
     ·
      refine pP 46 yF rfl (Eq.trans (r_bin rfl rfl rfl (b_gtr rfl)) (dF hc5)) <| PQ.ps [(47, yF)] rfl <| PQ.done (d := []) (by kernel_rfl) fun _ => RA.rb [(0, d.gv), (3, (.int .i64 a)), (4, (.int .i64 ((i : Nat) : Int))), (8, yT), (47, yF)] rfl (fun τr6 => ?_)
      refine RA.condF rfl <| RA.skip env_ok ?_
      intro _
      refine RA.region env_ok <| OA.ps [(48, d.gv), (49, (.int .i64 ((i : Nat) : Int)))] rfl <| oP 50 (.pointer (some ⟨(rk d.gv), i, some 0⟩)) rfl (r_iaQ (c := cGp) (m := i) rfl rfl rfl rfl rfl rfl h.hg rfl (by omega) hatg rfl) <| OA.ps [(51, (.pointer (some ⟨(rk d.gv), i, some 1⟩)))] rfl <| oP 52 (.int .i64 (d.gs.getD i dGp).hi) rfl (r_load1 (e := cGp (d.gs.getD i dGp)) rfl rfl rfl rfl rfl hatg (mp_getA (by omega)) rfl) <| OA.ps [(3, (.int .i64 (d.gs.getD i dGp).hi))] rfl <| OA.nil fun _ => RA.region env_ok <| OA.ps [(9, (.int .i64 ((i : Nat) : Int)))] rfl <| oP 10 (.int .i64 (((i + 1) : Nat) : Int)) rfl (r_bin rfl rfl rfl (b_add (i64_eq (by omega)))) <| OA.ps [(4, (.int .i64 (((i + 1) : Nat) : Int)))] rfl ?_
      refine OA.nil ?_
      refine ⟨(d.gs.length - (i + 1)), by omega, [], (Less.refl _ _ _), ⟨(i + 1), (d.gs.getD i dGp).hi, rfl, by omega, ⟨rfl, rfl, rfl, trivial⟩, rfl, (fun i hi => by cases hi), ⟨by omega, by omega, by omega, ⟨fun q => (hri.1 q).2.2.2, fun q => hri.2 ⟨by omega, by omega, by omega, q⟩⟩⟩⟩⟩
 ·
  have hrt : risP 0 d.gs := hris.2 (ris_nil (by omega))
  refine oP 8 yF rfl (Eq.trans (r_bin rfl rfl rfl (b_lss rfl)) (dF hc1)) <| OA.nil fun _ => RA.condF rfl ?_
  refine RA.exit env_ok ?_
  intro _
  refine RA.sR hd env_ok <| OA.ps [(53, d.gv)] rfl <| oP 54 (.int .i64 ((d.gs.length : Nat) : Int)) rfl (r_lenQ (c := cGp) rfl rfl rfl rfl rfl rfl h.hg rfl) ?_
  by_cases hc6 : ((d.gs.length : Nat) : Int) ≤ 16
  ·
   refine oP 55 yT rfl (Eq.trans (r_bin rfl rfl rfl (b_leq rfl)) (dT hc6)) <| OA.ps [(2, yT)] rfl <| OA.nil fun _ => ?_
   refine RA.ret env_ok ?_
   exact lf yT (bt hb (⟨hrt, by omega⟩))
  ·
   refine oP 55 yF rfl (Eq.trans (r_bin rfl rfl rfl (b_leq rfl)) (dF hc6)) <| OA.ps [(2, yF)] rfl <| OA.nil fun _ => ?_
   refine RA.ret env_ok ?_
   exact lf yF (bf hb (fun q => by first | (have q2 := q.2; omega) | (obtain ⟨q1, q2, q3, q4⟩ := hri.1 q.1; omega)))
end Go.Proofs.Ytgajcmanompmcaa.Vt
/- Cr2: walks through functions of the program, by the calculus; written by a program of this workplace. -/
namespace Go.Proofs.Ytgajcmanompmcaa.Vt
open Go Go.Proofs Go.Proofs.YtgajcmanompmcaaV
set_option maxRecDepth 100000
set_option linter.unusedVariables false
set_option linter.unusedSimpArgs false
set_option maxHeartbeats 8000000
def hasB (d : Chk) : Bool := (((((((((((decide ((d.tsn.toNat : Int) ≠ 0)) && (!(((((decide ((((kd d.typ) : Nat) : Int) = 0)) || (decide ((((kd d.typ) : Nat) : Int) = 1))) || (decide ((((kd d.typ) : Nat) : Int) = 3))) || (decide ((((kd d.typ) : Nat) : Int) = 7))) || (decide ((((kd d.typ) : Nat) : Int) = 16))))) || (((decide (d.stream ≠ 0)) && (decide ((((kd d.typ) : Nat) : Int) ≠ 0))) && (decide ((((kd d.typ) : Nat) : Int) ≠ 15)))) || (((decide (d.ssn ≠ 0)) && (decide ((((kd d.typ) : Nat) : Int) ≠ 0))) && (decide ((((kd d.typ) : Nat) : Int) ≠ 15)))) || ((decide ((d.proto.toNat : Int) ≠ 0)) && (decide ((((kd d.typ) : Nat) : Int) ≠ 0)))) || ((!(decide (d.data = (ByteArray.mk #[])))) && (!(((((decide ((((kd d.typ) : Nat) : Int) = 0)) || (decide ((((kd d.typ) : Nat) : Int) = 4))) || (decide ((((kd d.typ) : Nat) : Int) = 10))) || (decide ((((kd d.typ) : Nat) : Int) = 15))) || (decide ((((kd d.typ) : Nat) : Int) = 20)))))) || ((((decide ((d.tag.toNat : Int) ≠ 0)) || (decide (d.outs ≠ 0))) || (decide (d.ins ≠ 0))) && (decide ((((kd d.typ) : Nat) : Int) ≠ 1)))) || (((decide ((d.rwnd.toNat : Int) ≠ 0)) && (decide ((((kd d.typ) : Nat) : Int) ≠ 1))) && (decide ((((kd d.typ) : Nat) : Int) ≠ 3)))) || (((decide (0 < ((d.ps.length : Nat) : Int))) && (decide ((((kd d.typ) : Nat) : Int) ≠ 1))) && (decide ((((kd d.typ) : Nat) : Int) ≠ 16)))) || ((decide (0 < ((d.cs.length : Nat) : Int))) && (decide ((((kd d.typ) : Nat) : Int) ≠ 6)))) || ((decide (0 < (((d.gs.length + d.ds.length) : Nat) : Int))) && (decide ((((kd d.typ) : Nat) : Int) ≠ 3))))
theorem hc1 (q t : Nat) : (¬ (t : Int) = 0 ∧ (((¬ (q : Int) = 0 ∧ ¬ (q : Int) = 1) ∧ ¬ (q : Int) = 3) ∧ ¬ (q : Int) = 7) ∧ ¬ (q : Int) = 16) ↔ ¬ ((q = 0 ∨ q = 1 ∨ q = 3 ∨ q = 7 ∨ q = 16) ∨ t = 0) := by omega
theorem hc2 (q : Nat) (s : Int) : ((¬ s = 0 ∧ ¬ (q : Int) = 0) ∧ ¬ (q : Int) = 15) ↔ ¬ ((q = 0 ∨ q = 15) ∨ s = 0) := by omega
theorem hc4 (q t : Nat) : (¬ (t : Int) = 0 ∧ ¬ (q : Int) = 0) ↔ ¬ (q = 0 ∨ t = 0) := by omega
theorem hc5 (q t : Nat) : (¬ t = 0 ∧ (((¬ (q : Int) = 0 ∧ ¬ (q : Int) = 4) ∧ ¬ (q : Int) = 10) ∧ ¬ (q : Int) = 15) ∧ ¬ (q : Int) = 20) ↔ ¬ ((q = 0 ∨ q = 4 ∨ q = 10 ∨ q = 15 ∨ q = 20) ∨ t = 0) := by omega
theorem hc6 (q t : Nat) (o i : Int) : (((¬ (t : Int) = 0 ∨ ¬ o = 0) ∨ ¬ i = 0) ∧ ¬ (q : Int) = 1) ↔ ((¬ (q = 1 ∨ t = 0) ∨ ¬ (q = 1 ∨ o = 0)) ∨ ¬ (q = 1 ∨ i = 0)) := by omega
theorem hc7 (q t : Nat) : ((¬ (t : Int) = 0 ∧ ¬ (q : Int) = 1) ∧ ¬ (q : Int) = 3) ↔ ¬ ((q = 1 ∨ q = 3) ∨ t = 0) := by omega
theorem hc8 (q t : Nat) : ((0 < (t : Int) ∧ ¬ (q : Int) = 1) ∧ ¬ (q : Int) = 16) ↔ ¬ ((q = 1 ∨ q = 16) ∨ t = 0) := by omega
theorem hc9 (q t : Nat) : (0 < (t : Int) ∧ ¬ (q : Int) = 6) ↔ ¬ (q = 6 ∨ t = 0) := by omega
theorem hc10 (q a b : Nat) : (0 < ((a + b : Nat) : Int) ∧ ¬ (q : Int) = 3) ↔ (¬ (q = 3 ∨ a = 0) ∨ ¬ (q = 3 ∨ b = 0)) := by omega
theorem data0 (s : ByteArray) : (s = ByteArray.mk #[]) ↔ s.size = 0 := ⟨fun e => by rw [e]; rfl, fun h => sz0 h⟩
theorem has_iff (d : Chk) : hasB d = true ↔ ¬ hasntP d := by
  unfold hasB
  simp only [Bool.or_eq_true, Bool.and_eq_true, Bool.not_eq_true', decide_eq_true_eq, decide_eq_false_iff_not, Bool.or_eq_false_iff, ne_eq, data0]
  rw [hc1, hc2, hc2, hc4, hc5, hc6, hc7, hc8, hc9, hc10]
  unfold hasntP
  simp only [Classical.not_and_iff_not_or_not, or_assoc]
theorem rHas0 {σ : Store} (d : Chk)  (h : gd σ d) : PS Try.prog noDen 106 [(.agg ⟨(cChk d)⟩)] σ (.bool (hasB d)) := by
 have hp18 := h.p18
 have hc18 := h.c18
 have hg18 := h.g18
 have hd18 := h.u18
 have hfl := h.fl
 refine PS.body (E := env) env_ok rfl rfl (by show _ ≤ _; exact of_decide_eq_true (by kernel_rfl)) (fun n hd => ?_)
 refine RA.sR hd env_ok <| o1 (some 1) (Pt n 0 0) (n + 1) (n, some ⟨[(cChk d)], 15, 53, true⟩) (r_box (cs := (cChk d)) rfl rfl rfl (Nat.le_of_ble_eq_true rfl) (by simp only [List.all_cons, List.all_nil, Bool.and_true, Bool.and_eq_true, cChk]; exact ⟨rfl, rfl, rfl, rfl, rfl, rfl, rfl, rfl, rfl, rfl, rfl, (h.hp).one, (h.hc).one, (h.hg).one, (h.hu).one⟩)) <| OA.ps [(2, yF)] rfl <| OA.nil fun _ => RA.sR hd env_ok <| OA.ps [(6, (Pt n 0 0))] rfl <| oL 7 (.int .i64 d.typ) get_here <| oC 8 (hd.of (by omega) (kb1 (by omega))) rfl rfl (rKind d.typ) fun n1 hn1 => OA.ps [(3, (.int .i64 (((kd d.typ) : Nat) : Int)))] rfl <| OA.nil fun _ => RA.sR hd env_ok ?_
 refine OA.ps [(9, (.int .i64 (((kd d.typ) : Nat) : Int)))] rfl ?_
 obtain ⟨b2, hb2⟩ : ∃ b_ : Bool, (decide ((((kd d.typ) : Nat) : Int) = 0)) = b_ := ⟨_, rfl⟩
 refine oP 10 (.bool b2) rfl (Eq.trans (r_bin rfl rfl rfl (b_eql rfl)) (by rw [hb2])) <| OA.ps [(11, (.bool b2))] rfl <| oB (!b2) 12 (.int .i64 (((kd d.typ) : Nat) : Int)) (by cases b2 <;> rfl) rfl (fun hb_ => by cases b2 <;> first | exact Bool.noConfusion hb_ | exact rfl) ?_
 obtain ⟨b3, hb3⟩ : ∃ b_ : Bool, (decide ((((kd d.typ) : Nat) : Int) = 1)) = b_ := ⟨_, rfl⟩
 refine oB (!b2) 13 (.bool b3) (by cases b2 <;> rfl) rfl (fun hb_ => by cases b2 <;> first | exact Bool.noConfusion hb_ | exact (Eq.trans (r_bin rfl rfl rfl (b_eql rfl)) (by rw [hb3]))) ?_
 obtain ⟨b4, hb4⟩ : ∃ b_ : Bool, (b2 || b3) = b_ := ⟨_, rfl⟩
 refine oP 14 (.bool b4) rfl (by rw [← hb4]; cases b2 <;> rfl) <| OA.ps [(15, (.bool b4))] rfl <| oB (!b4) 16 (.int .i64 (((kd d.typ) : Nat) : Int)) (by cases b4 <;> rfl) rfl (fun hb_ => by cases b4 <;> first | exact Bool.noConfusion hb_ | exact rfl) ?_
 obtain ⟨b5, hb5⟩ : ∃ b_ : Bool, (decide ((((kd d.typ) : Nat) : Int) = 3)) = b_ := ⟨_, rfl⟩
 refine oB (!b4) 17 (.bool b5) (by cases b4 <;> rfl) rfl (fun hb_ => by cases b4 <;> first | exact Bool.noConfusion hb_ | exact (Eq.trans (r_bin rfl rfl rfl (b_eql rfl)) (by rw [hb5]))) ?_
 obtain ⟨b6, hb6⟩ : ∃ b_ : Bool, (b4 || b5) = b_ := ⟨_, rfl⟩
 refine oP 18 (.bool b6) rfl (by rw [← hb6]; cases b4 <;> rfl) <| OA.ps [(19, (.bool b6))] rfl <| oB (!b6) 20 (.int .i64 (((kd d.typ) : Nat) : Int)) (by cases b6 <;> rfl) rfl (fun hb_ => by cases b6 <;> first | exact Bool.noConfusion hb_ | exact rfl) ?_
 obtain ⟨b7, hb7⟩ : ∃ b_ : Bool, (decide ((((kd d.typ) : Nat) : Int) = 7)) = b_ := ⟨_, rfl⟩
 refine oB (!b6) 21 (.bool b7) (by cases b6 <;> rfl) rfl (fun hb_ => by cases b6 <;> first | exact Bool.noConfusion hb_ | exact (Eq.trans (r_bin rfl rfl rfl (b_eql rfl)) (by rw [hb7]))) ?_
 obtain ⟨b8, hb8⟩ : ∃ b_ : Bool, (b6 || b7) = b_ := ⟨_, rfl⟩
 refine oP 22 (.bool b8) rfl (by rw [← hb8]; cases b6 <;> rfl) <| OA.ps [(23, (.bool b8))] rfl <| oB (!b8) 24 (.int .i64 (((kd d.typ) : Nat) : Int)) (by cases b8 <;> rfl) rfl (fun hb_ => by cases b8 <;> first | exact Bool.noConfusion hb_ | exact rfl) ?_
 obtain ⟨b9, hb9⟩ : ∃ b_ : Bool, (decide ((((kd d.typ) : Nat) : Int) = 16)) = b_ := ⟨_, rfl⟩
 refine oB (!b8) 25 (.bool b9) (by cases b8 <;> rfl) rfl (fun hb_ => by cases b8 <;> first | exact Bool.noConfusion hb_ | exact (Eq.trans (r_bin rfl rfl rfl (b_eql rfl)) (by rw [hb9]))) ?_
 obtain ⟨b10, hb10⟩ : ∃ b_ : Bool, (b8 || b9) = b_ := ⟨_, rfl⟩
 refine oP 26 (.bool b10) rfl (by rw [← hb10]; cases b8 <;> rfl) <| OA.ps [(4, (.bool b10))] rfl <| OA.nil fun _ => RA.rb [(0, (.agg ⟨(cChk d)⟩)), (1, (Pt n 0 0)), (2, yF), (3, (.int .i64 (((kd d.typ) : Nat) : Int))), (4, (.bool b10))] rfl (fun τr11 => ?_)
 refine RA.sR hd env_ok <| OA.ps [(27, (.int .i64 (((kd d.typ) : Nat) : Int)))] rfl ?_
 obtain ⟨b12, hb12⟩ : ∃ b_ : Bool, (decide ((((kd d.typ) : Nat) : Int) = 0)) = b_ := ⟨_, rfl⟩
 refine oP 28 (.bool b12) rfl (Eq.trans (r_bin rfl rfl rfl (b_eql rfl)) (by rw [hb12])) <| OA.ps [(29, (.bool b12))] rfl <| oB (!b12) 30 (.int .i64 (((kd d.typ) : Nat) : Int)) (by cases b12 <;> rfl) rfl (fun hb_ => by cases b12 <;> first | exact Bool.noConfusion hb_ | exact rfl) ?_
 obtain ⟨b13, hb13⟩ : ∃ b_ : Bool, (decide ((((kd d.typ) : Nat) : Int) = 4)) = b_ := ⟨_, rfl⟩
 refine oB (!b12) 31 (.bool b13) (by cases b12 <;> rfl) rfl (fun hb_ => by cases b12 <;> first | exact Bool.noConfusion hb_ | exact (Eq.trans (r_bin rfl rfl rfl (b_eql rfl)) (by rw [hb13]))) ?_
 obtain ⟨b14, hb14⟩ : ∃ b_ : Bool, (b12 || b13) = b_ := ⟨_, rfl⟩
 refine oP 32 (.bool b14) rfl (by rw [← hb14]; cases b12 <;> rfl) <| OA.ps [(33, (.bool b14))] rfl <| oB (!b14) 34 (.int .i64 (((kd d.typ) : Nat) : Int)) (by cases b14 <;> rfl) rfl (fun hb_ => by cases b14 <;> first | exact Bool.noConfusion hb_ | exact rfl) ?_
 obtain ⟨b15, hb15⟩ : ∃ b_ : Bool, (decide ((((kd d.typ) : Nat) : Int) = 10)) = b_ := ⟨_, rfl⟩
 refine oB (!b14) 35 (.bool b15) (by cases b14 <;> rfl) rfl (fun hb_ => by cases b14 <;> first | exact Bool.noConfusion hb_ | exact (Eq.trans (r_bin rfl rfl rfl (b_eql rfl)) (by rw [hb15]))) ?_
 obtain ⟨b16, hb16⟩ : ∃ b_ : Bool, (b14 || b15) = b_ := ⟨_, rfl⟩
 refine oP 36 (.bool b16) rfl (by rw [← hb16]; cases b14 <;> rfl) <| OA.ps [(37, (.bool b16))] rfl <| oB (!b16) 38 (.int .i64 (((kd d.typ) : Nat) : Int)) (by cases b16 <;> rfl) rfl (fun hb_ => by cases b16 <;> first | exact Bool.noConfusion hb_ | exact rfl) ?_
 obtain ⟨b17, hb17⟩ : ∃ b_ : Bool, (decide ((((kd d.typ) : Nat) : Int) = 15)) = b_ := ⟨_, rfl⟩
 refine oB (!b16) 39 (.bool b17) (by cases b16 <;> rfl) rfl (fun hb_ => by cases b16 <;> first | exact Bool.noConfusion hb_ | exact (Eq.trans (r_bin rfl rfl rfl (b_eql rfl)) (by rw [hb17]))) ?_
 obtain ⟨b18, hb18⟩ : ∃ b_ : Bool, (b16 || b17) = b_ := ⟨_, rfl⟩
 refine oP 40 (.bool b18) rfl (by rw [← hb18]; cases b16 <;> rfl) <| OA.ps [(41, (.bool b18))] rfl <| oB (!b18) 42 (.int .i64 (((kd d.typ) : Nat) : Int)) (by cases b18 <;> rfl) rfl (fun hb_ => by cases b18 <;> first | exact Bool.noConfusion hb_ | exact rfl) ?_
 obtain ⟨b19, hb19⟩ : ∃ b_ : Bool, (decide ((((kd d.typ) : Nat) : Int) = 20)) = b_ := ⟨_, rfl⟩
 refine oB (!b18) 43 (.bool b19) (by cases b18 <;> rfl) rfl (fun hb_ => by cases b18 <;> first | exact Bool.noConfusion hb_ | exact (Eq.trans (r_bin rfl rfl rfl (b_eql rfl)) (by rw [hb19]))) ?_
 obtain ⟨b20, hb20⟩ : ∃ b_ : Bool, (b18 || b19) = b_ := ⟨_, rfl⟩
 refine oP 44 (.bool b20) rfl (by rw [← hb20]; cases b18 <;> rfl) <| OA.ps [(5, (.bool b20))] rfl <| OA.nil fun _ => RA.sR hd env_ok <| OA.ps [(45, (Pt n 0 2))] rfl <| oL 46 (W d.tsn) get_here ?_
 obtain ⟨b21, hb21⟩ : ∃ b_ : Bool, (decide ((d.tsn.toNat : Int) ≠ 0)) = b_ := ⟨_, rfl⟩
 refine oP 47 (.bool b21) rfl (Eq.trans (r_bin rfl rfl rfl (b_neq rfl)) (by rw [hb21])) <| OA.ps [(48, (.bool b21))] rfl <| oB b21 49 (.bool b10) (by cases b21 <;> rfl) rfl (fun hb_ => by cases b21 <;> first | exact Bool.noConfusion hb_ | exact rfl) ?_
 obtain ⟨b22, hb22⟩ : ∃ b_ : Bool, (!b10) = b_ := ⟨_, rfl⟩
 refine oB b21 50 (.bool b22) (by cases b21 <;> rfl) rfl (fun hb_ => by cases b21 <;> first | exact Bool.noConfusion hb_ | exact (Eq.trans (show _ = some (Value.bool (!b10), _, []) from rfl) (by rw [hb22]))) ?_
 obtain ⟨b23, hb23⟩ : ∃ b_ : Bool, (b21 && b22) = b_ := ⟨_, rfl⟩
 refine oP 51 (.bool b23) rfl (by rw [← hb23]; cases b21 <;> rfl) <| OA.ps [(52, (.bool b23))] rfl <| oB (!b23) 53 (Pt n 0 3) (by cases b23 <;> rfl) rfl (fun hb_ => by cases b23 <;> first | exact Bool.noConfusion hb_ | exact rfl) <| oB (!b23) 54 (.int .i64 d.stream) (by cases b23 <;> rfl) rfl (fun hb_ => by cases b23 <;> first | exact Bool.noConfusion hb_ | exact (rG get_here rfl rfl)) ?_
 obtain ⟨b24, hb24⟩ : ∃ b_ : Bool, (decide (d.stream ≠ 0)) = b_ := ⟨_, rfl⟩
 refine oB (!b23) 55 (.bool b24) (by cases b23 <;> rfl) rfl (fun hb_ => by cases b23 <;> first | exact Bool.noConfusion hb_ | exact (Eq.trans (r_bin rfl rfl rfl (b_neq rfl)) (by rw [hb24]))) <| oB (!b23) 56 (.bool b24) (by cases b23 <;> rfl) rfl (fun hb_ => by cases b23 <;> first | exact Bool.noConfusion hb_ | exact rfl) <| oB ((!b23) && b24) 57 (.int .i64 (((kd d.typ) : Nat) : Int)) (by cases b23 <;> cases b24 <;> rfl) rfl (fun hb_ => by cases b23 <;> cases b24 <;> first | exact Bool.noConfusion hb_ | exact rfl) ?_
 obtain ⟨b25, hb25⟩ : ∃ b_ : Bool, (decide ((((kd d.typ) : Nat) : Int) ≠ 0)) = b_ := ⟨_, rfl⟩
 refine oB ((!b23) && b24) 58 (.bool b25) (by cases b23 <;> cases b24 <;> rfl) rfl (fun hb_ => by cases b23 <;> cases b24 <;> first | exact Bool.noConfusion hb_ | exact (Eq.trans (r_bin rfl rfl rfl (b_neq rfl)) (by rw [hb25]))) ?_
 obtain ⟨b26, hb26⟩ : ∃ b_ : Bool, (b24 && b25) = b_ := ⟨_, rfl⟩
 refine oB (!b23) 59 (.bool b26) (by cases b23 <;> rfl) rfl (fun hb_ => by cases b23 <;> first | exact Bool.noConfusion hb_ | exact (by rw [← hb26]; cases b24 <;> rfl)) <| oB (!b23) 60 (.bool b26) (by cases b23 <;> rfl) rfl (fun hb_ => by cases b23 <;> first | exact Bool.noConfusion hb_ | exact rfl) <| oB ((!b23) && b26) 61 (.int .i64 (((kd d.typ) : Nat) : Int)) (by cases b23 <;> cases b26 <;> rfl) rfl (fun hb_ => by cases b23 <;> cases b26 <;> first | exact Bool.noConfusion hb_ | exact rfl) ?_
 obtain ⟨b27, hb27⟩ : ∃ b_ : Bool, (decide ((((kd d.typ) : Nat) : Int) ≠ 15)) = b_ := ⟨_, rfl⟩
 refine oB ((!b23) && b26) 62 (.bool b27) (by cases b23 <;> cases b26 <;> rfl) rfl (fun hb_ => by cases b23 <;> cases b26 <;> first | exact Bool.noConfusion hb_ | exact (Eq.trans (r_bin rfl rfl rfl (b_neq rfl)) (by rw [hb27]))) ?_
 obtain ⟨b28, hb28⟩ : ∃ b_ : Bool, (b26 && b27) = b_ := ⟨_, rfl⟩
 refine oB (!b23) 63 (.bool b28) (by cases b23 <;> rfl) rfl (fun hb_ => by cases b23 <;> first | exact Bool.noConfusion hb_ | exact (by rw [← hb28]; cases b26 <;> rfl)) ?_
 obtain ⟨b29, hb29⟩ : ∃ b_ : Bool, (b23 || b28) = b_ := ⟨_, rfl⟩
 refine oP 64 (.bool b29) rfl (by rw [← hb29]; cases b23 <;> rfl) <| OA.ps [(65, (.bool b29))] rfl <| oB (!b29) 66 (Pt n 0 4) (by cases b29 <;> rfl) rfl (fun hb_ => by cases b29 <;> first | exact Bool.noConfusion hb_ | exact rfl) <| oB (!b29) 67 (.int .i64 d.ssn) (by cases b29 <;> rfl) rfl (fun hb_ => by cases b29 <;> first | exact Bool.noConfusion hb_ | exact (rG get_here rfl rfl)) ?_
 obtain ⟨b30, hb30⟩ : ∃ b_ : Bool, (decide (d.ssn ≠ 0)) = b_ := ⟨_, rfl⟩
 refine oB (!b29) 68 (.bool b30) (by cases b29 <;> rfl) rfl (fun hb_ => by cases b29 <;> first | exact Bool.noConfusion hb_ | exact (Eq.trans (r_bin rfl rfl rfl (b_neq rfl)) (by rw [hb30]))) <| oB (!b29) 69 (.bool b30) (by cases b29 <;> rfl) rfl (fun hb_ => by cases b29 <;> first | exact Bool.noConfusion hb_ | exact rfl) <| oB ((!b29) && b30) 70 (.int .i64 (((kd d.typ) : Nat) : Int)) (by cases b29 <;> cases b30 <;> rfl) rfl (fun hb_ => by cases b29 <;> cases b30 <;> first | exact Bool.noConfusion hb_ | exact rfl) ?_
 obtain ⟨b31, hb31⟩ : ∃ b_ : Bool, (decide ((((kd d.typ) : Nat) : Int) ≠ 0)) = b_ := ⟨_, rfl⟩
 refine oB ((!b29) && b30) 71 (.bool b31) (by cases b29 <;> cases b30 <;> rfl) rfl (fun hb_ => by cases b29 <;> cases b30 <;> first | exact Bool.noConfusion hb_ | exact (Eq.trans (r_bin rfl rfl rfl (b_neq rfl)) (by rw [hb31]))) ?_
 obtain ⟨b32, hb32⟩ : ∃ b_ : Bool, (b30 && b31) = b_ := ⟨_, rfl⟩
 refine oB (!b29) 72 (.bool b32) (by cases b29 <;> rfl) rfl (fun hb_ => by cases b29 <;> first | exact Bool.noConfusion hb_ | exact (by rw [← hb32]; cases b30 <;> rfl)) <| oB (!b29) 73 (.bool b32) (by cases b29 <;> rfl) rfl (fun hb_ => by cases b29 <;> first | exact Bool.noConfusion hb_ | exact rfl) <| oB ((!b29) && b32) 74 (.int .i64 (((kd d.typ) : Nat) : Int)) (by cases b29 <;> cases b32 <;> rfl) rfl (fun hb_ => by cases b29 <;> cases b32 <;> first | exact Bool.noConfusion hb_ | exact rfl) ?_
 obtain ⟨b33, hb33⟩ : ∃ b_ : Bool, (decide ((((kd d.typ) : Nat) : Int) ≠ 15)) = b_ := ⟨_, rfl⟩
 refine oB ((!b29) && b32) 75 (.bool b33) (by cases b29 <;> cases b32 <;> rfl) rfl (fun hb_ => by cases b29 <;> cases b32 <;> first | exact Bool.noConfusion hb_ | exact (Eq.trans (r_bin rfl rfl rfl (b_neq rfl)) (by rw [hb33]))) ?_
 obtain ⟨b34, hb34⟩ : ∃ b_ : Bool, (b32 && b33) = b_ := ⟨_, rfl⟩
 refine oB (!b29) 76 (.bool b34) (by cases b29 <;> rfl) rfl (fun hb_ => by cases b29 <;> first | exact Bool.noConfusion hb_ | exact (by rw [← hb34]; cases b32 <;> rfl)) ?_
 obtain ⟨b35, hb35⟩ : ∃ b_ : Bool, (b29 || b34) = b_ := ⟨_, rfl⟩
 refine oP 77 (.bool b35) rfl (by rw [← hb35]; cases b29 <;> rfl) <| OA.ps [(78, (.bool b35))] rfl <| oB (!b35) 79 (Pt n 0 5) (by cases b35 <;> rfl) rfl (fun hb_ => by cases b35 <;> first | exact Bool.noConfusion hb_ | exact rfl) <| oB (!b35) 80 (W d.proto) (by cases b35 <;> rfl) rfl (fun hb_ => by cases b35 <;> first | exact Bool.noConfusion hb_ | exact (rG get_here rfl rfl)) ?_
 obtain ⟨b36, hb36⟩ : ∃ b_ : Bool, (decide ((d.proto.toNat : Int) ≠ 0)) = b_ := ⟨_, rfl⟩
 refine oB (!b35) 81 (.bool b36) (by cases b35 <;> rfl) rfl (fun hb_ => by cases b35 <;> first | exact Bool.noConfusion hb_ | exact (Eq.trans (r_bin rfl rfl rfl (b_neq rfl)) (by rw [hb36]))) <| oB (!b35) 82 (.bool b36) (by cases b35 <;> rfl) rfl (fun hb_ => by cases b35 <;> first | exact Bool.noConfusion hb_ | exact rfl) <| oB ((!b35) && b36) 83 (.int .i64 (((kd d.typ) : Nat) : Int)) (by cases b35 <;> cases b36 <;> rfl) rfl (fun hb_ => by cases b35 <;> cases b36 <;> first | exact Bool.noConfusion hb_ | exact rfl) ?_
 obtain ⟨b37, hb37⟩ : ∃ b_ : Bool, (decide ((((kd d.typ) : Nat) : Int) ≠ 0)) = b_ := ⟨_, rfl⟩
 refine oB ((!b35) && b36) 84 (.bool b37) (by cases b35 <;> cases b36 <;> rfl) rfl (fun hb_ => by cases b35 <;> cases b36 <;> first | exact Bool.noConfusion hb_ | exact (Eq.trans (r_bin rfl rfl rfl (b_neq rfl)) (by rw [hb37]))) ?_
 obtain ⟨b38, hb38⟩ : ∃ b_ : Bool, (b36 && b37) = b_ := ⟨_, rfl⟩
 refine oB (!b35) 85 (.bool b38) (by cases b35 <;> rfl) rfl (fun hb_ => by cases b35 <;> first | exact Bool.noConfusion hb_ | exact (by rw [← hb38]; cases b36 <;> rfl)) ?_
 obtain ⟨b39, hb39⟩ : ∃ b_ : Bool, (b35 || b38) = b_ := ⟨_, rfl⟩
 refine oP 86 (.bool b39) rfl (by rw [← hb39]; cases b35 <;> rfl) <| OA.ps [(87, (.bool b39))] rfl <| oB (!b39) 88 (Pt n 0 6) (by cases b39 <;> rfl) rfl (fun hb_ => by cases b39 <;> first | exact Bool.noConfusion hb_ | exact rfl) <| oB (!b39) 89 (.string d.data) (by cases b39 <;> rfl) rfl (fun hb_ => by cases b39 <;> first | exact Bool.noConfusion hb_ | exact (rG get_here rfl rfl)) ?_
 obtain ⟨b40, hb40⟩ : ∃ b_ : Bool, (!(decide (d.data = (ByteArray.mk #[])))) = b_ := ⟨_, rfl⟩
 refine oB (!b39) 90 (.bool b40) (by cases b39 <;> rfl) rfl (fun hb_ => by cases b39 <;> first | exact Bool.noConfusion hb_ | exact (Eq.trans (r_neqS rfl rfl rfl) (by rw [hb40]))) <| oB (!b39) 91 (.bool b40) (by cases b39 <;> rfl) rfl (fun hb_ => by cases b39 <;> first | exact Bool.noConfusion hb_ | exact rfl) <| oB ((!b39) && b40) 92 (.bool b20) (by cases b39 <;> cases b40 <;> rfl) rfl (fun hb_ => by cases b39 <;> cases b40 <;> first | exact Bool.noConfusion hb_ | exact rfl) ?_
 obtain ⟨b41, hb41⟩ : ∃ b_ : Bool, (!b20) = b_ := ⟨_, rfl⟩
 refine oB ((!b39) && b40) 93 (.bool b41) (by cases b39 <;> cases b40 <;> rfl) rfl (fun hb_ => by cases b39 <;> cases b40 <;> first | exact Bool.noConfusion hb_ | exact (Eq.trans (show _ = some (Value.bool (!b20), _, []) from rfl) (by rw [hb41]))) ?_
 obtain ⟨b42, hb42⟩ : ∃ b_ : Bool, (b40 && b41) = b_ := ⟨_, rfl⟩
 refine oB (!b39) 94 (.bool b42) (by cases b39 <;> rfl) rfl (fun hb_ => by cases b39 <;> first | exact Bool.noConfusion hb_ | exact (by rw [← hb42]; cases b40 <;> rfl)) ?_
 obtain ⟨b43, hb43⟩ : ∃ b_ : Bool, (b39 || b42) = b_ := ⟨_, rfl⟩
 refine oP 95 (.bool b43) rfl (by rw [← hb43]; cases b39 <;> rfl) <| OA.ps [(96, (.bool b43))] rfl <| oB (!b43) 97 (Pt n 0 7) (by cases b43 <;> rfl) rfl (fun hb_ => by cases b43 <;> first | exact Bool.noConfusion hb_ | exact rfl) <| oB (!b43) 98 (W d.tag) (by cases b43 <;> rfl) rfl (fun hb_ => by cases b43 <;> first | exact Bool.noConfusion hb_ | exact (rG get_here rfl rfl)) ?_
 obtain ⟨b44, hb44⟩ : ∃ b_ : Bool, (decide ((d.tag.toNat : Int) ≠ 0)) = b_ := ⟨_, rfl⟩
 refine oB (!b43) 99 (.bool b44) (by cases b43 <;> rfl) rfl (fun hb_ => by cases b43 <;> first | exact Bool.noConfusion hb_ | exact (Eq.trans (r_bin rfl rfl rfl (b_neq rfl)) (by rw [hb44]))) <| oB (!b43) 100 (.bool b44) (by cases b43 <;> rfl) rfl (fun hb_ => by cases b43 <;> first | exact Bool.noConfusion hb_ | exact rfl) <| oB ((!b43) && (!b44)) 101 (Pt n 0 9) (by cases b43 <;> cases b44 <;> rfl) rfl (fun hb_ => by cases b43 <;> cases b44 <;> first | exact Bool.noConfusion hb_ | exact rfl) <| oB ((!b43) && (!b44)) 102 (.int .i64 d.outs) (by cases b43 <;> cases b44 <;> rfl) rfl (fun hb_ => by cases b43 <;> cases b44 <;> first | exact Bool.noConfusion hb_ | exact (rG get_here rfl rfl)) ?_
 obtain ⟨b45, hb45⟩ : ∃ b_ : Bool, (decide (d.outs ≠ 0)) = b_ := ⟨_, rfl⟩
 refine oB ((!b43) && (!b44)) 103 (.bool b45) (by cases b43 <;> cases b44 <;> rfl) rfl (fun hb_ => by cases b43 <;> cases b44 <;> first | exact Bool.noConfusion hb_ | exact (Eq.trans (r_bin rfl rfl rfl (b_neq rfl)) (by rw [hb45]))) ?_
 obtain ⟨b46, hb46⟩ : ∃ b_ : Bool, (b44 || b45) = b_ := ⟨_, rfl⟩
 refine oB (!b43) 104 (.bool b46) (by cases b43 <;> rfl) rfl (fun hb_ => by cases b43 <;> first | exact Bool.noConfusion hb_ | exact (by rw [← hb46]; cases b44 <;> rfl)) <| oB (!b43) 105 (.bool b46) (by cases b43 <;> rfl) rfl (fun hb_ => by cases b43 <;> first | exact Bool.noConfusion hb_ | exact rfl) <| oB ((!b43) && (!b46)) 106 (Pt n 0 10) (by cases b43 <;> cases b46 <;> rfl) rfl (fun hb_ => by cases b43 <;> cases b46 <;> first | exact Bool.noConfusion hb_ | exact rfl) <| oB ((!b43) && (!b46)) 107 (.int .i64 d.ins) (by cases b43 <;> cases b46 <;> rfl) rfl (fun hb_ => by cases b43 <;> cases b46 <;> first | exact Bool.noConfusion hb_ | exact (rG get_here rfl rfl)) ?_
 obtain ⟨b47, hb47⟩ : ∃ b_ : Bool, (decide (d.ins ≠ 0)) = b_ := ⟨_, rfl⟩
 refine oB ((!b43) && (!b46)) 108 (.bool b47) (by cases b43 <;> cases b46 <;> rfl) rfl (fun hb_ => by cases b43 <;> cases b46 <;> first | exact Bool.noConfusion hb_ | exact (Eq.trans (r_bin rfl rfl rfl (b_neq rfl)) (by rw [hb47]))) ?_
 obtain ⟨b48, hb48⟩ : ∃ b_ : Bool, (b46 || b47) = b_ := ⟨_, rfl⟩
 refine oB (!b43) 109 (.bool b48) (by cases b43 <;> rfl) rfl (fun hb_ => by cases b43 <;> first | exact Bool.noConfusion hb_ | exact (by rw [← hb48]; cases b46 <;> rfl)) <| oB (!b43) 110 (.bool b48) (by cases b43 <;> rfl) rfl (fun hb_ => by cases b43 <;> first | exact Bool.noConfusion hb_ | exact rfl) <| oB ((!b43) && b48) 111 (.int .i64 (((kd d.typ) : Nat) : Int)) (by cases b43 <;> cases b48 <;> rfl) rfl (fun hb_ => by cases b43 <;> cases b48 <;> first | exact Bool.noConfusion hb_ | exact rfl) ?_
 obtain ⟨b49, hb49⟩ : ∃ b_ : Bool, (decide ((((kd d.typ) : Nat) : Int) ≠ 1)) = b_ := ⟨_, rfl⟩
 refine oB ((!b43) && b48) 112 (.bool b49) (by cases b43 <;> cases b48 <;> rfl) rfl (fun hb_ => by cases b43 <;> cases b48 <;> first | exact Bool.noConfusion hb_ | exact (Eq.trans (r_bin rfl rfl rfl (b_neq rfl)) (by rw [hb49]))) ?_
 obtain ⟨b50, hb50⟩ : ∃ b_ : Bool, (b48 && b49) = b_ := ⟨_, rfl⟩
 refine oB (!b43) 113 (.bool b50) (by cases b43 <;> rfl) rfl (fun hb_ => by cases b43 <;> first | exact Bool.noConfusion hb_ | exact (by rw [← hb50]; cases b48 <;> rfl)) ?_
 obtain ⟨b51, hb51⟩ : ∃ b_ : Bool, (b43 || b50) = b_ := ⟨_, rfl⟩
 refine oP 114 (.bool b51) rfl (by rw [← hb51]; cases b43 <;> rfl) <| OA.ps [(115, (.bool b51))] rfl <| oB (!b51) 116 (Pt n 0 8) (by cases b51 <;> rfl) rfl (fun hb_ => by cases b51 <;> first | exact Bool.noConfusion hb_ | exact rfl) <| oB (!b51) 117 (W d.rwnd) (by cases b51 <;> rfl) rfl (fun hb_ => by cases b51 <;> first | exact Bool.noConfusion hb_ | exact (rG get_here rfl rfl)) ?_
 obtain ⟨b52, hb52⟩ : ∃ b_ : Bool, (decide ((d.rwnd.toNat : Int) ≠ 0)) = b_ := ⟨_, rfl⟩
 refine oB (!b51) 118 (.bool b52) (by cases b51 <;> rfl) rfl (fun hb_ => by cases b51 <;> first | exact Bool.noConfusion hb_ | exact (Eq.trans (r_bin rfl rfl rfl (b_neq rfl)) (by rw [hb52]))) <| oB (!b51) 119 (.bool b52) (by cases b51 <;> rfl) rfl (fun hb_ => by cases b51 <;> first | exact Bool.noConfusion hb_ | exact rfl) <| oB ((!b51) && b52) 120 (.int .i64 (((kd d.typ) : Nat) : Int)) (by cases b51 <;> cases b52 <;> rfl) rfl (fun hb_ => by cases b51 <;> cases b52 <;> first | exact Bool.noConfusion hb_ | exact rfl) ?_
 obtain ⟨b53, hb53⟩ : ∃ b_ : Bool, (decide ((((kd d.typ) : Nat) : Int) ≠ 1)) = b_ := ⟨_, rfl⟩
 refine oB ((!b51) && b52) 121 (.bool b53) (by cases b51 <;> cases b52 <;> rfl) rfl (fun hb_ => by cases b51 <;> cases b52 <;> first | exact Bool.noConfusion hb_ | exact (Eq.trans (r_bin rfl rfl rfl (b_neq rfl)) (by rw [hb53]))) ?_
 obtain ⟨b54, hb54⟩ : ∃ b_ : Bool, (b52 && b53) = b_ := ⟨_, rfl⟩
 refine oB (!b51) 122 (.bool b54) (by cases b51 <;> rfl) rfl (fun hb_ => by cases b51 <;> first | exact Bool.noConfusion hb_ | exact (by rw [← hb54]; cases b52 <;> rfl)) <| oB (!b51) 123 (.bool b54) (by cases b51 <;> rfl) rfl (fun hb_ => by cases b51 <;> first | exact Bool.noConfusion hb_ | exact rfl) <| oB ((!b51) && b54) 124 (.int .i64 (((kd d.typ) : Nat) : Int)) (by cases b51 <;> cases b54 <;> rfl) rfl (fun hb_ => by cases b51 <;> cases b54 <;> first | exact Bool.noConfusion hb_ | exact rfl) ?_
 obtain ⟨b55, hb55⟩ : ∃ b_ : Bool, (decide ((((kd d.typ) : Nat) : Int) ≠ 3)) = b_ := ⟨_, rfl⟩
 refine oB ((!b51) && b54) 125 (.bool b55) (by cases b51 <;> cases b54 <;> rfl) rfl (fun hb_ => by cases b51 <;> cases b54 <;> first | exact Bool.noConfusion hb_ | exact (Eq.trans (r_bin rfl rfl rfl (b_neq rfl)) (by rw [hb55]))) ?_
 obtain ⟨b56, hb56⟩ : ∃ b_ : Bool, (b54 && b55) = b_ := ⟨_, rfl⟩
 refine oB (!b51) 126 (.bool b56) (by cases b51 <;> rfl) rfl (fun hb_ => by cases b51 <;> first | exact Bool.noConfusion hb_ | exact (by rw [← hb56]; cases b54 <;> rfl)) ?_
 obtain ⟨b57, hb57⟩ : ∃ b_ : Bool, (b51 || b56) = b_ := ⟨_, rfl⟩
 refine oP 127 (.bool b57) rfl (by rw [← hb57]; cases b51 <;> rfl) <| OA.ps [(128, (.bool b57))] rfl <| oB (!b57) 129 (Pt n 0 11) (by cases b57 <;> rfl) rfl (fun hb_ => by cases b57 <;> first | exact Bool.noConfusion hb_ | exact rfl) <| oB (!b57) 130 d.pv (by cases b57 <;> rfl) rfl (fun hb_ => by cases b57 <;> first | exact Bool.noConfusion hb_ | exact (rG get_here rfl rfl)) <| oB (!b57) 131 (.int .i64 ((d.ps.length : Nat) : Int)) (by cases b57 <;> rfl) rfl (fun hb_ => by cases b57 <;> first | exact Bool.noConfusion hb_ | exact (r_lenQ (c := cPrm) rfl rfl rfl rfl rfl rfl h.hp rfl)) ?_
 obtain ⟨b58, hb58⟩ : ∃ b_ : Bool, (decide (0 < ((d.ps.length : Nat) : Int))) = b_ := ⟨_, rfl⟩
 refine oB (!b57) 132 (.bool b58) (by cases b57 <;> rfl) rfl (fun hb_ => by cases b57 <;> first | exact Bool.noConfusion hb_ | exact (Eq.trans (r_bin rfl rfl rfl (b_gtr rfl)) (by rw [hb58]))) <| oB (!b57) 133 (.bool b58) (by cases b57 <;> rfl) rfl (fun hb_ => by cases b57 <;> first | exact Bool.noConfusion hb_ | exact rfl) <| oB ((!b57) && b58) 134 (.int .i64 (((kd d.typ) : Nat) : Int)) (by cases b57 <;> cases b58 <;> rfl) rfl (fun hb_ => by cases b57 <;> cases b58 <;> first | exact Bool.noConfusion hb_ | exact rfl) ?_
 obtain ⟨b59, hb59⟩ : ∃ b_ : Bool, (decide ((((kd d.typ) : Nat) : Int) ≠ 1)) = b_ := ⟨_, rfl⟩
 refine oB ((!b57) && b58) 135 (.bool b59) (by cases b57 <;> cases b58 <;> rfl) rfl (fun hb_ => by cases b57 <;> cases b58 <;> first | exact Bool.noConfusion hb_ | exact (Eq.trans (r_bin rfl rfl rfl (b_neq rfl)) (by rw [hb59]))) ?_
 obtain ⟨b60, hb60⟩ : ∃ b_ : Bool, (b58 && b59) = b_ := ⟨_, rfl⟩
 refine oB (!b57) 136 (.bool b60) (by cases b57 <;> rfl) rfl (fun hb_ => by cases b57 <;> first | exact Bool.noConfusion hb_ | exact (by rw [← hb60]; cases b58 <;> rfl)) <| oB (!b57) 137 (.bool b60) (by cases b57 <;> rfl) rfl (fun hb_ => by cases b57 <;> first | exact Bool.noConfusion hb_ | exact rfl) <| oB ((!b57) && b60) 138 (.int .i64 (((kd d.typ) : Nat) : Int)) (by cases b57 <;> cases b60 <;> rfl) rfl (fun hb_ => by cases b57 <;> cases b60 <;> first | exact Bool.noConfusion hb_ | exact rfl) ?_
 obtain ⟨b61, hb61⟩ : ∃ b_ : Bool, (decide ((((kd d.typ) : Nat) : Int) ≠ 16)) = b_ := ⟨_, rfl⟩
 refine oB ((!b57) && b60) 139 (.bool b61) (by cases b57 <;> cases b60 <;> rfl) rfl (fun hb_ => by cases b57 <;> cases b60 <;> first | exact Bool.noConfusion hb_ | exact (Eq.trans (r_bin rfl rfl rfl (b_neq rfl)) (by rw [hb61]))) ?_
 obtain ⟨b62, hb62⟩ : ∃ b_ : Bool, (b60 && b61) = b_ := ⟨_, rfl⟩
 refine oB (!b57) 140 (.bool b62) (by cases b57 <;> rfl) rfl (fun hb_ => by cases b57 <;> first | exact Bool.noConfusion hb_ | exact (by rw [← hb62]; cases b60 <;> rfl)) ?_
 obtain ⟨b63, hb63⟩ : ∃ b_ : Bool, (b57 || b62) = b_ := ⟨_, rfl⟩
 refine oP 141 (.bool b63) rfl (by rw [← hb63]; cases b57 <;> rfl) <| OA.ps [(142, (.bool b63))] rfl <| oB (!b63) 143 (Pt n 0 12) (by cases b63 <;> rfl) rfl (fun hb_ => by cases b63 <;> first | exact Bool.noConfusion hb_ | exact rfl) <| oB (!b63) 144 d.cv (by cases b63 <;> rfl) rfl (fun hb_ => by cases b63 <;> first | exact Bool.noConfusion hb_ | exact (rG get_here rfl rfl)) <| oB (!b63) 145 (.int .i64 ((d.cs.length : Nat) : Int)) (by cases b63 <;> rfl) rfl (fun hb_ => by cases b63 <;> first | exact Bool.noConfusion hb_ | exact (r_lenQ (c := cCau) rfl rfl rfl rfl rfl rfl h.hc rfl)) ?_
 obtain ⟨b64, hb64⟩ : ∃ b_ : Bool, (decide (0 < ((d.cs.length : Nat) : Int))) = b_ := ⟨_, rfl⟩
 refine oB (!b63) 146 (.bool b64) (by cases b63 <;> rfl) rfl (fun hb_ => by cases b63 <;> first | exact Bool.noConfusion hb_ | exact (Eq.trans (r_bin rfl rfl rfl (b_gtr rfl)) (by rw [hb64]))) <| oB (!b63) 147 (.bool b64) (by cases b63 <;> rfl) rfl (fun hb_ => by cases b63 <;> first | exact Bool.noConfusion hb_ | exact rfl) <| oB ((!b63) && b64) 148 (.int .i64 (((kd d.typ) : Nat) : Int)) (by cases b63 <;> cases b64 <;> rfl) rfl (fun hb_ => by cases b63 <;> cases b64 <;> first | exact Bool.noConfusion hb_ | exact rfl) ?_
 obtain ⟨b65, hb65⟩ : ∃ b_ : Bool, (decide ((((kd d.typ) : Nat) : Int) ≠ 6)) = b_ := ⟨_, rfl⟩
 refine oB ((!b63) && b64) 149 (.bool b65) (by cases b63 <;> cases b64 <;> rfl) rfl (fun hb_ => by cases b63 <;> cases b64 <;> first | exact Bool.noConfusion hb_ | exact (Eq.trans (r_bin rfl rfl rfl (b_neq rfl)) (by rw [hb65]))) ?_
 obtain ⟨b66, hb66⟩ : ∃ b_ : Bool, (b64 && b65) = b_ := ⟨_, rfl⟩
 refine oB (!b63) 150 (.bool b66) (by cases b63 <;> rfl) rfl (fun hb_ => by cases b63 <;> first | exact Bool.noConfusion hb_ | exact (by rw [← hb66]; cases b64 <;> rfl)) ?_
 obtain ⟨b67, hb67⟩ : ∃ b_ : Bool, (b63 || b66) = b_ := ⟨_, rfl⟩
 refine oP 151 (.bool b67) rfl (by rw [← hb67]; cases b63 <;> rfl) <| OA.ps [(152, (.bool b67))] rfl <| oB (!b67) 153 (Pt n 0 13) (by cases b67 <;> rfl) rfl (fun hb_ => by cases b67 <;> first | exact Bool.noConfusion hb_ | exact rfl) <| oB (!b67) 154 d.gv (by cases b67 <;> rfl) rfl (fun hb_ => by cases b67 <;> first | exact Bool.noConfusion hb_ | exact (rG get_here rfl rfl)) <| oB (!b67) 155 (.int .i64 ((d.gs.length : Nat) : Int)) (by cases b67 <;> rfl) rfl (fun hb_ => by cases b67 <;> first | exact Bool.noConfusion hb_ | exact (r_lenQ (c := cGp) rfl rfl rfl rfl rfl rfl h.hg rfl)) <| oB (!b67) 156 (Pt n 0 14) (by cases b67 <;> rfl) rfl (fun hb_ => by cases b67 <;> first | exact Bool.noConfusion hb_ | exact rfl) <| oB (!b67) 157 d.dv (by cases b67 <;> rfl) rfl (fun hb_ => by cases b67 <;> first | exact Bool.noConfusion hb_ | exact (rG get_here rfl rfl)) <| oB (!b67) 158 (.int .i64 ((d.ds.length : Nat) : Int)) (by cases b67 <;> rfl) rfl (fun hb_ => by cases b67 <;> first | exact Bool.noConfusion hb_ | exact (r_lenQ (c := cDp) rfl rfl rfl rfl rfl rfl h.hu rfl)) <| oB (!b67) 159 (.int .i64 (((d.gs.length + d.ds.length) : Nat) : Int)) (by cases b67 <;> rfl) rfl (fun hb_ => by cases b67 <;> first | exact Bool.noConfusion hb_ | exact (r_bin rfl rfl rfl (b_add (i64_eq (by omega))))) ?_
 obtain ⟨b68, hb68⟩ : ∃ b_ : Bool, (decide (0 < (((d.gs.length + d.ds.length) : Nat) : Int))) = b_ := ⟨_, rfl⟩
 refine oB (!b67) 160 (.bool b68) (by cases b67 <;> rfl) rfl (fun hb_ => by cases b67 <;> first | exact Bool.noConfusion hb_ | exact (Eq.trans (r_bin rfl rfl rfl (b_gtr rfl)) (by rw [hb68]))) <| oB (!b67) 161 (.bool b68) (by cases b67 <;> rfl) rfl (fun hb_ => by cases b67 <;> first | exact Bool.noConfusion hb_ | exact rfl) <| oB ((!b67) && b68) 162 (.int .i64 (((kd d.typ) : Nat) : Int)) (by cases b67 <;> cases b68 <;> rfl) rfl (fun hb_ => by cases b67 <;> cases b68 <;> first | exact Bool.noConfusion hb_ | exact rfl) ?_
 obtain ⟨b69, hb69⟩ : ∃ b_ : Bool, (decide ((((kd d.typ) : Nat) : Int) ≠ 3)) = b_ := ⟨_, rfl⟩
 refine oB ((!b67) && b68) 163 (.bool b69) (by cases b67 <;> cases b68 <;> rfl) rfl (fun hb_ => by cases b67 <;> cases b68 <;> first | exact Bool.noConfusion hb_ | exact (Eq.trans (r_bin rfl rfl rfl (b_neq rfl)) (by rw [hb69]))) ?_
 obtain ⟨b70, hb70⟩ : ∃ b_ : Bool, (b68 && b69) = b_ := ⟨_, rfl⟩
 refine oB (!b67) 164 (.bool b70) (by cases b67 <;> rfl) rfl (fun hb_ => by cases b67 <;> first | exact Bool.noConfusion hb_ | exact (by rw [← hb70]; cases b68 <;> rfl)) ?_
 obtain ⟨b71, hb71⟩ : ∃ b_ : Bool, (b67 || b70) = b_ := ⟨_, rfl⟩
 refine oP 165 (.bool b71) rfl (by rw [← hb71]; cases b67 <;> rfl) <| OA.ps [(2, (.bool b71))] rfl <| OA.nil fun _ => RA.rb [(0, (.agg ⟨(cChk d)⟩)), (1, (Pt n 0 0)), (2, (.bool b71)), (3, (.int .i64 (((kd d.typ) : Nat) : Int))), (4, (.bool b10)), (5, (.bool b20))] rfl (fun τr72 => ?_)
 refine RA.ret env_ok ?_
 exact lf (.bool b71) (by subst_vars; rfl)
theorem rHas {σ : Store} (d : Chk) (b : Bool) (hb : b = true ↔ (¬ hasntP d)) (h : gd σ d) : PS Try.prog noDen 106 [.agg ⟨cChk d⟩] σ (.bool b) :=
  PS.to (rHas0 d h) (by rw [show hasB d = b from by rw [Bool.eq_iff_iff, has_iff, hb]])
end Go.Proofs.Ytgajcmanompmcaa.Vt
/- Cr5: walks through functions of the program, by the calculus; written by a program of this workplace. -/
namespace Go.Proofs.Ytgajcmanompmcaa.Vt
open Go Go.Proofs Go.Proofs.YtgajcmanompmcaaV
set_option maxRecDepth 100000
set_option linter.unusedVariables false
set_option linter.unusedSimpArgs false
set_option maxHeartbeats 8000000
abbrev xCr51 (d : Chk) : List Value := [(.int .i64 d.typ), (.int .i64 d.flags), (W d.tsn), (.int .i64 d.stream), (.int .i64 d.ssn), (W d.proto), (.string d.data), (W d.tag), (W d.rwnd), (.int .i64 d.outs), (.int .i64 d.ins), d.pv, d.cv, d.gv, d.dv]
set_option maxHeartbeats 4000000 in
theorem rBody {σ : Store} (d : Chk) (hok : bodyOk d)  (h : gd σ d) : PS Try.prog noDen 78 [(.agg ⟨(cChk d)⟩)] σ (.string (bstr (bodyL d))) := by
 have hls := hok.lists
 have hw1 := hok.w1
 have hw2 := hok.w2
 have hw3 := hok.w3
 have hw4 := hok.w4
 unfold wordP at hw1 hw2 hw3 hw4
 have hda := hok.data
 have hgp := hok.gaps
 have hdp := hok.dups
 have hp16 := hls.2.2.1
 have hc16 := hls.2.2.2
 have hp1 : prmOk 1 d.data := ⟨by omega, by omega, by omega⟩
 have hpl := psL_len hls.1 (i := d.ps.length) hp16
 have hcl := csL_len hls.2.1 (i := d.cs.length) hc16
 rw [List.take_length] at hpl hcl
 have hgl := gsL_len d.gs
 have hdl := dsL_len d.ds
 have hLd := L_len d.data
 have hg16 := hgp.2
 have hgal : (gapsL d).length ≤ 200 := by unfold gapsL; simp only [List.length_append, be2_len]; omega
 have hp18 : d.ps.length ≤ 18 := by omega
 have hc18 : d.cs.length ≤ 18 := by omega
 refine PS.body (E := env) env_ok rfl rfl (by show _ ≤ _; exact of_decide_eq_true (by kernel_rfl)) (fun n hd => ?_)
 refine RA.sR hd env_ok <| o1 (some 1) (Pt n 0 0) (n + 1) (n, some ⟨[(cChk d)], 15, 53, true⟩) (r_box (cs := (cChk d)) rfl rfl rfl (Nat.le_of_ble_eq_true rfl) (by simp only [List.all_cons, List.all_nil, Bool.and_true, Bool.and_eq_true, cChk]; exact ⟨rfl, rfl, rfl, rfl, rfl, rfl, rfl, rfl, rfl, rfl, rfl, (h.hp).one, (h.hc).one, (h.hg).one, (h.hu).one⟩)) <| OA.ps [(2, (.string (ByteArray.mk #[])))] rfl <| OA.nil fun _ => RA.seq hd <| RA.sR hd env_ok <| OA.ps [(6, (Pt n 0 0))] rfl <| oL 7 (.int .i64 d.typ) get_here <| oC 8 (hd.of (by omega) (kb1 (by omega))) rfl rfl (rKind (d.typ)) fun n1 hn1 => OA.nil fun _ => RA.block ?_
 refine RA.sR hd env_ok ?_
 by_cases hc1 : (((kd (d.typ)) : Nat) : Int) = 0
 ·
  refine oP 10 yT rfl (Eq.trans (r_bin rfl rfl rfl (b_eql rfl)) (dT hc1)) <| OA.ps [(9, yT)] rfl <| OA.nil fun _ => RA.condT rfl <| RA.seq hd <| RA.par (md := [some [], some [n], some [], none, some [], some [n], none, some [], some [], some [n], none, some [], some [], some [n], some [], none, some [], some [], some [n], some [], some []]) env_ok (hd.of (by omega) (kb1 (by omega))) (by kernel_rfl) <| PQ.ps [(11, (Pt n 0 2))] rfl <| pQl 12 (W d.tsn) get_here <| pP 13 (.int .i64 ((d.tsn.toNat : Nat) : Int)) rfl (r_cvt rfl rfl rfl rfl rfl ⟨_, rfl⟩ (i64_eq (by have := (d.tsn).isLt; omega))) <| pA 14 (V := []) (hd.of (by omega) (kb1 (by omega))) rfl rfl (by kernel_rfl) (by kernel_rfl) (qNum4 d.tsn) fun n2 hn2 => PQ.ps [(15, (Pt n 0 3))] rfl ?_
  refine pQl 16 (.int .i64 d.stream) get_here <| pA 17 (V := []) (hd.of (by omega) (kb1 (by omega))) rfl rfl (by kernel_rfl) (by kernel_rfl) (qNum2 (d.stream) (by omega) (by omega)) fun n3 hn3 => pP 18 (.string (bstr ((be4 d.tsn) ++ (be2 (d.stream).toNat)))) rfl (Eq.trans (r_cat rfl rfl rfl (by simp only [bstr_size, size_lit, List.length_append, be2_len, be4_len, be1_len, List.length_replicate, List.length_cons, List.length_nil, List.size_toArray, L_len]; omega)) (by rw [bstr_app] <;> rfl)) <| PQ.ps [(19, (Pt n 0 4))] rfl <| pQl 20 (.int .i64 d.ssn) get_here <| pA 21 (V := []) (hd.of (by omega) (kb1 (by omega))) rfl rfl (by kernel_rfl) (by kernel_rfl) (qNum2 (d.ssn) (by omega) (by omega)) fun n4 hn4 => pP 22 (.string (bstr (((be4 d.tsn) ++ (be2 (d.stream).toNat)) ++ (be2 (d.ssn).toNat)))) rfl (Eq.trans (r_cat rfl rfl rfl (by simp only [bstr_size, size_lit, List.length_append, be2_len, be4_len, be1_len, List.length_replicate, List.length_cons, List.length_nil, List.size_toArray, L_len]; omega)) (by rw [bstr_app] <;> rfl)) <| PQ.ps [(23, (Pt n 0 5))] rfl <| pQl 24 (W d.proto) get_here <| pP 25 (.int .i64 ((d.proto.toNat : Nat) : Int)) rfl (r_cvt rfl rfl rfl rfl rfl ⟨_, rfl⟩ (i64_eq (by have := (d.proto).isLt; omega))) <| pA 26 (V := []) (hd.of (by omega) (kb1 (by omega))) rfl rfl (by kernel_rfl) (by kernel_rfl) (qNum4 d.proto) fun n5 hn5 => ?_
  refine pP 27 (.string (bstr ((((be4 d.tsn) ++ (be2 (d.stream).toNat)) ++ (be2 (d.ssn).toNat)) ++ (be4 d.proto)))) rfl (Eq.trans (r_cat rfl rfl rfl (by simp only [bstr_size, size_lit, List.length_append, be2_len, be4_len, be1_len, List.length_replicate, List.length_cons, List.length_nil, List.size_toArray, L_len]; omega)) (by rw [bstr_app] <;> rfl)) <| PQ.ps [(28, (Pt n 0 6))] rfl <| pQl 29 (.string d.data) get_here <| pP 30 (.string (bstr (((((be4 d.tsn) ++ (be2 (d.stream).toNat)) ++ (be2 (d.ssn).toNat)) ++ (be4 d.proto)) ++ L d.data))) rfl (Eq.trans (r_cat rfl rfl rfl (by simp only [bstr_size, List.length_append, be2_len, be4_len, be1_len, L_len]; omega)) (by rw [bstr_appL] <;> rfl)) <| PQ.ps [(2, (.string (bstr (((((be4 d.tsn) ++ (be2 (d.stream).toNat)) ++ (be2 (d.ssn).toNat)) ++ (be4 d.proto)) ++ L d.data))))] rfl <| PQ.done (d := []) (by kernel_rfl) fun _ => RA.rb [(0, (.agg ⟨(cChk d)⟩)), (1, (Pt n 0 0)), (2, (.string (bstr (((((be4 d.tsn) ++ (be2 (d.stream).toNat)) ++ (be2 (d.ssn).toNat)) ++ (be4 d.proto)) ++ L d.data)))), (8, (.int .i64 (((kd (d.typ)) : Nat) : Int))), (9, yT)] rfl (fun τr6 => ?_)
  refine RA.ret env_ok ?_
  exact lf (.string (bstr (((((be4 d.tsn) ++ (be2 (d.stream).toNat)) ++ (be2 (d.ssn).toNat)) ++ (be4 d.proto)) ++ L d.data))) (by rw [body_0 (show kd d.typ = 0 from by have := kd_cases d.typ; omega)] <;> rfl)
 ·
  refine oP 10 yF rfl (Eq.trans (r_bin rfl rfl rfl (b_eql rfl)) (dF hc1)) <| OA.ps [(9, yF)] rfl <| OA.nil fun _ => RA.condF rfl <| RA.sR hd env_ok ?_
  by_cases hc2 : (((kd (d.typ)) : Nat) : Int) = 1
  ·
   refine oP 32 yT rfl (Eq.trans (r_bin rfl rfl rfl (b_eql rfl)) (dT hc2)) <| OA.ps [(31, yT)] rfl <| OA.nil fun _ => RA.condT rfl <| RA.seq hd <| RA.par (md := [some [], some [n], some [], none, some [], some [n], some [], none, some [], some [], some [n], none, some [], some [], some [n], none, some [], some [], some [n], some [], none, some [], some [], some [n], none, none, some [], some []]) env_ok (hd.of (by omega) (kb1 (by omega))) (by kernel_rfl) <| PQ.ps [(33, (Pt n 0 7))] rfl <| pQl 34 (W d.tag) get_here <| pP 35 (.int .i64 ((d.tag.toNat : Nat) : Int)) rfl (r_cvt rfl rfl rfl rfl rfl ⟨_, rfl⟩ (i64_eq (by have := (d.tag).isLt; omega))) <| pA 36 (V := []) (hd.of (by omega) (kb1 (by omega))) rfl rfl (by kernel_rfl) (by kernel_rfl) (qNum4 d.tag) fun n7 hn7 => PQ.ps [(37, (Pt n 0 8))] rfl ?_
   refine pQl 38 (W d.rwnd) get_here <| pP 39 (.int .i64 ((d.rwnd.toNat : Nat) : Int)) rfl (r_cvt rfl rfl rfl rfl rfl ⟨_, rfl⟩ (i64_eq (by have := (d.rwnd).isLt; omega))) <| pA 40 (V := []) (hd.of (by omega) (kb1 (by omega))) rfl rfl (by kernel_rfl) (by kernel_rfl) (qNum4 d.rwnd) fun n8 hn8 => pP 41 (.string (bstr ((be4 d.tag) ++ (be4 d.rwnd)))) rfl (Eq.trans (r_cat rfl rfl rfl (by simp only [bstr_size, size_lit, List.length_append, be2_len, be4_len, be1_len, List.length_replicate, List.length_cons, List.length_nil, List.size_toArray, L_len]; omega)) (by rw [bstr_app] <;> rfl)) <| PQ.ps [(42, (Pt n 0 9))] rfl <| pQl 43 (.int .i64 d.outs) get_here <| pA 44 (V := []) (hd.of (by omega) (kb1 (by omega))) rfl rfl (by kernel_rfl) (by kernel_rfl) (qNum2 (d.outs) (by omega) (by omega)) fun n9 hn9 => pP 45 (.string (bstr (((be4 d.tag) ++ (be4 d.rwnd)) ++ (be2 (d.outs).toNat)))) rfl (Eq.trans (r_cat rfl rfl rfl (by simp only [bstr_size, size_lit, List.length_append, be2_len, be4_len, be1_len, List.length_replicate, List.length_cons, List.length_nil, List.size_toArray, L_len]; omega)) (by rw [bstr_app] <;> rfl)) <| PQ.ps [(46, (Pt n 0 10))] rfl <| pQl 47 (.int .i64 d.ins) get_here <| pA 48 (V := []) (hd.of (by omega) (kb1 (by omega))) rfl rfl (by kernel_rfl) (by kernel_rfl) (qNum2 (d.ins) (by omega) (by omega)) fun n10 hn10 => ?_
   refine pP 49 (.string (bstr ((((be4 d.tag) ++ (be4 d.rwnd)) ++ (be2 (d.outs).toNat)) ++ (be2 (d.ins).toNat)))) rfl (Eq.trans (r_cat rfl rfl rfl (by simp only [bstr_size, size_lit, List.length_append, be2_len, be4_len, be1_len, List.length_replicate, List.length_cons, List.length_nil, List.size_toArray, L_len]; omega)) (by rw [bstr_app] <;> rfl)) <| PQ.ps [(50, (Pt n 0 2))] rfl <| pQl 51 (W d.tsn) get_here <| pP 52 (.int .i64 ((d.tsn.toNat : Nat) : Int)) rfl (r_cvt rfl rfl rfl rfl rfl ⟨_, rfl⟩ (i64_eq (by have := (d.tsn).isLt; omega))) <| pA 53 (V := []) (hd.of (by omega) (kb1 (by omega))) rfl rfl (by kernel_rfl) (by kernel_rfl) (qNum4 d.tsn) fun n11 hn11 => pP 54 (.string (bstr (((((be4 d.tag) ++ (be4 d.rwnd)) ++ (be2 (d.outs).toNat)) ++ (be2 (d.ins).toNat)) ++ (be4 d.tsn)))) rfl (Eq.trans (r_cat rfl rfl rfl (by simp only [bstr_size, size_lit, List.length_append, be2_len, be4_len, be1_len, List.length_replicate, List.length_cons, List.length_nil, List.size_toArray, L_len]; omega)) (by rw [bstr_app] <;> rfl)) <| PQ.ps [(55, (Pt n 0 11))] rfl <| pQl 56 d.pv get_here ?_
   refine PQ.call (dst := (some 57)) (all := [d.pv]) rfl rfl rfl rfl rfl rfl rfl rfl _ (sA (V := []) (by kernel_rfl) (by kernel_rfl)) (CQ.imp (CQ.keys (rParams (hd.of (by omega) (kb1 (by omega))) d.ps d.pv hp18 (h.mono (sub_a1 hd)).hp)) ?_)
   rintro _ n12 _ ⟨hkn12, ⟨kpn12, q1n12, q2n12, rfl, rfl⟩⟩
   have hn12 := hkn12.1
   refine ⟨hn12, (kp1 (by first | exact wr_new (by omega) (by omega) | exact wr_old [8, 12, 16, 21] (by kernel_rfl) (by omega) (by omega) (fac (lo0 rfl) (fac (lo0 rfl) (fac (lo0 rfl) (fac (lo0 rfl) fan)))))), ?_⟩
   refine pA 58 (v := (.string (bstr (psL d.ps)))) (V := [(kpn12, some (oPrp (d.ps.map toP)))]) (hd.of (by omega) (kb2 (by omega))) rfl rfl (by kernel_rfl) (by kernel_rfl) (PS.to (r4All (d.ps.map toP) d.ps.length (List.length_map _) kpn12 (okP.2 hls.1) hp16 get_here) (by rw [qsL_P])) fun n13 hn13 => pP 59 (.string (bstr ((((((be4 d.tag) ++ (be4 d.rwnd)) ++ (be2 (d.outs).toNat)) ++ (be2 (d.ins).toNat)) ++ (be4 d.tsn)) ++ (psL d.ps)))) rfl (Eq.trans (r_cat rfl rfl rfl (by simp only [bstr_size, size_lit, List.length_append, be2_len, be4_len, be1_len, List.length_replicate, List.length_cons, List.length_nil, List.size_toArray, L_len]; omega)) (by rw [bstr_app] <;> rfl)) <| PQ.ps [(2, (.string (bstr ((((((be4 d.tag) ++ (be4 d.rwnd)) ++ (be2 (d.outs).toNat)) ++ (be2 (d.ins).toNat)) ++ (be4 d.tsn)) ++ (psL d.ps)))))] rfl <| PQ.done (d := [(kpn12, some (oPrp (d.ps.map toP)))]) (by kernel_rfl) fun _ => RA.rb [(0, (.agg ⟨(cChk d)⟩)), (1, (Pt n 0 0)), (2, (.string (bstr ((((((be4 d.tag) ++ (be4 d.rwnd)) ++ (be2 (d.outs).toNat)) ++ (be2 (d.ins).toNat)) ++ (be4 d.tsn)) ++ (psL d.ps))))), (8, (.int .i64 (((kd (d.typ)) : Nat) : Int))), (9, yF), (31, yT)] rfl (fun τr14 => ?_)
   refine RA.ret env_ok ?_
   exact lf (.string (bstr ((((((be4 d.tag) ++ (be4 d.rwnd)) ++ (be2 (d.outs).toNat)) ++ (be2 (d.ins).toNat)) ++ (be4 d.tsn)) ++ (psL d.ps)))) (by rw [body_1 (show kd d.typ = 1 from by have := kd_cases d.typ; omega)] <;> rfl)
  ·
   refine oP 32 yF rfl (Eq.trans (r_bin rfl rfl rfl (b_eql rfl)) (dF hc2)) <| OA.ps [(31, yF)] rfl <| OA.nil fun _ => RA.condF rfl <| RA.sR hd env_ok ?_
   by_cases hc3 : (((kd (d.typ)) : Nat) : Int) = 3
   ·
    refine oP 61 yT rfl (Eq.trans (r_bin rfl rfl rfl (b_eql rfl)) (dT hc3)) <| OA.ps [(60, yT)] rfl <| OA.nil fun _ => RA.condT rfl <| RA.seq hd <| RA.par (md := [some [], some [n], some [], none, some [], some [n], some [], none, some [], some [], some [n], some [], none, some [], some [], some [n], some [], none, some [], some []]) env_ok (hd.of (by omega) (kb1 (by omega))) (by kernel_rfl) <| PQ.ps [(62, (Pt n 0 2))] rfl <| pQl 63 (W d.tsn) get_here <| pP 64 (.int .i64 ((d.tsn.toNat : Nat) : Int)) rfl (r_cvt rfl rfl rfl rfl rfl ⟨_, rfl⟩ (i64_eq (by have := (d.tsn).isLt; omega))) <| pA 65 (V := []) (hd.of (by omega) (kb1 (by omega))) rfl rfl (by kernel_rfl) (by kernel_rfl) (qNum4 d.tsn) fun n15 hn15 => PQ.ps [(66, (Pt n 0 8))] rfl ?_
    refine pQl 67 (W d.rwnd) get_here <| pP 68 (.int .i64 ((d.rwnd.toNat : Nat) : Int)) rfl (r_cvt rfl rfl rfl rfl rfl ⟨_, rfl⟩ (i64_eq (by have := (d.rwnd).isLt; omega))) <| pA 69 (V := []) (hd.of (by omega) (kb1 (by omega))) rfl rfl (by kernel_rfl) (by kernel_rfl) (qNum4 d.rwnd) fun n16 hn16 => pP 70 (.string (bstr ((be4 d.tsn) ++ (be4 d.rwnd)))) rfl (Eq.trans (r_cat rfl rfl rfl (by simp only [bstr_size, size_lit, List.length_append, be2_len, be4_len, be1_len, List.length_replicate, List.length_cons, List.length_nil, List.size_toArray, L_len]; omega)) (by rw [bstr_app] <;> rfl)) <| PQ.ps [(71, (Pt n 0 13))] rfl <| pQl 72 d.gv get_here <| pP 73 (.int .i64 ((d.gs.length : Nat) : Int)) rfl (r_lenQ (c := cGp) rfl rfl rfl rfl rfl rfl h.hg rfl) <| pA 74 (V := []) (hd.of (by omega) (kb1 (by omega))) rfl rfl (by kernel_rfl) (by kernel_rfl) (qNum2n d.gs.length (by omega)) fun n17 hn17 => pP 75 (.string (bstr (((be4 d.tsn) ++ (be4 d.rwnd)) ++ (be2 d.gs.length)))) rfl (Eq.trans (r_cat rfl rfl rfl (by simp only [bstr_size, size_lit, List.length_append, be2_len, be4_len, be1_len, List.length_replicate, List.length_cons, List.length_nil, List.size_toArray, L_len]; omega)) (by rw [bstr_app] <;> rfl)) <| PQ.ps [(76, (Pt n 0 14))] rfl <| pQl 77 d.dv get_here ?_
    refine pP 78 (.int .i64 ((d.ds.length : Nat) : Int)) rfl (r_lenQ (c := cDp) rfl rfl rfl rfl rfl rfl h.hu rfl) <| pA 79 (V := []) (hd.of (by omega) (kb1 (by omega))) rfl rfl (by kernel_rfl) (by kernel_rfl) (qNum2n d.ds.length (by omega)) fun n18 hn18 => pP 80 (.string (bstr ((((be4 d.tsn) ++ (be4 d.rwnd)) ++ (be2 d.gs.length)) ++ (be2 d.ds.length)))) rfl (Eq.trans (r_cat rfl rfl rfl (by simp only [bstr_size, size_lit, List.length_append, be2_len, be4_len, be1_len, List.length_replicate, List.length_cons, List.length_nil, List.size_toArray, L_len]; omega)) (by rw [bstr_app] <;> rfl)) <| PQ.ps [(3, (.string (bstr ((((be4 d.tsn) ++ (be4 d.rwnd)) ++ (be2 d.gs.length)) ++ (be2 d.ds.length)))))] rfl <| PQ.done (d := []) (by kernel_rfl) fun _ => RA.rb [(0, (.agg ⟨(cChk d)⟩)), (1, (Pt n 0 0)), (2, (.string (ByteArray.mk #[]))), (3, (.string (bstr ((((be4 d.tsn) ++ (be4 d.rwnd)) ++ (be2 d.gs.length)) ++ (be2 d.ds.length))))), (8, (.int .i64 (((kd (d.typ)) : Nat) : Int))), (9, yF), (31, yF), (60, yT)] rfl (fun τr19 => ?_)
    refine RA.seq hd <| RA.sR hd env_ok <| OA.ps [(4, (.int .i64 0))] rfl <| OA.nil fun _ => RA.block ?_
    refine RA.loop hd (fun kk_ τ n' D => (∃ i : Nat, kk_ = (d.gs.length - i) ∧ n18 ≤ n' ∧ Has τ [(1, (Pt n 0 0)), (3, (.string (bstr ((((be4 d.tsn ++ be4 d.rwnd) ++ be2 d.gs.length) ++ be2 d.ds.length) ++ gsL (d.gs.take i))))), (4, (.int .i64 ((i : Nat) : Int)))] ∧ D = [(n, some ⟨[(xCr51 d)], 15, 53, true⟩)] ∧ (∀ i ∈ keys D, i < n') ∧ i ≤ d.gs.length)) ((d.gs.length - 0)) (⟨0, rfl, by omega, ⟨rfl, (by rw [show gsL (d.gs.take 0) = [] from rfl, List.append_nil] <;> rfl), rfl, trivial⟩, rfl, (kb1 (by omega)), by omega⟩) ?_
    rintro kn20 τ20 n20 _ ⟨i, rfl, hn20, hHn20, rfl, hKn20, hIn20⟩
    rw [Has.eq hHn20]
    have hKn20_0 := kk0 hKn20
    clear hKn20
    have hil := hIn20
    have hgt := gsT (l := d.gs) (i := i) (by omega)
    refine RA.seq hd <| RA.sR hd env_ok <| OA.ps [(81, (.int .i64 ((i : Nat) : Int))), (82, (Pt n 0 13))] rfl <| oL 83 d.gv get_here <| oP 84 (.int .i64 ((d.gs.length : Nat) : Int)) rfl (r_lenQ (c := cGp) rfl rfl rfl rfl rfl rfl h.hg rfl) ?_
    by_cases hc4 : ((i : Nat) : Int) < ((d.gs.length : Nat) : Int)
    ·
     obtain ⟨rg, wqhatg, hatg⟩ := h.hg.get (m := i) (by omega)
     have lathatg := hd.lt hatg
     have hmm := ris_mem (by omega) hgp.1 _ (getD_mem (d := dGp) (show i < d.gs.length by omega))
     refine oP 85 yT rfl (Eq.trans (r_bin rfl rfl rfl (b_lss rfl)) (dT hc4)) <| OA.nil fun _ => RA.condT rfl <| RA.skip env_ok ?_
     intro _
     refine RA.seq hd <| RA.block <| RA.par (md := [some [], some [], some [n], some [], none, some [], none, none, some [], some [n], some [], none, some [], none, none, some [], some [], some []]) env_ok (hd.of (by omega) (kb1 (by omega))) (by kernel_rfl) <| PQ.ps [(88, (.string (bstr ((((be4 d.tsn ++ be4 d.rwnd) ++ be2 d.gs.length) ++ be2 d.ds.length) ++ gsL (d.gs.take i))))), (89, (Pt n 0 13))] rfl <| pQl 90 d.gv get_here <| PQ.ps [(91, (.int .i64 ((i : Nat) : Int)))] rfl <| PQ.pure (dst := (some 92)) (v := (.pointer (some ⟨(rk d.gv), i, some 0⟩))) rfl rfl rfl _ (sA (V := []) (by kernel_rfl) (by kernel_rfl)) (r_iaQ (c := cGp) (m := i) rfl rfl rfl rfl rfl rfl h.hg rfl (by omega) (get_there (by omega) hatg) rfl) <| PQ.ps [(93, (.pointer (some ⟨(rk d.gv), i, some 0⟩)))] rfl <| PQ.pure (dst := (some 94)) (v := (.int .i64 (d.gs.getD i dGp).lo)) rfl rfl rfl _ (sA (V := []) (by kernel_rfl) (by kernel_rfl)) (r_load1 (e := cGp (d.gs.getD i dGp)) rfl rfl rfl rfl rfl (get_there (by omega) hatg) (mp_getA (by omega)) rfl) <| pA 95 (V := []) (hd.of (by omega) (kb1 (by omega))) rfl rfl (by kernel_rfl) (by kernel_rfl) (qNum2 ((d.gs.getD i dGp).lo) (by omega) (by omega)) fun n21 hn21 => PQ.ps [(96, (Pt n 0 13))] rfl ?_
     refine pQl 97 d.gv get_here <| PQ.ps [(98, (.int .i64 ((i : Nat) : Int)))] rfl <| PQ.pure (dst := (some 99)) (v := (.pointer (some ⟨(rk d.gv), i, some 0⟩))) rfl rfl rfl _ (sA (V := []) (by kernel_rfl) (by kernel_rfl)) (r_iaQ (c := cGp) (m := i) rfl rfl rfl rfl rfl rfl h.hg rfl (by omega) (get_there (by omega) hatg) rfl) <| PQ.ps [(100, (.pointer (some ⟨(rk d.gv), i, some 1⟩)))] rfl <| PQ.pure (dst := (some 101)) (v := (.int .i64 (d.gs.getD i dGp).hi)) rfl rfl rfl _ (sA (V := []) (by kernel_rfl) (by kernel_rfl)) (r_load1 (e := cGp (d.gs.getD i dGp)) rfl rfl rfl rfl rfl (get_there (by omega) hatg) (mp_getA (by omega)) rfl) <| pA 102 (V := []) (hd.of (by omega) (kb1 (by omega))) rfl rfl (by kernel_rfl) (by kernel_rfl) (qNum2 ((d.gs.getD i dGp).hi) (by omega) (by omega)) fun n22 hn22 => pP 103 (.string (bstr ((be2 ((d.gs.getD i dGp).lo).toNat) ++ (be2 ((d.gs.getD i dGp).hi).toNat)))) rfl (Eq.trans (r_cat rfl rfl rfl (by simp only [bstr_size, size_lit, List.length_append, be2_len, be4_len, be1_len, List.length_replicate, List.length_cons, List.length_nil, List.size_toArray, L_len]; omega)) (by rw [bstr_app] <;> rfl)) <| pP 104 (.string (bstr (((((be4 d.tsn ++ be4 d.rwnd) ++ be2 d.gs.length) ++ be2 d.ds.length) ++ gsL (d.gs.take i)) ++ ((be2 ((d.gs.getD i dGp).lo).toNat) ++ (be2 ((d.gs.getD i dGp).hi).toNat))))) rfl (Eq.trans (r_cat rfl rfl rfl (by simp only [bstr_size, size_lit, List.length_append, be2_len, be4_len, be1_len, List.length_replicate, List.length_cons, List.length_nil, List.size_toArray, L_len]; omega)) (by rw [bstr_app] <;> rfl)) <| PQ.ps [(3, (.string (bstr (((((be4 d.tsn ++ be4 d.rwnd) ++ be2 d.gs.length) ++ be2 d.ds.length) ++ gsL (d.gs.take i)) ++ ((be2 ((d.gs.getD i dGp).lo).toNat) ++ (be2 ((d.gs.getD i dGp).hi).toNat))))))] rfl <| PQ.done (d := []) (by kernel_rfl) fun _ => RA.region env_ok ?_
     refine OA.ps [(86, (.int .i64 ((i : Nat) : Int)))] rfl <| oP 87 (.int .i64 (((i + 1) : Nat) : Int)) rfl (r_bin rfl rfl rfl (b_add (i64_eq (by omega)))) <| OA.ps [(4, (.int .i64 (((i + 1) : Nat) : Int)))] rfl <| OA.nil ?_
     refine ⟨(d.gs.length - (i + 1)), by omega, [(n, some ⟨[(xCr51 d)], 15, 53, true⟩)], (Less.refl _ _ _), ⟨(i + 1), rfl, by omega, ⟨rfl, (by rw [gsL_snoc (by omega)] <;> rfl), rfl, trivial⟩, rfl, (kb1 (by omega)), by omega⟩⟩
    ·
     refine oP 85 yF rfl (Eq.trans (r_bin rfl rfl rfl (b_lss rfl)) (dF hc4)) <| OA.nil fun _ => RA.condF rfl ?_
     refine RA.exit env_ok ?_
     intro _
     refine RA.seq hd <| RA.sR hd env_ok <| OA.ps [(5, (.int .i64 0))] rfl <| OA.nil fun _ => RA.block ?_
     refine RA.loop hd (fun kk_ τ n' D => (∃ m : Nat, kk_ = (d.ds.length - m) ∧ n20 ≤ n' ∧ Has τ [(1, (Pt n 0 0)), (3, (.string (bstr (((((be4 d.tsn ++ be4 d.rwnd) ++ be2 d.gs.length) ++ be2 d.ds.length) ++ gsL d.gs) ++ dsL (d.ds.take m))))), (5, (.int .i64 ((m : Nat) : Int)))] ∧ D = [(n, some ⟨[(xCr51 d)], 15, 53, true⟩)] ∧ (∀ i ∈ keys D, i < n') ∧ m ≤ d.ds.length)) ((d.ds.length - 0)) (⟨0, rfl, by omega, ⟨rfl, (by rw [take_full (l := d.gs) (i := i) (by omega), show dsL (d.ds.take 0) = [] from rfl, List.append_nil] <;> rfl), rfl, trivial⟩, rfl, (kb1 (by omega)), by omega⟩) ?_
     rintro kn23 τ23 n23 _ ⟨m, rfl, hn23, hHn23, rfl, hKn23, hIn23⟩
     rw [Has.eq hHn23]
     have hKn23_0 := kk0 hKn23
     clear hKn23
     have him := hIn23
     have hdt := dsT (l := d.ds) (i := m) (by omega)
     refine RA.seq hd <| RA.sR hd env_ok <| OA.ps [(105, (.int .i64 ((m : Nat) : Int))), (106, (Pt n 0 14))] rfl <| oL 107 d.dv get_here <| oP 108 (.int .i64 ((d.ds.length : Nat) : Int)) rfl (r_lenQ (c := cDp) rfl rfl rfl rfl rfl rfl h.hu rfl) ?_
     by_cases hc5 : ((m : Nat) : Int) < ((d.ds.length : Nat) : Int)
     ·
      obtain ⟨rdu, wqhatdu, hatdu⟩ := h.hu.get (m := m) (by omega)
      have lathatdu := hd.lt hatdu
      refine oP 109 yT rfl (Eq.trans (r_bin rfl rfl rfl (b_lss rfl)) (dT hc5)) <| OA.nil fun _ => RA.condT rfl <| RA.skip env_ok ?_
      intro _
      refine RA.seq hd <| RA.block <| RA.region env_ok <| OA.ps [(112, (.string (bstr (((((be4 d.tsn ++ be4 d.rwnd) ++ be2 d.gs.length) ++ be2 d.ds.length) ++ gsL d.gs) ++ dsL (d.ds.take m))))), (113, (Pt n 0 14))] rfl <| oL 114 d.dv get_here <| OA.ps [(115, (.int .i64 ((m : Nat) : Int)))] rfl <| oP 116 (.pointer (some ⟨(rk d.dv), m, some 0⟩)) rfl (r_iaQ (c := cDp) (m := m) rfl rfl rfl rfl rfl rfl h.hu rfl (by omega) (get_there (by omega) hatdu) rfl) <| oP 117 (W (d.ds.getD m dDp).x) rfl (r_load1 (e := cDp (d.ds.getD m dDp)) rfl rfl rfl rfl rfl (get_there (by omega) hatdu) (mp_getA (by omega)) rfl) <| oP 118 (.int .i64 (((d.ds.getD m dDp).x.toNat : Nat) : Int)) rfl (r_cvt rfl rfl rfl rfl rfl ⟨_, rfl⟩ (i64_eq (by have := ((d.ds.getD m dDp).x).isLt; omega))) <| oC 119 (hd.of (by omega) (kb1 (by omega))) rfl rfl (qNum4 (d.ds.getD m dDp).x) fun n24 hn24 => oP 120 (.string (bstr ((((((be4 d.tsn ++ be4 d.rwnd) ++ be2 d.gs.length) ++ be2 d.ds.length) ++ gsL d.gs) ++ dsL (d.ds.take m)) ++ (be4 (d.ds.getD m dDp).x)))) rfl (Eq.trans (r_cat rfl rfl rfl (by simp only [bstr_size, size_lit, List.length_append, be2_len, be4_len, be1_len, List.length_replicate, List.length_cons, List.length_nil, List.size_toArray, L_len]; omega)) (by rw [bstr_app] <;> rfl)) ?_
      refine OA.ps [(3, (.string (bstr ((((((be4 d.tsn ++ be4 d.rwnd) ++ be2 d.gs.length) ++ be2 d.ds.length) ++ gsL d.gs) ++ dsL (d.ds.take m)) ++ (be4 (d.ds.getD m dDp).x)))))] rfl <| OA.nil fun _ => RA.region env_ok <| OA.ps [(110, (.int .i64 ((m : Nat) : Int)))] rfl <| oP 111 (.int .i64 (((m + 1) : Nat) : Int)) rfl (r_bin rfl rfl rfl (b_add (i64_eq (by omega)))) <| OA.ps [(5, (.int .i64 (((m + 1) : Nat) : Int)))] rfl <| OA.nil ?_
      refine ⟨(d.ds.length - (m + 1)), by omega, [(n, some ⟨[(xCr51 d)], 15, 53, true⟩)], (Less.refl _ _ _), ⟨(m + 1), rfl, by omega, ⟨rfl, (by rw [dsL_snoc (by omega)] <;> rfl), rfl, trivial⟩, rfl, (kb1 (by omega)), by omega⟩⟩
     ·
      refine oP 109 yF rfl (Eq.trans (r_bin rfl rfl rfl (b_lss rfl)) (dF hc5)) <| OA.nil fun _ => RA.condF rfl ?_
      refine RA.exit env_ok ?_
      intro _
      refine RA.sR hd env_ok <| OA.ps [(121, (.string (bstr (((((be4 d.tsn ++ be4 d.rwnd) ++ be2 d.gs.length) ++ be2 d.ds.length) ++ gsL d.gs) ++ dsL (d.ds.take m))))), (2, (.string (bstr (((((be4 d.tsn ++ be4 d.rwnd) ++ be2 d.gs.length) ++ be2 d.ds.length) ++ gsL d.gs) ++ dsL (d.ds.take m)))))] rfl <| OA.nil fun _ => ?_
      refine RA.ret env_ok ?_
      exact lf (.string (bstr (((((be4 d.tsn ++ be4 d.rwnd) ++ be2 d.gs.length) ++ be2 d.ds.length) ++ gsL d.gs) ++ dsL (d.ds.take m)))) (by show Value.string _ = Value.string _; rw [take_full (l := d.ds) (i := m) (by omega), body_3 (show kd d.typ = 3 from by have := kd_cases d.typ; omega)]; exact congrArg (fun z => Value.string (bstr z)) (by unfold gapsL; simp only [List.append_assoc]))
   ·
    refine oP 61 yF rfl (Eq.trans (r_bin rfl rfl rfl (b_eql rfl)) (dF hc3)) <| OA.ps [(60, yF)] rfl <| OA.nil fun _ => RA.condF rfl <| RA.sR hd env_ok ?_
    by_cases hc6 : (((kd (d.typ)) : Nat) : Int) = 4
    ·
     refine oP 123 yT rfl (Eq.trans (r_bin rfl rfl rfl (b_eql rfl)) (dT hc6)) <| OA.ps [(122, yT)] rfl <| OA.nil fun _ => RA.condT rfl <| RA.sR hd env_ok <| OA.ps [(124, (Pt n 0 6))] rfl <| oL 125 (.string d.data) get_here <| oP 126 (.agg ⟨[(.int .i64 1), (.string d.data)]⟩) rfl (by kernel_rfl) <| oC 127 (hd.of (by omega) (kb1 (by omega))) rfl rfl (r4Put 1 d.data hp1) fun n25 hn25 => OA.ps [(2, (.string (bstr (pB 1 d.data))))] rfl <| OA.nil fun _ => ?_
     refine RA.ret env_ok ?_
     exact lf (.string (bstr (pB 1 d.data))) (by rw [body_4 (show kd d.typ = 4 from by have := kd_cases d.typ; omega)] <;> rfl)
    ·
     refine oP 123 yF rfl (Eq.trans (r_bin rfl rfl rfl (b_eql rfl)) (dF hc6)) <| OA.ps [(122, yF)] rfl <| OA.nil fun _ => RA.condF rfl <| RA.sR hd env_ok ?_
     by_cases hc7 : (((kd (d.typ)) : Nat) : Int) = 6
     ·
      refine oP 129 yT rfl (Eq.trans (r_bin rfl rfl rfl (b_eql rfl)) (dT hc7)) <| OA.ps [(128, yT)] rfl <| OA.nil fun _ => RA.condT rfl <| RA.sR hd env_ok <| OA.ps [(130, (Pt n 0 12))] rfl <| oL 131 d.cv get_here ?_
      refine OA.call (dst := (some 132)) (all := [d.cv]) rfl rfl rfl rfl rfl rfl rfl rfl (CQ.imp (rCauses (hd.of (by omega) (kb1 (by omega))) d.cs d.cv hc18 (h.mono (sub_a1 hd)).hc) ?_)
      rintro _ n26 _ ⟨kcn26, q3n26, q4n26, rfl, rfl⟩ hn26
      refine OA.app1 ?_
      refine oC 133 (v := (.string (bstr (csL d.cs)))) (hd.of (by omega) (kb2 (by omega))) rfl rfl (PS.to (r4All (d.cs.map toC) d.cs.length (List.length_map _) kcn26 (okC.2 hls.2.1) hc16 get_here) (by rw [qsL_C])) fun n27 hn27 => OA.ps [(2, (.string (bstr (csL d.cs))))] rfl <| OA.nil fun _ => ?_
      refine RA.ret env_ok ?_
      exact lf (.string (bstr (csL d.cs))) (by rw [body_6 (show kd d.typ = 6 from by have := kd_cases d.typ; omega)] <;> rfl)
     ·
      refine oP 129 yF rfl (Eq.trans (r_bin rfl rfl rfl (b_eql rfl)) (dF hc7)) <| OA.ps [(128, yF)] rfl <| OA.nil fun _ => RA.condF rfl <| RA.sR hd env_ok ?_
      by_cases hc8 : (((kd (d.typ)) : Nat) : Int) = 7
      ·
       refine oP 135 yT rfl (Eq.trans (r_bin rfl rfl rfl (b_eql rfl)) (dT hc8)) <| OA.ps [(134, yT)] rfl <| OA.nil fun _ => RA.condT rfl <| RA.sR hd env_ok <| OA.ps [(136, (Pt n 0 2))] rfl <| oL 137 (W d.tsn) get_here <| oP 138 (.int .i64 ((d.tsn.toNat : Nat) : Int)) rfl (r_cvt rfl rfl rfl rfl rfl ⟨_, rfl⟩ (i64_eq (by have := (d.tsn).isLt; omega))) <| oC 139 (hd.of (by omega) (kb1 (by omega))) rfl rfl (qNum4 d.tsn) fun n28 hn28 => OA.ps [(2, (.string (bstr (be4 d.tsn))))] rfl <| OA.nil fun _ => ?_
       refine RA.ret env_ok ?_
       exact lf (.string (bstr (be4 d.tsn))) (by rw [body_7 (show kd d.typ = 7 from by have := kd_cases d.typ; omega)] <;> rfl)
      ·
       refine oP 135 yF rfl (Eq.trans (r_bin rfl rfl rfl (b_eql rfl)) (dF hc8)) <| OA.ps [(134, yF)] rfl <| OA.nil fun _ => RA.condF rfl <| RA.sR hd env_ok ?_
       by_cases hc9 : (((kd (d.typ)) : Nat) : Int) = 8
       ·
        refine oP 141 yT rfl (Eq.trans (r_bin rfl rfl rfl (b_eql rfl)) (dT hc9)) <| OA.ps [(140, yT)] rfl <| OA.nil fun _ => RA.condT rfl <| RA.sR hd env_ok <| OA.ps [(2, (.string (ByteArray.mk #[])))] rfl <| OA.nil fun _ => ?_
        refine RA.ret env_ok ?_
        exact lf (.string (ByteArray.mk #[])) (by rw [body_8 (show kd d.typ = 8 from by have := kd_cases d.typ; omega)] <;> rfl)
       ·
        refine oP 141 yF rfl (Eq.trans (r_bin rfl rfl rfl (b_eql rfl)) (dF hc9)) <| OA.ps [(140, yF)] rfl <| OA.nil fun _ => RA.condF rfl <| RA.sR hd env_ok ?_
        by_cases hc10 : (((kd (d.typ)) : Nat) : Int) = 15
        ·
         refine oP 143 yT rfl (Eq.trans (r_bin rfl rfl rfl (b_eql rfl)) (dT hc10)) <| OA.ps [(142, yT)] rfl <| OA.nil fun _ => RA.condT rfl <| RA.seq hd <| RA.par (md := [some [], some [n], none, some [], some [n], none, some [], some [], some [n], some [], some []]) env_ok (hd.of (by omega) (kb1 (by omega))) (by kernel_rfl) <| PQ.ps [(144, (Pt n 0 3))] rfl <| pQl 145 (.int .i64 d.stream) get_here <| pA 146 (V := []) (hd.of (by omega) (kb1 (by omega))) rfl rfl (by kernel_rfl) (by kernel_rfl) (qNum2 (d.stream) (by omega) (by omega)) fun n29 hn29 => PQ.ps [(147, (Pt n 0 4))] rfl <| pQl 148 (.int .i64 d.ssn) get_here ?_
         refine pA 149 (V := []) (hd.of (by omega) (kb1 (by omega))) rfl rfl (by kernel_rfl) (by kernel_rfl) (qNum2 (d.ssn) (by omega) (by omega)) fun n30 hn30 => pP 150 (.string (bstr ((be2 (d.stream).toNat) ++ (be2 (d.ssn).toNat)))) rfl (Eq.trans (r_cat rfl rfl rfl (by simp only [bstr_size, size_lit, List.length_append, be2_len, be4_len, be1_len, List.length_replicate, List.length_cons, List.length_nil, List.size_toArray, L_len]; omega)) (by rw [bstr_app] <;> rfl)) <| PQ.ps [(151, (Pt n 0 6))] rfl <| pQl 152 (.string d.data) get_here <| pP 153 (.string (bstr (((be2 (d.stream).toNat) ++ (be2 (d.ssn).toNat)) ++ L d.data))) rfl (Eq.trans (r_cat rfl rfl rfl (by simp only [bstr_size, List.length_append, be2_len, be4_len, be1_len, L_len]; omega)) (by rw [bstr_appL] <;> rfl)) <| PQ.ps [(2, (.string (bstr (((be2 (d.stream).toNat) ++ (be2 (d.ssn).toNat)) ++ L d.data))))] rfl <| PQ.done (d := []) (by kernel_rfl) fun _ => RA.rb [(0, (.agg ⟨(cChk d)⟩)), (1, (Pt n 0 0)), (2, (.string (bstr (((be2 (d.stream).toNat) ++ (be2 (d.ssn).toNat)) ++ L d.data)))), (8, (.int .i64 (((kd (d.typ)) : Nat) : Int))), (9, yF), (31, yF), (60, yF), (122, yF), (128, yF), (134, yF), (140, yF), (142, yT)] rfl (fun τr31 => ?_)
         refine RA.ret env_ok ?_
         exact lf (.string (bstr (((be2 (d.stream).toNat) ++ (be2 (d.ssn).toNat)) ++ L d.data))) (by rw [body_15 (show kd d.typ = 15 from by have := kd_cases d.typ; omega)] <;> rfl)
        ·
         refine oP 143 yF rfl (Eq.trans (r_bin rfl rfl rfl (b_eql rfl)) (dF hc10)) <| OA.ps [(142, yF)] rfl <| OA.nil fun _ => RA.condF rfl <| RA.sR hd env_ok ?_
         by_cases hc11 : (((kd (d.typ)) : Nat) : Int) = 16
         ·
          refine oP 155 yT rfl (Eq.trans (r_bin rfl rfl rfl (b_eql rfl)) (dT hc11)) <| OA.ps [(154, yT)] rfl <| OA.nil fun _ => RA.condT rfl <| RA.seq hd <| RA.par (md := [some [], some [n], some [], none, some [], some [n], none, none, some [], some []]) env_ok (hd.of (by omega) (kb1 (by omega))) (by kernel_rfl) <| PQ.ps [(156, (Pt n 0 2))] rfl <| pQl 157 (W d.tsn) get_here <| pP 158 (.int .i64 ((d.tsn.toNat : Nat) : Int)) rfl (r_cvt rfl rfl rfl rfl rfl ⟨_, rfl⟩ (i64_eq (by have := (d.tsn).isLt; omega))) <| pA 159 (V := []) (hd.of (by omega) (kb1 (by omega))) rfl rfl (by kernel_rfl) (by kernel_rfl) (qNum4 d.tsn) fun n32 hn32 => PQ.ps [(160, (Pt n 0 11))] rfl ?_
          refine pQl 161 d.pv get_here ?_
          refine PQ.call (dst := (some 162)) (all := [d.pv]) rfl rfl rfl rfl rfl rfl rfl rfl _ (sA (V := []) (by kernel_rfl) (by kernel_rfl)) (CQ.imp (CQ.keys (rParams (hd.of (by omega) (kb1 (by omega))) d.ps d.pv hp18 (h.mono (sub_a1 hd)).hp)) ?_)
          rintro _ n33 _ ⟨hkn33, ⟨kpn33, q1n33, q2n33, rfl, rfl⟩⟩
          have hn33 := hkn33.1
          refine ⟨hn33, (kp1 (by first | exact wr_new (by omega) (by omega) | exact wr_tight (by kernel_rfl) (by omega))), ?_⟩
          refine pA 163 (v := (.string (bstr (psL d.ps)))) (V := [(kpn33, some (oPrp (d.ps.map toP)))]) (hd.of (by omega) (kb2 (by omega))) rfl rfl (by kernel_rfl) (by kernel_rfl) (PS.to (r4All (d.ps.map toP) d.ps.length (List.length_map _) kpn33 (okP.2 hls.1) hp16 get_here) (by rw [qsL_P])) fun n34 hn34 => pP 164 (.string (bstr ((be4 d.tsn) ++ (psL d.ps)))) rfl (Eq.trans (r_cat rfl rfl rfl (by simp only [bstr_size, size_lit, List.length_append, be2_len, be4_len, be1_len, List.length_replicate, List.length_cons, List.length_nil, List.size_toArray, L_len]; omega)) (by rw [bstr_app] <;> rfl)) <| PQ.ps [(2, (.string (bstr ((be4 d.tsn) ++ (psL d.ps)))))] rfl <| PQ.done (d := [(kpn33, some (oPrp (d.ps.map toP)))]) (by kernel_rfl) fun _ => RA.rb [(0, (.agg ⟨(cChk d)⟩)), (1, (Pt n 0 0)), (2, (.string (bstr ((be4 d.tsn) ++ (psL d.ps))))), (8, (.int .i64 (((kd (d.typ)) : Nat) : Int))), (9, yF), (31, yF), (60, yF), (122, yF), (128, yF), (134, yF), (140, yF), (142, yF), (154, yT)] rfl (fun τr35 => ?_)
          refine RA.ret env_ok ?_
          exact lf (.string (bstr ((be4 d.tsn) ++ (psL d.ps)))) (by rw [body_16 (show kd d.typ = 16 from by have := kd_cases d.typ; omega)] <;> rfl)
         ·
          refine oP 155 yF rfl (Eq.trans (r_bin rfl rfl rfl (b_eql rfl)) (dF hc11)) <| OA.ps [(154, yF)] rfl <| OA.nil fun _ => RA.condF rfl <| RA.skip env_ok ?_
          intro _
          refine RA.sR hd env_ok <| OA.ps [(165, (Pt n 0 6))] rfl <| oL 166 (.string d.data) get_here <| OA.ps [(2, (.string d.data))] rfl <| OA.nil fun _ => RA.rb [(0, (.agg ⟨(cChk d)⟩)), (1, (Pt n 0 0)), (2, (.string d.data)), (8, (.int .i64 (((kd (d.typ)) : Nat) : Int))), (9, yF), (31, yF), (60, yF), (122, yF), (128, yF), (134, yF), (140, yF), (142, yF), (154, yF)] rfl (fun τr36 => ?_)
          refine RA.ret env_ok ?_
          exact lf (.string d.data) (by rw [body_20 (show kd d.typ = 10 ∨ kd d.typ = 20 from by have := kd_cases d.typ; omega), bstr_Lr] <;> rfl)
end Go.Proofs.Ytgajcmanompmcaa.Vt
