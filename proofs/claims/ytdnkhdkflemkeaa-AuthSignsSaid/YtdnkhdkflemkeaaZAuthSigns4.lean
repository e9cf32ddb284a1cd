/- Part 4 of the texts that prove AuthSigns: the abstract machine, its calculus, and walks through functions; joined by a program of this workplace. -/
import Derived.Test.YtdnkhdkflemkeaaZAuthSigns3
/- Cr5: walks through functions of the program, by the calculus; written by a program of this workplace. -/
namespace Go.Proofs.Ytdnkhdkflemkeaa.Vt.Cp
open Go Go.Proofs Go.Proofs.YtdnkhdkflemkeaaV
set_option maxRecDepth 100000
set_option linter.unusedVariables false
set_option linter.unusedSimpArgs false
set_option maxHeartbeats 8000000
abbrev xCr51 (d : Chk) : List Value := [(.int .i64 d.typ), (.int .i64 d.flags), (W d.tsn), (.int .i64 d.stream), (.int .i64 d.ssn), (W d.proto), (.string d.data), (W d.tag), (W d.rwnd), (.int .i64 d.outs), (.int .i64 d.ins), d.pv, d.cv, d.gv, d.dv]
set_option maxHeartbeats 4000000 in
theorem rBody {σ : Store} (d : Chk) (hok : bodyOk d)  (h : gd σ d) : PS Try.prog noDen 70 [(.agg ⟨(cChk d)⟩)] σ (.string (bstr (bodyL d))) := by
 have hls := hok.lists
 have hw1 := hok.w1
 have hw2 := hok.w2
 have hw3 := hok.w3
 have hw4 := hok.w4
 unfold wordP at hw1 hw2 hw3 hw4
 have hda := hok.data
 have hgp := hok.gaps
 have hdp := hok.dups
 have hp16 := hls.2.2.1
 have hc16 := hls.2.2.2
 have hp1 : prmOk 1 d.data := ⟨by omega, by omega, by omega⟩
 have hpl := psL_len hls.1 (i := d.ps.length) hp16
 have hcl := csL_len hls.2.1 (i := d.cs.length) hc16
 rw [List.take_length] at hpl hcl
 have hgl := gsL_len d.gs
 have hdl := dsL_len d.ds
 have hLd := L_len d.data
 have hg16 := hgp.2
 have hgal : (gapsL d).length ≤ 200 := by unfold gapsL; simp only [List.length_append, be2_len]; omega
 have hp18 : d.ps.length ≤ 18 := by omega
 have hc18 : d.cs.length ≤ 18 := by omega
 refine PS.body (E := env) env_ok rfl rfl (by show _ ≤ _; exact of_decide_eq_true (by kernel_rfl)) (fun n hd => ?_)
 refine RA.sR hd env_ok <| o1 (some 1) (Pt n 0 0) (n + 1) (n, some ⟨[(cChk d)], 15, 54, true⟩) (r_box (cs := (cChk d)) rfl rfl rfl (Nat.le_of_ble_eq_true rfl) (by simp only [List.all_cons, List.all_nil, Bool.and_true, Bool.and_eq_true, cChk]; exact ⟨rfl, rfl, rfl, rfl, rfl, rfl, rfl, rfl, rfl, rfl, rfl, (h.hp).one, (h.hc).one, (h.hg).one, (h.hu).one⟩)) <| OA.ps [(2, (.string (ByteArray.mk #[])))] rfl <| OA.nil fun _ => RA.seq hd <| RA.sR hd env_ok <| OA.ps [(6, (Pt n 0 0))] rfl <| oL 7 (.int .i64 d.typ) get_here <| oC 8 (hd.of (by omega) (kb1 (by omega))) rfl rfl (rKind (d.typ)) fun n1 hn1 => OA.nil fun _ => RA.block ?_
 refine RA.sR hd env_ok ?_
 by_cases hc1 : (((kd (d.typ)) : Nat) : Int) = 0
 ·
  refine oP 10 yT rfl (Eq.trans (r_bin rfl rfl rfl (b_eql rfl)) (dT hc1)) <| OA.ps [(9, yT)] rfl <| OA.nil fun _ => RA.condT rfl <| RA.seq hd <| RA.par (md := [some [], some [n], some [], none, some [], some [n], none, some [], some [], some [n], none, some [], some [], some [n], some [], none, some [], some [], some [n], some [], some []]) env_ok (hd.of (by omega) (kb1 (by omega))) (by kernel_rfl) <| PQ.ps [(11, (Pt n 0 2))] rfl <| pQl 12 (W d.tsn) get_here <| pP 13 (.int .i64 ((d.tsn.toNat : Nat) : Int)) rfl (r_cvt rfl rfl rfl rfl rfl ⟨_, rfl⟩ (i64_eq (by have := (d.tsn).isLt; omega))) <| pA 14 (V := []) (hd.of (by omega) (kb1 (by omega))) rfl rfl (by kernel_rfl) (by kernel_rfl) (qNum4 d.tsn) fun n2 hn2 => PQ.ps [(15, (Pt n 0 3))] rfl ?_
  refine pQl 16 (.int .i64 d.stream) get_here <| pA 17 (V := []) (hd.of (by omega) (kb1 (by omega))) rfl rfl (by kernel_rfl) (by kernel_rfl) (qNum2 (d.stream) (by omega) (by omega)) fun n3 hn3 => pP 18 (.string (bstr ((be4 d.tsn) ++ (be2 (d.stream).toNat)))) rfl (Eq.trans (r_cat rfl rfl rfl (by simp only [bstr_size, size_lit, List.length_append, be2_len, be4_len, be1_len, List.length_replicate, List.length_cons, List.length_nil, List.size_toArray, L_len]; omega)) (by rw [bstr_app] <;> rfl)) <| PQ.ps [(19, (Pt n 0 4))] rfl <| pQl 20 (.int .i64 d.ssn) get_here <| pA 21 (V := []) (hd.of (by omega) (kb1 (by omega))) rfl rfl (by kernel_rfl) (by kernel_rfl) (qNum2 (d.ssn) (by omega) (by omega)) fun n4 hn4 => pP 22 (.string (bstr (((be4 d.tsn) ++ (be2 (d.stream).toNat)) ++ (be2 (d.ssn).toNat)))) rfl (Eq.trans (r_cat rfl rfl rfl (by simp only [bstr_size, size_lit, List.length_append, be2_len, be4_len, be1_len, List.length_replicate, List.length_cons, List.length_nil, List.size_toArray, L_len]; omega)) (by rw [bstr_app] <;> rfl)) <| PQ.ps [(23, (Pt n 0 5))] rfl <| pQl 24 (W d.proto) get_here <| pP 25 (.int .i64 ((d.proto.toNat : Nat) : Int)) rfl (r_cvt rfl rfl rfl rfl rfl ⟨_, rfl⟩ (i64_eq (by have := (d.proto).isLt; omega))) <| pA 26 (V := []) (hd.of (by omega) (kb1 (by omega))) rfl rfl (by kernel_rfl) (by kernel_rfl) (qNum4 d.proto) fun n5 hn5 => ?_
  refine pP 27 (.string (bstr ((((be4 d.tsn) ++ (be2 (d.stream).toNat)) ++ (be2 (d.ssn).toNat)) ++ (be4 d.proto)))) rfl (Eq.trans (r_cat rfl rfl rfl (by simp only [bstr_size, size_lit, List.length_append, be2_len, be4_len, be1_len, List.length_replicate, List.length_cons, List.length_nil, List.size_toArray, L_len]; omega)) (by rw [bstr_app] <;> rfl)) <| PQ.ps [(28, (Pt n 0 6))] rfl <| pQl 29 (.string d.data) get_here <| pP 30 (.string (bstr (((((be4 d.tsn) ++ (be2 (d.stream).toNat)) ++ (be2 (d.ssn).toNat)) ++ (be4 d.proto)) ++ L d.data))) rfl (Eq.trans (r_cat rfl rfl rfl (by simp only [bstr_size, List.length_append, be2_len, be4_len, be1_len, L_len]; omega)) (by rw [bstr_appL] <;> rfl)) <| PQ.ps [(2, (.string (bstr (((((be4 d.tsn) ++ (be2 (d.stream).toNat)) ++ (be2 (d.ssn).toNat)) ++ (be4 d.proto)) ++ L d.data))))] rfl <| PQ.done (d := []) (by kernel_rfl) fun _ => RA.rb [(0, (.agg ⟨(cChk d)⟩)), (1, (Pt n 0 0)), (2, (.string (bstr (((((be4 d.tsn) ++ (be2 (d.stream).toNat)) ++ (be2 (d.ssn).toNat)) ++ (be4 d.proto)) ++ L d.data)))), (8, (.int .i64 (((kd (d.typ)) : Nat) : Int))), (9, yT)] rfl (fun τr6 => ?_)
  refine RA.ret env_ok ?_
  exact lf (.string (bstr (((((be4 d.tsn) ++ (be2 (d.stream).toNat)) ++ (be2 (d.ssn).toNat)) ++ (be4 d.proto)) ++ L d.data))) (by rw [body_0 (show kd d.typ = 0 from by have := kd_cases d.typ; omega)] <;> rfl)
 ·
  refine oP 10 yF rfl (Eq.trans (r_bin rfl rfl rfl (b_eql rfl)) (dF hc1)) <| OA.ps [(9, yF)] rfl <| OA.nil fun _ => RA.condF rfl <| RA.sR hd env_ok ?_
  by_cases hc2 : (((kd (d.typ)) : Nat) : Int) = 1
  ·
   refine oP 32 yT rfl (Eq.trans (r_bin rfl rfl rfl (b_eql rfl)) (dT hc2)) <| OA.ps [(31, yT)] rfl <| OA.nil fun _ => RA.condT rfl <| RA.seq hd <| RA.par (md := [some [], some [n], some [], none, some [], some [n], some [], none, some [], some [], some [n], none, some [], some [], some [n], none, some [], some [], some [n], some [], none, some [], some [], some [n], none, none, some [], some []]) env_ok (hd.of (by omega) (kb1 (by omega))) (by kernel_rfl) <| PQ.ps [(33, (Pt n 0 7))] rfl <| pQl 34 (W d.tag) get_here <| pP 35 (.int .i64 ((d.tag.toNat : Nat) : Int)) rfl (r_cvt rfl rfl rfl rfl rfl ⟨_, rfl⟩ (i64_eq (by have := (d.tag).isLt; omega))) <| pA 36 (V := []) (hd.of (by omega) (kb1 (by omega))) rfl rfl (by kernel_rfl) (by kernel_rfl) (qNum4 d.tag) fun n7 hn7 => PQ.ps [(37, (Pt n 0 8))] rfl ?_
   refine pQl 38 (W d.rwnd) get_here <| pP 39 (.int .i64 ((d.rwnd.toNat : Nat) : Int)) rfl (r_cvt rfl rfl rfl rfl rfl ⟨_, rfl⟩ (i64_eq (by have := (d.rwnd).isLt; omega))) <| pA 40 (V := []) (hd.of (by omega) (kb1 (by omega))) rfl rfl (by kernel_rfl) (by kernel_rfl) (qNum4 d.rwnd) fun n8 hn8 => pP 41 (.string (bstr ((be4 d.tag) ++ (be4 d.rwnd)))) rfl (Eq.trans (r_cat rfl rfl rfl (by simp only [bstr_size, size_lit, List.length_append, be2_len, be4_len, be1_len, List.length_replicate, List.length_cons, List.length_nil, List.size_toArray, L_len]; omega)) (by rw [bstr_app] <;> rfl)) <| PQ.ps [(42, (Pt n 0 9))] rfl <| pQl 43 (.int .i64 d.outs) get_here <| pA 44 (V := []) (hd.of (by omega) (kb1 (by omega))) rfl rfl (by kernel_rfl) (by kernel_rfl) (qNum2 (d.outs) (by omega) (by omega)) fun n9 hn9 => pP 45 (.string (bstr (((be4 d.tag) ++ (be4 d.rwnd)) ++ (be2 (d.outs).toNat)))) rfl (Eq.trans (r_cat rfl rfl rfl (by simp only [bstr_size, size_lit, List.length_append, be2_len, be4_len, be1_len, List.length_replicate, List.length_cons, List.length_nil, List.size_toArray, L_len]; omega)) (by rw [bstr_app] <;> rfl)) <| PQ.ps [(46, (Pt n 0 10))] rfl <| pQl 47 (.int .i64 d.ins) get_here <| pA 48 (V := []) (hd.of (by omega) (kb1 (by omega))) rfl rfl (by kernel_rfl) (by kernel_rfl) (qNum2 (d.ins) (by omega) (by omega)) fun n10 hn10 => ?_
   refine pP 49 (.string (bstr ((((be4 d.tag) ++ (be4 d.rwnd)) ++ (be2 (d.outs).toNat)) ++ (be2 (d.ins).toNat)))) rfl (Eq.trans (r_cat rfl rfl rfl (by simp only [bstr_size, size_lit, List.length_append, be2_len, be4_len, be1_len, List.length_replicate, List.length_cons, List.length_nil, List.size_toArray, L_len]; omega)) (by rw [bstr_app] <;> rfl)) <| PQ.ps [(50, (Pt n 0 2))] rfl <| pQl 51 (W d.tsn) get_here <| pP 52 (.int .i64 ((d.tsn.toNat : Nat) : Int)) rfl (r_cvt rfl rfl rfl rfl rfl ⟨_, rfl⟩ (i64_eq (by have := (d.tsn).isLt; omega))) <| pA 53 (V := []) (hd.of (by omega) (kb1 (by omega))) rfl rfl (by kernel_rfl) (by kernel_rfl) (qNum4 d.tsn) fun n11 hn11 => pP 54 (.string (bstr (((((be4 d.tag) ++ (be4 d.rwnd)) ++ (be2 (d.outs).toNat)) ++ (be2 (d.ins).toNat)) ++ (be4 d.tsn)))) rfl (Eq.trans (r_cat rfl rfl rfl (by simp only [bstr_size, size_lit, List.length_append, be2_len, be4_len, be1_len, List.length_replicate, List.length_cons, List.length_nil, List.size_toArray, L_len]; omega)) (by rw [bstr_app] <;> rfl)) <| PQ.ps [(55, (Pt n 0 11))] rfl <| pQl 56 d.pv get_here ?_
   refine PQ.call (dst := (some 57)) (all := [d.pv]) rfl rfl rfl rfl rfl rfl rfl rfl _ (sA (V := []) (by kernel_rfl) (by kernel_rfl)) (CQ.imp (CQ.keys (rParams (hd.of (by omega) (kb1 (by omega))) d.ps d.pv hp18 (h.mono (sub_a1 hd)).hp)) ?_)
   rintro _ n12 _ ⟨hkn12, ⟨kpn12, q1n12, q2n12, rfl, rfl⟩⟩
   have hn12 := hkn12.1
   refine ⟨hn12, (kp1 (by first | exact wr_new (by omega) (by omega) | exact wr_old [8, 12, 16, 21] (by kernel_rfl) (by omega) (by omega) (fac (lo0 rfl) (fac (lo0 rfl) (fac (lo0 rfl) (fac (lo0 rfl) fan)))))), ?_⟩
   refine pA 58 (v := (.string (bstr (psL d.ps)))) (V := [(kpn12, some (oPrp (d.ps.map toP)))]) (hd.of (by omega) (kb2 (by omega))) rfl rfl (by kernel_rfl) (by kernel_rfl) (PS.to (r4All (d.ps.map toP) d.ps.length (List.length_map _) kpn12 (okP.2 hls.1) hp16 get_here) (by rw [qsL_P])) fun n13 hn13 => pP 59 (.string (bstr ((((((be4 d.tag) ++ (be4 d.rwnd)) ++ (be2 (d.outs).toNat)) ++ (be2 (d.ins).toNat)) ++ (be4 d.tsn)) ++ (psL d.ps)))) rfl (Eq.trans (r_cat rfl rfl rfl (by simp only [bstr_size, size_lit, List.length_append, be2_len, be4_len, be1_len, List.length_replicate, List.length_cons, List.length_nil, List.size_toArray, L_len]; omega)) (by rw [bstr_app] <;> rfl)) <| PQ.ps [(2, (.string (bstr ((((((be4 d.tag) ++ (be4 d.rwnd)) ++ (be2 (d.outs).toNat)) ++ (be2 (d.ins).toNat)) ++ (be4 d.tsn)) ++ (psL d.ps)))))] rfl <| PQ.done (d := [(kpn12, some (oPrp (d.ps.map toP)))]) (by kernel_rfl) fun _ => RA.rb [(0, (.agg ⟨(cChk d)⟩)), (1, (Pt n 0 0)), (2, (.string (bstr ((((((be4 d.tag) ++ (be4 d.rwnd)) ++ (be2 (d.outs).toNat)) ++ (be2 (d.ins).toNat)) ++ (be4 d.tsn)) ++ (psL d.ps))))), (8, (.int .i64 (((kd (d.typ)) : Nat) : Int))), (9, yF), (31, yT)] rfl (fun τr14 => ?_)
   refine RA.ret env_ok ?_
   exact lf (.string (bstr ((((((be4 d.tag) ++ (be4 d.rwnd)) ++ (be2 (d.outs).toNat)) ++ (be2 (d.ins).toNat)) ++ (be4 d.tsn)) ++ (psL d.ps)))) (by rw [body_1 (show kd d.typ = 1 from by have := kd_cases d.typ; omega)] <;> rfl)
  ·
   refine oP 32 yF rfl (Eq.trans (r_bin rfl rfl rfl (b_eql rfl)) (dF hc2)) <| OA.ps [(31, yF)] rfl <| OA.nil fun _ => RA.condF rfl <| RA.sR hd env_ok ?_
   by_cases hc3 : (((kd (d.typ)) : Nat) : Int) = 3
   ·
    refine oP 61 yT rfl (Eq.trans (r_bin rfl rfl rfl (b_eql rfl)) (dT hc3)) <| OA.ps [(60, yT)] rfl <| OA.nil fun _ => RA.condT rfl <| RA.seq hd <| RA.par (md := [some [], some [n], some [], none, some [], some [n], some [], none, some [], some [], some [n], some [], none, some [], some [], some [n], some [], none, some [], some []]) env_ok (hd.of (by omega) (kb1 (by omega))) (by kernel_rfl) <| PQ.ps [(62, (Pt n 0 2))] rfl <| pQl 63 (W d.tsn) get_here <| pP 64 (.int .i64 ((d.tsn.toNat : Nat) : Int)) rfl (r_cvt rfl rfl rfl rfl rfl ⟨_, rfl⟩ (i64_eq (by have := (d.tsn).isLt; omega))) <| pA 65 (V := []) (hd.of (by omega) (kb1 (by omega))) rfl rfl (by kernel_rfl) (by kernel_rfl) (qNum4 d.tsn) fun n15 hn15 => PQ.ps [(66, (Pt n 0 8))] rfl ?_
    refine pQl 67 (W d.rwnd) get_here <| pP 68 (.int .i64 ((d.rwnd.toNat : Nat) : Int)) rfl (r_cvt rfl rfl rfl rfl rfl ⟨_, rfl⟩ (i64_eq (by have := (d.rwnd).isLt; omega))) <| pA 69 (V := []) (hd.of (by omega) (kb1 (by omega))) rfl rfl (by kernel_rfl) (by kernel_rfl) (qNum4 d.rwnd) fun n16 hn16 => pP 70 (.string (bstr ((be4 d.tsn) ++ (be4 d.rwnd)))) rfl (Eq.trans (r_cat rfl rfl rfl (by simp only [bstr_size, size_lit, List.length_append, be2_len, be4_len, be1_len, List.length_replicate, List.length_cons, List.length_nil, List.size_toArray, L_len]; omega)) (by rw [bstr_app] <;> rfl)) <| PQ.ps [(71, (Pt n 0 13))] rfl <| pQl 72 d.gv get_here <| pP 73 (.int .i64 ((d.gs.length : Nat) : Int)) rfl (r_lenQ (c := cGp) rfl rfl rfl rfl rfl rfl h.hg rfl) <| pA 74 (V := []) (hd.of (by omega) (kb1 (by omega))) rfl rfl (by kernel_rfl) (by kernel_rfl) (qNum2n d.gs.length (by omega)) fun n17 hn17 => pP 75 (.string (bstr (((be4 d.tsn) ++ (be4 d.rwnd)) ++ (be2 d.gs.length)))) rfl (Eq.trans (r_cat rfl rfl rfl (by simp only [bstr_size, size_lit, List.length_append, be2_len, be4_len, be1_len, List.length_replicate, List.length_cons, List.length_nil, List.size_toArray, L_len]; omega)) (by rw [bstr_app] <;> rfl)) <| PQ.ps [(76, (Pt n 0 14))] rfl <| pQl 77 d.dv get_here ?_
    refine pP 78 (.int .i64 ((d.ds.length : Nat) : Int)) rfl (r_lenQ (c := cDp) rfl rfl rfl rfl rfl rfl h.hu rfl) <| pA 79 (V := []) (hd.of (by omega) (kb1 (by omega))) rfl rfl (by kernel_rfl) (by kernel_rfl) (qNum2n d.ds.length (by omega)) fun n18 hn18 => pP 80 (.string (bstr ((((be4 d.tsn) ++ (be4 d.rwnd)) ++ (be2 d.gs.length)) ++ (be2 d.ds.length)))) rfl (Eq.trans (r_cat rfl rfl rfl (by simp only [bstr_size, size_lit, List.length_append, be2_len, be4_len, be1_len, List.length_replicate, List.length_cons, List.length_nil, List.size_toArray, L_len]; omega)) (by rw [bstr_app] <;> rfl)) <| PQ.ps [(3, (.string (bstr ((((be4 d.tsn) ++ (be4 d.rwnd)) ++ (be2 d.gs.length)) ++ (be2 d.ds.length)))))] rfl <| PQ.done (d := []) (by kernel_rfl) fun _ => RA.rb [(0, (.agg ⟨(cChk d)⟩)), (1, (Pt n 0 0)), (2, (.string (ByteArray.mk #[]))), (3, (.string (bstr ((((be4 d.tsn) ++ (be4 d.rwnd)) ++ (be2 d.gs.length)) ++ (be2 d.ds.length))))), (8, (.int .i64 (((kd (d.typ)) : Nat) : Int))), (9, yF), (31, yF), (60, yT)] rfl (fun τr19 => ?_)
    refine RA.seq hd <| RA.sR hd env_ok <| OA.ps [(4, (.int .i64 0))] rfl <| OA.nil fun _ => RA.block ?_
    refine RA.loop hd (fun kk_ τ n' D => (∃ i : Nat, kk_ = (d.gs.length - i) ∧ n18 ≤ n' ∧ Has τ [(1, (Pt n 0 0)), (3, (.string (bstr ((((be4 d.tsn ++ be4 d.rwnd) ++ be2 d.gs.length) ++ be2 d.ds.length) ++ gsL (d.gs.take i))))), (4, (.int .i64 ((i : Nat) : Int)))] ∧ D = [(n, some ⟨[(xCr51 d)], 15, 54, true⟩)] ∧ (∀ i ∈ keys D, i < n') ∧ i ≤ d.gs.length)) ((d.gs.length - 0)) (⟨0, rfl, by omega, ⟨rfl, (by rw [show gsL (d.gs.take 0) = [] from rfl, List.append_nil] <;> rfl), rfl, trivial⟩, rfl, (kb1 (by omega)), by omega⟩) ?_
    rintro kn20 τ20 n20 _ ⟨i, rfl, hn20, hHn20, rfl, hKn20, hIn20⟩
    rw [Has.eq hHn20]
    have hKn20_0 := kk0 hKn20
    clear hKn20
    have hil := hIn20
    have hgt := gsT (l := d.gs) (i := i) (by omega)
    refine RA.seq hd <| RA.sR hd env_ok <| OA.ps [(81, (.int .i64 ((i : Nat) : Int))), (82, (Pt n 0 13))] rfl <| oL 83 d.gv get_here <| oP 84 (.int .i64 ((d.gs.length : Nat) : Int)) rfl (r_lenQ (c := cGp) rfl rfl rfl rfl rfl rfl h.hg rfl) ?_
    by_cases hc4 : ((i : Nat) : Int) < ((d.gs.length : Nat) : Int)
    ·
     obtain ⟨rg, wqhatg, hatg⟩ := h.hg.get (m := i) (by omega)
     have lathatg := hd.lt hatg
     have hmm := ris_mem (by omega) hgp.1 _ (getD_mem (d := dGp) (show i < d.gs.length by omega))
     refine oP 85 yT rfl (Eq.trans (r_bin rfl rfl rfl (b_lss rfl)) (dT hc4)) <| OA.nil fun _ => RA.condT rfl <| RA.skip env_ok ?_
     intro _
     refine RA.seq hd <| RA.block <| RA.par (md := [some [], some [], some [n], some [], none, some [], none, none, some [], some [n], some [], none, some [], none, none, some [], some [], some []]) env_ok (hd.of (by omega) (kb1 (by omega))) (by kernel_rfl) <| PQ.ps [(88, (.string (bstr ((((be4 d.tsn ++ be4 d.rwnd) ++ be2 d.gs.length) ++ be2 d.ds.length) ++ gsL (d.gs.take i))))), (89, (Pt n 0 13))] rfl <| pQl 90 d.gv get_here <| PQ.ps [(91, (.int .i64 ((i : Nat) : Int)))] rfl <| PQ.pure (dst := (some 92)) (v := (.pointer (some ⟨(rk d.gv), i, some 0⟩))) rfl rfl rfl _ (sA (V := []) (by kernel_rfl) (by kernel_rfl)) (r_iaQ (c := cGp) (m := i) rfl rfl rfl rfl rfl rfl h.hg rfl (by omega) (get_there (by omega) hatg) rfl) <| PQ.ps [(93, (.pointer (some ⟨(rk d.gv), i, some 0⟩)))] rfl <| PQ.pure (dst := (some 94)) (v := (.int .i64 (d.gs.getD i dGp).lo)) rfl rfl rfl _ (sA (V := []) (by kernel_rfl) (by kernel_rfl)) (r_load1 (e := cGp (d.gs.getD i dGp)) rfl rfl rfl rfl rfl (get_there (by omega) hatg) (mp_getA (by omega)) rfl) <| pA 95 (V := []) (hd.of (by omega) (kb1 (by omega))) rfl rfl (by kernel_rfl) (by kernel_rfl) (qNum2 ((d.gs.getD i dGp).lo) (by omega) (by omega)) fun n21 hn21 => PQ.ps [(96, (Pt n 0 13))] rfl ?_
     refine pQl 97 d.gv get_here <| PQ.ps [(98, (.int .i64 ((i : Nat) : Int)))] rfl <| PQ.pure (dst := (some 99)) (v := (.pointer (some ⟨(rk d.gv), i, some 0⟩))) rfl rfl rfl _ (sA (V := []) (by kernel_rfl) (by kernel_rfl)) (r_iaQ (c := cGp) (m := i) rfl rfl rfl rfl rfl rfl h.hg rfl (by omega) (get_there (by omega) hatg) rfl) <| PQ.ps [(100, (.pointer (some ⟨(rk d.gv), i, some 1⟩)))] rfl <| PQ.pure (dst := (some 101)) (v := (.int .i64 (d.gs.getD i dGp).hi)) rfl rfl rfl _ (sA (V := []) (by kernel_rfl) (by kernel_rfl)) (r_load1 (e := cGp (d.gs.getD i dGp)) rfl rfl rfl rfl rfl (get_there (by omega) hatg) (mp_getA (by omega)) rfl) <| pA 102 (V := []) (hd.of (by omega) (kb1 (by omega))) rfl rfl (by kernel_rfl) (by kernel_rfl) (qNum2 ((d.gs.getD i dGp).hi) (by omega) (by omega)) fun n22 hn22 => pP 103 (.string (bstr ((be2 ((d.gs.getD i dGp).lo).toNat) ++ (be2 ((d.gs.getD i dGp).hi).toNat)))) rfl (Eq.trans (r_cat rfl rfl rfl (by simp only [bstr_size, size_lit, List.length_append, be2_len, be4_len, be1_len, List.length_replicate, List.length_cons, List.length_nil, List.size_toArray, L_len]; omega)) (by rw [bstr_app] <;> rfl)) <| pP 104 (.string (bstr (((((be4 d.tsn ++ be4 d.rwnd) ++ be2 d.gs.length) ++ be2 d.ds.length) ++ gsL (d.gs.take i)) ++ ((be2 ((d.gs.getD i dGp).lo).toNat) ++ (be2 ((d.gs.getD i dGp).hi).toNat))))) rfl (Eq.trans (r_cat rfl rfl rfl (by simp only [bstr_size, size_lit, List.length_append, be2_len, be4_len, be1_len, List.length_replicate, List.length_cons, List.length_nil, List.size_toArray, L_len]; omega)) (by rw [bstr_app] <;> rfl)) <| PQ.ps [(3, (.string (bstr (((((be4 d.tsn ++ be4 d.rwnd) ++ be2 d.gs.length) ++ be2 d.ds.length) ++ gsL (d.gs.take i)) ++ ((be2 ((d.gs.getD i dGp).lo).toNat) ++ (be2 ((d.gs.getD i dGp).hi).toNat))))))] rfl <| PQ.done (d := []) (by kernel_rfl) fun _ => RA.region env_ok ?_
     refine OA.ps [(86, (.int .i64 ((i : Nat) : Int)))] rfl <| oP 87 (.int .i64 (((i + 1) : Nat) : Int)) rfl (r_bin rfl rfl rfl (b_add (i64_eq (by omega)))) <| OA.ps [(4, (.int .i64 (((i + 1) : Nat) : Int)))] rfl <| OA.nil ?_
     refine ⟨(d.gs.length - (i + 1)), by omega, [(n, some ⟨[(xCr51 d)], 15, 54, true⟩)], (Less.refl _ _ _), ⟨(i + 1), rfl, by omega, ⟨rfl, (by rw [gsL_snoc (by omega)] <;> rfl), rfl, trivial⟩, rfl, (kb1 (by omega)), by omega⟩⟩
    ·
     refine oP 85 yF rfl (Eq.trans (r_bin rfl rfl rfl (b_lss rfl)) (dF hc4)) <| OA.nil fun _ => RA.condF rfl ?_
     refine RA.exit env_ok ?_
     intro _
     refine RA.seq hd <| RA.sR hd env_ok <| OA.ps [(5, (.int .i64 0))] rfl <| OA.nil fun _ => RA.block ?_
     refine RA.loop hd (fun kk_ τ n' D => (∃ m : Nat, kk_ = (d.ds.length - m) ∧ n20 ≤ n' ∧ Has τ [(1, (Pt n 0 0)), (3, (.string (bstr (((((be4 d.tsn ++ be4 d.rwnd) ++ be2 d.gs.length) ++ be2 d.ds.length) ++ gsL d.gs) ++ dsL (d.ds.take m))))), (5, (.int .i64 ((m : Nat) : Int)))] ∧ D = [(n, some ⟨[(xCr51 d)], 15, 54, true⟩)] ∧ (∀ i ∈ keys D, i < n') ∧ m ≤ d.ds.length)) ((d.ds.length - 0)) (⟨0, rfl, by omega, ⟨rfl, (by rw [take_full (l := d.gs) (i := i) (by omega), show dsL (d.ds.take 0) = [] from rfl, List.append_nil] <;> rfl), rfl, trivial⟩, rfl, (kb1 (by omega)), by omega⟩) ?_
     rintro kn23 τ23 n23 _ ⟨m, rfl, hn23, hHn23, rfl, hKn23, hIn23⟩
     rw [Has.eq hHn23]
     have hKn23_0 := kk0 hKn23
     clear hKn23
     have him := hIn23
     have hdt := dsT (l := d.ds) (i := m) (by omega)
     refine RA.seq hd <| RA.sR hd env_ok <| OA.ps [(105, (.int .i64 ((m : Nat) : Int))), (106, (Pt n 0 14))] rfl <| oL 107 d.dv get_here <| oP 108 (.int .i64 ((d.ds.length : Nat) : Int)) rfl (r_lenQ (c := cDp) rfl rfl rfl rfl rfl rfl h.hu rfl) ?_
     by_cases hc5 : ((m : Nat) : Int) < ((d.ds.length : Nat) : Int)
     ·
      obtain ⟨rdu, wqhatdu, hatdu⟩ := h.hu.get (m := m) (by omega)
      have lathatdu := hd.lt hatdu
      refine oP 109 yT rfl (Eq.trans (r_bin rfl rfl rfl (b_lss rfl)) (dT hc5)) <| OA.nil fun _ => RA.condT rfl <| RA.skip env_ok ?_
      intro _
      refine RA.seq hd <| RA.block <| RA.region env_ok <| OA.ps [(112, (.string (bstr (((((be4 d.tsn ++ be4 d.rwnd) ++ be2 d.gs.length) ++ be2 d.ds.length) ++ gsL d.gs) ++ dsL (d.ds.take m))))), (113, (Pt n 0 14))] rfl <| oL 114 d.dv get_here <| OA.ps [(115, (.int .i64 ((m : Nat) : Int)))] rfl <| oP 116 (.pointer (some ⟨(rk d.dv), m, some 0⟩)) rfl (r_iaQ (c := cDp) (m := m) rfl rfl rfl rfl rfl rfl h.hu rfl (by omega) (get_there (by omega) hatdu) rfl) <| oP 117 (W (d.ds.getD m dDp).x) rfl (r_load1 (e := cDp (d.ds.getD m dDp)) rfl rfl rfl rfl rfl (get_there (by omega) hatdu) (mp_getA (by omega)) rfl) <| oP 118 (.int .i64 (((d.ds.getD m dDp).x.toNat : Nat) : Int)) rfl (r_cvt rfl rfl rfl rfl rfl ⟨_, rfl⟩ (i64_eq (by have := ((d.ds.getD m dDp).x).isLt; omega))) <| oC 119 (hd.of (by omega) (kb1 (by omega))) rfl rfl (qNum4 (d.ds.getD m dDp).x) fun n24 hn24 => oP 120 (.string (bstr ((((((be4 d.tsn ++ be4 d.rwnd) ++ be2 d.gs.length) ++ be2 d.ds.length) ++ gsL d.gs) ++ dsL (d.ds.take m)) ++ (be4 (d.ds.getD m dDp).x)))) rfl (Eq.trans (r_cat rfl rfl rfl (by simp only [bstr_size, size_lit, List.length_append, be2_len, be4_len, be1_len, List.length_replicate, List.length_cons, List.length_nil, List.size_toArray, L_len]; omega)) (by rw [bstr_app] <;> rfl)) ?_
      refine OA.ps [(3, (.string (bstr ((((((be4 d.tsn ++ be4 d.rwnd) ++ be2 d.gs.length) ++ be2 d.ds.length) ++ gsL d.gs) ++ dsL (d.ds.take m)) ++ (be4 (d.ds.getD m dDp).x)))))] rfl <| OA.nil fun _ => RA.region env_ok <| OA.ps [(110, (.int .i64 ((m : Nat) : Int)))] rfl <| oP 111 (.int .i64 (((m + 1) : Nat) : Int)) rfl (r_bin rfl rfl rfl (b_add (i64_eq (by omega)))) <| OA.ps [(5, (.int .i64 (((m + 1) : Nat) : Int)))] rfl <| OA.nil ?_
      refine ⟨(d.ds.length - (m + 1)), by omega, [(n, some ⟨[(xCr51 d)], 15, 54, true⟩)], (Less.refl _ _ _), ⟨(m + 1), rfl, by omega, ⟨rfl, (by rw [dsL_snoc (by omega)] <;> rfl), rfl, trivial⟩, rfl, (kb1 (by omega)), by omega⟩⟩
     ·
      refine oP 109 yF rfl (Eq.trans (r_bin rfl rfl rfl (b_lss rfl)) (dF hc5)) <| OA.nil fun _ => RA.condF rfl ?_
      refine RA.exit env_ok ?_
      intro _
      refine RA.sR hd env_ok <| OA.ps [(121, (.string (bstr (((((be4 d.tsn ++ be4 d.rwnd) ++ be2 d.gs.length) ++ be2 d.ds.length) ++ gsL d.gs) ++ dsL (d.ds.take m))))), (2, (.string (bstr (((((be4 d.tsn ++ be4 d.rwnd) ++ be2 d.gs.length) ++ be2 d.ds.length) ++ gsL d.gs) ++ dsL (d.ds.take m)))))] rfl <| OA.nil fun _ => ?_
      refine RA.ret env_ok ?_
      exact lf (.string (bstr (((((be4 d.tsn ++ be4 d.rwnd) ++ be2 d.gs.length) ++ be2 d.ds.length) ++ gsL d.gs) ++ dsL (d.ds.take m)))) (by show Value.string _ = Value.string _; rw [take_full (l := d.ds) (i := m) (by omega), body_3 (show kd d.typ = 3 from by have := kd_cases d.typ; omega)]; exact congrArg (fun z => Value.string (bstr z)) (by unfold gapsL; simp only [List.append_assoc]))
   ·
    refine oP 61 yF rfl (Eq.trans (r_bin rfl rfl rfl (b_eql rfl)) (dF hc3)) <| OA.ps [(60, yF)] rfl <| OA.nil fun _ => RA.condF rfl <| RA.sR hd env_ok ?_
    by_cases hc6 : (((kd (d.typ)) : Nat) : Int) = 4
    ·
     refine oP 123 yT rfl (Eq.trans (r_bin rfl rfl rfl (b_eql rfl)) (dT hc6)) <| OA.ps [(122, yT)] rfl <| OA.nil fun _ => RA.condT rfl <| RA.sR hd env_ok <| OA.ps [(124, (Pt n 0 6))] rfl <| oL 125 (.string d.data) get_here <| oP 126 (.agg ⟨[(.int .i64 1), (.string d.data)]⟩) rfl (by kernel_rfl) <| oC 127 (hd.of (by omega) (kb1 (by omega))) rfl rfl (r4Put 1 d.data hp1) fun n25 hn25 => OA.ps [(2, (.string (bstr (pB 1 d.data))))] rfl <| OA.nil fun _ => ?_
     refine RA.ret env_ok ?_
     exact lf (.string (bstr (pB 1 d.data))) (by rw [body_4 (show kd d.typ = 4 from by have := kd_cases d.typ; omega)] <;> rfl)
    ·
     refine oP 123 yF rfl (Eq.trans (r_bin rfl rfl rfl (b_eql rfl)) (dF hc6)) <| OA.ps [(122, yF)] rfl <| OA.nil fun _ => RA.condF rfl <| RA.sR hd env_ok ?_
     by_cases hc7 : (((kd (d.typ)) : Nat) : Int) = 6
     ·
      refine oP 129 yT rfl (Eq.trans (r_bin rfl rfl rfl (b_eql rfl)) (dT hc7)) <| OA.ps [(128, yT)] rfl <| OA.nil fun _ => RA.condT rfl <| RA.sR hd env_ok <| OA.ps [(130, (Pt n 0 12))] rfl <| oL 131 d.cv get_here ?_
      refine OA.call (dst := (some 132)) (all := [d.cv]) rfl rfl rfl rfl rfl rfl rfl rfl (CQ.imp (rCauses (hd.of (by omega) (kb1 (by omega))) d.cs d.cv hc18 (h.mono (sub_a1 hd)).hc) ?_)
      rintro _ n26 _ ⟨kcn26, q3n26, q4n26, rfl, rfl⟩ hn26
      refine OA.app1 ?_
      refine oC 133 (v := (.string (bstr (csL d.cs)))) (hd.of (by omega) (kb2 (by omega))) rfl rfl (PS.to (r4All (d.cs.map toC) d.cs.length (List.length_map _) kcn26 (okC.2 hls.2.1) hc16 get_here) (by rw [qsL_C])) fun n27 hn27 => OA.ps [(2, (.string (bstr (csL d.cs))))] rfl <| OA.nil fun _ => ?_
      refine RA.ret env_ok ?_
      exact lf (.string (bstr (csL d.cs))) (by rw [body_6 (show kd d.typ = 6 from by have := kd_cases d.typ; omega)] <;> rfl)
     ·
      refine oP 129 yF rfl (Eq.trans (r_bin rfl rfl rfl (b_eql rfl)) (dF hc7)) <| OA.ps [(128, yF)] rfl <| OA.nil fun _ => RA.condF rfl <| RA.sR hd env_ok ?_
      by_cases hc8 : (((kd (d.typ)) : Nat) : Int) = 7
      ·
       refine oP 135 yT rfl (Eq.trans (r_bin rfl rfl rfl (b_eql rfl)) (dT hc8)) <| OA.ps [(134, yT)] rfl <| OA.nil fun _ => RA.condT rfl <| RA.sR hd env_ok <| OA.ps [(136, (Pt n 0 2))] rfl <| oL 137 (W d.tsn) get_here <| oP 138 (.int .i64 ((d.tsn.toNat : Nat) : Int)) rfl (r_cvt rfl rfl rfl rfl rfl ⟨_, rfl⟩ (i64_eq (by have := (d.tsn).isLt; omega))) <| oC 139 (hd.of (by omega) (kb1 (by omega))) rfl rfl (qNum4 d.tsn) fun n28 hn28 => OA.ps [(2, (.string (bstr (be4 d.tsn))))] rfl <| OA.nil fun _ => ?_
       refine RA.ret env_ok ?_
       exact lf (.string (bstr (be4 d.tsn))) (by rw [body_7 (show kd d.typ = 7 from by have := kd_cases d.typ; omega)] <;> rfl)
      ·
       refine oP 135 yF rfl (Eq.trans (r_bin rfl rfl rfl (b_eql rfl)) (dF hc8)) <| OA.ps [(134, yF)] rfl <| OA.nil fun _ => RA.condF rfl <| RA.sR hd env_ok ?_
       by_cases hc9 : (((kd (d.typ)) : Nat) : Int) = 8
       ·
        refine oP 141 yT rfl (Eq.trans (r_bin rfl rfl rfl (b_eql rfl)) (dT hc9)) <| OA.ps [(140, yT)] rfl <| OA.nil fun _ => RA.condT rfl <| RA.sR hd env_ok <| OA.ps [(2, (.string (ByteArray.mk #[])))] rfl <| OA.nil fun _ => ?_
        refine RA.ret env_ok ?_
        exact lf (.string (ByteArray.mk #[])) (by rw [body_8 (show kd d.typ = 8 from by have := kd_cases d.typ; omega)] <;> rfl)
       ·
        refine oP 141 yF rfl (Eq.trans (r_bin rfl rfl rfl (b_eql rfl)) (dF hc9)) <| OA.ps [(140, yF)] rfl <| OA.nil fun _ => RA.condF rfl <| RA.sR hd env_ok ?_
        by_cases hc10 : (((kd (d.typ)) : Nat) : Int) = 15
        ·
         refine oP 143 yT rfl (Eq.trans (r_bin rfl rfl rfl (b_eql rfl)) (dT hc10)) <| OA.ps [(142, yT)] rfl <| OA.nil fun _ => RA.condT rfl <| RA.seq hd <| RA.par (md := [some [], some [n], none, some [], some [n], none, some [], some [], some [n], some [], some []]) env_ok (hd.of (by omega) (kb1 (by omega))) (by kernel_rfl) <| PQ.ps [(144, (Pt n 0 3))] rfl <| pQl 145 (.int .i64 d.stream) get_here <| pA 146 (V := []) (hd.of (by omega) (kb1 (by omega))) rfl rfl (by kernel_rfl) (by kernel_rfl) (qNum2 (d.stream) (by omega) (by omega)) fun n29 hn29 => PQ.ps [(147, (Pt n 0 4))] rfl <| pQl 148 (.int .i64 d.ssn) get_here ?_
         refine pA 149 (V := []) (hd.of (by omega) (kb1 (by omega))) rfl rfl (by kernel_rfl) (by kernel_rfl) (qNum2 (d.ssn) (by omega) (by omega)) fun n30 hn30 => pP 150 (.string (bstr ((be2 (d.stream).toNat) ++ (be2 (d.ssn).toNat)))) rfl (Eq.trans (r_cat rfl rfl rfl (by simp only [bstr_size, size_lit, List.length_append, be2_len, be4_len, be1_len, List.length_replicate, List.length_cons, List.length_nil, List.size_toArray, L_len]; omega)) (by rw [bstr_app] <;> rfl)) <| PQ.ps [(151, (Pt n 0 6))] rfl <| pQl 152 (.string d.data) get_here <| pP 153 (.string (bstr (((be2 (d.stream).toNat) ++ (be2 (d.ssn).toNat)) ++ L d.data))) rfl (Eq.trans (r_cat rfl rfl rfl (by simp only [bstr_size, List.length_append, be2_len, be4_len, be1_len, L_len]; omega)) (by rw [bstr_appL] <;> rfl)) <| PQ.ps [(2, (.string (bstr (((be2 (d.stream).toNat) ++ (be2 (d.ssn).toNat)) ++ L d.data))))] rfl <| PQ.done (d := []) (by kernel_rfl) fun _ => RA.rb [(0, (.agg ⟨(cChk d)⟩)), (1, (Pt n 0 0)), (2, (.string (bstr (((be2 (d.stream).toNat) ++ (be2 (d.ssn).toNat)) ++ L d.data)))), (8, (.int .i64 (((kd (d.typ)) : Nat) : Int))), (9, yF), (31, yF), (60, yF), (122, yF), (128, yF), (134, yF), (140, yF), (142, yT)] rfl (fun τr31 => ?_)
         refine RA.ret env_ok ?_
         exact lf (.string (bstr (((be2 (d.stream).toNat) ++ (be2 (d.ssn).toNat)) ++ L d.data))) (by rw [body_15 (show kd d.typ = 15 from by have := kd_cases d.typ; omega)] <;> rfl)
        ·
         refine oP 143 yF rfl (Eq.trans (r_bin rfl rfl rfl (b_eql rfl)) (dF hc10)) <| OA.ps [(142, yF)] rfl <| OA.nil fun _ => RA.condF rfl <| RA.sR hd env_ok ?_
         by_cases hc11 : (((kd (d.typ)) : Nat) : Int) = 16
         ·
          refine oP 155 yT rfl (Eq.trans (r_bin rfl rfl rfl (b_eql rfl)) (dT hc11)) <| OA.ps [(154, yT)] rfl <| OA.nil fun _ => RA.condT rfl <| RA.seq hd <| RA.par (md := [some [], some [n], some [], none, some [], some [n], none, none, some [], some []]) env_ok (hd.of (by omega) (kb1 (by omega))) (by kernel_rfl) <| PQ.ps [(156, (Pt n 0 2))] rfl <| pQl 157 (W d.tsn) get_here <| pP 158 (.int .i64 ((d.tsn.toNat : Nat) : Int)) rfl (r_cvt rfl rfl rfl rfl rfl ⟨_, rfl⟩ (i64_eq (by have := (d.tsn).isLt; omega))) <| pA 159 (V := []) (hd.of (by omega) (kb1 (by omega))) rfl rfl (by kernel_rfl) (by kernel_rfl) (qNum4 d.tsn) fun n32 hn32 => PQ.ps [(160, (Pt n 0 11))] rfl ?_
          refine pQl 161 d.pv get_here ?_
          refine PQ.call (dst := (some 162)) (all := [d.pv]) rfl rfl rfl rfl rfl rfl rfl rfl _ (sA (V := []) (by kernel_rfl) (by kernel_rfl)) (CQ.imp (CQ.keys (rParams (hd.of (by omega) (kb1 (by omega))) d.ps d.pv hp18 (h.mono (sub_a1 hd)).hp)) ?_)
          rintro _ n33 _ ⟨hkn33, ⟨kpn33, q1n33, q2n33, rfl, rfl⟩⟩
          have hn33 := hkn33.1
          refine ⟨hn33, (kp1 (by first | exact wr_new (by omega) (by omega) | exact wr_tight (by kernel_rfl) (by omega))), ?_⟩
          refine pA 163 (v := (.string (bstr (psL d.ps)))) (V := [(kpn33, some (oPrp (d.ps.map toP)))]) (hd.of (by omega) (kb2 (by omega))) rfl rfl (by kernel_rfl) (by kernel_rfl) (PS.to (r4All (d.ps.map toP) d.ps.length (List.length_map _) kpn33 (okP.2 hls.1) hp16 get_here) (by rw [qsL_P])) fun n34 hn34 => pP 164 (.string (bstr ((be4 d.tsn) ++ (psL d.ps)))) rfl (Eq.trans (r_cat rfl rfl rfl (by simp only [bstr_size, size_lit, List.length_append, be2_len, be4_len, be1_len, List.length_replicate, List.length_cons, List.length_nil, List.size_toArray, L_len]; omega)) (by rw [bstr_app] <;> rfl)) <| PQ.ps [(2, (.string (bstr ((be4 d.tsn) ++ (psL d.ps)))))] rfl <| PQ.done (d := [(kpn33, some (oPrp (d.ps.map toP)))]) (by kernel_rfl) fun _ => RA.rb [(0, (.agg ⟨(cChk d)⟩)), (1, (Pt n 0 0)), (2, (.string (bstr ((be4 d.tsn) ++ (psL d.ps))))), (8, (.int .i64 (((kd (d.typ)) : Nat) : Int))), (9, yF), (31, yF), (60, yF), (122, yF), (128, yF), (134, yF), (140, yF), (142, yF), (154, yT)] rfl (fun τr35 => ?_)
          refine RA.ret env_ok ?_
          exact lf (.string (bstr ((be4 d.tsn) ++ (psL d.ps)))) (by rw [body_16 (show kd d.typ = 16 from by have := kd_cases d.typ; omega)] <;> rfl)
         ·
          refine oP 155 yF rfl (Eq.trans (r_bin rfl rfl rfl (b_eql rfl)) (dF hc11)) <| OA.ps [(154, yF)] rfl <| OA.nil fun _ => RA.condF rfl <| RA.skip env_ok ?_
          intro _
          refine RA.sR hd env_ok <| OA.ps [(165, (Pt n 0 6))] rfl <| oL 166 (.string d.data) get_here <| OA.ps [(2, (.string d.data))] rfl <| OA.nil fun _ => RA.rb [(0, (.agg ⟨(cChk d)⟩)), (1, (Pt n 0 0)), (2, (.string d.data)), (8, (.int .i64 (((kd (d.typ)) : Nat) : Int))), (9, yF), (31, yF), (60, yF), (122, yF), (128, yF), (134, yF), (140, yF), (142, yF), (154, yF)] rfl (fun τr36 => ?_)
          refine RA.ret env_ok ?_
          exact lf (.string d.data) (by rw [body_20 (show kd d.typ = 10 ∨ kd d.typ = 20 from by have := kd_cases d.typ; omega), bstr_Lr] <;> rfl)
end Go.Proofs.Ytdnkhdkflemkeaa.Vt.Cp
/- Cp4: walks through functions of the program, by the calculus; written by a program of this workplace. -/
namespace Go.Proofs.Ytdnkhdkflemkeaa.Vt.Cp
open Go Go.Proofs Go.Proofs.YtdnkhdkflemkeaaV
set_option maxRecDepth 100000
set_option linter.unusedVariables false
set_option linter.unusedSimpArgs false
set_option maxHeartbeats 8000000
theorem pl_0 {d : Chk} (h : kd d.typ = 0) : plainD d = Chk.mk d.typ d.flags d.tsn d.stream d.ssn d.proto d.data 0#32 0#32 0 0 (.slice none 0 0) (.slice none 0 0) (.slice none 0 0) (.slice none 0 0) [] [] [] [] := by unfold plainD; rw [h]; rfl
theorem pl_1 {d : Chk} (h : kd d.typ = 1) : plainD d = Chk.mk d.typ d.flags d.tsn 0 0 0#32 ByteArray.empty d.tag d.rwnd d.outs d.ins d.pv (.slice none 0 0) (.slice none 0 0) (.slice none 0 0) d.ps [] [] [] := by unfold plainD; rw [h]; rfl
theorem pl_3 {d : Chk} (h : kd d.typ = 3) : plainD d = Chk.mk d.typ d.flags d.tsn 0 0 0#32 ByteArray.empty 0#32 d.rwnd 0 0 (.slice none 0 0) (.slice none 0 0) d.gv d.dv [] [] d.gs d.ds := by unfold plainD; rw [h]; rfl
theorem pl_4 {d : Chk} (h : kd d.typ = 4) : plainD d = Chk.mk d.typ d.flags 0#32 0 0 0#32 d.data 0#32 0#32 0 0 (.slice none 0 0) (.slice none 0 0) (.slice none 0 0) (.slice none 0 0) [] [] [] [] := by unfold plainD; rw [h]; rfl
theorem pl_6 {d : Chk} (h : kd d.typ = 6) : plainD d = Chk.mk d.typ d.flags 0#32 0 0 0#32 ByteArray.empty 0#32 0#32 0 0 (.slice none 0 0) d.cv (.slice none 0 0) (.slice none 0 0) [] d.cs [] [] := by unfold plainD; rw [h]; rfl
theorem pl_7 {d : Chk} (h : kd d.typ = 7) : plainD d = Chk.mk d.typ d.flags d.tsn 0 0 0#32 ByteArray.empty 0#32 0#32 0 0 (.slice none 0 0) (.slice none 0 0) (.slice none 0 0) (.slice none 0 0) [] [] [] [] := by unfold plainD; rw [h]; rfl
theorem pl_8 {d : Chk} (h : kd d.typ = 8) : plainD d = Chk.mk d.typ d.flags 0#32 0 0 0#32 ByteArray.empty 0#32 0#32 0 0 (.slice none 0 0) (.slice none 0 0) (.slice none 0 0) (.slice none 0 0) [] [] [] [] := by unfold plainD; rw [h]; rfl
theorem pl_10 {d : Chk} (h : kd d.typ = 10) : plainD d = Chk.mk d.typ d.flags 0#32 0 0 0#32 d.data 0#32 0#32 0 0 (.slice none 0 0) (.slice none 0 0) (.slice none 0 0) (.slice none 0 0) [] [] [] [] := by unfold plainD; rw [h]; rfl
theorem pl_15 {d : Chk} (h : kd d.typ = 15) : plainD d = Chk.mk d.typ d.flags 0#32 d.stream d.ssn 0#32 d.data 0#32 0#32 0 0 (.slice none 0 0) (.slice none 0 0) (.slice none 0 0) (.slice none 0 0) [] [] [] [] := by unfold plainD; rw [h]; rfl
theorem pl_16 {d : Chk} (h : kd d.typ = 16) : plainD d = Chk.mk d.typ d.flags d.tsn 0 0 0#32 ByteArray.empty 0#32 0#32 0 0 d.pv (.slice none 0 0) (.slice none 0 0) (.slice none 0 0) d.ps [] [] [] := by unfold plainD; rw [h]; rfl
theorem pl_20 {d : Chk} (h : kd d.typ = 20) : plainD d = Chk.mk d.typ d.flags 0#32 0 0 0#32 d.data 0#32 0#32 0 0 (.slice none 0 0) (.slice none 0 0) (.slice none 0 0) (.slice none 0 0) [] [] [] [] := by unfold plainD; rw [h]; rfl
abbrev xCp41 (d : Chk) : List Value := [(.int .i64 d.typ), (.int .i64 d.flags), (.int .u32 0), (.int .i64 d.stream), (.int .i64 d.ssn), (.int .u32 0), (.string ByteArray.empty), (.int .u32 0), (.int .u32 0), (.int .i64 0), (.int .i64 0), (.slice none 0 0), (.slice none 0 0), (.slice none 0 0), (.slice none 0 0)]
abbrev xCp42 (d : Chk) : List Value := [(.int .i64 d.typ), (.int .i64 d.flags), (W d.tsn), (.int .i64 d.stream), (.int .i64 d.ssn), (.int .u32 0), (.string ByteArray.empty), (.int .u32 0), (.int .u32 0), (.int .i64 0), (.int .i64 0), (.slice none 0 0), (.slice none 0 0), (.slice none 0 0), (.slice none 0 0)]
abbrev xCp43 (d : Chk) : List Value := [(.int .i64 d.typ), (.int .i64 d.flags), (.int .u32 0), (.int .i64 d.stream), (.int .i64 0), (.int .u32 0), (.string ByteArray.empty), (.int .u32 0), (.int .u32 0), (.int .i64 0), (.int .i64 0), (.slice none 0 0), (.slice none 0 0), (.slice none 0 0), (.slice none 0 0)]
abbrev xCp44 (d : Chk) : List Value := [(.int .i64 d.typ), (.int .i64 d.flags), (W d.tsn), (.int .i64 d.stream), (.int .i64 d.ssn), (W d.proto), (.string ByteArray.empty), (.int .u32 0), (.int .u32 0), (.int .i64 0), (.int .i64 0), (.slice none 0 0), (.slice none 0 0), (.slice none 0 0), (.slice none 0 0)]
abbrev xCp45 (d : Chk) : List Value := [(.int .i64 d.typ), (.int .i64 d.flags), (W d.tsn), (.int .i64 d.stream), (.int .i64 0), (.int .u32 0), (.string ByteArray.empty), (.int .u32 0), (.int .u32 0), (.int .i64 0), (.int .i64 0), (.slice none 0 0), (.slice none 0 0), (.slice none 0 0), (.slice none 0 0)]
abbrev xCp46 (d : Chk) : List Value := [(.int .i64 d.typ), (.int .i64 d.flags), (.int .u32 0), (.int .i64 0), (.int .i64 0), (.int .u32 0), (.string ByteArray.empty), (W d.tag), (W d.rwnd), (.int .i64 d.outs), (.int .i64 d.ins), (.slice none 0 0), (.slice none 0 0), (.slice none 0 0), (.slice none 0 0)]
abbrev xCp47 (d : Chk) : List Value := [(.int .i64 d.typ), (.int .i64 d.flags), (.int .u32 0), (.int .i64 d.stream), (.int .i64 d.ssn), (.int .u32 0), (.string d.data), (.int .u32 0), (.int .u32 0), (.int .i64 0), (.int .i64 0), (.slice none 0 0), (.slice none 0 0), (.slice none 0 0), (.slice none 0 0)]
abbrev xCp48 (d : Chk) : List Value := [(.int .i64 d.typ), (.int .i64 d.flags), (.int .u32 0), (.int .i64 0), (.int .i64 0), (.int .u32 0), (.string ByteArray.empty), (.int .u32 0), (.int .u32 0), (.int .i64 0), (.int .i64 0), (.slice none 0 0), (.slice none 0 0), (.slice none 0 0), (.slice none 0 0)]
abbrev xCp49 (d : Chk) : List Value := [(.int .i64 d.typ), (.int .i64 d.flags), (.int .u32 0), (.int .i64 0), (.int .i64 0), (.int .u32 0), (.string ByteArray.empty), (W d.tag), (W d.rwnd), (.int .i64 d.outs), (.int .i64 0), (.slice none 0 0), (.slice none 0 0), (.slice none 0 0), (.slice none 0 0)]
abbrev xCp410 (d : Chk) : List Value := [(.int .i64 d.typ), (.int .i64 d.flags), (W d.tsn), (.int .i64 0), (.int .i64 0), (.int .u32 0), (.string ByteArray.empty), (W d.tag), (W d.rwnd), (.int .i64 d.outs), (.int .i64 d.ins), (.slice none 0 0), (.slice none 0 0), (.slice none 0 0), (.slice none 0 0)]
abbrev xCp411 (d : Chk) : List Value := [(.int .i64 d.typ), (.int .i64 d.flags), (W d.tsn), (.int .i64 0), (.int .i64 0), (.int .u32 0), (.string ByteArray.empty), (.int .u32 0), (.int .u32 0), (.int .i64 0), (.int .i64 0), (.slice none 0 0), (.slice none 0 0), (.slice none 0 0), (.slice none 0 0)]
abbrev xCp412 (d : Chk) : List Value := [(.int .i64 d.typ), (.int .i64 d.flags), (W d.tsn), (.int .i64 d.stream), (.int .i64 d.ssn), (W d.proto), (.string d.data), (.int .u32 0), (.int .u32 0), (.int .i64 0), (.int .i64 0), (.slice none 0 0), (.slice none 0 0), (.slice none 0 0), (.slice none 0 0)]
abbrev xCp413 (d : Chk) : List Value := [(.int .i64 d.typ), (.int .i64 d.flags), (.int .u32 0), (.int .i64 0), (.int .i64 0), (.int .u32 0), (.string ByteArray.empty), (W d.tag), (.int .u32 0), (.int .i64 0), (.int .i64 0), (.slice none 0 0), (.slice none 0 0), (.slice none 0 0), (.slice none 0 0)]
abbrev xCp414 (d : Chk) : List Value := [(.int .i64 d.typ), (.int .i64 d.flags), (.int .u32 0), (.int .i64 0), (.int .i64 0), (.int .u32 0), (.string ByteArray.empty), (W d.tag), (W d.rwnd), (.int .i64 0), (.int .i64 0), (.slice none 0 0), (.slice none 0 0), (.slice none 0 0), (.slice none 0 0)]
abbrev xCp415 (d : Chk) : List Value := [(.int .i64 d.typ), (.int .i64 d.flags), (W d.tsn), (.int .i64 0), (.int .i64 0), (.int .u32 0), (.string ByteArray.empty), (.int .u32 0), (W d.rwnd), (.int .i64 0), (.int .i64 0), (.slice none 0 0), (.slice none 0 0), (.slice none 0 0), (.slice none 0 0)]
abbrev xCp416 (d : Chk) : List Value := [(.int .i64 d.typ), (.int .i64 d.flags), (.int .u32 0), (.int .i64 0), (.int .i64 0), (.int .u32 0), (.string d.data), (.int .u32 0), (.int .u32 0), (.int .i64 0), (.int .i64 0), (.slice none 0 0), (.slice none 0 0), (.slice none 0 0), (.slice none 0 0)]
abbrev xCp417 : List Value := [(.int .i64 0), (.int .i64 0), (.int .u32 0), (.int .i64 0), (.int .i64 0), (.int .u32 0), (.string ByteArray.empty), (.int .u32 0), (.int .u32 0), (.int .i64 0), (.int .i64 0), (.slice none 0 0), (.slice none 0 0), (.slice none 0 0), (.slice none 0 0)]
abbrev xCp418 (d : Chk) : List Value := [(.int .i64 d.typ), (.int .i64 d.flags), (.int .u32 0), (.int .i64 0), (.int .i64 0), (.int .u32 0), (.string ByteArray.empty), (.int .u32 0), (.int .u32 0), (.int .i64 0), (.int .i64 0), (.slice none 0 0), d.cv, (.slice none 0 0), (.slice none 0 0)]
abbrev xCp419 (d : Chk) : List Value := [(.int .i64 d.typ), (.int .i64 d.flags), (W d.tsn), (.int .i64 0), (.int .i64 0), (.int .u32 0), (.string ByteArray.empty), (W d.tag), (W d.rwnd), (.int .i64 d.outs), (.int .i64 d.ins), d.pv, (.slice none 0 0), (.slice none 0 0), (.slice none 0 0)]
abbrev xCp420 (d : Chk) : List Value := [(.int .i64 d.typ), (.int .i64 d.flags), (W d.tsn), (.int .i64 0), (.int .i64 0), (.int .u32 0), (.string ByteArray.empty), (.int .u32 0), (.int .u32 0), (.int .i64 0), (.int .i64 0), d.pv, (.slice none 0 0), (.slice none 0 0), (.slice none 0 0)]
abbrev xCp421 (d : Chk) : List Value := [(.int .i64 d.typ), (.int .i64 d.flags), (W d.tsn), (.int .i64 0), (.int .i64 0), (.int .u32 0), (.string ByteArray.empty), (.int .u32 0), (W d.rwnd), (.int .i64 0), (.int .i64 0), (.slice none 0 0), (.slice none 0 0), d.gv, (.slice none 0 0)]
abbrev xCp422 (d : Chk) : List Value := [(.int .i64 d.typ), (.int .i64 d.flags), (W d.tsn), (.int .i64 0), (.int .i64 0), (.int .u32 0), (.string ByteArray.empty), (.int .u32 0), (W d.rwnd), (.int .i64 0), (.int .i64 0), (.slice none 0 0), (.slice none 0 0), d.gv, d.dv]
set_option maxHeartbeats 8000000 in
theorem sPlain {σ : Store} (d : Chk)  (h : gd σ d) : PS Try.prog noDen 97 [(.agg ⟨(cChk d)⟩)] σ (.agg ⟨(cChk (plainD d))⟩) := by
 refine PS.body (E := env) env_ok rfl rfl (by show _ ≤ _; exact of_decide_eq_true (by kernel_rfl)) (fun n hd => ?_)
 refine RA.sR hd env_ok <| o1 (some 1) (Pt n 0 0) (n + 1) (n, some ⟨[(cChk d)], 15, 54, true⟩) (r_box (cs := (cChk d)) rfl rfl rfl (Nat.le_of_ble_eq_true rfl) (by simp only [List.all_cons, List.all_nil, Bool.and_true, Bool.and_eq_true, cChk]; exact ⟨rfl, rfl, rfl, rfl, rfl, rfl, rfl, rfl, rfl, rfl, rfl, (h.hp).one, (h.hc).one, (h.hg).one, (h.hu).one⟩)) <| o1 (some 2) (.pointer (some ⟨(n + 1), 0, some 0⟩)) (n + 2) ((n + 1), some ⟨[xCp417], 15, 54, true⟩) rfl <| OA.nil fun _ => RA.sR hd env_ok <| OA.ps [(4, (Pt n 0 0))] rfl <| oL 5 (.int .i64 d.typ) (get_there (by omega) get_here) <| OA.ps [(6, (Pt n 0 1))] rfl <| oL 7 (.int .i64 d.flags) (get_there (by omega) get_here) <| oP 8 (.agg ⟨(xCp48 d)⟩) rfl (by kernel_rfl) <| o1 (some 3) (.pointer (some ⟨(n + 2), 0, some 0⟩)) (n + 3) ((n + 2), some ⟨[xCp417], 15, 54, true⟩) rfl ?_
 refine o1 none yU (n + 3) ((n + 2), some ⟨[(xCp48 d)], 15, 54, true⟩) (rS get_here) <| OA.nil fun _ => RA.weaken hd (LsO (fA get_here get_here (fA (get_there (by omega) get_here) (gt2 (by omega) get_here) (fA (gt2 (by omega) get_here) (gt3 (by omega) get_here) fan)))) <| RA.seq hd <| RA.sR hd env_ok <| OA.ps [(9, (Pt n 0 0))] rfl <| oL 10 (.int .i64 d.typ) (gt2 (by omega) get_here) <| OA.nil fun _ => RA.block <| RA.sR hd env_ok ?_
 by_cases hc1 : d.typ = 0
 ·
  refine oP 15 yT rfl (Eq.trans (r_bin rfl rfl rfl (b_eql rfl)) (dT hc1)) <| OA.ps [(14, yT)] rfl <| OA.nil fun _ => RA.condT rfl <| RA.par (md := [some [], some [n], some [], some [n], some [], some [n], some [], some [n], some [], some [n], some [], none, some [], none, some [], none, some [], none, some [], none]) env_ok (hd.of (by omega) (kb3 (by omega))) (by kernel_rfl) <| PQ.ps [(16, (Pt n 0 2))] rfl <| pQl 17 (W d.tsn) (gt2 (by omega) get_here) <| PQ.ps [(18, (Pt n 0 3))] rfl <| pQl 19 (.int .i64 d.stream) (gt2 (by omega) get_here) <| PQ.ps [(20, (Pt n 0 4))] rfl <| pQl 21 (.int .i64 d.ssn) (gt2 (by omega) get_here) ?_
  refine PQ.ps [(22, (Pt n 0 5))] rfl <| pQl 23 (W d.proto) (gt2 (by omega) get_here) <| PQ.ps [(24, (Pt n 0 6))] rfl <| pQl 25 (.string d.data) (gt2 (by omega) get_here) <| PQ.ps [(26, (.pointer (some ⟨(n + 2), 0, some 2⟩)))] rfl <| PQ.op (dst := none) (v := (.tuple #[])) (n1 := (n + 3)) (d1 := [((n + 2), some ⟨[(xCp411 d)], 15, 54, true⟩)]) rfl rfl rfl _ (sA (V := []) (by kernel_rfl) (by kernel_rfl)) (rS get_here) (by omega) (kp1 (wr_old [2, 3, 4, 5, 6, 7, 8, 9] (by kernel_rfl) (by omega) (by omega) (fac (lo0 rfl) (fac (lo1 rfl (by omega)) (fac (lo0 rfl) (fac (lo1 rfl (by omega)) (fac (lo0 rfl) (fac (lo1 rfl (by omega)) (fac (lo0 rfl) (fac (lo1 rfl (by omega)) fan)))))))))) <| PQ.ps [(27, (.pointer (some ⟨(n + 2), 0, some 3⟩)))] rfl <| PQ.op (dst := none) (v := (.tuple #[])) (n1 := (n + 3)) (d1 := [((n + 2), some ⟨[(xCp45 d)], 15, 54, true⟩)]) rfl rfl rfl _ (sA (V := [((n + 2), some ⟨[(xCp411 d)], 15, 54, true⟩)]) (by kernel_rfl) (by kernel_rfl)) (rS get_here) (by omega) (kp1 (wr_late [4, 5, 6, 7, 8, 9] (by kernel_rfl) (by kernel_rfl) (by omega) 11 (by kernel_rfl) (by simp [keys]) (fac (lo0 rfl) (fac (lo1 rfl (by omega)) (fac (lo0 rfl) (fac (lo1 rfl (by omega)) (fac (lo0 rfl) (fac (lo1 rfl (by omega)) fan)))))))) <| PQ.ps [(28, (.pointer (some ⟨(n + 2), 0, some 4⟩)))] rfl <| PQ.op (dst := none) (v := (.tuple #[])) (n1 := (n + 3)) (d1 := [((n + 2), some ⟨[(xCp42 d)], 15, 54, true⟩)]) rfl rfl rfl _ (sA (V := [((n + 2), some ⟨[(xCp45 d)], 15, 54, true⟩), ((n + 2), some ⟨[(xCp411 d)], 15, 54, true⟩)]) (by kernel_rfl) (by kernel_rfl)) (rS get_here) (by omega) (kp1 (wr_late [6, 7, 8, 9] (by kernel_rfl) (by kernel_rfl) (by omega) 11 (by kernel_rfl) (by simp [keys]) (fac (lo0 rfl) (fac (lo1 rfl (by omega)) (fac (lo0 rfl) (fac (lo1 rfl (by omega)) fan)))))) <| PQ.ps [(29, (.pointer (some ⟨(n + 2), 0, some 5⟩)))] rfl ?_
  refine PQ.op (dst := none) (v := (.tuple #[])) (n1 := (n + 3)) (d1 := [((n + 2), some ⟨[(xCp44 d)], 15, 54, true⟩)]) rfl rfl rfl _ (sA (V := [((n + 2), some ⟨[(xCp42 d)], 15, 54, true⟩), ((n + 2), some ⟨[(xCp45 d)], 15, 54, true⟩), ((n + 2), some ⟨[(xCp411 d)], 15, 54, true⟩)]) (by kernel_rfl) (by kernel_rfl)) (rS get_here) (by omega) (kp1 (wr_late [8, 9] (by kernel_rfl) (by kernel_rfl) (by omega) 11 (by kernel_rfl) (by simp [keys]) (fac (lo0 rfl) (fac (lo1 rfl (by omega)) fan)))) <| PQ.ps [(30, (.pointer (some ⟨(n + 2), 0, some 6⟩)))] rfl <| PQ.op (dst := none) (v := (.tuple #[])) (n1 := (n + 3)) (d1 := [((n + 2), some ⟨[(xCp412 d)], 15, 54, true⟩)]) rfl rfl rfl _ (sA (V := [((n + 2), some ⟨[(xCp44 d)], 15, 54, true⟩), ((n + 2), some ⟨[(xCp42 d)], 15, 54, true⟩), ((n + 2), some ⟨[(xCp45 d)], 15, 54, true⟩), ((n + 2), some ⟨[(xCp411 d)], 15, 54, true⟩)]) (by kernel_rfl) (by kernel_rfl)) (rS get_here) (by omega) (kp1 (wr_tight (by kernel_rfl) (by omega))) <| PQ.done (d := [((n + 2), some ⟨[(xCp412 d)], 15, 54, true⟩), ((n + 2), some ⟨[(xCp44 d)], 15, 54, true⟩), ((n + 2), some ⟨[(xCp42 d)], 15, 54, true⟩), ((n + 2), some ⟨[(xCp45 d)], 15, 54, true⟩), ((n + 2), some ⟨[(xCp411 d)], 15, 54, true⟩)]) (by kernel_rfl) fun _ => RA.weaken hd (LsO (fA get_here get_here (fA (get_there (by omega) get_here) (gt6 (by omega) get_here) (fA (gt2 (by omega) get_here) (gt7 (by omega) get_here) fan)))) <| RA.rb [(0, (.agg ⟨(cChk d)⟩)), (1, (Pt n 0 0)), (2, (.pointer (some ⟨(n + 1), 0, some 0⟩))), (3, (.pointer (some ⟨(n + 2), 0, some 0⟩))), (10, (.int .i64 d.typ)), (14, yT)] rfl (fun τr1 => ?_)
  refine RA.sR hd env_ok <| oP 102 (.agg ⟨(xCp412 d)⟩) rfl (r_loadA rfl rfl rfl rfl get_here rfl rfl rfl) <| o1 none yU (n + 3) ((n + 1), some ⟨[(xCp412 d)], 15, 54, true⟩) (rS (get_there (by omega) get_here)) <| OA.nil fun _ => RA.weaken hd (LsO (fA get_here get_here (fA (get_there (by omega) get_here) (get_there (by omega) get_here) (fA (gt2 (by omega) get_here) (gt3 (by omega) get_here) fan)))) ?_
  refine RA.ret env_ok ?_
  refine ⟨.inr rfl, [(.agg ⟨(xCp412 d)⟩)], (resL_cons (res_cellA rfl rfl rfl get_here rfl rfl rfl) resL_nil), (congrArg (fun z => Value.agg ⟨cChk z⟩) (pl_0 (by have := kd_cases d.typ; omega)).symm), (kc3 (by omega))⟩
 ·
  refine oP 15 yF rfl (Eq.trans (r_bin rfl rfl rfl (b_eql rfl)) (dF hc1)) <| OA.ps [(14, yF)] rfl <| OA.nil fun _ => RA.condF rfl <| RA.seq hd <| RA.sR hd env_ok ?_
  by_cases hc2 : d.typ = 1
  ·
   refine oP 32 yT rfl (Eq.trans (r_bin rfl rfl rfl (b_eql rfl)) (dT hc2)) <| OA.ps [(31, yT)] rfl <| OA.nil fun _ => RA.condT rfl <| RA.skip env_ok ?_
   intro _
   refine RA.condT rfl <| RA.par (md := [some [], some [n], some [], some [n], some [], some [n], some [], some [n], some [], some [n], some [], some [n], some [], none, some [], none, some [], none, some [], none, some [], none, some [], none]) env_ok (hd.of (by omega) (kb3 (by omega))) (by kernel_rfl) <| PQ.ps [(34, (Pt n 0 7))] rfl <| pQl 35 (W d.tag) (gt2 (by omega) get_here) <| PQ.ps [(36, (Pt n 0 8))] rfl <| pQl 37 (W d.rwnd) (gt2 (by omega) get_here) <| PQ.ps [(38, (Pt n 0 9))] rfl <| pQl 39 (.int .i64 d.outs) (gt2 (by omega) get_here) <| PQ.ps [(40, (Pt n 0 10))] rfl <| pQl 41 (.int .i64 d.ins) (gt2 (by omega) get_here) <| PQ.ps [(42, (Pt n 0 2))] rfl ?_
   refine pQl 43 (W d.tsn) (gt2 (by omega) get_here) <| PQ.ps [(44, (Pt n 0 11))] rfl <| pQl 45 d.pv (gt2 (by omega) get_here) <| PQ.ps [(46, (.pointer (some ⟨(n + 2), 0, some 7⟩)))] rfl <| PQ.op (dst := none) (v := (.tuple #[])) (n1 := (n + 3)) (d1 := [((n + 2), some ⟨[(xCp413 d)], 15, 54, true⟩)]) rfl rfl rfl _ (sA (V := []) (by kernel_rfl) (by kernel_rfl)) (rS get_here) (by omega) (kp1 (wr_old [2, 3, 4, 5, 6, 7, 8, 9, 10, 11] (by kernel_rfl) (by omega) (by omega) (fac (lo0 rfl) (fac (lo1 rfl (by omega)) (fac (lo0 rfl) (fac (lo1 rfl (by omega)) (fac (lo0 rfl) (fac (lo1 rfl (by omega)) (fac (lo0 rfl) (fac (lo1 rfl (by omega)) (fac (lo0 rfl) (fac (lo1 rfl (by omega)) fan)))))))))))) <| PQ.ps [(47, (.pointer (some ⟨(n + 2), 0, some 8⟩)))] rfl <| PQ.op (dst := none) (v := (.tuple #[])) (n1 := (n + 3)) (d1 := [((n + 2), some ⟨[(xCp414 d)], 15, 54, true⟩)]) rfl rfl rfl _ (sA (V := [((n + 2), some ⟨[(xCp413 d)], 15, 54, true⟩)]) (by kernel_rfl) (by kernel_rfl)) (rS get_here) (by omega) (kp1 (wr_late [4, 5, 6, 7, 8, 9, 10, 11] (by kernel_rfl) (by kernel_rfl) (by omega) 13 (by kernel_rfl) (by simp [keys]) (fac (lo0 rfl) (fac (lo1 rfl (by omega)) (fac (lo0 rfl) (fac (lo1 rfl (by omega)) (fac (lo0 rfl) (fac (lo1 rfl (by omega)) (fac (lo0 rfl) (fac (lo1 rfl (by omega)) fan)))))))))) <| PQ.ps [(48, (.pointer (some ⟨(n + 2), 0, some 9⟩)))] rfl <| PQ.op (dst := none) (v := (.tuple #[])) (n1 := (n + 3)) (d1 := [((n + 2), some ⟨[(xCp49 d)], 15, 54, true⟩)]) rfl rfl rfl _ (sA (V := [((n + 2), some ⟨[(xCp414 d)], 15, 54, true⟩), ((n + 2), some ⟨[(xCp413 d)], 15, 54, true⟩)]) (by kernel_rfl) (by kernel_rfl)) (rS get_here) (by omega) (kp1 (wr_late [6, 7, 8, 9, 10, 11] (by kernel_rfl) (by kernel_rfl) (by omega) 13 (by kernel_rfl) (by simp [keys]) (fac (lo0 rfl) (fac (lo1 rfl (by omega)) (fac (lo0 rfl) (fac (lo1 rfl (by omega)) (fac (lo0 rfl) (fac (lo1 rfl (by omega)) fan)))))))) <| PQ.ps [(49, (.pointer (some ⟨(n + 2), 0, some 10⟩)))] rfl <| PQ.op (dst := none) (v := (.tuple #[])) (n1 := (n + 3)) (d1 := [((n + 2), some ⟨[(xCp46 d)], 15, 54, true⟩)]) rfl rfl rfl _ (sA (V := [((n + 2), some ⟨[(xCp49 d)], 15, 54, true⟩), ((n + 2), some ⟨[(xCp414 d)], 15, 54, true⟩), ((n + 2), some ⟨[(xCp413 d)], 15, 54, true⟩)]) (by kernel_rfl) (by kernel_rfl)) (rS get_here) (by omega) (kp1 (wr_late [8, 9, 10, 11] (by kernel_rfl) (by kernel_rfl) (by omega) 13 (by kernel_rfl) (by simp [keys]) (fac (lo0 rfl) (fac (lo1 rfl (by omega)) (fac (lo0 rfl) (fac (lo1 rfl (by omega)) fan)))))) ?_
   refine PQ.ps [(50, (.pointer (some ⟨(n + 2), 0, some 2⟩)))] rfl <| PQ.op (dst := none) (v := (.tuple #[])) (n1 := (n + 3)) (d1 := [((n + 2), some ⟨[(xCp410 d)], 15, 54, true⟩)]) rfl rfl rfl _ (sA (V := [((n + 2), some ⟨[(xCp46 d)], 15, 54, true⟩), ((n + 2), some ⟨[(xCp49 d)], 15, 54, true⟩), ((n + 2), some ⟨[(xCp414 d)], 15, 54, true⟩), ((n + 2), some ⟨[(xCp413 d)], 15, 54, true⟩)]) (by kernel_rfl) (by kernel_rfl)) (rS get_here) (by omega) (kp1 (wr_late [10, 11] (by kernel_rfl) (by kernel_rfl) (by omega) 13 (by kernel_rfl) (by simp [keys]) (fac (lo0 rfl) (fac (lo1 rfl (by omega)) fan)))) <| PQ.ps [(51, (.pointer (some ⟨(n + 2), 0, some 11⟩)))] rfl <| PQ.op (dst := none) (v := (.tuple #[])) (n1 := (n + 3)) (d1 := [((n + 2), some ⟨[(xCp419 d)], 15, 54, true⟩)]) rfl rfl rfl _ (sA (V := [((n + 2), some ⟨[(xCp410 d)], 15, 54, true⟩), ((n + 2), some ⟨[(xCp46 d)], 15, 54, true⟩), ((n + 2), some ⟨[(xCp49 d)], 15, 54, true⟩), ((n + 2), some ⟨[(xCp414 d)], 15, 54, true⟩), ((n + 2), some ⟨[(xCp413 d)], 15, 54, true⟩)]) (by kernel_rfl) (by kernel_rfl)) (r_store (cs := [d.pv]) rfl rfl rfl rfl (h.hp).cells rfl (by simp only [List.all_cons, List.all_nil, Bool.and_true]; exact (h.hp).one) get_here rfl rfl (Nat.le_of_ble_eq_true rfl) rfl) (by omega) (kp1 (wr_tight (by kernel_rfl) (by omega))) <| PQ.done (d := [((n + 2), some ⟨[(xCp419 d)], 15, 54, true⟩), ((n + 2), some ⟨[(xCp410 d)], 15, 54, true⟩), ((n + 2), some ⟨[(xCp46 d)], 15, 54, true⟩), ((n + 2), some ⟨[(xCp49 d)], 15, 54, true⟩), ((n + 2), some ⟨[(xCp414 d)], 15, 54, true⟩), ((n + 2), some ⟨[(xCp413 d)], 15, 54, true⟩)]) (by kernel_rfl) fun _ => RA.weaken hd (LsO (fA get_here get_here (fA (get_there (by omega) get_here) (gt7 (by omega) get_here) (fA (gt2 (by omega) get_here) (gt8 (by omega) get_here) fan)))) <| RA.rb [(0, (.agg ⟨(cChk d)⟩)), (1, (Pt n 0 0)), (2, (.pointer (some ⟨(n + 1), 0, some 0⟩))), (3, (.pointer (some ⟨(n + 2), 0, some 0⟩))), (10, (.int .i64 d.typ)), (14, yF), (31, yT)] rfl (fun τr2 => ?_)
   refine RA.sR hd env_ok <| oP 102 (.agg ⟨(xCp419 d)⟩) rfl (r_loadA rfl rfl rfl rfl get_here rfl rfl rfl) <| o1 none yU (n + 3) ((n + 1), some ⟨[(xCp419 d)], 15, 54, true⟩) (r_store (cs := (xCp419 d)) rfl rfl rfl rfl rfl rfl (by simp only [List.all_cons, List.all_nil, Bool.and_true, Bool.and_eq_true]; exact ⟨rfl, rfl, rfl, rfl, rfl, rfl, rfl, rfl, rfl, rfl, rfl, (h.hp).one, rfl, rfl, rfl⟩) (get_there (by omega) get_here) rfl rfl (Nat.le_of_ble_eq_true rfl) rfl) <| OA.nil fun _ => RA.weaken hd (LsO (fA get_here get_here (fA (get_there (by omega) get_here) (get_there (by omega) get_here) (fA (gt2 (by omega) get_here) (gt3 (by omega) get_here) fan)))) ?_
   refine RA.ret env_ok ?_
   refine ⟨.inr rfl, [(.agg ⟨(xCp419 d)⟩)], (resL_cons (res_cellA rfl rfl rfl get_here rfl rfl rfl) resL_nil), (congrArg (fun z => Value.agg ⟨cChk z⟩) (pl_1 (by have := kd_cases d.typ; omega)).symm), (kc3 (by omega))⟩
  ·
   refine oP 32 yF rfl (Eq.trans (r_bin rfl rfl rfl (b_eql rfl)) (dF hc2)) <| OA.ps [(31, yF)] rfl <| OA.nil fun _ => RA.condF rfl <| RA.region env_ok ?_
   by_cases hc3 : d.typ = 2
   ·
    refine oP 33 yT rfl (Eq.trans (r_bin rfl rfl rfl (b_eql rfl)) (dT hc3)) <| OA.ps [(31, yT)] rfl <| OA.nil fun _ => RA.condT rfl <| RA.par (md := [some [], some [n], some [], some [n], some [], some [n], some [], some [n], some [], some [n], some [], some [n], some [], none, some [], none, some [], none, some [], none, some [], none, some [], none]) env_ok (hd.of (by omega) (kb3 (by omega))) (by kernel_rfl) <| PQ.ps [(34, (Pt n 0 7))] rfl <| pQl 35 (W d.tag) (gt2 (by omega) get_here) <| PQ.ps [(36, (Pt n 0 8))] rfl <| pQl 37 (W d.rwnd) (gt2 (by omega) get_here) <| PQ.ps [(38, (Pt n 0 9))] rfl <| pQl 39 (.int .i64 d.outs) (gt2 (by omega) get_here) ?_
    refine PQ.ps [(40, (Pt n 0 10))] rfl <| pQl 41 (.int .i64 d.ins) (gt2 (by omega) get_here) <| PQ.ps [(42, (Pt n 0 2))] rfl <| pQl 43 (W d.tsn) (gt2 (by omega) get_here) <| PQ.ps [(44, (Pt n 0 11))] rfl <| pQl 45 d.pv (gt2 (by omega) get_here) <| PQ.ps [(46, (.pointer (some ⟨(n + 2), 0, some 7⟩)))] rfl <| PQ.op (dst := none) (v := (.tuple #[])) (n1 := (n + 3)) (d1 := [((n + 2), some ⟨[(xCp413 d)], 15, 54, true⟩)]) rfl rfl rfl _ (sA (V := []) (by kernel_rfl) (by kernel_rfl)) (rS get_here) (by omega) (kp1 (wr_old [2, 3, 4, 5, 6, 7, 8, 9, 10, 11] (by kernel_rfl) (by omega) (by omega) (fac (lo0 rfl) (fac (lo1 rfl (by omega)) (fac (lo0 rfl) (fac (lo1 rfl (by omega)) (fac (lo0 rfl) (fac (lo1 rfl (by omega)) (fac (lo0 rfl) (fac (lo1 rfl (by omega)) (fac (lo0 rfl) (fac (lo1 rfl (by omega)) fan)))))))))))) <| PQ.ps [(47, (.pointer (some ⟨(n + 2), 0, some 8⟩)))] rfl <| PQ.op (dst := none) (v := (.tuple #[])) (n1 := (n + 3)) (d1 := [((n + 2), some ⟨[(xCp414 d)], 15, 54, true⟩)]) rfl rfl rfl _ (sA (V := [((n + 2), some ⟨[(xCp413 d)], 15, 54, true⟩)]) (by kernel_rfl) (by kernel_rfl)) (rS get_here) (by omega) (kp1 (wr_late [4, 5, 6, 7, 8, 9, 10, 11] (by kernel_rfl) (by kernel_rfl) (by omega) 13 (by kernel_rfl) (by simp [keys]) (fac (lo0 rfl) (fac (lo1 rfl (by omega)) (fac (lo0 rfl) (fac (lo1 rfl (by omega)) (fac (lo0 rfl) (fac (lo1 rfl (by omega)) (fac (lo0 rfl) (fac (lo1 rfl (by omega)) fan)))))))))) <| PQ.ps [(48, (.pointer (some ⟨(n + 2), 0, some 9⟩)))] rfl ?_
    refine PQ.op (dst := none) (v := (.tuple #[])) (n1 := (n + 3)) (d1 := [((n + 2), some ⟨[(xCp49 d)], 15, 54, true⟩)]) rfl rfl rfl _ (sA (V := [((n + 2), some ⟨[(xCp414 d)], 15, 54, true⟩), ((n + 2), some ⟨[(xCp413 d)], 15, 54, true⟩)]) (by kernel_rfl) (by kernel_rfl)) (rS get_here) (by omega) (kp1 (wr_late [6, 7, 8, 9, 10, 11] (by kernel_rfl) (by kernel_rfl) (by omega) 13 (by kernel_rfl) (by simp [keys]) (fac (lo0 rfl) (fac (lo1 rfl (by omega)) (fac (lo0 rfl) (fac (lo1 rfl (by omega)) (fac (lo0 rfl) (fac (lo1 rfl (by omega)) fan)))))))) <| PQ.ps [(49, (.pointer (some ⟨(n + 2), 0, some 10⟩)))] rfl <| PQ.op (dst := none) (v := (.tuple #[])) (n1 := (n + 3)) (d1 := [((n + 2), some ⟨[(xCp46 d)], 15, 54, true⟩)]) rfl rfl rfl _ (sA (V := [((n + 2), some ⟨[(xCp49 d)], 15, 54, true⟩), ((n + 2), some ⟨[(xCp414 d)], 15, 54, true⟩), ((n + 2), some ⟨[(xCp413 d)], 15, 54, true⟩)]) (by kernel_rfl) (by kernel_rfl)) (rS get_here) (by omega) (kp1 (wr_late [8, 9, 10, 11] (by kernel_rfl) (by kernel_rfl) (by omega) 13 (by kernel_rfl) (by simp [keys]) (fac (lo0 rfl) (fac (lo1 rfl (by omega)) (fac (lo0 rfl) (fac (lo1 rfl (by omega)) fan)))))) <| PQ.ps [(50, (.pointer (some ⟨(n + 2), 0, some 2⟩)))] rfl <| PQ.op (dst := none) (v := (.tuple #[])) (n1 := (n + 3)) (d1 := [((n + 2), some ⟨[(xCp410 d)], 15, 54, true⟩)]) rfl rfl rfl _ (sA (V := [((n + 2), some ⟨[(xCp46 d)], 15, 54, true⟩), ((n + 2), some ⟨[(xCp49 d)], 15, 54, true⟩), ((n + 2), some ⟨[(xCp414 d)], 15, 54, true⟩), ((n + 2), some ⟨[(xCp413 d)], 15, 54, true⟩)]) (by kernel_rfl) (by kernel_rfl)) (rS get_here) (by omega) (kp1 (wr_late [10, 11] (by kernel_rfl) (by kernel_rfl) (by omega) 13 (by kernel_rfl) (by simp [keys]) (fac (lo0 rfl) (fac (lo1 rfl (by omega)) fan)))) <| PQ.ps [(51, (.pointer (some ⟨(n + 2), 0, some 11⟩)))] rfl <| PQ.op (dst := none) (v := (.tuple #[])) (n1 := (n + 3)) (d1 := [((n + 2), some ⟨[(xCp419 d)], 15, 54, true⟩)]) rfl rfl rfl _ (sA (V := [((n + 2), some ⟨[(xCp410 d)], 15, 54, true⟩), ((n + 2), some ⟨[(xCp46 d)], 15, 54, true⟩), ((n + 2), some ⟨[(xCp49 d)], 15, 54, true⟩), ((n + 2), some ⟨[(xCp414 d)], 15, 54, true⟩), ((n + 2), some ⟨[(xCp413 d)], 15, 54, true⟩)]) (by kernel_rfl) (by kernel_rfl)) (r_store (cs := [d.pv]) rfl rfl rfl rfl (h.hp).cells rfl (by simp only [List.all_cons, List.all_nil, Bool.and_true]; exact (h.hp).one) get_here rfl rfl (Nat.le_of_ble_eq_true rfl) rfl) (by omega) (kp1 (wr_tight (by kernel_rfl) (by omega))) <| PQ.done (d := [((n + 2), some ⟨[(xCp419 d)], 15, 54, true⟩), ((n + 2), some ⟨[(xCp410 d)], 15, 54, true⟩), ((n + 2), some ⟨[(xCp46 d)], 15, 54, true⟩), ((n + 2), some ⟨[(xCp49 d)], 15, 54, true⟩), ((n + 2), some ⟨[(xCp414 d)], 15, 54, true⟩), ((n + 2), some ⟨[(xCp413 d)], 15, 54, true⟩)]) (by kernel_rfl) fun _ => RA.weaken hd (LsO (fA get_here get_here (fA (get_there (by omega) get_here) (gt7 (by omega) get_here) (fA (gt2 (by omega) get_here) (gt8 (by omega) get_here) fan)))) <| RA.rb [(0, (.agg ⟨(cChk d)⟩)), (1, (Pt n 0 0)), (2, (.pointer (some ⟨(n + 1), 0, some 0⟩))), (3, (.pointer (some ⟨(n + 2), 0, some 0⟩))), (10, (.int .i64 d.typ)), (14, yF), (31, yT)] rfl (fun τr3 => ?_)
    refine RA.sR hd env_ok <| oP 102 (.agg ⟨(xCp419 d)⟩) rfl (r_loadA rfl rfl rfl rfl get_here rfl rfl rfl) <| o1 none yU (n + 3) ((n + 1), some ⟨[(xCp419 d)], 15, 54, true⟩) (r_store (cs := (xCp419 d)) rfl rfl rfl rfl rfl rfl (by simp only [List.all_cons, List.all_nil, Bool.and_true, Bool.and_eq_true]; exact ⟨rfl, rfl, rfl, rfl, rfl, rfl, rfl, rfl, rfl, rfl, rfl, (h.hp).one, rfl, rfl, rfl⟩) (get_there (by omega) get_here) rfl rfl (Nat.le_of_ble_eq_true rfl) rfl) <| OA.nil fun _ => RA.weaken hd (LsO (fA get_here get_here (fA (get_there (by omega) get_here) (get_there (by omega) get_here) (fA (gt2 (by omega) get_here) (gt3 (by omega) get_here) fan)))) ?_
    refine RA.ret env_ok ?_
    refine ⟨.inr rfl, [(.agg ⟨(xCp419 d)⟩)], (resL_cons (res_cellA rfl rfl rfl get_here rfl rfl rfl) resL_nil), (congrArg (fun z => Value.agg ⟨cChk z⟩) (pl_1 (by have := kd_cases d.typ; omega)).symm), (kc3 (by omega))⟩
   ·
    refine oP 33 yF rfl (Eq.trans (r_bin rfl rfl rfl (b_eql rfl)) (dF hc3)) <| OA.ps [(31, yF)] rfl <| OA.nil fun _ => RA.condF rfl <| RA.sR hd env_ok ?_
    by_cases hc4 : d.typ = 3
    ·
     refine oP 53 yT rfl (Eq.trans (r_bin rfl rfl rfl (b_eql rfl)) (dT hc4)) <| OA.ps [(52, yT)] rfl <| OA.nil fun _ => RA.condT rfl <| RA.par (md := [some [], some [n], some [], some [n], some [], some [n], some [], some [n], some [], none, some [], none, some [], none, some [], none]) env_ok (hd.of (by omega) (kb3 (by omega))) (by kernel_rfl) <| PQ.ps [(54, (Pt n 0 2))] rfl <| pQl 55 (W d.tsn) (gt2 (by omega) get_here) <| PQ.ps [(56, (Pt n 0 8))] rfl <| pQl 57 (W d.rwnd) (gt2 (by omega) get_here) <| PQ.ps [(58, (Pt n 0 13))] rfl <| pQl 59 d.gv (gt2 (by omega) get_here) ?_
     refine PQ.ps [(60, (Pt n 0 14))] rfl <| pQl 61 d.dv (gt2 (by omega) get_here) <| PQ.ps [(62, (.pointer (some ⟨(n + 2), 0, some 2⟩)))] rfl <| PQ.op (dst := none) (v := (.tuple #[])) (n1 := (n + 3)) (d1 := [((n + 2), some ⟨[(xCp411 d)], 15, 54, true⟩)]) rfl rfl rfl _ (sA (V := []) (by kernel_rfl) (by kernel_rfl)) (rS get_here) (by omega) (kp1 (wr_old [2, 3, 4, 5, 6, 7] (by kernel_rfl) (by omega) (by omega) (fac (lo0 rfl) (fac (lo1 rfl (by omega)) (fac (lo0 rfl) (fac (lo1 rfl (by omega)) (fac (lo0 rfl) (fac (lo1 rfl (by omega)) fan)))))))) <| PQ.ps [(63, (.pointer (some ⟨(n + 2), 0, some 8⟩)))] rfl <| PQ.op (dst := none) (v := (.tuple #[])) (n1 := (n + 3)) (d1 := [((n + 2), some ⟨[(xCp415 d)], 15, 54, true⟩)]) rfl rfl rfl _ (sA (V := [((n + 2), some ⟨[(xCp411 d)], 15, 54, true⟩)]) (by kernel_rfl) (by kernel_rfl)) (rS get_here) (by omega) (kp1 (wr_late [4, 5, 6, 7] (by kernel_rfl) (by kernel_rfl) (by omega) 9 (by kernel_rfl) (by simp [keys]) (fac (lo0 rfl) (fac (lo1 rfl (by omega)) (fac (lo0 rfl) (fac (lo1 rfl (by omega)) fan)))))) <| PQ.ps [(64, (.pointer (some ⟨(n + 2), 0, some 13⟩)))] rfl <| PQ.op (dst := none) (v := (.tuple #[])) (n1 := (n + 3)) (d1 := [((n + 2), some ⟨[(xCp421 d)], 15, 54, true⟩)]) rfl rfl rfl _ (sA (V := [((n + 2), some ⟨[(xCp415 d)], 15, 54, true⟩), ((n + 2), some ⟨[(xCp411 d)], 15, 54, true⟩)]) (by kernel_rfl) (by kernel_rfl)) (r_store (cs := [d.gv]) rfl rfl rfl rfl (h.hg).cells rfl (by simp only [List.all_cons, List.all_nil, Bool.and_true]; exact (h.hg).one) get_here rfl rfl (Nat.le_of_ble_eq_true rfl) rfl) (by omega) (kp1 (wr_late [6, 7] (by kernel_rfl) (by kernel_rfl) (by omega) 9 (by kernel_rfl) (by simp [keys]) (fac (lo0 rfl) (fac (lo1 rfl (by omega)) fan)))) <| PQ.ps [(65, (.pointer (some ⟨(n + 2), 0, some 14⟩)))] rfl <| PQ.op (dst := none) (v := (.tuple #[])) (n1 := (n + 3)) (d1 := [((n + 2), some ⟨[(xCp422 d)], 15, 54, true⟩)]) rfl rfl rfl _ (sA (V := [((n + 2), some ⟨[(xCp421 d)], 15, 54, true⟩), ((n + 2), some ⟨[(xCp415 d)], 15, 54, true⟩), ((n + 2), some ⟨[(xCp411 d)], 15, 54, true⟩)]) (by kernel_rfl) (by kernel_rfl)) (r_store (cs := [d.dv]) rfl rfl rfl rfl (h.hu).cells rfl (by simp only [List.all_cons, List.all_nil, Bool.and_true]; exact (h.hu).one) get_here rfl rfl (Nat.le_of_ble_eq_true rfl) rfl) (by omega) (kp1 (wr_tight (by kernel_rfl) (by omega))) <| PQ.done (d := [((n + 2), some ⟨[(xCp422 d)], 15, 54, true⟩), ((n + 2), some ⟨[(xCp421 d)], 15, 54, true⟩), ((n + 2), some ⟨[(xCp415 d)], 15, 54, true⟩), ((n + 2), some ⟨[(xCp411 d)], 15, 54, true⟩)]) (by kernel_rfl) fun _ => ?_
     refine RA.weaken hd (LsO (fA get_here get_here (fA (get_there (by omega) get_here) (gt5 (by omega) get_here) (fA (gt2 (by omega) get_here) (gt6 (by omega) get_here) fan)))) <| RA.rb [(0, (.agg ⟨(cChk d)⟩)), (1, (Pt n 0 0)), (2, (.pointer (some ⟨(n + 1), 0, some 0⟩))), (3, (.pointer (some ⟨(n + 2), 0, some 0⟩))), (10, (.int .i64 d.typ)), (14, yF), (31, yF), (52, yT)] rfl (fun τr4 => ?_)
     refine RA.sR hd env_ok <| oP 102 (.agg ⟨(xCp422 d)⟩) rfl (r_loadA rfl rfl rfl rfl get_here rfl rfl rfl) <| o1 none yU (n + 3) ((n + 1), some ⟨[(xCp422 d)], 15, 54, true⟩) (r_store (cs := (xCp422 d)) rfl rfl rfl rfl rfl rfl (by simp only [List.all_cons, List.all_nil, Bool.and_true, Bool.and_eq_true]; exact ⟨rfl, rfl, rfl, rfl, rfl, rfl, rfl, rfl, rfl, rfl, rfl, rfl, rfl, (h.hg).one, (h.hu).one⟩) (get_there (by omega) get_here) rfl rfl (Nat.le_of_ble_eq_true rfl) rfl) <| OA.nil fun _ => RA.weaken hd (LsO (fA get_here get_here (fA (get_there (by omega) get_here) (get_there (by omega) get_here) (fA (gt2 (by omega) get_here) (gt3 (by omega) get_here) fan)))) ?_
     refine RA.ret env_ok ?_
     refine ⟨.inr rfl, [(.agg ⟨(xCp422 d)⟩)], (resL_cons (res_cellA rfl rfl rfl get_here rfl rfl rfl) resL_nil), (congrArg (fun z => Value.agg ⟨cChk z⟩) (pl_3 (by have := kd_cases d.typ; omega)).symm), (kc3 (by omega))⟩
    ·
     refine oP 53 yF rfl (Eq.trans (r_bin rfl rfl rfl (b_eql rfl)) (dF hc4)) <| OA.ps [(52, yF)] rfl <| OA.nil fun _ => RA.condF rfl <| RA.seq hd <| RA.sR hd env_ok ?_
     by_cases hc5 : d.typ = 6
     ·
      refine oP 67 yT rfl (Eq.trans (r_bin rfl rfl rfl (b_eql rfl)) (dT hc5)) <| OA.ps [(66, yT)] rfl <| OA.nil fun _ => RA.condT rfl <| RA.skip env_ok ?_
      intro _
      refine RA.condT rfl <| RA.region env_ok <| OA.ps [(69, (Pt n 0 12))] rfl <| oL 70 d.cv (gt2 (by omega) get_here) <| OA.ps [(71, (.pointer (some ⟨(n + 2), 0, some 12⟩)))] rfl <| o1 none yU (n + 3) ((n + 2), some ⟨[(xCp418 d)], 15, 54, true⟩) (r_store (cs := [d.cv]) rfl rfl rfl rfl (h.hc).cells rfl (by simp only [List.all_cons, List.all_nil, Bool.and_true]; exact (h.hc).one) get_here rfl rfl (Nat.le_of_ble_eq_true rfl) rfl) <| OA.nil fun _ => RA.weaken hd (LsO (fA get_here get_here (fA (get_there (by omega) get_here) (gt2 (by omega) get_here) (fA (gt2 (by omega) get_here) (gt3 (by omega) get_here) fan)))) <| RA.rb [(0, (.agg ⟨(cChk d)⟩)), (1, (Pt n 0 0)), (2, (.pointer (some ⟨(n + 1), 0, some 0⟩))), (3, (.pointer (some ⟨(n + 2), 0, some 0⟩))), (10, (.int .i64 d.typ)), (14, yF), (31, yF), (52, yF), (66, yT)] rfl (fun τr5 => ?_)
      refine RA.sR hd env_ok <| oP 102 (.agg ⟨(xCp418 d)⟩) rfl (r_loadA rfl rfl rfl rfl get_here rfl rfl rfl) <| o1 none yU (n + 3) ((n + 1), some ⟨[(xCp418 d)], 15, 54, true⟩) (r_store (cs := (xCp418 d)) rfl rfl rfl rfl rfl rfl (by simp only [List.all_cons, List.all_nil, Bool.and_true, Bool.and_eq_true]; exact ⟨rfl, rfl, rfl, rfl, rfl, rfl, rfl, rfl, rfl, rfl, rfl, rfl, (h.hc).one, rfl, rfl⟩) (get_there (by omega) get_here) rfl rfl (Nat.le_of_ble_eq_true rfl) rfl) <| OA.nil fun _ => RA.weaken hd (LsO (fA get_here get_here (fA (get_there (by omega) get_here) (get_there (by omega) get_here) (fA (gt2 (by omega) get_here) (gt3 (by omega) get_here) fan)))) ?_
      refine RA.ret env_ok ?_
      refine ⟨.inr rfl, [(.agg ⟨(xCp418 d)⟩)], (resL_cons (res_cellA rfl rfl rfl get_here rfl rfl rfl) resL_nil), (congrArg (fun z => Value.agg ⟨cChk z⟩) (pl_6 (by have := kd_cases d.typ; omega)).symm), (kc3 (by omega))⟩
     ·
      refine oP 67 yF rfl (Eq.trans (r_bin rfl rfl rfl (b_eql rfl)) (dF hc5)) <| OA.ps [(66, yF)] rfl <| OA.nil fun _ => RA.condF rfl <| RA.region env_ok ?_
      by_cases hc6 : d.typ = 9
      ·
       refine oP 68 yT rfl (Eq.trans (r_bin rfl rfl rfl (b_eql rfl)) (dT hc6)) <| OA.ps [(66, yT)] rfl <| OA.nil fun _ => RA.condT rfl <| RA.region env_ok <| OA.ps [(69, (Pt n 0 12))] rfl <| oL 70 d.cv (gt2 (by omega) get_here) <| OA.ps [(71, (.pointer (some ⟨(n + 2), 0, some 12⟩)))] rfl <| o1 none yU (n + 3) ((n + 2), some ⟨[(xCp418 d)], 15, 54, true⟩) (r_store (cs := [d.cv]) rfl rfl rfl rfl (h.hc).cells rfl (by simp only [List.all_cons, List.all_nil, Bool.and_true]; exact (h.hc).one) get_here rfl rfl (Nat.le_of_ble_eq_true rfl) rfl) <| OA.nil fun _ => RA.weaken hd (LsO (fA get_here get_here (fA (get_there (by omega) get_here) (gt2 (by omega) get_here) (fA (gt2 (by omega) get_here) (gt3 (by omega) get_here) fan)))) ?_
       refine RA.rb [(0, (.agg ⟨(cChk d)⟩)), (1, (Pt n 0 0)), (2, (.pointer (some ⟨(n + 1), 0, some 0⟩))), (3, (.pointer (some ⟨(n + 2), 0, some 0⟩))), (10, (.int .i64 d.typ)), (14, yF), (31, yF), (52, yF), (66, yT)] rfl (fun τr6 => ?_)
       refine RA.sR hd env_ok <| oP 102 (.agg ⟨(xCp418 d)⟩) rfl (r_loadA rfl rfl rfl rfl get_here rfl rfl rfl) <| o1 none yU (n + 3) ((n + 1), some ⟨[(xCp418 d)], 15, 54, true⟩) (r_store (cs := (xCp418 d)) rfl rfl rfl rfl rfl rfl (by simp only [List.all_cons, List.all_nil, Bool.and_true, Bool.and_eq_true]; exact ⟨rfl, rfl, rfl, rfl, rfl, rfl, rfl, rfl, rfl, rfl, rfl, rfl, (h.hc).one, rfl, rfl⟩) (get_there (by omega) get_here) rfl rfl (Nat.le_of_ble_eq_true rfl) rfl) <| OA.nil fun _ => RA.weaken hd (LsO (fA get_here get_here (fA (get_there (by omega) get_here) (get_there (by omega) get_here) (fA (gt2 (by omega) get_here) (gt3 (by omega) get_here) fan)))) ?_
       refine RA.ret env_ok ?_
       refine ⟨.inr rfl, [(.agg ⟨(xCp418 d)⟩)], (resL_cons (res_cellA rfl rfl rfl get_here rfl rfl rfl) resL_nil), (congrArg (fun z => Value.agg ⟨cChk z⟩) (pl_6 (by have := kd_cases d.typ; omega)).symm), (kc3 (by omega))⟩
      ·
       refine oP 68 yF rfl (Eq.trans (r_bin rfl rfl rfl (b_eql rfl)) (dF hc6)) <| OA.ps [(66, yF)] rfl <| OA.nil fun _ => RA.condF rfl <| RA.sR hd env_ok ?_
       by_cases hc7 : d.typ = 7
       ·
        refine oP 73 yT rfl (Eq.trans (r_bin rfl rfl rfl (b_eql rfl)) (dT hc7)) <| OA.ps [(72, yT)] rfl <| OA.nil fun _ => RA.rb [(0, (.agg ⟨(cChk d)⟩)), (1, (Pt n 0 0)), (2, (.pointer (some ⟨(n + 1), 0, some 0⟩))), (3, (.pointer (some ⟨(n + 2), 0, some 0⟩))), (10, (.int .i64 d.typ)), (14, yF), (31, yF), (52, yF), (66, yF), (72, yT)] rfl (fun τr7 => ?_)
        refine RA.condT rfl <| RA.region env_ok <| OA.ps [(74, (Pt n 0 2))] rfl <| oL 75 (W d.tsn) (gt2 (by omega) get_here) <| OA.ps [(76, (.pointer (some ⟨(n + 2), 0, some 2⟩)))] rfl <| o1 none yU (n + 3) ((n + 2), some ⟨[(xCp411 d)], 15, 54, true⟩) (rS get_here) <| OA.nil fun _ => RA.weaken hd (LsO (fA get_here get_here (fA (get_there (by omega) get_here) (gt2 (by omega) get_here) (fA (gt2 (by omega) get_here) (gt3 (by omega) get_here) fan)))) <| RA.sR hd env_ok <| oP 102 (.agg ⟨(xCp411 d)⟩) rfl (r_loadA rfl rfl rfl rfl get_here rfl rfl rfl) <| o1 none yU (n + 3) ((n + 1), some ⟨[(xCp411 d)], 15, 54, true⟩) (rS (get_there (by omega) get_here)) ?_
        refine OA.nil fun _ => RA.weaken hd (LsO (fA get_here get_here (fA (get_there (by omega) get_here) (get_there (by omega) get_here) (fA (gt2 (by omega) get_here) (gt3 (by omega) get_here) fan)))) ?_
        refine RA.ret env_ok ?_
        refine ⟨.inr rfl, [(.agg ⟨(xCp411 d)⟩)], (resL_cons (res_cellA rfl rfl rfl get_here rfl rfl rfl) resL_nil), (congrArg (fun z => Value.agg ⟨cChk z⟩) (pl_7 (by have := kd_cases d.typ; omega)).symm), (kc3 (by omega))⟩
       ·
        refine oP 73 yF rfl (Eq.trans (r_bin rfl rfl rfl (b_eql rfl)) (dF hc7)) <| OA.ps [(72, yF)] rfl <| OA.nil fun _ => RA.rb [(0, (.agg ⟨(cChk d)⟩)), (1, (Pt n 0 0)), (2, (.pointer (some ⟨(n + 1), 0, some 0⟩))), (3, (.pointer (some ⟨(n + 2), 0, some 0⟩))), (10, (.int .i64 d.typ)), (14, yF), (31, yF), (52, yF), (66, yF), (72, yF)] rfl (fun τr8 => ?_)
        refine RA.condF rfl <| RA.seq hd <| RA.sR hd env_ok ?_
        by_cases hc8 : d.typ = 193
        ·
         refine oP 78 yT rfl (Eq.trans (r_bin rfl rfl rfl (b_eql rfl)) (dT hc8)) <| OA.ps [(77, yT)] rfl <| OA.nil fun _ => RA.condT rfl <| RA.skip env_ok ?_
         intro _
         refine RA.condT rfl <| RA.par (md := [some [], some [n], some [], some [n], some [], none, some [], none]) env_ok (hd.of (by omega) (kb3 (by omega))) (by kernel_rfl) <| PQ.ps [(81, (Pt n 0 2))] rfl <| pQl 82 (W d.tsn) (gt2 (by omega) get_here) <| PQ.ps [(83, (Pt n 0 11))] rfl <| pQl 84 d.pv (gt2 (by omega) get_here) <| PQ.ps [(85, (.pointer (some ⟨(n + 2), 0, some 2⟩)))] rfl <| PQ.op (dst := none) (v := (.tuple #[])) (n1 := (n + 3)) (d1 := [((n + 2), some ⟨[(xCp411 d)], 15, 54, true⟩)]) rfl rfl rfl _ (sA (V := []) (by kernel_rfl) (by kernel_rfl)) (rS get_here) (by omega) (kp1 (wr_old [2, 3] (by kernel_rfl) (by omega) (by omega) (fac (lo0 rfl) (fac (lo1 rfl (by omega)) fan)))) <| PQ.ps [(86, (.pointer (some ⟨(n + 2), 0, some 11⟩)))] rfl <| PQ.op (dst := none) (v := (.tuple #[])) (n1 := (n + 3)) (d1 := [((n + 2), some ⟨[(xCp420 d)], 15, 54, true⟩)]) rfl rfl rfl _ (sA (V := [((n + 2), some ⟨[(xCp411 d)], 15, 54, true⟩)]) (by kernel_rfl) (by kernel_rfl)) (r_store (cs := [d.pv]) rfl rfl rfl rfl (h.hp).cells rfl (by simp only [List.all_cons, List.all_nil, Bool.and_true]; exact (h.hp).one) get_here rfl rfl (Nat.le_of_ble_eq_true rfl) rfl) (by omega) (kp1 (wr_tight (by kernel_rfl) (by omega))) <| PQ.done (d := [((n + 2), some ⟨[(xCp420 d)], 15, 54, true⟩), ((n + 2), some ⟨[(xCp411 d)], 15, 54, true⟩)]) (by kernel_rfl) fun _ => ?_
         refine RA.weaken hd (LsO (fA get_here get_here (fA (get_there (by omega) get_here) (gt3 (by omega) get_here) (fA (gt2 (by omega) get_here) (gt4 (by omega) get_here) fan)))) <| RA.sR hd env_ok <| oP 102 (.agg ⟨(xCp420 d)⟩) rfl (r_loadA rfl rfl rfl rfl get_here rfl rfl rfl) <| o1 none yU (n + 3) ((n + 1), some ⟨[(xCp420 d)], 15, 54, true⟩) (r_store (cs := (xCp420 d)) rfl rfl rfl rfl rfl rfl (by simp only [List.all_cons, List.all_nil, Bool.and_true, Bool.and_eq_true]; exact ⟨rfl, rfl, rfl, rfl, rfl, rfl, rfl, rfl, rfl, rfl, rfl, (h.hp).one, rfl, rfl, rfl⟩) (get_there (by omega) get_here) rfl rfl (Nat.le_of_ble_eq_true rfl) rfl) <| OA.nil fun _ => RA.weaken hd (LsO (fA get_here get_here (fA (get_there (by omega) get_here) (get_there (by omega) get_here) (fA (gt2 (by omega) get_here) (gt3 (by omega) get_here) fan)))) ?_
         refine RA.ret env_ok ?_
         refine ⟨.inr rfl, [(.agg ⟨(xCp420 d)⟩)], (resL_cons (res_cellA rfl rfl rfl get_here rfl rfl rfl) resL_nil), (congrArg (fun z => Value.agg ⟨cChk z⟩) (pl_16 (by have := kd_cases d.typ; omega)).symm), (kc3 (by omega))⟩
        ·
         refine oP 78 yF rfl (Eq.trans (r_bin rfl rfl rfl (b_eql rfl)) (dF hc8)) <| OA.ps [(77, yF)] rfl <| OA.nil fun _ => RA.condF rfl <| RA.sR hd env_ok ?_
         by_cases hc9 : d.typ = 128
         ·
          refine oP 79 yT rfl (Eq.trans (r_bin rfl rfl rfl (b_eql rfl)) (dT hc9)) <| OA.ps [(77, yT)] rfl <| OA.nil fun _ => RA.condT rfl <| RA.skip env_ok ?_
          intro _
          refine RA.condT rfl <| RA.par (md := [some [], some [n], some [], some [n], some [], none, some [], none]) env_ok (hd.of (by omega) (kb3 (by omega))) (by kernel_rfl) <| PQ.ps [(81, (Pt n 0 2))] rfl <| pQl 82 (W d.tsn) (gt2 (by omega) get_here) <| PQ.ps [(83, (Pt n 0 11))] rfl <| pQl 84 d.pv (gt2 (by omega) get_here) <| PQ.ps [(85, (.pointer (some ⟨(n + 2), 0, some 2⟩)))] rfl <| PQ.op (dst := none) (v := (.tuple #[])) (n1 := (n + 3)) (d1 := [((n + 2), some ⟨[(xCp411 d)], 15, 54, true⟩)]) rfl rfl rfl _ (sA (V := []) (by kernel_rfl) (by kernel_rfl)) (rS get_here) (by omega) (kp1 (wr_old [2, 3] (by kernel_rfl) (by omega) (by omega) (fac (lo0 rfl) (fac (lo1 rfl (by omega)) fan)))) <| PQ.ps [(86, (.pointer (some ⟨(n + 2), 0, some 11⟩)))] rfl <| PQ.op (dst := none) (v := (.tuple #[])) (n1 := (n + 3)) (d1 := [((n + 2), some ⟨[(xCp420 d)], 15, 54, true⟩)]) rfl rfl rfl _ (sA (V := [((n + 2), some ⟨[(xCp411 d)], 15, 54, true⟩)]) (by kernel_rfl) (by kernel_rfl)) (r_store (cs := [d.pv]) rfl rfl rfl rfl (h.hp).cells rfl (by simp only [List.all_cons, List.all_nil, Bool.and_true]; exact (h.hp).one) get_here rfl rfl (Nat.le_of_ble_eq_true rfl) rfl) (by omega) (kp1 (wr_tight (by kernel_rfl) (by omega))) <| PQ.done (d := [((n + 2), some ⟨[(xCp420 d)], 15, 54, true⟩), ((n + 2), some ⟨[(xCp411 d)], 15, 54, true⟩)]) (by kernel_rfl) fun _ => ?_
          refine RA.weaken hd (LsO (fA get_here get_here (fA (get_there (by omega) get_here) (gt3 (by omega) get_here) (fA (gt2 (by omega) get_here) (gt4 (by omega) get_here) fan)))) <| RA.sR hd env_ok <| oP 102 (.agg ⟨(xCp420 d)⟩) rfl (r_loadA rfl rfl rfl rfl get_here rfl rfl rfl) <| o1 none yU (n + 3) ((n + 1), some ⟨[(xCp420 d)], 15, 54, true⟩) (r_store (cs := (xCp420 d)) rfl rfl rfl rfl rfl rfl (by simp only [List.all_cons, List.all_nil, Bool.and_true, Bool.and_eq_true]; exact ⟨rfl, rfl, rfl, rfl, rfl, rfl, rfl, rfl, rfl, rfl, rfl, (h.hp).one, rfl, rfl, rfl⟩) (get_there (by omega) get_here) rfl rfl (Nat.le_of_ble_eq_true rfl) rfl) <| OA.nil fun _ => RA.weaken hd (LsO (fA get_here get_here (fA (get_there (by omega) get_here) (get_there (by omega) get_here) (fA (gt2 (by omega) get_here) (gt3 (by omega) get_here) fan)))) ?_
          refine RA.ret env_ok ?_
          refine ⟨.inr rfl, [(.agg ⟨(xCp420 d)⟩)], (resL_cons (res_cellA rfl rfl rfl get_here rfl rfl rfl) resL_nil), (congrArg (fun z => Value.agg ⟨cChk z⟩) (pl_16 (by have := kd_cases d.typ; omega)).symm), (kc3 (by omega))⟩
         ·
          refine oP 79 yF rfl (Eq.trans (r_bin rfl rfl rfl (b_eql rfl)) (dF hc9)) <| OA.ps [(77, yF)] rfl <| OA.nil fun _ => RA.condF rfl <| RA.region env_ok ?_
          by_cases hc10 : d.typ = 130
          ·
           refine oP 80 yT rfl (Eq.trans (r_bin rfl rfl rfl (b_eql rfl)) (dT hc10)) <| OA.ps [(77, yT)] rfl <| OA.nil fun _ => RA.condT rfl <| RA.par (md := [some [], some [n], some [], some [n], some [], none, some [], none]) env_ok (hd.of (by omega) (kb3 (by omega))) (by kernel_rfl) <| PQ.ps [(81, (Pt n 0 2))] rfl <| pQl 82 (W d.tsn) (gt2 (by omega) get_here) <| PQ.ps [(83, (Pt n 0 11))] rfl <| pQl 84 d.pv (gt2 (by omega) get_here) <| PQ.ps [(85, (.pointer (some ⟨(n + 2), 0, some 2⟩)))] rfl <| PQ.op (dst := none) (v := (.tuple #[])) (n1 := (n + 3)) (d1 := [((n + 2), some ⟨[(xCp411 d)], 15, 54, true⟩)]) rfl rfl rfl _ (sA (V := []) (by kernel_rfl) (by kernel_rfl)) (rS get_here) (by omega) (kp1 (wr_old [2, 3] (by kernel_rfl) (by omega) (by omega) (fac (lo0 rfl) (fac (lo1 rfl (by omega)) fan)))) ?_
           refine PQ.ps [(86, (.pointer (some ⟨(n + 2), 0, some 11⟩)))] rfl <| PQ.op (dst := none) (v := (.tuple #[])) (n1 := (n + 3)) (d1 := [((n + 2), some ⟨[(xCp420 d)], 15, 54, true⟩)]) rfl rfl rfl _ (sA (V := [((n + 2), some ⟨[(xCp411 d)], 15, 54, true⟩)]) (by kernel_rfl) (by kernel_rfl)) (r_store (cs := [d.pv]) rfl rfl rfl rfl (h.hp).cells rfl (by simp only [List.all_cons, List.all_nil, Bool.and_true]; exact (h.hp).one) get_here rfl rfl (Nat.le_of_ble_eq_true rfl) rfl) (by omega) (kp1 (wr_tight (by kernel_rfl) (by omega))) <| PQ.done (d := [((n + 2), some ⟨[(xCp420 d)], 15, 54, true⟩), ((n + 2), some ⟨[(xCp411 d)], 15, 54, true⟩)]) (by kernel_rfl) fun _ => RA.weaken hd (LsO (fA get_here get_here (fA (get_there (by omega) get_here) (gt3 (by omega) get_here) (fA (gt2 (by omega) get_here) (gt4 (by omega) get_here) fan)))) <| RA.sR hd env_ok <| oP 102 (.agg ⟨(xCp420 d)⟩) rfl (r_loadA rfl rfl rfl rfl get_here rfl rfl rfl) <| o1 none yU (n + 3) ((n + 1), some ⟨[(xCp420 d)], 15, 54, true⟩) (r_store (cs := (xCp420 d)) rfl rfl rfl rfl rfl rfl (by simp only [List.all_cons, List.all_nil, Bool.and_true, Bool.and_eq_true]; exact ⟨rfl, rfl, rfl, rfl, rfl, rfl, rfl, rfl, rfl, rfl, rfl, (h.hp).one, rfl, rfl, rfl⟩) (get_there (by omega) get_here) rfl rfl (Nat.le_of_ble_eq_true rfl) rfl) <| OA.nil fun _ => RA.weaken hd (LsO (fA get_here get_here (fA (get_there (by omega) get_here) (get_there (by omega) get_here) (fA (gt2 (by omega) get_here) (gt3 (by omega) get_here) fan)))) ?_
           refine RA.ret env_ok ?_
           refine ⟨.inr rfl, [(.agg ⟨(xCp420 d)⟩)], (resL_cons (res_cellA rfl rfl rfl get_here rfl rfl rfl) resL_nil), (congrArg (fun z => Value.agg ⟨cChk z⟩) (pl_16 (by have := kd_cases d.typ; omega)).symm), (kc3 (by omega))⟩
          ·
           refine oP 80 yF rfl (Eq.trans (r_bin rfl rfl rfl (b_eql rfl)) (dF hc10)) <| OA.ps [(77, yF)] rfl <| OA.nil fun _ => RA.condF rfl <| RA.seq hd <| RA.sR hd env_ok ?_
           by_cases hc11 : d.typ = 8
           ·
            refine oP 88 yT rfl (Eq.trans (r_bin rfl rfl rfl (b_eql rfl)) (dT hc11)) <| OA.ps [(87, yT)] rfl <| OA.nil fun _ => RA.condT rfl <| RA.skip env_ok ?_
            intro _
            refine RA.condT rfl <| RA.skip env_ok ?_
            intro _
            refine RA.sR hd env_ok <| oP 102 (.agg ⟨(xCp48 d)⟩) rfl (r_loadA rfl rfl rfl rfl get_here rfl rfl rfl) <| o1 none yU (n + 3) ((n + 1), some ⟨[(xCp48 d)], 15, 54, true⟩) (rS (get_there (by omega) get_here)) <| OA.nil fun _ => RA.weaken hd (LsO (fA get_here get_here (fA (get_there (by omega) get_here) (get_there (by omega) get_here) (fA (gt2 (by omega) get_here) (gt3 (by omega) get_here) fan)))) ?_
            refine RA.ret env_ok ?_
            refine ⟨.inr rfl, [(.agg ⟨(xCp48 d)⟩)], (resL_cons (res_cellA rfl rfl rfl get_here rfl rfl rfl) resL_nil), (congrArg (fun z => Value.agg ⟨cChk z⟩) (pl_8 (by have := kd_cases d.typ; omega)).symm), (kc3 (by omega))⟩
           ·
            refine oP 88 yF rfl (Eq.trans (r_bin rfl rfl rfl (b_eql rfl)) (dF hc11)) <| OA.ps [(87, yF)] rfl <| OA.nil fun _ => RA.condF rfl <| RA.sR hd env_ok ?_
            by_cases hc12 : d.typ = 11
            ·
             refine oP 89 yT rfl (Eq.trans (r_bin rfl rfl rfl (b_eql rfl)) (dT hc12)) <| OA.ps [(87, yT)] rfl <| OA.nil fun _ => RA.condT rfl <| RA.skip env_ok ?_
             intro _
             refine RA.condT rfl <| RA.skip env_ok ?_
             intro _
             refine RA.sR hd env_ok <| oP 102 (.agg ⟨(xCp48 d)⟩) rfl (r_loadA rfl rfl rfl rfl get_here rfl rfl rfl) <| o1 none yU (n + 3) ((n + 1), some ⟨[(xCp48 d)], 15, 54, true⟩) (rS (get_there (by omega) get_here)) <| OA.nil fun _ => RA.weaken hd (LsO (fA get_here get_here (fA (get_there (by omega) get_here) (get_there (by omega) get_here) (fA (gt2 (by omega) get_here) (gt3 (by omega) get_here) fan)))) ?_
             refine RA.ret env_ok ?_
             refine ⟨.inr rfl, [(.agg ⟨(xCp48 d)⟩)], (resL_cons (res_cellA rfl rfl rfl get_here rfl rfl rfl) resL_nil), (congrArg (fun z => Value.agg ⟨cChk z⟩) (pl_8 (by have := kd_cases d.typ; omega)).symm), (kc3 (by omega))⟩
            ·
             refine oP 89 yF rfl (Eq.trans (r_bin rfl rfl rfl (b_eql rfl)) (dF hc12)) <| OA.ps [(87, yF)] rfl <| OA.nil fun _ => RA.condF rfl <| RA.region env_ok ?_
             by_cases hc13 : d.typ = 14
             ·
              refine oP 90 yT rfl (Eq.trans (r_bin rfl rfl rfl (b_eql rfl)) (dT hc13)) <| OA.ps [(87, yT)] rfl <| OA.nil fun _ => RA.condT rfl <| RA.skip env_ok ?_
              intro _
              refine RA.sR hd env_ok <| oP 102 (.agg ⟨(xCp48 d)⟩) rfl (r_loadA rfl rfl rfl rfl get_here rfl rfl rfl) <| o1 none yU (n + 3) ((n + 1), some ⟨[(xCp48 d)], 15, 54, true⟩) (rS (get_there (by omega) get_here)) <| OA.nil fun _ => RA.weaken hd (LsO (fA get_here get_here (fA (get_there (by omega) get_here) (get_there (by omega) get_here) (fA (gt2 (by omega) get_here) (gt3 (by omega) get_here) fan)))) ?_
              refine RA.ret env_ok ?_
              refine ⟨.inr rfl, [(.agg ⟨(xCp48 d)⟩)], (resL_cons (res_cellA rfl rfl rfl get_here rfl rfl rfl) resL_nil), (congrArg (fun z => Value.agg ⟨cChk z⟩) (pl_8 (by have := kd_cases d.typ; omega)).symm), (kc3 (by omega))⟩
             ·
              refine oP 90 yF rfl (Eq.trans (r_bin rfl rfl rfl (b_eql rfl)) (dF hc13)) <| OA.ps [(87, yF)] rfl <| OA.nil fun _ => RA.condF rfl <| RA.sR hd env_ok ?_
              by_cases hc14 : d.typ = 15
              ·
               refine oP 92 yT rfl (Eq.trans (r_bin rfl rfl rfl (b_eql rfl)) (dT hc14)) <| OA.ps [(91, yT)] rfl <| OA.nil fun _ => RA.condT rfl <| RA.par (md := [some [], some [n], some [], some [n], some [], some [n], some [], none, some [], none, some [], none]) env_ok (hd.of (by omega) (kb3 (by omega))) (by kernel_rfl) <| PQ.ps [(93, (Pt n 0 3))] rfl <| pQl 94 (.int .i64 d.stream) (gt2 (by omega) get_here) <| PQ.ps [(95, (Pt n 0 4))] rfl <| pQl 96 (.int .i64 d.ssn) (gt2 (by omega) get_here) <| PQ.ps [(97, (Pt n 0 6))] rfl <| pQl 98 (.string d.data) (gt2 (by omega) get_here) ?_
               refine PQ.ps [(99, (.pointer (some ⟨(n + 2), 0, some 3⟩)))] rfl <| PQ.op (dst := none) (v := (.tuple #[])) (n1 := (n + 3)) (d1 := [((n + 2), some ⟨[(xCp43 d)], 15, 54, true⟩)]) rfl rfl rfl _ (sA (V := []) (by kernel_rfl) (by kernel_rfl)) (rS get_here) (by omega) (kp1 (wr_old [2, 3, 4, 5] (by kernel_rfl) (by omega) (by omega) (fac (lo0 rfl) (fac (lo1 rfl (by omega)) (fac (lo0 rfl) (fac (lo1 rfl (by omega)) fan)))))) <| PQ.ps [(100, (.pointer (some ⟨(n + 2), 0, some 4⟩)))] rfl <| PQ.op (dst := none) (v := (.tuple #[])) (n1 := (n + 3)) (d1 := [((n + 2), some ⟨[(xCp41 d)], 15, 54, true⟩)]) rfl rfl rfl _ (sA (V := [((n + 2), some ⟨[(xCp43 d)], 15, 54, true⟩)]) (by kernel_rfl) (by kernel_rfl)) (rS get_here) (by omega) (kp1 (wr_late [4, 5] (by kernel_rfl) (by kernel_rfl) (by omega) 7 (by kernel_rfl) (by simp [keys]) (fac (lo0 rfl) (fac (lo1 rfl (by omega)) fan)))) <| PQ.ps [(101, (.pointer (some ⟨(n + 2), 0, some 6⟩)))] rfl <| PQ.op (dst := none) (v := (.tuple #[])) (n1 := (n + 3)) (d1 := [((n + 2), some ⟨[(xCp47 d)], 15, 54, true⟩)]) rfl rfl rfl _ (sA (V := [((n + 2), some ⟨[(xCp41 d)], 15, 54, true⟩), ((n + 2), some ⟨[(xCp43 d)], 15, 54, true⟩)]) (by kernel_rfl) (by kernel_rfl)) (rS get_here) (by omega) (kp1 (wr_tight (by kernel_rfl) (by omega))) <| PQ.done (d := [((n + 2), some ⟨[(xCp47 d)], 15, 54, true⟩), ((n + 2), some ⟨[(xCp41 d)], 15, 54, true⟩), ((n + 2), some ⟨[(xCp43 d)], 15, 54, true⟩)]) (by kernel_rfl) fun _ => RA.weaken hd (LsO (fA get_here get_here (fA (get_there (by omega) get_here) (gt4 (by omega) get_here) (fA (gt2 (by omega) get_here) (gt5 (by omega) get_here) fan)))) <| RA.rb [(0, (.agg ⟨(cChk d)⟩)), (1, (Pt n 0 0)), (2, (.pointer (some ⟨(n + 1), 0, some 0⟩))), (3, (.pointer (some ⟨(n + 2), 0, some 0⟩))), (10, (.int .i64 d.typ)), (14, yF), (31, yF), (52, yF), (66, yF), (72, yF), (77, yF), (87, yF), (91, yT)] rfl (fun τr9 => ?_)
               refine RA.sR hd env_ok <| oP 102 (.agg ⟨(xCp47 d)⟩) rfl (r_loadA rfl rfl rfl rfl get_here rfl rfl rfl) <| o1 none yU (n + 3) ((n + 1), some ⟨[(xCp47 d)], 15, 54, true⟩) (rS (get_there (by omega) get_here)) <| OA.nil fun _ => RA.weaken hd (LsO (fA get_here get_here (fA (get_there (by omega) get_here) (get_there (by omega) get_here) (fA (gt2 (by omega) get_here) (gt3 (by omega) get_here) fan)))) ?_
               refine RA.ret env_ok ?_
               refine ⟨.inr rfl, [(.agg ⟨(xCp47 d)⟩)], (resL_cons (res_cellA rfl rfl rfl get_here rfl rfl rfl) resL_nil), (congrArg (fun z => Value.agg ⟨cChk z⟩) (pl_15 (by have := kd_cases d.typ; omega)).symm), (kc3 (by omega))⟩
              ·
               refine oP 92 yF rfl (Eq.trans (r_bin rfl rfl rfl (b_eql rfl)) (dF hc14)) <| OA.ps [(91, yF)] rfl <| OA.nil fun _ => RA.condF rfl <| RA.region env_ok <| OA.ps [(11, (Pt n 0 6))] rfl <| oL 12 (.string d.data) (gt2 (by omega) get_here) <| OA.ps [(13, (.pointer (some ⟨(n + 2), 0, some 6⟩)))] rfl <| o1 none yU (n + 3) ((n + 2), some ⟨[(xCp416 d)], 15, 54, true⟩) (rS get_here) <| OA.nil fun _ => RA.weaken hd (LsO (fA get_here get_here (fA (get_there (by omega) get_here) (gt2 (by omega) get_here) (fA (gt2 (by omega) get_here) (gt3 (by omega) get_here) fan)))) ?_
               refine RA.sR hd env_ok <| oP 102 (.agg ⟨(xCp416 d)⟩) rfl (r_loadA rfl rfl rfl rfl get_here rfl rfl rfl) <| o1 none yU (n + 3) ((n + 1), some ⟨[(xCp416 d)], 15, 54, true⟩) (rS (get_there (by omega) get_here)) <| OA.nil fun _ => RA.weaken hd (LsO (fA get_here get_here (fA (get_there (by omega) get_here) (get_there (by omega) get_here) (fA (gt2 (by omega) get_here) (gt3 (by omega) get_here) fan)))) ?_
               refine RA.ret env_ok ?_
               refine ⟨.inr rfl, [(.agg ⟨(xCp416 d)⟩)], (resL_cons (res_cellA rfl rfl rfl get_here rfl rfl rfl) resL_nil), (by rcases (show kd d.typ = 4 ∨ kd d.typ = 10 ∨ kd d.typ = 20 from by have := kd_cases d.typ; omega) with h1 | h1 | h1 <;> first | exact congrArg (fun z => Value.agg ⟨cChk z⟩) (pl_4 h1).symm | exact congrArg (fun z => Value.agg ⟨cChk z⟩) (pl_10 h1).symm | exact congrArg (fun z => Value.agg ⟨cChk z⟩) (pl_20 h1).symm), (kc3 (by omega))⟩
end Go.Proofs.Ytdnkhdkflemkeaa.Vt.Cp
/- Cp5: walks through functions of the program, by the calculus; written by a program of this workplace. -/
namespace Go.Proofs.Ytdnkhdkflemkeaa.Vt.Cp
open Go Go.Proofs Go.Proofs.YtdnkhdkflemkeaaV
set_option maxRecDepth 100000
set_option linter.unusedVariables false
set_option linter.unusedSimpArgs false
set_option maxHeartbeats 8000000
def sameB (d e : Chk) : Bool := (((((((((((((decide ((d.tsn.toNat : Int) = (e.tsn.toNat : Int))) && (decide (d.stream = e.stream))) && (decide (d.ssn = e.ssn))) && (decide ((d.proto.toNat : Int) = (e.proto.toNat : Int)))) && (decide (d.data = e.data))) && (decide ((d.tag.toNat : Int) = (e.tag.toNat : Int)))) && (decide ((d.rwnd.toNat : Int) = (e.rwnd.toNat : Int)))) && (decide (d.outs = e.outs))) && (decide (d.ins = e.ins))) && (decide (((d.ps.length : Nat) : Int) = ((e.ps.length : Nat) : Int)))) && (decide (((d.cs.length : Nat) : Int) = ((e.cs.length : Nat) : Int)))) && (decide (((d.gs.length : Nat) : Int) = ((e.gs.length : Nat) : Int)))) && (decide (((d.ds.length : Nat) : Int) = ((e.ds.length : Nat) : Int))))
theorem c_w (p : Prop) [Decidable p] (x : BitVec 32) : (x = if p then x else 0#32) ↔ (p ∨ x.toNat = 0) := by
  by_cases h : p
  · rw [if_pos h]; exact ⟨fun _ => .inl h, fun _ => rfl⟩
  · rw [if_neg h]; exact ⟨fun e => .inr (by rw [e]; rfl), fun q => BitVec.eq_of_toNat_eq (q.resolve_left h)⟩
theorem c_i (p : Prop) [Decidable p] (x : Int) : (x = if p then x else 0) ↔ (p ∨ x = 0) := by
  by_cases h : p
  · rw [if_pos h]; exact ⟨fun _ => .inl h, fun _ => rfl⟩
  · rw [if_neg h]; exact ⟨fun e => .inr e, fun q => q.resolve_left h⟩
theorem c_s (p : Prop) [Decidable p] (x : ByteArray) : (x = if p then x else ByteArray.empty) ↔ (p ∨ x.size = 0) := by
  by_cases h : p
  · rw [if_pos h]; exact ⟨fun _ => .inl h, fun _ => rfl⟩
  · rw [if_neg h]; exact ⟨fun e => .inr (by rw [e]; rfl), fun q => sz0 (q.resolve_left h)⟩
theorem c_l {α : Type} (p : Prop) [Decidable p] (x : List α) : (((x.length : Nat) : Int) = (((if p then x else []).length : Nat) : Int)) ↔ (p ∨ x.length = 0) := by
  by_cases h : p
  · rw [if_pos h]; exact ⟨fun _ => .inl h, fun _ => rfl⟩
  · rw [if_neg h]; exact ⟨fun e => .inr (by have : (([] : List α).length : Int) = 0 := rfl; omega), fun q => by have := q.resolve_left h; rw [this]; rfl⟩
theorem c_n (p : Prop) [Decidable p] (x : BitVec 32) : (((x.toNat : Nat) : Int) = (((if p then x else 0#32).toNat : Nat) : Int)) ↔ (p ∨ x.toNat = 0) := by
  by_cases h : p
  · rw [if_pos h]; exact ⟨fun _ => .inl h, fun _ => rfl⟩
  · rw [if_neg h]; exact ⟨fun e => .inr (by have : ((0#32).toNat : Int) = 0 := rfl; omega), fun q => by have := q.resolve_left h; rw [this]; rfl⟩
theorem same_plain (d : Chk) : sameB d (plainD d) = true ↔ hasntP d := by
  unfold sameB hasntP plainD plainQ
  simp only [Bool.and_eq_true, decide_eq_true_eq, and_assoc]
  simp only [c_w, c_i, c_s, c_l, c_n]
  constructor
  · rintro ⟨a1, a2, a3, a4, a5, a6, a7, a8, a9, a10, a11, a12, a13⟩
    exact ⟨by simpa only [or_assoc] using a1, by simpa only [or_assoc] using a2, by simpa only [or_assoc] using a3, a4, by simpa only [or_assoc] using a5, a6, a8, a9, by simpa only [or_assoc] using a7, by simpa only [or_assoc] using a10, a11, a12, a13⟩
  · rintro ⟨a1, a2, a3, a4, a5, a6, a8, a9, a7, a10, a11, a12, a13⟩
    exact ⟨by simpa only [or_assoc] using a1, by simpa only [or_assoc] using a2, by simpa only [or_assoc] using a3, a4, by simpa only [or_assoc] using a5, a6, by simpa only [or_assoc] using a7, a8, a9, by simpa only [or_assoc] using a10, a11, a12, a13⟩
abbrev xCp51 (e : Chk) : List Value := [(.int .i64 e.typ), (.int .i64 e.flags), (W e.tsn), (.int .i64 e.stream), (.int .i64 e.ssn), (W e.proto), (.string e.data), (W e.tag), (W e.rwnd), (.int .i64 e.outs), (.int .i64 e.ins), e.pv, e.cv, e.gv, e.dv]
theorem sSame {σ : Store} (d e : Chk)  (h : gd σ d) (he : gd σ e) : PS Try.prog noDen 96 [(.agg ⟨(cChk d)⟩), (.agg ⟨[(.int .i64 e.typ), (.int .i64 e.flags), (W e.tsn), (.int .i64 e.stream), (.int .i64 e.ssn), (W e.proto), (.string e.data), (W e.tag), (W e.rwnd), (.int .i64 e.outs), (.int .i64 e.ins), e.pv, e.cv, e.gv, e.dv]⟩)] σ (.bool (sameB d e)) := by
 refine PS.body (E := env) env_ok rfl rfl (by show _ ≤ _; exact of_decide_eq_true (by kernel_rfl)) (fun n hd => ?_)
 refine RA.sR hd env_ok <| o1 (some 2) (Pt n 0 0) (n + 1) (n, some ⟨[(cChk d)], 15, 54, true⟩) (r_box (cs := (cChk d)) rfl rfl rfl (Nat.le_of_ble_eq_true rfl) (by simp only [List.all_cons, List.all_nil, Bool.and_true, Bool.and_eq_true, cChk]; exact ⟨rfl, rfl, rfl, rfl, rfl, rfl, rfl, rfl, rfl, rfl, rfl, (h.hp).one, (h.hc).one, (h.hg).one, (h.hu).one⟩)) <| o1 (some 3) (.pointer (some ⟨(n + 1), 0, some 0⟩)) (n + 2) ((n + 1), some ⟨[(xCp51 e)], 15, 54, true⟩) (r_box (cs := (xCp51 e)) rfl rfl rfl (Nat.le_of_ble_eq_true rfl) (by simp only [List.all_cons, List.all_nil, Bool.and_true, Bool.and_eq_true]; exact ⟨rfl, rfl, rfl, rfl, rfl, rfl, rfl, rfl, rfl, rfl, rfl, (he.hp).one, (he.hc).one, (he.hg).one, (he.hu).one⟩)) <| OA.ps [(4, yF)] rfl <| OA.nil fun _ => RA.sR hd env_ok <| OA.ps [(5, (Pt n 0 2))] rfl <| oL 6 (W d.tsn) (get_there (by omega) get_here) <| OA.ps [(7, (.pointer (some ⟨(n + 1), 0, some 2⟩)))] rfl <| oL 8 (W e.tsn) get_here ?_
 obtain ⟨b1, hb1⟩ : ∃ b_ : Bool, (decide ((d.tsn.toNat : Int) = (e.tsn.toNat : Int))) = b_ := ⟨_, rfl⟩
 refine oP 9 (.bool b1) rfl (Eq.trans (r_bin rfl rfl rfl (b_eql rfl)) (by rw [hb1])) <| OA.ps [(10, (.bool b1))] rfl <| oB b1 11 (Pt n 0 3) (by cases b1 <;> rfl) rfl (fun hb_ => by cases b1 <;> first | exact Bool.noConfusion hb_ | exact rfl) <| oB b1 12 (.int .i64 d.stream) (by cases b1 <;> rfl) rfl (fun hb_ => by cases b1 <;> first | exact Bool.noConfusion hb_ | exact (rG (get_there (by omega) get_here) rfl rfl)) <| oB b1 13 (.pointer (some ⟨(n + 1), 0, some 3⟩)) (by cases b1 <;> rfl) rfl (fun hb_ => by cases b1 <;> first | exact Bool.noConfusion hb_ | exact rfl) <| oB b1 14 (.int .i64 e.stream) (by cases b1 <;> rfl) rfl (fun hb_ => by cases b1 <;> first | exact Bool.noConfusion hb_ | exact (rG get_here rfl rfl)) ?_
 obtain ⟨b2, hb2⟩ : ∃ b_ : Bool, (decide (d.stream = e.stream)) = b_ := ⟨_, rfl⟩
 refine oB b1 15 (.bool b2) (by cases b1 <;> rfl) rfl (fun hb_ => by cases b1 <;> first | exact Bool.noConfusion hb_ | exact (Eq.trans (r_bin rfl rfl rfl (b_eql rfl)) (by rw [hb2]))) ?_
 obtain ⟨b3, hb3⟩ : ∃ b_ : Bool, (b1 && b2) = b_ := ⟨_, rfl⟩
 refine oP 16 (.bool b3) rfl (by rw [← hb3]; cases b1 <;> rfl) <| OA.ps [(17, (.bool b3))] rfl <| oB b3 18 (Pt n 0 4) (by cases b3 <;> rfl) rfl (fun hb_ => by cases b3 <;> first | exact Bool.noConfusion hb_ | exact rfl) <| oB b3 19 (.int .i64 d.ssn) (by cases b3 <;> rfl) rfl (fun hb_ => by cases b3 <;> first | exact Bool.noConfusion hb_ | exact (rG (get_there (by omega) get_here) rfl rfl)) <| oB b3 20 (.pointer (some ⟨(n + 1), 0, some 4⟩)) (by cases b3 <;> rfl) rfl (fun hb_ => by cases b3 <;> first | exact Bool.noConfusion hb_ | exact rfl) <| oB b3 21 (.int .i64 e.ssn) (by cases b3 <;> rfl) rfl (fun hb_ => by cases b3 <;> first | exact Bool.noConfusion hb_ | exact (rG get_here rfl rfl)) ?_
 obtain ⟨b4, hb4⟩ : ∃ b_ : Bool, (decide (d.ssn = e.ssn)) = b_ := ⟨_, rfl⟩
 refine oB b3 22 (.bool b4) (by cases b3 <;> rfl) rfl (fun hb_ => by cases b3 <;> first | exact Bool.noConfusion hb_ | exact (Eq.trans (r_bin rfl rfl rfl (b_eql rfl)) (by rw [hb4]))) ?_
 obtain ⟨b5, hb5⟩ : ∃ b_ : Bool, (b3 && b4) = b_ := ⟨_, rfl⟩
 refine oP 23 (.bool b5) rfl (by rw [← hb5]; cases b3 <;> rfl) <| OA.ps [(24, (.bool b5))] rfl <| oB b5 25 (Pt n 0 5) (by cases b5 <;> rfl) rfl (fun hb_ => by cases b5 <;> first | exact Bool.noConfusion hb_ | exact rfl) <| oB b5 26 (W d.proto) (by cases b5 <;> rfl) rfl (fun hb_ => by cases b5 <;> first | exact Bool.noConfusion hb_ | exact (rG (get_there (by omega) get_here) rfl rfl)) <| oB b5 27 (.pointer (some ⟨(n + 1), 0, some 5⟩)) (by cases b5 <;> rfl) rfl (fun hb_ => by cases b5 <;> first | exact Bool.noConfusion hb_ | exact rfl) <| oB b5 28 (W e.proto) (by cases b5 <;> rfl) rfl (fun hb_ => by cases b5 <;> first | exact Bool.noConfusion hb_ | exact (rG get_here rfl rfl)) ?_
 obtain ⟨b6, hb6⟩ : ∃ b_ : Bool, (decide ((d.proto.toNat : Int) = (e.proto.toNat : Int))) = b_ := ⟨_, rfl⟩
 refine oB b5 29 (.bool b6) (by cases b5 <;> rfl) rfl (fun hb_ => by cases b5 <;> first | exact Bool.noConfusion hb_ | exact (Eq.trans (r_bin rfl rfl rfl (b_eql rfl)) (by rw [hb6]))) ?_
 obtain ⟨b7, hb7⟩ : ∃ b_ : Bool, (b5 && b6) = b_ := ⟨_, rfl⟩
 refine oP 30 (.bool b7) rfl (by rw [← hb7]; cases b5 <;> rfl) <| OA.ps [(31, (.bool b7))] rfl <| oB b7 32 (Pt n 0 6) (by cases b7 <;> rfl) rfl (fun hb_ => by cases b7 <;> first | exact Bool.noConfusion hb_ | exact rfl) <| oB b7 33 (.string d.data) (by cases b7 <;> rfl) rfl (fun hb_ => by cases b7 <;> first | exact Bool.noConfusion hb_ | exact (rG (get_there (by omega) get_here) rfl rfl)) <| oB b7 34 (.pointer (some ⟨(n + 1), 0, some 6⟩)) (by cases b7 <;> rfl) rfl (fun hb_ => by cases b7 <;> first | exact Bool.noConfusion hb_ | exact rfl) <| oB b7 35 (.string e.data) (by cases b7 <;> rfl) rfl (fun hb_ => by cases b7 <;> first | exact Bool.noConfusion hb_ | exact (rG get_here rfl rfl)) ?_
 obtain ⟨b8, hb8⟩ : ∃ b_ : Bool, (decide (d.data = e.data)) = b_ := ⟨_, rfl⟩
 refine oB b7 36 (.bool b8) (by cases b7 <;> rfl) rfl (fun hb_ => by cases b7 <;> first | exact Bool.noConfusion hb_ | exact (Eq.trans (r_eqlS rfl rfl rfl) (by rw [hb8]))) ?_
 obtain ⟨b9, hb9⟩ : ∃ b_ : Bool, (b7 && b8) = b_ := ⟨_, rfl⟩
 refine oP 37 (.bool b9) rfl (by rw [← hb9]; cases b7 <;> rfl) <| OA.ps [(38, (.bool b9))] rfl <| oB b9 39 (Pt n 0 7) (by cases b9 <;> rfl) rfl (fun hb_ => by cases b9 <;> first | exact Bool.noConfusion hb_ | exact rfl) <| oB b9 40 (W d.tag) (by cases b9 <;> rfl) rfl (fun hb_ => by cases b9 <;> first | exact Bool.noConfusion hb_ | exact (rG (get_there (by omega) get_here) rfl rfl)) <| oB b9 41 (.pointer (some ⟨(n + 1), 0, some 7⟩)) (by cases b9 <;> rfl) rfl (fun hb_ => by cases b9 <;> first | exact Bool.noConfusion hb_ | exact rfl) <| oB b9 42 (W e.tag) (by cases b9 <;> rfl) rfl (fun hb_ => by cases b9 <;> first | exact Bool.noConfusion hb_ | exact (rG get_here rfl rfl)) ?_
 obtain ⟨b10, hb10⟩ : ∃ b_ : Bool, (decide ((d.tag.toNat : Int) = (e.tag.toNat : Int))) = b_ := ⟨_, rfl⟩
 refine oB b9 43 (.bool b10) (by cases b9 <;> rfl) rfl (fun hb_ => by cases b9 <;> first | exact Bool.noConfusion hb_ | exact (Eq.trans (r_bin rfl rfl rfl (b_eql rfl)) (by rw [hb10]))) ?_
 obtain ⟨b11, hb11⟩ : ∃ b_ : Bool, (b9 && b10) = b_ := ⟨_, rfl⟩
 refine oP 44 (.bool b11) rfl (by rw [← hb11]; cases b9 <;> rfl) <| OA.ps [(45, (.bool b11))] rfl <| oB b11 46 (Pt n 0 8) (by cases b11 <;> rfl) rfl (fun hb_ => by cases b11 <;> first | exact Bool.noConfusion hb_ | exact rfl) <| oB b11 47 (W d.rwnd) (by cases b11 <;> rfl) rfl (fun hb_ => by cases b11 <;> first | exact Bool.noConfusion hb_ | exact (rG (get_there (by omega) get_here) rfl rfl)) <| oB b11 48 (.pointer (some ⟨(n + 1), 0, some 8⟩)) (by cases b11 <;> rfl) rfl (fun hb_ => by cases b11 <;> first | exact Bool.noConfusion hb_ | exact rfl) <| oB b11 49 (W e.rwnd) (by cases b11 <;> rfl) rfl (fun hb_ => by cases b11 <;> first | exact Bool.noConfusion hb_ | exact (rG get_here rfl rfl)) ?_
 obtain ⟨b12, hb12⟩ : ∃ b_ : Bool, (decide ((d.rwnd.toNat : Int) = (e.rwnd.toNat : Int))) = b_ := ⟨_, rfl⟩
 refine oB b11 50 (.bool b12) (by cases b11 <;> rfl) rfl (fun hb_ => by cases b11 <;> first | exact Bool.noConfusion hb_ | exact (Eq.trans (r_bin rfl rfl rfl (b_eql rfl)) (by rw [hb12]))) ?_
 obtain ⟨b13, hb13⟩ : ∃ b_ : Bool, (b11 && b12) = b_ := ⟨_, rfl⟩
 refine oP 51 (.bool b13) rfl (by rw [← hb13]; cases b11 <;> rfl) <| OA.ps [(52, (.bool b13))] rfl <| oB b13 53 (Pt n 0 9) (by cases b13 <;> rfl) rfl (fun hb_ => by cases b13 <;> first | exact Bool.noConfusion hb_ | exact rfl) <| oB b13 54 (.int .i64 d.outs) (by cases b13 <;> rfl) rfl (fun hb_ => by cases b13 <;> first | exact Bool.noConfusion hb_ | exact (rG (get_there (by omega) get_here) rfl rfl)) <| oB b13 55 (.pointer (some ⟨(n + 1), 0, some 9⟩)) (by cases b13 <;> rfl) rfl (fun hb_ => by cases b13 <;> first | exact Bool.noConfusion hb_ | exact rfl) <| oB b13 56 (.int .i64 e.outs) (by cases b13 <;> rfl) rfl (fun hb_ => by cases b13 <;> first | exact Bool.noConfusion hb_ | exact (rG get_here rfl rfl)) ?_
 obtain ⟨b14, hb14⟩ : ∃ b_ : Bool, (decide (d.outs = e.outs)) = b_ := ⟨_, rfl⟩
 refine oB b13 57 (.bool b14) (by cases b13 <;> rfl) rfl (fun hb_ => by cases b13 <;> first | exact Bool.noConfusion hb_ | exact (Eq.trans (r_bin rfl rfl rfl (b_eql rfl)) (by rw [hb14]))) ?_
 obtain ⟨b15, hb15⟩ : ∃ b_ : Bool, (b13 && b14) = b_ := ⟨_, rfl⟩
 refine oP 58 (.bool b15) rfl (by rw [← hb15]; cases b13 <;> rfl) <| OA.ps [(59, (.bool b15))] rfl <| oB b15 60 (Pt n 0 10) (by cases b15 <;> rfl) rfl (fun hb_ => by cases b15 <;> first | exact Bool.noConfusion hb_ | exact rfl) <| oB b15 61 (.int .i64 d.ins) (by cases b15 <;> rfl) rfl (fun hb_ => by cases b15 <;> first | exact Bool.noConfusion hb_ | exact (rG (get_there (by omega) get_here) rfl rfl)) <| oB b15 62 (.pointer (some ⟨(n + 1), 0, some 10⟩)) (by cases b15 <;> rfl) rfl (fun hb_ => by cases b15 <;> first | exact Bool.noConfusion hb_ | exact rfl) <| oB b15 63 (.int .i64 e.ins) (by cases b15 <;> rfl) rfl (fun hb_ => by cases b15 <;> first | exact Bool.noConfusion hb_ | exact (rG get_here rfl rfl)) ?_
 obtain ⟨b16, hb16⟩ : ∃ b_ : Bool, (decide (d.ins = e.ins)) = b_ := ⟨_, rfl⟩
 refine oB b15 64 (.bool b16) (by cases b15 <;> rfl) rfl (fun hb_ => by cases b15 <;> first | exact Bool.noConfusion hb_ | exact (Eq.trans (r_bin rfl rfl rfl (b_eql rfl)) (by rw [hb16]))) ?_
 obtain ⟨b17, hb17⟩ : ∃ b_ : Bool, (b15 && b16) = b_ := ⟨_, rfl⟩
 refine oP 65 (.bool b17) rfl (by rw [← hb17]; cases b15 <;> rfl) <| OA.ps [(66, (.bool b17))] rfl <| oB b17 67 (Pt n 0 11) (by cases b17 <;> rfl) rfl (fun hb_ => by cases b17 <;> first | exact Bool.noConfusion hb_ | exact rfl) <| oB b17 68 d.pv (by cases b17 <;> rfl) rfl (fun hb_ => by cases b17 <;> first | exact Bool.noConfusion hb_ | exact (rG (get_there (by omega) get_here) rfl rfl)) <| oB b17 69 (.int .i64 ((d.ps.length : Nat) : Int)) (by cases b17 <;> rfl) rfl (fun hb_ => by cases b17 <;> first | exact Bool.noConfusion hb_ | exact (r_lenQ (c := cPrm) rfl rfl rfl rfl rfl rfl h.hp rfl)) <| oB b17 70 (.pointer (some ⟨(n + 1), 0, some 11⟩)) (by cases b17 <;> rfl) rfl (fun hb_ => by cases b17 <;> first | exact Bool.noConfusion hb_ | exact rfl) <| oB b17 71 e.pv (by cases b17 <;> rfl) rfl (fun hb_ => by cases b17 <;> first | exact Bool.noConfusion hb_ | exact (rG get_here rfl rfl)) <| oB b17 72 (.int .i64 ((e.ps.length : Nat) : Int)) (by cases b17 <;> rfl) rfl (fun hb_ => by cases b17 <;> first | exact Bool.noConfusion hb_ | exact (r_lenQ (c := cPrm) rfl rfl rfl rfl rfl rfl he.hp rfl)) ?_
 obtain ⟨b18, hb18⟩ : ∃ b_ : Bool, (decide (((d.ps.length : Nat) : Int) = ((e.ps.length : Nat) : Int))) = b_ := ⟨_, rfl⟩
 refine oB b17 73 (.bool b18) (by cases b17 <;> rfl) rfl (fun hb_ => by cases b17 <;> first | exact Bool.noConfusion hb_ | exact (Eq.trans (r_bin rfl rfl rfl (b_eql rfl)) (by rw [hb18]))) ?_
 obtain ⟨b19, hb19⟩ : ∃ b_ : Bool, (b17 && b18) = b_ := ⟨_, rfl⟩
 refine oP 74 (.bool b19) rfl (by rw [← hb19]; cases b17 <;> rfl) <| OA.ps [(75, (.bool b19))] rfl <| oB b19 76 (Pt n 0 12) (by cases b19 <;> rfl) rfl (fun hb_ => by cases b19 <;> first | exact Bool.noConfusion hb_ | exact rfl) <| oB b19 77 d.cv (by cases b19 <;> rfl) rfl (fun hb_ => by cases b19 <;> first | exact Bool.noConfusion hb_ | exact (rG (get_there (by omega) get_here) rfl rfl)) <| oB b19 78 (.int .i64 ((d.cs.length : Nat) : Int)) (by cases b19 <;> rfl) rfl (fun hb_ => by cases b19 <;> first | exact Bool.noConfusion hb_ | exact (r_lenQ (c := cCau) rfl rfl rfl rfl rfl rfl h.hc rfl)) <| oB b19 79 (.pointer (some ⟨(n + 1), 0, some 12⟩)) (by cases b19 <;> rfl) rfl (fun hb_ => by cases b19 <;> first | exact Bool.noConfusion hb_ | exact rfl) <| oB b19 80 e.cv (by cases b19 <;> rfl) rfl (fun hb_ => by cases b19 <;> first | exact Bool.noConfusion hb_ | exact (rG get_here rfl rfl)) <| oB b19 81 (.int .i64 ((e.cs.length : Nat) : Int)) (by cases b19 <;> rfl) rfl (fun hb_ => by cases b19 <;> first | exact Bool.noConfusion hb_ | exact (r_lenQ (c := cCau) rfl rfl rfl rfl rfl rfl he.hc rfl)) ?_
 obtain ⟨b20, hb20⟩ : ∃ b_ : Bool, (decide (((d.cs.length : Nat) : Int) = ((e.cs.length : Nat) : Int))) = b_ := ⟨_, rfl⟩
 refine oB b19 82 (.bool b20) (by cases b19 <;> rfl) rfl (fun hb_ => by cases b19 <;> first | exact Bool.noConfusion hb_ | exact (Eq.trans (r_bin rfl rfl rfl (b_eql rfl)) (by rw [hb20]))) ?_
 obtain ⟨b21, hb21⟩ : ∃ b_ : Bool, (b19 && b20) = b_ := ⟨_, rfl⟩
 refine oP 83 (.bool b21) rfl (by rw [← hb21]; cases b19 <;> rfl) <| OA.ps [(84, (.bool b21))] rfl <| oB b21 85 (Pt n 0 13) (by cases b21 <;> rfl) rfl (fun hb_ => by cases b21 <;> first | exact Bool.noConfusion hb_ | exact rfl) <| oB b21 86 d.gv (by cases b21 <;> rfl) rfl (fun hb_ => by cases b21 <;> first | exact Bool.noConfusion hb_ | exact (rG (get_there (by omega) get_here) rfl rfl)) <| oB b21 87 (.int .i64 ((d.gs.length : Nat) : Int)) (by cases b21 <;> rfl) rfl (fun hb_ => by cases b21 <;> first | exact Bool.noConfusion hb_ | exact (r_lenQ (c := cGp) rfl rfl rfl rfl rfl rfl h.hg rfl)) <| oB b21 88 (.pointer (some ⟨(n + 1), 0, some 13⟩)) (by cases b21 <;> rfl) rfl (fun hb_ => by cases b21 <;> first | exact Bool.noConfusion hb_ | exact rfl) <| oB b21 89 e.gv (by cases b21 <;> rfl) rfl (fun hb_ => by cases b21 <;> first | exact Bool.noConfusion hb_ | exact (rG get_here rfl rfl)) <| oB b21 90 (.int .i64 ((e.gs.length : Nat) : Int)) (by cases b21 <;> rfl) rfl (fun hb_ => by cases b21 <;> first | exact Bool.noConfusion hb_ | exact (r_lenQ (c := cGp) rfl rfl rfl rfl rfl rfl he.hg rfl)) ?_
 obtain ⟨b22, hb22⟩ : ∃ b_ : Bool, (decide (((d.gs.length : Nat) : Int) = ((e.gs.length : Nat) : Int))) = b_ := ⟨_, rfl⟩
 refine oB b21 91 (.bool b22) (by cases b21 <;> rfl) rfl (fun hb_ => by cases b21 <;> first | exact Bool.noConfusion hb_ | exact (Eq.trans (r_bin rfl rfl rfl (b_eql rfl)) (by rw [hb22]))) ?_
 obtain ⟨b23, hb23⟩ : ∃ b_ : Bool, (b21 && b22) = b_ := ⟨_, rfl⟩
 refine oP 92 (.bool b23) rfl (by rw [← hb23]; cases b21 <;> rfl) <| OA.ps [(93, (.bool b23))] rfl <| oB b23 94 (Pt n 0 14) (by cases b23 <;> rfl) rfl (fun hb_ => by cases b23 <;> first | exact Bool.noConfusion hb_ | exact rfl) <| oB b23 95 d.dv (by cases b23 <;> rfl) rfl (fun hb_ => by cases b23 <;> first | exact Bool.noConfusion hb_ | exact (rG (get_there (by omega) get_here) rfl rfl)) <| oB b23 96 (.int .i64 ((d.ds.length : Nat) : Int)) (by cases b23 <;> rfl) rfl (fun hb_ => by cases b23 <;> first | exact Bool.noConfusion hb_ | exact (r_lenQ (c := cDp) rfl rfl rfl rfl rfl rfl h.hu rfl)) <| oB b23 97 (.pointer (some ⟨(n + 1), 0, some 14⟩)) (by cases b23 <;> rfl) rfl (fun hb_ => by cases b23 <;> first | exact Bool.noConfusion hb_ | exact rfl) <| oB b23 98 e.dv (by cases b23 <;> rfl) rfl (fun hb_ => by cases b23 <;> first | exact Bool.noConfusion hb_ | exact (rG get_here rfl rfl)) <| oB b23 99 (.int .i64 ((e.ds.length : Nat) : Int)) (by cases b23 <;> rfl) rfl (fun hb_ => by cases b23 <;> first | exact Bool.noConfusion hb_ | exact (r_lenQ (c := cDp) rfl rfl rfl rfl rfl rfl he.hu rfl)) ?_
 obtain ⟨b24, hb24⟩ : ∃ b_ : Bool, (decide (((d.ds.length : Nat) : Int) = ((e.ds.length : Nat) : Int))) = b_ := ⟨_, rfl⟩
 refine oB b23 100 (.bool b24) (by cases b23 <;> rfl) rfl (fun hb_ => by cases b23 <;> first | exact Bool.noConfusion hb_ | exact (Eq.trans (r_bin rfl rfl rfl (b_eql rfl)) (by rw [hb24]))) ?_
 obtain ⟨b25, hb25⟩ : ∃ b_ : Bool, (b23 && b24) = b_ := ⟨_, rfl⟩
 refine oP 101 (.bool b25) rfl (by rw [← hb25]; cases b23 <;> rfl) <| OA.ps [(4, (.bool b25))] rfl <| OA.nil fun _ => RA.rb [(0, (.agg ⟨(cChk d)⟩)), (1, (.agg ⟨(xCp51 e)⟩)), (2, (Pt n 0 0)), (3, (.pointer (some ⟨(n + 1), 0, some 0⟩))), (4, (.bool b25))] rfl (fun τr26 => ?_)
 refine RA.ret env_ok ?_
 exact lf (.bool b25) (by subst_vars; rfl)
theorem sSameP {σ : Store} (d : Chk) (b : Bool) (hb : b = true ↔ hasntP d) (h : gd σ d) : PS Try.prog noDen 96 [.agg ⟨cChk d⟩, .agg ⟨cChk (plainD d)⟩] σ (.bool b) :=
  PS.to (sSame d (plainD d) h h.plain) (by rw [show sameB d (plainD d) = b from by rw [Bool.eq_iff_iff, same_plain, hb]])
end Go.Proofs.Ytdnkhdkflemkeaa.Vt.Cp
/- Cp8: walks through functions of the program, by the calculus; written by a program of this workplace. -/
namespace Go.Proofs.Ytdnkhdkflemkeaa.Vt.Cp
open Go Go.Proofs Go.Proofs.YtdnkhdkflemkeaaV
set_option maxRecDepth 100000
set_option linter.unusedVariables false
set_option linter.unusedSimpArgs false
set_option maxHeartbeats 8000000
theorem mask_and (x : BitVec 64) (k : Nat) (hk : k ≤ 8) : (x &&& ~~~BitVec.ofNat 64 (2 ^ k - 1) = 0#64) ↔ x.toNat ≤ 2 ^ k - 1 := by
  have hp : 2 ^ k ≤ 2 ^ 8 := Nat.pow_le_pow_right (by decide) hk
  have h0 : 0 < 2 ^ k := Nat.two_pow_pos k
  have hm : (BitVec.ofNat 64 (2 ^ k - 1)).toNat = 2 ^ k - 1 := by rw [BitVec.toNat_ofNat]; omega
  have e : (x &&& BitVec.ofNat 64 (2 ^ k - 1)).toNat = x.toNat % 2 ^ k := by rw [BitVec.toNat_and, hm, Nat.and_two_pow_sub_one_eq_mod]
  constructor
  · intro h
    have h1 : x &&& BitVec.ofNat 64 (2 ^ k - 1) = x := by
      apply BitVec.eq_of_getLsbD_eq
      intro i hi
      have h2 := congrArg (fun z : BitVec 64 => z.getLsbD i) h
      simp only [BitVec.getLsbD_and, BitVec.getLsbD_not, BitVec.getLsbD_zero, hi, decide_true, Bool.true_and] at h2
      simp only [BitVec.getLsbD_and]
      cases hx : x.getLsbD i <;> cases hy : (BitVec.ofNat 64 (2 ^ k - 1)).getLsbD i <;> simp_all
    have h3 := congrArg BitVec.toNat h1
    rw [e] at h3
    have := Nat.mod_lt x.toNat h0
    omega
  · intro h
    have h1 : x &&& BitVec.ofNat 64 (2 ^ k - 1) = x := BitVec.eq_of_toNat_eq (by rw [e, Nat.mod_eq_of_lt (by omega)])
    rw [← h1]
    apply BitVec.eq_of_getLsbD_eq
    intro i hi
    simp only [BitVec.getLsbD_and, BitVec.getLsbD_not, BitVec.getLsbD_zero, hi, decide_true, Bool.true_and]
    cases (BitVec.ofNat 64 (2 ^ k - 1)).getLsbD i <;> simp
theorem fl_pow (t : Int) : ∃ k, k ≤ 8 ∧ fl t = 2 ^ k - 1 := by
  rcases fl_cases t with h | h | h | h | h
  · exact ⟨3, by omega, h.1⟩
  · exact ⟨2, by omega, h.1⟩
  · exact ⟨1, by omega, h.1⟩
  · exact ⟨8, by omega, h.1⟩
  · exact ⟨0, by omega, h.1⟩
theorem ofInt_nat (f : Nat) : BitVec.ofInt 64 (f : Int) = BitVec.ofNat 64 f := by simp
theorem clr_iff {F : Int} (t : Int) (h0 : 0 ≤ F) (h1 : F < 9223372036854775808) : clrN F (fl t) = 0 ↔ F ≤ (fl t : Nat) := by
  obtain ⟨k, hk, hf⟩ := fl_pow t
  obtain ⟨f, rfl⟩ := Int.eq_ofNat_of_zero_le h0
  have hp : 2 ^ k ≤ 2 ^ 8 := Nat.pow_le_pow_right (by decide) hk
  have h2 := mask_and (BitVec.ofNat 64 f) k hk
  have e1 : (BitVec.ofNat 64 f).toNat = f := by rw [BitVec.toNat_ofNat]; omega
  have h3 : (BitVec.ofNat 64 f &&& ~~~BitVec.ofNat 64 (2 ^ k - 1)).toNat ≤ f := by
    rw [BitVec.toNat_and, e1]; exact Nat.and_le_left
  rw [e1] at h2
  unfold clrN
  rw [ofInt_nat, ofInt_nat, hf, i64_of (by omega) (by omega)]
  constructor
  · intro h
    have := h2.1 (BitVec.eq_of_toNat_eq (by rw [BitVec.toNat_ofNat]; omega))
    omega
  · intro h
    rw [h2.2 (by omega)]; rfl
theorem and_mask : ∀ f : Fin 256, ∀ k : Fin 9, (f.val &&& (255 - (2 ^ k.val - 1)) = 0) ↔ f.val ≤ 2 ^ k.val - 1 := of_decide_eq_true (by kernel_rfl)
theorem and_iff {F : Int} (t : Int) (h0 : 0 ≤ F) (h1 : F ≤ 255) : andN F (255 - fl t) = 0 ↔ F ≤ (fl t : Nat) := by
  obtain ⟨k, hk, hf⟩ := fl_pow t
  obtain ⟨f, rfl⟩ := Int.eq_ofNat_of_zero_le h0
  have h2 := and_mask ⟨f, by omega⟩ ⟨k, by omega⟩
  have e1 : (BitVec.ofNat 64 f).toNat = f := by rw [BitVec.toNat_ofNat]; omega
  have e2 : (BitVec.ofNat 64 (255 - (2 ^ k - 1))).toNat = 255 - (2 ^ k - 1) := by rw [BitVec.toNat_ofNat]; omega
  unfold andN
  rw [ofInt_nat, ofInt_nat, hf, BitVec.toNat_and, e1, e2]
  simp only at h2
  rw [h2]
  omega
theorem fl_le (t : Int) : fl t ≤ 255 := by have := fl_cases t; omega
def mayP (d : Chk) : Prop := (0 ≤ d.typ ∧ d.typ ≤ 255 ∧ 0 ≤ d.flags ∧ d.flags ≤ (fl d.typ : Nat)) ∧ bodyOk d ∧ (kd d.typ = 1 → d.tag.toNat ≠ 0) ∧ hasntP d
def chL (d : Chk) : List UInt8 := fillL (be1 d.typ.toNat ++ be1 d.flags.toNat ++ be2 ((bodyL d).length + 4) ++ bodyL d)
abbrev xCp81 (d : Chk) : List Value := [(.int .i64 d.typ), (.int .i64 d.flags), (W d.tsn), (.int .i64 d.stream), (.int .i64 d.ssn), (W d.proto), (.string d.data), (W d.tag), (W d.rwnd), (.int .i64 d.outs), (.int .i64 d.ins), d.pv, d.cv, d.gv, d.dv]
set_option maxHeartbeats 8000000 in
theorem sMay {σ : Store} (d : Chk) (b : Bool) (hb : b = true ↔ mayP d)  (h : gd σ d) : PS Try.prog noDen 77 [(.agg ⟨(cChk d)⟩)] σ (.bool b) := by
 have hp18 := h.p18
 have hc18 := h.c18
 have hg18 := h.g18
 have hd18 := h.u18
 have hfl := h.fl
 refine PS.body (E := env) env_ok rfl rfl (by show _ ≤ _; exact of_decide_eq_true (by kernel_rfl)) (fun n hd => ?_)
 refine RA.sR hd env_ok <| o1 (some 1) (Pt n 0 0) (n + 1) (n, some ⟨[(cChk d)], 15, 54, true⟩) (r_box (cs := (cChk d)) rfl rfl rfl (Nat.le_of_ble_eq_true rfl) (by simp only [List.all_cons, List.all_nil, Bool.and_true, Bool.and_eq_true, cChk]; exact ⟨rfl, rfl, rfl, rfl, rfl, rfl, rfl, rfl, rfl, rfl, rfl, (h.hp).one, (h.hc).one, (h.hg).one, (h.hu).one⟩)) <| OA.ps [(2, yF)] rfl <| OA.nil fun _ => RA.seq hd <| RA.seq hd <| RA.par (md := [some [], some [n], some [], some [], some [], some [n], some [], some [], some [], some [], some [n], some [], some [], some [], some [], some [n], some [], some [n], some [], some [], some [], some [], some [], some [n], none, some [], some []]) env_ok (hd.of (by omega) (kb1 (by omega))) (by kernel_rfl) <| PQ.ps [(3, (Pt n 0 0))] rfl <| pQl 4 (.int .i64 d.typ) get_here ?_
 by_cases hc1 : d.typ < 0
 ·
  refine pP 5 yT rfl (Eq.trans (r_bin rfl rfl rfl (b_lss rfl)) (dT hc1)) <| PQ.ps [(6, yT)] rfl <| PQ.offs 7 3 rfl <| PQ.ps [(10, yT), (11, yT)] rfl <| PQ.offs 12 3 rfl <| PQ.ps [(15, yT), (16, yT)] rfl <| PQ.offs 17 7 rfl <| PQ.ps [(24, yT), (25, yT)] rfl <| PQ.offs 26 3 rfl <| PQ.ps [(29, yT)] rfl <| PQ.done (d := []) (by kernel_rfl) fun _ => ?_
  refine RA.rb [(0, (.agg ⟨(cChk d)⟩)), (1, (Pt n 0 0)), (2, yF), (29, yT)] rfl (fun τr1 => ?_)
  refine RA.condT rfl <| RA.sR hd env_ok <| OA.ps [(2, yF)] rfl <| OA.nil fun _ => ?_
  refine RA.ret env_ok ?_
  exact lf yF (bf hb (fun q => by have q1 := q.1; have q2 := q.2.1.data; have q3 := q.2.1.dups; have q4 := q.2.2.1; have q5 := kd_cases d.typ; omega))
 ·
  refine pP 5 yF rfl (Eq.trans (r_bin rfl rfl rfl (b_lss rfl)) (dF hc1)) <| PQ.ps [(6, yF), (7, (Pt n 0 0))] rfl <| pQl 8 (.int .i64 d.typ) get_here ?_
  by_cases hc2 : 255 < d.typ
  ·
   refine pP 9 yT rfl (Eq.trans (r_bin rfl rfl rfl (b_gtr rfl)) (dT hc2)) <| PQ.ps [(10, yT), (11, yT)] rfl <| PQ.offs 12 3 rfl <| PQ.ps [(15, yT), (16, yT)] rfl <| PQ.offs 17 7 rfl <| PQ.ps [(24, yT), (25, yT)] rfl <| PQ.offs 26 3 rfl <| PQ.ps [(29, yT)] rfl <| PQ.done (d := []) (by kernel_rfl) fun _ => RA.rb [(0, (.agg ⟨(cChk d)⟩)), (1, (Pt n 0 0)), (2, yF), (29, yT)] rfl (fun τr2 => ?_)
   refine RA.condT rfl <| RA.sR hd env_ok <| OA.ps [(2, yF)] rfl <| OA.nil fun _ => ?_
   refine RA.ret env_ok ?_
   exact lf yF (bf hb (fun q => by have q1 := q.1; have q2 := q.2.1.data; have q3 := q.2.1.dups; have q4 := q.2.2.1; have q5 := kd_cases d.typ; omega))
  ·
   refine pP 9 yF rfl (Eq.trans (r_bin rfl rfl rfl (b_gtr rfl)) (dF hc2)) <| PQ.ps [(10, yF), (11, yF), (12, (Pt n 0 1))] rfl <| pQl 13 (.int .i64 d.flags) get_here ?_
   by_cases hc3 : d.flags < 0
   ·
    refine pP 14 yT rfl (Eq.trans (r_bin rfl rfl rfl (b_lss rfl)) (dT hc3)) <| PQ.ps [(15, yT), (16, yT)] rfl <| PQ.offs 17 7 rfl <| PQ.ps [(24, yT), (25, yT)] rfl <| PQ.offs 26 3 rfl <| PQ.ps [(29, yT)] rfl <| PQ.done (d := []) (by kernel_rfl) fun _ => RA.rb [(0, (.agg ⟨(cChk d)⟩)), (1, (Pt n 0 0)), (2, yF), (29, yT)] rfl (fun τr3 => ?_)
    refine RA.condT rfl <| RA.sR hd env_ok <| OA.ps [(2, yF)] rfl <| OA.nil fun _ => ?_
    refine RA.ret env_ok ?_
    exact lf yF (bf hb (fun q => by have q1 := q.1; have q2 := q.2.1.data; have q3 := q.2.1.dups; have q4 := q.2.2.1; have q5 := kd_cases d.typ; omega))
   ·
    refine pP 14 yF rfl (Eq.trans (r_bin rfl rfl rfl (b_lss rfl)) (dF hc3)) <| PQ.ps [(15, yF), (16, yF), (17, (Pt n 0 1))] rfl <| pQl 18 (.int .i64 d.flags) get_here <| PQ.ps [(19, (Pt n 0 0))] rfl <| pQl 20 (.int .i64 d.typ) get_here <| pC 21 rfl rfl (sFlags d.typ) fun n4 hn4 => pP 22 (.int .i64 (clrN d.flags (fl d.typ))) rfl (r_bin rfl rfl rfl (b_clrN _ _)) ?_
    by_cases hc4 : (clrN d.flags (fl d.typ)) ≠ 0
    ·
     have hmk := clr_iff d.typ (F := d.flags) (by omega) hfl
     refine pP 23 yT rfl (Eq.trans (r_bin rfl rfl rfl (b_neq rfl)) (dT hc4)) <| PQ.ps [(24, yT), (25, yT)] rfl <| PQ.offs 26 3 rfl <| PQ.ps [(29, yT)] rfl <| PQ.done (d := []) (by kernel_rfl) fun _ => RA.rb [(0, (.agg ⟨(cChk d)⟩)), (1, (Pt n 0 0)), (2, yF), (29, yT)] rfl (fun τr5 => ?_)
     refine RA.condT rfl <| RA.sR hd env_ok <| OA.ps [(2, yF)] rfl <| OA.nil fun _ => ?_
     refine RA.ret env_ok ?_
     exact lf yF (bf hb (fun q => by have q1 := q.1; have q2 := q.2.1.data; have q3 := q.2.1.dups; have q4 := q.2.2.1; have q5 := kd_cases d.typ; omega))
    ·
     have hmk := clr_iff d.typ (F := d.flags) (by omega) hfl
     refine pP 23 yF rfl (Eq.trans (r_bin rfl rfl rfl (b_neq rfl)) (dF hc4)) <| PQ.ps [(24, yF), (25, yF)] rfl <| pQL 26 (.agg ⟨(xCp81 d)⟩) (V := []) rfl (by kernel_rfl) (by kernel_rfl) get_here (r_loadA rfl rfl rfl rfl get_here rfl rfl rfl) ?_
     by_cases hc5 : listsP d
     ·
      refine pA 27 (V := []) (hd.of (by omega) (kb1 (by omega))) rfl rfl (by kernel_rfl) (by kernel_rfl) (sLists d true (bT hc5) (h.mono (sub_a1 hd))) fun n6 hn6 => PQ.ps [(28, yF), (29, yF)] rfl <| PQ.done (d := []) (by kernel_rfl) fun _ => RA.rb [(0, (.agg ⟨(cChk d)⟩)), (1, (Pt n 0 0)), (2, yF), (29, yF)] rfl (fun τr7 => ?_)
      refine RA.condF rfl <| RA.skip env_ok ?_
      intro _
      refine RA.seq hd <| RA.sR hd env_ok <| OA.ps [(30, (Pt n 0 3))] rfl <| oL 31 (.int .i64 d.stream) get_here ?_
      by_cases hc6 : wordP (d.stream)
      ·
       refine oC 32 (hd.of (by omega) (kb1 (by omega))) rfl rfl (sWord (d.stream) true (bT hc6)) fun n8 hn8 => OA.ps [(33, yF), (34, yF), (35, (Pt n 0 4))] rfl <| oL 36 (.int .i64 d.ssn) get_here ?_
       by_cases hc7 : wordP (d.ssn)
       ·
        refine oC 37 (hd.of (by omega) (kb1 (by omega))) rfl rfl (sWord (d.ssn) true (bT hc7)) fun n9 hn9 => OA.ps [(38, yF), (39, yF), (40, yF), (41, (Pt n 0 9))] rfl <| oL 42 (.int .i64 d.outs) get_here ?_
        by_cases hc8 : wordP (d.outs)
        ·
         refine oC 43 (hd.of (by omega) (kb1 (by omega))) rfl rfl (sWord (d.outs) true (bT hc8)) fun n10 hn10 => OA.ps [(44, yF), (45, yF), (46, yF), (47, (Pt n 0 10))] rfl <| oL 48 (.int .i64 d.ins) get_here ?_
         by_cases hc9 : wordP (d.ins)
         ·
          refine oC 49 (hd.of (by omega) (kb1 (by omega))) rfl rfl (sWord (d.ins) true (bT hc9)) fun n11 hn11 => OA.ps [(50, yF), (51, yF), (52, yF), (53, (Pt n 0 6))] rfl <| oL 54 (.string d.data) get_here <| OA.ps [(55, (.int .i64 ((d.data.size : Nat) : Int)))] rfl ?_
          by_cases hc10 : 900 < ((d.data.size : Nat) : Int)
          ·
           refine oP 56 yT rfl (Eq.trans (r_bin rfl rfl rfl (b_gtr rfl)) (dT hc10)) <| OA.ps [(57, yT), (58, yT)] rfl <| OA.offs 59 4 rfl <| OA.ps [(63, yT), (64, yT)] rfl <| OA.offs 65 4 rfl <| OA.ps [(69, yT)] rfl <| OA.nil fun _ => RA.rb [(0, (.agg ⟨(cChk d)⟩)), (1, (Pt n 0 0)), (2, yF), (29, yF), (69, yT)] rfl (fun τr12 => ?_)
           refine RA.condT rfl <| RA.sR hd env_ok <| OA.ps [(2, yF)] rfl <| OA.nil fun _ => ?_
           refine RA.ret env_ok ?_
           exact lf yF (bf hb (fun q => by have q1 := q.1; have q2 := q.2.1.data; have q3 := q.2.1.dups; have q4 := q.2.2.1; have q5 := kd_cases d.typ; omega))
          ·
           refine oP 56 yF rfl (Eq.trans (r_bin rfl rfl rfl (b_gtr rfl)) (dF hc10)) <| OA.ps [(57, yF), (58, yF), (59, (Pt n 0 13))] rfl <| oL 60 d.gv get_here ?_
           by_cases hc11 : gapsP d.gs
           ·
            refine oC 61 (hd.of (by omega) (kb1 (by omega))) rfl rfl (sRising d true (bT hc11) (h.mono (sub_a1 hd))) fun n13 hn13 => OA.ps [(62, yF), (63, yF), (64, yF), (65, (Pt n 0 14))] rfl <| oL 66 d.dv get_here <| oP 67 (.int .i64 ((d.ds.length : Nat) : Int)) rfl (r_lenQ (c := cDp) rfl rfl rfl rfl rfl rfl h.hu rfl) ?_
            by_cases hc12 : 16 < ((d.ds.length : Nat) : Int)
            ·
             refine oP 68 yT rfl (Eq.trans (r_bin rfl rfl rfl (b_gtr rfl)) (dT hc12)) <| OA.ps [(69, yT)] rfl <| OA.nil fun _ => RA.rb [(0, (.agg ⟨(cChk d)⟩)), (1, (Pt n 0 0)), (2, yF), (29, yF), (69, yT)] rfl (fun τr14 => ?_)
             refine RA.condT rfl <| RA.sR hd env_ok <| OA.ps [(2, yF)] rfl <| OA.nil fun _ => ?_
             refine RA.ret env_ok ?_
             exact lf yF (bf hb (fun q => by have q1 := q.1; have q2 := q.2.1.data; have q3 := q.2.1.dups; have q4 := q.2.2.1; have q5 := kd_cases d.typ; omega))
            ·
             refine oP 68 yF rfl (Eq.trans (r_bin rfl rfl rfl (b_gtr rfl)) (dF hc12)) <| OA.ps [(69, yF)] rfl <| OA.nil fun _ => RA.rb [(0, (.agg ⟨(cChk d)⟩)), (1, (Pt n 0 0)), (2, yF), (29, yF), (69, yF)] rfl (fun τr15 => ?_)
             refine RA.condF rfl <| RA.skip env_ok ?_
             intro _
             refine RA.seq hd <| RA.sR hd env_ok <| OA.ps [(70, (Pt n 0 0))] rfl <| oL 71 (.int .i64 d.typ) get_here ?_
             by_cases hc13 : d.typ = 1
             ·
              refine oP 72 yT rfl (Eq.trans (r_bin rfl rfl rfl (b_eql rfl)) (dT hc13)) <| OA.ps [(73, yT)] rfl <| OA.offs 74 3 rfl <| OA.ps [(77, yT), (78, yT), (79, (Pt n 0 7))] rfl <| oL 80 (W d.tag) get_here ?_
              by_cases hc14 : (d.tag.toNat : Int) = 0
              ·
               refine oP 81 yT rfl (Eq.trans (r_bin rfl rfl rfl (b_eql rfl)) (dT hc14)) <| OA.ps [(82, yT)] rfl <| OA.nil fun _ => RA.condT rfl <| RA.sR hd env_ok <| OA.ps [(2, yF)] rfl <| OA.nil fun _ => ?_
               refine RA.ret env_ok ?_
               exact lf yF (bf hb (fun q => by have q1 := q.1; have q2 := q.2.1.data; have q3 := q.2.1.dups; have q4 := q.2.2.1; have q5 := kd_cases d.typ; omega))
              ·
               refine oP 81 yF rfl (Eq.trans (r_bin rfl rfl rfl (b_eql rfl)) (dF hc14)) <| OA.ps [(82, yF)] rfl <| OA.nil fun _ => RA.condF rfl <| RA.skip env_ok ?_
               intro _
               refine RA.seq hd <| RA.par (md := [some [n], none, some [], some [], some [], some [n], some [n], none, none, some [], some []]) env_ok (hd.of (by omega) (kb1 (by omega))) (by kernel_rfl) <| pQL 83 (.agg ⟨(xCp81 d)⟩) (V := []) rfl (by kernel_rfl) (by kernel_rfl) get_here (r_loadA rfl rfl rfl rfl get_here rfl rfl rfl) ?_
               have hok : bodyOk d := ⟨hc5, hc6, hc7, hc8, hc9, by omega, hc11, by omega⟩
               have hbl := bodyL_len hok
               refine pA 84 (V := []) (hd.of (by omega) (kb1 (by omega))) rfl rfl (by kernel_rfl) (by kernel_rfl) (sBody d hok (h.mono (sub_a1 hd))) fun n16 hn16 => pP 85 (.int .i64 (((bodyL d).length : Nat) : Int)) rfl (Eq.trans (show _ = some (Value.int .i64 (((bstr (bodyL d)).size : Nat) : Int), _, []) from rfl) (by rw [bstr_size] <;> rfl)) ?_
               have hc15 : (((bodyL d).length : Nat) : Int) ≤ 65531 := Classical.byContradiction (fun hdd => by exfalso; omega)
               refine pP 86 yT rfl (Eq.trans (r_bin rfl rfl rfl (b_leq rfl)) (dT hc15)) <| PQ.ps [(87, yT)] rfl <| pQL 88 (.agg ⟨(xCp81 d)⟩) (V := []) rfl (by kernel_rfl) (by kernel_rfl) get_here (r_loadA rfl rfl rfl rfl get_here rfl rfl rfl) <| pQL 89 (.agg ⟨(xCp81 d)⟩) (V := []) rfl (by kernel_rfl) (by kernel_rfl) get_here (r_loadA rfl rfl rfl rfl get_here rfl rfl rfl) <| pA 90 (V := []) (hd.of (by omega) (kb1 (by omega))) rfl rfl (by kernel_rfl) (by kernel_rfl) (sPlain d (h.mono (sub_a1 hd))) fun n17 hn17 => ?_
               by_cases hc16 : hasntP d
               ·
                refine pA 91 (V := []) (hd.of (by omega) (kb1 (by omega))) rfl rfl (by kernel_rfl) (by kernel_rfl) (sSameP d true (bT hc16) (h.mono (sub_a1 hd))) fun n18 hn18 => PQ.ps [(92, yT), (2, yT)] rfl <| PQ.done (d := []) (by kernel_rfl) fun _ => ?_
                refine RA.ret env_ok ?_
                exact lf yT (bt hb (⟨⟨by omega, by omega, by omega, by omega⟩, hok, by have := kd_cases d.typ; omega, hc16⟩))
               ·
                refine pA 91 (V := []) (hd.of (by omega) (kb1 (by omega))) rfl rfl (by kernel_rfl) (by kernel_rfl) (sSameP d false (bF hc16) (h.mono (sub_a1 hd))) fun n19 hn19 => PQ.ps [(92, yF), (2, yF)] rfl <| PQ.done (d := []) (by kernel_rfl) fun _ => ?_
                refine RA.ret env_ok ?_
                exact lf yF (bf hb (fun q => hc16 q.2.2.2))
             ·
              refine oP 72 yF rfl (Eq.trans (r_bin rfl rfl rfl (b_eql rfl)) (dF hc13)) <| OA.ps [(73, yF), (74, (Pt n 0 0))] rfl <| oL 75 (.int .i64 d.typ) get_here ?_
              by_cases hc17 : d.typ = 2
              ·
               refine oP 76 yT rfl (Eq.trans (r_bin rfl rfl rfl (b_eql rfl)) (dT hc17)) <| OA.ps [(77, yT), (78, yT), (79, (Pt n 0 7))] rfl <| oL 80 (W d.tag) get_here ?_
               by_cases hc18 : (d.tag.toNat : Int) = 0
               ·
                refine oP 81 yT rfl (Eq.trans (r_bin rfl rfl rfl (b_eql rfl)) (dT hc18)) <| OA.ps [(82, yT)] rfl <| OA.nil fun _ => RA.condT rfl <| RA.sR hd env_ok <| OA.ps [(2, yF)] rfl <| OA.nil fun _ => ?_
                refine RA.ret env_ok ?_
                exact lf yF (bf hb (fun q => by have q1 := q.1; have q2 := q.2.1.data; have q3 := q.2.1.dups; have q4 := q.2.2.1; have q5 := kd_cases d.typ; omega))
               ·
                refine oP 81 yF rfl (Eq.trans (r_bin rfl rfl rfl (b_eql rfl)) (dF hc18)) <| OA.ps [(82, yF)] rfl <| OA.nil fun _ => RA.condF rfl <| RA.skip env_ok ?_
                intro _
                refine RA.seq hd <| RA.par (md := [some [n], none, some [], some [], some [], some [n], some [n], none, none, some [], some []]) env_ok (hd.of (by omega) (kb1 (by omega))) (by kernel_rfl) <| pQL 83 (.agg ⟨(xCp81 d)⟩) (V := []) rfl (by kernel_rfl) (by kernel_rfl) get_here (r_loadA rfl rfl rfl rfl get_here rfl rfl rfl) ?_
                have hok : bodyOk d := ⟨hc5, hc6, hc7, hc8, hc9, by omega, hc11, by omega⟩
                have hbl := bodyL_len hok
                refine pA 84 (V := []) (hd.of (by omega) (kb1 (by omega))) rfl rfl (by kernel_rfl) (by kernel_rfl) (sBody d hok (h.mono (sub_a1 hd))) fun n20 hn20 => pP 85 (.int .i64 (((bodyL d).length : Nat) : Int)) rfl (Eq.trans (show _ = some (Value.int .i64 (((bstr (bodyL d)).size : Nat) : Int), _, []) from rfl) (by rw [bstr_size] <;> rfl)) ?_
                have hc19 : (((bodyL d).length : Nat) : Int) ≤ 65531 := Classical.byContradiction (fun hdd => by exfalso; omega)
                refine pP 86 yT rfl (Eq.trans (r_bin rfl rfl rfl (b_leq rfl)) (dT hc19)) <| PQ.ps [(87, yT)] rfl <| pQL 88 (.agg ⟨(xCp81 d)⟩) (V := []) rfl (by kernel_rfl) (by kernel_rfl) get_here (r_loadA rfl rfl rfl rfl get_here rfl rfl rfl) <| pQL 89 (.agg ⟨(xCp81 d)⟩) (V := []) rfl (by kernel_rfl) (by kernel_rfl) get_here (r_loadA rfl rfl rfl rfl get_here rfl rfl rfl) <| pA 90 (V := []) (hd.of (by omega) (kb1 (by omega))) rfl rfl (by kernel_rfl) (by kernel_rfl) (sPlain d (h.mono (sub_a1 hd))) fun n21 hn21 => ?_
                by_cases hc20 : hasntP d
                ·
                 refine pA 91 (V := []) (hd.of (by omega) (kb1 (by omega))) rfl rfl (by kernel_rfl) (by kernel_rfl) (sSameP d true (bT hc20) (h.mono (sub_a1 hd))) fun n22 hn22 => PQ.ps [(92, yT), (2, yT)] rfl <| PQ.done (d := []) (by kernel_rfl) fun _ => ?_
                 refine RA.ret env_ok ?_
                 exact lf yT (bt hb (⟨⟨by omega, by omega, by omega, by omega⟩, hok, by have := kd_cases d.typ; omega, hc20⟩))
                ·
                 refine pA 91 (V := []) (hd.of (by omega) (kb1 (by omega))) rfl rfl (by kernel_rfl) (by kernel_rfl) (sSameP d false (bF hc20) (h.mono (sub_a1 hd))) fun n23 hn23 => PQ.ps [(92, yF), (2, yF)] rfl <| PQ.done (d := []) (by kernel_rfl) fun _ => ?_
                 refine RA.ret env_ok ?_
                 exact lf yF (bf hb (fun q => hc20 q.2.2.2))
              ·
               refine oP 76 yF rfl (Eq.trans (r_bin rfl rfl rfl (b_eql rfl)) (dF hc17)) <| OA.ps [(77, yF), (78, yF)] rfl <| OA.offs 79 3 rfl <| OA.ps [(82, yF)] rfl <| OA.nil fun _ => RA.condF rfl <| RA.skip env_ok ?_
               intro _
               refine RA.seq hd <| RA.par (md := [some [n], none, some [], some [], some [], some [n], some [n], none, none, some [], some []]) env_ok (hd.of (by omega) (kb1 (by omega))) (by kernel_rfl) <| pQL 83 (.agg ⟨(xCp81 d)⟩) (V := []) rfl (by kernel_rfl) (by kernel_rfl) get_here (r_loadA rfl rfl rfl rfl get_here rfl rfl rfl) ?_
               have hok : bodyOk d := ⟨hc5, hc6, hc7, hc8, hc9, by omega, hc11, by omega⟩
               have hbl := bodyL_len hok
               refine pA 84 (V := []) (hd.of (by omega) (kb1 (by omega))) rfl rfl (by kernel_rfl) (by kernel_rfl) (sBody d hok (h.mono (sub_a1 hd))) fun n24 hn24 => pP 85 (.int .i64 (((bodyL d).length : Nat) : Int)) rfl (Eq.trans (show _ = some (Value.int .i64 (((bstr (bodyL d)).size : Nat) : Int), _, []) from rfl) (by rw [bstr_size] <;> rfl)) ?_
               have hc21 : (((bodyL d).length : Nat) : Int) ≤ 65531 := Classical.byContradiction (fun hdd => by exfalso; omega)
               refine pP 86 yT rfl (Eq.trans (r_bin rfl rfl rfl (b_leq rfl)) (dT hc21)) <| PQ.ps [(87, yT)] rfl <| pQL 88 (.agg ⟨(xCp81 d)⟩) (V := []) rfl (by kernel_rfl) (by kernel_rfl) get_here (r_loadA rfl rfl rfl rfl get_here rfl rfl rfl) <| pQL 89 (.agg ⟨(xCp81 d)⟩) (V := []) rfl (by kernel_rfl) (by kernel_rfl) get_here (r_loadA rfl rfl rfl rfl get_here rfl rfl rfl) <| pA 90 (V := []) (hd.of (by omega) (kb1 (by omega))) rfl rfl (by kernel_rfl) (by kernel_rfl) (sPlain d (h.mono (sub_a1 hd))) fun n25 hn25 => ?_
               by_cases hc22 : hasntP d
               ·
                refine pA 91 (V := []) (hd.of (by omega) (kb1 (by omega))) rfl rfl (by kernel_rfl) (by kernel_rfl) (sSameP d true (bT hc22) (h.mono (sub_a1 hd))) fun n26 hn26 => PQ.ps [(92, yT), (2, yT)] rfl <| PQ.done (d := []) (by kernel_rfl) fun _ => ?_
                refine RA.ret env_ok ?_
                exact lf yT (bt hb (⟨⟨by omega, by omega, by omega, by omega⟩, hok, by have := kd_cases d.typ; omega, hc22⟩))
               ·
                refine pA 91 (V := []) (hd.of (by omega) (kb1 (by omega))) rfl rfl (by kernel_rfl) (by kernel_rfl) (sSameP d false (bF hc22) (h.mono (sub_a1 hd))) fun n27 hn27 => PQ.ps [(92, yF), (2, yF)] rfl <| PQ.done (d := []) (by kernel_rfl) fun _ => ?_
                refine RA.ret env_ok ?_
                exact lf yF (bf hb (fun q => hc22 q.2.2.2))
           ·
            refine oC 61 (hd.of (by omega) (kb1 (by omega))) rfl rfl (sRising d false (bF hc11) (h.mono (sub_a1 hd))) fun n28 hn28 => OA.ps [(62, yT), (63, yT), (64, yT)] rfl <| OA.offs 65 4 rfl <| OA.ps [(69, yT)] rfl <| OA.nil fun _ => RA.rb [(0, (.agg ⟨(cChk d)⟩)), (1, (Pt n 0 0)), (2, yF), (29, yF), (69, yT)] rfl (fun τr29 => ?_)
            refine RA.condT rfl <| RA.sR hd env_ok <| OA.ps [(2, yF)] rfl <| OA.nil fun _ => ?_
            refine RA.ret env_ok ?_
            exact lf yF (bf hb (fun q => hc11 q.2.1.gaps))
         ·
          refine oC 49 (hd.of (by omega) (kb1 (by omega))) rfl rfl (sWord (d.ins) false (bF hc9)) fun n30 hn30 => OA.ps [(50, yT), (51, yT), (52, yT)] rfl <| OA.offs 53 4 rfl <| OA.ps [(57, yT), (58, yT)] rfl <| OA.offs 59 4 rfl <| OA.ps [(63, yT), (64, yT)] rfl <| OA.offs 65 4 rfl <| OA.ps [(69, yT)] rfl <| OA.nil fun _ => RA.rb [(0, (.agg ⟨(cChk d)⟩)), (1, (Pt n 0 0)), (2, yF), (29, yF), (69, yT)] rfl (fun τr31 => ?_)
          refine RA.condT rfl <| RA.sR hd env_ok <| OA.ps [(2, yF)] rfl <| OA.nil fun _ => ?_
          refine RA.ret env_ok ?_
          exact lf yF (bf hb (fun q => hc9 q.2.1.w4))
        ·
         refine oC 43 (hd.of (by omega) (kb1 (by omega))) rfl rfl (sWord (d.outs) false (bF hc8)) fun n32 hn32 => OA.ps [(44, yT), (45, yT), (46, yT)] rfl <| OA.offs 47 4 rfl <| OA.ps [(51, yT), (52, yT)] rfl <| OA.offs 53 4 rfl <| OA.ps [(57, yT), (58, yT)] rfl <| OA.offs 59 4 rfl <| OA.ps [(63, yT), (64, yT)] rfl <| OA.offs 65 4 rfl <| OA.ps [(69, yT)] rfl <| OA.nil fun _ => ?_
         refine RA.rb [(0, (.agg ⟨(cChk d)⟩)), (1, (Pt n 0 0)), (2, yF), (29, yF), (69, yT)] rfl (fun τr33 => ?_)
         refine RA.condT rfl <| RA.sR hd env_ok <| OA.ps [(2, yF)] rfl <| OA.nil fun _ => ?_
         refine RA.ret env_ok ?_
         exact lf yF (bf hb (fun q => hc8 q.2.1.w3))
       ·
        refine oC 37 (hd.of (by omega) (kb1 (by omega))) rfl rfl (sWord (d.ssn) false (bF hc7)) fun n34 hn34 => OA.ps [(38, yT), (39, yT), (40, yT)] rfl <| OA.offs 41 4 rfl <| OA.ps [(45, yT), (46, yT)] rfl <| OA.offs 47 4 rfl <| OA.ps [(51, yT), (52, yT)] rfl <| OA.offs 53 4 rfl <| OA.ps [(57, yT), (58, yT)] rfl <| OA.offs 59 4 rfl <| OA.ps [(63, yT), (64, yT)] rfl <| OA.offs 65 4 rfl ?_
        refine OA.ps [(69, yT)] rfl <| OA.nil fun _ => RA.rb [(0, (.agg ⟨(cChk d)⟩)), (1, (Pt n 0 0)), (2, yF), (29, yF), (69, yT)] rfl (fun τr35 => ?_)
        refine RA.condT rfl <| RA.sR hd env_ok <| OA.ps [(2, yF)] rfl <| OA.nil fun _ => ?_
        refine RA.ret env_ok ?_
        exact lf yF (bf hb (fun q => hc7 q.2.1.w2))
      ·
       refine oC 32 (hd.of (by omega) (kb1 (by omega))) rfl rfl (sWord (d.stream) false (bF hc6)) fun n36 hn36 => OA.ps [(33, yT), (34, yT)] rfl <| OA.offs 35 4 rfl <| OA.ps [(39, yT), (40, yT)] rfl <| OA.offs 41 4 rfl <| OA.ps [(45, yT), (46, yT)] rfl <| OA.offs 47 4 rfl <| OA.ps [(51, yT), (52, yT)] rfl <| OA.offs 53 4 rfl <| OA.ps [(57, yT), (58, yT)] rfl <| OA.offs 59 4 rfl ?_
       refine OA.ps [(63, yT), (64, yT)] rfl <| OA.offs 65 4 rfl <| OA.ps [(69, yT)] rfl <| OA.nil fun _ => RA.rb [(0, (.agg ⟨(cChk d)⟩)), (1, (Pt n 0 0)), (2, yF), (29, yF), (69, yT)] rfl (fun τr37 => ?_)
       refine RA.condT rfl <| RA.sR hd env_ok <| OA.ps [(2, yF)] rfl <| OA.nil fun _ => ?_
       refine RA.ret env_ok ?_
       exact lf yF (bf hb (fun q => hc6 q.2.1.w1))
     ·
      refine pA 27 (V := []) (hd.of (by omega) (kb1 (by omega))) rfl rfl (by kernel_rfl) (by kernel_rfl) (sLists d false (bF hc5) (h.mono (sub_a1 hd))) fun n38 hn38 => PQ.ps [(28, yT), (29, yT)] rfl <| PQ.done (d := []) (by kernel_rfl) fun _ => RA.rb [(0, (.agg ⟨(cChk d)⟩)), (1, (Pt n 0 0)), (2, yF), (29, yT)] rfl (fun τr39 => ?_)
      refine RA.condT rfl <| RA.sR hd env_ok <| OA.ps [(2, yF)] rfl <| OA.nil fun _ => ?_
      refine RA.ret env_ok ?_
      exact lf yF (bf hb (fun q => hc5 q.2.1.lists))
theorem sChPutT {σ : Store} (d : Chk) (hm : mayP d)  (h : gd σ d) : PS Try.prog noDen 67 [(.agg ⟨(cChk d)⟩)] σ (.string (bstr (chL d))) := by
 have hp18 := h.p18
 have hc18 := h.c18
 have hg18 := h.g18
 have hd18 := h.u18
 have hfl := h.fl
 have hm1 := hm.1
 have hfle := fl_le d.typ
 have hbl := bodyL_len hm.2.1
 refine PS.body (E := env) env_ok rfl rfl (by show _ ≤ _; exact of_decide_eq_true (by kernel_rfl)) (fun n hd => ?_)
 refine RA.sR hd env_ok <| o1 (some 1) (Pt n 0 0) (n + 1) (n, some ⟨[(cChk d)], 15, 54, true⟩) (r_box (cs := (cChk d)) rfl rfl rfl (Nat.le_of_ble_eq_true rfl) (by simp only [List.all_cons, List.all_nil, Bool.and_true, Bool.and_eq_true, cChk]; exact ⟨rfl, rfl, rfl, rfl, rfl, rfl, rfl, rfl, rfl, rfl, rfl, (h.hp).one, (h.hc).one, (h.hg).one, (h.hu).one⟩)) <| OA.ps [(2, (.string (ByteArray.mk #[])))] rfl <| OA.nil fun _ => RA.seq hd <| RA.sR hd env_ok <| oP 4 (.agg ⟨(xCp81 d)⟩) rfl (r_loadA rfl rfl rfl rfl get_here rfl rfl rfl) <| oC 5 (hd.of (by omega) (kb1 (by omega))) rfl rfl (sMay d true (bT hm) (h.mono (sub_a1 hd))) fun n1 hn1 => OA.ps [(6, yF)] rfl <| OA.nil fun _ => RA.condF rfl ?_
 refine RA.skip env_ok ?_
 intro _
 refine RA.sR hd env_ok <| oP 7 (.agg ⟨(xCp81 d)⟩) rfl (r_loadA rfl rfl rfl rfl get_here rfl rfl rfl) <| oC 8 (hd.of (by omega) (kb1 (by omega))) rfl rfl (sBody d hm.2.1 (h.mono (sub_a1 hd))) fun n2 hn2 => OA.ps [(3, (.string (bstr (bodyL d))))] rfl <| OA.nil fun _ => RA.seq hd <| RA.par (md := [some [], some [n], none, some [], some [n], none, some [], some [], some [], some [], none, some [], some [], some [], none, some []]) env_ok (hd.of (by omega) (kb1 (by omega))) (by kernel_rfl) <| PQ.ps [(9, (Pt n 0 0))] rfl <| pQl 10 (.int .i64 d.typ) get_here <| pA 11 (V := []) (hd.of (by omega) (kb1 (by omega))) rfl rfl (by kernel_rfl) (by kernel_rfl) (zU8 d.typ (by omega) (by omega)) fun n3 hn3 => PQ.ps [(12, (Pt n 0 1))] rfl ?_
 refine pQl 13 (.int .i64 d.flags) get_here <| pA 14 (V := []) (hd.of (by omega) (kb1 (by omega))) rfl rfl (by kernel_rfl) (by kernel_rfl) (zU8 d.flags (by omega) (by omega)) fun n4 hn4 => pP 15 (.string (bstr ((be1 (d.typ).toNat) ++ (be1 (d.flags).toNat)))) rfl (Eq.trans (r_cat rfl rfl rfl (by simp only [bstr_size, size_lit, List.length_append, be2_len, be4_len, be1_len, List.length_replicate, List.length_cons, List.length_nil, List.size_toArray, be1_len]; omega)) (by rw [bstr_app] <;> rfl)) <| PQ.ps [(16, (.string (bstr (bodyL d))))] rfl <| pP 17 (.int .i64 (((bodyL d).length : Nat) : Int)) rfl (Eq.trans (show _ = some (Value.int .i64 (((bstr (bodyL d)).size : Nat) : Int), _, []) from rfl) (by rw [bstr_size] <;> rfl)) <| pP 18 (.int .i64 ((((bodyL d).length + 4) : Nat) : Int)) rfl (r_bin rfl rfl rfl (b_add (i64_eq (by omega)))) <| pA 19 (V := []) (hd.of (by omega) (kb1 (by omega))) rfl rfl (by kernel_rfl) (by kernel_rfl) (sU16 ((bodyL d).length + 4) (by omega)) fun n5 hn5 => pP 20 (.string (bstr (((be1 (d.typ).toNat) ++ (be1 (d.flags).toNat)) ++ (be2 ((bodyL d).length + 4))))) rfl (Eq.trans (r_cat rfl rfl rfl (by simp only [bstr_size, size_lit, List.length_append, be2_len, be4_len, be1_len, List.length_replicate, List.length_cons, List.length_nil, List.size_toArray, be1_len]; omega)) (by rw [bstr_app] <;> rfl)) <| PQ.ps [(21, (.string (bstr (bodyL d))))] rfl <| pP 22 (.string (bstr ((((be1 (d.typ).toNat) ++ (be1 (d.flags).toNat)) ++ (be2 ((bodyL d).length + 4))) ++ (bodyL d)))) rfl (Eq.trans (r_cat rfl rfl rfl (by simp only [bstr_size, size_lit, List.length_append, be2_len, be4_len, be1_len, List.length_replicate, List.length_cons, List.length_nil, List.size_toArray, be1_len]; omega)) (by rw [bstr_app] <;> rfl)) <| pA 23 (V := []) (hd.of (by omega) (kb1 (by omega))) rfl rfl (by kernel_rfl) (by kernel_rfl) (lFilled (be1 d.typ.toNat ++ be1 d.flags.toNat ++ be2 ((bodyL d).length + 4) ++ bodyL d) (by simp only [List.length_append, be1_len, be2_len]; omega)) fun n6 hn6 => ?_
 refine PQ.ps [(2, (.string (bstr (chL d))))] rfl <| PQ.done (d := []) (by kernel_rfl) fun _ => ?_
 refine RA.ret env_ok ?_
 exact lf (.string (bstr (chL d))) rfl
theorem sChPutF {σ : Store} (d : Chk) (hm : ¬ mayP d)  (h : gd σ d) : PS Try.prog noDen 67 [(.agg ⟨(cChk d)⟩)] σ (.string (ByteArray.mk #[])) := by
 have hp18 := h.p18
 have hc18 := h.c18
 have hg18 := h.g18
 have hd18 := h.u18
 have hfl := h.fl
 refine PS.body (E := env) env_ok rfl rfl (by show _ ≤ _; exact of_decide_eq_true (by kernel_rfl)) (fun n hd => ?_)
 refine RA.sR hd env_ok <| o1 (some 1) (Pt n 0 0) (n + 1) (n, some ⟨[(cChk d)], 15, 54, true⟩) (r_box (cs := (cChk d)) rfl rfl rfl (Nat.le_of_ble_eq_true rfl) (by simp only [List.all_cons, List.all_nil, Bool.and_true, Bool.and_eq_true, cChk]; exact ⟨rfl, rfl, rfl, rfl, rfl, rfl, rfl, rfl, rfl, rfl, rfl, (h.hp).one, (h.hc).one, (h.hg).one, (h.hu).one⟩)) <| OA.ps [(2, (.string (ByteArray.mk #[])))] rfl <| OA.nil fun _ => RA.seq hd <| RA.sR hd env_ok <| oP 4 (.agg ⟨(xCp81 d)⟩) rfl (r_loadA rfl rfl rfl rfl get_here rfl rfl rfl) <| oC 5 (hd.of (by omega) (kb1 (by omega))) rfl rfl (sMay d false (bF hm) (h.mono (sub_a1 hd))) fun n1 hn1 => OA.ps [(6, yT)] rfl <| OA.nil fun _ => RA.condT rfl ?_
 refine RA.sR hd env_ok <| OA.ps [(2, (.string (ByteArray.mk #[])))] rfl <| OA.nil fun _ => ?_
 refine RA.ret env_ok ?_
 exact lf (.string (ByteArray.mk #[])) rfl
end Go.Proofs.Ytdnkhdkflemkeaa.Vt.Cp
/- Cr6: walks through functions of the program, by the calculus; written by a program of this workplace. -/
namespace Go.Proofs.Ytdnkhdkflemkeaa.Vt.Cp
open Go Go.Proofs Go.Proofs.YtdnkhdkflemkeaaV
set_option maxRecDepth 100000
set_option linter.unusedVariables false
set_option linter.unusedSimpArgs false
set_option maxHeartbeats 8000000
abbrev xCr61 (d : Chk) : List Value := [(.int .i64 d.typ), (.int .i64 d.flags), (W d.tsn), (.int .i64 d.stream), (.int .i64 d.ssn), (W d.proto), (.string d.data), (W d.tag), (W d.rwnd), (.int .i64 d.outs), (.int .i64 d.ins), d.pv, d.cv, d.gv, d.dv]
set_option maxHeartbeats 8000000 in
theorem rMay {σ : Store} (d : Chk) (b : Bool) (hb : b = true ↔ mayP d)  (h : gd σ d) : PS Try.prog noDen 69 [(.agg ⟨(cChk d)⟩)] σ (.bool b) := by
 have hp18 := h.p18
 have hc18 := h.c18
 have hg18 := h.g18
 have hd18 := h.u18
 have hfl := h.fl
 refine PS.body (E := env) env_ok rfl rfl (by show _ ≤ _; exact of_decide_eq_true (by kernel_rfl)) (fun n hd => ?_)
 refine RA.sR hd env_ok <| o1 (some 1) (Pt n 0 0) (n + 1) (n, some ⟨[(cChk d)], 15, 54, true⟩) (r_box (cs := (cChk d)) rfl rfl rfl (Nat.le_of_ble_eq_true rfl) (by simp only [List.all_cons, List.all_nil, Bool.and_true, Bool.and_eq_true, cChk]; exact ⟨rfl, rfl, rfl, rfl, rfl, rfl, rfl, rfl, rfl, rfl, rfl, (h.hp).one, (h.hc).one, (h.hg).one, (h.hu).one⟩)) <| OA.ps [(2, yF)] rfl <| OA.nil fun _ => RA.seq hd <| RA.seq hd <| RA.par (md := [some [], some [n], some [], some [], some [], some [n], some [], some [], some [], some [], some [n], some [], some [], some [], some [], some [n], some [], some [], some [], some [], some [n], some [], some [n], some [], some [], some [], some [], some [], some [], some [n], none, some [], some [], some [], some [n], some [], some [], some [], some [], some [], some [n], some [], some [], some [], some [], some [], some [n], some [], some [], some [], some [], some [], some [n], some [], some [], some [], some [], some [], some [n], none, some [], some [], some [], some [], some [n], some [], some [], some [], some [], some [n], some [], some [], some []]) env_ok (hd.of (by omega) (kb1 (by omega))) (by kernel_rfl) <| PQ.ps [(5, (Pt n 0 0))] rfl <| pQl 6 (.int .i64 d.typ) get_here ?_
 by_cases hc1 : d.typ < 0
 ·
  refine pP 7 yT rfl (Eq.trans (r_bin rfl rfl rfl (b_lss rfl)) (dT hc1)) <| PQ.ps [(8, yT)] rfl <| PQ.offs 9 3 rfl <| PQ.ps [(12, yT), (13, yT)] rfl <| PQ.offs 14 3 rfl <| PQ.ps [(17, yT), (18, yT)] rfl <| PQ.offs 19 3 rfl <| PQ.ps [(22, yT), (23, yT)] rfl <| PQ.offs 24 8 rfl <| PQ.ps [(32, yT), (33, yT)] rfl <| PQ.offs 34 2 rfl ?_
  refine PQ.ps [(36, yT), (37, yT)] rfl <| PQ.offs 38 4 rfl <| PQ.ps [(42, yT), (43, yT)] rfl <| PQ.offs 44 4 rfl <| PQ.ps [(48, yT), (49, yT)] rfl <| PQ.offs 50 4 rfl <| PQ.ps [(54, yT), (55, yT)] rfl <| PQ.offs 56 4 rfl <| PQ.ps [(60, yT), (61, yT)] rfl <| PQ.offs 62 4 rfl <| PQ.ps [(66, yT), (67, yT)] rfl ?_
  refine PQ.offs 68 9 rfl <| PQ.ps [(77, yT)] rfl <| PQ.done (d := []) (by kernel_rfl) fun _ => RA.rb [(0, (.agg ⟨(cChk d)⟩)), (1, (Pt n 0 0)), (2, yF), (77, yT)] rfl (fun τr1 => ?_)
  refine RA.condT rfl <| RA.sR hd env_ok <| OA.ps [(2, yF)] rfl <| OA.nil fun _ => ?_
  refine RA.ret env_ok ?_
  exact lf yF (bf hb (fun q => by have q1 := q.1; have q2 := q.2.1.data; have q3 := q.2.1.dups; have q4 := q.2.2.1; have q6 := q.2.1.lists.2.2; have q5 := fl_le d.typ; omega))
 ·
  refine pP 7 yF rfl (Eq.trans (r_bin rfl rfl rfl (b_lss rfl)) (dF hc1)) <| PQ.ps [(8, yF), (9, (Pt n 0 0))] rfl <| pQl 10 (.int .i64 d.typ) get_here ?_
  by_cases hc2 : 255 < d.typ
  ·
   refine pP 11 yT rfl (Eq.trans (r_bin rfl rfl rfl (b_gtr rfl)) (dT hc2)) <| PQ.ps [(12, yT), (13, yT)] rfl <| PQ.offs 14 3 rfl <| PQ.ps [(17, yT), (18, yT)] rfl <| PQ.offs 19 3 rfl <| PQ.ps [(22, yT), (23, yT)] rfl <| PQ.offs 24 8 rfl <| PQ.ps [(32, yT), (33, yT)] rfl <| PQ.offs 34 2 rfl <| PQ.ps [(36, yT), (37, yT)] rfl <| PQ.offs 38 4 rfl ?_
   refine PQ.ps [(42, yT), (43, yT)] rfl <| PQ.offs 44 4 rfl <| PQ.ps [(48, yT), (49, yT)] rfl <| PQ.offs 50 4 rfl <| PQ.ps [(54, yT), (55, yT)] rfl <| PQ.offs 56 4 rfl <| PQ.ps [(60, yT), (61, yT)] rfl <| PQ.offs 62 4 rfl <| PQ.ps [(66, yT), (67, yT)] rfl <| PQ.offs 68 9 rfl <| PQ.ps [(77, yT)] rfl ?_
   refine PQ.done (d := []) (by kernel_rfl) fun _ => RA.rb [(0, (.agg ⟨(cChk d)⟩)), (1, (Pt n 0 0)), (2, yF), (77, yT)] rfl (fun τr2 => ?_)
   refine RA.condT rfl <| RA.sR hd env_ok <| OA.ps [(2, yF)] rfl <| OA.nil fun _ => ?_
   refine RA.ret env_ok ?_
   exact lf yF (bf hb (fun q => by have q1 := q.1; have q2 := q.2.1.data; have q3 := q.2.1.dups; have q4 := q.2.2.1; have q6 := q.2.1.lists.2.2; have q5 := fl_le d.typ; omega))
  ·
   refine pP 11 yF rfl (Eq.trans (r_bin rfl rfl rfl (b_gtr rfl)) (dF hc2)) <| PQ.ps [(12, yF), (13, yF), (14, (Pt n 0 1))] rfl <| pQl 15 (.int .i64 d.flags) get_here ?_
   by_cases hc3 : d.flags < 0
   ·
    refine pP 16 yT rfl (Eq.trans (r_bin rfl rfl rfl (b_lss rfl)) (dT hc3)) <| PQ.ps [(17, yT), (18, yT)] rfl <| PQ.offs 19 3 rfl <| PQ.ps [(22, yT), (23, yT)] rfl <| PQ.offs 24 8 rfl <| PQ.ps [(32, yT), (33, yT)] rfl <| PQ.offs 34 2 rfl <| PQ.ps [(36, yT), (37, yT)] rfl <| PQ.offs 38 4 rfl <| PQ.ps [(42, yT), (43, yT)] rfl <| PQ.offs 44 4 rfl ?_
    refine PQ.ps [(48, yT), (49, yT)] rfl <| PQ.offs 50 4 rfl <| PQ.ps [(54, yT), (55, yT)] rfl <| PQ.offs 56 4 rfl <| PQ.ps [(60, yT), (61, yT)] rfl <| PQ.offs 62 4 rfl <| PQ.ps [(66, yT), (67, yT)] rfl <| PQ.offs 68 9 rfl <| PQ.ps [(77, yT)] rfl <| PQ.done (d := []) (by kernel_rfl) fun _ => RA.rb [(0, (.agg ⟨(cChk d)⟩)), (1, (Pt n 0 0)), (2, yF), (77, yT)] rfl (fun τr3 => ?_)
    refine RA.condT rfl <| RA.sR hd env_ok <| OA.ps [(2, yF)] rfl <| OA.nil fun _ => ?_
    refine RA.ret env_ok ?_
    exact lf yF (bf hb (fun q => by have q1 := q.1; have q2 := q.2.1.data; have q3 := q.2.1.dups; have q4 := q.2.2.1; have q6 := q.2.1.lists.2.2; have q5 := fl_le d.typ; omega))
   ·
    refine pP 16 yF rfl (Eq.trans (r_bin rfl rfl rfl (b_lss rfl)) (dF hc3)) <| PQ.ps [(17, yF), (18, yF), (19, (Pt n 0 1))] rfl <| pQl 20 (.int .i64 d.flags) get_here ?_
    by_cases hc4 : 255 < d.flags
    ·
     refine pP 21 yT rfl (Eq.trans (r_bin rfl rfl rfl (b_gtr rfl)) (dT hc4)) <| PQ.ps [(22, yT), (23, yT)] rfl <| PQ.offs 24 8 rfl <| PQ.ps [(32, yT), (33, yT)] rfl <| PQ.offs 34 2 rfl <| PQ.ps [(36, yT), (37, yT)] rfl <| PQ.offs 38 4 rfl <| PQ.ps [(42, yT), (43, yT)] rfl <| PQ.offs 44 4 rfl <| PQ.ps [(48, yT), (49, yT)] rfl <| PQ.offs 50 4 rfl ?_
     refine PQ.ps [(54, yT), (55, yT)] rfl <| PQ.offs 56 4 rfl <| PQ.ps [(60, yT), (61, yT)] rfl <| PQ.offs 62 4 rfl <| PQ.ps [(66, yT), (67, yT)] rfl <| PQ.offs 68 9 rfl <| PQ.ps [(77, yT)] rfl <| PQ.done (d := []) (by kernel_rfl) fun _ => RA.rb [(0, (.agg ⟨(cChk d)⟩)), (1, (Pt n 0 0)), (2, yF), (77, yT)] rfl (fun τr4 => ?_)
     refine RA.condT rfl <| RA.sR hd env_ok <| OA.ps [(2, yF)] rfl <| OA.nil fun _ => ?_
     refine RA.ret env_ok ?_
     exact lf yF (bf hb (fun q => by have q1 := q.1; have q2 := q.2.1.data; have q3 := q.2.1.dups; have q4 := q.2.2.1; have q6 := q.2.1.lists.2.2; have q5 := fl_le d.typ; omega))
    ·
     refine pP 21 yF rfl (Eq.trans (r_bin rfl rfl rfl (b_gtr rfl)) (dF hc4)) <| PQ.ps [(22, yF), (23, yF), (24, (Pt n 0 1))] rfl <| pQl 25 (.int .i64 d.flags) get_here <| PQ.ps [(26, (Pt n 0 0))] rfl <| pQl 27 (.int .i64 d.typ) get_here <| pC 28 rfl rfl (rFlags d.typ) fun n5 hn5 => pP 29 (.int .i64 (((255 - fl d.typ) : Nat) : Int)) rfl (r_bin rfl rfl rfl (b_sub (by have := fl_le d.typ; rw [i64_of (by omega) (by omega)]; omega))) <| pP 30 (.int .i64 (((andN d.flags (255 - fl d.typ)) : Nat) : Int)) rfl (r_bin rfl rfl rfl (b_andN d.flags (255 - fl d.typ) (by omega))) ?_
     by_cases hc5 : (((andN d.flags (255 - fl d.typ)) : Nat) : Int) ≠ 0
     ·
      have hmk := and_iff d.typ (F := d.flags) (by omega) (by omega)
      refine pP 31 yT rfl (Eq.trans (r_bin rfl rfl rfl (b_neq rfl)) (dT hc5)) <| PQ.ps [(32, yT), (33, yT)] rfl <| PQ.offs 34 2 rfl <| PQ.ps [(36, yT), (37, yT)] rfl <| PQ.offs 38 4 rfl <| PQ.ps [(42, yT), (43, yT)] rfl <| PQ.offs 44 4 rfl <| PQ.ps [(48, yT), (49, yT)] rfl <| PQ.offs 50 4 rfl <| PQ.ps [(54, yT), (55, yT)] rfl <| PQ.offs 56 4 rfl ?_
      refine PQ.ps [(60, yT), (61, yT)] rfl <| PQ.offs 62 4 rfl <| PQ.ps [(66, yT), (67, yT)] rfl <| PQ.offs 68 9 rfl <| PQ.ps [(77, yT)] rfl <| PQ.done (d := []) (by kernel_rfl) fun _ => RA.rb [(0, (.agg ⟨(cChk d)⟩)), (1, (Pt n 0 0)), (2, yF), (77, yT)] rfl (fun τr6 => ?_)
      refine RA.condT rfl <| RA.sR hd env_ok <| OA.ps [(2, yF)] rfl <| OA.nil fun _ => ?_
      refine RA.ret env_ok ?_
      exact lf yF (bf hb (fun q => by have q1 := q.1; have q2 := q.2.1.data; have q3 := q.2.1.dups; have q4 := q.2.2.1; have q6 := q.2.1.lists.2.2; have q5 := fl_le d.typ; omega))
     ·
      have hmk := and_iff d.typ (F := d.flags) (by omega) (by omega)
      refine pP 31 yF rfl (Eq.trans (r_bin rfl rfl rfl (b_neq rfl)) (dF hc5)) <| PQ.ps [(32, yF), (33, yF)] rfl <| pQL 34 (.agg ⟨(xCr61 d)⟩) (V := []) rfl (by kernel_rfl) (by kernel_rfl) get_here (r_loadA rfl rfl rfl rfl get_here rfl rfl rfl) ?_
      by_cases hc6 : hasntP d
      ·
       have hhsK := hc6
       refine pA 35 (V := []) (hd.of (by omega) (kb1 (by omega))) rfl rfl (by kernel_rfl) (by kernel_rfl) (rHas d false (bF (not_not_intro hc6)) (h.mono (sub_a1 hd))) fun n7 hn7 => PQ.ps [(36, yF), (37, yF), (38, (Pt n 0 11))] rfl <| pQl 39 d.pv get_here <| pP 40 (.int .i64 ((d.ps.length : Nat) : Int)) rfl (r_lenQ (c := cPrm) rfl rfl rfl rfl rfl rfl h.hp rfl) ?_
       by_cases hc7 : 16 < ((d.ps.length : Nat) : Int)
       ·
        refine pP 41 yT rfl (Eq.trans (r_bin rfl rfl rfl (b_gtr rfl)) (dT hc7)) <| PQ.ps [(42, yT), (43, yT)] rfl <| PQ.offs 44 4 rfl <| PQ.ps [(48, yT), (49, yT)] rfl <| PQ.offs 50 4 rfl <| PQ.ps [(54, yT), (55, yT)] rfl <| PQ.offs 56 4 rfl <| PQ.ps [(60, yT), (61, yT)] rfl <| PQ.offs 62 4 rfl <| PQ.ps [(66, yT), (67, yT)] rfl <| PQ.offs 68 9 rfl ?_
        refine PQ.ps [(77, yT)] rfl <| PQ.done (d := []) (by kernel_rfl) fun _ => RA.rb [(0, (.agg ⟨(cChk d)⟩)), (1, (Pt n 0 0)), (2, yF), (77, yT)] rfl (fun τr8 => ?_)
        refine RA.condT rfl <| RA.sR hd env_ok <| OA.ps [(2, yF)] rfl <| OA.nil fun _ => ?_
        refine RA.ret env_ok ?_
        exact lf yF (bf hb (fun q => by have q1 := q.1; have q2 := q.2.1.data; have q3 := q.2.1.dups; have q4 := q.2.2.1; have q6 := q.2.1.lists.2.2; have q5 := fl_le d.typ; omega))
       ·
        refine pP 41 yF rfl (Eq.trans (r_bin rfl rfl rfl (b_gtr rfl)) (dF hc7)) <| PQ.ps [(42, yF), (43, yF), (44, (Pt n 0 12))] rfl <| pQl 45 d.cv get_here <| pP 46 (.int .i64 ((d.cs.length : Nat) : Int)) rfl (r_lenQ (c := cCau) rfl rfl rfl rfl rfl rfl h.hc rfl) ?_
        by_cases hc8 : 16 < ((d.cs.length : Nat) : Int)
        ·
         refine pP 47 yT rfl (Eq.trans (r_bin rfl rfl rfl (b_gtr rfl)) (dT hc8)) <| PQ.ps [(48, yT), (49, yT)] rfl <| PQ.offs 50 4 rfl <| PQ.ps [(54, yT), (55, yT)] rfl <| PQ.offs 56 4 rfl <| PQ.ps [(60, yT), (61, yT)] rfl <| PQ.offs 62 4 rfl <| PQ.ps [(66, yT), (67, yT)] rfl <| PQ.offs 68 9 rfl <| PQ.ps [(77, yT)] rfl <| PQ.done (d := []) (by kernel_rfl) fun _ => ?_
         refine RA.rb [(0, (.agg ⟨(cChk d)⟩)), (1, (Pt n 0 0)), (2, yF), (77, yT)] rfl (fun τr9 => ?_)
         refine RA.condT rfl <| RA.sR hd env_ok <| OA.ps [(2, yF)] rfl <| OA.nil fun _ => ?_
         refine RA.ret env_ok ?_
         exact lf yF (bf hb (fun q => by have q1 := q.1; have q2 := q.2.1.data; have q3 := q.2.1.dups; have q4 := q.2.2.1; have q6 := q.2.1.lists.2.2; have q5 := fl_le d.typ; omega))
        ·
         refine pP 47 yF rfl (Eq.trans (r_bin rfl rfl rfl (b_gtr rfl)) (dF hc8)) <| PQ.ps [(48, yF), (49, yF), (50, (Pt n 0 14))] rfl <| pQl 51 d.dv get_here <| pP 52 (.int .i64 ((d.ds.length : Nat) : Int)) rfl (r_lenQ (c := cDp) rfl rfl rfl rfl rfl rfl h.hu rfl) ?_
         by_cases hc9 : 16 < ((d.ds.length : Nat) : Int)
         ·
          refine pP 53 yT rfl (Eq.trans (r_bin rfl rfl rfl (b_gtr rfl)) (dT hc9)) <| PQ.ps [(54, yT), (55, yT)] rfl <| PQ.offs 56 4 rfl <| PQ.ps [(60, yT), (61, yT)] rfl <| PQ.offs 62 4 rfl <| PQ.ps [(66, yT), (67, yT)] rfl <| PQ.offs 68 9 rfl <| PQ.ps [(77, yT)] rfl <| PQ.done (d := []) (by kernel_rfl) fun _ => RA.rb [(0, (.agg ⟨(cChk d)⟩)), (1, (Pt n 0 0)), (2, yF), (77, yT)] rfl (fun τr10 => ?_)
          refine RA.condT rfl <| RA.sR hd env_ok <| OA.ps [(2, yF)] rfl <| OA.nil fun _ => ?_
          refine RA.ret env_ok ?_
          exact lf yF (bf hb (fun q => by have q1 := q.1; have q2 := q.2.1.data; have q3 := q.2.1.dups; have q4 := q.2.2.1; have q6 := q.2.1.lists.2.2; have q5 := fl_le d.typ; omega))
         ·
          refine pP 53 yF rfl (Eq.trans (r_bin rfl rfl rfl (b_gtr rfl)) (dF hc9)) <| PQ.ps [(54, yF), (55, yF), (56, (Pt n 0 6))] rfl <| pQl 57 (.string d.data) get_here <| PQ.ps [(58, (.int .i64 ((d.data.size : Nat) : Int)))] rfl ?_
          by_cases hc10 : 900 < ((d.data.size : Nat) : Int)
          ·
           refine pP 59 yT rfl (Eq.trans (r_bin rfl rfl rfl (b_gtr rfl)) (dT hc10)) <| PQ.ps [(60, yT), (61, yT)] rfl <| PQ.offs 62 4 rfl <| PQ.ps [(66, yT), (67, yT)] rfl <| PQ.offs 68 9 rfl <| PQ.ps [(77, yT)] rfl <| PQ.done (d := []) (by kernel_rfl) fun _ => RA.rb [(0, (.agg ⟨(cChk d)⟩)), (1, (Pt n 0 0)), (2, yF), (77, yT)] rfl (fun τr11 => ?_)
           refine RA.condT rfl <| RA.sR hd env_ok <| OA.ps [(2, yF)] rfl <| OA.nil fun _ => ?_
           refine RA.ret env_ok ?_
           exact lf yF (bf hb (fun q => by have q1 := q.1; have q2 := q.2.1.data; have q3 := q.2.1.dups; have q4 := q.2.2.1; have q6 := q.2.1.lists.2.2; have q5 := fl_le d.typ; omega))
          ·
           refine pP 59 yF rfl (Eq.trans (r_bin rfl rfl rfl (b_gtr rfl)) (dF hc10)) <| PQ.ps [(60, yF), (61, yF), (62, (Pt n 0 13))] rfl <| pQl 63 d.gv get_here ?_
           by_cases hc11 : gapsP d.gs
           ·
            have hgpK := hc11
            refine pA 64 (V := []) (hd.of (by omega) (kb1 (by omega))) rfl rfl (by kernel_rfl) (by kernel_rfl) (rGaps d true (bT hc11) (h.mono (sub_a1 hd))) fun n12 hn12 => PQ.ps [(65, yF), (66, yF), (67, yF), (68, (Pt n 0 0))] rfl <| pQl 69 (.int .i64 d.typ) get_here <| pC 70 rfl rfl (rKind d.typ) fun n13 hn13 => ?_
            by_cases hc12 : (((kd d.typ) : Nat) : Int) = 1
            ·
             refine pP 71 yT rfl (Eq.trans (r_bin rfl rfl rfl (b_eql rfl)) (dT hc12)) <| PQ.ps [(72, yT), (73, (Pt n 0 7))] rfl <| pQl 74 (W d.tag) get_here ?_
             by_cases hc13 : (d.tag.toNat : Int) = 0
             ·
              refine pP 75 yT rfl (Eq.trans (r_bin rfl rfl rfl (b_eql rfl)) (dT hc13)) <| PQ.ps [(76, yT), (77, yT)] rfl <| PQ.done (d := []) (by kernel_rfl) fun _ => RA.rb [(0, (.agg ⟨(cChk d)⟩)), (1, (Pt n 0 0)), (2, yF), (77, yT)] rfl (fun τr14 => ?_)
              refine RA.condT rfl <| RA.sR hd env_ok <| OA.ps [(2, yF)] rfl <| OA.nil fun _ => ?_
              refine RA.ret env_ok ?_
              exact lf yF (bf hb (fun q => by have q1 := q.1; have q2 := q.2.1.data; have q3 := q.2.1.dups; have q4 := q.2.2.1; have q6 := q.2.1.lists.2.2; have q5 := fl_le d.typ; omega))
             ·
              refine pP 75 yF rfl (Eq.trans (r_bin rfl rfl rfl (b_eql rfl)) (dF hc13)) <| PQ.ps [(76, yF), (77, yF)] rfl <| PQ.done (d := []) (by kernel_rfl) fun _ => RA.rb [(0, (.agg ⟨(cChk d)⟩)), (1, (Pt n 0 0)), (2, yF), (77, yF)] rfl (fun τr15 => ?_)
              refine RA.condF rfl <| RA.skip env_ok ?_
              intro _
              refine RA.seq hd <| RA.par (md := [some [], some [n], none, some [], some [n], none, none, some []]) env_ok (hd.of (by omega) (kb1 (by omega))) (by kernel_rfl) <| PQ.ps [(78, (Pt n 0 11))] rfl <| pQl 79 d.pv get_here ?_
              refine PQ.call (dst := (some 80)) (all := [d.pv]) rfl rfl rfl rfl rfl rfl rfl rfl _ (sA (V := []) (by kernel_rfl) (by kernel_rfl)) (CQ.imp (CQ.keys (rParams (hd.of (by omega) (kb1 (by omega))) d.ps d.pv hp18 (h.mono (sub_a1 hd)).hp)) ?_)
              rintro _ n16 _ ⟨hkn16, ⟨kpn16, q1n16, q2n16, rfl, rfl⟩⟩
              have hn16 := hkn16.1
              refine ⟨hn16, (kp1 (by first | exact wr_new (by omega) (by omega) | exact wr_old [3, 4] (by kernel_rfl) (by omega) (by omega) (fac (lo0 rfl) (fac (lo1 rfl (by omega)) fan)))), ?_⟩
              refine PQ.ps [(81, (Pt n 0 12))] rfl <| pQl 82 d.cv get_here ?_
              refine PQ.call (dst := (some 83)) (all := [d.cv]) rfl rfl rfl rfl rfl rfl rfl rfl _ (sA (V := [(kpn16, some (oPrp (d.ps.map toP)))]) (by kernel_rfl) (by kernel_rfl)) (CQ.imp (CQ.keys (rCauses (hd.of (by omega) (kb2 (by omega))) d.cs d.cv hc18 (h.mono (sub_app (n' := n16) hd (kc2 (by omega)))).hc)) ?_)
              rintro _ n17 _ ⟨hkn17, ⟨kcn17, q3n17, q4n17, rfl, rfl⟩⟩
              have hn17 := hkn17.1
              refine ⟨hn17, (kp1 (by first | exact wr_new (by omega) (by omega) | exact wr_tight (by kernel_rfl) (by omega))), ?_⟩
              by_cases hc14 : d.cs.length = 0
              ·
               refine PQ.pure (dst := (some 84)) (v := (.slice (some ⟨kpn16, 0, none⟩) d.ps.length 0)) rfl rfl rfl _ (sA (V := [(kcn17, some (oPrp (d.cs.map toC))), (kpn16, some (oPrp (d.ps.map toP)))]) (by kernel_rfl) (by kernel_rfl)) (r_appendZ rfl rfl rfl rfl (.inl ⟨_, _, _, rfl, by decide⟩) rfl rfl rfl rfl rfl (by decide) (by omega)) <| PQ.ps [(3, (.slice (some ⟨kpn16, 0, none⟩) d.ps.length 0))] rfl <| PQ.done (d := [(kcn17, some (oPrp (d.cs.map toC))), (kpn16, some (oPrp (d.ps.map toP)))]) (by kernel_rfl) fun _ => RA.seq hd <| RA.sR hd env_ok <| OA.ps [(4, (.int .i64 0))] rfl <| OA.nil fun _ => RA.block ?_
               have hqq : prpsOk (d.ps.map toP) ↔ (prmsOk d.ps ∧ causOk d.cs) := okPC0 (by omega)
               have hql : (d.ps.map toP).length = d.ps.length := by simp only [List.length_append, List.length_map]
               refine RA.weaken hd (LsO (fA get_here (gt2 (by omega) get_here) (fA (get_there (by omega) get_here) (get_there (by omega) get_here) fan))) ?_
               refine RA.loop hd (fun kk_ τ n' D => (∃ i : Nat, kk_ = (d.ps.length - i) ∧ n17 ≤ n' ∧ Has τ [(1, (Pt n 0 0)), (3, (.slice (some ⟨kpn16, 0, none⟩) d.ps.length 0)), (4, (.int .i64 ((i : Nat) : Int)))] ∧ D = [(n, some ⟨[(xCr61 d)], 15, 54, true⟩), (kpn16, some (oPrp (d.ps.map toP)))] ∧ (∀ i ∈ keys D, i < n') ∧ i ≤ d.ps.length ∧ (∀ p ∈ (d.ps.map toP).take i, prmOk p.typ p.val))) ((d.ps.length - 0)) (⟨0, rfl, by omega, ⟨rfl, rfl, rfl, trivial⟩, rfl, (kb2 (by omega)), ⟨by omega, fun p hp => by simp at hp⟩⟩) ?_
               rintro kn18 τ18 n18 _ ⟨i, rfl, hn18, hHn18, rfl, hKn18, hIn18⟩
               rw [Has.eq hHn18]
               have hKn18_0 := kk0 hKn18
               have hKn18_1 := kk1 hKn18
               clear hKn18
               obtain ⟨hil, hall⟩ := hIn18
               refine RA.seq hd <| RA.sR hd env_ok <| OA.ps [(85, (.int .i64 ((i : Nat) : Int))), (86, (.slice (some ⟨kpn16, 0, none⟩) d.ps.length 0)), (87, (.int .i64 ((d.ps.length : Nat) : Int)))] rfl ?_
               by_cases hc15 : ((i : Nat) : Int) < ((d.ps.length : Nat) : Int)
               ·
                refine oP 88 yT rfl (Eq.trans (r_bin rfl rfl rfl (b_lss rfl)) (dT hc15)) <| OA.nil fun _ => RA.condT rfl <| RA.skip env_ok ?_
                intro _
                refine RA.seq hd <| RA.block <| RA.sR hd env_ok <| OA.ps [(91, (.slice (some ⟨kpn16, 0, none⟩) d.ps.length 0)), (92, (.int .i64 ((i : Nat) : Int)))] rfl <| oP 93 (Pt kpn16 i 0) rfl (r_iaS (l := i) rfl rfl rfl rfl rfl rfl (by omega) (by omega) (get_there (by omega) get_here) rfl (by omega)) <| oP 94 (.agg ⟨(cPrp ((d.ps.map toP).getD i dPrp))⟩) rfl (r_loadR (c := cPrp) dPrp rfl rfl rfl rfl (get_there (by omega) get_here) (by have := (show (d.ps.map toP).length = d.ps.length from List.length_map _); omega) rfl) ?_
                by_cases hc16 : prmOk (((d.ps.map toP).getD i dPrp).typ) ((d.ps.map toP).getD i dPrp).val
                ·
                 refine oC 95 (hd.of (by omega) (kb2 (by omega))) rfl rfl (r4May (((d.ps.map toP).getD i dPrp).typ) ((d.ps.map toP).getD i dPrp).val true (bT hc16)) fun n19 hn19 => OA.ps [(96, yF)] rfl <| OA.nil fun _ => RA.condF rfl <| RA.skip env_ok ?_
                 intro _
                 refine RA.region env_ok <| OA.ps [(89, (.int .i64 ((i : Nat) : Int)))] rfl <| oP 90 (.int .i64 (((i + 1) : Nat) : Int)) rfl (r_bin rfl rfl rfl (b_add (i64_eq (by omega)))) <| OA.ps [(4, (.int .i64 (((i + 1) : Nat) : Int)))] rfl <| OA.nil ?_
                 refine ⟨(d.ps.length - (i + 1)), by omega, [(n, some ⟨[(xCr61 d)], 15, 54, true⟩), (kpn16, some (oPrp (d.ps.map toP)))], (Less.refl _ _ _), ⟨(i + 1), rfl, by omega, ⟨rfl, rfl, rfl, trivial⟩, rfl, (kb2 (by omega)), ⟨by omega, take_all (d0 := dPrp) (by omega) hall (by assumption)⟩⟩⟩
                ·
                 have hnl : ¬ (prmsOk d.ps ∧ causOk d.cs) := fun q => hc16 (hqq.2 q _ (getD_mem (by omega)))
                 refine oC 95 (hd.of (by omega) (kb2 (by omega))) rfl rfl (r4May (((d.ps.map toP).getD i dPrp).typ) ((d.ps.map toP).getD i dPrp).val false (bF hc16)) fun n20 hn20 => OA.ps [(96, yT)] rfl <| OA.nil fun _ => RA.condT rfl <| RA.sR hd env_ok <| OA.ps [(2, yF)] rfl <| OA.nil fun _ => ?_
                 refine RA.ret env_ok ?_
                 exact lf yF (bf hb (fun q => hnl ⟨q.2.1.lists.1, q.2.1.lists.2.1⟩))
               ·
                have hlok := hqq.1 (by rw [take_full (by omega)] at hall; exact hall)
                refine oP 88 yF rfl (Eq.trans (r_bin rfl rfl rfl (b_lss rfl)) (dF hc15)) <| OA.nil fun _ => RA.condF rfl ?_
                refine RA.exit env_ok ?_
                intro _
                refine RA.sR hd env_ok <| OA.ps [(97, (Pt n 0 3))] rfl <| oL 98 (.int .i64 d.stream) get_here ?_
                by_cases hc17 : wordP (d.stream)
                ·
                 refine oC 99 (hd.of (by omega) (kb2 (by omega))) rfl rfl (rWord (d.stream) true (bT hc17)) fun n21 hn21 => OA.ps [(100, yT), (101, (Pt n 0 4))] rfl <| oL 102 (.int .i64 d.ssn) get_here ?_
                 by_cases hc18 : wordP (d.ssn)
                 ·
                  refine oC 103 (hd.of (by omega) (kb2 (by omega))) rfl rfl (rWord (d.ssn) true (bT hc18)) fun n22 hn22 => OA.ps [(104, yT), (105, yT), (106, (Pt n 0 9))] rfl <| oL 107 (.int .i64 d.outs) get_here ?_
                  by_cases hc19 : wordP (d.outs)
                  ·
                   refine oC 108 (hd.of (by omega) (kb2 (by omega))) rfl rfl (rWord (d.outs) true (bT hc19)) fun n23 hn23 => OA.ps [(109, yT), (110, yT), (111, (Pt n 0 10))] rfl <| oL 112 (.int .i64 d.ins) get_here ?_
                   by_cases hc20 : wordP (d.ins)
                   ·
                    refine oC 113 (hd.of (by omega) (kb2 (by omega))) rfl rfl (rWord (d.ins) true (bT hc20)) fun n24 hn24 => OA.ps [(114, yT), (2, yT)] rfl <| OA.nil fun _ => ?_
                    refine RA.ret env_ok ?_
                    exact lf yT (bt hb (⟨⟨by omega, by omega, by omega, by omega⟩, ⟨⟨hlok.1, hlok.2, by omega, by omega⟩, hc17, hc18, hc19, hc20, by omega, hgpK, by omega⟩, by omega, hhsK⟩))
                   ·
                    refine oC 113 (hd.of (by omega) (kb2 (by omega))) rfl rfl (rWord (d.ins) false (bF hc20)) fun n25 hn25 => OA.ps [(114, yF), (2, yF)] rfl <| OA.nil fun _ => ?_
                    refine RA.ret env_ok ?_
                    exact lf yF (bf hb (fun q => hc20 q.2.1.w4))
                  ·
                   refine oC 108 (hd.of (by omega) (kb2 (by omega))) rfl rfl (rWord (d.outs) false (bF hc19)) fun n26 hn26 => OA.ps [(109, yF), (110, yF)] rfl <| OA.offs 111 3 rfl <| OA.ps [(114, yF), (2, yF)] rfl <| OA.nil fun _ => ?_
                   refine RA.ret env_ok ?_
                   exact lf yF (bf hb (fun q => hc19 q.2.1.w3))
                 ·
                  refine oC 103 (hd.of (by omega) (kb2 (by omega))) rfl rfl (rWord (d.ssn) false (bF hc18)) fun n27 hn27 => OA.ps [(104, yF), (105, yF)] rfl <| OA.offs 106 3 rfl <| OA.ps [(109, yF), (110, yF)] rfl <| OA.offs 111 3 rfl <| OA.ps [(114, yF), (2, yF)] rfl <| OA.nil fun _ => ?_
                  refine RA.ret env_ok ?_
                  exact lf yF (bf hb (fun q => hc18 q.2.1.w2))
                ·
                 refine oC 99 (hd.of (by omega) (kb2 (by omega))) rfl rfl (rWord (d.stream) false (bF hc17)) fun n28 hn28 => OA.ps [(100, yF)] rfl <| OA.offs 101 3 rfl <| OA.ps [(104, yF), (105, yF)] rfl <| OA.offs 106 3 rfl <| OA.ps [(109, yF), (110, yF)] rfl <| OA.offs 111 3 rfl <| OA.ps [(114, yF), (2, yF)] rfl <| OA.nil fun _ => ?_
                 refine RA.ret env_ok ?_
                 exact lf yF (bf hb (fun q => hc17 q.2.1.w1))
              ·
               refine PQ.op (dst := (some 84)) (v := (.slice (some ⟨n17, 0, none⟩) (d.ps.length + d.cs.length) 0)) (n1 := (n17 + 1)) (d1 := [(n17, some (oPrp ((d.ps.map toP) ++ (d.cs.map toC)))), (kpn16, none)]) rfl rfl rfl _ (sA (V := [(kcn17, some (oPrp (d.cs.map toC))), (kpn16, some (oPrp (d.ps.map toP)))]) (by kernel_rfl) (by kernel_rfl)) (r_appendL (c := cPrp) (l' := ((d.ps.map toP) ++ (d.cs.map toC))) rfl rfl rfl rfl rfl rfl rfl rfl rfl rfl (by decide) (get_there (by omega) get_here) get_here (by rw [show (d.ps.map toP).length = d.ps.length from List.length_map _]) (by omega) (by have hlo := (show (d.cs.map toC).length = d.cs.length from List.length_map _); omega) (by rw [List.drop_zero, List.take_of_length_le (by rw [List.length_map]; exact Nat.le_refl _)]) (by omega) (of_decide_eq_true (by kernel_rfl)) (by omega)) (by omega) (kp2 (wr_new (by omega) (by omega)) (wr_tight (by kernel_rfl) (by omega))) <| PQ.ps [(3, (.slice (some ⟨n17, 0, none⟩) (d.ps.length + d.cs.length) 0))] rfl <| PQ.done (d := [(n17, some (oPrp ((d.ps.map toP) ++ (d.cs.map toC)))), (kpn16, none), (kcn17, some (oPrp (d.cs.map toC))), (kpn16, some (oPrp (d.ps.map toP)))]) (by kernel_rfl) fun _ => RA.seq hd <| RA.sR hd env_ok <| OA.ps [(4, (.int .i64 0))] rfl <| OA.nil fun _ => RA.block ?_
               have hqq : prpsOk ((d.ps.map toP) ++ (d.cs.map toC)) ↔ (prmsOk d.ps ∧ causOk d.cs) := okPC
               have hql : ((d.ps.map toP) ++ (d.cs.map toC)).length = (d.ps.length + d.cs.length) := by simp only [List.length_append, List.length_map]
               refine RA.weaken hd (LsO (fA get_here (gt4 (by omega) get_here) (fA (get_there (by omega) get_here) get_here fan))) ?_
               refine RA.loop hd (fun kk_ τ n' D => (∃ i : Nat, kk_ = ((d.ps.length + d.cs.length) - i) ∧ (n17 + 1) ≤ n' ∧ Has τ [(1, (Pt n 0 0)), (3, (.slice (some ⟨n17, 0, none⟩) (d.ps.length + d.cs.length) 0)), (4, (.int .i64 ((i : Nat) : Int)))] ∧ D = [(n, some ⟨[(xCr61 d)], 15, 54, true⟩), (n17, some (oPrp ((d.ps.map toP) ++ (d.cs.map toC))))] ∧ (∀ i ∈ keys D, i < n') ∧ i ≤ (d.ps.length + d.cs.length) ∧ (∀ p ∈ ((d.ps.map toP) ++ (d.cs.map toC)).take i, prmOk p.typ p.val))) (((d.ps.length + d.cs.length) - 0)) (⟨0, rfl, by omega, ⟨rfl, rfl, rfl, trivial⟩, rfl, (kb2 (by omega)), ⟨by omega, fun p hp => by simp at hp⟩⟩) ?_
               rintro kn29 τ29 n29 _ ⟨i, rfl, hn29, hHn29, rfl, hKn29, hIn29⟩
               rw [Has.eq hHn29]
               have hKn29_0 := kk0 hKn29
               have hKn29_1 := kk1 hKn29
               clear hKn29
               obtain ⟨hil, hall⟩ := hIn29
               refine RA.seq hd <| RA.sR hd env_ok <| OA.ps [(85, (.int .i64 ((i : Nat) : Int))), (86, (.slice (some ⟨n17, 0, none⟩) (d.ps.length + d.cs.length) 0)), (87, (.int .i64 (((d.ps.length + d.cs.length) : Nat) : Int)))] rfl ?_
               by_cases hc21 : ((i : Nat) : Int) < (((d.ps.length + d.cs.length) : Nat) : Int)
               ·
                refine oP 88 yT rfl (Eq.trans (r_bin rfl rfl rfl (b_lss rfl)) (dT hc21)) <| OA.nil fun _ => RA.condT rfl <| RA.skip env_ok ?_
                intro _
                refine RA.seq hd <| RA.block <| RA.sR hd env_ok <| OA.ps [(91, (.slice (some ⟨n17, 0, none⟩) (d.ps.length + d.cs.length) 0)), (92, (.int .i64 ((i : Nat) : Int)))] rfl <| oP 93 (Pt n17 i 0) rfl (r_iaS (l := i) rfl rfl rfl rfl rfl rfl (by omega) (by omega) (get_there (by omega) get_here) rfl (by omega)) <| oP 94 (.agg ⟨(cPrp (((d.ps.map toP) ++ (d.cs.map toC)).getD i dPrp))⟩) rfl (r_loadR (c := cPrp) dPrp rfl rfl rfl rfl (get_there (by omega) get_here) (by have := (show ((d.ps.map toP) ++ (d.cs.map toC)).length = (d.ps.length + d.cs.length) from by rw [List.length_append, List.length_map, List.length_map]); omega) rfl) ?_
                by_cases hc22 : prmOk ((((d.ps.map toP) ++ (d.cs.map toC)).getD i dPrp).typ) (((d.ps.map toP) ++ (d.cs.map toC)).getD i dPrp).val
                ·
                 refine oC 95 (hd.of (by omega) (kb2 (by omega))) rfl rfl (r4May ((((d.ps.map toP) ++ (d.cs.map toC)).getD i dPrp).typ) (((d.ps.map toP) ++ (d.cs.map toC)).getD i dPrp).val true (bT hc22)) fun n30 hn30 => OA.ps [(96, yF)] rfl <| OA.nil fun _ => RA.condF rfl <| RA.skip env_ok ?_
                 intro _
                 refine RA.region env_ok <| OA.ps [(89, (.int .i64 ((i : Nat) : Int)))] rfl <| oP 90 (.int .i64 (((i + 1) : Nat) : Int)) rfl (r_bin rfl rfl rfl (b_add (i64_eq (by omega)))) <| OA.ps [(4, (.int .i64 (((i + 1) : Nat) : Int)))] rfl <| OA.nil ?_
                 refine ⟨((d.ps.length + d.cs.length) - (i + 1)), by omega, [(n, some ⟨[(xCr61 d)], 15, 54, true⟩), (n17, some (oPrp ((d.ps.map toP) ++ (d.cs.map toC))))], (Less.refl _ _ _), ⟨(i + 1), rfl, by omega, ⟨rfl, rfl, rfl, trivial⟩, rfl, (kb2 (by omega)), ⟨by omega, take_all (d0 := dPrp) (by omega) hall (by assumption)⟩⟩⟩
                ·
                 have hnl : ¬ (prmsOk d.ps ∧ causOk d.cs) := fun q => hc22 (hqq.2 q _ (getD_mem (by omega)))
                 refine oC 95 (hd.of (by omega) (kb2 (by omega))) rfl rfl (r4May ((((d.ps.map toP) ++ (d.cs.map toC)).getD i dPrp).typ) (((d.ps.map toP) ++ (d.cs.map toC)).getD i dPrp).val false (bF hc22)) fun n31 hn31 => OA.ps [(96, yT)] rfl <| OA.nil fun _ => RA.condT rfl <| RA.sR hd env_ok <| OA.ps [(2, yF)] rfl <| OA.nil fun _ => ?_
                 refine RA.ret env_ok ?_
                 exact lf yF (bf hb (fun q => hnl ⟨q.2.1.lists.1, q.2.1.lists.2.1⟩))
               ·
                have hlok := hqq.1 (by rw [take_full (by omega)] at hall; exact hall)
                refine oP 88 yF rfl (Eq.trans (r_bin rfl rfl rfl (b_lss rfl)) (dF hc21)) <| OA.nil fun _ => RA.condF rfl ?_
                refine RA.exit env_ok ?_
                intro _
                refine RA.sR hd env_ok <| OA.ps [(97, (Pt n 0 3))] rfl <| oL 98 (.int .i64 d.stream) get_here ?_
                by_cases hc23 : wordP (d.stream)
                ·
                 refine oC 99 (hd.of (by omega) (kb2 (by omega))) rfl rfl (rWord (d.stream) true (bT hc23)) fun n32 hn32 => OA.ps [(100, yT), (101, (Pt n 0 4))] rfl <| oL 102 (.int .i64 d.ssn) get_here ?_
                 by_cases hc24 : wordP (d.ssn)
                 ·
                  refine oC 103 (hd.of (by omega) (kb2 (by omega))) rfl rfl (rWord (d.ssn) true (bT hc24)) fun n33 hn33 => OA.ps [(104, yT), (105, yT), (106, (Pt n 0 9))] rfl <| oL 107 (.int .i64 d.outs) get_here ?_
                  by_cases hc25 : wordP (d.outs)
                  ·
                   refine oC 108 (hd.of (by omega) (kb2 (by omega))) rfl rfl (rWord (d.outs) true (bT hc25)) fun n34 hn34 => OA.ps [(109, yT), (110, yT), (111, (Pt n 0 10))] rfl <| oL 112 (.int .i64 d.ins) get_here ?_
                   by_cases hc26 : wordP (d.ins)
                   ·
                    refine oC 113 (hd.of (by omega) (kb2 (by omega))) rfl rfl (rWord (d.ins) true (bT hc26)) fun n35 hn35 => OA.ps [(114, yT), (2, yT)] rfl <| OA.nil fun _ => ?_
                    refine RA.ret env_ok ?_
                    exact lf yT (bt hb (⟨⟨by omega, by omega, by omega, by omega⟩, ⟨⟨hlok.1, hlok.2, by omega, by omega⟩, hc23, hc24, hc25, hc26, by omega, hgpK, by omega⟩, by omega, hhsK⟩))
                   ·
                    refine oC 113 (hd.of (by omega) (kb2 (by omega))) rfl rfl (rWord (d.ins) false (bF hc26)) fun n36 hn36 => OA.ps [(114, yF), (2, yF)] rfl <| OA.nil fun _ => ?_
                    refine RA.ret env_ok ?_
                    exact lf yF (bf hb (fun q => hc26 q.2.1.w4))
                  ·
                   refine oC 108 (hd.of (by omega) (kb2 (by omega))) rfl rfl (rWord (d.outs) false (bF hc25)) fun n37 hn37 => OA.ps [(109, yF), (110, yF)] rfl <| OA.offs 111 3 rfl <| OA.ps [(114, yF), (2, yF)] rfl <| OA.nil fun _ => ?_
                   refine RA.ret env_ok ?_
                   exact lf yF (bf hb (fun q => hc25 q.2.1.w3))
                 ·
                  refine oC 103 (hd.of (by omega) (kb2 (by omega))) rfl rfl (rWord (d.ssn) false (bF hc24)) fun n38 hn38 => OA.ps [(104, yF), (105, yF)] rfl <| OA.offs 106 3 rfl <| OA.ps [(109, yF), (110, yF)] rfl <| OA.offs 111 3 rfl <| OA.ps [(114, yF), (2, yF)] rfl <| OA.nil fun _ => ?_
                  refine RA.ret env_ok ?_
                  exact lf yF (bf hb (fun q => hc24 q.2.1.w2))
                ·
                 refine oC 99 (hd.of (by omega) (kb2 (by omega))) rfl rfl (rWord (d.stream) false (bF hc23)) fun n39 hn39 => OA.ps [(100, yF)] rfl <| OA.offs 101 3 rfl <| OA.ps [(104, yF), (105, yF)] rfl <| OA.offs 106 3 rfl <| OA.ps [(109, yF), (110, yF)] rfl <| OA.offs 111 3 rfl <| OA.ps [(114, yF), (2, yF)] rfl <| OA.nil fun _ => ?_
                 refine RA.ret env_ok ?_
                 exact lf yF (bf hb (fun q => hc23 q.2.1.w1))
            ·
             refine pP 71 yF rfl (Eq.trans (r_bin rfl rfl rfl (b_eql rfl)) (dF hc12)) <| PQ.ps [(72, yF)] rfl <| PQ.offs 73 3 rfl <| PQ.ps [(76, yF), (77, yF)] rfl <| PQ.done (d := []) (by kernel_rfl) fun _ => RA.rb [(0, (.agg ⟨(cChk d)⟩)), (1, (Pt n 0 0)), (2, yF), (77, yF)] rfl (fun τr40 => ?_)
             refine RA.condF rfl <| RA.skip env_ok ?_
             intro _
             refine RA.seq hd <| RA.par (md := [some [], some [n], none, some [], some [n], none, none, some []]) env_ok (hd.of (by omega) (kb1 (by omega))) (by kernel_rfl) <| PQ.ps [(78, (Pt n 0 11))] rfl <| pQl 79 d.pv get_here ?_
             refine PQ.call (dst := (some 80)) (all := [d.pv]) rfl rfl rfl rfl rfl rfl rfl rfl _ (sA (V := []) (by kernel_rfl) (by kernel_rfl)) (CQ.imp (CQ.keys (rParams (hd.of (by omega) (kb1 (by omega))) d.ps d.pv hp18 (h.mono (sub_a1 hd)).hp)) ?_)
             rintro _ n41 _ ⟨hkn41, ⟨kpn41, q1n41, q2n41, rfl, rfl⟩⟩
             have hn41 := hkn41.1
             refine ⟨hn41, (kp1 (by first | exact wr_new (by omega) (by omega) | exact wr_old [3, 4] (by kernel_rfl) (by omega) (by omega) (fac (lo0 rfl) (fac (lo1 rfl (by omega)) fan)))), ?_⟩
             refine PQ.ps [(81, (Pt n 0 12))] rfl <| pQl 82 d.cv get_here ?_
             refine PQ.call (dst := (some 83)) (all := [d.cv]) rfl rfl rfl rfl rfl rfl rfl rfl _ (sA (V := [(kpn41, some (oPrp (d.ps.map toP)))]) (by kernel_rfl) (by kernel_rfl)) (CQ.imp (CQ.keys (rCauses (hd.of (by omega) (kb2 (by omega))) d.cs d.cv hc18 (h.mono (sub_app (n' := n41) hd (kc2 (by omega)))).hc)) ?_)
             rintro _ n42 _ ⟨hkn42, ⟨kcn42, q3n42, q4n42, rfl, rfl⟩⟩
             have hn42 := hkn42.1
             refine ⟨hn42, (kp1 (by first | exact wr_new (by omega) (by omega) | exact wr_tight (by kernel_rfl) (by omega))), ?_⟩
             by_cases hc27 : d.cs.length = 0
             ·
              refine PQ.pure (dst := (some 84)) (v := (.slice (some ⟨kpn41, 0, none⟩) d.ps.length 0)) rfl rfl rfl _ (sA (V := [(kcn42, some (oPrp (d.cs.map toC))), (kpn41, some (oPrp (d.ps.map toP)))]) (by kernel_rfl) (by kernel_rfl)) (r_appendZ rfl rfl rfl rfl (.inl ⟨_, _, _, rfl, by decide⟩) rfl rfl rfl rfl rfl (by decide) (by omega)) <| PQ.ps [(3, (.slice (some ⟨kpn41, 0, none⟩) d.ps.length 0))] rfl <| PQ.done (d := [(kcn42, some (oPrp (d.cs.map toC))), (kpn41, some (oPrp (d.ps.map toP)))]) (by kernel_rfl) fun _ => RA.seq hd <| RA.sR hd env_ok <| OA.ps [(4, (.int .i64 0))] rfl <| OA.nil fun _ => RA.block ?_
              have hqq : prpsOk (d.ps.map toP) ↔ (prmsOk d.ps ∧ causOk d.cs) := okPC0 (by omega)
              have hql : (d.ps.map toP).length = d.ps.length := by simp only [List.length_append, List.length_map]
              refine RA.weaken hd (LsO (fA get_here (gt2 (by omega) get_here) (fA (get_there (by omega) get_here) (get_there (by omega) get_here) fan))) ?_
              refine RA.loop hd (fun kk_ τ n' D => (∃ i : Nat, kk_ = (d.ps.length - i) ∧ n42 ≤ n' ∧ Has τ [(1, (Pt n 0 0)), (3, (.slice (some ⟨kpn41, 0, none⟩) d.ps.length 0)), (4, (.int .i64 ((i : Nat) : Int)))] ∧ D = [(n, some ⟨[(xCr61 d)], 15, 54, true⟩), (kpn41, some (oPrp (d.ps.map toP)))] ∧ (∀ i ∈ keys D, i < n') ∧ i ≤ d.ps.length ∧ (∀ p ∈ (d.ps.map toP).take i, prmOk p.typ p.val))) ((d.ps.length - 0)) (⟨0, rfl, by omega, ⟨rfl, rfl, rfl, trivial⟩, rfl, (kb2 (by omega)), ⟨by omega, fun p hp => by simp at hp⟩⟩) ?_
              rintro kn43 τ43 n43 _ ⟨i, rfl, hn43, hHn43, rfl, hKn43, hIn43⟩
              rw [Has.eq hHn43]
              have hKn43_0 := kk0 hKn43
              have hKn43_1 := kk1 hKn43
              clear hKn43
              obtain ⟨hil, hall⟩ := hIn43
              refine RA.seq hd <| RA.sR hd env_ok <| OA.ps [(85, (.int .i64 ((i : Nat) : Int))), (86, (.slice (some ⟨kpn41, 0, none⟩) d.ps.length 0)), (87, (.int .i64 ((d.ps.length : Nat) : Int)))] rfl ?_
              by_cases hc28 : ((i : Nat) : Int) < ((d.ps.length : Nat) : Int)
              ·
               refine oP 88 yT rfl (Eq.trans (r_bin rfl rfl rfl (b_lss rfl)) (dT hc28)) <| OA.nil fun _ => RA.condT rfl <| RA.skip env_ok ?_
               intro _
               refine RA.seq hd <| RA.block <| RA.sR hd env_ok <| OA.ps [(91, (.slice (some ⟨kpn41, 0, none⟩) d.ps.length 0)), (92, (.int .i64 ((i : Nat) : Int)))] rfl <| oP 93 (Pt kpn41 i 0) rfl (r_iaS (l := i) rfl rfl rfl rfl rfl rfl (by omega) (by omega) (get_there (by omega) get_here) rfl (by omega)) <| oP 94 (.agg ⟨(cPrp ((d.ps.map toP).getD i dPrp))⟩) rfl (r_loadR (c := cPrp) dPrp rfl rfl rfl rfl (get_there (by omega) get_here) (by have := (show (d.ps.map toP).length = d.ps.length from List.length_map _); omega) rfl) ?_
               by_cases hc29 : prmOk (((d.ps.map toP).getD i dPrp).typ) ((d.ps.map toP).getD i dPrp).val
               ·
                refine oC 95 (hd.of (by omega) (kb2 (by omega))) rfl rfl (r4May (((d.ps.map toP).getD i dPrp).typ) ((d.ps.map toP).getD i dPrp).val true (bT hc29)) fun n44 hn44 => OA.ps [(96, yF)] rfl <| OA.nil fun _ => RA.condF rfl <| RA.skip env_ok ?_
                intro _
                refine RA.region env_ok <| OA.ps [(89, (.int .i64 ((i : Nat) : Int)))] rfl <| oP 90 (.int .i64 (((i + 1) : Nat) : Int)) rfl (r_bin rfl rfl rfl (b_add (i64_eq (by omega)))) <| OA.ps [(4, (.int .i64 (((i + 1) : Nat) : Int)))] rfl <| OA.nil ?_
                refine ⟨(d.ps.length - (i + 1)), by omega, [(n, some ⟨[(xCr61 d)], 15, 54, true⟩), (kpn41, some (oPrp (d.ps.map toP)))], (Less.refl _ _ _), ⟨(i + 1), rfl, by omega, ⟨rfl, rfl, rfl, trivial⟩, rfl, (kb2 (by omega)), ⟨by omega, take_all (d0 := dPrp) (by omega) hall (by assumption)⟩⟩⟩
               ·
                have hnl : ¬ (prmsOk d.ps ∧ causOk d.cs) := fun q => hc29 (hqq.2 q _ (getD_mem (by omega)))
                refine oC 95 (hd.of (by omega) (kb2 (by omega))) rfl rfl (r4May (((d.ps.map toP).getD i dPrp).typ) ((d.ps.map toP).getD i dPrp).val false (bF hc29)) fun n45 hn45 => OA.ps [(96, yT)] rfl <| OA.nil fun _ => RA.condT rfl <| RA.sR hd env_ok <| OA.ps [(2, yF)] rfl <| OA.nil fun _ => ?_
                refine RA.ret env_ok ?_
                exact lf yF (bf hb (fun q => hnl ⟨q.2.1.lists.1, q.2.1.lists.2.1⟩))
              ·
               have hlok := hqq.1 (by rw [take_full (by omega)] at hall; exact hall)
               refine oP 88 yF rfl (Eq.trans (r_bin rfl rfl rfl (b_lss rfl)) (dF hc28)) <| OA.nil fun _ => RA.condF rfl ?_
               refine RA.exit env_ok ?_
               intro _
               refine RA.sR hd env_ok <| OA.ps [(97, (Pt n 0 3))] rfl <| oL 98 (.int .i64 d.stream) get_here ?_
               by_cases hc30 : wordP (d.stream)
               ·
                refine oC 99 (hd.of (by omega) (kb2 (by omega))) rfl rfl (rWord (d.stream) true (bT hc30)) fun n46 hn46 => OA.ps [(100, yT), (101, (Pt n 0 4))] rfl <| oL 102 (.int .i64 d.ssn) get_here ?_
                by_cases hc31 : wordP (d.ssn)
                ·
                 refine oC 103 (hd.of (by omega) (kb2 (by omega))) rfl rfl (rWord (d.ssn) true (bT hc31)) fun n47 hn47 => OA.ps [(104, yT), (105, yT), (106, (Pt n 0 9))] rfl <| oL 107 (.int .i64 d.outs) get_here ?_
                 by_cases hc32 : wordP (d.outs)
                 ·
                  refine oC 108 (hd.of (by omega) (kb2 (by omega))) rfl rfl (rWord (d.outs) true (bT hc32)) fun n48 hn48 => OA.ps [(109, yT), (110, yT), (111, (Pt n 0 10))] rfl <| oL 112 (.int .i64 d.ins) get_here ?_
                  by_cases hc33 : wordP (d.ins)
                  ·
                   refine oC 113 (hd.of (by omega) (kb2 (by omega))) rfl rfl (rWord (d.ins) true (bT hc33)) fun n49 hn49 => OA.ps [(114, yT), (2, yT)] rfl <| OA.nil fun _ => ?_
                   refine RA.ret env_ok ?_
                   exact lf yT (bt hb (⟨⟨by omega, by omega, by omega, by omega⟩, ⟨⟨hlok.1, hlok.2, by omega, by omega⟩, hc30, hc31, hc32, hc33, by omega, hgpK, by omega⟩, by omega, hhsK⟩))
                  ·
                   refine oC 113 (hd.of (by omega) (kb2 (by omega))) rfl rfl (rWord (d.ins) false (bF hc33)) fun n50 hn50 => OA.ps [(114, yF), (2, yF)] rfl <| OA.nil fun _ => ?_
                   refine RA.ret env_ok ?_
                   exact lf yF (bf hb (fun q => hc33 q.2.1.w4))
                 ·
                  refine oC 108 (hd.of (by omega) (kb2 (by omega))) rfl rfl (rWord (d.outs) false (bF hc32)) fun n51 hn51 => OA.ps [(109, yF), (110, yF)] rfl <| OA.offs 111 3 rfl <| OA.ps [(114, yF), (2, yF)] rfl <| OA.nil fun _ => ?_
                  refine RA.ret env_ok ?_
                  exact lf yF (bf hb (fun q => hc32 q.2.1.w3))
                ·
                 refine oC 103 (hd.of (by omega) (kb2 (by omega))) rfl rfl (rWord (d.ssn) false (bF hc31)) fun n52 hn52 => OA.ps [(104, yF), (105, yF)] rfl <| OA.offs 106 3 rfl <| OA.ps [(109, yF), (110, yF)] rfl <| OA.offs 111 3 rfl <| OA.ps [(114, yF), (2, yF)] rfl <| OA.nil fun _ => ?_
                 refine RA.ret env_ok ?_
                 exact lf yF (bf hb (fun q => hc31 q.2.1.w2))
               ·
                refine oC 99 (hd.of (by omega) (kb2 (by omega))) rfl rfl (rWord (d.stream) false (bF hc30)) fun n53 hn53 => OA.ps [(100, yF)] rfl <| OA.offs 101 3 rfl <| OA.ps [(104, yF), (105, yF)] rfl <| OA.offs 106 3 rfl <| OA.ps [(109, yF), (110, yF)] rfl <| OA.offs 111 3 rfl <| OA.ps [(114, yF), (2, yF)] rfl <| OA.nil fun _ => ?_
                refine RA.ret env_ok ?_
                exact lf yF (bf hb (fun q => hc30 q.2.1.w1))
             ·
              refine PQ.op (dst := (some 84)) (v := (.slice (some ⟨n42, 0, none⟩) (d.ps.length + d.cs.length) 0)) (n1 := (n42 + 1)) (d1 := [(n42, some (oPrp ((d.ps.map toP) ++ (d.cs.map toC)))), (kpn41, none)]) rfl rfl rfl _ (sA (V := [(kcn42, some (oPrp (d.cs.map toC))), (kpn41, some (oPrp (d.ps.map toP)))]) (by kernel_rfl) (by kernel_rfl)) (r_appendL (c := cPrp) (l' := ((d.ps.map toP) ++ (d.cs.map toC))) rfl rfl rfl rfl rfl rfl rfl rfl rfl rfl (by decide) (get_there (by omega) get_here) get_here (by rw [show (d.ps.map toP).length = d.ps.length from List.length_map _]) (by omega) (by have hlo := (show (d.cs.map toC).length = d.cs.length from List.length_map _); omega) (by rw [List.drop_zero, List.take_of_length_le (by rw [List.length_map]; exact Nat.le_refl _)]) (by omega) (of_decide_eq_true (by kernel_rfl)) (by omega)) (by omega) (kp2 (wr_new (by omega) (by omega)) (wr_tight (by kernel_rfl) (by omega))) <| PQ.ps [(3, (.slice (some ⟨n42, 0, none⟩) (d.ps.length + d.cs.length) 0))] rfl <| PQ.done (d := [(n42, some (oPrp ((d.ps.map toP) ++ (d.cs.map toC)))), (kpn41, none), (kcn42, some (oPrp (d.cs.map toC))), (kpn41, some (oPrp (d.ps.map toP)))]) (by kernel_rfl) fun _ => RA.seq hd <| RA.sR hd env_ok <| OA.ps [(4, (.int .i64 0))] rfl <| OA.nil fun _ => RA.block ?_
              have hqq : prpsOk ((d.ps.map toP) ++ (d.cs.map toC)) ↔ (prmsOk d.ps ∧ causOk d.cs) := okPC
              have hql : ((d.ps.map toP) ++ (d.cs.map toC)).length = (d.ps.length + d.cs.length) := by simp only [List.length_append, List.length_map]
              refine RA.weaken hd (LsO (fA get_here (gt4 (by omega) get_here) (fA (get_there (by omega) get_here) get_here fan))) ?_
              refine RA.loop hd (fun kk_ τ n' D => (∃ i : Nat, kk_ = ((d.ps.length + d.cs.length) - i) ∧ (n42 + 1) ≤ n' ∧ Has τ [(1, (Pt n 0 0)), (3, (.slice (some ⟨n42, 0, none⟩) (d.ps.length + d.cs.length) 0)), (4, (.int .i64 ((i : Nat) : Int)))] ∧ D = [(n, some ⟨[(xCr61 d)], 15, 54, true⟩), (n42, some (oPrp ((d.ps.map toP) ++ (d.cs.map toC))))] ∧ (∀ i ∈ keys D, i < n') ∧ i ≤ (d.ps.length + d.cs.length) ∧ (∀ p ∈ ((d.ps.map toP) ++ (d.cs.map toC)).take i, prmOk p.typ p.val))) (((d.ps.length + d.cs.length) - 0)) (⟨0, rfl, by omega, ⟨rfl, rfl, rfl, trivial⟩, rfl, (kb2 (by omega)), ⟨by omega, fun p hp => by simp at hp⟩⟩) ?_
              rintro kn54 τ54 n54 _ ⟨i, rfl, hn54, hHn54, rfl, hKn54, hIn54⟩
              rw [Has.eq hHn54]
              have hKn54_0 := kk0 hKn54
              have hKn54_1 := kk1 hKn54
              clear hKn54
              obtain ⟨hil, hall⟩ := hIn54
              refine RA.seq hd <| RA.sR hd env_ok <| OA.ps [(85, (.int .i64 ((i : Nat) : Int))), (86, (.slice (some ⟨n42, 0, none⟩) (d.ps.length + d.cs.length) 0)), (87, (.int .i64 (((d.ps.length + d.cs.length) : Nat) : Int)))] rfl ?_
              by_cases hc34 : ((i : Nat) : Int) < (((d.ps.length + d.cs.length) : Nat) : Int)
              ·
               refine oP 88 yT rfl (Eq.trans (r_bin rfl rfl rfl (b_lss rfl)) (dT hc34)) <| OA.nil fun _ => RA.condT rfl <| RA.skip env_ok ?_
               intro _
               refine RA.seq hd <| RA.block <| RA.sR hd env_ok <| OA.ps [(91, (.slice (some ⟨n42, 0, none⟩) (d.ps.length + d.cs.length) 0)), (92, (.int .i64 ((i : Nat) : Int)))] rfl <| oP 93 (Pt n42 i 0) rfl (r_iaS (l := i) rfl rfl rfl rfl rfl rfl (by omega) (by omega) (get_there (by omega) get_here) rfl (by omega)) <| oP 94 (.agg ⟨(cPrp (((d.ps.map toP) ++ (d.cs.map toC)).getD i dPrp))⟩) rfl (r_loadR (c := cPrp) dPrp rfl rfl rfl rfl (get_there (by omega) get_here) (by have := (show ((d.ps.map toP) ++ (d.cs.map toC)).length = (d.ps.length + d.cs.length) from by rw [List.length_append, List.length_map, List.length_map]); omega) rfl) ?_
               by_cases hc35 : prmOk ((((d.ps.map toP) ++ (d.cs.map toC)).getD i dPrp).typ) (((d.ps.map toP) ++ (d.cs.map toC)).getD i dPrp).val
               ·
                refine oC 95 (hd.of (by omega) (kb2 (by omega))) rfl rfl (r4May ((((d.ps.map toP) ++ (d.cs.map toC)).getD i dPrp).typ) (((d.ps.map toP) ++ (d.cs.map toC)).getD i dPrp).val true (bT hc35)) fun n55 hn55 => OA.ps [(96, yF)] rfl <| OA.nil fun _ => RA.condF rfl <| RA.skip env_ok ?_
                intro _
                refine RA.region env_ok <| OA.ps [(89, (.int .i64 ((i : Nat) : Int)))] rfl <| oP 90 (.int .i64 (((i + 1) : Nat) : Int)) rfl (r_bin rfl rfl rfl (b_add (i64_eq (by omega)))) <| OA.ps [(4, (.int .i64 (((i + 1) : Nat) : Int)))] rfl <| OA.nil ?_
                refine ⟨((d.ps.length + d.cs.length) - (i + 1)), by omega, [(n, some ⟨[(xCr61 d)], 15, 54, true⟩), (n42, some (oPrp ((d.ps.map toP) ++ (d.cs.map toC))))], (Less.refl _ _ _), ⟨(i + 1), rfl, by omega, ⟨rfl, rfl, rfl, trivial⟩, rfl, (kb2 (by omega)), ⟨by omega, take_all (d0 := dPrp) (by omega) hall (by assumption)⟩⟩⟩
               ·
                have hnl : ¬ (prmsOk d.ps ∧ causOk d.cs) := fun q => hc35 (hqq.2 q _ (getD_mem (by omega)))
                refine oC 95 (hd.of (by omega) (kb2 (by omega))) rfl rfl (r4May ((((d.ps.map toP) ++ (d.cs.map toC)).getD i dPrp).typ) (((d.ps.map toP) ++ (d.cs.map toC)).getD i dPrp).val false (bF hc35)) fun n56 hn56 => OA.ps [(96, yT)] rfl <| OA.nil fun _ => RA.condT rfl <| RA.sR hd env_ok <| OA.ps [(2, yF)] rfl <| OA.nil fun _ => ?_
                refine RA.ret env_ok ?_
                exact lf yF (bf hb (fun q => hnl ⟨q.2.1.lists.1, q.2.1.lists.2.1⟩))
              ·
               have hlok := hqq.1 (by rw [take_full (by omega)] at hall; exact hall)
               refine oP 88 yF rfl (Eq.trans (r_bin rfl rfl rfl (b_lss rfl)) (dF hc34)) <| OA.nil fun _ => RA.condF rfl ?_
               refine RA.exit env_ok ?_
               intro _
               refine RA.sR hd env_ok <| OA.ps [(97, (Pt n 0 3))] rfl <| oL 98 (.int .i64 d.stream) get_here ?_
               by_cases hc36 : wordP (d.stream)
               ·
                refine oC 99 (hd.of (by omega) (kb2 (by omega))) rfl rfl (rWord (d.stream) true (bT hc36)) fun n57 hn57 => OA.ps [(100, yT), (101, (Pt n 0 4))] rfl <| oL 102 (.int .i64 d.ssn) get_here ?_
                by_cases hc37 : wordP (d.ssn)
                ·
                 refine oC 103 (hd.of (by omega) (kb2 (by omega))) rfl rfl (rWord (d.ssn) true (bT hc37)) fun n58 hn58 => OA.ps [(104, yT), (105, yT), (106, (Pt n 0 9))] rfl <| oL 107 (.int .i64 d.outs) get_here ?_
                 by_cases hc38 : wordP (d.outs)
                 ·
                  refine oC 108 (hd.of (by omega) (kb2 (by omega))) rfl rfl (rWord (d.outs) true (bT hc38)) fun n59 hn59 => OA.ps [(109, yT), (110, yT), (111, (Pt n 0 10))] rfl <| oL 112 (.int .i64 d.ins) get_here ?_
                  by_cases hc39 : wordP (d.ins)
                  ·
                   refine oC 113 (hd.of (by omega) (kb2 (by omega))) rfl rfl (rWord (d.ins) true (bT hc39)) fun n60 hn60 => OA.ps [(114, yT), (2, yT)] rfl <| OA.nil fun _ => ?_
                   refine RA.ret env_ok ?_
                   exact lf yT (bt hb (⟨⟨by omega, by omega, by omega, by omega⟩, ⟨⟨hlok.1, hlok.2, by omega, by omega⟩, hc36, hc37, hc38, hc39, by omega, hgpK, by omega⟩, by omega, hhsK⟩))
                  ·
                   refine oC 113 (hd.of (by omega) (kb2 (by omega))) rfl rfl (rWord (d.ins) false (bF hc39)) fun n61 hn61 => OA.ps [(114, yF), (2, yF)] rfl <| OA.nil fun _ => ?_
                   refine RA.ret env_ok ?_
                   exact lf yF (bf hb (fun q => hc39 q.2.1.w4))
                 ·
                  refine oC 108 (hd.of (by omega) (kb2 (by omega))) rfl rfl (rWord (d.outs) false (bF hc38)) fun n62 hn62 => OA.ps [(109, yF), (110, yF)] rfl <| OA.offs 111 3 rfl <| OA.ps [(114, yF), (2, yF)] rfl <| OA.nil fun _ => ?_
                  refine RA.ret env_ok ?_
                  exact lf yF (bf hb (fun q => hc38 q.2.1.w3))
                ·
                 refine oC 103 (hd.of (by omega) (kb2 (by omega))) rfl rfl (rWord (d.ssn) false (bF hc37)) fun n63 hn63 => OA.ps [(104, yF), (105, yF)] rfl <| OA.offs 106 3 rfl <| OA.ps [(109, yF), (110, yF)] rfl <| OA.offs 111 3 rfl <| OA.ps [(114, yF), (2, yF)] rfl <| OA.nil fun _ => ?_
                 refine RA.ret env_ok ?_
                 exact lf yF (bf hb (fun q => hc37 q.2.1.w2))
               ·
                refine oC 99 (hd.of (by omega) (kb2 (by omega))) rfl rfl (rWord (d.stream) false (bF hc36)) fun n64 hn64 => OA.ps [(100, yF)] rfl <| OA.offs 101 3 rfl <| OA.ps [(104, yF), (105, yF)] rfl <| OA.offs 106 3 rfl <| OA.ps [(109, yF), (110, yF)] rfl <| OA.offs 111 3 rfl <| OA.ps [(114, yF), (2, yF)] rfl <| OA.nil fun _ => ?_
                refine RA.ret env_ok ?_
                exact lf yF (bf hb (fun q => hc36 q.2.1.w1))
           ·
            refine pA 64 (V := []) (hd.of (by omega) (kb1 (by omega))) rfl rfl (by kernel_rfl) (by kernel_rfl) (rGaps d false (bF hc11) (h.mono (sub_a1 hd))) fun n65 hn65 => PQ.ps [(65, yT), (66, yT), (67, yT)] rfl <| PQ.offs 68 9 rfl <| PQ.ps [(77, yT)] rfl <| PQ.done (d := []) (by kernel_rfl) fun _ => RA.rb [(0, (.agg ⟨(cChk d)⟩)), (1, (Pt n 0 0)), (2, yF), (77, yT)] rfl (fun τr66 => ?_)
            refine RA.condT rfl <| RA.sR hd env_ok <| OA.ps [(2, yF)] rfl <| OA.nil fun _ => ?_
            refine RA.ret env_ok ?_
            exact lf yF (bf hb (fun q => hc11 q.2.1.gaps))
      ·
       refine pA 35 (V := []) (hd.of (by omega) (kb1 (by omega))) rfl rfl (by kernel_rfl) (by kernel_rfl) (rHas d true (bT hc6) (h.mono (sub_a1 hd))) fun n67 hn67 => PQ.ps [(36, yT), (37, yT)] rfl <| PQ.offs 38 4 rfl <| PQ.ps [(42, yT), (43, yT)] rfl <| PQ.offs 44 4 rfl <| PQ.ps [(48, yT), (49, yT)] rfl <| PQ.offs 50 4 rfl <| PQ.ps [(54, yT), (55, yT)] rfl <| PQ.offs 56 4 rfl <| PQ.ps [(60, yT), (61, yT)] rfl <| PQ.offs 62 4 rfl ?_
       refine PQ.ps [(66, yT), (67, yT)] rfl <| PQ.offs 68 9 rfl <| PQ.ps [(77, yT)] rfl <| PQ.done (d := []) (by kernel_rfl) fun _ => RA.rb [(0, (.agg ⟨(cChk d)⟩)), (1, (Pt n 0 0)), (2, yF), (77, yT)] rfl (fun τr68 => ?_)
       refine RA.condT rfl <| RA.sR hd env_ok <| OA.ps [(2, yF)] rfl <| OA.nil fun _ => ?_
       refine RA.ret env_ok ?_
       exact lf yF (bf hb (fun q => hc6 q.2.2.2))
theorem rChPutT {σ : Store} (d : Chk) (hm : mayP d)  (h : gd σ d) : PS Try.prog noDen 52 [(.agg ⟨(cChk d)⟩)] σ (.string (bstr (chL d))) := by
 have hp18 := h.p18
 have hc18 := h.c18
 have hg18 := h.g18
 have hd18 := h.u18
 have hfl := h.fl
 have hm1 := hm.1
 have hfle := fl_le d.typ
 have hbl := bodyL_len hm.2.1
 refine PS.body (E := env) env_ok rfl rfl (by show _ ≤ _; exact of_decide_eq_true (by kernel_rfl)) (fun n hd => ?_)
 refine RA.sR hd env_ok <| o1 (some 1) (Pt n 0 0) (n + 1) (n, some ⟨[(cChk d)], 15, 54, true⟩) (r_box (cs := (cChk d)) rfl rfl rfl (Nat.le_of_ble_eq_true rfl) (by simp only [List.all_cons, List.all_nil, Bool.and_true, Bool.and_eq_true, cChk]; exact ⟨rfl, rfl, rfl, rfl, rfl, rfl, rfl, rfl, rfl, rfl, rfl, (h.hp).one, (h.hc).one, (h.hg).one, (h.hu).one⟩)) <| OA.ps [(2, (.string (ByteArray.mk #[])))] rfl <| OA.nil fun _ => RA.seq hd <| RA.sR hd env_ok <| oP 4 (.agg ⟨(xCr61 d)⟩) rfl (r_loadA rfl rfl rfl rfl get_here rfl rfl rfl) <| oC 5 (hd.of (by omega) (kb1 (by omega))) rfl rfl (rMay d true (bT hm) (h.mono (sub_a1 hd))) fun n1 hn1 => OA.ps [(6, yF)] rfl <| OA.nil fun _ => RA.condF rfl ?_
 refine RA.skip env_ok ?_
 intro _
 refine RA.sR hd env_ok <| oP 7 (.agg ⟨(xCr61 d)⟩) rfl (r_loadA rfl rfl rfl rfl get_here rfl rfl rfl) <| oC 8 (hd.of (by omega) (kb1 (by omega))) rfl rfl (rBody d hm.2.1 (h.mono (sub_a1 hd))) fun n2 hn2 => OA.ps [(3, (.string (bstr (bodyL d))))] rfl <| OA.nil fun _ => RA.seq hd <| RA.par (md := [some [], some [n], none, some [], some [n], none, some [], some [], some [], some [], none, some [], some [], some [], none, some []]) env_ok (hd.of (by omega) (kb1 (by omega))) (by kernel_rfl) <| PQ.ps [(9, (Pt n 0 0))] rfl <| pQl 10 (.int .i64 d.typ) get_here <| pA 11 (V := []) (hd.of (by omega) (kb1 (by omega))) rfl rfl (by kernel_rfl) (by kernel_rfl) (qNum1 (d.typ) (by omega) (by omega)) fun n3 hn3 => PQ.ps [(12, (Pt n 0 1))] rfl ?_
 refine pQl 13 (.int .i64 d.flags) get_here <| pA 14 (V := []) (hd.of (by omega) (kb1 (by omega))) rfl rfl (by kernel_rfl) (by kernel_rfl) (qNum1 (d.flags) (by omega) (by omega)) fun n4 hn4 => pP 15 (.string (bstr ((be1 (d.typ).toNat) ++ (be1 (d.flags).toNat)))) rfl (Eq.trans (r_cat rfl rfl rfl (by simp only [bstr_size, size_lit, List.length_append, be2_len, be4_len, be1_len, List.length_replicate, List.length_cons, List.length_nil, List.size_toArray, be1_len]; omega)) (by rw [bstr_app] <;> rfl)) <| PQ.ps [(16, (.string (bstr (bodyL d))))] rfl <| pP 17 (.int .i64 (((bodyL d).length : Nat) : Int)) rfl (Eq.trans (show _ = some (Value.int .i64 (((bstr (bodyL d)).size : Nat) : Int), _, []) from rfl) (by rw [bstr_size] <;> rfl)) <| pP 18 (.int .i64 ((((bodyL d).length + 4) : Nat) : Int)) rfl (r_bin rfl rfl rfl (b_add (i64_eq (by omega)))) <| pA 19 (V := []) (hd.of (by omega) (kb1 (by omega))) rfl rfl (by kernel_rfl) (by kernel_rfl) (qNum2n ((bodyL d).length + 4) (by omega)) fun n5 hn5 => pP 20 (.string (bstr (((be1 (d.typ).toNat) ++ (be1 (d.flags).toNat)) ++ (be2 ((bodyL d).length + 4))))) rfl (Eq.trans (r_cat rfl rfl rfl (by simp only [bstr_size, size_lit, List.length_append, be2_len, be4_len, be1_len, List.length_replicate, List.length_cons, List.length_nil, List.size_toArray, be1_len]; omega)) (by rw [bstr_app] <;> rfl)) <| PQ.ps [(21, (.string (bstr (bodyL d))))] rfl <| pP 22 (.string (bstr ((((be1 (d.typ).toNat) ++ (be1 (d.flags).toNat)) ++ (be2 ((bodyL d).length + 4))) ++ (bodyL d)))) rfl (Eq.trans (r_cat rfl rfl rfl (by simp only [bstr_size, size_lit, List.length_append, be2_len, be4_len, be1_len, List.length_replicate, List.length_cons, List.length_nil, List.size_toArray, be1_len]; omega)) (by rw [bstr_app] <;> rfl)) <| pA 23 (V := []) (hd.of (by omega) (kb1 (by omega))) rfl rfl (by kernel_rfl) (by kernel_rfl) (lRF (be1 d.typ.toNat ++ be1 d.flags.toNat ++ be2 ((bodyL d).length + 4) ++ bodyL d) (by simp only [List.length_append, be1_len, be2_len]; omega)) fun n6 hn6 => ?_
 refine PQ.ps [(2, (.string (bstr (chL d))))] rfl <| PQ.done (d := []) (by kernel_rfl) fun _ => ?_
 refine RA.ret env_ok ?_
 exact lf (.string (bstr (chL d))) rfl
theorem rChPutF {σ : Store} (d : Chk) (hm : ¬ mayP d)  (h : gd σ d) : PS Try.prog noDen 52 [(.agg ⟨(cChk d)⟩)] σ (.string (ByteArray.mk #[])) := by
 have hp18 := h.p18
 have hc18 := h.c18
 have hg18 := h.g18
 have hd18 := h.u18
 have hfl := h.fl
 refine PS.body (E := env) env_ok rfl rfl (by show _ ≤ _; exact of_decide_eq_true (by kernel_rfl)) (fun n hd => ?_)
 refine RA.sR hd env_ok <| o1 (some 1) (Pt n 0 0) (n + 1) (n, some ⟨[(cChk d)], 15, 54, true⟩) (r_box (cs := (cChk d)) rfl rfl rfl (Nat.le_of_ble_eq_true rfl) (by simp only [List.all_cons, List.all_nil, Bool.and_true, Bool.and_eq_true, cChk]; exact ⟨rfl, rfl, rfl, rfl, rfl, rfl, rfl, rfl, rfl, rfl, rfl, (h.hp).one, (h.hc).one, (h.hg).one, (h.hu).one⟩)) <| OA.ps [(2, (.string (ByteArray.mk #[])))] rfl <| OA.nil fun _ => RA.seq hd <| RA.sR hd env_ok <| oP 4 (.agg ⟨(xCr61 d)⟩) rfl (r_loadA rfl rfl rfl rfl get_here rfl rfl rfl) <| oC 5 (hd.of (by omega) (kb1 (by omega))) rfl rfl (rMay d false (bF hm) (h.mono (sub_a1 hd))) fun n1 hn1 => OA.ps [(6, yT)] rfl <| OA.nil fun _ => RA.condT rfl ?_
 refine RA.sR hd env_ok <| OA.ps [(2, (.string (ByteArray.mk #[])))] rfl <| OA.nil fun _ => ?_
 refine RA.ret env_ok ?_
 exact lf (.string (ByteArray.mk #[])) rfl
end Go.Proofs.Ytdnkhdkflemkeaa.Vt.Cp
/- Dg1: walks through functions of the program, by the calculus; written by a program of this workplace. -/
namespace Go.Proofs.Ytdnkhdkflemkeaa.Vt
open Go Go.Proofs Go.Proofs.YtdnkhdkflemkeaaV
set_option maxRecDepth 100000
set_option linter.unusedVariables false
set_option linter.unusedSimpArgs false
set_option maxHeartbeats 8000000
def rl (x : BitVec 32) (k : Nat) : BitVec 32 := x <<< k ||| x >>> (32 - k)
def fk (i : Nat) (b c d : BitVec 32) : BitVec 32 × BitVec 32 :=
  if i < 20 then (b &&& c ||| ~~~b &&& d, 1518500249#32) else if i < 40 then (b ^^^ c ^^^ d, 1859775393#32) else if i < 60 then (b &&& c ||| b &&& d ||| c &&& d, 2400959708#32) else (b ^^^ c ^^^ d, 3395469782#32)
theorem ch_eq (b c d : BitVec 32) : d ^^^ (b &&& (c ^^^ d)) = b &&& c ||| ~~~b &&& d := by
  ext i hi
  simp only [BitVec.getElem_xor, BitVec.getElem_and, BitVec.getElem_or, BitVec.getElem_not]
  cases b[i] <;> cases c[i] <;> cases d[i] <;> rfl
theorem maj_eq (b c d : BitVec 32) : b &&& c ||| (d &&& (b ||| c)) = b &&& c ||| b &&& d ||| c &&& d := by
  ext i hi
  simp only [BitVec.getElem_xor, BitVec.getElem_and, BitVec.getElem_or, BitVec.getElem_not]
  cases b[i] <;> cases c[i] <;> cases d[i] <;> rfl
theorem b_and31 {E : Env} {t k : Nat} (h : k < 32) : abin0 E .and t (.int .u64 ((k : Nat) : Int)) (.int .u64 31) = .ret (.int .u64 ((k : Nat) : Int)) [] := by
  have : ∀ k : Nat, k < 32 → Op.intBits .and .u64 ((k : Nat) : Int) 31 = .pure (.int .u64 ((k : Nat) : Int)) := fun k hk => by
    have : k = 0 ∨ k = 1 ∨ k = 2 ∨ k = 3 ∨ k = 4 ∨ k = 5 ∨ k = 6 ∨ k = 7 ∨ k = 8 ∨ k = 9 ∨ k = 10 ∨ k = 11 ∨ k = 12 ∨ k = 13 ∨ k = 14 ∨ k = 15 ∨ k = 16 ∨ k = 17 ∨ k = 18 ∨ k = 19 ∨ k = 20 ∨ k = 21 ∨ k = 22 ∨ k = 23 ∨ k = 24 ∨ k = 25 ∨ k = 26 ∨ k = 27 ∨ k = 28 ∨ k = 29 ∨ k = 30 ∨ k = 31 := by omega
    rcases this with rfl | rfl | rfl | rfl | rfl | rfl | rfl | rfl | rfl | rfl | rfl | rfl | rfl | rfl | rfl | rfl | rfl | rfl | rfl | rfl | rfl | rfl | rfl | rfl | rfl | rfl | rfl | rfl | rfl | rfl | rfl | rfl <;> rfl
  unfold abin0
  simp only [ne_eq, not_true_eq_false, if_false, this k h, ofSem]
theorem s59 {σ : Store} (x : BitVec 32) (k : Nat) (hk : k ≤ 32)   : PS Try.prog noDen 59 [(W x), (.int .u64 ((k : Nat) : Int))] σ (W (rl x k)) := by
 refine PS.body (E := env) env_ok rfl rfl (by show _ ≤ _; exact of_decide_eq_true (by kernel_rfl)) (fun n hd => ?_)
 refine RA.sR hd env_ok <| OA.ps [(4, (.int .u32 0))] rfl <| OA.nil fun _ => RA.sR hd env_ok <| OA.ps [(5, (W x)), (6, (.int .u64 ((k : Nat) : Int)))] rfl <| oP 7 (W (x <<< k)) rfl (r_bin rfl rfl rfl (b_shlW _ (s := k) (by omega))) <| OA.ps [(8, (W x)), (9, (.int .u64 ((k : Nat) : Int)))] rfl <| oP 10 (.int .u64 (((32 - k) : Nat) : Int)) rfl (r_bin rfl rfl rfl (b_sub (u64_eq (by omega)))) <| oP 11 (W (x >>> (32 - k))) rfl (r_bin rfl rfl rfl (b_shrW _ (s := (32 - k)) (by omega))) <| oP 12 (W ((x <<< k) ||| (x >>> (32 - k)))) rfl (r_bin rfl rfl rfl (b_orW (x <<< k) (x >>> (32 - k)))) <| OA.ps [(4, (W ((x <<< k) ||| (x >>> (32 - k)))))] rfl ?_
 refine OA.nil fun _ => ?_
 refine RA.ret env_ok ?_
 exact lf (W ((x <<< k) ||| (x >>> (32 - k)))) rfl
theorem s57 {σ : Store} (x : BitVec 32) (k : Nat) (hk : k < 32)   : PS Try.prog noDen 57 [(W x), (.int .i64 ((k : Nat) : Int))] σ (W (rl x k)) := by
 refine PS.body (E := env) env_ok rfl rfl (by show _ ≤ _; exact of_decide_eq_true (by kernel_rfl)) (fun n hd => ?_)
 refine RA.sR hd env_ok <| OA.ps [(4, (.int .u32 0))] rfl <| OA.nil fun _ => RA.sR hd env_ok <| OA.ps [(6, (.int .i64 ((k : Nat) : Int)))] rfl <| oP 7 (.int .u64 ((k : Nat) : Int)) rfl (r_cvt rfl rfl rfl rfl rfl ⟨_, rfl⟩ (u64_eq (by omega))) <| oP 8 (.int .u64 ((k : Nat) : Int)) rfl (r_bin rfl rfl rfl (b_and31 hk)) <| OA.ps [(5, (.int .u64 ((k : Nat) : Int)))] rfl <| OA.nil fun _ => RA.sR hd env_ok <| OA.ps [(9, (W x)), (10, (.int .u64 ((k : Nat) : Int)))] rfl ?_
 refine oP 11 (W (x <<< k)) rfl (r_bin rfl rfl rfl (b_shlW _ (s := k) (by omega))) <| OA.ps [(12, (W x)), (13, (.int .u64 ((k : Nat) : Int)))] rfl <| oP 14 (.int .u64 (((32 - k) : Nat) : Int)) rfl (r_bin rfl rfl rfl (b_sub (u64_eq (by omega)))) <| oP 15 (W (x >>> (32 - k))) rfl (r_bin rfl rfl rfl (b_shrW _ (s := (32 - k)) (by omega))) <| oP 16 (W ((x <<< k) ||| (x >>> (32 - k)))) rfl (r_bin rfl rfl rfl (b_orW (x <<< k) (x >>> (32 - k)))) <| OA.ps [(4, (W ((x <<< k) ||| (x >>> (32 - k)))))] rfl <| OA.nil fun _ => ?_
 refine RA.ret env_ok ?_
 exact lf (W ((x <<< k) ||| (x >>> (32 - k)))) rfl
theorem s56 {σ : Store} (i : Nat) (hi : i < 80) (b c d : BitVec 32)   : PS Try.prog noDen 56 [(.int .i64 ((i : Nat) : Int)), (W b), (W c), (W d)] σ (.tuple #[W (fk i b c d).1, W (fk i b c d).2]) := by
 refine PS.body (E := env) env_ok rfl rfl (by show _ ≤ _; exact of_decide_eq_true (by kernel_rfl)) (fun n hd => ?_)
 refine RA.sR hd env_ok <| OA.ps [(8, (.int .u32 0)), (9, (.int .u32 0))] rfl <| OA.nil fun _ => RA.seq hd <| RA.sR hd env_ok <| OA.ps [(10, (.int .i64 ((i : Nat) : Int)))] rfl <| oP 11 (.int .i64 (((i / 20) : Nat) : Int)) rfl (r_bin rfl rfl rfl (b_quoN (a := i) (c := 20) (by decide) (i64_eq (by omega)))) <| OA.nil fun _ => RA.block <| RA.sR hd env_ok ?_
 by_cases hc1 : (((i / 20) : Nat) : Int) = 0
 ·
  refine oP 13 yT rfl (Eq.trans (r_bin rfl rfl rfl (b_eql rfl)) (dT hc1)) <| OA.ps [(12, yT)] rfl <| OA.nil fun _ => RA.condT rfl <| RA.sR hd env_ok <| OA.ps [(14, (W b)), (15, (W c))] rfl <| oP 16 (W (b &&& c)) rfl (r_bin rfl rfl rfl (b_andW b c)) <| OA.ps [(17, (W b))] rfl <| oP 18 (W (~~~b)) rfl (r_notW rfl rfl) <| OA.ps [(19, (W d))] rfl <| oP 20 (W ((~~~b) &&& d)) rfl (r_bin rfl rfl rfl (b_andW (~~~b) d)) ?_
  refine oP 21 (W ((b &&& c) ||| ((~~~b) &&& d))) rfl (r_bin rfl rfl rfl (b_orW (b &&& c) ((~~~b) &&& d))) <| OA.ps [(8, (W ((b &&& c) ||| ((~~~b) &&& d)))), (9, (.int .u32 1518500249))] rfl <| OA.nil fun _ => ?_
  refine RA.ret env_ok ?_
  refine ⟨.inr rfl, [(W ((b &&& c) ||| ((~~~b) &&& d))), (.int .u32 1518500249)], (resL_cons rfl (resL_cons rfl resL_nil)), (by simp only [one, fk]; (repeat' split) <;> first | rfl | (exfalso; omega)), (fun i hi => by cases hi)⟩
 ·
  refine oP 13 yF rfl (Eq.trans (r_bin rfl rfl rfl (b_eql rfl)) (dF hc1)) <| OA.ps [(12, yF)] rfl <| OA.nil fun _ => RA.condF rfl <| RA.sR hd env_ok ?_
  by_cases hc2 : (((i / 20) : Nat) : Int) = 1
  ·
   refine oP 23 yT rfl (Eq.trans (r_bin rfl rfl rfl (b_eql rfl)) (dT hc2)) <| OA.ps [(22, yT)] rfl <| OA.nil fun _ => RA.condT rfl <| RA.sR hd env_ok <| OA.ps [(24, (W b)), (25, (W c))] rfl <| oP 26 (W (b ^^^ c)) rfl (r_bin rfl rfl rfl (b_xorW b c)) <| OA.ps [(27, (W d))] rfl <| oP 28 (W ((b ^^^ c) ^^^ d)) rfl (r_bin rfl rfl rfl (b_xorW (b ^^^ c) d)) <| OA.ps [(8, (W ((b ^^^ c) ^^^ d))), (9, (.int .u32 1859775393))] rfl <| OA.nil fun _ => ?_
   refine RA.ret env_ok ?_
   refine ⟨.inr rfl, [(W ((b ^^^ c) ^^^ d)), (.int .u32 1859775393)], (resL_cons rfl (resL_cons rfl resL_nil)), (by simp only [one, fk]; (repeat' split) <;> first | rfl | (exfalso; omega)), (fun i hi => by cases hi)⟩
  ·
   refine oP 23 yF rfl (Eq.trans (r_bin rfl rfl rfl (b_eql rfl)) (dF hc2)) <| OA.ps [(22, yF)] rfl <| OA.nil fun _ => RA.condF rfl <| RA.sR hd env_ok ?_
   by_cases hc3 : (((i / 20) : Nat) : Int) = 2
   ·
    refine oP 30 yT rfl (Eq.trans (r_bin rfl rfl rfl (b_eql rfl)) (dT hc3)) <| OA.ps [(29, yT)] rfl <| OA.nil fun _ => RA.condT rfl <| RA.sR hd env_ok <| OA.ps [(31, (W b)), (32, (W c))] rfl <| oP 33 (W (b &&& c)) rfl (r_bin rfl rfl rfl (b_andW b c)) <| OA.ps [(34, (W b)), (35, (W d))] rfl <| oP 36 (W (b &&& d)) rfl (r_bin rfl rfl rfl (b_andW b d)) <| oP 37 (W ((b &&& c) ||| (b &&& d))) rfl (r_bin rfl rfl rfl (b_orW (b &&& c) (b &&& d))) <| OA.ps [(38, (W c)), (39, (W d))] rfl ?_
    refine oP 40 (W (c &&& d)) rfl (r_bin rfl rfl rfl (b_andW c d)) <| oP 41 (W (((b &&& c) ||| (b &&& d)) ||| (c &&& d))) rfl (r_bin rfl rfl rfl (b_orW ((b &&& c) ||| (b &&& d)) (c &&& d))) <| OA.ps [(8, (W (((b &&& c) ||| (b &&& d)) ||| (c &&& d)))), (9, (.int .u32 2400959708))] rfl <| OA.nil fun _ => ?_
    refine RA.ret env_ok ?_
    refine ⟨.inr rfl, [(W (((b &&& c) ||| (b &&& d)) ||| (c &&& d))), (.int .u32 2400959708)], (resL_cons rfl (resL_cons rfl resL_nil)), (by simp only [one, fk]; (repeat' split) <;> first | rfl | (exfalso; omega)), (fun i hi => by cases hi)⟩
   ·
    refine oP 30 yF rfl (Eq.trans (r_bin rfl rfl rfl (b_eql rfl)) (dF hc3)) <| OA.ps [(29, yF)] rfl <| OA.nil fun _ => RA.condF rfl <| RA.skip env_ok ?_
    intro _
    refine RA.sR hd env_ok <| OA.ps [(42, (W b)), (43, (W c))] rfl <| oP 44 (W (b ^^^ c)) rfl (r_bin rfl rfl rfl (b_xorW b c)) <| OA.ps [(45, (W d))] rfl <| oP 46 (W ((b ^^^ c) ^^^ d)) rfl (r_bin rfl rfl rfl (b_xorW (b ^^^ c) d)) <| OA.ps [(8, (W ((b ^^^ c) ^^^ d))), (9, (.int .u32 3395469782))] rfl <| OA.nil fun _ => ?_
    refine RA.ret env_ok ?_
    refine ⟨.inr rfl, [(W ((b ^^^ c) ^^^ d)), (.int .u32 3395469782)], (resL_cons rfl (resL_cons rfl resL_nil)), (by simp only [one, fk]; (repeat' split) <;> first | rfl | (exfalso; omega)), (fun i hi => by cases hi)⟩
theorem s60 {σ : Store} (i : Nat) (hi : i < 80) (b c d : BitVec 32)   : PS Try.prog noDen 60 [(.int .i64 ((i : Nat) : Int)), (W b), (W c), (W d)] σ (.tuple #[W (fk i b c d).1, W (fk i b c d).2]) := by
 refine PS.body (E := env) env_ok rfl rfl (by show _ ≤ _; exact of_decide_eq_true (by kernel_rfl)) (fun n hd => ?_)
 refine RA.sR hd env_ok <| OA.ps [(8, (.int .u32 0)), (9, (.int .u32 0))] rfl <| OA.nil fun _ => RA.seq hd <| RA.block <| RA.sR hd env_ok <| OA.ps [(11, (.int .i64 ((i : Nat) : Int)))] rfl ?_
 by_cases hc1 : ((i : Nat) : Int) < 20
 ·
  refine oP 12 yT rfl (Eq.trans (r_bin rfl rfl rfl (b_lss rfl)) (dT hc1)) <| OA.ps [(10, yT)] rfl <| OA.nil fun _ => RA.condT rfl <| RA.sR hd env_ok <| OA.ps [(13, (W d)), (14, (W b)), (15, (W c)), (16, (W d))] rfl <| oP 17 (W (c ^^^ d)) rfl (r_bin rfl rfl rfl (b_xorW c d)) <| oP 18 (W (b &&& (c ^^^ d))) rfl (r_bin rfl rfl rfl (b_andW b (c ^^^ d))) <| oP 19 (W (d ^^^ (b &&& (c ^^^ d)))) rfl (r_bin rfl rfl rfl (b_xorW d (b &&& (c ^^^ d)))) <| OA.ps [(8, (W (d ^^^ (b &&& (c ^^^ d))))), (9, (.int .u32 1518500249))] rfl <| OA.nil fun _ => ?_
  refine RA.ret env_ok ?_
  refine ⟨.inr rfl, [(W (d ^^^ (b &&& (c ^^^ d)))), (.int .u32 1518500249)], (resL_cons rfl (resL_cons rfl resL_nil)), (by simp only [one, fk, ch_eq, maj_eq]; (repeat' split) <;> first | rfl | (exfalso; omega)), (fun i hi => by cases hi)⟩
 ·
  refine oP 12 yF rfl (Eq.trans (r_bin rfl rfl rfl (b_lss rfl)) (dF hc1)) <| OA.ps [(10, yF)] rfl <| OA.nil fun _ => RA.condF rfl <| RA.sR hd env_ok <| OA.ps [(21, (.int .i64 ((i : Nat) : Int)))] rfl ?_
  by_cases hc2 : ((i : Nat) : Int) < 40
  ·
   refine oP 22 yT rfl (Eq.trans (r_bin rfl rfl rfl (b_lss rfl)) (dT hc2)) <| OA.ps [(20, yT)] rfl <| OA.nil fun _ => RA.condT rfl <| RA.sR hd env_ok <| OA.ps [(23, (W b)), (24, (W c))] rfl <| oP 25 (W (b ^^^ c)) rfl (r_bin rfl rfl rfl (b_xorW b c)) <| OA.ps [(26, (W d))] rfl <| oP 27 (W ((b ^^^ c) ^^^ d)) rfl (r_bin rfl rfl rfl (b_xorW (b ^^^ c) d)) <| OA.ps [(8, (W ((b ^^^ c) ^^^ d))), (9, (.int .u32 1859775393))] rfl <| OA.nil fun _ => ?_
   refine RA.ret env_ok ?_
   refine ⟨.inr rfl, [(W ((b ^^^ c) ^^^ d)), (.int .u32 1859775393)], (resL_cons rfl (resL_cons rfl resL_nil)), (by simp only [one, fk, ch_eq, maj_eq]; (repeat' split) <;> first | rfl | (exfalso; omega)), (fun i hi => by cases hi)⟩
  ·
   refine oP 22 yF rfl (Eq.trans (r_bin rfl rfl rfl (b_lss rfl)) (dF hc2)) <| OA.ps [(20, yF)] rfl <| OA.nil fun _ => RA.condF rfl <| RA.sR hd env_ok <| OA.ps [(29, (.int .i64 ((i : Nat) : Int)))] rfl ?_
   by_cases hc3 : ((i : Nat) : Int) < 60
   ·
    refine oP 30 yT rfl (Eq.trans (r_bin rfl rfl rfl (b_lss rfl)) (dT hc3)) <| OA.ps [(28, yT)] rfl <| OA.nil fun _ => RA.condT rfl <| RA.sR hd env_ok <| OA.ps [(31, (W b)), (32, (W c))] rfl <| oP 33 (W (b &&& c)) rfl (r_bin rfl rfl rfl (b_andW b c)) <| OA.ps [(34, (W d)), (35, (W b)), (36, (W c))] rfl <| oP 37 (W (b ||| c)) rfl (r_bin rfl rfl rfl (b_orW b c)) <| oP 38 (W (d &&& (b ||| c))) rfl (r_bin rfl rfl rfl (b_andW d (b ||| c))) <| oP 39 (W ((b &&& c) ||| (d &&& (b ||| c)))) rfl (r_bin rfl rfl rfl (b_orW (b &&& c) (d &&& (b ||| c)))) ?_
    refine OA.ps [(8, (W ((b &&& c) ||| (d &&& (b ||| c))))), (9, (.int .u32 2400959708))] rfl <| OA.nil fun _ => ?_
    refine RA.ret env_ok ?_
    refine ⟨.inr rfl, [(W ((b &&& c) ||| (d &&& (b ||| c)))), (.int .u32 2400959708)], (resL_cons rfl (resL_cons rfl resL_nil)), (by simp only [one, fk, ch_eq, maj_eq]; (repeat' split) <;> first | rfl | (exfalso; omega)), (fun i hi => by cases hi)⟩
   ·
    refine oP 30 yF rfl (Eq.trans (r_bin rfl rfl rfl (b_lss rfl)) (dF hc3)) <| OA.ps [(28, yF)] rfl <| OA.nil fun _ => RA.condF rfl <| RA.skip env_ok ?_
    intro _
    refine RA.sR hd env_ok <| OA.ps [(40, (W b)), (41, (W c))] rfl <| oP 42 (W (b ^^^ c)) rfl (r_bin rfl rfl rfl (b_xorW b c)) <| OA.ps [(43, (W d))] rfl <| oP 44 (W ((b ^^^ c) ^^^ d)) rfl (r_bin rfl rfl rfl (b_xorW (b ^^^ c) d)) <| OA.ps [(8, (W ((b ^^^ c) ^^^ d))), (9, (.int .u32 3395469782))] rfl <| OA.nil fun _ => ?_
    refine RA.ret env_ok ?_
    refine ⟨.inr rfl, [(W ((b ^^^ c) ^^^ d)), (.int .u32 3395469782)], (resL_cons rfl (resL_cons rfl resL_nil)), (by simp only [one, fk, ch_eq, maj_eq]; (repeat' split) <;> first | rfl | (exfalso; omega)), (fun i hi => by cases hi)⟩
end Go.Proofs.Ytdnkhdkflemkeaa.Vt
/- Dg2: walks through functions of the program, by the calculus; written by a program of this workplace. -/
namespace Go.Proofs.Ytdnkhdkflemkeaa.Vt
open Go Go.Proofs Go.Proofs.YtdnkhdkflemkeaaV
set_option maxRecDepth 100000
set_option linter.unusedVariables false
set_option linter.unusedSimpArgs false
set_option maxHeartbeats 8000000
def beN (l : List UInt8) : Nat := l.foldl (fun a b => a * 256 + b.toNat) 0
theorem beN_snoc (l : List UInt8) (b : UInt8) : beN (l ++ [b]) = beN l * 256 + b.toNat := by unfold beN; rw [List.foldl_append]; rfl
theorem beN_take (s : ByteArray) (i : Nat) (h : i < s.size) : beN ((L s).take (i + 1)) = beN ((L s).take i) * 256 + (s.get! i).toNat := by
  rw [List.take_add_one, L_get s i h]
  exact beN_snoc _ _
theorem s61 {n : Nat} {σ : Store} (hd : Dom n σ) (s : ByteArray)   : CQ Try.prog noDen 61 [(.string s)] n σ (fun v n' d => ∃ i, n ≤ i ∧ i < n' ∧ v = .pointer (some ⟨i, 0, some 0⟩) ∧ d = [(i, some ⟨[[(.string s), (.int .i64 0)]], 2, 106, true⟩)]) := by
 refine CQ.body (E := env) env_ok hd rfl rfl (by show _ ≤ _; exact of_decide_eq_true (by kernel_rfl)) ?_
 refine RA.sR hd env_ok <| OA.ps [(2, (.pointer none))] rfl <| OA.nil fun _ => RA.sR hd env_ok <| OA.ps [(3, (.string s))] rfl <| oP 4 (.agg ⟨[(.string s), (.int .i64 0)]⟩) rfl (by kernel_rfl) <| o1 (some 5) (.pointer (some ⟨n, 0, some 0⟩)) (n + 1) (n, some ⟨[[(.string s), (.int .i64 0)]], 2, 106, true⟩) rfl <| OA.ps [(2, (.pointer (some ⟨n, 0, some 0⟩)))] rfl <| OA.nil fun _ => ?_
 refine RA.ret env_ok ?_
 refine ⟨.inr rfl, [(.pointer (some ⟨n, 0, some 0⟩))], (resL_cons rfl resL_nil), [(n, some ⟨[[(.string s), (.int .i64 0)]], 2, 106, true⟩)], (Less.refl _ _ _), ⟨n, by omega, by omega, rfl, rfl⟩⟩
theorem s75 {σ : Store} (r : Nat) (s : ByteArray) (hr : σ r = some ⟨[[(.string s), (.int .i64 0)]], 2, 106, true⟩)  : PS Try.prog noDen 75 [(.pointer (some ⟨r, 0, some 0⟩))] σ (.int .i64 0) := by
 refine PS.body (E := env) env_ok rfl rfl (by show _ ≤ _; exact of_decide_eq_true (by kernel_rfl)) (fun n hd => ?_)
 have lhr := hd.lt hr
 refine RA.sR hd env_ok <| OA.ps [(2, (.int .i64 0))] rfl <| OA.nil fun _ => RA.seq hd <| RA.sR hd env_ok <| OA.ps [(3, (.pointer (some ⟨r, 0, some 0⟩))), (4, yF)] rfl <| OA.nil fun _ => RA.condF rfl <| RA.skip env_ok ?_
 intro _
 refine RA.sR hd env_ok <| OA.ps [(5, (.pointer (some ⟨r, 0, some 0⟩))), (6, (.pointer (some ⟨r, 0, some 0⟩))), (7, (.pointer (some ⟨r, 0, some 1⟩)))] rfl <| oL 8 (.int .i64 0) hr <| OA.ps [(2, (.int .i64 0))] rfl <| OA.nil fun _ => ?_
 refine RA.ret env_ok ?_
 exact lf (.int .i64 0) rfl
theorem s65 {n : Nat} {σ : Store} (hd : Dom n σ) (r : Nat) (s : ByteArray) (k : Nat) (hk : k ≤ s.size) (hs : s.size < 4294967296) (hr : σ r = some ⟨[[(.string s), (.int .i64 0)]], 2, 106, true⟩)  : CQ Try.prog noDen 65 [(.pointer (some ⟨r, 0, some 0⟩)), (.int .i64 ((k : Nat) : Int))] n σ (fun v n' d => v = .string (s.extract 0 k) ∧ d = [(r, some ⟨[[(.string (s.extract k s.size)), (.int .i64 0)]], 2, 106, true⟩)]) := by
 have lhr := hd.lt hr
 refine CQ.body (E := env) env_ok hd rfl rfl (by show _ ≤ _; exact of_decide_eq_true (by kernel_rfl)) ?_
 refine RA.sR hd env_ok <| OA.ps [(4, (.string (ByteArray.mk #[])))] rfl <| OA.nil fun _ => RA.seq hd <| RA.sR hd env_ok <| OA.ps [(6, (.pointer (some ⟨r, 0, some 0⟩)))] rfl <| oC 7 (v := (.int .i64 0)) (hd.up (by omega)) rfl rfl (s75 r _ hr) fun n1 hn1 => oP 8 yF rfl (r_bin rfl rfl rfl (b_neq rfl)) <| OA.ps [(9, yF), (10, (.int .i64 ((k : Nat) : Int)))] rfl ?_
 have hc1 : ¬ (((k : Nat) : Int) < 0) := fun hdd => by exfalso; omega
 refine oP 11 yF rfl (Eq.trans (r_bin rfl rfl rfl (b_lss rfl)) (dF hc1)) <| OA.ps [(12, yF), (13, yF), (14, (.int .i64 ((k : Nat) : Int))), (15, (.pointer (some ⟨r, 0, some 0⟩))), (16, (.pointer (some ⟨r, 0, some 0⟩))), (17, (.pointer (some ⟨r, 0, some 0⟩)))] rfl <| oL 18 (.string s) hr <| OA.ps [(19, (.int .i64 ((s.size : Nat) : Int)))] rfl ?_
 have hc2 : ¬ (((s.size : Nat) : Int) < ((k : Nat) : Int)) := fun hdd => by exfalso; omega
 refine oP 20 yF rfl (Eq.trans (r_bin rfl rfl rfl (b_gtr rfl)) (dF hc2)) <| OA.ps [(21, yF)] rfl <| OA.nil fun _ => RA.condF rfl <| RA.skip env_ok ?_
 intro _
 refine RA.sR hd env_ok <| OA.ps [(24, (.pointer (some ⟨r, 0, some 0⟩))), (25, (.pointer (some ⟨r, 0, some 0⟩))), (26, (.pointer (some ⟨r, 0, some 0⟩)))] rfl <| oL 27 (.string s) hr <| OA.ps [(28, (.int .i64 ((k : Nat) : Int)))] rfl <| oP 29 (.string (s.extract 0 k)) rfl (r_cut (a := 0) (b := k) rfl rfl (fun _ => rfl) (fun _ => rfl) rfl rfl rfl bound_nat (by omega) (by omega) rfl) <| OA.ps [(5, (.string (s.extract 0 k)))] rfl <| OA.nil fun _ => RA.sR hd env_ok <| OA.ps [(30, (.pointer (some ⟨r, 0, some 0⟩))), (31, (.pointer (some ⟨r, 0, some 0⟩))), (32, (.pointer (some ⟨r, 0, some 0⟩))), (33, (.pointer (some ⟨r, 0, some 0⟩)))] rfl <| oL 34 (.string s) hr <| OA.ps [(35, (.int .i64 ((k : Nat) : Int)))] rfl ?_
 refine oP 36 (.string (s.extract k s.size)) rfl (r_cut (a := k) (b := s.size) rfl rfl (fun _ => rfl) (fun _ => rfl) rfl rfl bound_nat rfl (by omega) (by omega) rfl) <| OA.ps [(37, (.pointer (some ⟨r, 0, some 0⟩))), (38, (.pointer (some ⟨r, 0, some 0⟩)))] rfl <| o1 none yU n1 (r, some ⟨[[(.string (s.extract k s.size)), (.int .i64 0)]], 2, 106, true⟩) (rS hr) <| OA.nil fun _ => RA.rb [(0, (.pointer (some ⟨r, 0, some 0⟩))), (1, (.int .i64 ((k : Nat) : Int))), (4, (.string (ByteArray.mk #[]))), (5, (.string (s.extract 0 k))), (21, yF)] rfl (fun τr2 => ?_)
 refine RA.sR hd env_ok <| OA.ps [(39, (.string (s.extract 0 k))), (4, (.string (s.extract 0 k)))] rfl <| OA.nil fun _ => ?_
 refine RA.ret env_ok ?_
 refine ⟨.inr rfl, [(.string (s.extract 0 k))], (resL_cons rfl resL_nil), [(r, some ⟨[[(.string (s.extract k s.size)), (.int .i64 0)]], 2, 106, true⟩)], (Less.refl _ _ _), ⟨rfl, rfl⟩⟩
theorem s74 {n : Nat} {σ : Store} (hd : Dom n σ) (r : Nat) (s : ByteArray) (k : Nat) (hk : k ≤ s.size) (hk8 : k ≤ 8) (hs : s.size < 4294967296) (hr : σ r = some ⟨[[(.string s), (.int .i64 0)]], 2, 106, true⟩)  : CQ Try.prog noDen 74 [(.pointer (some ⟨r, 0, some 0⟩)), (.int .i64 ((k : Nat) : Int))] n σ (fun v n' d => v = .int .u64 ((beN ((L s).take k) : Nat) : Int) ∧ d = [(r, some ⟨[[(.string (s.extract k s.size)), (.int .i64 0)]], 2, 106, true⟩)]) := by
 have lhr := hd.lt hr
 refine CQ.body (E := env) env_ok hd rfl rfl (by show _ ≤ _; exact of_decide_eq_true (by kernel_rfl)) ?_
 refine RA.sR hd env_ok <| OA.ps [(4, (.int .u64 0))] rfl <| OA.nil fun _ => RA.sR hd env_ok <| OA.ps [(5, (.int .u64 0))] rfl <| OA.nil fun _ => RA.sR hd env_ok <| OA.ps [(8, (.pointer (some ⟨r, 0, some 0⟩))), (9, (.int .i64 ((k : Nat) : Int)))] rfl ?_
 refine OA.call (dst := (some 10)) (all := [(.pointer (some ⟨r, 0, some 0⟩)), (.int .i64 ((k : Nat) : Int))]) rfl rfl rfl rfl rfl rfl rfl rfl (CQ.imp (s65 (hd.up (by omega)) r s k hk hs hr) ?_)
 rintro _ n1 _ ⟨rfl, rfl⟩ hn1
 refine OA.app1 ?_
 refine OA.ps [(6, (.string (s.extract 0 k)))] rfl <| OA.nil fun _ => RA.seq hd <| RA.sR hd env_ok <| OA.ps [(11, (.string (s.extract 0 k))), (12, (.int .i64 (((s.extract 0 k).size : Nat) : Int))), (13, (.int .i64 0))] rfl <| OA.nil fun _ => RA.block ?_
 have hks : (s.extract 0 k).size = k := by rw [size_cut _ _ _ hk]; rfl
 refine RA.loop hd (fun kk_ τ n' D => ∃ i : Nat, ∃ m : Nat,  kk_ = (k - i) ∧ n1 ≤ n' ∧ Has τ [(5, (.int .u64 ((m : Nat) : Int))), (6, (.string (s.extract 0 k))), (12, (.int .i64 (((s.extract 0 k).size : Nat) : Int))), (13, (.int .i64 ((i : Nat) : Int)))] ∧ D = [(r, some ⟨[[(.string (s.extract k s.size)), (.int .i64 0)]], 2, 106, true⟩)] ∧ (∀ i ∈ keys D, i < n') ∧ i ≤ k ∧ m = beN ((L (s.extract 0 k)).take i) ∧ m < 256 ^ i) ((k - 0)) ⟨0, 0, rfl, by omega, ⟨rfl, rfl, rfl, rfl, trivial⟩, rfl, (kb1 (by omega)), ⟨by omega, rfl, by decide⟩⟩ ?_
 rintro kn2 τ2 n2 _ ⟨i, m, rfl, hn2, hHn2, rfl, hKn2, hIn2⟩
 rw [Has.eq hHn2]
 have hKn2_0 := kk0 hKn2
 simp only [keys, List.map, List.forall_mem_cons, List.mem_cons, List.not_mem_nil, false_imp_iff, implies_true, and_true] at hKn2
 obtain ⟨hi, hm, hb⟩ := hIn2
 have hb2 : i < k → m < 72057594037927936 := fun h => Nat.lt_of_lt_of_le hb (Nat.pow_le_pow_right (n := 256) (j := 7) (by decide) (by omega))
 refine RA.sR hd env_ok ?_
 by_cases hc1 : ((i : Nat) : Int) < (((s.extract 0 k).size : Nat) : Int)
 ·
  refine oP 14 yT rfl (Eq.trans (r_bin rfl rfl rfl (b_lss rfl)) (dT hc1)) <| OA.nil fun _ => RA.seq hd <| RA.condT rfl <| RA.skip env_ok ?_
  intro _
  refine RA.seq hd <| RA.block <| RA.sR hd env_ok <| OA.ps [(15, (.int .i64 ((i : Nat) : Int))), (7, (.int .i64 ((i : Nat) : Int)))] rfl <| OA.nil fun _ => RA.region env_ok <| OA.ps [(16, (.int .u64 ((m : Nat) : Int)))] rfl <| oP 17 (.int .u64 (((m * 256) : Nat) : Int)) rfl (r_bin rfl rfl rfl (b_shl8 (a := m) (by omega))) <| OA.ps [(18, (.string (s.extract 0 k))), (19, (.int .i64 ((i : Nat) : Int)))] rfl <| oP 20 (.int .u8 (((s.extract 0 k).get! i).toNat : Nat)) rfl (r_idxS (l := i) rfl rfl rfl rfl rfl (by omega) (by omega)) <| oP 21 (.int .u64 ((((s.extract 0 k).get! i).toNat : Nat) : Int)) rfl (r_cvt rfl rfl rfl rfl rfl ⟨_, rfl⟩ (u64_eq (by have := UInt8.toNat_lt ((s.extract 0 k).get! i); omega))) ?_
  refine oP 22 (.int .u64 (((m * 256 + ((s.extract 0 k).get! i).toNat) : Nat) : Int)) rfl (r_bin rfl rfl rfl (b_or8 (a := m) (c := ((s.extract 0 k).get! i).toNat) (by omega) (UInt8.toNat_lt _))) <| OA.ps [(5, (.int .u64 (((m * 256 + ((s.extract 0 k).get! i).toNat) : Nat) : Int)))] rfl <| OA.nil fun _ => RA.region env_ok <| oP 23 (.int .i64 (((i + 1) : Nat) : Int)) rfl (r_bin rfl rfl rfl (b_add (i64_eq (by omega)))) <| OA.ps [(13, (.int .i64 (((i + 1) : Nat) : Int)))] rfl <| OA.nil ?_
  refine ⟨(k - (i + 1)), by omega, [(r, some ⟨[[(.string (s.extract k s.size)), (.int .i64 0)]], 2, 106, true⟩)], (Less.refl _ _ _), (i + 1), (m * 256 + ((s.extract 0 k).get! i).toNat), rfl, by omega, ⟨rfl, rfl, rfl, rfl, trivial⟩, rfl, (kb1 (by omega)), ⟨by omega, by rw [beN_take _ _ (by omega), hm], by have := UInt8.toNat_lt ((s.extract 0 k).get! i); rw [Nat.pow_succ]; omega⟩⟩
 ·
  refine oP 14 yF rfl (Eq.trans (r_bin rfl rfl rfl (b_lss rfl)) (dF hc1)) <| OA.nil fun _ => RA.seq hd <| RA.condF rfl ?_
  refine RA.exit env_ok ?_
  intro _
  refine RA.sR hd env_ok <| OA.ps [(24, (.int .u64 ((m : Nat) : Int))), (4, (.int .u64 ((m : Nat) : Int)))] rfl <| OA.nil fun _ => ?_
  refine RA.ret env_ok ?_
  refine ⟨.inr rfl, [(.int .u64 ((m : Nat) : Int))], (resL_cons rfl resL_nil), [(r, some ⟨[[(.string (s.extract k s.size)), (.int .i64 0)]], 2, 106, true⟩)], (Less.refl _ _ _), ⟨by rw [one, hm, show i = k from by omega, List.take_of_length_le (by rw [L_len]; omega), L_extract, List.drop_zero]; rfl, rfl⟩⟩
theorem s63 {n : Nat} {σ : Store} (hd : Dom n σ) (r : Nat) (s : ByteArray) (hk : 4 ≤ s.size) (hs : s.size < 4294967296) (hr : σ r = some ⟨[[(.string s), (.int .i64 0)]], 2, 106, true⟩)  : CQ Try.prog noDen 63 [(.pointer (some ⟨r, 0, some 0⟩))] n σ (fun v n' d => v = W (BitVec.ofNat 32 (beN ((L s).take 4))) ∧ d = [(r, some ⟨[[(.string (s.extract 4 s.size)), (.int .i64 0)]], 2, 106, true⟩)]) := by
 have lhr := hd.lt hr
 refine CQ.body (E := env) env_ok hd rfl rfl (by show _ ≤ _; exact of_decide_eq_true (by kernel_rfl)) ?_
 refine RA.sR hd env_ok <| OA.ps [(2, (.int .u32 0))] rfl <| OA.nil fun _ => RA.sR hd env_ok <| OA.ps [(3, (.pointer (some ⟨r, 0, some 0⟩)))] rfl ?_
 refine OA.call (dst := (some 4)) (all := [(.pointer (some ⟨r, 0, some 0⟩)), (.int .i64 4)]) rfl rfl rfl rfl rfl rfl rfl rfl (CQ.imp (s74 (hd.up (by omega)) r s 4 hk (by decide) hs hr) ?_)
 rintro _ n1 _ ⟨rfl, rfl⟩ hn1
 refine OA.app1 ?_
 refine oP 5 (W (BitVec.ofNat 32 (beN ((L s).take 4)))) rfl (r_cvt rfl rfl rfl rfl rfl ⟨_, rfl⟩ (wrap_ofNat32 _)) <| OA.ps [(2, (W (BitVec.ofNat 32 (beN ((L s).take 4)))))] rfl <| OA.nil fun _ => ?_
 refine RA.ret env_ok ?_
 refine ⟨.inr rfl, [(W (BitVec.ofNat 32 (beN ((L s).take 4))))], (resL_cons rfl resL_nil), [(r, some ⟨[[(.string (s.extract 4 s.size)), (.int .i64 0)]], 2, 106, true⟩)], (Less.refl _ _ _), ⟨rfl, rfl⟩⟩
end Go.Proofs.Ytdnkhdkflemkeaa.Vt
/- Dg3: walks through functions of the program, by the calculus; written by a program of this workplace. -/
namespace Go.Proofs.Ytdnkhdkflemkeaa.Vt
open Go Go.Proofs Go.Proofs.YtdnkhdkflemkeaaV
set_option maxRecDepth 100000
set_option linter.unusedVariables false
set_option linter.unusedSimpArgs false
set_option maxHeartbeats 8000000
def word (s : ByteArray) (j : Nat) : BitVec 32 := BitVec.ofNat 32 (beN (((L s).drop (4 * j)).take 4))
def wd (s : ByteArray) (j : Nat) : BitVec 32 := if h : j < 16 then word s j else rl (wd s (j - 3) ^^^ wd s (j - 8) ^^^ wd s (j - 14) ^^^ wd s (j - 16)) 1
termination_by j
theorem wd_lo {s : ByteArray} {j : Nat} (h : j < 16) : wd s j = word s j := by rw [wd, dif_pos h]
theorem wd_hi {s : ByteArray} {j : Nat} (h : 16 ≤ j) : wd s j = rl (wd s (j - 3) ^^^ wd s (j - 8) ^^^ wd s (j - 14) ^^^ wd s (j - 16)) 1 := by rw [wd, dif_neg (by omega)]
theorem ext_ext (s : ByteArray) (a b : Nat) (h : a + b ≤ s.size) : (s.extract a s.size).extract b (s.extract a s.size).size = s.extract (a + b) s.size := by
  apply L_ext
  rw [L_extract, L_extract, L_extract, size_cut _ _ _ (Nat.le_refl _), List.drop_take, List.drop_drop, List.take_take]
  congr 1
  omega
theorem word_ext (s : ByteArray) (i : Nat) (h : 4 * i + 4 ≤ s.size) : BitVec.ofNat 32 (beN ((L (s.extract (4 * i) s.size)).take 4)) = word s i := by
  rw [word, L_extract, List.take_take]
  congr 4
  omega
structure H5 where
  a : BitVec 32
  b : BitVec 32
  c : BitVec 32
  d : BitVec 32
  e : BitVec 32
def rd (w : Nat → BitVec 32) (h : H5) : Nat → H5
  | 0 => h
  | i + 1 => ⟨rl (rd w h i).a 5 + (fk i (rd w h i).b (rd w h i).c (rd w h i).d).1 + (rd w h i).e + (fk i (rd w h i).b (rd w h i).c (rd w h i).d).2 + w i, (rd w h i).a, rl (rd w h i).b 30, (rd w h i).c, (rd w h i).d⟩
def blk (h : H5) (s : ByteArray) : H5 := ⟨h.a + (rd (wd s) h 80).a, h.b + (rd (wd s) h 80).b, h.c + (rd (wd s) h 80).c, h.d + (rd (wd s) h 80).d, h.e + (rd (wd s) h 80).e⟩
theorem s63w {n : Nat} {σ : Store} (hd : Dom n σ) (r : Nat) (s : ByteArray) (i : Nat) (hi : 4 * i + 4 ≤ s.size) (hs : s.size < 4294967296) (hr : σ r = some ⟨[[(.string (s.extract (4 * i) s.size)), (.int .i64 0)]], 2, 106, true⟩) : CQ Try.prog noDen 63 [(.pointer (some ⟨r, 0, some 0⟩))] n σ (fun v n' d => v = W (word s i) ∧ d = [(r, some ⟨[[(.string (s.extract (4 * i + 4) s.size)), (.int .i64 0)]], 2, 106, true⟩)]) := by
  refine (s63 hd r (s.extract (4 * i) s.size) (by rw [size_cut _ _ _ (Nat.le_refl _)]; omega) (by rw [size_cut _ _ _ (Nat.le_refl _)]; omega) hr).imp fun v n' d h => ?_
  obtain ⟨h1, h2⟩ := h
  rw [h1, h2, word_ext s i hi, ext_ext s (4 * i) 4 hi]
  exact ⟨rfl, rfl⟩
theorem s55 {σ : Store} (s : ByteArray) (hs : s.size = 64)   : PS Try.prog noDen 55 [(.string s)] σ (.agg ⟨((List.range 80).map (wd s)).map W⟩) := by
 refine PS.body (E := env) env_ok rfl rfl (by show _ ≤ _; exact of_decide_eq_true (by kernel_rfl)) (fun n hd => ?_)
 refine RA.sR hd env_ok <| o1 (some 2) (.pointer (some ⟨n, 0, some 0⟩)) (n + 1) (n, some ⟨[((List.replicate 80 0#32).map W)], 80, 79, true⟩) (by kernel_rfl) <| OA.nil fun _ => RA.sR hd env_ok <| o1 (some 3) (.pointer (some ⟨(n + 1), 0, some 0⟩)) (n + 2) ((n + 1), some ⟨[((List.replicate 80 0#32).map W)], 80, 79, true⟩) (by kernel_rfl) <| OA.nil fun _ => RA.sR hd env_ok <| OA.ps [(7, (.string s))] rfl ?_
 refine OA.call (dst := (some 8)) (all := [(.string s)]) rfl rfl rfl rfl rfl rfl rfl rfl (CQ.imp (s61 (hd.of (by omega) (kb2 (by omega))) s) ?_)
 rintro _ n1 _ ⟨q, hq1, hq2, rfl, rfl⟩ hn1
 refine OA.app1 ?_
 refine OA.ps [(4, (.pointer (some ⟨q, 0, some 0⟩)))] rfl <| OA.nil fun _ => RA.seq hd <| RA.sR hd env_ok <| OA.ps [(9, (.int .i64 0))] rfl <| OA.nil fun _ => RA.block ?_
 refine RA.loop hd (fun kk_ τ n' D => ∃ i : Nat, ∃ ws : List (BitVec 32),  kk_ = (16 - i) ∧ n1 ≤ n' ∧ Has τ [(0, (.string s)), (2, (.pointer (some ⟨n, 0, some 0⟩))), (3, (.pointer (some ⟨(n + 1), 0, some 0⟩))), (4, (.pointer (some ⟨q, 0, some 0⟩))), (9, (.int .i64 ((i : Nat) : Int)))] ∧ D = [(q, some ⟨[[(.string (s.extract (4 * i) s.size)), (.int .i64 0)]], 2, 106, true⟩), ((n + 1), some ⟨[(ws.map W)], 80, 79, true⟩), (n, some ⟨[((List.replicate 80 0#32).map W)], 80, 79, true⟩)] ∧ (∀ i ∈ keys D, i < n') ∧ i ≤ 16 ∧ ws.length = 80 ∧ ∀ j, j < i → ws.getD j 0 = wd s j) ((16 - 0)) ⟨0, (List.replicate 80 0#32), rfl, by omega, ⟨rfl, rfl, rfl, rfl, rfl, trivial⟩, (by rw [show s.extract (4 * 0) s.size = s from by apply L_ext; rw [L_extract, Nat.mul_zero, List.drop_zero, List.take_of_length_le (by rw [L_len]; omega)]]), (kb3 (by omega)), ⟨by omega, List.length_replicate, fun j hj => by omega⟩⟩ ?_
 rintro kn2 τ2 n2 _ ⟨i, ws, rfl, hn2, hHn2, rfl, hKn2, hIn2⟩
 rw [Has.eq hHn2]
 have hKn2_0 := kk0 hKn2
 have hKn2_1 := kk1 hKn2
 have hKn2_2 := kk2 hKn2
 simp only [keys, List.map, List.forall_mem_cons, List.mem_cons, List.not_mem_nil, false_imp_iff, implies_true, and_true] at hKn2
 obtain ⟨hi, hl, hf⟩ := hIn2
 refine RA.sR hd env_ok ?_
 by_cases hc1 : ((i : Nat) : Int) < 16
 ·
  refine oP 10 yT rfl (Eq.trans (r_bin rfl rfl rfl (b_lss rfl)) (dT hc1)) <| OA.nil fun _ => RA.seq hd <| RA.condT rfl <| RA.skip env_ok ?_
  intro _
  refine RA.seq hd <| RA.block <| RA.sR hd env_ok <| OA.ps [(11, (.int .i64 ((i : Nat) : Int))), (5, (.int .i64 ((i : Nat) : Int)))] rfl <| OA.nil fun _ => RA.region env_ok <| OA.ps [(12, (.int .i64 ((i : Nat) : Int))), (13, (.pointer (some ⟨q, 0, some 0⟩)))] rfl ?_
  refine OA.call (dst := (some 14)) (all := [(.pointer (some ⟨q, 0, some 0⟩))]) rfl rfl rfl rfl rfl rfl rfl rfl (CQ.imp (s63w (hd.of (by omega) (kb3 (by omega))) q s i (by omega) (by omega) get_here) ?_)
  rintro _ n3 _ ⟨rfl, rfl⟩ hn3
  refine OA.app1 ?_
  refine oP 15 (.pointer (some ⟨(n + 1), 0, some i⟩)) rfl (r_iaA (l := i) rfl rfl rfl rfl rfl rfl (by omega) (by omega) (by show 0 + i * 1 = i; omega)) <| o1 none yU n3 ((n + 1), some ⟨[((ws.set i (word s i)).map W)], 80, 79, true⟩) (r_storeW rfl rfl rfl rfl rfl rfl (gt2 (by omega) get_here) (by rw [hl]; omega)) <| OA.nil fun _ => RA.region env_ok <| oP 16 (.int .i64 (((i + 1) : Nat) : Int)) rfl (r_bin rfl rfl rfl (b_add (i64_eq (by omega)))) <| OA.ps [(9, (.int .i64 (((i + 1) : Nat) : Int)))] rfl <| OA.nil ?_
  refine ⟨(16 - (i + 1)), by omega, [(q, some ⟨[[(.string (s.extract (4 * i + 4) s.size)), (.int .i64 0)]], 2, 106, true⟩), ((n + 1), some ⟨[((ws.set i (word s i)).map W)], 80, 79, true⟩), (n, some ⟨[((List.replicate 80 0#32).map W)], 80, 79, true⟩)], (LsO (fA get_here (get_there (by omega) get_here) (fA (get_there (by omega) get_here) get_here (fA (gt2 (by omega) get_here) (gt4 (by omega) get_here) fan)))), (i + 1), (ws.set i (word s i)), rfl, by omega, ⟨rfl, rfl, rfl, rfl, rfl, trivial⟩, rfl, (kb3 (by omega)), ⟨by omega, by rw [List.length_set]; exact hl, fun j hj => (Nat.lt_or_ge j i).elim (fun h => by rw [lset_ne (by omega)]; exact hf j h) (fun h => by rw [show j = i from by omega, lset_self (by omega), wd_lo (by omega)])⟩⟩
 ·
  refine oP 10 yF rfl (Eq.trans (r_bin rfl rfl rfl (b_lss rfl)) (dF hc1)) <| OA.nil fun _ => RA.seq hd <| RA.condF rfl ?_
  refine RA.exit env_ok ?_
  intro _
  refine RA.seq hd <| RA.sR hd env_ok <| OA.ps [(6, (.int .i64 16))] rfl <| OA.nil fun _ => RA.block ?_
  have hi16 : i = 16 := by omega
  have hz : (0 : Nat) = 0 := rfl
  refine RA.weaken hd (LsO (fA get_here (get_there (by omega) get_here) (fA (get_there (by omega) get_here) (gt2 (by omega) get_here) fan))) ?_
  refine RA.loop hd (fun kk_ τ n' D => ∃ k : Nat, ∃ ws2 : List (BitVec 32),  kk_ = (80 - k) ∧ n2 ≤ n' ∧ Has τ [(0, (.string s)), (2, (.pointer (some ⟨n, 0, some 0⟩))), (3, (.pointer (some ⟨(n + 1), 0, some 0⟩))), (6, (.int .i64 ((k : Nat) : Int)))] ∧ D = [((n + 1), some ⟨[(ws2.map W)], 80, 79, true⟩), (n, some ⟨[((List.replicate 80 0#32).map W)], 80, 79, true⟩)] ∧ (∀ i ∈ keys D, i < n') ∧ 16 ≤ k ∧ k ≤ 80 ∧ ws2.length = 80 ∧ ∀ j, j < k → ws2.getD j 0 = wd s j) ((80 - 16)) ⟨16, ws, rfl, by omega, ⟨rfl, rfl, rfl, rfl, trivial⟩, rfl, (kb2 (by omega)), ⟨by omega, by omega, hl, fun j hj => hf j (by omega)⟩⟩ ?_
  rintro kn4 τ4 n4 _ ⟨k, ws2, rfl, hn4, hHn4, rfl, hKn4, hIn4⟩
  rw [Has.eq hHn4]
  have hKn4_0 := kk0 hKn4
  have hKn4_1 := kk1 hKn4
  simp only [keys, List.map, List.forall_mem_cons, List.mem_cons, List.not_mem_nil, false_imp_iff, implies_true, and_true] at hKn4
  obtain ⟨hk16, hk80, hl2, hf2⟩ := hIn4
  refine RA.seq hd <| RA.sR hd env_ok <| OA.ps [(17, (.int .i64 ((k : Nat) : Int)))] rfl ?_
  by_cases hc2 : ((k : Nat) : Int) < 80
  ·
   refine oP 18 yT rfl (Eq.trans (r_bin rfl rfl rfl (b_lss rfl)) (dT hc2)) <| OA.nil fun _ => RA.condT rfl <| RA.skip env_ok ?_
   intro _
   refine RA.seq hd <| RA.block <| RA.par (md := [some [], some [], some [], some [], some [(n + 1)], some [], some [], some [], some [(n + 1)], some [], some [], some [], some [], some [(n + 1)], some [], some [], some [], some [], some [(n + 1)], some [], some [], some [], none]) env_ok (hd.of (by omega) (kb2 (by omega))) (by kernel_rfl) <| PQ.ps [(21, (.int .i64 ((k : Nat) : Int))), (22, (.int .i64 ((k : Nat) : Int)))] rfl <| pP 23 (.int .i64 (((k - 3) : Nat) : Int)) rfl (r_bin rfl rfl rfl (b_sub (i64_eq (by omega)))) <| pP 24 (.pointer (some ⟨(n + 1), 0, some (k - 3)⟩)) rfl (r_iaA (l := (k - 3)) rfl rfl rfl rfl rfl rfl (by omega) (by omega) (by show 0 + (k - 3) * 1 = (k - 3); omega)) <| pQL 25 (W (ws2.getD (k - 3) 0)) (V := []) rfl (by kernel_rfl) (by kernel_rfl) get_here (r_load1 rfl rfl rfl rfl rfl get_here rfl (mapW_get (by rw [hl2]; omega))) <| PQ.ps [(26, (.int .i64 ((k : Nat) : Int)))] rfl <| pP 27 (.int .i64 (((k - 8) : Nat) : Int)) rfl (r_bin rfl rfl rfl (b_sub (i64_eq (by omega)))) <| pP 28 (.pointer (some ⟨(n + 1), 0, some (k - 8)⟩)) rfl (r_iaA (l := (k - 8)) rfl rfl rfl rfl rfl rfl (by omega) (by omega) (by show 0 + (k - 8) * 1 = (k - 8); omega)) <| pQL 29 (W (ws2.getD (k - 8) 0)) (V := []) rfl (by kernel_rfl) (by kernel_rfl) get_here (r_load1 rfl rfl rfl rfl rfl get_here rfl (mapW_get (by rw [hl2]; omega))) ?_
   refine pP 30 (W ((ws2.getD (k - 3) 0) ^^^ (ws2.getD (k - 8) 0))) rfl (r_bin rfl rfl rfl (b_xorW (ws2.getD (k - 3) 0) (ws2.getD (k - 8) 0))) <| PQ.ps [(31, (.int .i64 ((k : Nat) : Int)))] rfl <| pP 32 (.int .i64 (((k - 14) : Nat) : Int)) rfl (r_bin rfl rfl rfl (b_sub (i64_eq (by omega)))) <| pP 33 (.pointer (some ⟨(n + 1), 0, some (k - 14)⟩)) rfl (r_iaA (l := (k - 14)) rfl rfl rfl rfl rfl rfl (by omega) (by omega) (by show 0 + (k - 14) * 1 = (k - 14); omega)) <| pQL 34 (W (ws2.getD (k - 14) 0)) (V := []) rfl (by kernel_rfl) (by kernel_rfl) get_here (r_load1 rfl rfl rfl rfl rfl get_here rfl (mapW_get (by rw [hl2]; omega))) <| pP 35 (W (((ws2.getD (k - 3) 0) ^^^ (ws2.getD (k - 8) 0)) ^^^ (ws2.getD (k - 14) 0))) rfl (r_bin rfl rfl rfl (b_xorW ((ws2.getD (k - 3) 0) ^^^ (ws2.getD (k - 8) 0)) (ws2.getD (k - 14) 0))) <| PQ.ps [(36, (.int .i64 ((k : Nat) : Int)))] rfl <| pP 37 (.int .i64 (((k - 16) : Nat) : Int)) rfl (r_bin rfl rfl rfl (b_sub (i64_eq (by omega)))) <| pP 38 (.pointer (some ⟨(n + 1), 0, some (k - 16)⟩)) rfl (r_iaA (l := (k - 16)) rfl rfl rfl rfl rfl rfl (by omega) (by omega) (by show 0 + (k - 16) * 1 = (k - 16); omega)) <| pQL 39 (W (ws2.getD (k - 16) 0)) (V := []) rfl (by kernel_rfl) (by kernel_rfl) get_here (r_load1 rfl rfl rfl rfl rfl get_here rfl (mapW_get (by rw [hl2]; omega))) <| pP 40 (W ((((ws2.getD (k - 3) 0) ^^^ (ws2.getD (k - 8) 0)) ^^^ (ws2.getD (k - 14) 0)) ^^^ (ws2.getD (k - 16) 0))) rfl (r_bin rfl rfl rfl (b_xorW (((ws2.getD (k - 3) 0) ^^^ (ws2.getD (k - 8) 0)) ^^^ (ws2.getD (k - 14) 0)) (ws2.getD (k - 16) 0))) ?_
   refine pC 41 (v := (W (rl ((((ws2.getD (k - 3) 0) ^^^ (ws2.getD (k - 8) 0)) ^^^ (ws2.getD (k - 14) 0)) ^^^ (ws2.getD (k - 16) 0)) 1))) rfl rfl (s57 _ 1 (by decide)) fun n5 hn5 => pP 42 (.pointer (some ⟨(n + 1), 0, some k⟩)) rfl (r_iaA (l := k) rfl rfl rfl rfl rfl rfl (by omega) (by omega) (by show 0 + k * 1 = k; omega)) <| PQ.op (dst := none) (v := (.tuple #[])) (n1 := n5) (d1 := [((n + 1), some ⟨[((ws2.set k (rl ((((ws2.getD (k - 3) 0) ^^^ (ws2.getD (k - 8) 0)) ^^^ (ws2.getD (k - 14) 0)) ^^^ (ws2.getD (k - 16) 0)) 1)).map W)], 80, 79, true⟩)]) rfl rfl rfl _ (sA (V := []) (by kernel_rfl) (by kernel_rfl)) (r_storeW rfl rfl rfl rfl rfl rfl get_here (by rw [hl2]; omega)) (by omega) (kp1 (wr_tight (by kernel_rfl) (by omega))) <| PQ.done (d := [((n + 1), some ⟨[((ws2.set k (rl ((((ws2.getD (k - 3) 0) ^^^ (ws2.getD (k - 8) 0)) ^^^ (ws2.getD (k - 14) 0)) ^^^ (ws2.getD (k - 16) 0)) 1)).map W)], 80, 79, true⟩)]) (by kernel_rfl) fun _ => RA.rb [(0, (.string s)), (2, (.pointer (some ⟨n, 0, some 0⟩))), (3, (.pointer (some ⟨(n + 1), 0, some 0⟩))), (6, (.int .i64 ((k : Nat) : Int))), (18, yT)] rfl (fun τr6 => ?_)
   refine RA.region env_ok <| OA.ps [(19, (.int .i64 ((k : Nat) : Int)))] rfl <| oP 20 (.int .i64 (((k + 1) : Nat) : Int)) rfl (r_bin rfl rfl rfl (b_add (i64_eq (by omega)))) <| OA.ps [(6, (.int .i64 (((k + 1) : Nat) : Int)))] rfl <| OA.nil ?_
   refine ⟨(80 - (k + 1)), by omega, [((n + 1), some ⟨[((ws2.set k (rl ((((ws2.getD (k - 3) 0) ^^^ (ws2.getD (k - 8) 0)) ^^^ (ws2.getD (k - 14) 0)) ^^^ (ws2.getD (k - 16) 0)) 1)).map W)], 80, 79, true⟩), (n, some ⟨[((List.replicate 80 0#32).map W)], 80, 79, true⟩)], (LsO (fA get_here get_here (fA (get_there (by omega) get_here) (gt2 (by omega) get_here) fan))), (k + 1), (ws2.set k (rl (ws2.getD (k - 3) 0 ^^^ ws2.getD (k - 8) 0 ^^^ ws2.getD (k - 14) 0 ^^^ ws2.getD (k - 16) 0) 1)), rfl, by omega, ⟨rfl, rfl, rfl, rfl, trivial⟩, rfl, (kb2 (by omega)), ⟨by omega, by omega, by rw [List.length_set]; exact hl2, fun j hj => (Nat.lt_or_ge j k).elim (fun h => by rw [lset_ne (by omega)]; exact hf2 j h) (fun h => by rw [show j = k from by omega, lset_self (by omega), wd_hi (by omega), hf2 _ (by omega), hf2 _ (by omega), hf2 _ (by omega), hf2 _ (by omega)])⟩⟩
  ·
   refine oP 18 yF rfl (Eq.trans (r_bin rfl rfl rfl (b_lss rfl)) (dF hc2)) <| OA.nil fun _ => RA.condF rfl ?_
   refine RA.exit env_ok ?_
   intro _
   refine RA.sR hd env_ok <| oP 43 (.agg ⟨(ws2.map W)⟩) rfl (r_loadA rfl rfl rfl rfl get_here rfl (take_all (by simp [hl2]; rfl)) (by simp [hl2]; rfl)) <| o1 none yU n4 (n, some ⟨[(ws2.map W)], 80, 79, true⟩) (r_storeAll rfl rfl rfl rfl (by simp [hl2]; rfl) (mapW_one _) (get_there (by omega) get_here) rfl rfl (by simp [List.length_replicate]; rfl)) <| OA.nil fun _ => ?_
   refine RA.ret env_ok ?_
   refine ⟨.inr rfl, [(.agg ⟨(ws2.map W)⟩)], (resL_cons (res_cellA rfl rfl rfl get_here rfl (take_all (by simp [hl2]; rfl)) (by simp [hl2]; rfl)) resL_nil), (by rw [one, list_of (d := 0#32) hl2 (fun j hj => hf2 j (by omega))]), (kc3 (by omega))⟩
end Go.Proofs.Ytdnkhdkflemkeaa.Vt
/- Dg4: walks through functions of the program, by the calculus; written by a program of this workplace. -/
namespace Go.Proofs.Ytdnkhdkflemkeaa.Vt
open Go Go.Proofs Go.Proofs.YtdnkhdkflemkeaaV
set_option maxRecDepth 100000
set_option linter.unusedVariables false
set_option linter.unusedSimpArgs false
set_option maxHeartbeats 8000000
def be4 (x : BitVec 32) : List UInt8 := [UInt8.ofNat (x >>> 24).toNat, UInt8.ofNat (x >>> 16).toNat, UInt8.ofNat (x >>> 8).toNat, UInt8.ofNat x.toNat]
def h0 : H5 := ⟨1732584193#32, 4023233417#32, 2562383102#32, 271733878#32, 3285377520#32⟩
def hs (t : ByteArray) : Nat → H5
  | 0 => h0
  | k + 1 => blk (hs t k) (t.extract (64 * k) (64 * k + 64))
def be8 (m : Nat) : List UInt8 := be4 (BitVec.ofNat 32 (m / 4294967296)) ++ be4 (BitVec.ofNat 32 m)
def padded (s : ByteArray) : ByteArray := s ++ ⟨#[128]⟩ ++ bstr (List.replicate ((119 - s.size % 64) % 64) 0) ++ bstr (be8 (s.size * 8))
def out5 (h : H5) : ByteArray := bstr (be4 h.a ++ be4 h.b ++ be4 h.c ++ be4 h.d ++ be4 h.e)
def sha (s : ByteArray) : ByteArray := out5 (hs (padded s) ((padded s).size / 64))
theorem be4_len (x : BitVec 32) : (be4 x).length = 4 := rfl
theorem be8_len (m : Nat) : (be8 m).length = 8 := rfl
theorem padded_size (s : ByteArray) : (padded s).size = s.size + 1 + (119 - s.size % 64) % 64 + 8 := by
  unfold padded
  simp only [ByteArray.size_append, bstr_size, List.length_replicate, be8_len, size_lit, List.size_toArray, List.length_cons, List.length_nil]
theorem padded_mod (s : ByteArray) : (padded s).size % 64 = 0 := by rw [padded_size]; omega
theorem ext_ext2 (s : ByteArray) (a b : Nat) (h : a + b ≤ s.size) : (s.extract a s.size).extract 0 b = s.extract a (a + b) := by
  apply L_ext
  rw [L_extract, L_extract, L_extract, List.drop_zero, List.take_take]
  congr 1
  omega
theorem out5_eq (h : H5) : (⟨#[]⟩ : ByteArray) ++ bstr (be4 h.a) ++ bstr (be4 h.b) ++ bstr (be4 h.c) ++ bstr (be4 h.d) ++ bstr (be4 h.e) = out5 h := by
  apply L_ext
  simp only [L_append, L_bstr, out5]
  rfl
theorem bstr_app (l m : List UInt8) : bstr l ++ bstr m = bstr (l ++ m) := by
  apply L_ext; rw [L_append, L_bstr, L_bstr, L_bstr]
theorem ext_full (s : ByteArray) {n : Nat} (h : s.size = n) : s.extract 0 n = s := by
  apply L_ext; rw [L_extract, List.drop_zero, List.take_of_length_le (by rw [L_len]; omega)]
theorem s37 {σ : Store}    : PS Try.prog noDen 37 [] σ (.agg ⟨[W h0.a, W h0.b, W h0.c, W h0.d, W h0.e]⟩) := by
 refine PS.body (E := env) env_ok rfl rfl (by show _ ≤ _; exact of_decide_eq_true (by kernel_rfl)) (fun n hd => ?_)
 refine RA.sR hd env_ok <| o1 (some 0) (.pointer (some ⟨n, 0, some 0⟩)) (n + 1) (n, some ⟨[[(.int .u32 0), (.int .u32 0), (.int .u32 0), (.int .u32 0), (.int .u32 0)]], 5, 60, true⟩) rfl <| OA.nil fun _ => RA.sR hd env_ok <| oP 1 (.agg ⟨[(.int .u32 1732584193), (.int .u32 4023233417), (.int .u32 2562383102), (.int .u32 271733878), (.int .u32 3285377520)]⟩) rfl (by kernel_rfl) <| o1 none yU (n + 1) (n, some ⟨[[(.int .u32 1732584193), (.int .u32 4023233417), (.int .u32 2562383102), (.int .u32 271733878), (.int .u32 3285377520)]], 5, 60, true⟩) (rS get_here) <| OA.nil fun _ => ?_
 refine RA.ret env_ok ?_
 refine ⟨.inr rfl, [(.agg ⟨[(.int .u32 1732584193), (.int .u32 4023233417), (.int .u32 2562383102), (.int .u32 271733878), (.int .u32 3285377520)]⟩)], (resL_cons (res_cellA rfl rfl rfl get_here rfl rfl rfl) resL_nil), rfl, (kc2 (by omega))⟩
theorem s39 {σ : Store} (h : H5) (s : ByteArray) (hs : s.size = 64)   : PS Try.prog noDen 39 [(.agg ⟨[(W h.a), (W h.b), (W h.c), (W h.d), (W h.e)]⟩), (.string s)] σ (.agg ⟨[W (blk h s).a, W (blk h s).b, W (blk h s).c, W (blk h s).d, W (blk h s).e]⟩) := by
 refine PS.body (E := env) env_ok rfl rfl (by show _ ≤ _; exact of_decide_eq_true (by kernel_rfl)) (fun n hd => ?_)
 refine RA.sR hd env_ok <| o1 (some 2) (.pointer (some ⟨n, 0, some 0⟩)) (n + 1) (n, some ⟨[[(W h.a), (W h.b), (W h.c), (W h.d), (W h.e)]], 5, 60, true⟩) rfl <| o1 (some 4) (.pointer (some ⟨(n + 1), 0, some 0⟩)) (n + 2) ((n + 1), some ⟨[[(.int .u32 0), (.int .u32 0), (.int .u32 0), (.int .u32 0), (.int .u32 0)]], 5, 60, true⟩) rfl <| OA.nil fun _ => RA.seq hd <| RA.par (md := [some [], some [], some [n], some [], some [], none, none]) env_ok (hd.of (by omega) (kb2 (by omega))) (by kernel_rfl) <| PQ.ps [(12, (.string s))] rfl <| pC 13 rfl rfl (s55 s hs) fun n1 hn1 => pQL 14 (.agg ⟨[(W h.a), (W h.b), (W h.c), (W h.d), (W h.e)]⟩) (V := []) rfl (by kernel_rfl) (by kernel_rfl) (get_there (by omega) get_here) (r_loadA rfl rfl rfl rfl get_here rfl rfl rfl) <| PQ.op (dst := (some 5)) (v := (.pointer (some ⟨n1, 0, some 0⟩))) (n1 := (n1 + 1)) (d1 := [(n1, some ⟨[((List.replicate 80 0#32).map W)], 80, 79, true⟩)]) rfl rfl rfl noStore nOK (by kernel_rfl) (by omega) (kp1 (wr_new (by omega) (by omega))) <| PQ.op (dst := (some 6)) (v := (.pointer (some ⟨(n1 + 1), 0, some 0⟩))) (n1 := (n1 + 2)) (d1 := [((n1 + 1), some ⟨[[(.int .u32 0), (.int .u32 0), (.int .u32 0), (.int .u32 0), (.int .u32 0)]], 5, 60, true⟩)]) rfl rfl rfl noStore nOK rfl (by omega) (kp1 (wr_new (by omega) (by omega))) ?_
 refine PQ.op (dst := none) (v := (.tuple #[])) (n1 := (n1 + 2)) (d1 := [(n1, some ⟨[(((List.range 80).map (wd s)).map W)], 80, 79, true⟩)]) rfl rfl rfl _ (sA (V := [((n1 + 1), some ⟨[[(.int .u32 0), (.int .u32 0), (.int .u32 0), (.int .u32 0), (.int .u32 0)]], 5, 60, true⟩), (n1, some ⟨[((List.replicate 80 0#32).map W)], 80, 79, true⟩)]) (by kernel_rfl) (by kernel_rfl)) (r_storeAll rfl rfl rfl rfl (by simp [List.length_map, List.length_range]; rfl) (mapW_one _) (get_there (by omega) get_here) rfl rfl (by simp [List.length_replicate]; rfl)) (by omega) (kp1 (wr_late [2] (by kernel_rfl) (by kernel_rfl) (by omega) 3 (by kernel_rfl) (by simp [keys]) (fac (lo1 rfl (by omega)) fan))) <| PQ.op (dst := none) (v := (.tuple #[])) (n1 := (n1 + 2)) (d1 := [((n1 + 1), some ⟨[[(W h.a), (W h.b), (W h.c), (W h.d), (W h.e)]], 5, 60, true⟩)]) rfl rfl rfl _ (sA (V := [(n1, some ⟨[(((List.range 80).map (wd s)).map W)], 80, 79, true⟩), ((n1 + 1), some ⟨[[(.int .u32 0), (.int .u32 0), (.int .u32 0), (.int .u32 0), (.int .u32 0)]], 5, 60, true⟩), (n1, some ⟨[((List.replicate 80 0#32).map W)], 80, 79, true⟩)]) (by kernel_rfl) (by kernel_rfl)) (rS (get_there (by omega) get_here)) (by omega) (kp1 (wr_tight (by kernel_rfl) (by omega))) <| PQ.done (d := [((n1 + 1), some ⟨[[(W h.a), (W h.b), (W h.c), (W h.d), (W h.e)]], 5, 60, true⟩), (n1, some ⟨[(((List.range 80).map (wd s)).map W)], 80, 79, true⟩), ((n1 + 1), some ⟨[[(.int .u32 0), (.int .u32 0), (.int .u32 0), (.int .u32 0), (.int .u32 0)]], 5, 60, true⟩), (n1, some ⟨[((List.replicate 80 0#32).map W)], 80, 79, true⟩)]) (by kernel_rfl) fun _ => RA.seq hd <| RA.sR hd env_ok <| OA.ps [(15, (.int .i64 0))] rfl <| OA.nil fun _ => RA.block <| RA.weaken hd (LsO (fA get_here get_here (fA (get_there (by omega) get_here) (get_there (by omega) get_here) (fA (gt2 (by omega) get_here) (gt4 (by omega) get_here) (fA (gt3 (by omega) get_here) (gt5 (by omega) get_here) fan))))) ?_
 refine RA.loop hd (fun kk_ τ n' D => ∃ i : Nat,  kk_ = (80 - i) ∧ (n1 + 2) ≤ n' ∧ Has τ [(2, (.pointer (some ⟨n, 0, some 0⟩))), (4, (.pointer (some ⟨(n + 1), 0, some 0⟩))), (5, (.pointer (some ⟨n1, 0, some 0⟩))), (6, (.pointer (some ⟨(n1 + 1), 0, some 0⟩))), (15, (.int .i64 ((i : Nat) : Int)))] ∧ D = [((n1 + 1), some ⟨[[(W (rd (wd s) h i).a), (W (rd (wd s) h i).b), (W (rd (wd s) h i).c), (W (rd (wd s) h i).d), (W (rd (wd s) h i).e)]], 5, 60, true⟩), (n1, some ⟨[(((List.range 80).map (wd s)).map W)], 80, 79, true⟩), ((n + 1), some ⟨[[(.int .u32 0), (.int .u32 0), (.int .u32 0), (.int .u32 0), (.int .u32 0)]], 5, 60, true⟩), (n, some ⟨[[(W h.a), (W h.b), (W h.c), (W h.d), (W h.e)]], 5, 60, true⟩)] ∧ (∀ i ∈ keys D, i < n') ∧ i ≤ 80) ((80 - 0)) ⟨0, rfl, by omega, ⟨rfl, rfl, rfl, rfl, rfl, trivial⟩, rfl, (kb4 (by omega)), by omega⟩ ?_
 rintro kn2 τ2 n2 _ ⟨i, rfl, hn2, hHn2, rfl, hKn2, hIn2⟩
 rw [Has.eq hHn2]
 have hKn2_0 := kk0 hKn2
 have hKn2_1 := kk1 hKn2
 have hKn2_2 := kk2 hKn2
 have hKn2_3 := kk3 hKn2
 simp only [keys, List.map, List.forall_mem_cons, List.mem_cons, List.not_mem_nil, false_imp_iff, implies_true, and_true] at hKn2
 refine RA.sR hd env_ok ?_
 by_cases hc1 : ((i : Nat) : Int) < 80
 ·
  refine oP 16 yT rfl (Eq.trans (r_bin rfl rfl rfl (b_lss rfl)) (dT hc1)) <| OA.nil fun _ => RA.seq hd <| RA.condT rfl <| RA.skip env_ok ?_
  intro _
  refine RA.seq hd <| RA.block <| RA.sR hd env_ok <| OA.ps [(17, (.int .i64 ((i : Nat) : Int))), (7, (.int .i64 ((i : Nat) : Int)))] rfl <| OA.nil fun _ => RA.sR hd env_ok <| OA.ps [(19, (.int .i64 ((i : Nat) : Int)))] rfl <| oP 20 (.pointer (some ⟨(n1 + 1), 0, some 1⟩)) rfl (r_iaA (l := 1) rfl rfl rfl rfl rfl rfl (by omega) (by omega) (by show 0 + 1 * 1 = 1; omega)) <| oL 21 (W (rd (wd s) h i).b) get_here <| oP 22 (.pointer (some ⟨(n1 + 1), 0, some 2⟩)) rfl (r_iaA (l := 2) rfl rfl rfl rfl rfl rfl (by omega) (by omega) (by show 0 + 2 * 1 = 2; omega)) <| oL 23 (W (rd (wd s) h i).c) get_here ?_
  refine oP 24 (.pointer (some ⟨(n1 + 1), 0, some 3⟩)) rfl (r_iaA (l := 3) rfl rfl rfl rfl rfl rfl (by omega) (by omega) (by show 0 + 3 * 1 = 3; omega)) <| oL 25 (W (rd (wd s) h i).d) get_here <| oC 26 (v := (.tuple ⟨[(W (fk i (rd (wd s) h i).b (rd (wd s) h i).c (rd (wd s) h i).d).1), (W (fk i (rd (wd s) h i).b (rd (wd s) h i).c (rd (wd s) h i).d).2)]⟩)) (hd.of (by omega) (kb4 (by omega))) rfl rfl (s56 i (by omega) _ _ _) fun n3 hn3 => OA.ps [(18, (.tuple ⟨[(W (fk i (rd (wd s) h i).b (rd (wd s) h i).c (rd (wd s) h i).d).1), (W (fk i (rd (wd s) h i).b (rd (wd s) h i).c (rd (wd s) h i).d).2)]⟩)), (27, (W (fk i (rd (wd s) h i).b (rd (wd s) h i).c (rd (wd s) h i).d).1)), (28, (W (fk i (rd (wd s) h i).b (rd (wd s) h i).c (rd (wd s) h i).d).2)), (8, (W (fk i (rd (wd s) h i).b (rd (wd s) h i).c (rd (wd s) h i).d).1)), (9, (W (fk i (rd (wd s) h i).b (rd (wd s) h i).c (rd (wd s) h i).d).2))] rfl <| OA.nil fun _ => RA.seq hd <| RA.par (md := [some [], some [(n1 + 1)], some [], some [], some [], some [], some [(n1 + 1)], some [], some [], some [], some [], some [], some [n1], some [], some []]) env_ok (hd.of (by omega) (kb4 (by omega))) (by kernel_rfl) <| pP 29 (.pointer (some ⟨(n1 + 1), 0, some 0⟩)) rfl (r_iaA (l := 0) rfl rfl rfl rfl rfl rfl (by omega) (by omega) (by show 0 + 0 * 1 = 0; omega)) <| pQl 30 (W (rd (wd s) h i).a) get_here <| pC 31 (v := (W (rl (rd (wd s) h i).a 5))) rfl rfl (s57 _ 5 (by decide)) fun n4 hn4 => PQ.ps [(32, (W (fk i (rd (wd s) h i).b (rd (wd s) h i).c (rd (wd s) h i).d).1))] rfl ?_
  refine pP 33 (W ((rl (rd (wd s) h i).a 5) + (fk i (rd (wd s) h i).b (rd (wd s) h i).c (rd (wd s) h i).d).1)) rfl (r_bin rfl rfl rfl (b_addW (rl (rd (wd s) h i).a 5) (fk i (rd (wd s) h i).b (rd (wd s) h i).c (rd (wd s) h i).d).1)) <| pP 34 (.pointer (some ⟨(n1 + 1), 0, some 4⟩)) rfl (r_iaA (l := 4) rfl rfl rfl rfl rfl rfl (by omega) (by omega) (by show 0 + 4 * 1 = 4; omega)) <| pQl 35 (W (rd (wd s) h i).e) get_here <| pP 36 (W (((rl (rd (wd s) h i).a 5) + (fk i (rd (wd s) h i).b (rd (wd s) h i).c (rd (wd s) h i).d).1) + (rd (wd s) h i).e)) rfl (r_bin rfl rfl rfl (b_addW ((rl (rd (wd s) h i).a 5) + (fk i (rd (wd s) h i).b (rd (wd s) h i).c (rd (wd s) h i).d).1) (rd (wd s) h i).e)) <| PQ.ps [(37, (W (fk i (rd (wd s) h i).b (rd (wd s) h i).c (rd (wd s) h i).d).2))] rfl <| pP 38 (W ((((rl (rd (wd s) h i).a 5) + (fk i (rd (wd s) h i).b (rd (wd s) h i).c (rd (wd s) h i).d).1) + (rd (wd s) h i).e) + (fk i (rd (wd s) h i).b (rd (wd s) h i).c (rd (wd s) h i).d).2)) rfl (r_bin rfl rfl rfl (b_addW (((rl (rd (wd s) h i).a 5) + (fk i (rd (wd s) h i).b (rd (wd s) h i).c (rd (wd s) h i).d).1) + (rd (wd s) h i).e) (fk i (rd (wd s) h i).b (rd (wd s) h i).c (rd (wd s) h i).d).2)) <| PQ.ps [(39, (.int .i64 ((i : Nat) : Int)))] rfl <| pP 40 (.pointer (some ⟨n1, 0, some i⟩)) rfl (r_iaA (l := i) rfl rfl rfl rfl rfl rfl (by omega) (by omega) (by show 0 + i * 1 = i; omega)) <| pQL 41 (W ((wd s) i)) (V := []) rfl (by kernel_rfl) (by kernel_rfl) (get_there (by omega) get_here) (r_load1 rfl rfl rfl rfl rfl get_here rfl (mapWf_get (by omega))) <| pP 42 (W (((((rl (rd (wd s) h i).a 5) + (fk i (rd (wd s) h i).b (rd (wd s) h i).c (rd (wd s) h i).d).1) + (rd (wd s) h i).e) + (fk i (rd (wd s) h i).b (rd (wd s) h i).c (rd (wd s) h i).d).2) + ((wd s) i))) rfl (r_bin rfl rfl rfl (b_addW ((((rl (rd (wd s) h i).a 5) + (fk i (rd (wd s) h i).b (rd (wd s) h i).c (rd (wd s) h i).d).1) + (rd (wd s) h i).e) + (fk i (rd (wd s) h i).b (rd (wd s) h i).c (rd (wd s) h i).d).2) ((wd s) i))) <| PQ.ps [(10, (W (((((rl (rd (wd s) h i).a 5) + (fk i (rd (wd s) h i).b (rd (wd s) h i).c (rd (wd s) h i).d).1) + (rd (wd s) h i).e) + (fk i (rd (wd s) h i).b (rd (wd s) h i).c (rd (wd s) h i).d).2) + ((wd s) i))))] rfl ?_
  refine PQ.done (d := []) (by kernel_rfl) fun _ => RA.rb [(2, (.pointer (some ⟨n, 0, some 0⟩))), (4, (.pointer (some ⟨(n + 1), 0, some 0⟩))), (5, (.pointer (some ⟨n1, 0, some 0⟩))), (6, (.pointer (some ⟨(n1 + 1), 0, some 0⟩))), (7, (.int .i64 ((i : Nat) : Int))), (8, (W (fk i (rd (wd s) h i).b (rd (wd s) h i).c (rd (wd s) h i).d).1)), (9, (W (fk i (rd (wd s) h i).b (rd (wd s) h i).c (rd (wd s) h i).d).2)), (10, (W (((((rl (rd (wd s) h i).a 5) + (fk i (rd (wd s) h i).b (rd (wd s) h i).c (rd (wd s) h i).d).1) + (rd (wd s) h i).e) + (fk i (rd (wd s) h i).b (rd (wd s) h i).c (rd (wd s) h i).d).2) + ((wd s) i)))), (15, (.int .i64 ((i : Nat) : Int))), (16, yT)] rfl (fun τr5 => ?_)
  refine RA.par (md := [some [], some [], some [(n1 + 1)], some [], some [(n1 + 1)], some [], some [], some [(n1 + 1)], some [], some [(n1 + 1)], some [], none]) env_ok (hd.of (by omega) (kb4 (by omega))) (by kernel_rfl) <| PQ.ps [(43, (W (((((rl (rd (wd s) h i).a 5) + (fk i (rd (wd s) h i).b (rd (wd s) h i).c (rd (wd s) h i).d).1) + (rd (wd s) h i).e) + (fk i (rd (wd s) h i).b (rd (wd s) h i).c (rd (wd s) h i).d).2) + ((wd s) i))))] rfl <| pP 44 (.pointer (some ⟨(n1 + 1), 0, some 0⟩)) rfl (r_iaA (l := 0) rfl rfl rfl rfl rfl rfl (by omega) (by omega) (by show 0 + 0 * 1 = 0; omega)) <| pQl 45 (W (rd (wd s) h i).a) get_here <| pP 46 (.pointer (some ⟨(n1 + 1), 0, some 1⟩)) rfl (r_iaA (l := 1) rfl rfl rfl rfl rfl rfl (by omega) (by omega) (by show 0 + 1 * 1 = 1; omega)) <| pQl 47 (W (rd (wd s) h i).b) get_here <| pC 48 (v := (W (rl (rd (wd s) h i).b 30))) rfl rfl (s57 _ 30 (by decide)) fun n6 hn6 => pP 49 (.pointer (some ⟨(n1 + 1), 0, some 2⟩)) rfl (r_iaA (l := 2) rfl rfl rfl rfl rfl rfl (by omega) (by omega) (by show 0 + 2 * 1 = 2; omega)) <| pQl 50 (W (rd (wd s) h i).c) get_here <| pP 51 (.pointer (some ⟨(n1 + 1), 0, some 3⟩)) rfl (r_iaA (l := 3) rfl rfl rfl rfl rfl rfl (by omega) (by omega) (by show 0 + 3 * 1 = 3; omega)) <| pQl 52 (W (rd (wd s) h i).d) get_here ?_
  refine pP 53 (.agg ⟨[(W (((((rl (rd (wd s) h i).a 5) + (fk i (rd (wd s) h i).b (rd (wd s) h i).c (rd (wd s) h i).d).1) + (rd (wd s) h i).e) + (fk i (rd (wd s) h i).b (rd (wd s) h i).c (rd (wd s) h i).d).2) + ((wd s) i))), (W (rd (wd s) h i).a), (W (rl (rd (wd s) h i).b 30)), (W (rd (wd s) h i).c), (W (rd (wd s) h i).d)]⟩) rfl (by kernel_rfl) <| PQ.op (dst := none) (v := (.tuple #[])) (n1 := n6) (d1 := [((n1 + 1), some ⟨[[(W (((((rl (rd (wd s) h i).a 5) + (fk i (rd (wd s) h i).b (rd (wd s) h i).c (rd (wd s) h i).d).1) + (rd (wd s) h i).e) + (fk i (rd (wd s) h i).b (rd (wd s) h i).c (rd (wd s) h i).d).2) + ((wd s) i))), (W (rd (wd s) h i).a), (W (rl (rd (wd s) h i).b 30)), (W (rd (wd s) h i).c), (W (rd (wd s) h i).d)]], 5, 60, true⟩)]) rfl rfl rfl _ (sA (V := []) (by kernel_rfl) (by kernel_rfl)) (rS get_here) (by omega) (kp1 (wr_tight (by kernel_rfl) (by omega))) <| PQ.done (d := [((n1 + 1), some ⟨[[(W (((((rl (rd (wd s) h i).a 5) + (fk i (rd (wd s) h i).b (rd (wd s) h i).c (rd (wd s) h i).d).1) + (rd (wd s) h i).e) + (fk i (rd (wd s) h i).b (rd (wd s) h i).c (rd (wd s) h i).d).2) + ((wd s) i))), (W (rd (wd s) h i).a), (W (rl (rd (wd s) h i).b 30)), (W (rd (wd s) h i).c), (W (rd (wd s) h i).d)]], 5, 60, true⟩)]) (by kernel_rfl) fun _ => RA.weaken hd (LsO (fA get_here get_here (fA (get_there (by omega) get_here) (gt2 (by omega) get_here) (fA (gt2 (by omega) get_here) (gt3 (by omega) get_here) (fA (gt3 (by omega) get_here) (gt4 (by omega) get_here) fan))))) <| RA.region env_ok <| oP 54 (.int .i64 (((i + 1) : Nat) : Int)) rfl (r_bin rfl rfl rfl (b_add (i64_eq (by omega)))) <| OA.ps [(15, (.int .i64 (((i + 1) : Nat) : Int)))] rfl <| OA.nil ?_
  refine ⟨(80 - (i + 1)), by omega, [((n1 + 1), some ⟨[[(W (((((rl (rd (wd s) h i).a 5) + (fk i (rd (wd s) h i).b (rd (wd s) h i).c (rd (wd s) h i).d).1) + (rd (wd s) h i).e) + (fk i (rd (wd s) h i).b (rd (wd s) h i).c (rd (wd s) h i).d).2) + ((wd s) i))), (W (rd (wd s) h i).a), (W (rl (rd (wd s) h i).b 30)), (W (rd (wd s) h i).c), (W (rd (wd s) h i).d)]], 5, 60, true⟩), (n1, some ⟨[(((List.range 80).map (wd s)).map W)], 80, 79, true⟩), ((n + 1), some ⟨[[(.int .u32 0), (.int .u32 0), (.int .u32 0), (.int .u32 0), (.int .u32 0)]], 5, 60, true⟩), (n, some ⟨[[(W h.a), (W h.b), (W h.c), (W h.d), (W h.e)]], 5, 60, true⟩)], (Less.refl _ _ _), (i + 1), rfl, by omega, ⟨rfl, rfl, rfl, rfl, rfl, trivial⟩, rfl, (kb4 (by omega)), by omega⟩
 ·
  refine oP 16 yF rfl (Eq.trans (r_bin rfl rfl rfl (b_lss rfl)) (dF hc1)) <| OA.nil fun _ => RA.seq hd <| RA.condF rfl ?_
  refine RA.exit env_ok ?_
  intro _
  refine RA.seq hd <| RA.sR hd env_ok <| OA.ps [(55, (.int .i64 0))] rfl <| OA.nil fun _ => RA.block ?_
  refine RA.unroll hd ?_
  refine RA.sR hd env_ok <| oP 56 yT rfl (r_bin rfl rfl rfl (b_lss rfl)) <| OA.nil fun _ => RA.seq hd <| RA.condT rfl <| RA.skip env_ok ?_
  intro _
  refine RA.seq hd <| RA.block <| RA.sR hd env_ok <| OA.ps [(57, (.int .i64 0)), (11, (.int .i64 0))] rfl <| OA.nil fun _ => RA.par (md := [some [], some [], some [n], some [], some [], some [(n1 + 1)], some [], some [], none]) env_ok (hd.of (by omega) (kb4 (by omega))) (by kernel_rfl) <| PQ.ps [(58, (.int .i64 0))] rfl <| pP 59 (.pointer (some ⟨n, 0, some 0⟩)) rfl (r_iaA (l := 0) rfl rfl rfl rfl rfl rfl (by omega) (by omega) (by show 0 + 0 * 1 = 0; omega)) <| pQl 60 (W h.a) (gt3 (by omega) get_here) <| PQ.ps [(61, (.int .i64 0))] rfl <| pP 62 (.pointer (some ⟨(n1 + 1), 0, some 0⟩)) rfl (r_iaA (l := 0) rfl rfl rfl rfl rfl rfl (by omega) (by omega) (by show 0 + 0 * 1 = 0; omega)) ?_
  refine pQl 63 (W (rd (wd s) h i).a) get_here <| pP 64 (W (h.a + (rd (wd s) h i).a)) rfl (r_bin rfl rfl rfl (b_addW h.a (rd (wd s) h i).a)) <| pP 65 (.pointer (some ⟨n, 0, some 0⟩)) rfl (r_iaA (l := 0) rfl rfl rfl rfl rfl rfl (by omega) (by omega) (by show 0 + 0 * 1 = 0; omega)) <| PQ.op (dst := none) (v := (.tuple #[])) (n1 := n2) (d1 := [(n, some ⟨[[(W (h.a + (rd (wd s) h i).a)), (W h.b), (W h.c), (W h.d), (W h.e)]], 5, 60, true⟩)]) rfl rfl rfl _ (sA (V := []) (by kernel_rfl) (by kernel_rfl)) (rS (gt3 (by omega) get_here)) (by omega) (kp1 (wr_tight (by kernel_rfl) (by omega))) <| PQ.done (d := [(n, some ⟨[[(W (h.a + (rd (wd s) h i).a)), (W h.b), (W h.c), (W h.d), (W h.e)]], 5, 60, true⟩)]) (by kernel_rfl) fun _ => RA.region env_ok <| oP 66 (.int .i64 1) rfl (r_bin rfl rfl rfl (b_add (i64_eq (by omega)))) <| OA.ps [(55, (.int .i64 1))] rfl <| OA.nil fun _ => ?_
  refine RA.unroll hd ?_
  refine RA.sR hd env_ok <| oP 56 yT rfl (r_bin rfl rfl rfl (b_lss rfl)) <| OA.nil fun _ => RA.seq hd <| RA.condT rfl <| RA.skip env_ok ?_
  intro _
  refine RA.seq hd <| RA.block <| RA.sR hd env_ok <| OA.ps [(57, (.int .i64 1)), (11, (.int .i64 1))] rfl <| OA.nil fun _ => RA.par (md := [some [], some [], some [n], some [], some [], some [(n1 + 1)], some [], some [], none]) env_ok (hd.of (by omega) (kb5 (by omega))) (by kernel_rfl) <| PQ.ps [(58, (.int .i64 1))] rfl <| pP 59 (.pointer (some ⟨n, 0, some 1⟩)) rfl (r_iaA (l := 1) rfl rfl rfl rfl rfl rfl (by omega) (by omega) (by show 0 + 1 * 1 = 1; omega)) <| pQl 60 (W h.b) get_here <| PQ.ps [(61, (.int .i64 1))] rfl <| pP 62 (.pointer (some ⟨(n1 + 1), 0, some 1⟩)) rfl (r_iaA (l := 1) rfl rfl rfl rfl rfl rfl (by omega) (by omega) (by show 0 + 1 * 1 = 1; omega)) ?_
  refine pQl 63 (W (rd (wd s) h i).b) (get_there (by omega) get_here) <| pP 64 (W (h.b + (rd (wd s) h i).b)) rfl (r_bin rfl rfl rfl (b_addW h.b (rd (wd s) h i).b)) <| pP 65 (.pointer (some ⟨n, 0, some 1⟩)) rfl (r_iaA (l := 1) rfl rfl rfl rfl rfl rfl (by omega) (by omega) (by show 0 + 1 * 1 = 1; omega)) <| PQ.op (dst := none) (v := (.tuple #[])) (n1 := n2) (d1 := [(n, some ⟨[[(W (h.a + (rd (wd s) h i).a)), (W (h.b + (rd (wd s) h i).b)), (W h.c), (W h.d), (W h.e)]], 5, 60, true⟩)]) rfl rfl rfl _ (sA (V := []) (by kernel_rfl) (by kernel_rfl)) (rS get_here) (by omega) (kp1 (wr_tight (by kernel_rfl) (by omega))) <| PQ.done (d := [(n, some ⟨[[(W (h.a + (rd (wd s) h i).a)), (W (h.b + (rd (wd s) h i).b)), (W h.c), (W h.d), (W h.e)]], 5, 60, true⟩)]) (by kernel_rfl) fun _ => RA.weaken hd (LsO (fA get_here get_here (fA (get_there (by omega) get_here) (gt2 (by omega) get_here) (fA (gt2 (by omega) get_here) (gt3 (by omega) get_here) (fA (gt3 (by omega) get_here) (gt4 (by omega) get_here) fan))))) <| RA.rb [(2, (.pointer (some ⟨n, 0, some 0⟩))), (4, (.pointer (some ⟨(n + 1), 0, some 0⟩))), (5, (.pointer (some ⟨n1, 0, some 0⟩))), (6, (.pointer (some ⟨(n1 + 1), 0, some 0⟩))), (11, (.int .i64 1)), (15, (.int .i64 ((i : Nat) : Int))), (16, yF), (55, (.int .i64 1)), (56, yT)] rfl (fun τr7 => ?_)
  refine RA.region env_ok <| oP 66 (.int .i64 2) rfl (r_bin rfl rfl rfl (b_add (i64_eq (by omega)))) <| OA.ps [(55, (.int .i64 2))] rfl <| OA.nil fun _ => ?_
  refine RA.unroll hd ?_
  refine RA.sR hd env_ok <| oP 56 yT rfl (r_bin rfl rfl rfl (b_lss rfl)) <| OA.nil fun _ => RA.seq hd <| RA.condT rfl <| RA.skip env_ok ?_
  intro _
  refine RA.seq hd <| RA.block <| RA.sR hd env_ok <| OA.ps [(57, (.int .i64 2)), (11, (.int .i64 2))] rfl <| OA.nil fun _ => RA.par (md := [some [], some [], some [n], some [], some [], some [(n1 + 1)], some [], some [], none]) env_ok (hd.of (by omega) (kb4 (by omega))) (by kernel_rfl) <| PQ.ps [(58, (.int .i64 2))] rfl <| pP 59 (.pointer (some ⟨n, 0, some 2⟩)) rfl (r_iaA (l := 2) rfl rfl rfl rfl rfl rfl (by omega) (by omega) (by show 0 + 2 * 1 = 2; omega)) <| pQl 60 (W h.c) get_here <| PQ.ps [(61, (.int .i64 2))] rfl <| pP 62 (.pointer (some ⟨(n1 + 1), 0, some 2⟩)) rfl (r_iaA (l := 2) rfl rfl rfl rfl rfl rfl (by omega) (by omega) (by show 0 + 2 * 1 = 2; omega)) ?_
  refine pQl 63 (W (rd (wd s) h i).c) (get_there (by omega) get_here) <| pP 64 (W (h.c + (rd (wd s) h i).c)) rfl (r_bin rfl rfl rfl (b_addW h.c (rd (wd s) h i).c)) <| pP 65 (.pointer (some ⟨n, 0, some 2⟩)) rfl (r_iaA (l := 2) rfl rfl rfl rfl rfl rfl (by omega) (by omega) (by show 0 + 2 * 1 = 2; omega)) <| PQ.op (dst := none) (v := (.tuple #[])) (n1 := n2) (d1 := [(n, some ⟨[[(W (h.a + (rd (wd s) h i).a)), (W (h.b + (rd (wd s) h i).b)), (W (h.c + (rd (wd s) h i).c)), (W h.d), (W h.e)]], 5, 60, true⟩)]) rfl rfl rfl _ (sA (V := []) (by kernel_rfl) (by kernel_rfl)) (rS get_here) (by omega) (kp1 (wr_tight (by kernel_rfl) (by omega))) <| PQ.done (d := [(n, some ⟨[[(W (h.a + (rd (wd s) h i).a)), (W (h.b + (rd (wd s) h i).b)), (W (h.c + (rd (wd s) h i).c)), (W h.d), (W h.e)]], 5, 60, true⟩)]) (by kernel_rfl) fun _ => RA.region env_ok <| oP 66 (.int .i64 3) rfl (r_bin rfl rfl rfl (b_add (i64_eq (by omega)))) <| OA.ps [(55, (.int .i64 3))] rfl <| OA.nil fun _ => ?_
  refine RA.unroll hd ?_
  refine RA.sR hd env_ok <| oP 56 yT rfl (r_bin rfl rfl rfl (b_lss rfl)) <| OA.nil fun _ => RA.seq hd <| RA.condT rfl <| RA.skip env_ok ?_
  intro _
  refine RA.seq hd <| RA.block <| RA.sR hd env_ok <| OA.ps [(57, (.int .i64 3)), (11, (.int .i64 3))] rfl <| OA.nil fun _ => RA.par (md := [some [], some [], some [n], some [], some [], some [(n1 + 1)], some [], some [], none]) env_ok (hd.of (by omega) (kb5 (by omega))) (by kernel_rfl) <| PQ.ps [(58, (.int .i64 3))] rfl <| pP 59 (.pointer (some ⟨n, 0, some 3⟩)) rfl (r_iaA (l := 3) rfl rfl rfl rfl rfl rfl (by omega) (by omega) (by show 0 + 3 * 1 = 3; omega)) <| pQl 60 (W h.d) get_here <| PQ.ps [(61, (.int .i64 3))] rfl <| pP 62 (.pointer (some ⟨(n1 + 1), 0, some 3⟩)) rfl (r_iaA (l := 3) rfl rfl rfl rfl rfl rfl (by omega) (by omega) (by show 0 + 3 * 1 = 3; omega)) ?_
  refine pQl 63 (W (rd (wd s) h i).d) (gt2 (by omega) get_here) <| pP 64 (W (h.d + (rd (wd s) h i).d)) rfl (r_bin rfl rfl rfl (b_addW h.d (rd (wd s) h i).d)) <| pP 65 (.pointer (some ⟨n, 0, some 3⟩)) rfl (r_iaA (l := 3) rfl rfl rfl rfl rfl rfl (by omega) (by omega) (by show 0 + 3 * 1 = 3; omega)) <| PQ.op (dst := none) (v := (.tuple #[])) (n1 := n2) (d1 := [(n, some ⟨[[(W (h.a + (rd (wd s) h i).a)), (W (h.b + (rd (wd s) h i).b)), (W (h.c + (rd (wd s) h i).c)), (W (h.d + (rd (wd s) h i).d)), (W h.e)]], 5, 60, true⟩)]) rfl rfl rfl _ (sA (V := []) (by kernel_rfl) (by kernel_rfl)) (rS get_here) (by omega) (kp1 (wr_tight (by kernel_rfl) (by omega))) <| PQ.done (d := [(n, some ⟨[[(W (h.a + (rd (wd s) h i).a)), (W (h.b + (rd (wd s) h i).b)), (W (h.c + (rd (wd s) h i).c)), (W (h.d + (rd (wd s) h i).d)), (W h.e)]], 5, 60, true⟩)]) (by kernel_rfl) fun _ => RA.weaken hd (LsO (fA get_here get_here (fA (get_there (by omega) get_here) (gt3 (by omega) get_here) (fA (gt2 (by omega) get_here) (gt4 (by omega) get_here) (fA (gt3 (by omega) get_here) (gt5 (by omega) get_here) fan))))) <| RA.rb [(2, (.pointer (some ⟨n, 0, some 0⟩))), (4, (.pointer (some ⟨(n + 1), 0, some 0⟩))), (5, (.pointer (some ⟨n1, 0, some 0⟩))), (6, (.pointer (some ⟨(n1 + 1), 0, some 0⟩))), (11, (.int .i64 3)), (15, (.int .i64 ((i : Nat) : Int))), (16, yF), (55, (.int .i64 3)), (56, yT)] rfl (fun τr8 => ?_)
  refine RA.region env_ok <| oP 66 (.int .i64 4) rfl (r_bin rfl rfl rfl (b_add (i64_eq (by omega)))) <| OA.ps [(55, (.int .i64 4))] rfl <| OA.nil fun _ => ?_
  refine RA.unroll hd ?_
  refine RA.sR hd env_ok <| oP 56 yT rfl (r_bin rfl rfl rfl (b_lss rfl)) <| OA.nil fun _ => RA.seq hd <| RA.condT rfl <| RA.skip env_ok ?_
  intro _
  refine RA.seq hd <| RA.block <| RA.sR hd env_ok <| OA.ps [(57, (.int .i64 4)), (11, (.int .i64 4))] rfl <| OA.nil fun _ => RA.par (md := [some [], some [], some [n], some [], some [], some [(n1 + 1)], some [], some [], none]) env_ok (hd.of (by omega) (kb4 (by omega))) (by kernel_rfl) <| PQ.ps [(58, (.int .i64 4))] rfl <| pP 59 (.pointer (some ⟨n, 0, some 4⟩)) rfl (r_iaA (l := 4) rfl rfl rfl rfl rfl rfl (by omega) (by omega) (by show 0 + 4 * 1 = 4; omega)) <| pQl 60 (W h.e) get_here <| PQ.ps [(61, (.int .i64 4))] rfl <| pP 62 (.pointer (some ⟨(n1 + 1), 0, some 4⟩)) rfl (r_iaA (l := 4) rfl rfl rfl rfl rfl rfl (by omega) (by omega) (by show 0 + 4 * 1 = 4; omega)) ?_
  refine pQl 63 (W (rd (wd s) h i).e) (get_there (by omega) get_here) <| pP 64 (W (h.e + (rd (wd s) h i).e)) rfl (r_bin rfl rfl rfl (b_addW h.e (rd (wd s) h i).e)) <| pP 65 (.pointer (some ⟨n, 0, some 4⟩)) rfl (r_iaA (l := 4) rfl rfl rfl rfl rfl rfl (by omega) (by omega) (by show 0 + 4 * 1 = 4; omega)) <| PQ.op (dst := none) (v := (.tuple #[])) (n1 := n2) (d1 := [(n, some ⟨[[(W (h.a + (rd (wd s) h i).a)), (W (h.b + (rd (wd s) h i).b)), (W (h.c + (rd (wd s) h i).c)), (W (h.d + (rd (wd s) h i).d)), (W (h.e + (rd (wd s) h i).e))]], 5, 60, true⟩)]) rfl rfl rfl _ (sA (V := []) (by kernel_rfl) (by kernel_rfl)) (rS get_here) (by omega) (kp1 (wr_tight (by kernel_rfl) (by omega))) <| PQ.done (d := [(n, some ⟨[[(W (h.a + (rd (wd s) h i).a)), (W (h.b + (rd (wd s) h i).b)), (W (h.c + (rd (wd s) h i).c)), (W (h.d + (rd (wd s) h i).d)), (W (h.e + (rd (wd s) h i).e))]], 5, 60, true⟩)]) (by kernel_rfl) fun _ => RA.weaken hd (LsO (fA get_here get_here (fA (get_there (by omega) get_here) (gt2 (by omega) get_here) (fA (gt2 (by omega) get_here) (gt3 (by omega) get_here) (fA (gt3 (by omega) get_here) (gt4 (by omega) get_here) fan))))) <| RA.region env_ok <| oP 66 (.int .i64 5) rfl (r_bin rfl rfl rfl (b_add (i64_eq (by omega)))) <| OA.ps [(55, (.int .i64 5))] rfl <| OA.nil fun _ => ?_
  refine RA.unroll hd ?_
  refine RA.sR hd env_ok <| oP 56 yF rfl (r_bin rfl rfl rfl (b_lss rfl)) <| OA.nil fun _ => RA.seq hd <| RA.condF rfl ?_
  refine RA.exit env_ok ?_
  intro _
  refine RA.sR hd env_ok <| oP 67 (.agg ⟨[(W (h.a + (rd (wd s) h i).a)), (W (h.b + (rd (wd s) h i).b)), (W (h.c + (rd (wd s) h i).c)), (W (h.d + (rd (wd s) h i).d)), (W (h.e + (rd (wd s) h i).e))]⟩) rfl (r_loadA rfl rfl rfl rfl get_here rfl rfl rfl) <| o1 none yU n2 ((n + 1), some ⟨[[(W (h.a + (rd (wd s) h i).a)), (W (h.b + (rd (wd s) h i).b)), (W (h.c + (rd (wd s) h i).c)), (W (h.d + (rd (wd s) h i).d)), (W (h.e + (rd (wd s) h i).e))]], 5, 60, true⟩) (rS (gt3 (by omega) get_here)) <| OA.nil fun _ => RA.weaken hd (LsO (fA get_here get_here (fA (get_there (by omega) get_here) (get_there (by omega) get_here) (fA (gt2 (by omega) get_here) (gt2 (by omega) get_here) (fA (gt3 (by omega) get_here) (gt3 (by omega) get_here) fan))))) ?_
  refine RA.ret env_ok ?_
  refine ⟨.inr rfl, [(.agg ⟨[(W (h.a + (rd (wd s) h i).a)), (W (h.b + (rd (wd s) h i).b)), (W (h.c + (rd (wd s) h i).c)), (W (h.d + (rd (wd s) h i).d)), (W (h.e + (rd (wd s) h i).e))]⟩)], (resL_cons (res_cellA rfl rfl rfl get_here rfl rfl rfl) resL_nil), (by rw [show i = 80 from (by omega)]; rfl), (kc4 (by omega))⟩
theorem s39t {σ : Store} (t : ByteArray) (j : Nat) (h : 64 * j + 64 ≤ t.size) : PS Try.prog noDen 39 [(.agg ⟨[(W (hs t j).a), (W (hs t j).b), (W (hs t j).c), (W (hs t j).d), (W (hs t j).e)]⟩), (.string ((t.extract (64 * j) t.size).extract 0 64))] σ (.agg ⟨[(W (hs t (j + 1)).a), (W (hs t (j + 1)).b), (W (hs t (j + 1)).c), (W (hs t (j + 1)).d), (W (hs t (j + 1)).e)]⟩) := by
  have h1 := s39 (σ := σ) (hs t j) ((t.extract (64 * j) t.size).extract 0 64) (by rw [size_cut _ _ _ (by rw [size_cut _ _ _ (Nat.le_refl _)]; omega)])
  rw [show blk (hs t j) ((t.extract (64 * j) t.size).extract 0 64) = hs t (j + 1) from by rw [ext_ext2 _ _ _ h, hs]] at h1
  exact h1
theorem s40 {σ : Store} (x : BitVec 32)   : PS Try.prog noDen 40 [(W x)] σ (.string (bstr (be4 x))) := by
 refine PS.body (E := env) env_ok rfl rfl (by show _ ≤ _; exact of_decide_eq_true (by kernel_rfl)) (fun n hd => ?_)
 refine RA.sR hd env_ok <| OA.ps [(2, (.string (ByteArray.mk #[])))] rfl <| OA.nil fun _ => RA.sR hd env_ok <| OA.ps [(3, (W x))] rfl <| oP 4 (W (x >>> 24)) rfl (r_bin rfl rfl rfl (b_shrW _ (s := 24) (by omega))) <| oP 5 (.int .u8 (((UInt8.ofNat ((x >>> 24)).toNat).toNat : Nat) : Int)) rfl (r_cvt rfl rfl rfl rfl rfl ⟨_, rfl⟩ (wrap_u8n _)) <| OA.ps [(6, (W x))] rfl <| oP 7 (W (x >>> 16)) rfl (r_bin rfl rfl rfl (b_shrW _ (s := 16) (by omega))) <| oP 8 (.int .u8 (((UInt8.ofNat ((x >>> 16)).toNat).toNat : Nat) : Int)) rfl (r_cvt rfl rfl rfl rfl rfl ⟨_, rfl⟩ (wrap_u8n _)) <| OA.ps [(9, (W x))] rfl ?_
 refine oP 10 (W (x >>> 8)) rfl (r_bin rfl rfl rfl (b_shrW _ (s := 8) (by omega))) <| oP 11 (.int .u8 (((UInt8.ofNat ((x >>> 8)).toNat).toNat : Nat) : Int)) rfl (r_cvt rfl rfl rfl rfl rfl ⟨_, rfl⟩ (wrap_u8n _)) <| OA.ps [(12, (W x))] rfl <| oP 13 (.int .u8 (((UInt8.ofNat (x).toNat).toNat : Nat) : Int)) rfl (r_cvt rfl rfl rfl rfl rfl ⟨_, rfl⟩ (wrap_u8n _)) <| o1 (some 14) (.slice (some ⟨n, 0, none⟩) 4 0) (n + 1) (n, some ⟨(bc [(UInt8.ofNat ((x >>> 24)).toNat), (UInt8.ofNat ((x >>> 16)).toNat), (UInt8.ofNat ((x >>> 8)).toNat), (UInt8.ofNat (x).toNat)]), 1, 5, true⟩) (by kernel_rfl) <| oP 15 (.string (bstr (([(UInt8.ofNat ((x >>> 24)).toNat), (UInt8.ofNat ((x >>> 16)).toNat), (UInt8.ofNat ((x >>> 8)).toNat), (UInt8.ofNat (x).toNat)].drop 0).take 4))) rfl (r_b2s rfl rfl rfl rfl rfl rfl rfl rfl get_here (by rw [show ([(UInt8.ofNat ((x >>> 24)).toNat), (UInt8.ofNat ((x >>> 16)).toNat), (UInt8.ofNat ((x >>> 8)).toNat), (UInt8.ofNat (x).toNat)] : List UInt8).length = 4 from rfl]; omega)) <| OA.ps [(2, (.string (bstr (([(UInt8.ofNat ((x >>> 24)).toNat), (UInt8.ofNat ((x >>> 16)).toNat), (UInt8.ofNat ((x >>> 8)).toNat), (UInt8.ofNat (x).toNat)].drop 0).take 4))))] rfl <| OA.nil fun _ => ?_
 refine RA.ret env_ok ?_
 exact lf (.string (bstr (([(UInt8.ofNat ((x >>> 24)).toNat), (UInt8.ofNat ((x >>> 16)).toNat), (UInt8.ofNat ((x >>> 8)).toNat), (UInt8.ofNat (x).toNat)].drop 0).take 4))) rfl
theorem s38 {σ : Store} (m : Nat) (hm : m < 18446744073709551616)   : PS Try.prog noDen 38 [(.int .u64 ((m : Nat) : Int))] σ (.string (bstr (be8 m))) := by
 refine PS.body (E := env) env_ok rfl rfl (by show _ ≤ _; exact of_decide_eq_true (by kernel_rfl)) (fun n hd => ?_)
 refine RA.sR hd env_ok <| OA.ps [(2, (.string (ByteArray.mk #[])))] rfl <| OA.nil fun _ => RA.sR hd env_ok <| OA.ps [(3, (.int .u64 ((m : Nat) : Int)))] rfl <| oP 4 (.int .u64 (((m / 4294967296) : Nat) : Int)) rfl (r_bin rfl rfl rfl (b_shrN (a := m) (c := 32) (D := 4294967296) (by decide))) <| oP 5 (W (BitVec.ofNat 32 (m / 4294967296))) rfl (r_cvt rfl rfl rfl rfl rfl ⟨_, rfl⟩ (wrap_ofNat32 _)) <| oC 6 (hd.up (by omega)) rfl rfl (s40 _) fun n1 hn1 => OA.ps [(7, (.int .u64 ((m : Nat) : Int)))] rfl <| oP 8 (W (BitVec.ofNat 32 m)) rfl (r_cvt rfl rfl rfl rfl rfl ⟨_, rfl⟩ (wrap_ofNat32 _)) <| oC 9 (hd.up (by omega)) rfl rfl (s40 _) fun n2 hn2 => ?_
 refine oP 10 (.string ((bstr (be4 (BitVec.ofNat 32 (m / 4294967296)))) ++ (bstr (be4 (BitVec.ofNat 32 m))))) rfl (r_cat rfl rfl rfl (by (try simp only [ByteArray.size_append, bstr_size, size_lit, List.size_toArray, List.length_cons, List.length_nil, List.length_take, List.length_drop, List.length_replicate, be4_len]); try omega)) <| OA.ps [(2, (.string ((bstr (be4 (BitVec.ofNat 32 (m / 4294967296)))) ++ (bstr (be4 (BitVec.ofNat 32 m))))))] rfl <| OA.nil fun _ => ?_
 refine RA.ret env_ok ?_
 exact lf (.string ((bstr (be4 (BitVec.ofNat 32 (m / 4294967296)))) ++ (bstr (be4 (BitVec.ofNat 32 m))))) (by rw [one, bstr_app]; rfl)
end Go.Proofs.Ytdnkhdkflemkeaa.Vt
