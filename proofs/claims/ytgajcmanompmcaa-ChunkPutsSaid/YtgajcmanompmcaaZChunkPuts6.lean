/- Part 6 of the texts that prove ChunkPuts: the abstract machine, its calculus, and walks through functions; joined by a program of this workplace. -/
import Derived.Test.YtgajcmanompmcaaZChunkPuts5
/- Cr6: walks through functions of the program, by the calculus; written by a program of this workplace. -/
namespace Go.Proofs.Ytgajcmanompmcaa.Vt
open Go Go.Proofs Go.Proofs.YtgajcmanompmcaaV
set_option maxRecDepth 100000
set_option linter.unusedVariables false
set_option linter.unusedSimpArgs false
set_option maxHeartbeats 8000000
abbrev xCr61 (d : Chk) : List Value := [(.int .i64 d.typ), (.int .i64 d.flags), (W d.tsn), (.int .i64 d.stream), (.int .i64 d.ssn), (W d.proto), (.string d.data), (W d.tag), (W d.rwnd), (.int .i64 d.outs), (.int .i64 d.ins), d.pv, d.cv, d.gv, d.dv]
set_option maxHeartbeats 8000000 in
theorem rMay {σ : Store} (d : Chk) (b : Bool) (hb : b = true ↔ mayP d)  (h : gd σ d) : PS Try.prog noDen 77 [(.agg ⟨(cChk d)⟩)] σ (.bool b) := by
 have hp18 := h.p18
 have hc18 := h.c18
 have hg18 := h.g18
 have hd18 := h.u18
 have hfl := h.fl
 refine PS.body (E := env) env_ok rfl rfl (by show _ ≤ _; exact of_decide_eq_true (by kernel_rfl)) (fun n hd => ?_)
 refine RA.sR hd env_ok <| o1 (some 1) (Pt n 0 0) (n + 1) (n, some ⟨[(cChk d)], 15, 53, true⟩) (r_box (cs := (cChk d)) rfl rfl rfl (Nat.le_of_ble_eq_true rfl) (by simp only [List.all_cons, List.all_nil, Bool.and_true, Bool.and_eq_true, cChk]; exact ⟨rfl, rfl, rfl, rfl, rfl, rfl, rfl, rfl, rfl, rfl, rfl, (h.hp).one, (h.hc).one, (h.hg).one, (h.hu).one⟩)) <| OA.ps [(2, yF)] rfl <| OA.nil fun _ => RA.seq hd <| RA.seq hd <| RA.par (md := [some [], some [n], some [], some [], some [], some [n], some [], some [], some [], some [], some [n], some [], some [], some [], some [], some [n], some [], some [], some [], some [], some [n], some [], some [n], some [], some [], some [], some [], some [], some [], some [n], none, some [], some [], some [], some [n], some [], some [], some [], some [], some [], some [n], some [], some [], some [], some [], some [], some [n], some [], some [], some [], some [], some [], some [n], some [], some [], some [], some [], some [], some [n], none, some [], some [], some [], some [], some [n], some [], some [], some [], some [], some [n], some [], some [], some []]) env_ok (hd.of (by omega) (kb1 (by omega))) (by kernel_rfl) <| PQ.ps [(5, (Pt n 0 0))] rfl <| pQl 6 (.int .i64 d.typ) get_here ?_
 by_cases hc1 : d.typ < 0
 ·
  refine pP 7 yT rfl (Eq.trans (r_bin rfl rfl rfl (b_lss rfl)) (dT hc1)) <| PQ.ps [(8, yT)] rfl <| PQ.offs 9 3 rfl <| PQ.ps [(12, yT), (13, yT)] rfl <| PQ.offs 14 3 rfl <| PQ.ps [(17, yT), (18, yT)] rfl <| PQ.offs 19 3 rfl <| PQ.ps [(22, yT), (23, yT)] rfl <| PQ.offs 24 8 rfl <| PQ.ps [(32, yT), (33, yT)] rfl <| PQ.offs 34 2 rfl ?_
  refine PQ.ps [(36, yT), (37, yT)] rfl <| PQ.offs 38 4 rfl <| PQ.ps [(42, yT), (43, yT)] rfl <| PQ.offs 44 4 rfl <| PQ.ps [(48, yT), (49, yT)] rfl <| PQ.offs 50 4 rfl <| PQ.ps [(54, yT), (55, yT)] rfl <| PQ.offs 56 4 rfl <| PQ.ps [(60, yT), (61, yT)] rfl <| PQ.offs 62 4 rfl <| PQ.ps [(66, yT), (67, yT)] rfl ?_
  refine PQ.offs 68 9 rfl <| PQ.ps [(77, yT)] rfl <| PQ.done (d := []) (by kernel_rfl) fun _ => RA.rb [(0, (.agg ⟨(cChk d)⟩)), (1, (Pt n 0 0)), (2, yF), (77, yT)] rfl (fun τr1 => ?_)
  refine RA.condT rfl <| RA.sR hd env_ok <| OA.ps [(2, yF)] rfl <| OA.nil fun _ => ?_
  refine RA.ret env_ok ?_
  exact lf yF (bf hb (fun q => by have q1 := q.1; have q2 := q.2.1.data; have q3 := q.2.1.dups; have q4 := q.2.2.1; have q6 := q.2.1.lists.2.2; have q5 := fl_le d.typ; omega))
 ·
  refine pP 7 yF rfl (Eq.trans (r_bin rfl rfl rfl (b_lss rfl)) (dF hc1)) <| PQ.ps [(8, yF), (9, (Pt n 0 0))] rfl <| pQl 10 (.int .i64 d.typ) get_here ?_
  by_cases hc2 : 255 < d.typ
  ·
   refine pP 11 yT rfl (Eq.trans (r_bin rfl rfl rfl (b_gtr rfl)) (dT hc2)) <| PQ.ps [(12, yT), (13, yT)] rfl <| PQ.offs 14 3 rfl <| PQ.ps [(17, yT), (18, yT)] rfl <| PQ.offs 19 3 rfl <| PQ.ps [(22, yT), (23, yT)] rfl <| PQ.offs 24 8 rfl <| PQ.ps [(32, yT), (33, yT)] rfl <| PQ.offs 34 2 rfl <| PQ.ps [(36, yT), (37, yT)] rfl <| PQ.offs 38 4 rfl ?_
   refine PQ.ps [(42, yT), (43, yT)] rfl <| PQ.offs 44 4 rfl <| PQ.ps [(48, yT), (49, yT)] rfl <| PQ.offs 50 4 rfl <| PQ.ps [(54, yT), (55, yT)] rfl <| PQ.offs 56 4 rfl <| PQ.ps [(60, yT), (61, yT)] rfl <| PQ.offs 62 4 rfl <| PQ.ps [(66, yT), (67, yT)] rfl <| PQ.offs 68 9 rfl <| PQ.ps [(77, yT)] rfl ?_
   refine PQ.done (d := []) (by kernel_rfl) fun _ => RA.rb [(0, (.agg ⟨(cChk d)⟩)), (1, (Pt n 0 0)), (2, yF), (77, yT)] rfl (fun τr2 => ?_)
   refine RA.condT rfl <| RA.sR hd env_ok <| OA.ps [(2, yF)] rfl <| OA.nil fun _ => ?_
   refine RA.ret env_ok ?_
   exact lf yF (bf hb (fun q => by have q1 := q.1; have q2 := q.2.1.data; have q3 := q.2.1.dups; have q4 := q.2.2.1; have q6 := q.2.1.lists.2.2; have q5 := fl_le d.typ; omega))
  ·
   refine pP 11 yF rfl (Eq.trans (r_bin rfl rfl rfl (b_gtr rfl)) (dF hc2)) <| PQ.ps [(12, yF), (13, yF), (14, (Pt n 0 1))] rfl <| pQl 15 (.int .i64 d.flags) get_here ?_
   by_cases hc3 : d.flags < 0
   ·
    refine pP 16 yT rfl (Eq.trans (r_bin rfl rfl rfl (b_lss rfl)) (dT hc3)) <| PQ.ps [(17, yT), (18, yT)] rfl <| PQ.offs 19 3 rfl <| PQ.ps [(22, yT), (23, yT)] rfl <| PQ.offs 24 8 rfl <| PQ.ps [(32, yT), (33, yT)] rfl <| PQ.offs 34 2 rfl <| PQ.ps [(36, yT), (37, yT)] rfl <| PQ.offs 38 4 rfl <| PQ.ps [(42, yT), (43, yT)] rfl <| PQ.offs 44 4 rfl ?_
    refine PQ.ps [(48, yT), (49, yT)] rfl <| PQ.offs 50 4 rfl <| PQ.ps [(54, yT), (55, yT)] rfl <| PQ.offs 56 4 rfl <| PQ.ps [(60, yT), (61, yT)] rfl <| PQ.offs 62 4 rfl <| PQ.ps [(66, yT), (67, yT)] rfl <| PQ.offs 68 9 rfl <| PQ.ps [(77, yT)] rfl <| PQ.done (d := []) (by kernel_rfl) fun _ => RA.rb [(0, (.agg ⟨(cChk d)⟩)), (1, (Pt n 0 0)), (2, yF), (77, yT)] rfl (fun τr3 => ?_)
    refine RA.condT rfl <| RA.sR hd env_ok <| OA.ps [(2, yF)] rfl <| OA.nil fun _ => ?_
    refine RA.ret env_ok ?_
    exact lf yF (bf hb (fun q => by have q1 := q.1; have q2 := q.2.1.data; have q3 := q.2.1.dups; have q4 := q.2.2.1; have q6 := q.2.1.lists.2.2; have q5 := fl_le d.typ; omega))
   ·
    refine pP 16 yF rfl (Eq.trans (r_bin rfl rfl rfl (b_lss rfl)) (dF hc3)) <| PQ.ps [(17, yF), (18, yF), (19, (Pt n 0 1))] rfl <| pQl 20 (.int .i64 d.flags) get_here ?_
    by_cases hc4 : 255 < d.flags
    ·
     refine pP 21 yT rfl (Eq.trans (r_bin rfl rfl rfl (b_gtr rfl)) (dT hc4)) <| PQ.ps [(22, yT), (23, yT)] rfl <| PQ.offs 24 8 rfl <| PQ.ps [(32, yT), (33, yT)] rfl <| PQ.offs 34 2 rfl <| PQ.ps [(36, yT), (37, yT)] rfl <| PQ.offs 38 4 rfl <| PQ.ps [(42, yT), (43, yT)] rfl <| PQ.offs 44 4 rfl <| PQ.ps [(48, yT), (49, yT)] rfl <| PQ.offs 50 4 rfl ?_
     refine PQ.ps [(54, yT), (55, yT)] rfl <| PQ.offs 56 4 rfl <| PQ.ps [(60, yT), (61, yT)] rfl <| PQ.offs 62 4 rfl <| PQ.ps [(66, yT), (67, yT)] rfl <| PQ.offs 68 9 rfl <| PQ.ps [(77, yT)] rfl <| PQ.done (d := []) (by kernel_rfl) fun _ => RA.rb [(0, (.agg ⟨(cChk d)⟩)), (1, (Pt n 0 0)), (2, yF), (77, yT)] rfl (fun τr4 => ?_)
     refine RA.condT rfl <| RA.sR hd env_ok <| OA.ps [(2, yF)] rfl <| OA.nil fun _ => ?_
     refine RA.ret env_ok ?_
     exact lf yF (bf hb (fun q => by have q1 := q.1; have q2 := q.2.1.data; have q3 := q.2.1.dups; have q4 := q.2.2.1; have q6 := q.2.1.lists.2.2; have q5 := fl_le d.typ; omega))
    ·
     refine pP 21 yF rfl (Eq.trans (r_bin rfl rfl rfl (b_gtr rfl)) (dF hc4)) <| PQ.ps [(22, yF), (23, yF), (24, (Pt n 0 1))] rfl <| pQl 25 (.int .i64 d.flags) get_here <| PQ.ps [(26, (Pt n 0 0))] rfl <| pQl 27 (.int .i64 d.typ) get_here <| pC 28 rfl rfl (rFlags d.typ) fun n5 hn5 => pP 29 (.int .i64 (((255 - fl d.typ) : Nat) : Int)) rfl (r_bin rfl rfl rfl (b_sub (by have := fl_le d.typ; rw [i64_of (by omega) (by omega)]; omega))) <| pP 30 (.int .i64 (((andN d.flags (255 - fl d.typ)) : Nat) : Int)) rfl (r_bin rfl rfl rfl (b_andN d.flags (255 - fl d.typ) (by omega))) ?_
     by_cases hc5 : (((andN d.flags (255 - fl d.typ)) : Nat) : Int) ≠ 0
     ·
      have hmk := and_iff d.typ (F := d.flags) (by omega) (by omega)
      refine pP 31 yT rfl (Eq.trans (r_bin rfl rfl rfl (b_neq rfl)) (dT hc5)) <| PQ.ps [(32, yT), (33, yT)] rfl <| PQ.offs 34 2 rfl <| PQ.ps [(36, yT), (37, yT)] rfl <| PQ.offs 38 4 rfl <| PQ.ps [(42, yT), (43, yT)] rfl <| PQ.offs 44 4 rfl <| PQ.ps [(48, yT), (49, yT)] rfl <| PQ.offs 50 4 rfl <| PQ.ps [(54, yT), (55, yT)] rfl <| PQ.offs 56 4 rfl ?_
      refine PQ.ps [(60, yT), (61, yT)] rfl <| PQ.offs 62 4 rfl <| PQ.ps [(66, yT), (67, yT)] rfl <| PQ.offs 68 9 rfl <| PQ.ps [(77, yT)] rfl <| PQ.done (d := []) (by kernel_rfl) fun _ => RA.rb [(0, (.agg ⟨(cChk d)⟩)), (1, (Pt n 0 0)), (2, yF), (77, yT)] rfl (fun τr6 => ?_)
      refine RA.condT rfl <| RA.sR hd env_ok <| OA.ps [(2, yF)] rfl <| OA.nil fun _ => ?_
      refine RA.ret env_ok ?_
      exact lf yF (bf hb (fun q => by have q1 := q.1; have q2 := q.2.1.data; have q3 := q.2.1.dups; have q4 := q.2.2.1; have q6 := q.2.1.lists.2.2; have q5 := fl_le d.typ; omega))
     ·
      have hmk := and_iff d.typ (F := d.flags) (by omega) (by omega)
      refine pP 31 yF rfl (Eq.trans (r_bin rfl rfl rfl (b_neq rfl)) (dF hc5)) <| PQ.ps [(32, yF), (33, yF)] rfl <| pQL 34 (.agg ⟨(xCr61 d)⟩) (V := []) rfl (by kernel_rfl) (by kernel_rfl) get_here (r_loadA rfl rfl rfl rfl get_here rfl rfl rfl) ?_
      by_cases hc6 : hasntP d
      ·
       have hhsK := hc6
       refine pA 35 (V := []) (hd.of (by omega) (kb1 (by omega))) rfl rfl (by kernel_rfl) (by kernel_rfl) (rHas d false (bF (not_not_intro hc6)) (h.mono (sub_a1 hd))) fun n7 hn7 => PQ.ps [(36, yF), (37, yF), (38, (Pt n 0 11))] rfl <| pQl 39 d.pv get_here <| pP 40 (.int .i64 ((d.ps.length : Nat) : Int)) rfl (r_lenQ (c := cPrm) rfl rfl rfl rfl rfl rfl h.hp rfl) ?_
       by_cases hc7 : 16 < ((d.ps.length : Nat) : Int)
       ·
        refine pP 41 yT rfl (Eq.trans (r_bin rfl rfl rfl (b_gtr rfl)) (dT hc7)) <| PQ.ps [(42, yT), (43, yT)] rfl <| PQ.offs 44 4 rfl <| PQ.ps [(48, yT), (49, yT)] rfl <| PQ.offs 50 4 rfl <| PQ.ps [(54, yT), (55, yT)] rfl <| PQ.offs 56 4 rfl <| PQ.ps [(60, yT), (61, yT)] rfl <| PQ.offs 62 4 rfl <| PQ.ps [(66, yT), (67, yT)] rfl <| PQ.offs 68 9 rfl ?_
        refine PQ.ps [(77, yT)] rfl <| PQ.done (d := []) (by kernel_rfl) fun _ => RA.rb [(0, (.agg ⟨(cChk d)⟩)), (1, (Pt n 0 0)), (2, yF), (77, yT)] rfl (fun τr8 => ?_)
        refine RA.condT rfl <| RA.sR hd env_ok <| OA.ps [(2, yF)] rfl <| OA.nil fun _ => ?_
        refine RA.ret env_ok ?_
        exact lf yF (bf hb (fun q => by have q1 := q.1; have q2 := q.2.1.data; have q3 := q.2.1.dups; have q4 := q.2.2.1; have q6 := q.2.1.lists.2.2; have q5 := fl_le d.typ; omega))
       ·
        refine pP 41 yF rfl (Eq.trans (r_bin rfl rfl rfl (b_gtr rfl)) (dF hc7)) <| PQ.ps [(42, yF), (43, yF), (44, (Pt n 0 12))] rfl <| pQl 45 d.cv get_here <| pP 46 (.int .i64 ((d.cs.length : Nat) : Int)) rfl (r_lenQ (c := cCau) rfl rfl rfl rfl rfl rfl h.hc rfl) ?_
        by_cases hc8 : 16 < ((d.cs.length : Nat) : Int)
        ·
         refine pP 47 yT rfl (Eq.trans (r_bin rfl rfl rfl (b_gtr rfl)) (dT hc8)) <| PQ.ps [(48, yT), (49, yT)] rfl <| PQ.offs 50 4 rfl <| PQ.ps [(54, yT), (55, yT)] rfl <| PQ.offs 56 4 rfl <| PQ.ps [(60, yT), (61, yT)] rfl <| PQ.offs 62 4 rfl <| PQ.ps [(66, yT), (67, yT)] rfl <| PQ.offs 68 9 rfl <| PQ.ps [(77, yT)] rfl <| PQ.done (d := []) (by kernel_rfl) fun _ => ?_
         refine RA.rb [(0, (.agg ⟨(cChk d)⟩)), (1, (Pt n 0 0)), (2, yF), (77, yT)] rfl (fun τr9 => ?_)
         refine RA.condT rfl <| RA.sR hd env_ok <| OA.ps [(2, yF)] rfl <| OA.nil fun _ => ?_
         refine RA.ret env_ok ?_
         exact lf yF (bf hb (fun q => by have q1 := q.1; have q2 := q.2.1.data; have q3 := q.2.1.dups; have q4 := q.2.2.1; have q6 := q.2.1.lists.2.2; have q5 := fl_le d.typ; omega))
        ·
         refine pP 47 yF rfl (Eq.trans (r_bin rfl rfl rfl (b_gtr rfl)) (dF hc8)) <| PQ.ps [(48, yF), (49, yF), (50, (Pt n 0 14))] rfl <| pQl 51 d.dv get_here <| pP 52 (.int .i64 ((d.ds.length : Nat) : Int)) rfl (r_lenQ (c := cDp) rfl rfl rfl rfl rfl rfl h.hu rfl) ?_
         by_cases hc9 : 16 < ((d.ds.length : Nat) : Int)
         ·
          refine pP 53 yT rfl (Eq.trans (r_bin rfl rfl rfl (b_gtr rfl)) (dT hc9)) <| PQ.ps [(54, yT), (55, yT)] rfl <| PQ.offs 56 4 rfl <| PQ.ps [(60, yT), (61, yT)] rfl <| PQ.offs 62 4 rfl <| PQ.ps [(66, yT), (67, yT)] rfl <| PQ.offs 68 9 rfl <| PQ.ps [(77, yT)] rfl <| PQ.done (d := []) (by kernel_rfl) fun _ => RA.rb [(0, (.agg ⟨(cChk d)⟩)), (1, (Pt n 0 0)), (2, yF), (77, yT)] rfl (fun τr10 => ?_)
          refine RA.condT rfl <| RA.sR hd env_ok <| OA.ps [(2, yF)] rfl <| OA.nil fun _ => ?_
          refine RA.ret env_ok ?_
          exact lf yF (bf hb (fun q => by have q1 := q.1; have q2 := q.2.1.data; have q3 := q.2.1.dups; have q4 := q.2.2.1; have q6 := q.2.1.lists.2.2; have q5 := fl_le d.typ; omega))
         ·
          refine pP 53 yF rfl (Eq.trans (r_bin rfl rfl rfl (b_gtr rfl)) (dF hc9)) <| PQ.ps [(54, yF), (55, yF), (56, (Pt n 0 6))] rfl <| pQl 57 (.string d.data) get_here <| PQ.ps [(58, (.int .i64 ((d.data.size : Nat) : Int)))] rfl ?_
          by_cases hc10 : 900 < ((d.data.size : Nat) : Int)
          ·
           refine pP 59 yT rfl (Eq.trans (r_bin rfl rfl rfl (b_gtr rfl)) (dT hc10)) <| PQ.ps [(60, yT), (61, yT)] rfl <| PQ.offs 62 4 rfl <| PQ.ps [(66, yT), (67, yT)] rfl <| PQ.offs 68 9 rfl <| PQ.ps [(77, yT)] rfl <| PQ.done (d := []) (by kernel_rfl) fun _ => RA.rb [(0, (.agg ⟨(cChk d)⟩)), (1, (Pt n 0 0)), (2, yF), (77, yT)] rfl (fun τr11 => ?_)
           refine RA.condT rfl <| RA.sR hd env_ok <| OA.ps [(2, yF)] rfl <| OA.nil fun _ => ?_
           refine RA.ret env_ok ?_
           exact lf yF (bf hb (fun q => by have q1 := q.1; have q2 := q.2.1.data; have q3 := q.2.1.dups; have q4 := q.2.2.1; have q6 := q.2.1.lists.2.2; have q5 := fl_le d.typ; omega))
          ·
           refine pP 59 yF rfl (Eq.trans (r_bin rfl rfl rfl (b_gtr rfl)) (dF hc10)) <| PQ.ps [(60, yF), (61, yF), (62, (Pt n 0 13))] rfl <| pQl 63 d.gv get_here ?_
           by_cases hc11 : gapsP d.gs
           ·
            have hgpK := hc11
            refine pA 64 (V := []) (hd.of (by omega) (kb1 (by omega))) rfl rfl (by kernel_rfl) (by kernel_rfl) (rGaps d true (bT hc11) (h.mono (sub_a1 hd))) fun n12 hn12 => PQ.ps [(65, yF), (66, yF), (67, yF), (68, (Pt n 0 0))] rfl <| pQl 69 (.int .i64 d.typ) get_here <| pC 70 rfl rfl (rKind d.typ) fun n13 hn13 => ?_
            by_cases hc12 : (((kd d.typ) : Nat) : Int) = 1
            ·
             refine pP 71 yT rfl (Eq.trans (r_bin rfl rfl rfl (b_eql rfl)) (dT hc12)) <| PQ.ps [(72, yT), (73, (Pt n 0 7))] rfl <| pQl 74 (W d.tag) get_here ?_
             by_cases hc13 : (d.tag.toNat : Int) = 0
             ·
              refine pP 75 yT rfl (Eq.trans (r_bin rfl rfl rfl (b_eql rfl)) (dT hc13)) <| PQ.ps [(76, yT), (77, yT)] rfl <| PQ.done (d := []) (by kernel_rfl) fun _ => RA.rb [(0, (.agg ⟨(cChk d)⟩)), (1, (Pt n 0 0)), (2, yF), (77, yT)] rfl (fun τr14 => ?_)
              refine RA.condT rfl <| RA.sR hd env_ok <| OA.ps [(2, yF)] rfl <| OA.nil fun _ => ?_
              refine RA.ret env_ok ?_
              exact lf yF (bf hb (fun q => by have q1 := q.1; have q2 := q.2.1.data; have q3 := q.2.1.dups; have q4 := q.2.2.1; have q6 := q.2.1.lists.2.2; have q5 := fl_le d.typ; omega))
             ·
              refine pP 75 yF rfl (Eq.trans (r_bin rfl rfl rfl (b_eql rfl)) (dF hc13)) <| PQ.ps [(76, yF), (77, yF)] rfl <| PQ.done (d := []) (by kernel_rfl) fun _ => RA.rb [(0, (.agg ⟨(cChk d)⟩)), (1, (Pt n 0 0)), (2, yF), (77, yF)] rfl (fun τr15 => ?_)
              refine RA.condF rfl <| RA.skip env_ok ?_
              intro _
              refine RA.seq hd <| RA.par (md := [some [], some [n], none, some [], some [n], none, none, some []]) env_ok (hd.of (by omega) (kb1 (by omega))) (by kernel_rfl) <| PQ.ps [(78, (Pt n 0 11))] rfl <| pQl 79 d.pv get_here ?_
              refine PQ.call (dst := (some 80)) (all := [d.pv]) rfl rfl rfl rfl rfl rfl rfl rfl _ (sA (V := []) (by kernel_rfl) (by kernel_rfl)) (CQ.imp (CQ.keys (rParams (hd.of (by omega) (kb1 (by omega))) d.ps d.pv hp18 (h.mono (sub_a1 hd)).hp)) ?_)
              rintro _ n16 _ ⟨hkn16, ⟨kpn16, q1n16, q2n16, rfl, rfl⟩⟩
              have hn16 := hkn16.1
              refine ⟨hn16, (kp1 (by first | exact wr_new (by omega) (by omega) | exact wr_old [3, 4] (by kernel_rfl) (by omega) (by omega) (fac (lo0 rfl) (fac (lo1 rfl (by omega)) fan)))), ?_⟩
              refine PQ.ps [(81, (Pt n 0 12))] rfl <| pQl 82 d.cv get_here ?_
              refine PQ.call (dst := (some 83)) (all := [d.cv]) rfl rfl rfl rfl rfl rfl rfl rfl _ (sA (V := [(kpn16, some (oPrp (d.ps.map toP)))]) (by kernel_rfl) (by kernel_rfl)) (CQ.imp (CQ.keys (rCauses (hd.of (by omega) (kb2 (by omega))) d.cs d.cv hc18 (h.mono (sub_app (n' := n16) hd (kc2 (by omega)))).hc)) ?_)
              rintro _ n17 _ ⟨hkn17, ⟨kcn17, q3n17, q4n17, rfl, rfl⟩⟩
              have hn17 := hkn17.1
              refine ⟨hn17, (kp1 (by first | exact wr_new (by omega) (by omega) | exact wr_tight (by kernel_rfl) (by omega))), ?_⟩
              by_cases hc14 : d.cs.length = 0
              ·
               refine PQ.pure (dst := (some 84)) (v := (.slice (some ⟨kpn16, 0, none⟩) d.ps.length 0)) rfl rfl rfl _ (sA (V := [(kcn17, some (oPrp (d.cs.map toC))), (kpn16, some (oPrp (d.ps.map toP)))]) (by kernel_rfl) (by kernel_rfl)) (r_appendZ rfl rfl rfl rfl (.inl ⟨_, _, _, rfl, by decide⟩) rfl rfl rfl rfl rfl (by decide) (by omega)) <| PQ.ps [(3, (.slice (some ⟨kpn16, 0, none⟩) d.ps.length 0))] rfl <| PQ.done (d := [(kcn17, some (oPrp (d.cs.map toC))), (kpn16, some (oPrp (d.ps.map toP)))]) (by kernel_rfl) fun _ => RA.seq hd <| RA.sR hd env_ok <| OA.ps [(4, (.int .i64 0))] rfl <| OA.nil fun _ => RA.block ?_
               have hqq : prpsOk (d.ps.map toP) ↔ (prmsOk d.ps ∧ causOk d.cs) := okPC0 (by omega)
               have hql : (d.ps.map toP).length = d.ps.length := by simp only [List.length_append, List.length_map]
               refine RA.weaken hd (LsO (fA get_here (gt2 (by omega) get_here) (fA (get_there (by omega) get_here) (get_there (by omega) get_here) fan))) ?_
               refine RA.loop hd (fun kk_ τ n' D => (∃ i : Nat, kk_ = (d.ps.length - i) ∧ n17 ≤ n' ∧ Has τ [(1, (Pt n 0 0)), (3, (.slice (some ⟨kpn16, 0, none⟩) d.ps.length 0)), (4, (.int .i64 ((i : Nat) : Int)))] ∧ D = [(n, some ⟨[(xCr61 d)], 15, 53, true⟩), (kpn16, some (oPrp (d.ps.map toP)))] ∧ (∀ i ∈ keys D, i < n') ∧ i ≤ d.ps.length ∧ (∀ p ∈ (d.ps.map toP).take i, prmOk p.typ p.val))) ((d.ps.length - 0)) (⟨0, rfl, by omega, ⟨rfl, rfl, rfl, trivial⟩, rfl, (kb2 (by omega)), ⟨by omega, fun p hp => by simp at hp⟩⟩) ?_
               rintro kn18 τ18 n18 _ ⟨i, rfl, hn18, hHn18, rfl, hKn18, hIn18⟩
               rw [Has.eq hHn18]
               have hKn18_0 := kk0 hKn18
               have hKn18_1 := kk1 hKn18
               clear hKn18
               obtain ⟨hil, hall⟩ := hIn18
               refine RA.seq hd <| RA.sR hd env_ok <| OA.ps [(85, (.int .i64 ((i : Nat) : Int))), (86, (.slice (some ⟨kpn16, 0, none⟩) d.ps.length 0)), (87, (.int .i64 ((d.ps.length : Nat) : Int)))] rfl ?_
               by_cases hc15 : ((i : Nat) : Int) < ((d.ps.length : Nat) : Int)
               ·
                refine oP 88 yT rfl (Eq.trans (r_bin rfl rfl rfl (b_lss rfl)) (dT hc15)) <| OA.nil fun _ => RA.condT rfl <| RA.skip env_ok ?_
                intro _
                refine RA.seq hd <| RA.block <| RA.sR hd env_ok <| OA.ps [(91, (.slice (some ⟨kpn16, 0, none⟩) d.ps.length 0)), (92, (.int .i64 ((i : Nat) : Int)))] rfl <| oP 93 (Pt kpn16 i 0) rfl (r_iaS (l := i) rfl rfl rfl rfl rfl rfl (by omega) (by omega) (get_there (by omega) get_here) rfl (by omega)) <| oP 94 (.agg ⟨(cPrp ((d.ps.map toP).getD i dPrp))⟩) rfl (r_loadR (c := cPrp) dPrp rfl rfl rfl rfl (get_there (by omega) get_here) (by have := (show (d.ps.map toP).length = d.ps.length from List.length_map _); omega) rfl) ?_
                by_cases hc16 : prmOk (((d.ps.map toP).getD i dPrp).typ) ((d.ps.map toP).getD i dPrp).val
                ·
                 refine oC 95 (hd.of (by omega) (kb2 (by omega))) rfl rfl (r4May (((d.ps.map toP).getD i dPrp).typ) ((d.ps.map toP).getD i dPrp).val true (bT hc16)) fun n19 hn19 => OA.ps [(96, yF)] rfl <| OA.nil fun _ => RA.condF rfl <| RA.skip env_ok ?_
                 intro _
                 refine RA.region env_ok <| OA.ps [(89, (.int .i64 ((i : Nat) : Int)))] rfl <| oP 90 (.int .i64 (((i + 1) : Nat) : Int)) rfl (r_bin rfl rfl rfl (b_add (i64_eq (by omega)))) <| OA.ps [(4, (.int .i64 (((i + 1) : Nat) : Int)))] rfl <| OA.nil ?_
                 refine ⟨(d.ps.length - (i + 1)), by omega, [(n, some ⟨[(xCr61 d)], 15, 53, true⟩), (kpn16, some (oPrp (d.ps.map toP)))], (Less.refl _ _ _), ⟨(i + 1), rfl, by omega, ⟨rfl, rfl, rfl, trivial⟩, rfl, (kb2 (by omega)), ⟨by omega, take_all (d0 := dPrp) (by omega) hall (by assumption)⟩⟩⟩
                ·
                 have hnl : ¬ (prmsOk d.ps ∧ causOk d.cs) := fun q => hc16 (hqq.2 q _ (getD_mem (by omega)))
                 refine oC 95 (hd.of (by omega) (kb2 (by omega))) rfl rfl (r4May (((d.ps.map toP).getD i dPrp).typ) ((d.ps.map toP).getD i dPrp).val false (bF hc16)) fun n20 hn20 => OA.ps [(96, yT)] rfl <| OA.nil fun _ => RA.condT rfl <| RA.sR hd env_ok <| OA.ps [(2, yF)] rfl <| OA.nil fun _ => ?_
                 refine RA.ret env_ok ?_
                 exact lf yF (bf hb (fun q => hnl ⟨q.2.1.lists.1, q.2.1.lists.2.1⟩))
               ·
                have hlok := hqq.1 (by rw [take_full (by omega)] at hall; exact hall)
                refine oP 88 yF rfl (Eq.trans (r_bin rfl rfl rfl (b_lss rfl)) (dF hc15)) <| OA.nil fun _ => RA.condF rfl ?_
                refine RA.exit env_ok ?_
                intro _
                refine RA.sR hd env_ok <| OA.ps [(97, (Pt n 0 3))] rfl <| oL 98 (.int .i64 d.stream) get_here ?_
                by_cases hc17 : wordP (d.stream)
                ·
                 refine oC 99 (hd.of (by omega) (kb2 (by omega))) rfl rfl (rWord (d.stream) true (bT hc17)) fun n21 hn21 => OA.ps [(100, yT), (101, (Pt n 0 4))] rfl <| oL 102 (.int .i64 d.ssn) get_here ?_
                 by_cases hc18 : wordP (d.ssn)
                 ·
                  refine oC 103 (hd.of (by omega) (kb2 (by omega))) rfl rfl (rWord (d.ssn) true (bT hc18)) fun n22 hn22 => OA.ps [(104, yT), (105, yT), (106, (Pt n 0 9))] rfl <| oL 107 (.int .i64 d.outs) get_here ?_
                  by_cases hc19 : wordP (d.outs)
                  ·
                   refine oC 108 (hd.of (by omega) (kb2 (by omega))) rfl rfl (rWord (d.outs) true (bT hc19)) fun n23 hn23 => OA.ps [(109, yT), (110, yT), (111, (Pt n 0 10))] rfl <| oL 112 (.int .i64 d.ins) get_here ?_
                   by_cases hc20 : wordP (d.ins)
                   ·
                    refine oC 113 (hd.of (by omega) (kb2 (by omega))) rfl rfl (rWord (d.ins) true (bT hc20)) fun n24 hn24 => OA.ps [(114, yT), (2, yT)] rfl <| OA.nil fun _ => ?_
                    refine RA.ret env_ok ?_
                    exact lf yT (bt hb (⟨⟨by omega, by omega, by omega, by omega⟩, ⟨⟨hlok.1, hlok.2, by omega, by omega⟩, hc17, hc18, hc19, hc20, by omega, hgpK, by omega⟩, by omega, hhsK⟩))
                   ·
                    refine oC 113 (hd.of (by omega) (kb2 (by omega))) rfl rfl (rWord (d.ins) false (bF hc20)) fun n25 hn25 => OA.ps [(114, yF), (2, yF)] rfl <| OA.nil fun _ => ?_
                    refine RA.ret env_ok ?_
                    exact lf yF (bf hb (fun q => hc20 q.2.1.w4))
                  ·
                   refine oC 108 (hd.of (by omega) (kb2 (by omega))) rfl rfl (rWord (d.outs) false (bF hc19)) fun n26 hn26 => OA.ps [(109, yF), (110, yF)] rfl <| OA.offs 111 3 rfl <| OA.ps [(114, yF), (2, yF)] rfl <| OA.nil fun _ => ?_
                   refine RA.ret env_ok ?_
                   exact lf yF (bf hb (fun q => hc19 q.2.1.w3))
                 ·
                  refine oC 103 (hd.of (by omega) (kb2 (by omega))) rfl rfl (rWord (d.ssn) false (bF hc18)) fun n27 hn27 => OA.ps [(104, yF), (105, yF)] rfl <| OA.offs 106 3 rfl <| OA.ps [(109, yF), (110, yF)] rfl <| OA.offs 111 3 rfl <| OA.ps [(114, yF), (2, yF)] rfl <| OA.nil fun _ => ?_
                  refine RA.ret env_ok ?_
                  exact lf yF (bf hb (fun q => hc18 q.2.1.w2))
                ·
                 refine oC 99 (hd.of (by omega) (kb2 (by omega))) rfl rfl (rWord (d.stream) false (bF hc17)) fun n28 hn28 => OA.ps [(100, yF)] rfl <| OA.offs 101 3 rfl <| OA.ps [(104, yF), (105, yF)] rfl <| OA.offs 106 3 rfl <| OA.ps [(109, yF), (110, yF)] rfl <| OA.offs 111 3 rfl <| OA.ps [(114, yF), (2, yF)] rfl <| OA.nil fun _ => ?_
                 refine RA.ret env_ok ?_
                 exact lf yF (bf hb (fun q => hc17 q.2.1.w1))
              ·
               refine PQ.op (dst := (some 84)) (v := (.slice (some ⟨n17, 0, none⟩) (d.ps.length + d.cs.length) 0)) (n1 := (n17 + 1)) (d1 := [(n17, some (oPrp ((d.ps.map toP) ++ (d.cs.map toC)))), (kpn16, none)]) rfl rfl rfl _ (sA (V := [(kcn17, some (oPrp (d.cs.map toC))), (kpn16, some (oPrp (d.ps.map toP)))]) (by kernel_rfl) (by kernel_rfl)) (r_appendL (c := cPrp) (l' := ((d.ps.map toP) ++ (d.cs.map toC))) rfl rfl rfl rfl rfl rfl rfl rfl rfl rfl (by decide) (get_there (by omega) get_here) get_here (by rw [show (d.ps.map toP).length = d.ps.length from List.length_map _]) (by omega) (by have hlo := (show (d.cs.map toC).length = d.cs.length from List.length_map _); omega) (by rw [List.drop_zero, List.take_of_length_le (by rw [List.length_map]; exact Nat.le_refl _)]) (by omega) (of_decide_eq_true (by kernel_rfl)) (by omega)) (by omega) (kp2 (wr_new (by omega) (by omega)) (wr_tight (by kernel_rfl) (by omega))) <| PQ.ps [(3, (.slice (some ⟨n17, 0, none⟩) (d.ps.length + d.cs.length) 0))] rfl <| PQ.done (d := [(n17, some (oPrp ((d.ps.map toP) ++ (d.cs.map toC)))), (kpn16, none), (kcn17, some (oPrp (d.cs.map toC))), (kpn16, some (oPrp (d.ps.map toP)))]) (by kernel_rfl) fun _ => RA.seq hd <| RA.sR hd env_ok <| OA.ps [(4, (.int .i64 0))] rfl <| OA.nil fun _ => RA.block ?_
               have hqq : prpsOk ((d.ps.map toP) ++ (d.cs.map toC)) ↔ (prmsOk d.ps ∧ causOk d.cs) := okPC
               have hql : ((d.ps.map toP) ++ (d.cs.map toC)).length = (d.ps.length + d.cs.length) := by simp only [List.length_append, List.length_map]
               refine RA.weaken hd (LsO (fA get_here (gt4 (by omega) get_here) (fA (get_there (by omega) get_here) get_here fan))) ?_
               refine RA.loop hd (fun kk_ τ n' D => (∃ i : Nat, kk_ = ((d.ps.length + d.cs.length) - i) ∧ (n17 + 1) ≤ n' ∧ Has τ [(1, (Pt n 0 0)), (3, (.slice (some ⟨n17, 0, none⟩) (d.ps.length + d.cs.length) 0)), (4, (.int .i64 ((i : Nat) : Int)))] ∧ D = [(n, some ⟨[(xCr61 d)], 15, 53, true⟩), (n17, some (oPrp ((d.ps.map toP) ++ (d.cs.map toC))))] ∧ (∀ i ∈ keys D, i < n') ∧ i ≤ (d.ps.length + d.cs.length) ∧ (∀ p ∈ ((d.ps.map toP) ++ (d.cs.map toC)).take i, prmOk p.typ p.val))) (((d.ps.length + d.cs.length) - 0)) (⟨0, rfl, by omega, ⟨rfl, rfl, rfl, trivial⟩, rfl, (kb2 (by omega)), ⟨by omega, fun p hp => by simp at hp⟩⟩) ?_
               rintro kn29 τ29 n29 _ ⟨i, rfl, hn29, hHn29, rfl, hKn29, hIn29⟩
               rw [Has.eq hHn29]
               have hKn29_0 := kk0 hKn29
               have hKn29_1 := kk1 hKn29
               clear hKn29
               obtain ⟨hil, hall⟩ := hIn29
               refine RA.seq hd <| RA.sR hd env_ok <| OA.ps [(85, (.int .i64 ((i : Nat) : Int))), (86, (.slice (some ⟨n17, 0, none⟩) (d.ps.length + d.cs.length) 0)), (87, (.int .i64 (((d.ps.length + d.cs.length) : Nat) : Int)))] rfl ?_
               by_cases hc21 : ((i : Nat) : Int) < (((d.ps.length + d.cs.length) : Nat) : Int)
               ·
                refine oP 88 yT rfl (Eq.trans (r_bin rfl rfl rfl (b_lss rfl)) (dT hc21)) <| OA.nil fun _ => RA.condT rfl <| RA.skip env_ok ?_
                intro _
                refine RA.seq hd <| RA.block <| RA.sR hd env_ok <| OA.ps [(91, (.slice (some ⟨n17, 0, none⟩) (d.ps.length + d.cs.length) 0)), (92, (.int .i64 ((i : Nat) : Int)))] rfl <| oP 93 (Pt n17 i 0) rfl (r_iaS (l := i) rfl rfl rfl rfl rfl rfl (by omega) (by omega) (get_there (by omega) get_here) rfl (by omega)) <| oP 94 (.agg ⟨(cPrp (((d.ps.map toP) ++ (d.cs.map toC)).getD i dPrp))⟩) rfl (r_loadR (c := cPrp) dPrp rfl rfl rfl rfl (get_there (by omega) get_here) (by have := (show ((d.ps.map toP) ++ (d.cs.map toC)).length = (d.ps.length + d.cs.length) from by rw [List.length_append, List.length_map, List.length_map]); omega) rfl) ?_
                by_cases hc22 : prmOk ((((d.ps.map toP) ++ (d.cs.map toC)).getD i dPrp).typ) (((d.ps.map toP) ++ (d.cs.map toC)).getD i dPrp).val
                ·
                 refine oC 95 (hd.of (by omega) (kb2 (by omega))) rfl rfl (r4May ((((d.ps.map toP) ++ (d.cs.map toC)).getD i dPrp).typ) (((d.ps.map toP) ++ (d.cs.map toC)).getD i dPrp).val true (bT hc22)) fun n30 hn30 => OA.ps [(96, yF)] rfl <| OA.nil fun _ => RA.condF rfl <| RA.skip env_ok ?_
                 intro _
                 refine RA.region env_ok <| OA.ps [(89, (.int .i64 ((i : Nat) : Int)))] rfl <| oP 90 (.int .i64 (((i + 1) : Nat) : Int)) rfl (r_bin rfl rfl rfl (b_add (i64_eq (by omega)))) <| OA.ps [(4, (.int .i64 (((i + 1) : Nat) : Int)))] rfl <| OA.nil ?_
                 refine ⟨((d.ps.length + d.cs.length) - (i + 1)), by omega, [(n, some ⟨[(xCr61 d)], 15, 53, true⟩), (n17, some (oPrp ((d.ps.map toP) ++ (d.cs.map toC))))], (Less.refl _ _ _), ⟨(i + 1), rfl, by omega, ⟨rfl, rfl, rfl, trivial⟩, rfl, (kb2 (by omega)), ⟨by omega, take_all (d0 := dPrp) (by omega) hall (by assumption)⟩⟩⟩
                ·
                 have hnl : ¬ (prmsOk d.ps ∧ causOk d.cs) := fun q => hc22 (hqq.2 q _ (getD_mem (by omega)))
                 refine oC 95 (hd.of (by omega) (kb2 (by omega))) rfl rfl (r4May ((((d.ps.map toP) ++ (d.cs.map toC)).getD i dPrp).typ) (((d.ps.map toP) ++ (d.cs.map toC)).getD i dPrp).val false (bF hc22)) fun n31 hn31 => OA.ps [(96, yT)] rfl <| OA.nil fun _ => RA.condT rfl <| RA.sR hd env_ok <| OA.ps [(2, yF)] rfl <| OA.nil fun _ => ?_
                 refine RA.ret env_ok ?_
                 exact lf yF (bf hb (fun q => hnl ⟨q.2.1.lists.1, q.2.1.lists.2.1⟩))
               ·
                have hlok := hqq.1 (by rw [take_full (by omega)] at hall; exact hall)
                refine oP 88 yF rfl (Eq.trans (r_bin rfl rfl rfl (b_lss rfl)) (dF hc21)) <| OA.nil fun _ => RA.condF rfl ?_
                refine RA.exit env_ok ?_
                intro _
                refine RA.sR hd env_ok <| OA.ps [(97, (Pt n 0 3))] rfl <| oL 98 (.int .i64 d.stream) get_here ?_
                by_cases hc23 : wordP (d.stream)
                ·
                 refine oC 99 (hd.of (by omega) (kb2 (by omega))) rfl rfl (rWord (d.stream) true (bT hc23)) fun n32 hn32 => OA.ps [(100, yT), (101, (Pt n 0 4))] rfl <| oL 102 (.int .i64 d.ssn) get_here ?_
                 by_cases hc24 : wordP (d.ssn)
                 ·
                  refine oC 103 (hd.of (by omega) (kb2 (by omega))) rfl rfl (rWord (d.ssn) true (bT hc24)) fun n33 hn33 => OA.ps [(104, yT), (105, yT), (106, (Pt n 0 9))] rfl <| oL 107 (.int .i64 d.outs) get_here ?_
                  by_cases hc25 : wordP (d.outs)
                  ·
                   refine oC 108 (hd.of (by omega) (kb2 (by omega))) rfl rfl (rWord (d.outs) true (bT hc25)) fun n34 hn34 => OA.ps [(109, yT), (110, yT), (111, (Pt n 0 10))] rfl <| oL 112 (.int .i64 d.ins) get_here ?_
                   by_cases hc26 : wordP (d.ins)
                   ·
                    refine oC 113 (hd.of (by omega) (kb2 (by omega))) rfl rfl (rWord (d.ins) true (bT hc26)) fun n35 hn35 => OA.ps [(114, yT), (2, yT)] rfl <| OA.nil fun _ => ?_
                    refine RA.ret env_ok ?_
                    exact lf yT (bt hb (⟨⟨by omega, by omega, by omega, by omega⟩, ⟨⟨hlok.1, hlok.2, by omega, by omega⟩, hc23, hc24, hc25, hc26, by omega, hgpK, by omega⟩, by omega, hhsK⟩))
                   ·
                    refine oC 113 (hd.of (by omega) (kb2 (by omega))) rfl rfl (rWord (d.ins) false (bF hc26)) fun n36 hn36 => OA.ps [(114, yF), (2, yF)] rfl <| OA.nil fun _ => ?_
                    refine RA.ret env_ok ?_
                    exact lf yF (bf hb (fun q => hc26 q.2.1.w4))
                  ·
                   refine oC 108 (hd.of (by omega) (kb2 (by omega))) rfl rfl (rWord (d.outs) false (bF hc25)) fun n37 hn37 => OA.ps [(109, yF), (110, yF)] rfl <| OA.offs 111 3 rfl <| OA.ps [(114, yF), (2, yF)] rfl <| OA.nil fun _ => ?_
                   refine RA.ret env_ok ?_
                   exact lf yF (bf hb (fun q => hc25 q.2.1.w3))
                 ·
                  refine oC 103 (hd.of (by omega) (kb2 (by omega))) rfl rfl (rWord (d.ssn) false (bF hc24)) fun n38 hn38 => OA.ps [(104, yF), (105, yF)] rfl <| OA.offs 106 3 rfl <| OA.ps [(109, yF), (110, yF)] rfl <| OA.offs 111 3 rfl <| OA.ps [(114, yF), (2, yF)] rfl <| OA.nil fun _ => ?_
                  refine RA.ret env_ok ?_
                  exact lf yF (bf hb (fun q => hc24 q.2.1.w2))
                ·
                 refine oC 99 (hd.of (by omega) (kb2 (by omega))) rfl rfl (rWord (d.stream) false (bF hc23)) fun n39 hn39 => OA.ps [(100, yF)] rfl <| OA.offs 101 3 rfl <| OA.ps [(104, yF), (105, yF)] rfl <| OA.offs 106 3 rfl <| OA.ps [(109, yF), (110, yF)] rfl <| OA.offs 111 3 rfl <| OA.ps [(114, yF), (2, yF)] rfl <| OA.nil fun _ => ?_
                 refine RA.ret env_ok ?_
                 exact lf yF (bf hb (fun q => hc23 q.2.1.w1))
            ·
             refine pP 71 yF rfl (Eq.trans (r_bin rfl rfl rfl (b_eql rfl)) (dF hc12)) <| PQ.ps [(72, yF)] rfl <| PQ.offs 73 3 rfl <| PQ.ps [(76, yF), (77, yF)] rfl <| PQ.done (d := []) (by kernel_rfl) fun _ => RA.rb [(0, (.agg ⟨(cChk d)⟩)), (1, (Pt n 0 0)), (2, yF), (77, yF)] rfl (fun τr40 => ?_)
             refine RA.condF rfl <| RA.skip env_ok ?_
             intro _
             refine RA.seq hd <| RA.par (md := [some [], some [n], none, some [], some [n], none, none, some []]) env_ok (hd.of (by omega) (kb1 (by omega))) (by kernel_rfl) <| PQ.ps [(78, (Pt n 0 11))] rfl <| pQl 79 d.pv get_here ?_
             refine PQ.call (dst := (some 80)) (all := [d.pv]) rfl rfl rfl rfl rfl rfl rfl rfl _ (sA (V := []) (by kernel_rfl) (by kernel_rfl)) (CQ.imp (CQ.keys (rParams (hd.of (by omega) (kb1 (by omega))) d.ps d.pv hp18 (h.mono (sub_a1 hd)).hp)) ?_)
             rintro _ n41 _ ⟨hkn41, ⟨kpn41, q1n41, q2n41, rfl, rfl⟩⟩
             have hn41 := hkn41.1
             refine ⟨hn41, (kp1 (by first | exact wr_new (by omega) (by omega) | exact wr_old [3, 4] (by kernel_rfl) (by omega) (by omega) (fac (lo0 rfl) (fac (lo1 rfl (by omega)) fan)))), ?_⟩
             refine PQ.ps [(81, (Pt n 0 12))] rfl <| pQl 82 d.cv get_here ?_
             refine PQ.call (dst := (some 83)) (all := [d.cv]) rfl rfl rfl rfl rfl rfl rfl rfl _ (sA (V := [(kpn41, some (oPrp (d.ps.map toP)))]) (by kernel_rfl) (by kernel_rfl)) (CQ.imp (CQ.keys (rCauses (hd.of (by omega) (kb2 (by omega))) d.cs d.cv hc18 (h.mono (sub_app (n' := n41) hd (kc2 (by omega)))).hc)) ?_)
             rintro _ n42 _ ⟨hkn42, ⟨kcn42, q3n42, q4n42, rfl, rfl⟩⟩
             have hn42 := hkn42.1
             refine ⟨hn42, (kp1 (by first | exact wr_new (by omega) (by omega) | exact wr_tight (by kernel_rfl) (by omega))), ?_⟩
             by_cases hc27 : d.cs.length = 0
             ·
              refine PQ.pure (dst := (some 84)) (v := (.slice (some ⟨kpn41, 0, none⟩) d.ps.length 0)) rfl rfl rfl _ (sA (V := [(kcn42, some (oPrp (d.cs.map toC))), (kpn41, some (oPrp (d.ps.map toP)))]) (by kernel_rfl) (by kernel_rfl)) (r_appendZ rfl rfl rfl rfl (.inl ⟨_, _, _, rfl, by decide⟩) rfl rfl rfl rfl rfl (by decide) (by omega)) <| PQ.ps [(3, (.slice (some ⟨kpn41, 0, none⟩) d.ps.length 0))] rfl <| PQ.done (d := [(kcn42, some (oPrp (d.cs.map toC))), (kpn41, some (oPrp (d.ps.map toP)))]) (by kernel_rfl) fun _ => RA.seq hd <| RA.sR hd env_ok <| OA.ps [(4, (.int .i64 0))] rfl <| OA.nil fun _ => RA.block ?_
              have hqq : prpsOk (d.ps.map toP) ↔ (prmsOk d.ps ∧ causOk d.cs) := okPC0 (by omega)
              have hql : (d.ps.map toP).length = d.ps.length := by simp only [List.length_append, List.length_map]
              refine RA.weaken hd (LsO (fA get_here (gt2 (by omega) get_here) (fA (get_there (by omega) get_here) (get_there (by omega) get_here) fan))) ?_
              refine RA.loop hd (fun kk_ τ n' D => (∃ i : Nat, kk_ = (d.ps.length - i) ∧ n42 ≤ n' ∧ Has τ [(1, (Pt n 0 0)), (3, (.slice (some ⟨kpn41, 0, none⟩) d.ps.length 0)), (4, (.int .i64 ((i : Nat) : Int)))] ∧ D = [(n, some ⟨[(xCr61 d)], 15, 53, true⟩), (kpn41, some (oPrp (d.ps.map toP)))] ∧ (∀ i ∈ keys D, i < n') ∧ i ≤ d.ps.length ∧ (∀ p ∈ (d.ps.map toP).take i, prmOk p.typ p.val))) ((d.ps.length - 0)) (⟨0, rfl, by omega, ⟨rfl, rfl, rfl, trivial⟩, rfl, (kb2 (by omega)), ⟨by omega, fun p hp => by simp at hp⟩⟩) ?_
              rintro kn43 τ43 n43 _ ⟨i, rfl, hn43, hHn43, rfl, hKn43, hIn43⟩
              rw [Has.eq hHn43]
              have hKn43_0 := kk0 hKn43
              have hKn43_1 := kk1 hKn43
              clear hKn43
              obtain ⟨hil, hall⟩ := hIn43
              refine RA.seq hd <| RA.sR hd env_ok <| OA.ps [(85, (.int .i64 ((i : Nat) : Int))), (86, (.slice (some ⟨kpn41, 0, none⟩) d.ps.length 0)), (87, (.int .i64 ((d.ps.length : Nat) : Int)))] rfl ?_
              by_cases hc28 : ((i : Nat) : Int) < ((d.ps.length : Nat) : Int)
              ·
               refine oP 88 yT rfl (Eq.trans (r_bin rfl rfl rfl (b_lss rfl)) (dT hc28)) <| OA.nil fun _ => RA.condT rfl <| RA.skip env_ok ?_
               intro _
               refine RA.seq hd <| RA.block <| RA.sR hd env_ok <| OA.ps [(91, (.slice (some ⟨kpn41, 0, none⟩) d.ps.length 0)), (92, (.int .i64 ((i : Nat) : Int)))] rfl <| oP 93 (Pt kpn41 i 0) rfl (r_iaS (l := i) rfl rfl rfl rfl rfl rfl (by omega) (by omega) (get_there (by omega) get_here) rfl (by omega)) <| oP 94 (.agg ⟨(cPrp ((d.ps.map toP).getD i dPrp))⟩) rfl (r_loadR (c := cPrp) dPrp rfl rfl rfl rfl (get_there (by omega) get_here) (by have := (show (d.ps.map toP).length = d.ps.length from List.length_map _); omega) rfl) ?_
               by_cases hc29 : prmOk (((d.ps.map toP).getD i dPrp).typ) ((d.ps.map toP).getD i dPrp).val
               ·
                refine oC 95 (hd.of (by omega) (kb2 (by omega))) rfl rfl (r4May (((d.ps.map toP).getD i dPrp).typ) ((d.ps.map toP).getD i dPrp).val true (bT hc29)) fun n44 hn44 => OA.ps [(96, yF)] rfl <| OA.nil fun _ => RA.condF rfl <| RA.skip env_ok ?_
                intro _
                refine RA.region env_ok <| OA.ps [(89, (.int .i64 ((i : Nat) : Int)))] rfl <| oP 90 (.int .i64 (((i + 1) : Nat) : Int)) rfl (r_bin rfl rfl rfl (b_add (i64_eq (by omega)))) <| OA.ps [(4, (.int .i64 (((i + 1) : Nat) : Int)))] rfl <| OA.nil ?_
                refine ⟨(d.ps.length - (i + 1)), by omega, [(n, some ⟨[(xCr61 d)], 15, 53, true⟩), (kpn41, some (oPrp (d.ps.map toP)))], (Less.refl _ _ _), ⟨(i + 1), rfl, by omega, ⟨rfl, rfl, rfl, trivial⟩, rfl, (kb2 (by omega)), ⟨by omega, take_all (d0 := dPrp) (by omega) hall (by assumption)⟩⟩⟩
               ·
                have hnl : ¬ (prmsOk d.ps ∧ causOk d.cs) := fun q => hc29 (hqq.2 q _ (getD_mem (by omega)))
                refine oC 95 (hd.of (by omega) (kb2 (by omega))) rfl rfl (r4May (((d.ps.map toP).getD i dPrp).typ) ((d.ps.map toP).getD i dPrp).val false (bF hc29)) fun n45 hn45 => OA.ps [(96, yT)] rfl <| OA.nil fun _ => RA.condT rfl <| RA.sR hd env_ok <| OA.ps [(2, yF)] rfl <| OA.nil fun _ => ?_
                refine RA.ret env_ok ?_
                exact lf yF (bf hb (fun q => hnl ⟨q.2.1.lists.1, q.2.1.lists.2.1⟩))
              ·
               have hlok := hqq.1 (by rw [take_full (by omega)] at hall; exact hall)
               refine oP 88 yF rfl (Eq.trans (r_bin rfl rfl rfl (b_lss rfl)) (dF hc28)) <| OA.nil fun _ => RA.condF rfl ?_
               refine RA.exit env_ok ?_
               intro _
               refine RA.sR hd env_ok <| OA.ps [(97, (Pt n 0 3))] rfl <| oL 98 (.int .i64 d.stream) get_here ?_
               by_cases hc30 : wordP (d.stream)
               ·
                refine oC 99 (hd.of (by omega) (kb2 (by omega))) rfl rfl (rWord (d.stream) true (bT hc30)) fun n46 hn46 => OA.ps [(100, yT), (101, (Pt n 0 4))] rfl <| oL 102 (.int .i64 d.ssn) get_here ?_
                by_cases hc31 : wordP (d.ssn)
                ·
                 refine oC 103 (hd.of (by omega) (kb2 (by omega))) rfl rfl (rWord (d.ssn) true (bT hc31)) fun n47 hn47 => OA.ps [(104, yT), (105, yT), (106, (Pt n 0 9))] rfl <| oL 107 (.int .i64 d.outs) get_here ?_
                 by_cases hc32 : wordP (d.outs)
                 ·
                  refine oC 108 (hd.of (by omega) (kb2 (by omega))) rfl rfl (rWord (d.outs) true (bT hc32)) fun n48 hn48 => OA.ps [(109, yT), (110, yT), (111, (Pt n 0 10))] rfl <| oL 112 (.int .i64 d.ins) get_here ?_
                  by_cases hc33 : wordP (d.ins)
                  ·
                   refine oC 113 (hd.of (by omega) (kb2 (by omega))) rfl rfl (rWord (d.ins) true (bT hc33)) fun n49 hn49 => OA.ps [(114, yT), (2, yT)] rfl <| OA.nil fun _ => ?_
                   refine RA.ret env_ok ?_
                   exact lf yT (bt hb (⟨⟨by omega, by omega, by omega, by omega⟩, ⟨⟨hlok.1, hlok.2, by omega, by omega⟩, hc30, hc31, hc32, hc33, by omega, hgpK, by omega⟩, by omega, hhsK⟩))
                  ·
                   refine oC 113 (hd.of (by omega) (kb2 (by omega))) rfl rfl (rWord (d.ins) false (bF hc33)) fun n50 hn50 => OA.ps [(114, yF), (2, yF)] rfl <| OA.nil fun _ => ?_
                   refine RA.ret env_ok ?_
                   exact lf yF (bf hb (fun q => hc33 q.2.1.w4))
                 ·
                  refine oC 108 (hd.of (by omega) (kb2 (by omega))) rfl rfl (rWord (d.outs) false (bF hc32)) fun n51 hn51 => OA.ps [(109, yF), (110, yF)] rfl <| OA.offs 111 3 rfl <| OA.ps [(114, yF), (2, yF)] rfl <| OA.nil fun _ => ?_
                  refine RA.ret env_ok ?_
                  exact lf yF (bf hb (fun q => hc32 q.2.1.w3))
                ·
                 refine oC 103 (hd.of (by omega) (kb2 (by omega))) rfl rfl (rWord (d.ssn) false (bF hc31)) fun n52 hn52 => OA.ps [(104, yF), (105, yF)] rfl <| OA.offs 106 3 rfl <| OA.ps [(109, yF), (110, yF)] rfl <| OA.offs 111 3 rfl <| OA.ps [(114, yF), (2, yF)] rfl <| OA.nil fun _ => ?_
                 refine RA.ret env_ok ?_
                 exact lf yF (bf hb (fun q => hc31 q.2.1.w2))
               ·
                refine oC 99 (hd.of (by omega) (kb2 (by omega))) rfl rfl (rWord (d.stream) false (bF hc30)) fun n53 hn53 => OA.ps [(100, yF)] rfl <| OA.offs 101 3 rfl <| OA.ps [(104, yF), (105, yF)] rfl <| OA.offs 106 3 rfl <| OA.ps [(109, yF), (110, yF)] rfl <| OA.offs 111 3 rfl <| OA.ps [(114, yF), (2, yF)] rfl <| OA.nil fun _ => ?_
                refine RA.ret env_ok ?_
                exact lf yF (bf hb (fun q => hc30 q.2.1.w1))
             ·
              refine PQ.op (dst := (some 84)) (v := (.slice (some ⟨n42, 0, none⟩) (d.ps.length + d.cs.length) 0)) (n1 := (n42 + 1)) (d1 := [(n42, some (oPrp ((d.ps.map toP) ++ (d.cs.map toC)))), (kpn41, none)]) rfl rfl rfl _ (sA (V := [(kcn42, some (oPrp (d.cs.map toC))), (kpn41, some (oPrp (d.ps.map toP)))]) (by kernel_rfl) (by kernel_rfl)) (r_appendL (c := cPrp) (l' := ((d.ps.map toP) ++ (d.cs.map toC))) rfl rfl rfl rfl rfl rfl rfl rfl rfl rfl (by decide) (get_there (by omega) get_here) get_here (by rw [show (d.ps.map toP).length = d.ps.length from List.length_map _]) (by omega) (by have hlo := (show (d.cs.map toC).length = d.cs.length from List.length_map _); omega) (by rw [List.drop_zero, List.take_of_length_le (by rw [List.length_map]; exact Nat.le_refl _)]) (by omega) (of_decide_eq_true (by kernel_rfl)) (by omega)) (by omega) (kp2 (wr_new (by omega) (by omega)) (wr_tight (by kernel_rfl) (by omega))) <| PQ.ps [(3, (.slice (some ⟨n42, 0, none⟩) (d.ps.length + d.cs.length) 0))] rfl <| PQ.done (d := [(n42, some (oPrp ((d.ps.map toP) ++ (d.cs.map toC)))), (kpn41, none), (kcn42, some (oPrp (d.cs.map toC))), (kpn41, some (oPrp (d.ps.map toP)))]) (by kernel_rfl) fun _ => RA.seq hd <| RA.sR hd env_ok <| OA.ps [(4, (.int .i64 0))] rfl <| OA.nil fun _ => RA.block ?_
              have hqq : prpsOk ((d.ps.map toP) ++ (d.cs.map toC)) ↔ (prmsOk d.ps ∧ causOk d.cs) := okPC
              have hql : ((d.ps.map toP) ++ (d.cs.map toC)).length = (d.ps.length + d.cs.length) := by simp only [List.length_append, List.length_map]
              refine RA.weaken hd (LsO (fA get_here (gt4 (by omega) get_here) (fA (get_there (by omega) get_here) get_here fan))) ?_
              refine RA.loop hd (fun kk_ τ n' D => (∃ i : Nat, kk_ = ((d.ps.length + d.cs.length) - i) ∧ (n42 + 1) ≤ n' ∧ Has τ [(1, (Pt n 0 0)), (3, (.slice (some ⟨n42, 0, none⟩) (d.ps.length + d.cs.length) 0)), (4, (.int .i64 ((i : Nat) : Int)))] ∧ D = [(n, some ⟨[(xCr61 d)], 15, 53, true⟩), (n42, some (oPrp ((d.ps.map toP) ++ (d.cs.map toC))))] ∧ (∀ i ∈ keys D, i < n') ∧ i ≤ (d.ps.length + d.cs.length) ∧ (∀ p ∈ ((d.ps.map toP) ++ (d.cs.map toC)).take i, prmOk p.typ p.val))) (((d.ps.length + d.cs.length) - 0)) (⟨0, rfl, by omega, ⟨rfl, rfl, rfl, trivial⟩, rfl, (kb2 (by omega)), ⟨by omega, fun p hp => by simp at hp⟩⟩) ?_
              rintro kn54 τ54 n54 _ ⟨i, rfl, hn54, hHn54, rfl, hKn54, hIn54⟩
              rw [Has.eq hHn54]
              have hKn54_0 := kk0 hKn54
              have hKn54_1 := kk1 hKn54
              clear hKn54
              obtain ⟨hil, hall⟩ := hIn54
              refine RA.seq hd <| RA.sR hd env_ok <| OA.ps [(85, (.int .i64 ((i : Nat) : Int))), (86, (.slice (some ⟨n42, 0, none⟩) (d.ps.length + d.cs.length) 0)), (87, (.int .i64 (((d.ps.length + d.cs.length) : Nat) : Int)))] rfl ?_
              by_cases hc34 : ((i : Nat) : Int) < (((d.ps.length + d.cs.length) : Nat) : Int)
              ·
               refine oP 88 yT rfl (Eq.trans (r_bin rfl rfl rfl (b_lss rfl)) (dT hc34)) <| OA.nil fun _ => RA.condT rfl <| RA.skip env_ok ?_
               intro _
               refine RA.seq hd <| RA.block <| RA.sR hd env_ok <| OA.ps [(91, (.slice (some ⟨n42, 0, none⟩) (d.ps.length + d.cs.length) 0)), (92, (.int .i64 ((i : Nat) : Int)))] rfl <| oP 93 (Pt n42 i 0) rfl (r_iaS (l := i) rfl rfl rfl rfl rfl rfl (by omega) (by omega) (get_there (by omega) get_here) rfl (by omega)) <| oP 94 (.agg ⟨(cPrp (((d.ps.map toP) ++ (d.cs.map toC)).getD i dPrp))⟩) rfl (r_loadR (c := cPrp) dPrp rfl rfl rfl rfl (get_there (by omega) get_here) (by have := (show ((d.ps.map toP) ++ (d.cs.map toC)).length = (d.ps.length + d.cs.length) from by rw [List.length_append, List.length_map, List.length_map]); omega) rfl) ?_
               by_cases hc35 : prmOk ((((d.ps.map toP) ++ (d.cs.map toC)).getD i dPrp).typ) (((d.ps.map toP) ++ (d.cs.map toC)).getD i dPrp).val
               ·
                refine oC 95 (hd.of (by omega) (kb2 (by omega))) rfl rfl (r4May ((((d.ps.map toP) ++ (d.cs.map toC)).getD i dPrp).typ) (((d.ps.map toP) ++ (d.cs.map toC)).getD i dPrp).val true (bT hc35)) fun n55 hn55 => OA.ps [(96, yF)] rfl <| OA.nil fun _ => RA.condF rfl <| RA.skip env_ok ?_
                intro _
                refine RA.region env_ok <| OA.ps [(89, (.int .i64 ((i : Nat) : Int)))] rfl <| oP 90 (.int .i64 (((i + 1) : Nat) : Int)) rfl (r_bin rfl rfl rfl (b_add (i64_eq (by omega)))) <| OA.ps [(4, (.int .i64 (((i + 1) : Nat) : Int)))] rfl <| OA.nil ?_
                refine ⟨((d.ps.length + d.cs.length) - (i + 1)), by omega, [(n, some ⟨[(xCr61 d)], 15, 53, true⟩), (n42, some (oPrp ((d.ps.map toP) ++ (d.cs.map toC))))], (Less.refl _ _ _), ⟨(i + 1), rfl, by omega, ⟨rfl, rfl, rfl, trivial⟩, rfl, (kb2 (by omega)), ⟨by omega, take_all (d0 := dPrp) (by omega) hall (by assumption)⟩⟩⟩
               ·
                have hnl : ¬ (prmsOk d.ps ∧ causOk d.cs) := fun q => hc35 (hqq.2 q _ (getD_mem (by omega)))
                refine oC 95 (hd.of (by omega) (kb2 (by omega))) rfl rfl (r4May ((((d.ps.map toP) ++ (d.cs.map toC)).getD i dPrp).typ) (((d.ps.map toP) ++ (d.cs.map toC)).getD i dPrp).val false (bF hc35)) fun n56 hn56 => OA.ps [(96, yT)] rfl <| OA.nil fun _ => RA.condT rfl <| RA.sR hd env_ok <| OA.ps [(2, yF)] rfl <| OA.nil fun _ => ?_
                refine RA.ret env_ok ?_
                exact lf yF (bf hb (fun q => hnl ⟨q.2.1.lists.1, q.2.1.lists.2.1⟩))
              ·
               have hlok := hqq.1 (by rw [take_full (by omega)] at hall; exact hall)
               refine oP 88 yF rfl (Eq.trans (r_bin rfl rfl rfl (b_lss rfl)) (dF hc34)) <| OA.nil fun _ => RA.condF rfl ?_
               refine RA.exit env_ok ?_
               intro _
               refine RA.sR hd env_ok <| OA.ps [(97, (Pt n 0 3))] rfl <| oL 98 (.int .i64 d.stream) get_here ?_
               by_cases hc36 : wordP (d.stream)
               ·
                refine oC 99 (hd.of (by omega) (kb2 (by omega))) rfl rfl (rWord (d.stream) true (bT hc36)) fun n57 hn57 => OA.ps [(100, yT), (101, (Pt n 0 4))] rfl <| oL 102 (.int .i64 d.ssn) get_here ?_
                by_cases hc37 : wordP (d.ssn)
                ·
                 refine oC 103 (hd.of (by omega) (kb2 (by omega))) rfl rfl (rWord (d.ssn) true (bT hc37)) fun n58 hn58 => OA.ps [(104, yT), (105, yT), (106, (Pt n 0 9))] rfl <| oL 107 (.int .i64 d.outs) get_here ?_
                 by_cases hc38 : wordP (d.outs)
                 ·
                  refine oC 108 (hd.of (by omega) (kb2 (by omega))) rfl rfl (rWord (d.outs) true (bT hc38)) fun n59 hn59 => OA.ps [(109, yT), (110, yT), (111, (Pt n 0 10))] rfl <| oL 112 (.int .i64 d.ins) get_here ?_
                  by_cases hc39 : wordP (d.ins)
                  ·
                   refine oC 113 (hd.of (by omega) (kb2 (by omega))) rfl rfl (rWord (d.ins) true (bT hc39)) fun n60 hn60 => OA.ps [(114, yT), (2, yT)] rfl <| OA.nil fun _ => ?_
                   refine RA.ret env_ok ?_
                   exact lf yT (bt hb (⟨⟨by omega, by omega, by omega, by omega⟩, ⟨⟨hlok.1, hlok.2, by omega, by omega⟩, hc36, hc37, hc38, hc39, by omega, hgpK, by omega⟩, by omega, hhsK⟩))
                  ·
                   refine oC 113 (hd.of (by omega) (kb2 (by omega))) rfl rfl (rWord (d.ins) false (bF hc39)) fun n61 hn61 => OA.ps [(114, yF), (2, yF)] rfl <| OA.nil fun _ => ?_
                   refine RA.ret env_ok ?_
                   exact lf yF (bf hb (fun q => hc39 q.2.1.w4))
                 ·
                  refine oC 108 (hd.of (by omega) (kb2 (by omega))) rfl rfl (rWord (d.outs) false (bF hc38)) fun n62 hn62 => OA.ps [(109, yF), (110, yF)] rfl <| OA.offs 111 3 rfl <| OA.ps [(114, yF), (2, yF)] rfl <| OA.nil fun _ => ?_
                  refine RA.ret env_ok ?_
                  exact lf yF (bf hb (fun q => hc38 q.2.1.w3))
                ·
                 refine oC 103 (hd.of (by omega) (kb2 (by omega))) rfl rfl (rWord (d.ssn) false (bF hc37)) fun n63 hn63 => OA.ps [(104, yF), (105, yF)] rfl <| OA.offs 106 3 rfl <| OA.ps [(109, yF), (110, yF)] rfl <| OA.offs 111 3 rfl <| OA.ps [(114, yF), (2, yF)] rfl <| OA.nil fun _ => ?_
                 refine RA.ret env_ok ?_
                 exact lf yF (bf hb (fun q => hc37 q.2.1.w2))
               ·
                refine oC 99 (hd.of (by omega) (kb2 (by omega))) rfl rfl (rWord (d.stream) false (bF hc36)) fun n64 hn64 => OA.ps [(100, yF)] rfl <| OA.offs 101 3 rfl <| OA.ps [(104, yF), (105, yF)] rfl <| OA.offs 106 3 rfl <| OA.ps [(109, yF), (110, yF)] rfl <| OA.offs 111 3 rfl <| OA.ps [(114, yF), (2, yF)] rfl <| OA.nil fun _ => ?_
                refine RA.ret env_ok ?_
                exact lf yF (bf hb (fun q => hc36 q.2.1.w1))
           ·
            refine pA 64 (V := []) (hd.of (by omega) (kb1 (by omega))) rfl rfl (by kernel_rfl) (by kernel_rfl) (rGaps d false (bF hc11) (h.mono (sub_a1 hd))) fun n65 hn65 => PQ.ps [(65, yT), (66, yT), (67, yT)] rfl <| PQ.offs 68 9 rfl <| PQ.ps [(77, yT)] rfl <| PQ.done (d := []) (by kernel_rfl) fun _ => RA.rb [(0, (.agg ⟨(cChk d)⟩)), (1, (Pt n 0 0)), (2, yF), (77, yT)] rfl (fun τr66 => ?_)
            refine RA.condT rfl <| RA.sR hd env_ok <| OA.ps [(2, yF)] rfl <| OA.nil fun _ => ?_
            refine RA.ret env_ok ?_
            exact lf yF (bf hb (fun q => hc11 q.2.1.gaps))
      ·
       refine pA 35 (V := []) (hd.of (by omega) (kb1 (by omega))) rfl rfl (by kernel_rfl) (by kernel_rfl) (rHas d true (bT hc6) (h.mono (sub_a1 hd))) fun n67 hn67 => PQ.ps [(36, yT), (37, yT)] rfl <| PQ.offs 38 4 rfl <| PQ.ps [(42, yT), (43, yT)] rfl <| PQ.offs 44 4 rfl <| PQ.ps [(48, yT), (49, yT)] rfl <| PQ.offs 50 4 rfl <| PQ.ps [(54, yT), (55, yT)] rfl <| PQ.offs 56 4 rfl <| PQ.ps [(60, yT), (61, yT)] rfl <| PQ.offs 62 4 rfl ?_
       refine PQ.ps [(66, yT), (67, yT)] rfl <| PQ.offs 68 9 rfl <| PQ.ps [(77, yT)] rfl <| PQ.done (d := []) (by kernel_rfl) fun _ => RA.rb [(0, (.agg ⟨(cChk d)⟩)), (1, (Pt n 0 0)), (2, yF), (77, yT)] rfl (fun τr68 => ?_)
       refine RA.condT rfl <| RA.sR hd env_ok <| OA.ps [(2, yF)] rfl <| OA.nil fun _ => ?_
       refine RA.ret env_ok ?_
       exact lf yF (bf hb (fun q => hc6 q.2.2.2))
theorem rChPutT {σ : Store} (d : Chk) (hm : mayP d)  (h : gd σ d) : PS Try.prog noDen 47 [(.agg ⟨(cChk d)⟩)] σ (.string (bstr (chL d))) := by
 have hp18 := h.p18
 have hc18 := h.c18
 have hg18 := h.g18
 have hd18 := h.u18
 have hfl := h.fl
 have hm1 := hm.1
 have hfle := fl_le d.typ
 have hbl := bodyL_len hm.2.1
 refine PS.body (E := env) env_ok rfl rfl (by show _ ≤ _; exact of_decide_eq_true (by kernel_rfl)) (fun n hd => ?_)
 refine RA.sR hd env_ok <| o1 (some 1) (Pt n 0 0) (n + 1) (n, some ⟨[(cChk d)], 15, 53, true⟩) (r_box (cs := (cChk d)) rfl rfl rfl (Nat.le_of_ble_eq_true rfl) (by simp only [List.all_cons, List.all_nil, Bool.and_true, Bool.and_eq_true, cChk]; exact ⟨rfl, rfl, rfl, rfl, rfl, rfl, rfl, rfl, rfl, rfl, rfl, (h.hp).one, (h.hc).one, (h.hg).one, (h.hu).one⟩)) <| OA.ps [(2, (.string (ByteArray.mk #[])))] rfl <| OA.nil fun _ => RA.seq hd <| RA.sR hd env_ok <| oP 4 (.agg ⟨(xCr61 d)⟩) rfl (r_loadA rfl rfl rfl rfl get_here rfl rfl rfl) <| oC 5 (hd.of (by omega) (kb1 (by omega))) rfl rfl (rMay d true (bT hm) (h.mono (sub_a1 hd))) fun n1 hn1 => OA.ps [(6, yF)] rfl <| OA.nil fun _ => RA.condF rfl ?_
 refine RA.skip env_ok ?_
 intro _
 refine RA.sR hd env_ok <| oP 7 (.agg ⟨(xCr61 d)⟩) rfl (r_loadA rfl rfl rfl rfl get_here rfl rfl rfl) <| oC 8 (hd.of (by omega) (kb1 (by omega))) rfl rfl (rBody d hm.2.1 (h.mono (sub_a1 hd))) fun n2 hn2 => OA.ps [(3, (.string (bstr (bodyL d))))] rfl <| OA.nil fun _ => RA.seq hd <| RA.par (md := [some [], some [n], none, some [], some [n], none, some [], some [], some [], some [], none, some [], some [], some [], none, some []]) env_ok (hd.of (by omega) (kb1 (by omega))) (by kernel_rfl) <| PQ.ps [(9, (Pt n 0 0))] rfl <| pQl 10 (.int .i64 d.typ) get_here <| pA 11 (V := []) (hd.of (by omega) (kb1 (by omega))) rfl rfl (by kernel_rfl) (by kernel_rfl) (qNum1 (d.typ) (by omega) (by omega)) fun n3 hn3 => PQ.ps [(12, (Pt n 0 1))] rfl ?_
 refine pQl 13 (.int .i64 d.flags) get_here <| pA 14 (V := []) (hd.of (by omega) (kb1 (by omega))) rfl rfl (by kernel_rfl) (by kernel_rfl) (qNum1 (d.flags) (by omega) (by omega)) fun n4 hn4 => pP 15 (.string (bstr ((be1 (d.typ).toNat) ++ (be1 (d.flags).toNat)))) rfl (Eq.trans (r_cat rfl rfl rfl (by simp only [bstr_size, size_lit, List.length_append, be2_len, be4_len, be1_len, List.length_replicate, List.length_cons, List.length_nil, List.size_toArray, be1_len]; omega)) (by rw [bstr_app] <;> rfl)) <| PQ.ps [(16, (.string (bstr (bodyL d))))] rfl <| pP 17 (.int .i64 (((bodyL d).length : Nat) : Int)) rfl (Eq.trans (show _ = some (Value.int .i64 (((bstr (bodyL d)).size : Nat) : Int), _, []) from rfl) (by rw [bstr_size] <;> rfl)) <| pP 18 (.int .i64 ((((bodyL d).length + 4) : Nat) : Int)) rfl (r_bin rfl rfl rfl (b_add (i64_eq (by omega)))) <| pA 19 (V := []) (hd.of (by omega) (kb1 (by omega))) rfl rfl (by kernel_rfl) (by kernel_rfl) (qNum2n ((bodyL d).length + 4) (by omega)) fun n5 hn5 => pP 20 (.string (bstr (((be1 (d.typ).toNat) ++ (be1 (d.flags).toNat)) ++ (be2 ((bodyL d).length + 4))))) rfl (Eq.trans (r_cat rfl rfl rfl (by simp only [bstr_size, size_lit, List.length_append, be2_len, be4_len, be1_len, List.length_replicate, List.length_cons, List.length_nil, List.size_toArray, be1_len]; omega)) (by rw [bstr_app] <;> rfl)) <| PQ.ps [(21, (.string (bstr (bodyL d))))] rfl <| pP 22 (.string (bstr ((((be1 (d.typ).toNat) ++ (be1 (d.flags).toNat)) ++ (be2 ((bodyL d).length + 4))) ++ (bodyL d)))) rfl (Eq.trans (r_cat rfl rfl rfl (by simp only [bstr_size, size_lit, List.length_append, be2_len, be4_len, be1_len, List.length_replicate, List.length_cons, List.length_nil, List.size_toArray, be1_len]; omega)) (by rw [bstr_app] <;> rfl)) <| pA 23 (V := []) (hd.of (by omega) (kb1 (by omega))) rfl rfl (by kernel_rfl) (by kernel_rfl) (lRF (be1 d.typ.toNat ++ be1 d.flags.toNat ++ be2 ((bodyL d).length + 4) ++ bodyL d) (by simp only [List.length_append, be1_len, be2_len]; omega)) fun n6 hn6 => ?_
 refine PQ.ps [(2, (.string (bstr (chL d))))] rfl <| PQ.done (d := []) (by kernel_rfl) fun _ => ?_
 refine RA.ret env_ok ?_
 exact lf (.string (bstr (chL d))) rfl
theorem rChPutF {σ : Store} (d : Chk) (hm : ¬ mayP d)  (h : gd σ d) : PS Try.prog noDen 47 [(.agg ⟨(cChk d)⟩)] σ (.string (ByteArray.mk #[])) := by
 have hp18 := h.p18
 have hc18 := h.c18
 have hg18 := h.g18
 have hd18 := h.u18
 have hfl := h.fl
 refine PS.body (E := env) env_ok rfl rfl (by show _ ≤ _; exact of_decide_eq_true (by kernel_rfl)) (fun n hd => ?_)
 refine RA.sR hd env_ok <| o1 (some 1) (Pt n 0 0) (n + 1) (n, some ⟨[(cChk d)], 15, 53, true⟩) (r_box (cs := (cChk d)) rfl rfl rfl (Nat.le_of_ble_eq_true rfl) (by simp only [List.all_cons, List.all_nil, Bool.and_true, Bool.and_eq_true, cChk]; exact ⟨rfl, rfl, rfl, rfl, rfl, rfl, rfl, rfl, rfl, rfl, rfl, (h.hp).one, (h.hc).one, (h.hg).one, (h.hu).one⟩)) <| OA.ps [(2, (.string (ByteArray.mk #[])))] rfl <| OA.nil fun _ => RA.seq hd <| RA.sR hd env_ok <| oP 4 (.agg ⟨(xCr61 d)⟩) rfl (r_loadA rfl rfl rfl rfl get_here rfl rfl rfl) <| oC 5 (hd.of (by omega) (kb1 (by omega))) rfl rfl (rMay d false (bF hm) (h.mono (sub_a1 hd))) fun n1 hn1 => OA.ps [(6, yT)] rfl <| OA.nil fun _ => RA.condT rfl ?_
 refine RA.sR hd env_ok <| OA.ps [(2, (.string (ByteArray.mk #[])))] rfl <| OA.nil fun _ => ?_
 refine RA.ret env_ok ?_
 exact lf (.string (ByteArray.mk #[])) rfl
end Go.Proofs.Ytgajcmanompmcaa.Vt
/- Cx5: walks through functions of the program, by the calculus; written by a program of this workplace. -/
namespace Go.Proofs.Ytgajcmanompmcaa.Vt
open Go Go.Proofs Go.Proofs.YtgajcmanompmcaaV
set_option maxRecDepth 100000
set_option linter.unusedVariables false
set_option linter.unusedSimpArgs false
set_option maxHeartbeats 8000000
abbrev cutD (c : Chk) (j0 j1 : Nat) : Chk := Chk.mk c.typ c.flags c.tsn c.stream c.ssn c.proto (c.data.extract 0 (min c.data.size 950)) c.tag c.rwnd c.outs c.ins (.slice (some ⟨j0, 0, none⟩) (min c.ps.length 18) 0) (.slice (some ⟨j1, 0, none⟩) (min c.cs.length 18) 0) (cutV c.gv (min c.gs.length 18)) (cutV c.dv (min c.ds.length 18)) ((c.ps.take (min c.ps.length 18)).map cutPrm) ((c.cs.take (min c.cs.length 18)).map cutCau) (c.gs.take (min c.gs.length 18)) (c.ds.take (min c.ds.length 18))
def okIn (σ : Store) (c : Chk) : Prop := okChk σ c ∧ c.flags < 9223372036854775808 ∧ ∀ g ∈ c.gs, g.lo < 9223372036854775808
theorem gd_cut {σ σ' : Store} {c : Chk} {j0 j1 : Nat} (h : okIn σ c) (hk : Sub σ σ') (h0 : σ' j0 = some (oPrm ((c.ps.take (min c.ps.length 18)).map cutPrm))) (h1 : σ' j1 = some (oCau ((c.cs.take (min c.cs.length 18)).map cutCau))) : gd σ' (cutD c j0 j1) where
  hp := RowQ.new h0 (cutPrm_len (by omega))
  hc := RowQ.new h1 (cutCau_len (by omega))
  hg := ((h.1.2.2.1.cutR (min c.gs.length 18) (by omega)).mono hk).Q
  hu := ((h.1.2.2.2.cutR (min c.ds.length 18) (by omega)).mono hk).Q
  p18 := by show ((c.ps.take (min c.ps.length 18)).map cutPrm).length ≤ 18; rw [cutPrm_len (by omega)]; omega
  c18 := by show ((c.cs.take (min c.cs.length 18)).map cutCau).length ≤ 18; rw [cutCau_len (by omega)]; omega
  g18 := by show (c.gs.take (min c.gs.length 18)).length ≤ 18; rw [List.length_take]; omega
  u18 := by show (c.ds.take (min c.ds.length 18)).length ≤ 18; rw [List.length_take]; omega
  fl := h.2.1
  gr := fun g hg => h.2.2 g (List.mem_of_mem_take hg)
theorem okChk_mono {σ σ' : Store} (hs : Sub σ σ') {c : Chk} (h : okChk σ c) : okChk σ' c := ⟨h.1.mono hs, h.2.1.mono hs, h.2.2.1.mono hs, h.2.2.2.mono hs⟩
abbrev xCx51 : List Value := [(.int .i64 0), (.int .i64 0), (.int .u32 0), (.int .i64 0), (.int .i64 0), (.int .u32 0), (.string ByteArray.empty), (.int .u32 0), (.int .u32 0), (.int .i64 0), (.int .i64 0), (.slice none 0 0), (.slice none 0 0), (.slice none 0 0), (.slice none 0 0)]
theorem rSameV {σ : Store} (d : Chk) (v1 v2 v3 v4 : Value) (h : gd σ d) (h2 : gd σ (setV d v1 v2 v3 v4))   : PS Try.prog noDen 26 [(.agg ⟨(cChk d)⟩), (.agg ⟨(cChk (setV d v1 v2 v3 v4))⟩)] σ (.bool true) := by
 have g1 : RowQ σ 35 2 v1 (d.ps.map cPrm) := h2.hp
 have g2 : RowQ σ 99 2 v2 (d.cs.map cCau) := h2.hc
 have g3 : RowQ σ 101 2 v3 (d.gs.map cGp) := h2.hg
 have g4 : RowQ σ 36 1 v4 (d.ds.map cDp) := h2.hu
 have hq1 := h.p18
 have hq2 := h.c18
 have hq3 := h.g18
 have hq4 := h.u18
 refine PS.body (E := env) env_ok rfl rfl (by show _ ≤ _; exact of_decide_eq_true (by kernel_rfl)) (fun n hd => ?_)
 refine RA.sR hd env_ok <| o1 (some 2) (Pt n 0 0) (n + 1) (n, some ⟨[(cChk d)], 15, 53, true⟩) (r_box (cs := (cChk d)) rfl rfl rfl (Nat.le_of_ble_eq_true rfl) (by simp only [List.all_cons, List.all_nil, Bool.and_true, Bool.and_eq_true, cChk]; exact ⟨rfl, rfl, rfl, rfl, rfl, rfl, rfl, rfl, rfl, rfl, rfl, (h.hp).one, (h.hc).one, (h.hg).one, (h.hu).one⟩)) <| o1 (some 3) (.pointer (some ⟨(n + 1), 0, some 0⟩)) (n + 2) ((n + 1), some ⟨[(cChk (setV d v1 v2 v3 v4))], 15, 53, true⟩) (r_box (cs := (cChk (setV d v1 v2 v3 v4))) rfl rfl rfl (Nat.le_of_ble_eq_true rfl) (by simp only [List.all_cons, List.all_nil, Bool.and_true, Bool.and_eq_true, cChk]; exact ⟨rfl, rfl, rfl, rfl, rfl, rfl, rfl, rfl, rfl, rfl, rfl, (g1).one, (g2).one, (g3).one, (g4).one⟩)) <| OA.ps [(4, yF)] rfl <| OA.nil fun _ => RA.seq hd <| RA.sR hd env_ok <| OA.ps [(9, (Pt n 0 0))] rfl <| oL 10 (.int .i64 d.typ) (get_there (by omega) get_here) <| OA.ps [(11, (.pointer (some ⟨(n + 1), 0, some 0⟩)))] rfl <| oL 12 (.int .i64 d.typ) get_here ?_
 refine oP 13 yF rfl (r_bin rfl rfl rfl (b_neq (by simp))) <| OA.ps [(14, yF), (15, (Pt n 0 1))] rfl <| oL 16 (.int .i64 d.flags) (get_there (by omega) get_here) <| OA.ps [(17, (.pointer (some ⟨(n + 1), 0, some 1⟩)))] rfl <| oL 18 (.int .i64 d.flags) get_here <| oP 19 yF rfl (r_bin rfl rfl rfl (b_neq (by simp))) <| OA.ps [(20, yF), (21, yF), (22, (Pt n 0 2))] rfl <| oL 23 (W d.tsn) (get_there (by omega) get_here) <| OA.ps [(24, (.pointer (some ⟨(n + 1), 0, some 2⟩)))] rfl <| oL 25 (W d.tsn) get_here <| oP 26 yF rfl (r_bin rfl rfl rfl (b_neq (by simp))) ?_
 refine OA.ps [(27, yF), (28, yF), (29, (Pt n 0 3))] rfl <| oL 30 (.int .i64 d.stream) (get_there (by omega) get_here) <| OA.ps [(31, (.pointer (some ⟨(n + 1), 0, some 3⟩)))] rfl <| oL 32 (.int .i64 d.stream) get_here <| oP 33 yF rfl (r_bin rfl rfl rfl (b_neq (by simp))) <| OA.ps [(34, yF), (35, yF), (36, (Pt n 0 4))] rfl <| oL 37 (.int .i64 d.ssn) (get_there (by omega) get_here) <| OA.ps [(38, (.pointer (some ⟨(n + 1), 0, some 4⟩)))] rfl <| oL 39 (.int .i64 d.ssn) get_here <| oP 40 yF rfl (r_bin rfl rfl rfl (b_neq (by simp))) <| OA.ps [(41, yF), (42, yF), (43, (Pt n 0 5))] rfl ?_
 refine oL 44 (W d.proto) (get_there (by omega) get_here) <| OA.ps [(45, (.pointer (some ⟨(n + 1), 0, some 5⟩)))] rfl <| oL 46 (W d.proto) get_here <| oP 47 yF rfl (r_bin rfl rfl rfl (b_neq (by simp))) <| OA.ps [(48, yF), (49, yF), (50, (Pt n 0 6))] rfl <| oL 51 (.string d.data) (get_there (by omega) get_here) <| OA.ps [(52, (.pointer (some ⟨(n + 1), 0, some 6⟩)))] rfl <| oL 53 (.string d.data) get_here <| oP 54 yF rfl (Eq.trans (r_neqS rfl rfl rfl) (by rw [decide_eq_true rfl] <;> rfl)) <| OA.ps [(55, yF), (56, yF), (57, (Pt n 0 7))] rfl <| oL 58 (W d.tag) (get_there (by omega) get_here) ?_
 refine OA.ps [(59, (.pointer (some ⟨(n + 1), 0, some 7⟩)))] rfl <| oL 60 (W d.tag) get_here <| oP 61 yF rfl (r_bin rfl rfl rfl (b_neq (by simp))) <| OA.ps [(62, yF), (63, yF), (64, (Pt n 0 8))] rfl <| oL 65 (W d.rwnd) (get_there (by omega) get_here) <| OA.ps [(66, (.pointer (some ⟨(n + 1), 0, some 8⟩)))] rfl <| oL 67 (W d.rwnd) get_here <| oP 68 yF rfl (r_bin rfl rfl rfl (b_neq (by simp))) <| OA.ps [(69, yF), (70, yF), (71, (Pt n 0 9))] rfl <| oL 72 (.int .i64 d.outs) (get_there (by omega) get_here) <| OA.ps [(73, (.pointer (some ⟨(n + 1), 0, some 9⟩)))] rfl ?_
 refine oL 74 (.int .i64 d.outs) get_here <| oP 75 yF rfl (r_bin rfl rfl rfl (b_neq (by simp))) <| OA.ps [(76, yF), (77, yF), (78, (Pt n 0 10))] rfl <| oL 79 (.int .i64 d.ins) (get_there (by omega) get_here) <| OA.ps [(80, (.pointer (some ⟨(n + 1), 0, some 10⟩)))] rfl <| oL 81 (.int .i64 d.ins) get_here <| oP 82 yF rfl (r_bin rfl rfl rfl (b_neq (by simp))) <| OA.ps [(83, yF), (84, yF), (85, (Pt n 0 11))] rfl <| oL 86 d.pv (get_there (by omega) get_here) <| oP 87 (.int .i64 ((d.ps.length : Nat) : Int)) rfl (r_lenQ (c := cPrm) rfl rfl rfl rfl rfl rfl h.hp rfl) <| OA.ps [(88, (.pointer (some ⟨(n + 1), 0, some 11⟩)))] rfl ?_
 refine oL 89 v1 get_here <| oP 90 (.int .i64 ((d.ps.length : Nat) : Int)) rfl (r_lenQ (c := cPrm) rfl rfl rfl rfl rfl rfl g1 rfl) <| oP 91 yF rfl (r_bin rfl rfl rfl (b_neq (by simp))) <| OA.ps [(92, yF), (93, yF), (94, (Pt n 0 12))] rfl <| oL 95 d.cv (get_there (by omega) get_here) <| oP 96 (.int .i64 ((d.cs.length : Nat) : Int)) rfl (r_lenQ (c := cCau) rfl rfl rfl rfl rfl rfl h.hc rfl) <| OA.ps [(97, (.pointer (some ⟨(n + 1), 0, some 12⟩)))] rfl <| oL 98 v2 get_here <| oP 99 (.int .i64 ((d.cs.length : Nat) : Int)) rfl (r_lenQ (c := cCau) rfl rfl rfl rfl rfl rfl g2 rfl) <| oP 100 yF rfl (r_bin rfl rfl rfl (b_neq (by simp))) <| OA.ps [(101, yF), (102, yF), (103, (Pt n 0 13))] rfl ?_
 refine oL 104 d.gv (get_there (by omega) get_here) <| oP 105 (.int .i64 ((d.gs.length : Nat) : Int)) rfl (r_lenQ (c := cGp) rfl rfl rfl rfl rfl rfl h.hg rfl) <| OA.ps [(106, (.pointer (some ⟨(n + 1), 0, some 13⟩)))] rfl <| oL 107 v3 get_here <| oP 108 (.int .i64 ((d.gs.length : Nat) : Int)) rfl (r_lenQ (c := cGp) rfl rfl rfl rfl rfl rfl g3 rfl) <| oP 109 yF rfl (r_bin rfl rfl rfl (b_neq (by simp))) <| OA.ps [(110, yF), (111, yF), (112, (Pt n 0 14))] rfl <| oL 113 d.dv (get_there (by omega) get_here) <| oP 114 (.int .i64 ((d.ds.length : Nat) : Int)) rfl (r_lenQ (c := cDp) rfl rfl rfl rfl rfl rfl h.hu rfl) <| OA.ps [(115, (.pointer (some ⟨(n + 1), 0, some 14⟩)))] rfl <| oL 116 v4 get_here ?_
 refine oP 117 (.int .i64 ((d.ds.length : Nat) : Int)) rfl (r_lenQ (c := cDp) rfl rfl rfl rfl rfl rfl g4 rfl) <| oP 118 yF rfl (r_bin rfl rfl rfl (b_neq (by simp))) <| OA.ps [(119, yF)] rfl <| OA.nil fun _ => RA.rb [(0, (.agg ⟨(cChk d)⟩)), (1, (.agg ⟨(cChk (setV d v1 v2 v3 v4))⟩)), (2, (Pt n 0 0)), (3, (.pointer (some ⟨(n + 1), 0, some 0⟩))), (4, yF), (119, yF)] rfl (fun τr1 => ?_)
 refine RA.condF rfl <| RA.skip env_ok ?_
 intro _
 refine RA.seq hd <| RA.sR hd env_ok <| OA.ps [(5, (.int .i64 0))] rfl <| OA.nil fun _ => RA.block <| RA.weaken hd (LsO (fA get_here (get_there (by omega) get_here) (fA (get_there (by omega) get_here) get_here fan))) ?_
 refine RA.loop hd (fun kk_ τ n' D => (∃ i : Nat, kk_ = (d.ps.length - i) ∧ (n + 2) ≤ n' ∧ Has τ [(2, (Pt n 0 0)), (3, (.pointer (some ⟨(n + 1), 0, some 0⟩))), (5, (.int .i64 ((i : Nat) : Int)))] ∧ D = [(n, some ⟨[(cChk d)], 15, 53, true⟩), ((n + 1), some ⟨[(cChk (setV d v1 v2 v3 v4))], 15, 53, true⟩)] ∧ (∀ i ∈ keys D, i < n') ∧ i ≤ d.ps.length)) ((d.ps.length - 0)) (⟨0, rfl, by omega, ⟨rfl, rfl, rfl, trivial⟩, rfl, (kb2 (by omega)), by omega⟩) ?_
 rintro kn2 τ2 n2 _ ⟨i, rfl, hn2, hHn2, rfl, hKn2, hIn2⟩
 rw [Has.eq hHn2]
 have hKn2_0 := kk0 hKn2
 have hKn2_1 := kk1 hKn2
 clear hKn2
 have hil := hIn2
 refine RA.seq hd <| RA.sR hd env_ok <| OA.ps [(120, (.int .i64 ((i : Nat) : Int))), (121, (Pt n 0 11))] rfl <| oL 122 d.pv get_here <| oP 123 (.int .i64 ((d.ps.length : Nat) : Int)) rfl (r_lenQ (c := cPrm) rfl rfl rfl rfl rfl rfl h.hp rfl) ?_
 by_cases hc1 : ((i : Nat) : Int) < ((d.ps.length : Nat) : Int)
 ·
  obtain ⟨rps1, wqhatps1, hatps1⟩ := h.hp.get (m := i) (by omega)
  have lahatps1 := hd.lt hatps1
  obtain ⟨rps2, wqhatps2, hatps2⟩ := g1.get (m := i) (by omega)
  have lbhatps2 := hd.lt hatps2
  refine oP 124 yT rfl (Eq.trans (r_bin rfl rfl rfl (b_lss rfl)) (Go.Proofs.YtgajcmanompmcaaV.dT hc1)) <| OA.nil fun _ => RA.condT rfl <| RA.skip env_ok ?_
  intro _
  refine RA.seq hd <| RA.block <| RA.seq hd <| RA.par (md := [some [], some [n], some [], none, none, some [], some [(n + 1)], some [], none, none, some []]) env_ok (hd.of (by omega) (kb2 (by omega))) (by kernel_rfl) <| PQ.ps [(127, (Pt n 0 11))] rfl <| pQl 128 d.pv get_here <| PQ.ps [(129, (.int .i64 ((i : Nat) : Int)))] rfl <| PQ.pure (dst := (some 130)) (v := (.pointer (some ⟨(rk d.pv), i, some 0⟩))) rfl rfl rfl _ (sA (V := []) (by kernel_rfl) (by kernel_rfl)) (r_iaQ (c := cPrm) (m := i) rfl rfl rfl rfl rfl rfl h.hp rfl (by omega) (gt2 (by omega) hatps1) rfl) <| PQ.pure (dst := (some 131)) (v := (.agg ⟨(cPrm (d.ps.getD i dPrm))⟩)) rfl rfl rfl _ (sA (V := []) (by kernel_rfl) (by kernel_rfl)) (r_loadA (e := cPrm (d.ps.getD i dPrm)) rfl rfl rfl rfl (gt2 (by omega) hatps1) (mp_getA (by omega)) rfl rfl) <| PQ.ps [(132, (.pointer (some ⟨(n + 1), 0, some 11⟩)))] rfl <| pQl 133 v1 (get_there (by omega) get_here) ?_
  refine PQ.ps [(134, (.int .i64 ((i : Nat) : Int)))] rfl <| PQ.pure (dst := (some 135)) (v := (.pointer (some ⟨(rk v1), i, some 0⟩))) rfl rfl rfl _ (sA (V := []) (by kernel_rfl) (by kernel_rfl)) (r_iaQ (c := cPrm) (m := i) rfl rfl rfl rfl rfl rfl g1 rfl (by omega) (gt2 (by omega) hatps2) rfl) <| PQ.pure (dst := (some 136)) (v := (.agg ⟨(cPrm (d.ps.getD i dPrm))⟩)) rfl rfl rfl _ (sA (V := []) (by kernel_rfl) (by kernel_rfl)) (r_loadA (e := cPrm (d.ps.getD i dPrm)) rfl rfl rfl rfl (gt2 (by omega) hatps2) (mp_getA (by omega)) rfl rfl) <| pP 137 yF rfl (r_neqA (r := true) rfl rfl rfl (by kernel_rfl) (aeq_self _ _ _ (by kernel_rfl))) <| PQ.done (d := []) (by kernel_rfl) fun _ => RA.condF rfl <| RA.skip env_ok ?_
  intro _
  refine RA.region env_ok <| OA.ps [(125, (.int .i64 ((i : Nat) : Int)))] rfl <| oP 126 (.int .i64 (((i + 1) : Nat) : Int)) rfl (r_bin rfl rfl rfl (b_add (i64_eq (by omega)))) <| OA.ps [(5, (.int .i64 (((i + 1) : Nat) : Int)))] rfl <| OA.nil ?_
  refine ⟨(d.ps.length - (i + 1)), by omega, [(n, some ⟨[(cChk d)], 15, 53, true⟩), ((n + 1), some ⟨[(cChk (setV d v1 v2 v3 v4))], 15, 53, true⟩)], (Less.refl _ _ _), ⟨(i + 1), rfl, by omega, ⟨rfl, rfl, rfl, trivial⟩, rfl, (kb2 (by omega)), by omega⟩⟩
 ·
  refine oP 124 yF rfl (Eq.trans (r_bin rfl rfl rfl (b_lss rfl)) (Go.Proofs.YtgajcmanompmcaaV.dF hc1)) <| OA.nil fun _ => RA.condF rfl ?_
  refine RA.exit env_ok ?_
  intro _
  refine RA.seq hd <| RA.sR hd env_ok <| OA.ps [(6, (.int .i64 0))] rfl <| OA.nil fun _ => RA.block ?_
  refine RA.loop hd (fun kk_ τ n' D => (∃ i : Nat, kk_ = (d.cs.length - i) ∧ n2 ≤ n' ∧ Has τ [(2, (Pt n 0 0)), (3, (.pointer (some ⟨(n + 1), 0, some 0⟩))), (6, (.int .i64 ((i : Nat) : Int)))] ∧ D = [(n, some ⟨[(cChk d)], 15, 53, true⟩), ((n + 1), some ⟨[(cChk (setV d v1 v2 v3 v4))], 15, 53, true⟩)] ∧ (∀ i ∈ keys D, i < n') ∧ i ≤ d.cs.length)) ((d.cs.length - 0)) (⟨0, rfl, by omega, ⟨rfl, rfl, rfl, trivial⟩, rfl, (kb2 (by omega)), by omega⟩) ?_
  rintro kn3 τ3 n3 _ ⟨i, rfl, hn3, hHn3, rfl, hKn3, hIn3⟩
  rw [Has.eq hHn3]
  have hKn3_0 := kk0 hKn3
  have hKn3_1 := kk1 hKn3
  clear hKn3
  have hil := hIn3
  refine RA.seq hd <| RA.sR hd env_ok <| OA.ps [(138, (.int .i64 ((i : Nat) : Int))), (139, (Pt n 0 12))] rfl <| oL 140 d.cv get_here <| oP 141 (.int .i64 ((d.cs.length : Nat) : Int)) rfl (r_lenQ (c := cCau) rfl rfl rfl rfl rfl rfl h.hc rfl) ?_
  by_cases hc2 : ((i : Nat) : Int) < ((d.cs.length : Nat) : Int)
  ·
   obtain ⟨rcs1, wqhatcs1, hatcs1⟩ := h.hc.get (m := i) (by omega)
   have lahatcs1 := hd.lt hatcs1
   obtain ⟨rcs2, wqhatcs2, hatcs2⟩ := g2.get (m := i) (by omega)
   have lbhatcs2 := hd.lt hatcs2
   refine oP 142 yT rfl (Eq.trans (r_bin rfl rfl rfl (b_lss rfl)) (Go.Proofs.YtgajcmanompmcaaV.dT hc2)) <| OA.nil fun _ => RA.condT rfl <| RA.skip env_ok ?_
   intro _
   refine RA.seq hd <| RA.block <| RA.seq hd <| RA.par (md := [some [], some [n], some [], none, none, some [], some [(n + 1)], some [], none, none, some []]) env_ok (hd.of (by omega) (kb2 (by omega))) (by kernel_rfl) <| PQ.ps [(145, (Pt n 0 12))] rfl <| pQl 146 d.cv get_here <| PQ.ps [(147, (.int .i64 ((i : Nat) : Int)))] rfl <| PQ.pure (dst := (some 148)) (v := (.pointer (some ⟨(rk d.cv), i, some 0⟩))) rfl rfl rfl _ (sA (V := []) (by kernel_rfl) (by kernel_rfl)) (r_iaQ (c := cCau) (m := i) rfl rfl rfl rfl rfl rfl h.hc rfl (by omega) (gt2 (by omega) hatcs1) rfl) <| PQ.pure (dst := (some 149)) (v := (.agg ⟨(cCau (d.cs.getD i dCau))⟩)) rfl rfl rfl _ (sA (V := []) (by kernel_rfl) (by kernel_rfl)) (r_loadA (e := cCau (d.cs.getD i dCau)) rfl rfl rfl rfl (gt2 (by omega) hatcs1) (mp_getA (by omega)) rfl rfl) <| PQ.ps [(150, (.pointer (some ⟨(n + 1), 0, some 12⟩)))] rfl <| pQl 151 v2 (get_there (by omega) get_here) ?_
   refine PQ.ps [(152, (.int .i64 ((i : Nat) : Int)))] rfl <| PQ.pure (dst := (some 153)) (v := (.pointer (some ⟨(rk v2), i, some 0⟩))) rfl rfl rfl _ (sA (V := []) (by kernel_rfl) (by kernel_rfl)) (r_iaQ (c := cCau) (m := i) rfl rfl rfl rfl rfl rfl g2 rfl (by omega) (gt2 (by omega) hatcs2) rfl) <| PQ.pure (dst := (some 154)) (v := (.agg ⟨(cCau (d.cs.getD i dCau))⟩)) rfl rfl rfl _ (sA (V := []) (by kernel_rfl) (by kernel_rfl)) (r_loadA (e := cCau (d.cs.getD i dCau)) rfl rfl rfl rfl (gt2 (by omega) hatcs2) (mp_getA (by omega)) rfl rfl) <| pP 155 yF rfl (r_neqA (r := true) rfl rfl rfl (by kernel_rfl) (aeq_self _ _ _ (by kernel_rfl))) <| PQ.done (d := []) (by kernel_rfl) fun _ => RA.condF rfl <| RA.skip env_ok ?_
   intro _
   refine RA.region env_ok <| OA.ps [(143, (.int .i64 ((i : Nat) : Int)))] rfl <| oP 144 (.int .i64 (((i + 1) : Nat) : Int)) rfl (r_bin rfl rfl rfl (b_add (i64_eq (by omega)))) <| OA.ps [(6, (.int .i64 (((i + 1) : Nat) : Int)))] rfl <| OA.nil ?_
   refine ⟨(d.cs.length - (i + 1)), by omega, [(n, some ⟨[(cChk d)], 15, 53, true⟩), ((n + 1), some ⟨[(cChk (setV d v1 v2 v3 v4))], 15, 53, true⟩)], (Less.refl _ _ _), ⟨(i + 1), rfl, by omega, ⟨rfl, rfl, rfl, trivial⟩, rfl, (kb2 (by omega)), by omega⟩⟩
  ·
   refine oP 142 yF rfl (Eq.trans (r_bin rfl rfl rfl (b_lss rfl)) (Go.Proofs.YtgajcmanompmcaaV.dF hc2)) <| OA.nil fun _ => RA.condF rfl ?_
   refine RA.exit env_ok ?_
   intro _
   refine RA.seq hd <| RA.sR hd env_ok <| OA.ps [(7, (.int .i64 0))] rfl <| OA.nil fun _ => RA.block ?_
   refine RA.loop hd (fun kk_ τ n' D => (∃ i : Nat, kk_ = (d.gs.length - i) ∧ n3 ≤ n' ∧ Has τ [(2, (Pt n 0 0)), (3, (.pointer (some ⟨(n + 1), 0, some 0⟩))), (7, (.int .i64 ((i : Nat) : Int)))] ∧ D = [(n, some ⟨[(cChk d)], 15, 53, true⟩), ((n + 1), some ⟨[(cChk (setV d v1 v2 v3 v4))], 15, 53, true⟩)] ∧ (∀ i ∈ keys D, i < n') ∧ i ≤ d.gs.length)) ((d.gs.length - 0)) (⟨0, rfl, by omega, ⟨rfl, rfl, rfl, trivial⟩, rfl, (kb2 (by omega)), by omega⟩) ?_
   rintro kn4 τ4 n4 _ ⟨i, rfl, hn4, hHn4, rfl, hKn4, hIn4⟩
   rw [Has.eq hHn4]
   have hKn4_0 := kk0 hKn4
   have hKn4_1 := kk1 hKn4
   clear hKn4
   have hil := hIn4
   refine RA.seq hd <| RA.sR hd env_ok <| OA.ps [(156, (.int .i64 ((i : Nat) : Int))), (157, (Pt n 0 13))] rfl <| oL 158 d.gv get_here <| oP 159 (.int .i64 ((d.gs.length : Nat) : Int)) rfl (r_lenQ (c := cGp) rfl rfl rfl rfl rfl rfl h.hg rfl) ?_
   by_cases hc3 : ((i : Nat) : Int) < ((d.gs.length : Nat) : Int)
   ·
    obtain ⟨rgs1, wqhatgs1, hatgs1⟩ := h.hg.get (m := i) (by omega)
    have lahatgs1 := hd.lt hatgs1
    obtain ⟨rgs2, wqhatgs2, hatgs2⟩ := g3.get (m := i) (by omega)
    have lbhatgs2 := hd.lt hatgs2
    refine oP 160 yT rfl (Eq.trans (r_bin rfl rfl rfl (b_lss rfl)) (Go.Proofs.YtgajcmanompmcaaV.dT hc3)) <| OA.nil fun _ => RA.condT rfl <| RA.skip env_ok ?_
    intro _
    refine RA.seq hd <| RA.block <| RA.seq hd <| RA.par (md := [some [], some [n], some [], none, none, some [], some [(n + 1)], some [], none, none, some []]) env_ok (hd.of (by omega) (kb2 (by omega))) (by kernel_rfl) <| PQ.ps [(163, (Pt n 0 13))] rfl <| pQl 164 d.gv get_here <| PQ.ps [(165, (.int .i64 ((i : Nat) : Int)))] rfl <| PQ.pure (dst := (some 166)) (v := (.pointer (some ⟨(rk d.gv), i, some 0⟩))) rfl rfl rfl _ (sA (V := []) (by kernel_rfl) (by kernel_rfl)) (r_iaQ (c := cGp) (m := i) rfl rfl rfl rfl rfl rfl h.hg rfl (by omega) (gt2 (by omega) hatgs1) rfl) <| PQ.pure (dst := (some 167)) (v := (.agg ⟨(cGp (d.gs.getD i dGp))⟩)) rfl rfl rfl _ (sA (V := []) (by kernel_rfl) (by kernel_rfl)) (r_loadA (e := cGp (d.gs.getD i dGp)) rfl rfl rfl rfl (gt2 (by omega) hatgs1) (mp_getA (by omega)) rfl rfl) <| PQ.ps [(168, (.pointer (some ⟨(n + 1), 0, some 13⟩)))] rfl <| pQl 169 v3 (get_there (by omega) get_here) ?_
    refine PQ.ps [(170, (.int .i64 ((i : Nat) : Int)))] rfl <| PQ.pure (dst := (some 171)) (v := (.pointer (some ⟨(rk v3), i, some 0⟩))) rfl rfl rfl _ (sA (V := []) (by kernel_rfl) (by kernel_rfl)) (r_iaQ (c := cGp) (m := i) rfl rfl rfl rfl rfl rfl g3 rfl (by omega) (gt2 (by omega) hatgs2) rfl) <| PQ.pure (dst := (some 172)) (v := (.agg ⟨(cGp (d.gs.getD i dGp))⟩)) rfl rfl rfl _ (sA (V := []) (by kernel_rfl) (by kernel_rfl)) (r_loadA (e := cGp (d.gs.getD i dGp)) rfl rfl rfl rfl (gt2 (by omega) hatgs2) (mp_getA (by omega)) rfl rfl) <| pP 173 yF rfl (r_neqA (r := true) rfl rfl rfl (by kernel_rfl) (aeq_self _ _ _ (by kernel_rfl))) <| PQ.done (d := []) (by kernel_rfl) fun _ => RA.condF rfl <| RA.skip env_ok ?_
    intro _
    refine RA.region env_ok <| OA.ps [(161, (.int .i64 ((i : Nat) : Int)))] rfl <| oP 162 (.int .i64 (((i + 1) : Nat) : Int)) rfl (r_bin rfl rfl rfl (b_add (i64_eq (by omega)))) <| OA.ps [(7, (.int .i64 (((i + 1) : Nat) : Int)))] rfl <| OA.nil ?_
    refine ⟨(d.gs.length - (i + 1)), by omega, [(n, some ⟨[(cChk d)], 15, 53, true⟩), ((n + 1), some ⟨[(cChk (setV d v1 v2 v3 v4))], 15, 53, true⟩)], (Less.refl _ _ _), ⟨(i + 1), rfl, by omega, ⟨rfl, rfl, rfl, trivial⟩, rfl, (kb2 (by omega)), by omega⟩⟩
   ·
    refine oP 160 yF rfl (Eq.trans (r_bin rfl rfl rfl (b_lss rfl)) (Go.Proofs.YtgajcmanompmcaaV.dF hc3)) <| OA.nil fun _ => RA.condF rfl ?_
    refine RA.exit env_ok ?_
    intro _
    refine RA.seq hd <| RA.sR hd env_ok <| OA.ps [(8, (.int .i64 0))] rfl <| OA.nil fun _ => RA.block ?_
    refine RA.loop hd (fun kk_ τ n' D => (∃ i : Nat, kk_ = (d.ds.length - i) ∧ n4 ≤ n' ∧ Has τ [(2, (Pt n 0 0)), (3, (.pointer (some ⟨(n + 1), 0, some 0⟩))), (8, (.int .i64 ((i : Nat) : Int)))] ∧ D = [(n, some ⟨[(cChk d)], 15, 53, true⟩), ((n + 1), some ⟨[(cChk (setV d v1 v2 v3 v4))], 15, 53, true⟩)] ∧ (∀ i ∈ keys D, i < n') ∧ i ≤ d.ds.length)) ((d.ds.length - 0)) (⟨0, rfl, by omega, ⟨rfl, rfl, rfl, trivial⟩, rfl, (kb2 (by omega)), by omega⟩) ?_
    rintro kn5 τ5 n5 _ ⟨i, rfl, hn5, hHn5, rfl, hKn5, hIn5⟩
    rw [Has.eq hHn5]
    have hKn5_0 := kk0 hKn5
    have hKn5_1 := kk1 hKn5
    clear hKn5
    have hil := hIn5
    refine RA.seq hd <| RA.sR hd env_ok <| OA.ps [(174, (.int .i64 ((i : Nat) : Int))), (175, (Pt n 0 14))] rfl <| oL 176 d.dv get_here <| oP 177 (.int .i64 ((d.ds.length : Nat) : Int)) rfl (r_lenQ (c := cDp) rfl rfl rfl rfl rfl rfl h.hu rfl) ?_
    by_cases hc4 : ((i : Nat) : Int) < ((d.ds.length : Nat) : Int)
    ·
     obtain ⟨rds1, wqhatds1, hatds1⟩ := h.hu.get (m := i) (by omega)
     have lahatds1 := hd.lt hatds1
     obtain ⟨rds2, wqhatds2, hatds2⟩ := g4.get (m := i) (by omega)
     have lbhatds2 := hd.lt hatds2
     refine oP 178 yT rfl (Eq.trans (r_bin rfl rfl rfl (b_lss rfl)) (Go.Proofs.YtgajcmanompmcaaV.dT hc4)) <| OA.nil fun _ => RA.condT rfl <| RA.skip env_ok ?_
     intro _
     refine RA.seq hd <| RA.block <| RA.seq hd <| RA.par (md := [some [], some [n], some [], none, none, some [], some [(n + 1)], some [], none, none, some []]) env_ok (hd.of (by omega) (kb2 (by omega))) (by kernel_rfl) <| PQ.ps [(181, (Pt n 0 14))] rfl <| pQl 182 d.dv get_here <| PQ.ps [(183, (.int .i64 ((i : Nat) : Int)))] rfl <| PQ.pure (dst := (some 184)) (v := (.pointer (some ⟨(rk d.dv), i, some 0⟩))) rfl rfl rfl _ (sA (V := []) (by kernel_rfl) (by kernel_rfl)) (r_iaQ (c := cDp) (m := i) rfl rfl rfl rfl rfl rfl h.hu rfl (by omega) (gt2 (by omega) hatds1) rfl) <| PQ.pure (dst := (some 185)) (v := (W (d.ds.getD i dDp).x)) rfl rfl rfl _ (sA (V := []) (by kernel_rfl) (by kernel_rfl)) (r_load1 (e := cDp (d.ds.getD i dDp)) rfl rfl rfl rfl rfl (gt2 (by omega) hatds1) (mp_getA (by omega)) rfl) <| PQ.ps [(186, (.pointer (some ⟨(n + 1), 0, some 14⟩)))] rfl <| pQl 187 v4 (get_there (by omega) get_here) ?_
     refine PQ.ps [(188, (.int .i64 ((i : Nat) : Int)))] rfl <| PQ.pure (dst := (some 189)) (v := (.pointer (some ⟨(rk v4), i, some 0⟩))) rfl rfl rfl _ (sA (V := []) (by kernel_rfl) (by kernel_rfl)) (r_iaQ (c := cDp) (m := i) rfl rfl rfl rfl rfl rfl g4 rfl (by omega) (gt2 (by omega) hatds2) rfl) <| PQ.pure (dst := (some 190)) (v := (W (d.ds.getD i dDp).x)) rfl rfl rfl _ (sA (V := []) (by kernel_rfl) (by kernel_rfl)) (r_load1 (e := cDp (d.ds.getD i dDp)) rfl rfl rfl rfl rfl (gt2 (by omega) hatds2) (mp_getA (by omega)) rfl) <| pP 191 yF rfl (r_bin rfl rfl rfl (b_neq (by simp))) <| PQ.done (d := []) (by kernel_rfl) fun _ => RA.condF rfl <| RA.skip env_ok ?_
     intro _
     refine RA.region env_ok <| OA.ps [(179, (.int .i64 ((i : Nat) : Int)))] rfl <| oP 180 (.int .i64 (((i + 1) : Nat) : Int)) rfl (r_bin rfl rfl rfl (b_add (i64_eq (by omega)))) <| OA.ps [(8, (.int .i64 (((i + 1) : Nat) : Int)))] rfl <| OA.nil ?_
     refine ⟨(d.ds.length - (i + 1)), by omega, [(n, some ⟨[(cChk d)], 15, 53, true⟩), ((n + 1), some ⟨[(cChk (setV d v1 v2 v3 v4))], 15, 53, true⟩)], (Less.refl _ _ _), ⟨(i + 1), rfl, by omega, ⟨rfl, rfl, rfl, trivial⟩, rfl, (kb2 (by omega)), by omega⟩⟩
    ·
     refine oP 178 yF rfl (Eq.trans (r_bin rfl rfl rfl (b_lss rfl)) (Go.Proofs.YtgajcmanompmcaaV.dF hc4)) <| OA.nil fun _ => RA.condF rfl ?_
     refine RA.exit env_ok ?_
     intro _
     refine RA.sR hd env_ok <| OA.ps [(4, yT)] rfl <| OA.nil fun _ => ?_
     refine RA.ret env_ok ?_
     exact lf yT rfl
theorem rSameY {σ : Store} (d y : Chk) (h : gd σ d) (h2 : gd σ y) (e : yEq d y) : PS Try.prog noDen 26 [.agg ⟨cChk d⟩, .agg ⟨cChk y⟩] σ (.bool true) := by
  have hs := yEq_set e
  rw [hs] at h2 ⊢
  exact rSameV d _ _ _ _ h h2
theorem cU8S {n : Nat} {σ : Store} (hd : Dom n σ) (r : Nat) (hr : σ r = some ⟨[[(.string (bstr ([] : List UInt8))), (.int .i64 0)]], 2, 121, true⟩)  : CQ Try.prog noDen 86 [(Pt r 0 0)] n σ (fun v n' d => v = .int .i64 0 ∧ d = [(r, some ⟨[[(.string (bstr ([] : List UInt8))), (.int .i64 2)]], 2, 121, true⟩)]) := by
 have lhr := hd.lt hr
 refine CQ.body (E := env) env_ok hd rfl rfl (by show _ ≤ _; exact of_decide_eq_true (by kernel_rfl)) ?_
 refine RA.sR hd env_ok <| OA.ps [(2, (.int .i64 0))] rfl <| OA.nil fun _ => RA.sR hd env_ok <| OA.ps [(3, (Pt r 0 0))] rfl ?_
 refine OA.call (dst := (some 4)) (all := [(Pt r 0 0), (.int .i64 1)]) rfl rfl rfl rfl rfl rfl rfl rfl (CQ.imp (rNumS (hd.up (by omega)) r (bstr []) 1 (by decide) hr) ?_)
 rintro _ n1 _ ⟨rfl, rfl⟩ hn1
 refine OA.app1 ?_
 refine OA.ps [(5, (.int .i64 0)), (2, (.int .i64 0))] rfl <| OA.nil fun _ => ?_
 refine RA.ret env_ok ?_
 refine ⟨.inr rfl, [(.int .i64 0)], (resL_cons rfl resL_nil), [(r, some ⟨[[(.string (bstr ([] : List UInt8))), (.int .i64 2)]], 2, 121, true⟩)], (Less.refl _ _ _), ⟨rfl, rfl⟩⟩
theorem cU8D {n : Nat} {σ : Store} (hd : Dom n σ) (r : Nat) (hr : σ r = some ⟨[[(.string (bstr ([] : List UInt8))), (.int .i64 2)]], 2, 121, true⟩)  : CQ Try.prog noDen 86 [(Pt r 0 0)] n σ (fun v n' d => v = .int .i64 0 ∧ d = []) := by
 have lhr := hd.lt hr
 refine CQ.body (E := env) env_ok hd rfl rfl (by show _ ≤ _; exact of_decide_eq_true (by kernel_rfl)) ?_
 refine RA.sR hd env_ok <| OA.ps [(2, (.int .i64 0))] rfl <| OA.nil fun _ => RA.sR hd env_ok <| OA.ps [(3, (Pt r 0 0))] rfl ?_
 refine OA.call (dst := (some 4)) (all := [(Pt r 0 0), (.int .i64 1)]) rfl rfl rfl rfl rfl rfl rfl rfl (CQ.imp (rNumD (hd.up (by omega)) r (bstr []) 1 hr) ?_)
 rintro _ n1 _ ⟨rfl, rfl⟩ hn1
 refine OA.app0 ?_
 refine OA.ps [(5, (.int .i64 0)), (2, (.int .i64 0))] rfl <| OA.nil fun _ => ?_
 refine RA.ret env_ok ?_
 refine ⟨.inr rfl, [(.int .i64 0)], (resL_cons rfl resL_nil), [], (Less.refl _ _ _), ⟨rfl, rfl⟩⟩
theorem cTakeM {n : Nat} {σ : Store} (hd : Dom n σ) (r : Nat) (hr : σ r = some ⟨[[(.string (bstr ([] : List UInt8))), (.int .i64 2)]], 2, 121, true⟩)  : CQ Try.prog noDen 88 [(Pt r 0 0), (.int .i64 (-4))] n σ (fun v n' d => v = .string (ByteArray.mk #[]) ∧ d = []) := by
 have lhr := hd.lt hr
 refine CQ.body (E := env) env_ok hd rfl rfl (by show _ ≤ _; exact of_decide_eq_true (by kernel_rfl)) ?_
 refine RA.sR hd env_ok <| OA.ps [(4, (.string (ByteArray.mk #[])))] rfl <| OA.nil fun _ => RA.seq hd <| RA.sR hd env_ok <| OA.ps [(6, (Pt r 0 0))] rfl <| oC 7 (v := (.int .i64 2)) (hd.up (by omega)) rfl rfl (rErr r _ 2 hr) fun n1 hn1 => oP 8 yT rfl (r_bin rfl rfl rfl (b_neq rfl)) <| OA.ps [(9, yT)] rfl <| OA.offs 10 2 rfl <| OA.ps [(12, yT), (13, yT)] rfl ?_
 refine OA.offs 14 7 rfl <| OA.ps [(21, yT)] rfl <| OA.nil fun _ => RA.condT rfl <| RA.sR hd env_ok <| OA.ps [(22, (Pt r 0 0))] rfl ?_
 refine OA.call (dst := (some 23)) (all := [(Pt r 0 0), (.int .i64 2)]) rfl rfl rfl rfl rfl rfl rfl rfl (CQ.imp (rFail2 (hd.up (by omega)) r (bstr []) 2 hr) ?_)
 rintro _ n2 _ ⟨rfl, rfl⟩ hn2
 refine OA.app0 ?_
 refine OA.nil fun _ => RA.sR hd env_ok <| OA.ps [(4, (.string (ByteArray.mk #[])))] rfl <| OA.nil fun _ => ?_
 refine RA.ret env_ok ?_
 refine ⟨.inr rfl, [(.string (ByteArray.mk #[]))], (resL_cons rfl resL_nil), [], (Less.refl _ _ _), ⟨rfl, rfl⟩⟩
theorem cTkF {n : Nat} {σ : Store} (hd : Dom n σ) (r : Nat) (hr : σ r = some ⟨[[(.string (bstr ([] : List UInt8))), (.int .i64 0)]], 2, 121, true⟩)  : CQ Try.prog noDen 50 [(Pt r 0 0)] n σ (fun v n' d => v = (.agg ⟨[(.int .i64 0), (.int .i64 0), (.int .u32 0), (.int .i64 0), (.int .i64 0), (.int .u32 0), (.string ByteArray.empty), (.int .u32 0), (.int .u32 0), (.int .i64 0), (.int .i64 0), (.slice none 0 0), (.slice none 0 0), (.slice none 0 0), (.slice none 0 0)]⟩) ∧ d = [(r, some ⟨[[(.string (bstr ([] : List UInt8))), (.int .i64 2)]], 2, 121, true⟩)]) := by
 have lhr := hd.lt hr
 refine CQ.body (E := env) env_ok hd rfl rfl (by show _ ≤ _; exact of_decide_eq_true (by kernel_rfl)) ?_
 refine RA.sR hd env_ok <| o1 (some 2) (Pt n 0 0) (n + 1) (n, some ⟨[xCx51], 15, 53, true⟩) rfl <| OA.nil fun _ => RA.sR hd env_ok <| OA.ps [(7, (Pt r 0 0))] rfl ?_
 refine OA.call (dst := (some 8)) (all := [(Pt r 0 0)]) rfl rfl rfl rfl rfl rfl rfl rfl (CQ.imp (cU8S (hd.of (by omega) (kb1 (by omega))) r (get_there (by omega) hr)) ?_)
 rintro _ n1 _ ⟨rfl, rfl⟩ hn1
 refine OA.app1 ?_
 refine OA.ps [(9, (Pt r 0 0))] rfl ?_
 refine OA.call (dst := (some 10)) (all := [(Pt r 0 0)]) rfl rfl rfl rfl rfl rfl rfl rfl (CQ.imp (cU8D (hd.of (by omega) (kb2 (by omega))) r get_here) ?_)
 rintro _ n2 _ ⟨rfl, rfl⟩ hn2
 refine OA.app0 ?_
 refine oP 11 (.agg ⟨xCx51⟩) rfl (by kernel_rfl) <| o1 (some 3) (Pt n2 0 0) (n2 + 1) (n2, some ⟨[xCx51], 15, 53, true⟩) rfl <| o1 none yU (n2 + 1) (n2, some ⟨[xCx51], 15, 53, true⟩) (rS get_here) <| OA.nil fun _ => RA.weaken hd (LsO (fA get_here get_here (fA (get_there (by omega) get_here) (gt2 (by omega) get_here) (fA (gt2 (by omega) get_here) (gt3 (by omega) get_here) fan)))) <| RA.sR hd env_ok <| OA.ps [(12, (Pt r 0 0))] rfl ?_
 refine OA.call (dst := (some 13)) (all := [(Pt r 0 0)]) rfl rfl rfl rfl rfl rfl rfl rfl (CQ.imp (rU16D (hd.of (by omega) (kb3 (by omega))) r (bstr []) 0 (get_there (by omega) get_here)) ?_)
 rintro _ n3 _ ⟨rfl, rfl⟩ hn3
 refine OA.app0 ?_
 refine oP 14 (.int .i64 (-4)) rfl (r_bin rfl rfl rfl (b_sub (i64_eq (by omega)))) <| OA.ps [(4, (.int .i64 (-4)))] rfl <| OA.nil fun _ => RA.seq hd <| RA.sR hd env_ok <| OA.ps [(15, (Pt r 0 0))] rfl <| oC 16 (v := (.int .i64 2)) (hd.of (by omega) (kb3 (by omega))) rfl rfl (rErr r _ 2 (get_there (by omega) get_here)) fun n4 hn4 => oP 17 yF rfl (r_bin rfl rfl rfl (b_eql rfl)) <| OA.ps [(18, yF)] rfl <| OA.offs 19 2 rfl <| OA.ps [(21, yF)] rfl ?_
 refine OA.nil fun _ => RA.condF rfl <| RA.skip env_ok ?_
 intro _
 refine RA.sR hd env_ok <| OA.ps [(24, (Pt r 0 0)), (25, (.int .i64 (-4)))] rfl ?_
 refine OA.call (dst := (some 26)) (all := [(Pt r 0 0), (.int .i64 (-4))]) rfl rfl rfl rfl rfl rfl rfl rfl (CQ.imp (cTakeM (hd.of (by omega) (kb3 (by omega))) r (get_there (by omega) get_here)) ?_)
 rintro _ n5 _ ⟨rfl, rfl⟩ hn5
 refine OA.app0 ?_
 refine OA.call (dst := (some 27)) (all := [(.string (ByteArray.mk #[]))]) rfl rfl rfl rfl rfl rfl rfl rfl (CQ.imp (cNewR (hd.of (by omega) (kb3 (by omega))) []) ?_)
 rintro _ n6 _ ⟨qn6, p1n6, p2n6, rfl, rfl⟩ hn6
 refine OA.app1 ?_
 refine OA.ps [(5, (Pt qn6 0 0))] rfl <| OA.nil fun _ => RA.seq hd <| RA.sR hd env_ok <| OA.ps [(28, (Pt r 0 0))] rfl <| oC 29 (v := (.int .i64 2)) (hd.of (by omega) (kb4 (by omega))) rfl rfl (rErr r _ 2 (gt2 (by omega) get_here)) fun n7 hn7 => oP 30 yT rfl (r_bin rfl rfl rfl (b_neq rfl)) <| OA.nil fun _ => RA.rb [(0, (Pt r 0 0)), (2, (Pt n 0 0)), (3, (Pt n2 0 0)), (4, (.int .i64 (-4))), (5, (Pt qn6 0 0)), (21, yF), (30, yT)] rfl (fun τr8 => ?_)
 refine RA.condT rfl <| RA.sR hd env_ok <| oP 31 (.agg ⟨xCx51⟩) rfl (by kernel_rfl) <| o1 none yU n7 (n, some ⟨[xCx51], 15, 53, true⟩) (rS (gt3 (by omega) get_here)) <| OA.nil fun _ => RA.weaken hd (LsO (fA get_here get_here (fA (get_there (by omega) get_here) (get_there (by omega) get_here) (fA (gt2 (by omega) get_here) (gt2 (by omega) get_here) (fA (gt3 (by omega) get_here) (gt3 (by omega) get_here) fan))))) ?_
 refine RA.ret env_ok ?_
 refine ⟨.inr rfl, [(.agg ⟨xCx51⟩)], (resL_cons (res_cellA rfl rfl rfl get_here rfl rfl rfl) resL_nil), [(r, some ⟨[[(.string (bstr ([] : List UInt8))), (.int .i64 2)]], 2, 121, true⟩)], (LsO (fA get_here (gt3 (by omega) get_here) fan)), ⟨rfl, rfl⟩⟩
theorem kAwk {σ : Store} : PS Try.prog noDen 33 [] σ (.bool true) := PS.closed env_ok rfl (F := 100) (k := 60) (by kernel_rfl) rfl rfl
set_option maxHeartbeats 16000000 in
theorem lawPuts {n : Nat} {σ : Store} (hd : Dom n σ) (hn0 : 0 < n) (c : Chk) (hin : okIn σ c) : CQ Try.prog noDen 10 [.agg ⟨cChk c⟩] n σ (fun v n' d => v = .bool true) := by
 refine CQ.body (E := env) env_ok hd rfl rfl (by show _ ≤ _; exact of_decide_eq_true (by kernel_rfl)) ?_
 refine RA.sR hd env_ok <| o1 (some 1) (Pt n 0 0) (n + 1) (n, some ⟨[(cChk c)], 15, 53, true⟩) (r_box (cs := (cChk c)) rfl rfl rfl (Nat.le_of_ble_eq_true rfl) (by simp only [List.all_cons, List.all_nil, Bool.and_true, Bool.and_eq_true, cChk]; exact ⟨rfl, rfl, rfl, rfl, rfl, rfl, rfl, rfl, rfl, rfl, rfl, (hin.1.1).one, (hin.1.2.1).one, (hin.1.2.2.1).one, (hin.1.2.2.2).one⟩)) <| OA.ps [(2, yF)] rfl <| OA.nil fun _ => RA.sR hd env_ok <| oP 8 (.agg ⟨(cChk c)⟩) rfl (r_loadA rfl rfl rfl rfl get_here rfl rfl rfl) ?_
 refine OA.call (dst := (some 9)) (all := [(.agg ⟨(cChk c)⟩)]) rfl rfl rfl rfl rfl rfl rfl rfl (CQ.imp (chCut (hd.of (by omega) (kb1 (by omega))) (by omega) c (okChk_mono (sub_a1 hd) hin.1)) ?_)
 rintro _ n1 _ ⟨j0n1, j1n1, han1, hbn1, hcn1, hdn1, hen1, rfl, rfl⟩ hn1
 refine OA.app2 ?_
 refine o1 (some 3) (Pt n1 0 0) (n1 + 1) (n1, some ⟨[xCx51], 15, 53, true⟩) rfl <| o1 none yU (n1 + 1) (n1, some ⟨[(cChk (cutD c j0n1 j1n1))], 15, 53, true⟩) (r_store (cs := (cChk (cutD c j0n1 j1n1))) rfl rfl rfl rfl rfl rfl (by simp only [List.all_cons, List.all_nil, Bool.and_true, Bool.and_eq_true, cChk]; exact ⟨rfl, rfl, rfl, rfl, rfl, rfl, rfl, rfl, rfl, rfl, rfl, rfl, rfl, ((hin.1.2.2.1.cutR (min c.gs.length 18) (by omega))).one, ((hin.1.2.2.2.cutR (min c.ds.length 18) (by omega))).one⟩) get_here rfl rfl (Nat.le_of_ble_eq_true rfl) rfl) <| OA.nil fun _ => RA.seq hd <| RA.par (md := [some [n1], none, some [n1], none, some [], some []]) env_ok (hd.of (by omega) (kb5 (by omega))) (by kernel_rfl) <| pQL 10 (.agg ⟨(cChk (cutD c j0n1 j1n1))⟩) (V := []) rfl (by kernel_rfl) (by kernel_rfl) get_here (r_loadA rfl rfl rfl rfl get_here rfl rfl rfl) ?_
 by_cases hc1 : mayP (cutD c j0n1 j1n1)
 ·
  refine pA 11 (V := []) (hd.of (by omega) (kb5 (by omega))) rfl rfl (by kernel_rfl) (by kernel_rfl) (sChPutT (cutD c j0n1 j1n1) hc1 (gd_cut hin (sub_app (n' := (n1 + 1)) hd (kc5 (by omega))) (gt2 (by omega) get_here) (gt3 (by omega) get_here))) fun n2 hn2 => pQL 12 (.agg ⟨(cChk (cutD c j0n1 j1n1))⟩) (V := []) rfl (by kernel_rfl) (by kernel_rfl) get_here (r_loadA rfl rfl rfl rfl get_here rfl rfl rfl) <| pA 13 (V := []) (hd.of (by omega) (kb5 (by omega))) rfl rfl (by kernel_rfl) (by kernel_rfl) (rChPutT (cutD c j0n1 j1n1) hc1 (gd_cut hin (sub_app (n' := n2) hd (kc5 (by omega))) (gt2 (by omega) get_here) (gt3 (by omega) get_here))) fun n3 hn3 => PQ.ps [(4, (.string (bstr (chL (cutD c j0n1 j1n1))))), (5, (.string (bstr (chL (cutD c j0n1 j1n1)))))] rfl <| PQ.done (d := []) (by kernel_rfl) fun _ => RA.seq hd <| RA.sR hd env_ok <| oC 14 (hd.of (by omega) (kb5 (by omega))) rfl rfl kAwk fun n4 hn4 => OA.ps [(15, yF), (16, yF), (17, (.string (bstr (chL (cutD c j0n1 j1n1))))), (18, (.string (bstr (chL (cutD c j0n1 j1n1)))))] rfl <| oP 19 yF rfl (Eq.trans (r_neqS rfl rfl rfl) (by rw [decide_eq_true rfl] <;> rfl)) <| OA.ps [(20, yF), (21, yF)] rfl ?_
  refine oP 22 (.agg ⟨(cChk (cutD c j0n1 j1n1))⟩) rfl (r_loadA rfl rfl rfl rfl get_here rfl rfl rfl) <| oC 23 (hd.of (by omega) (kb5 (by omega))) rfl rfl (sMay (cutD c j0n1 j1n1) true (bT hc1) (gd_cut hin (sub_app (n' := n4) hd (kc5 (by omega))) (gt2 (by omega) get_here) (gt3 (by omega) get_here))) fun n5 hn5 => OA.ps [(24, (.string (bstr (chL (cutD c j0n1 j1n1)))))] rfl <| oP 25 yT rfl (Eq.trans (r_neqS rfl rfl rfl) (by rw [decide_eq_false (chL_ne (cutD c j0n1 j1n1))] <;> rfl)) <| OA.ps [(26, yF), (27, yF)] rfl <| OA.nil fun _ => RA.rb [(0, (.agg ⟨(cChk c)⟩)), (1, (Pt n 0 0)), (2, yF), (3, (Pt n1 0 0)), (4, (.string (bstr (chL (cutD c j0n1 j1n1))))), (5, (.string (bstr (chL (cutD c j0n1 j1n1))))), (27, yF)] rfl (fun τr6 => ?_)
  refine RA.condF rfl <| RA.skip env_ok ?_
  intro _
  refine RA.sR hd env_ok <| OA.ps [(28, (.string (bstr (chL (cutD c j0n1 j1n1)))))] rfl ?_
  refine OA.call (dst := (some 29)) (all := [(.string (bstr (chL (cutD c j0n1 j1n1))))]) rfl rfl rfl rfl rfl rfl rfl rfl (CQ.imp (cNewR (hd.of (by omega) (kb5 (by omega))) (chL (cutD c j0n1 j1n1))) ?_)
  rintro _ n7 _ ⟨qn7, p1n7, p2n7, rfl, rfl⟩ hn7
  refine OA.app1 ?_
  refine OA.ps [(6, (Pt qn7 0 0))] rfl <| OA.nil fun _ => RA.weaken hd (LsO (fA get_here get_here (fA (get_there (by omega) get_here) (get_there (by omega) get_here) (fA (gt2 (by omega) get_here) (gt3 (by omega) get_here) (fA (gt3 (by omega) get_here) (gt4 (by omega) get_here) (fA (gt4 (by omega) get_here) (gt5 (by omega) get_here) fan)))))) <| RA.sR hd env_ok <| OA.ps [(30, (Pt qn7 0 0))] rfl ?_
  refine OA.call (dst := (some 31)) (all := [(Pt qn7 0 0)]) rfl rfl rfl rfl rfl rfl rfl rfl (CQ.imp (cTkT (hd.of (by omega) (kb5 (by omega))) qn7 (cutD c j0n1 j1n1) hc1 (gd_cut hin (sub_app (n' := n7) hd (kc5 (by omega))) (gt2 (by omega) get_here) (gt3 (by omega) get_here)) get_here) ?_)
  rintro _ n8 ddn8 ⟨y, rfl, s1, s3, s4, s5⟩ hn8
  refine o1 (some 7) (Pt n8 0 0) (n8 + 1) (n8, some ⟨[xCx51], 15, 53, true⟩) rfl <| o1 none yU (n8 + 1) (n8, some ⟨[(cChk y)], 15, 53, true⟩) (r_store (cs := (cChk y)) rfl rfl rfl rfl rfl rfl (by simp only [List.all_cons, List.all_nil, Bool.and_true, Bool.and_eq_true, cChk]; exact ⟨rfl, rfl, rfl, rfl, rfl, rfl, rfl, rfl, rfl, rfl, rfl, (s3.hp).one, (s3.hc).one, (s3.hg).one, (s3.hu).one⟩) get_here rfl rfl (Nat.le_of_ble_eq_true rfl) rfl) <| OA.nil fun _ => ?_
  refine RA.restart (b' := (n8 + 1)) ?_
  have hD0 : Dom n7 (app [(qn7, some ⟨[[(.string (bstr (chL (cutD c j0n1 j1n1)))), (.int .i64 0)]], 2, 121, true⟩), (n1, some ⟨[(cChk (cutD c j0n1 j1n1))], 15, 53, true⟩), (j0n1, some (oPrm ((c.ps.take (min c.ps.length 18)).map cutPrm))), (j1n1, some (oCau ((c.cs.take (min c.cs.length 18)).map cutCau))), (n, some ⟨[(cChk c)], 15, 53, true⟩)] σ) := (hd.of (by omega) (kb5 (by omega)))
  have hd2 : Dom n8 (app ddn8 (app [(qn7, some ⟨[[(.string (bstr (chL (cutD c j0n1 j1n1)))), (.int .i64 0)]], 2, 121, true⟩), (n1, some ⟨[(cChk (cutD c j0n1 j1n1))], 15, 53, true⟩), (j0n1, some (oPrm ((c.ps.take (min c.ps.length 18)).map cutPrm))), (j1n1, some (oCau ((c.cs.take (min c.cs.length 18)).map cutCau))), (n, some ⟨[(cChk c)], 15, 53, true⟩)] σ)) := Dom.of hD0 (by omega) (fun q_ hq_ => by have := s5 q_ hq_; omega)
  have gx0 : gd (app [(qn7, some ⟨[[(.string (bstr (chL (cutD c j0n1 j1n1)))), (.int .i64 0)]], 2, 121, true⟩), (n1, some ⟨[(cChk (cutD c j0n1 j1n1))], 15, 53, true⟩), (j0n1, some (oPrm ((c.ps.take (min c.ps.length 18)).map cutPrm))), (j1n1, some (oCau ((c.cs.take (min c.cs.length 18)).map cutCau))), (n, some ⟨[(cChk c)], 15, 53, true⟩)] σ) (cutD c j0n1 j1n1) := (gd_cut hin (sub_app (n' := n7) hd (kc5 (by omega))) (gt2 (by omega) get_here) (gt3 (by omega) get_here))
  have hx0 : app [(qn7, some ⟨[[(.string (bstr (chL (cutD c j0n1 j1n1)))), (.int .i64 0)]], 2, 121, true⟩), (n1, some ⟨[(cChk (cutD c j0n1 j1n1))], 15, 53, true⟩), (j0n1, some (oPrm ((c.ps.take (min c.ps.length 18)).map cutPrm))), (j1n1, some (oCau ((c.cs.take (min c.cs.length 18)).map cutCau))), (n, some ⟨[(cChk c)], 15, 53, true⟩)] σ n1 = some ⟨[(cChk (cutD c j0n1 j1n1))], 15, 53, true⟩ := (get_there (by omega) get_here)
  have hq0 : app [(qn7, some ⟨[[(.string (bstr (chL (cutD c j0n1 j1n1)))), (.int .i64 0)]], 2, 121, true⟩), (n1, some ⟨[(cChk (cutD c j0n1 j1n1))], 15, 53, true⟩), (j0n1, some (oPrm ((c.ps.take (min c.ps.length 18)).map cutPrm))), (j1n1, some (oCau ((c.cs.take (min c.cs.length 18)).map cutCau))), (n, some ⟨[(cChk c)], 15, 53, true⟩)] σ qn7 = some ⟨[[(.string (bstr (chL (cutD c j0n1 j1n1)))), (.int .i64 0)]], 2, 121, true⟩ := get_here
  have e1 : app ((n8, some ⟨[(cChk y)], 15, 53, true⟩) :: (n8, some ⟨[xCx51], 15, 53, true⟩) :: (ddn8 ++ [(qn7, some ⟨[[(.string (bstr (chL (cutD c j0n1 j1n1)))), (.int .i64 0)]], 2, 121, true⟩), (n1, some ⟨[(cChk (cutD c j0n1 j1n1))], 15, 53, true⟩), (j0n1, some (oPrm ((c.ps.take (min c.ps.length 18)).map cutPrm))), (j1n1, some (oCau ((c.cs.take (min c.cs.length 18)).map cutCau))), (n, some ⟨[(cChk c)], 15, 53, true⟩)])) σ = app [(n8, some ⟨[(cChk y)], 15, 53, true⟩), (n8, some ⟨[xCx51], 15, 53, true⟩)] (app ddn8 (app [(qn7, some ⟨[[(.string (bstr (chL (cutD c j0n1 j1n1)))), (.int .i64 0)]], 2, 121, true⟩), (n1, some ⟨[(cChk (cutD c j0n1 j1n1))], 15, 53, true⟩), (j0n1, some (oPrm ((c.ps.take (min c.ps.length 18)).map cutPrm))), (j1n1, some (oCau ((c.cs.take (min c.cs.length 18)).map cutCau))), (n, some ⟨[(cChk c)], 15, 53, true⟩)] σ)) := by show app [(n8, some ⟨[(cChk y)], 15, 53, true⟩), (n8, some ⟨[xCx51], 15, 53, true⟩)] (app (ddn8 ++ [(qn7, some ⟨[[(.string (bstr (chL (cutD c j0n1 j1n1)))), (.int .i64 0)]], 2, 121, true⟩), (n1, some ⟨[(cChk (cutD c j0n1 j1n1))], 15, 53, true⟩), (j0n1, some (oPrm ((c.ps.take (min c.ps.length 18)).map cutPrm))), (j1n1, some (oCau ((c.cs.take (min c.cs.length 18)).map cutCau))), (n, some ⟨[(cChk c)], 15, 53, true⟩)]) σ) = _; rw [app_append]
  rw [e1]
  obtain ⟨σ0, hσ0⟩ : ∃ s, app [(qn7, some ⟨[[(.string (bstr (chL (cutD c j0n1 j1n1)))), (.int .i64 0)]], 2, 121, true⟩), (n1, some ⟨[(cChk (cutD c j0n1 j1n1))], 15, 53, true⟩), (j0n1, some (oPrm ((c.ps.take (min c.ps.length 18)).map cutPrm))), (j1n1, some (oCau ((c.cs.take (min c.cs.length 18)).map cutCau))), (n, some ⟨[(cChk c)], 15, 53, true⟩)] σ = s := ⟨_, rfl⟩
  rw [hσ0] at hD0 hd2 gx0 hx0 hq0 s1 s3 ⊢
  have hx2 : app ddn8 σ0 n1 = some ⟨[(cChk (cutD c j0n1 j1n1))], 15, 53, true⟩ := by rw [app_off (fun hm_ => by have := s5 _ hm_; omega)]; exact hx0
  have gx2 : gd (app ddn8 σ0) (cutD c j0n1 j1n1) := gdk (T := 121) (by decide) gx0 (keep_app hD0 (fun k_ hk_ => (s5 k_ hk_).elim (fun h_ => .inr ⟨_, (congrArg σ0 h_).trans hq0, rfl⟩) (fun h_ => .inl h_.1)))
  obtain ⟨σ2, hσ2⟩ : ∃ s, app ddn8 σ0 = s := ⟨_, rfl⟩
  rw [hσ2] at hd2 s1 s3 hx2 gx2 ⊢
  have hkp : Keep 121 σ2 (app [(n8, some ⟨[(cChk y)], 15, 53, true⟩), (n8, some ⟨[xCx51], 15, 53, true⟩)] σ2) := keep_app hd2 (by intro k_ hk_; simp only [keys, List.cons_append, List.nil_append, List.map_cons, List.map_nil, List.mem_cons, List.not_mem_nil, or_false, false_or] at hk_; exact .inl (by omega))
  have hd3 : Dom (n8 + 1) (app [(n8, some ⟨[(cChk y)], 15, 53, true⟩), (n8, some ⟨[xCx51], 15, 53, true⟩)] σ2) := Dom.of hd2 (by omega) (by intro k_ hk_; simp only [keys, List.cons_append, List.nil_append, List.map_cons, List.map_nil, List.mem_cons, List.not_mem_nil, or_false, false_or] at hk_; omega)
  have hy3 : app [(n8, some ⟨[(cChk y)], 15, 53, true⟩), (n8, some ⟨[xCx51], 15, 53, true⟩)] σ2 n8 = some ⟨[(cChk y)], 15, 53, true⟩ := get_here
  have hx3 : app [(n8, some ⟨[(cChk y)], 15, 53, true⟩), (n8, some ⟨[xCx51], 15, 53, true⟩)] σ2 n1 = some ⟨[(cChk (cutD c j0n1 j1n1))], 15, 53, true⟩ := (gt2 (by omega) hx2)
  have hr3 : app [(n8, some ⟨[(cChk y)], 15, 53, true⟩), (n8, some ⟨[xCx51], 15, 53, true⟩)] σ2 qn7 = some ⟨[[(.string (bstr ([] : List UInt8))), (.int .i64 0)]], 2, 121, true⟩ := (gt2 (by omega) s1)
  have gx3 := gdk (T := 121) (by decide) gx2 hkp
  have s3 := gdk (T := 121) (by decide) s3 hkp
  obtain ⟨σ3, hσ3⟩ : ∃ s, app [(n8, some ⟨[(cChk y)], 15, 53, true⟩), (n8, some ⟨[xCx51], 15, 53, true⟩)] σ2 = s := ⟨_, rfl⟩
  rw [hσ3] at hd3 hy3 hx3 hr3 gx3 s3 ⊢
  have hd := hd3
  refine RA.sR hd env_ok <| OA.ps [(32, (.string (bstr (chL (cutD c j0n1 j1n1)))))] rfl <| oP 33 yF rfl (Eq.trans (r_eqlS rfl rfl rfl) (by rw [decide_eq_false (chL_ne (cutD c j0n1 j1n1))] <;> rfl)) <| OA.ps [(34, yF), (35, (Pt qn7 0 0))] rfl ?_
  refine OA.call (dst := (some 36)) (all := [(Pt qn7 0 0)]) rfl rfl rfl rfl rfl rfl rfl rfl (CQ.imp (rEnd (hd.up (by omega)) qn7 (bstr []) rfl hr3) ?_)
  rintro _ n10 _ ⟨rfl, rfl⟩ hn10
  refine OA.app0 ?_
  refine oP 37 yT rfl (r_bin rfl rfl rfl (b_eql (by simp))) <| OA.ps [(38, yT)] rfl <| oP 39 (.agg ⟨(cChk (cutD c j0n1 j1n1))⟩) rfl (r_loadA rfl rfl rfl rfl hx3 rfl rfl rfl) <| oP 40 (.agg ⟨(cChk y)⟩) rfl (r_loadA rfl rfl rfl rfl hy3 rfl rfl rfl) <| oC 41 (v := yT) (hd.up (by omega)) rfl rfl (rSameY (cutD c j0n1 j1n1) y (gdk (T := 53) (by decide) gx3 (fun i o h_ _ => h_)) s3 s4) fun n11 hn11 => OA.ps [(42, yT), (43, yT), (2, yT)] rfl <| OA.nil fun _ => ?_
  refine RA.ret env_ok ?_
  intro D'_
  exact ⟨.inr rfl, [(.bool true)], (resL_cons rfl resL_nil), D'_, Less.refl _ _ _, rfl⟩
 ·
  refine pA 11 (V := []) (hd.of (by omega) (kb5 (by omega))) rfl rfl (by kernel_rfl) (by kernel_rfl) (sChPutF (cutD c j0n1 j1n1) hc1 (gd_cut hin (sub_app (n' := (n1 + 1)) hd (kc5 (by omega))) (gt2 (by omega) get_here) (gt3 (by omega) get_here))) fun n12 hn12 => pQL 12 (.agg ⟨(cChk (cutD c j0n1 j1n1))⟩) (V := []) rfl (by kernel_rfl) (by kernel_rfl) get_here (r_loadA rfl rfl rfl rfl get_here rfl rfl rfl) <| pA 13 (V := []) (hd.of (by omega) (kb5 (by omega))) rfl rfl (by kernel_rfl) (by kernel_rfl) (rChPutF (cutD c j0n1 j1n1) hc1 (gd_cut hin (sub_app (n' := n12) hd (kc5 (by omega))) (gt2 (by omega) get_here) (gt3 (by omega) get_here))) fun n13 hn13 => PQ.ps [(4, (.string (ByteArray.mk #[]))), (5, (.string (ByteArray.mk #[])))] rfl <| PQ.done (d := []) (by kernel_rfl) fun _ => RA.seq hd <| RA.sR hd env_ok <| oC 14 (hd.of (by omega) (kb5 (by omega))) rfl rfl kAwk fun n14 hn14 => OA.ps [(15, yF), (16, yF), (17, (.string (ByteArray.mk #[]))), (18, (.string (ByteArray.mk #[])))] rfl <| oP 19 yF rfl (by kernel_rfl) <| OA.ps [(20, yF), (21, yF)] rfl ?_
  refine oP 22 (.agg ⟨(cChk (cutD c j0n1 j1n1))⟩) rfl (r_loadA rfl rfl rfl rfl get_here rfl rfl rfl) <| oC 23 (hd.of (by omega) (kb5 (by omega))) rfl rfl (sMay (cutD c j0n1 j1n1) false (bF hc1) (gd_cut hin (sub_app (n' := n14) hd (kc5 (by omega))) (gt2 (by omega) get_here) (gt3 (by omega) get_here))) fun n15 hn15 => OA.ps [(24, (.string (ByteArray.mk #[])))] rfl <| oP 25 yF rfl (by kernel_rfl) <| OA.ps [(26, yF), (27, yF)] rfl <| OA.nil fun _ => RA.rb [(0, (.agg ⟨(cChk c)⟩)), (1, (Pt n 0 0)), (2, yF), (3, (Pt n1 0 0)), (4, (.string (ByteArray.mk #[]))), (5, (.string (ByteArray.mk #[]))), (27, yF)] rfl (fun τr16 => ?_)
  refine RA.condF rfl <| RA.skip env_ok ?_
  intro _
  refine RA.sR hd env_ok <| OA.ps [(28, (.string (ByteArray.mk #[])))] rfl ?_
  refine OA.call (dst := (some 29)) (all := [(.string (ByteArray.mk #[]))]) rfl rfl rfl rfl rfl rfl rfl rfl (CQ.imp (cNewR (hd.of (by omega) (kb5 (by omega))) []) ?_)
  rintro _ n17 _ ⟨qn17, p1n17, p2n17, rfl, rfl⟩ hn17
  refine OA.app1 ?_
  refine OA.ps [(6, (Pt qn17 0 0))] rfl <| OA.nil fun _ => RA.sR hd env_ok <| OA.ps [(30, (Pt qn17 0 0))] rfl ?_
  refine OA.call (dst := (some 31)) (all := [(Pt qn17 0 0)]) rfl rfl rfl rfl rfl rfl rfl rfl (CQ.imp (cTkF (hd.of (by omega) (kb6 (by omega))) qn17 get_here) ?_)
  rintro _ n18 _ ⟨rfl, rfl⟩ hn18
  refine OA.app1 ?_
  refine o1 (some 7) (Pt n18 0 0) (n18 + 1) (n18, some ⟨[xCx51], 15, 53, true⟩) rfl <| o1 none yU (n18 + 1) (n18, some ⟨[xCx51], 15, 53, true⟩) (rS get_here) <| OA.nil fun _ => RA.weaken hd (LsO (fA get_here get_here (fA (get_there (by omega) get_here) (gt2 (by omega) get_here) (fA (gt2 (by omega) get_here) (gt4 (by omega) get_here) (fA (gt3 (by omega) get_here) (gt6 (by omega) get_here) (fA (gt4 (by omega) get_here) (gt7 (by omega) get_here) (fA (gt5 (by omega) get_here) (gt8 (by omega) get_here) fan))))))) <| RA.sR hd env_ok <| OA.ps [(32, (.string (ByteArray.mk #[])))] rfl <| oP 33 yT rfl (by kernel_rfl) <| OA.ps [(34, yT)] rfl <| OA.offs 35 8 rfl <| OA.ps [(43, yT), (2, yT)] rfl <| OA.nil fun _ => ?_
  refine RA.ret env_ok ?_
  exact ⟨.inr rfl, [(.bool true)], (resL_cons rfl resL_nil), _, Less.refl _ _ _, rfl⟩
end Go.Proofs.Ytgajcmanompmcaa.Vt
/- The pure part of ChunkPuts. -/
namespace Go.Proofs.Ytgajcmanompmcaa.Vt
open Go Go.Proofs Go.Proofs.YtgajcmanompmcaaV
set_option linter.unusedVariables false
theorem wf_word {b : Int} (h : (Lit.int .u32 b).wf = true) : ∃ x : BitVec 32, b = ((x.toNat : Nat) : Int) := by
  have h2 : 0 ≤ b ∧ b < 4294967296 := by
    simp [Lit.wf, IntKind.min, IntKind.max, IntKind.signed, IntKind.bits] at h
    omega
  exact ⟨BitVec.ofNat 32 b.toNat, by rw [BitVec.toNat_ofNat]; omega⟩
theorem wf_i64 {b : Int} (h : (Lit.int .i64 b).wf = true) : -9223372036854775808 ≤ b ∧ b ≤ 9223372036854775807 := by
  simp [Lit.wf, IntKind.min, IntKind.max, IntKind.signed, IntKind.bits] at h
  omega
theorem rowsPrm {σ : Store} : ∀ {es : List (List Value)}, (∀ x ∈ es, g35.G σ x) → ∃ l : List Prm, es = l.map cPrm
  | [], _ => ⟨[], rfl⟩
  | x :: es, h => by
    obtain ⟨l, rfl⟩ := rowsPrm (es := es) (fun y hy => h y (List.mem_cons_of_mem _ hy))
    obtain ⟨_, _, rfl, ⟨a0, rfl, w0⟩, _, _, rfl, ⟨a1, rfl, w1⟩, rfl⟩ := h x (List.mem_cons_self ..)
    exact ⟨⟨a0, a1⟩ :: l, rfl⟩
theorem rowsCau {σ : Store} : ∀ {es : List (List Value)}, (∀ x ∈ es, g99.G σ x) → ∃ l : List Cau, es = l.map cCau
  | [], _ => ⟨[], rfl⟩
  | x :: es, h => by
    obtain ⟨l, rfl⟩ := rowsCau (es := es) (fun y hy => h y (List.mem_cons_of_mem _ hy))
    obtain ⟨_, _, rfl, ⟨a0, rfl, w0⟩, _, _, rfl, ⟨a1, rfl, w1⟩, rfl⟩ := h x (List.mem_cons_self ..)
    exact ⟨⟨a0, a1⟩ :: l, rfl⟩
theorem rowsDp {σ : Store} : ∀ {es : List (List Value)}, (∀ x ∈ es, g36.G σ x) → ∃ l : List Dp, es = l.map cDp
  | [], _ => ⟨[], rfl⟩
  | x :: es, h => by
    obtain ⟨l, rfl⟩ := rowsDp (es := es) (fun y hy => h y (List.mem_cons_of_mem _ hy))
    obtain ⟨a0, rfl, w0⟩ := h x (List.mem_cons_self ..)
    obtain ⟨b0, rfl⟩ := wf_word w0
    exact ⟨⟨b0⟩ :: l, rfl⟩
theorem rowsGp2 {σ : Store} : ∀ {es : List (List Value)}, (∀ x ∈ es, g101.G σ x) → ∃ l : List Gp, es = l.map cGp ∧ ∀ g ∈ l, g.lo < 9223372036854775808
  | [], _ => ⟨[], rfl, fun _ h => by cases h⟩
  | x :: es, h => by
    obtain ⟨l, rfl, hl⟩ := rowsGp2 (es := es) (fun y hy => h y (List.mem_cons_of_mem _ hy))
    obtain ⟨_, _, rfl, ⟨a0, rfl, w0⟩, _, _, rfl, ⟨a1, rfl, w1⟩, rfl⟩ := h x (List.mem_cons_self ..)
    refine ⟨⟨a0, a1⟩ :: l, rfl, fun g hg => ?_⟩
    rcases List.mem_cons.1 hg with rfl | hg
    · have := wf_i64 w0; show a0 < 9223372036854775808; omega
    · exact hl g hg
theorem rowsChk {σ : Store} : ∀ {es : List (List Value)}, (∀ x ∈ es, g53.G σ x) → ∃ l : List Chk, es = l.map cChk ∧ ∀ c ∈ l, okIn σ c
  | [], _ => ⟨[], rfl, fun _ h => by cases h⟩
  | x :: es, h => by
    obtain ⟨l, rfl, hl⟩ := rowsChk (es := es) (fun y hy => h y (List.mem_cons_of_mem _ hy))
    obtain ⟨_, _, rfl, ⟨a0, rfl, w0⟩, _, _, rfl, ⟨a1, rfl, w1⟩, _, _, rfl, ⟨a2, rfl, w2⟩, _, _, rfl, ⟨a3, rfl, w3⟩, _, _, rfl, ⟨a4, rfl, w4⟩, _, _, rfl, ⟨a5, rfl, w5⟩, _, _, rfl, ⟨a6, rfl, w6⟩, _, _, rfl, ⟨a7, rfl, w7⟩, _, _, rfl, ⟨a8, rfl, w8⟩, _, _, rfl, ⟨a9, rfl, w9⟩, _, _, rfl, ⟨a10, rfl, w10⟩, _, _, rfl, ⟨v11, e11, rfl, r11, x11⟩, _, _, rfl, ⟨v12, e12, rfl, r12, x12⟩, _, _, rfl, ⟨v13, e13, rfl, r13, x13⟩, _, _, rfl, ⟨v14, e14, rfl, r14, x14⟩, rfl⟩ := h x (List.mem_cons_self ..)
    obtain ⟨b2, rfl⟩ := wf_word w2
    obtain ⟨b5, rfl⟩ := wf_word w5
    obtain ⟨b7, rfl⟩ := wf_word w7
    obtain ⟨b8, rfl⟩ := wf_word w8
    obtain ⟨l11, rfl⟩ := rowsPrm x11
    obtain ⟨l12, rfl⟩ := rowsCau x12
    obtain ⟨l13, rfl, hgr⟩ := rowsGp2 x13
    obtain ⟨l14, rfl⟩ := rowsDp x14
    refine ⟨⟨a0, a1, b2, a3, a4, b5, a6, b7, b8, a9, a10, v11, v12, v13, v14, l11, l12, l13, l14⟩ :: l, rfl, fun c hc => ?_⟩
    rcases List.mem_cons.1 hc with rfl | hc
    · exact ⟨⟨r11.P, r12.P, r13.P, r14.P⟩, by have := wf_i64 w1; show a1 < 9223372036854775808; omega, hgr⟩
    · exact hl c hc
theorem runChunkPuts (n : Nat) (σ : Store) (hd : Dom n σ) (hn0 : 0 < n) (x0 : Value) (h0 : (∃ acs, x0 = .agg ⟨acs⟩ ∧ g53.G σ acs)) : CQ Try.prog noDen 10 [x0] n σ (fun v _ _ => v = .bool true) := by
  obtain ⟨acs0, rfl, k0⟩ := h0
  obtain ⟨l, hl, hok⟩ := rowsChk (es := [acs0]) (fun x hx => by rcases List.mem_singleton.1 hx with rfl; exact k0)
  match l, hl with
  | [c], hl =>
    cases hl
    exact lawPuts hd hn0 c (hok c (List.mem_cons_self ..))
end Go.Proofs.Ytgajcmanompmcaa.Vt
