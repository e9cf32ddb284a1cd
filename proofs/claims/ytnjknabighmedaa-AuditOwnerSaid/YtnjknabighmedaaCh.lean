/- Ch: walks through functions of the program, by the calculus; written by a program of this workplace. -/
import Derived.Test.YtnjknabighmedaaEnv
import Derived.Test.YtnjknabighmedaaVm5
namespace Go.Proofs.Ytnjknabighmedaa.Vt
open Go Go.Proofs Go.Proofs.YtnjknabighmedaaV
set_option maxRecDepth 100000
set_option linter.unusedVariables false
set_option linter.unusedSimpArgs false
structure Prm where
  typ : Int
  val : ByteArray
deriving DecidableEq
def dPrm : Prm := ⟨0, ByteArray.empty⟩
abbrev cPrm (e : Prm) : List Value := [(.int .i64 e.typ), (.string e.val)]
abbrev oPrm (l : List Prm) : AObj := ⟨l.map cPrm, 2, 143, true⟩
structure Cau where
  code : Int
  info : ByteArray
deriving DecidableEq
def dCau : Cau := ⟨0, ByteArray.empty⟩
abbrev cCau (e : Cau) : List Value := [(.int .i64 e.code), (.string e.info)]
abbrev oCau (l : List Cau) : AObj := ⟨l.map cCau, 2, 145, true⟩
structure Gp where
  lo : Int
  hi : Int
deriving DecidableEq
def dGp : Gp := ⟨0, 0⟩
abbrev cGp (e : Gp) : List Value := [(.int .i64 e.lo), (.int .i64 e.hi)]
abbrev oGp (l : List Gp) : AObj := ⟨l.map cGp, 2, 163, true⟩
structure Dp where
  x : BitVec 32
deriving DecidableEq
def dDp : Dp := ⟨0#32⟩
abbrev cDp (e : Dp) : List Value := [(W e.x)]
abbrev oDp (l : List Dp) : AObj := ⟨l.map cDp, 1, 23, true⟩
structure Chk where
  typ : Int
  flags : Int
  tsn : BitVec 32
  stream : Int
  ssn : Int
  proto : BitVec 32
  data : ByteArray
  tag : BitVec 32
  rwnd : BitVec 32
  outs : Int
  ins : Int
  pv : Value
  cv : Value
  gv : Value
  dv : Value
  ps : List Prm
  cs : List Cau
  gs : List Gp
  ds : List Dp
def dChk : Chk := ⟨0, 0, 0#32, 0, 0, 0#32, ByteArray.empty, 0#32, 0#32, 0, 0, .slice none 0 0, .slice none 0 0, .slice none 0 0, .slice none 0 0, [], [], [], []⟩
abbrev cChk (e : Chk) : List Value := [(.int .i64 e.typ), (.int .i64 e.flags), (W e.tsn), (.int .i64 e.stream), (.int .i64 e.ssn), (W e.proto), (.string e.data), (W e.tag), (W e.rwnd), (.int .i64 e.outs), (.int .i64 e.ins), e.pv, e.cv, e.gv, e.dv]
abbrev oChk (l : List Chk) : AObj := ⟨l.map cChk, 15, 50, true⟩
def okChk (σ : Store) (c : Chk) : Prop := RowP σ 143 2 c.pv (c.ps.map cPrm) ∧ RowP σ 145 2 c.cv (c.cs.map cCau) ∧ RowP σ 163 2 c.gv (c.gs.map cGp) ∧ RowP σ 23 1 c.dv (c.ds.map cDp)
def cutPrm (e : Prm) : Prm := ⟨e.typ, e.val.extract 0 (min e.val.size 60)⟩
theorem cutPrm_snoc {l : List Prm} {i : Nat} (h : i < l.length) : (((l.take i).map cutPrm).map cPrm) ++ [cPrm (Prm.mk (l.getD i dPrm).typ ((l.getD i dPrm).val.extract 0 (min (l.getD i dPrm).val.size 60)))] = ((l.take (i + 1)).map cutPrm).map cPrm := by
  rw [← take_snoc (d0 := dPrm) h, List.map_append, List.map_append]; rfl
theorem cutPrm_len {l : List Prm} {i : Nat} (h : i ≤ l.length) : ((l.take i).map cutPrm).length = i := by rw [List.length_map, List.length_take]; omega
def cutCau (e : Cau) : Cau := ⟨e.code, e.info.extract 0 (min e.info.size 60)⟩
theorem cutCau_snoc {l : List Cau} {i : Nat} (h : i < l.length) : (((l.take i).map cutCau).map cCau) ++ [cCau (Cau.mk (l.getD i dCau).code ((l.getD i dCau).info.extract 0 (min (l.getD i dCau).info.size 60)))] = ((l.take (i + 1)).map cutCau).map cCau := by
  rw [← take_snoc (d0 := dCau) h, List.map_append, List.map_append]; rfl
theorem cutCau_len {l : List Cau} {i : Nat} (h : i ≤ l.length) : ((l.take i).map cutCau).length = i := by rw [List.length_map, List.length_take]; omega
abbrev xCh1 (c : Chk) (j0 : Nat) (j1 : Nat) : List Value := [(.int .i64 c.typ), (.int .i64 c.flags), (W c.tsn), (.int .i64 c.stream), (.int .i64 c.ssn), (W c.proto), (.string (c.data.extract 0 (min c.data.size 950))), (W c.tag), (W c.rwnd), (.int .i64 c.outs), (.int .i64 c.ins), (.slice (some ⟨j0, 0, none⟩) (min c.ps.length 18) 0), (.slice (some ⟨j1, 0, none⟩) (min c.cs.length 18) 0), (cutV c.gv (min c.gs.length 18)), (cutV c.dv (min c.ds.length 18))]
abbrev xCh2 (c : Chk) (j0 : Nat) (j1 : Nat) : List Value := [(.int .i64 c.typ), (.int .i64 c.flags), (W c.tsn), (.int .i64 c.stream), (.int .i64 c.ssn), (W c.proto), (.string (c.data.extract 0 (min c.data.size 950))), (W c.tag), (W c.rwnd), (.int .i64 c.outs), (.int .i64 c.ins), (.slice (some ⟨j0, 0, none⟩) (min c.ps.length 18) 0), (.slice (some ⟨j1, 0, none⟩) (min c.cs.length 18) 0), (cutV c.gv (min c.gs.length 18)), c.dv]
abbrev xCh3 (c : Chk) (j0 : Nat) (j1 : Nat) : List Value := [(.int .i64 c.typ), (.int .i64 c.flags), (W c.tsn), (.int .i64 c.stream), (.int .i64 c.ssn), (W c.proto), (.string (c.data.extract 0 (min c.data.size 950))), (W c.tag), (W c.rwnd), (.int .i64 c.outs), (.int .i64 c.ins), (.slice (some ⟨j0, 0, none⟩) (min c.ps.length 18) 0), (.slice (some ⟨j1, 0, none⟩) (min c.cs.length 18) 0), c.gv, c.dv]
abbrev xCh4 (c : Chk) (j0 : Nat) (n4 : Nat) (i : Nat) : List Value := [(.int .i64 c.typ), (.int .i64 c.flags), (W c.tsn), (.int .i64 c.stream), (.int .i64 c.ssn), (W c.proto), (.string (c.data.extract 0 (min c.data.size 950))), (W c.tag), (W c.rwnd), (.int .i64 c.outs), (.int .i64 c.ins), (.slice (some ⟨j0, 0, none⟩) (min c.ps.length 18) 0), (.slice (some ⟨(n4 + 1), 0, none⟩) (i + 1) 0), c.gv, c.dv]
abbrev xCh5 (c : Chk) (j0 : Nat) (j : Nat) (i : Nat) : List Value := [(.int .i64 c.typ), (.int .i64 c.flags), (W c.tsn), (.int .i64 c.stream), (.int .i64 c.ssn), (W c.proto), (.string (c.data.extract 0 (min c.data.size 950))), (W c.tag), (W c.rwnd), (.int .i64 c.outs), (.int .i64 c.ins), (.slice (some ⟨j0, 0, none⟩) (min c.ps.length 18) 0), (.slice (some ⟨j, 0, none⟩) i 0), c.gv, c.dv]
abbrev xCh6 (c : Chk) (n1 : Nat) (i : Nat) (n : Nat) : List Value := [(.int .i64 c.typ), (.int .i64 c.flags), (W c.tsn), (.int .i64 c.stream), (.int .i64 c.ssn), (W c.proto), (.string (c.data.extract 0 (min c.data.size 950))), (W c.tag), (W c.rwnd), (.int .i64 c.outs), (.int .i64 c.ins), (.slice (some ⟨(n1 + 1), 0, none⟩) (i + 1) 0), (.slice (some ⟨(n + 4), 0, none⟩) 0 0), c.gv, c.dv]
abbrev xCh7 (c : Chk) (n : Nat) : List Value := [(.int .i64 c.typ), (.int .i64 c.flags), (W c.tsn), (.int .i64 c.stream), (.int .i64 c.ssn), (W c.proto), (.string (c.data.extract 0 (min c.data.size 950))), (W c.tag), (W c.rwnd), (.int .i64 c.outs), (.int .i64 c.ins), (.slice (some ⟨(n + 3), 0, none⟩) 0 0), (.slice (some ⟨(n + 4), 0, none⟩) 0 0), c.gv, c.dv]
abbrev xCh8 (c : Chk) (j : Nat) (i : Nat) (n : Nat) : List Value := [(.int .i64 c.typ), (.int .i64 c.flags), (W c.tsn), (.int .i64 c.stream), (.int .i64 c.ssn), (W c.proto), (.string (c.data.extract 0 (min c.data.size 950))), (W c.tag), (W c.rwnd), (.int .i64 c.outs), (.int .i64 c.ins), (.slice (some ⟨j, 0, none⟩) i 0), (.slice (some ⟨(n + 4), 0, none⟩) 0 0), c.gv, c.dv]
abbrev xCh9 : List Value := [(.int .i64 0), (.int .i64 0), (.int .u32 0), (.int .i64 0), (.int .i64 0), (.int .u32 0), (.string ByteArray.empty), (.int .u32 0), (.int .u32 0), (.int .i64 0), (.int .i64 0), (.slice none 0 0), (.slice none 0 0), (.slice none 0 0), (.slice none 0 0)]
abbrev xCh10 (c : Chk) : List Value := [(.int .i64 c.typ), (.int .i64 c.flags), (W c.tsn), (.int .i64 c.stream), (.int .i64 c.ssn), (W c.proto), (.string c.data), (W c.tag), (W c.rwnd), (.int .i64 c.outs), (.int .i64 c.ins), c.pv, c.cv, c.gv, c.dv]
abbrev xCh11 (c : Chk) (i : Nat) : List Value := [(.int .i64 (c.cs.getD i dCau).code), (.string ((c.cs.getD i dCau).info.extract 0 (min (c.cs.getD i dCau).info.size 60)))]
abbrev xCh12 (c : Chk) (i : Nat) : List Value := [(.int .i64 (c.ps.getD i dPrm).typ), (.string ((c.ps.getD i dPrm).val.extract 0 (min (c.ps.getD i dPrm).val.size 60)))]
theorem chCut {n : Nat} {σ : Store} (hd : Dom n σ) (hn0 : 0 < n) (c : Chk) (hok : okChk σ c)   : CQ Try.prog noDen 68 [(.agg ⟨(cChk c)⟩)] n σ (fun v n' d => ∃ j0 j1, n ≤ j0 ∧ j0 < n' ∧ n ≤ j1 ∧ j1 < n' ∧ j0 ≠ j1 ∧ v = .agg ⟨[(.int .i64 c.typ), (.int .i64 c.flags), (W c.tsn), (.int .i64 c.stream), (.int .i64 c.ssn), (W c.proto), (.string (c.data.extract 0 (min c.data.size 950))), (W c.tag), (W c.rwnd), (.int .i64 c.outs), (.int .i64 c.ins), (.slice (some ⟨j0, 0, none⟩) (min c.ps.length 18) 0), (.slice (some ⟨j1, 0, none⟩) (min c.cs.length 18) 0), (cutV c.gv (min c.gs.length 18)), (cutV c.dv (min c.ds.length 18))]⟩ ∧ d = [(j0, some (oPrm ((c.ps.take (min c.ps.length 18)).map cutPrm))), (j1, some (oCau ((c.cs.take (min c.cs.length 18)).map cutCau)))]) := by
 have rl0 := (hok.1).lt hd hn0
 have rl1 := (hok.2.1).lt hd hn0
 have rl2 := (hok.2.2.1).lt hd hn0
 have rl3 := (hok.2.2.2).lt hd hn0
 refine CQ.body (E := env) env_ok hd rfl rfl (by show _ ≤ _; exact of_decide_eq_true (by kernel_rfl)) ?_
 refine RA.seq hd ?_
 refine RA.region env_ok ?_
 refine OA.op1 (dst := (some 1)) (v := (Pt n 0 0)) (n1 := (n + 1)) (w := (n, some ⟨[(cChk c)], 15, 50, true⟩)) rfl rfl rfl (r_box (cs := (cChk c)) rfl rfl rfl (Nat.le_of_ble_eq_true rfl) (by simp only [List.all_cons, List.all_nil, Bool.and_true, Bool.and_eq_true, cChk]; exact ⟨rfl, rfl, rfl, rfl, rfl, rfl, rfl, rfl, rfl, rfl, rfl, (hok.1).one, (hok.2.1).one, (hok.2.2.1).one, (hok.2.2.2).one⟩)) (by omega) ?_
 refine OA.op1 (dst := (some 2)) (v := (.pointer (some ⟨(n + 1), 0, some 0⟩))) (n1 := (n + 2)) (w := ((n + 1), some ⟨[xCh9], 15, 50, true⟩)) rfl rfl rfl rfl (by omega) ?_
 refine OA.nil ?_
 intro _
 refine RA.seq hd ?_
 refine RA.region env_ok ?_
 refine OA.p (some 6) (.agg ⟨(xCh10 c)⟩) rfl rfl rfl (r_loadA rfl rfl rfl rfl (get_there (by omega) get_here) rfl rfl rfl) ?_
 refine OA.op1 (dst := (some 3)) (v := (.pointer (some ⟨(n + 2), 0, some 0⟩))) (n1 := (n + 3)) (w := ((n + 2), some ⟨[xCh9], 15, 50, true⟩)) rfl rfl rfl rfl (by omega) ?_
 refine OA.op1 (dst := none) (v := (.tuple #[])) (n1 := (n + 3)) (w := ((n + 2), some ⟨[(xCh10 c)], 15, 50, true⟩)) rfl rfl rfl (r_store (cs := (xCh10 c)) rfl rfl rfl rfl rfl rfl (by simp only [List.all_cons, List.all_nil, Bool.and_true, Bool.and_eq_true]; exact ⟨rfl, rfl, rfl, rfl, rfl, rfl, rfl, rfl, rfl, rfl, rfl, (hok.1).one, (hok.2.1).one, (hok.2.2.1).one, (hok.2.2.2).one⟩) get_here rfl rfl (Nat.le_of_ble_eq_true rfl) rfl) (by omega) ?_
 refine OA.nil ?_
 intro _
 refine RA.weaken (D' := [((n + 2), some ⟨[(xCh10 c)], 15, 50, true⟩), ((n + 1), some ⟨[xCh9], 15, 50, true⟩), (n, some ⟨[(cChk c)], 15, 50, true⟩)]) hd (Less.of (fac (mm (fun _ => get_here) (fun _ => get_here)) (fac (mm (fun _ => (get_there (by omega) get_here)) (fun _ => (gt2 (by omega) get_here))) (fac (mm (fun _ => (gt2 (by omega) get_here)) (fun _ => (gt3 (by omega) get_here))) fan))) (gone_of (by simp only [goneP, memP, List.cons_append, List.nil_append, true_or, or_true, true_and, and_true, or_false] <;> omega))) ?_
 refine RA.seq hd ?_
 refine RA.region env_ok ?_
 refine OA.p (some 7) (Pt n 0 6) rfl rfl rfl rfl ?_
 refine OA.p (some 8) (.string c.data) rfl rfl rfl (r_load1 rfl rfl rfl rfl rfl (gt2 (by omega) get_here) rfl rfl) ?_
 refine OA.p (some 9) (Pt n 0 6) rfl rfl rfl rfl ?_
 refine OA.p (some 10) (.string c.data) rfl rfl rfl (r_load1 rfl rfl rfl rfl rfl (gt2 (by omega) get_here) rfl rfl) ?_
 refine OA.p (some 11) (.int .i64 ((c.data.size : Nat) : Int)) rfl rfl rfl rfl ?_
 refine OA.p (some 12) (.int .i64 (((min c.data.size 950) : Nat) : Int)) rfl rfl rfl (r_min (a := c.data.size) (b := 950) rfl rfl rfl) ?_
 refine OA.p (some 13) (.string (c.data.extract 0 (min c.data.size 950))) rfl rfl rfl (r_cut (a := 0) (b := (min c.data.size 950)) rfl rfl (fun _ => rfl) (fun _ => rfl) rfl rfl rfl bound_nat (by omega) (by omega) rfl) ?_
 refine OA.p (some 14) (.pointer (some ⟨(n + 2), 0, some 6⟩)) rfl rfl rfl rfl ?_
 refine OA.op1 (dst := none) (v := (.tuple #[])) (n1 := (n + 3)) (w := ((n + 2), some ⟨[[(.int .i64 c.typ), (.int .i64 c.flags), (W c.tsn), (.int .i64 c.stream), (.int .i64 c.ssn), (W c.proto), (.string (c.data.extract 0 (min c.data.size 950))), (W c.tag), (W c.rwnd), (.int .i64 c.outs), (.int .i64 c.ins), c.pv, c.cv, c.gv, c.dv]], 15, 50, true⟩)) rfl rfl rfl (r_store rfl rfl rfl rfl rfl rfl rfl get_here rfl rfl (Nat.le_of_ble_eq_true rfl) rfl) (by omega) ?_
 refine OA.nil ?_
 intro _
 refine RA.weaken (D' := [((n + 2), some ⟨[[(.int .i64 c.typ), (.int .i64 c.flags), (W c.tsn), (.int .i64 c.stream), (.int .i64 c.ssn), (W c.proto), (.string (c.data.extract 0 (min c.data.size 950))), (W c.tag), (W c.rwnd), (.int .i64 c.outs), (.int .i64 c.ins), c.pv, c.cv, c.gv, c.dv]], 15, 50, true⟩), ((n + 1), some ⟨[xCh9], 15, 50, true⟩), (n, some ⟨[(cChk c)], 15, 50, true⟩)]) hd (Less.of (fac (mm (fun _ => get_here) (fun _ => get_here)) (fac (mm (fun _ => (get_there (by omega) get_here)) (fun _ => (gt2 (by omega) get_here))) (fac (mm (fun _ => (gt2 (by omega) get_here)) (fun _ => (gt3 (by omega) get_here))) fan))) (gone_of (by simp only [goneP, memP, List.cons_append, List.nil_append, true_or, or_true, true_and, and_true, or_false] <;> omega))) ?_
 refine RA.seq hd ?_
 refine RA.region env_ok ?_
 refine OA.op1 (dst := (some 15)) (v := (.slice (some ⟨(n + 3), 0, none⟩) 0 0)) (n1 := (n + 4)) (w := ((n + 3), some (oPrm ([] : List Prm)))) rfl rfl rfl (by kernel_rfl) (by omega) ?_
 refine OA.op1 (dst := (some 16)) (v := (.slice (some ⟨(n + 4), 0, none⟩) 0 0)) (n1 := (n + 5)) (w := ((n + 4), some (oCau ([] : List Cau)))) rfl rfl rfl (by kernel_rfl) (by omega) ?_
 refine OA.p (some 17) (.pointer (some ⟨(n + 2), 0, some 11⟩)) rfl rfl rfl rfl ?_
 refine OA.op1 (dst := none) (v := (.tuple #[])) (n1 := (n + 5)) (w := ((n + 2), some ⟨[[(.int .i64 c.typ), (.int .i64 c.flags), (W c.tsn), (.int .i64 c.stream), (.int .i64 c.ssn), (W c.proto), (.string (c.data.extract 0 (min c.data.size 950))), (W c.tag), (W c.rwnd), (.int .i64 c.outs), (.int .i64 c.ins), (.slice (some ⟨(n + 3), 0, none⟩) 0 0), c.cv, c.gv, c.dv]], 15, 50, true⟩)) rfl rfl rfl (r_store rfl rfl rfl rfl rfl rfl rfl (gt2 (by omega) get_here) rfl rfl (Nat.le_of_ble_eq_true rfl) rfl) (by omega) ?_
 refine OA.p (some 18) (.pointer (some ⟨(n + 2), 0, some 12⟩)) rfl rfl rfl rfl ?_
 refine OA.op1 (dst := none) (v := (.tuple #[])) (n1 := (n + 5)) (w := ((n + 2), some ⟨[(xCh7 c n)], 15, 50, true⟩)) rfl rfl rfl (r_store rfl rfl rfl rfl rfl rfl rfl get_here rfl rfl (Nat.le_of_ble_eq_true rfl) rfl) (by omega) ?_
 refine OA.nil ?_
 intro _
 refine RA.weaken (D' := [((n + 2), some ⟨[(xCh7 c n)], 15, 50, true⟩), ((n + 4), some (oCau ([] : List Cau))), ((n + 3), some (oPrm ([] : List Prm))), ((n + 1), some ⟨[xCh9], 15, 50, true⟩), (n, some ⟨[(cChk c)], 15, 50, true⟩)]) hd (Less.of (fac (mm (fun _ => get_here) (fun _ => get_here)) (fac (mm (fun _ => (get_there (by omega) get_here)) (fun _ => (gt2 (by omega) get_here))) (fac (mm (fun _ => (gt2 (by omega) get_here)) (fun _ => (gt3 (by omega) get_here))) (fac (mm (fun _ => (gt3 (by omega) get_here)) (fun _ => (gt5 (by omega) get_here))) (fac (mm (fun _ => (gt4 (by omega) get_here)) (fun _ => (gt6 (by omega) get_here))) fan))))) (gone_of (by simp only [goneP, memP, List.cons_append, List.nil_append, true_or, or_true, true_and, and_true, or_false] <;> omega))) ?_
 refine RA.seq hd (RA.imp (Q := fun x τ' n' D' => x = .normal ∧ ((∃ j0 : Nat, Has τ' [(1, (Pt n 0 0)), (2, (.pointer (some ⟨(n + 1), 0, some 0⟩))), (3, (.pointer (some ⟨(n + 2), 0, some 0⟩)))] ∧ (∃ D2, Less n n' D' D2 ∧ D2 = [(n, some ⟨[(cChk c)], 15, 50, true⟩), ((n + 1), some ⟨[xCh9], 15, 50, true⟩), ((n + 2), some ⟨[[(.int .i64 c.typ), (.int .i64 c.flags), (W c.tsn), (.int .i64 c.stream), (.int .i64 c.ssn), (W c.proto), (.string (c.data.extract 0 (min c.data.size 950))), (W c.tag), (W c.rwnd), (.int .i64 c.outs), (.int .i64 c.ins), (.slice (some ⟨j0, 0, none⟩) (min c.ps.length 18) 0), (.slice (some ⟨(n + 4), 0, none⟩) 0 0), c.gv, c.dv]], 15, 50, true⟩), (j0, some (oPrm ((c.ps.take (min c.ps.length 18)).map cutPrm))), ((n + 4), some (oCau ([] : List Cau)))]) ∧ (n + 5) ≤ n' ∧ (∀ i ∈ keys [(n, some ⟨[(cChk c)], 15, 50, true⟩), ((n + 1), some ⟨[xCh9], 15, 50, true⟩), ((n + 2), some ⟨[[(.int .i64 c.typ), (.int .i64 c.flags), (W c.tsn), (.int .i64 c.stream), (.int .i64 c.ssn), (W c.proto), (.string (c.data.extract 0 (min c.data.size 950))), (W c.tag), (W c.rwnd), (.int .i64 c.outs), (.int .i64 c.ins), (.slice (some ⟨j0, 0, none⟩) (min c.ps.length 18) 0), (.slice (some ⟨(n + 4), 0, none⟩) 0 0), c.gv, c.dv]], 15, 50, true⟩), (j0, some (oPrm ((c.ps.take (min c.ps.length 18)).map cutPrm))), ((n + 4), some (oCau ([] : List Cau)))], i < n') ∧ n + 3 ≤ j0 ∧ j0 ≠ n + 4))) ?_ ?_)
 ·
  refine RA.seq hd ?_
  refine RA.region env_ok ?_
  refine OA.p (some 4) (.int .i64 0) rfl rfl rfl rfl ?_
  refine OA.nil ?_
  intro _
  refine RA.block ?_
  refine RA.weaken (D' := [(n, some ⟨[(cChk c)], 15, 50, true⟩), ((n + 1), some ⟨[xCh9], 15, 50, true⟩), ((n + 2), some ⟨[(xCh7 c n)], 15, 50, true⟩), ((n + 3), some (oPrm ([] : List Prm))), ((n + 4), some (oCau ([] : List Cau)))]) hd (Less.of (fac (mm (fun _ => get_here) (fun _ => (gt4 (by omega) get_here))) (fac (mm (fun _ => (get_there (by omega) get_here)) (fun _ => (gt3 (by omega) get_here))) (fac (mm (fun _ => (gt2 (by omega) get_here)) (fun _ => get_here)) (fac (mm (fun _ => (gt3 (by omega) get_here)) (fun _ => (gt2 (by omega) get_here))) (fac (mm (fun _ => (gt4 (by omega) get_here)) (fun _ => (get_there (by omega) get_here))) fan))))) (gone_of (by simp only [goneP, memP, List.cons_append, List.nil_append, true_or, or_true, true_and, and_true, or_false] <;> omega))) ?_
  refine RA.loop hd (fun kk_ τ n' D => (∃ i : Nat, ∃ j : Nat, kk_ = (18 - i) ∧ (n + 5) ≤ n' ∧ Has τ [(1, (Pt n 0 0)), (2, (.pointer (some ⟨(n + 1), 0, some 0⟩))), (3, (.pointer (some ⟨(n + 2), 0, some 0⟩))), (4, (.int .i64 ((i : Nat) : Int)))] ∧ D = [(n, some ⟨[(cChk c)], 15, 50, true⟩), ((n + 1), some ⟨[xCh9], 15, 50, true⟩), ((n + 2), some ⟨[(xCh8 c j i n)], 15, 50, true⟩), (j, some (oPrm ((c.ps.take i).map cutPrm))), ((n + 4), some (oCau ([] : List Cau)))] ∧ (∀ i ∈ keys D, i < n') ∧ i ≤ c.ps.length ∧ i ≤ 18 ∧ n + 3 ≤ j ∧ j ≠ n + 4)) ((18 - 0)) (⟨0, (n + 3), rfl, by omega, ⟨rfl, rfl, rfl, rfl, trivial⟩, rfl, (kb5 (by omega)), ⟨by omega, by omega, by omega, by omega⟩⟩) ?_
  rintro kn1 τ1 n1 _ ⟨i, j, rfl, hn1, hHn1, rfl, hKn1, hIn1⟩
  rw [Has.eq hHn1]
  have hKn1_0 : n < n1 := hKn1 _ (by simp only [keys, List.map_cons, List.map_nil, List.mem_cons, true_or, or_true])
  have hKn1_1 : (n + 1) < n1 := hKn1 _ (by simp only [keys, List.map_cons, List.map_nil, List.mem_cons, true_or, or_true])
  have hKn1_2 : (n + 2) < n1 := hKn1 _ (by simp only [keys, List.map_cons, List.map_nil, List.mem_cons, true_or, or_true])
  have hKn1_3 : j < n1 := hKn1 _ (by simp only [keys, List.map_cons, List.map_nil, List.mem_cons, true_or, or_true])
  have hKn1_4 : (n + 4) < n1 := hKn1 _ (by simp only [keys, List.map_cons, List.map_nil, List.mem_cons, true_or, or_true])
  clear hKn1
  obtain ⟨hi1, hi2, hj1, hj2⟩ := hIn1
  refine RA.seq hd ?_
  refine RA.seq hd ?_
  refine RA.region env_ok ?_
  refine OA.p (some 19) (.int .i64 ((i : Nat) : Int)) rfl rfl rfl rfl ?_
  refine OA.p (some 20) (Pt n 0 11) rfl rfl rfl rfl ?_
  refine OA.p (some 21) c.pv rfl rfl rfl (r_load1 rfl rfl rfl rfl rfl get_here rfl rfl) ?_
  refine OA.p (some 22) (.int .i64 ((c.ps.length : Nat) : Int)) rfl rfl rfl (r_lenP (c := cPrm) rfl rfl rfl rfl rfl rfl hok.1 rfl) ?_
  by_cases hc1 : ((i : Nat) : Int) < ((c.ps.length : Nat) : Int)
  ·
   obtain ⟨rps, hatps⟩ := hok.1.get (m := i) (by omega)
   have lathatps := hd.lt hatps
   refine OA.p (some 23) (.bool true) rfl rfl rfl (Eq.trans (r_bin rfl rfl rfl (b_lss rfl)) (dT hc1)) ?_
   refine OA.p (some 24) (.bool true) rfl rfl rfl rfl ?_
   refine OA.p (some 25) (.int .i64 ((i : Nat) : Int)) rfl rfl rfl rfl ?_
   by_cases hc2 : ((i : Nat) : Int) < 18
   ·
    refine OA.p (some 26) (.bool true) rfl rfl rfl (Eq.trans (r_bin rfl rfl rfl (b_lss rfl)) (dT hc2)) ?_
    refine OA.p (some 27) (.bool true) rfl rfl rfl rfl ?_
    refine OA.nil ?_
    intro _
    refine RA.condT rfl ?_
    refine RA.skip env_ok ?_
    intro _
    refine RA.seq hd ?_
    refine RA.block ?_
    refine RA.par (md := [some [], some [(n + 2)], some [], some [n], some [], none, some [], none, some [], some [n], some [], none, some [], none, some [], some [n], some [], none, some [], none, some [], some [], some [], some [], some [], none, some [], none]) env_ok (hd.of (by omega) (kb5 (by omega))) (by kernel_rfl) ?_
    refine PQ.pure (dst := (some 30)) (v := (.pointer (some ⟨(n + 2), 0, some 11⟩))) rfl rfl rfl noStore (none_ok _ _) rfl ?_
    refine PQ.pure (dst := (some 31)) (v := (.slice (some ⟨j, 0, none⟩) i 0)) rfl rfl rfl (app [((n + 2), some ⟨[(xCh8 c j i n)], 15, 50, true⟩)] noStore) (seen_one (V := []) (D := [(n, some ⟨[(cChk c)], 15, 50, true⟩), ((n + 1), some ⟨[xCh9], 15, 50, true⟩), ((n + 2), some ⟨[(xCh8 c j i n)], 15, 50, true⟩), (j, some (oPrm ((c.ps.take i).map cutPrm))), ((n + 4), some (oCau ([] : List Cau)))]) (by kernel_rfl) (gt2 (by omega) get_here)) (r_load1 rfl rfl rfl rfl rfl get_here rfl rfl) ?_
    refine PQ.pure (dst := (some 32)) (v := (Pt n 0 11)) rfl rfl rfl noStore (none_ok _ _) rfl ?_
    refine PQ.pure (dst := (some 33)) (v := c.pv) rfl rfl rfl (app [(n, some ⟨[(cChk c)], 15, 50, true⟩)] noStore) (seen_one (V := []) (D := [(n, some ⟨[(cChk c)], 15, 50, true⟩), ((n + 1), some ⟨[xCh9], 15, 50, true⟩), ((n + 2), some ⟨[(xCh8 c j i n)], 15, 50, true⟩), (j, some (oPrm ((c.ps.take i).map cutPrm))), ((n + 4), some (oCau ([] : List Cau)))]) (by kernel_rfl) get_here) (r_load1 rfl rfl rfl rfl rfl get_here rfl rfl) ?_
    refine PQ.pure (dst := (some 34)) (v := (.int .i64 ((i : Nat) : Int))) rfl rfl rfl noStore (none_ok _ _) rfl ?_
    refine PQ.pure (dst := (some 35)) (v := (.pointer (some ⟨(rk c.pv), i, some 0⟩))) rfl rfl rfl _ (seen_any (V := []) (D := [(n, some ⟨[(cChk c)], 15, 50, true⟩), ((n + 1), some ⟨[xCh9], 15, 50, true⟩), ((n + 2), some ⟨[(xCh8 c j i n)], 15, 50, true⟩), (j, some (oPrm ((c.ps.take i).map cutPrm))), ((n + 4), some (oCau ([] : List Cau)))]) (by kernel_rfl)) (r_iaP (c := cPrm) (m := i) rfl rfl rfl rfl rfl rfl hok.1 rfl (by omega) (gt5 (by omega) hatps) rfl) ?_
    refine PQ.pure (dst := (some 36)) (v := (.pointer (some ⟨(rk c.pv), i, some 0⟩))) rfl rfl rfl noStore (none_ok _ _) rfl ?_
    refine PQ.pure (dst := (some 37)) (v := (.int .i64 (c.ps.getD i dPrm).typ)) rfl rfl rfl _ (seen_any (V := []) (D := [(n, some ⟨[(cChk c)], 15, 50, true⟩), ((n + 1), some ⟨[xCh9], 15, 50, true⟩), ((n + 2), some ⟨[(xCh8 c j i n)], 15, 50, true⟩), (j, some (oPrm ((c.ps.take i).map cutPrm))), ((n + 4), some (oCau ([] : List Cau)))]) (by kernel_rfl)) (r_load1 (e := cPrm (c.ps.getD i dPrm)) rfl rfl rfl rfl rfl (gt5 (by omega) hatps) (mp_getA (by omega)) rfl) ?_
    refine PQ.pure (dst := (some 38)) (v := (Pt n 0 11)) rfl rfl rfl noStore (none_ok _ _) rfl ?_
    refine PQ.pure (dst := (some 39)) (v := c.pv) rfl rfl rfl (app [(n, some ⟨[(cChk c)], 15, 50, true⟩)] noStore) (seen_one (V := []) (D := [(n, some ⟨[(cChk c)], 15, 50, true⟩), ((n + 1), some ⟨[xCh9], 15, 50, true⟩), ((n + 2), some ⟨[(xCh8 c j i n)], 15, 50, true⟩), (j, some (oPrm ((c.ps.take i).map cutPrm))), ((n + 4), some (oCau ([] : List Cau)))]) (by kernel_rfl) get_here) (r_load1 rfl rfl rfl rfl rfl get_here rfl rfl) ?_
    refine PQ.pure (dst := (some 40)) (v := (.int .i64 ((i : Nat) : Int))) rfl rfl rfl noStore (none_ok _ _) rfl ?_
    refine PQ.pure (dst := (some 41)) (v := (.pointer (some ⟨(rk c.pv), i, some 0⟩))) rfl rfl rfl _ (seen_any (V := []) (D := [(n, some ⟨[(cChk c)], 15, 50, true⟩), ((n + 1), some ⟨[xCh9], 15, 50, true⟩), ((n + 2), some ⟨[(xCh8 c j i n)], 15, 50, true⟩), (j, some (oPrm ((c.ps.take i).map cutPrm))), ((n + 4), some (oCau ([] : List Cau)))]) (by kernel_rfl)) (r_iaP (c := cPrm) (m := i) rfl rfl rfl rfl rfl rfl hok.1 rfl (by omega) (gt5 (by omega) hatps) rfl) ?_
    refine PQ.pure (dst := (some 42)) (v := (.pointer (some ⟨(rk c.pv), i, some 1⟩))) rfl rfl rfl noStore (none_ok _ _) rfl ?_
    refine PQ.pure (dst := (some 43)) (v := (.string (c.ps.getD i dPrm).val)) rfl rfl rfl _ (seen_any (V := []) (D := [(n, some ⟨[(cChk c)], 15, 50, true⟩), ((n + 1), some ⟨[xCh9], 15, 50, true⟩), ((n + 2), some ⟨[(xCh8 c j i n)], 15, 50, true⟩), (j, some (oPrm ((c.ps.take i).map cutPrm))), ((n + 4), some (oCau ([] : List Cau)))]) (by kernel_rfl)) (r_load1 (e := cPrm (c.ps.getD i dPrm)) rfl rfl rfl rfl rfl (gt5 (by omega) hatps) (mp_getA (by omega)) rfl) ?_
    refine PQ.pure (dst := (some 44)) (v := (Pt n 0 11)) rfl rfl rfl noStore (none_ok _ _) rfl ?_
    refine PQ.pure (dst := (some 45)) (v := c.pv) rfl rfl rfl (app [(n, some ⟨[(cChk c)], 15, 50, true⟩)] noStore) (seen_one (V := []) (D := [(n, some ⟨[(cChk c)], 15, 50, true⟩), ((n + 1), some ⟨[xCh9], 15, 50, true⟩), ((n + 2), some ⟨[(xCh8 c j i n)], 15, 50, true⟩), (j, some (oPrm ((c.ps.take i).map cutPrm))), ((n + 4), some (oCau ([] : List Cau)))]) (by kernel_rfl) get_here) (r_load1 rfl rfl rfl rfl rfl get_here rfl rfl) ?_
    refine PQ.pure (dst := (some 46)) (v := (.int .i64 ((i : Nat) : Int))) rfl rfl rfl noStore (none_ok _ _) rfl ?_
    refine PQ.pure (dst := (some 47)) (v := (.pointer (some ⟨(rk c.pv), i, some 0⟩))) rfl rfl rfl _ (seen_any (V := []) (D := [(n, some ⟨[(cChk c)], 15, 50, true⟩), ((n + 1), some ⟨[xCh9], 15, 50, true⟩), ((n + 2), some ⟨[(xCh8 c j i n)], 15, 50, true⟩), (j, some (oPrm ((c.ps.take i).map cutPrm))), ((n + 4), some (oCau ([] : List Cau)))]) (by kernel_rfl)) (r_iaP (c := cPrm) (m := i) rfl rfl rfl rfl rfl rfl hok.1 rfl (by omega) (gt5 (by omega) hatps) rfl) ?_
    refine PQ.pure (dst := (some 48)) (v := (.pointer (some ⟨(rk c.pv), i, some 1⟩))) rfl rfl rfl noStore (none_ok _ _) rfl ?_
    refine PQ.pure (dst := (some 49)) (v := (.string (c.ps.getD i dPrm).val)) rfl rfl rfl _ (seen_any (V := []) (D := [(n, some ⟨[(cChk c)], 15, 50, true⟩), ((n + 1), some ⟨[xCh9], 15, 50, true⟩), ((n + 2), some ⟨[(xCh8 c j i n)], 15, 50, true⟩), (j, some (oPrm ((c.ps.take i).map cutPrm))), ((n + 4), some (oCau ([] : List Cau)))]) (by kernel_rfl)) (r_load1 (e := cPrm (c.ps.getD i dPrm)) rfl rfl rfl rfl rfl (gt5 (by omega) hatps) (mp_getA (by omega)) rfl) ?_
    refine PQ.pure (dst := (some 50)) (v := (.int .i64 (((c.ps.getD i dPrm).val.size : Nat) : Int))) rfl rfl rfl noStore (none_ok _ _) rfl ?_
    refine PQ.pure (dst := (some 51)) (v := (.int .i64 (((min (c.ps.getD i dPrm).val.size 60) : Nat) : Int))) rfl rfl rfl noStore (none_ok _ _) (r_min (a := (c.ps.getD i dPrm).val.size) (b := 60) rfl rfl rfl) ?_
    refine PQ.pure (dst := (some 52)) (v := (.string ((c.ps.getD i dPrm).val.extract 0 (min (c.ps.getD i dPrm).val.size 60)))) rfl rfl rfl noStore (none_ok _ _) (r_cut (a := 0) (b := (min (c.ps.getD i dPrm).val.size 60)) rfl rfl (fun _ => rfl) (fun _ => rfl) rfl rfl rfl bound_nat (by omega) (by omega) rfl) ?_
    refine PQ.pure (dst := (some 53)) (v := (.agg ⟨(xCh12 c i)⟩)) rfl rfl rfl noStore (none_ok _ _) (by kernel_rfl) ?_
    refine PQ.op (dst := (some 54)) (v := (.slice (some ⟨n1, 0, none⟩) 1 0)) (n1 := (n1 + 1)) (d1 := [(n1, some ⟨[(xCh12 c i)], 2, 143, true⟩)]) rfl rfl rfl noStore (none_ok _ _) (by kernel_rfl) (by omega) (kp1 (wr_new (by omega) (by omega))) ?_
    refine PQ.op (dst := (some 55)) (v := (.slice (some ⟨(n1 + 1), 0, none⟩) (i + 1) 0)) (n1 := (n1 + 2)) (d1 := [((n1 + 1), some (oPrm ((c.ps.take (i + 1)).map cutPrm))), (j, none)]) rfl rfl rfl _ (seen_any (V := [(n1, some ⟨[(xCh12 c i)], 2, 143, true⟩)]) (D := [(n, some ⟨[(cChk c)], 15, 50, true⟩), ((n + 1), some ⟨[xCh9], 15, 50, true⟩), ((n + 2), some ⟨[(xCh8 c j i n)], 15, 50, true⟩), (j, some (oPrm ((c.ps.take i).map cutPrm))), ((n + 4), some (oCau ([] : List Cau)))]) (by kernel_rfl)) (r_appendR (c := cPrm) (l' := ((c.ps.take (i + 1)).map cutPrm)) rfl rfl rfl rfl rfl rfl rfl rfl rfl rfl (by decide) (gt4 (by omega) get_here) get_here (by rw [cutPrm_len (by omega)]) (cutPrm_snoc (by omega)) (by omega) (of_decide_eq_true (by kernel_rfl)) (by omega)) (by omega) (kp2 (wr_new (by omega) (by omega)) (wr_tight (by kernel_rfl) (by omega))) ?_
    refine PQ.pure (dst := (some 56)) (v := (.pointer (some ⟨(n + 2), 0, some 11⟩))) rfl rfl rfl noStore (none_ok _ _) rfl ?_
    refine PQ.op (dst := none) (v := (.tuple #[])) (n1 := (n1 + 2)) (d1 := [((n + 2), some ⟨[(xCh6 c n1 i n)], 15, 50, true⟩)]) rfl rfl rfl _ (seen_any (V := [((n1 + 1), some (oPrm ((c.ps.take (i + 1)).map cutPrm))), (j, none), (n1, some ⟨[(xCh12 c i)], 2, 143, true⟩)]) (D := [(n, some ⟨[(cChk c)], 15, 50, true⟩), ((n + 1), some ⟨[xCh9], 15, 50, true⟩), ((n + 2), some ⟨[(xCh8 c j i n)], 15, 50, true⟩), (j, some (oPrm ((c.ps.take i).map cutPrm))), ((n + 4), some (oCau ([] : List Cau)))]) (by kernel_rfl)) (r_store rfl rfl rfl rfl rfl rfl rfl (gt5 (by omega) get_here) rfl rfl (Nat.le_of_ble_eq_true rfl) rfl) (by omega) (kp1 (wr_tight (by kernel_rfl) (by omega))) ?_
    refine PQ.done (d := [((n + 2), some ⟨[(xCh6 c n1 i n)], 15, 50, true⟩), ((n1 + 1), some (oPrm ((c.ps.take (i + 1)).map cutPrm))), (j, none), (n1, some ⟨[(xCh12 c i)], 2, 143, true⟩)]) (by kernel_rfl) ?_
    intro _
    refine RA.weaken (D' := [((n + 2), some ⟨[(xCh6 c n1 i n)], 15, 50, true⟩), ((n1 + 1), some (oPrm ((c.ps.take (i + 1)).map cutPrm))), (j, none), (n1, some ⟨[(xCh12 c i)], 2, 143, true⟩), (n, some ⟨[(cChk c)], 15, 50, true⟩), ((n + 1), some ⟨[xCh9], 15, 50, true⟩), ((n + 4), some (oCau ([] : List Cau)))]) hd (Less.of (fac (mm (fun _ => get_here) (fun _ => get_here)) (fac (mm (fun _ => (get_there (by omega) get_here)) (fun _ => (get_there (by omega) get_here))) (fac (mm (fun _ => (gt2 (by omega) get_here)) (fun _ => (gt2 (by omega) get_here))) (fac (mm (fun _ => (gt3 (by omega) get_here)) (fun _ => (gt3 (by omega) get_here))) (fac (mm (fun _ => (gt4 (by omega) get_here)) (fun _ => (gt4 (by omega) get_here))) (fac (mm (fun _ => (gt5 (by omega) get_here)) (fun _ => (gt5 (by omega) get_here))) (fac (mm (fun _ => (gt6 (by omega) get_here)) (fun _ => (gt8 (by omega) get_here))) fan))))))) (gone_of (by simp only [goneP, memP, List.cons_append, List.nil_append, true_or, or_true, true_and, and_true, or_false] <;> omega))) ?_
    refine RA.rebase [(1, (Pt n 0 0)), (2, (.pointer (some ⟨(n + 1), 0, some 0⟩))), (3, (.pointer (some ⟨(n + 2), 0, some 0⟩))), (4, (.int .i64 ((i : Nat) : Int))), (27, (.bool true))] ⟨rfl, rfl, rfl, rfl, rfl, trivial⟩ (fun τr2 => ?_)
    refine RA.region env_ok ?_
    refine OA.p (some 28) (.int .i64 ((i : Nat) : Int)) rfl rfl rfl rfl ?_
    refine OA.p (some 29) (.int .i64 (((i + 1) : Nat) : Int)) rfl rfl rfl (r_bin rfl rfl rfl (b_add (i64_eq (by omega)))) ?_
    refine OA.p (some 4) (.int .i64 (((i + 1) : Nat) : Int)) rfl rfl rfl rfl ?_
    refine OA.nil ?_
    refine ⟨(18 - (i + 1)), by omega, [(n, some ⟨[(cChk c)], 15, 50, true⟩), ((n + 1), some ⟨[xCh9], 15, 50, true⟩), ((n + 2), some ⟨[(xCh6 c n1 i n)], 15, 50, true⟩), ((n1 + 1), some (oPrm ((c.ps.take (i + 1)).map cutPrm))), ((n + 4), some (oCau ([] : List Cau)))], (Less.of (fac (mm (fun _ => get_here) (fun _ => (gt4 (by omega) get_here))) (fac (mm (fun _ => (get_there (by omega) get_here)) (fun _ => (gt5 (by omega) get_here))) (fac (mm (fun _ => (gt2 (by omega) get_here)) (fun _ => get_here)) (fac (mm (fun _ => (gt3 (by omega) get_here)) (fun _ => (get_there (by omega) get_here))) (fac (mm (fun _ => (gt4 (by omega) get_here)) (fun _ => (gt6 (by omega) get_here))) fan))))) (gone_of (by simp only [goneP, memP, List.cons_append, List.nil_append, true_or, or_true, true_and, and_true, or_false] <;> omega))), ⟨(i + 1), (n1 + 1), rfl, by omega, ⟨rfl, rfl, rfl, rfl, trivial⟩, rfl, (kb5 (by omega)), ⟨by omega, by omega, by omega, by omega⟩⟩⟩
   ·
    refine OA.p (some 26) (.bool false) rfl rfl rfl (Eq.trans (r_bin rfl rfl rfl (b_lss rfl)) (dF hc2)) ?_
    refine OA.p (some 27) (.bool false) rfl rfl rfl rfl ?_
    refine OA.nil ?_
    intro _
    refine RA.condF rfl ?_
    refine RA.exit env_ok ?_
    exact ⟨rfl, ⟨j, ⟨rfl, rfl, rfl, trivial⟩, ⟨[(n, some ⟨[(cChk c)], 15, 50, true⟩), ((n + 1), some ⟨[xCh9], 15, 50, true⟩), ((n + 2), some ⟨[(xCh8 c j i n)], 15, 50, true⟩), (j, some (oPrm ((c.ps.take i).map cutPrm))), ((n + 4), some (oCau ([] : List Cau)))], (Less.refl _ _ _), (by rw [show i = (min c.ps.length 18) from by omega])⟩, by omega, (kb5 (by omega)), ⟨by omega, by omega⟩⟩⟩
  ·
   refine OA.p (some 23) (.bool false) rfl rfl rfl (Eq.trans (r_bin rfl rfl rfl (b_lss rfl)) (dF hc1)) ?_
   refine OA.p (some 24) (.bool false) rfl rfl rfl rfl ?_
   refine OA.off (dst := (some 25)) rfl rfl rfl ?_
   refine OA.off (dst := (some 26)) rfl rfl rfl ?_
   refine OA.p (some 27) (.bool false) rfl rfl rfl rfl ?_
   refine OA.nil ?_
   intro _
   refine RA.condF rfl ?_
   refine RA.exit env_ok ?_
   exact ⟨rfl, ⟨j, ⟨rfl, rfl, rfl, trivial⟩, ⟨[(n, some ⟨[(cChk c)], 15, 50, true⟩), ((n + 1), some ⟨[xCh9], 15, 50, true⟩), ((n + 2), some ⟨[(xCh8 c j i n)], 15, 50, true⟩), (j, some (oPrm ((c.ps.take i).map cutPrm))), ((n + 4), some (oCau ([] : List Cau)))], (Less.refl _ _ _), (by rw [show i = (min c.ps.length 18) from by omega])⟩, by omega, (kb5 (by omega)), ⟨by omega, by omega⟩⟩⟩
 ·
  rintro _ τ3 n3 Dn3 hmn3 ⟨rfl, hSn3⟩
  rcases hSn3 with ⟨j0, hHn3, ⟨_, hLn3, rfl⟩, hn3, hKn3, hIn3⟩
  intro _
  refine RA.weaken hd hLn3 ?_
  rw [Has.eq hHn3]
  have hKn3_0 : n < n3 := hKn3 _ (by simp only [keys, List.map_cons, List.map_nil, List.mem_cons, true_or, or_true])
  have hKn3_1 : (n + 1) < n3 := hKn3 _ (by simp only [keys, List.map_cons, List.map_nil, List.mem_cons, true_or, or_true])
  have hKn3_2 : (n + 2) < n3 := hKn3 _ (by simp only [keys, List.map_cons, List.map_nil, List.mem_cons, true_or, or_true])
  have hKn3_3 : j0 < n3 := hKn3 _ (by simp only [keys, List.map_cons, List.map_nil, List.mem_cons, true_or, or_true])
  have hKn3_4 : (n + 4) < n3 := hKn3 _ (by simp only [keys, List.map_cons, List.map_nil, List.mem_cons, true_or, or_true])
  clear hKn3
  obtain ⟨hj1, hj2⟩ := hIn3
  refine RA.seq hd (RA.imp (Q := fun x τ' n' D' => x = .normal ∧ ((∃ j1 : Nat, Has τ' [(1, (Pt n 0 0)), (2, (.pointer (some ⟨(n + 1), 0, some 0⟩))), (3, (.pointer (some ⟨(n + 2), 0, some 0⟩)))] ∧ (∃ D2, Less n n' D' D2 ∧ D2 = [(n, some ⟨[(cChk c)], 15, 50, true⟩), ((n + 1), some ⟨[xCh9], 15, 50, true⟩), ((n + 2), some ⟨[(xCh3 c j0 j1)], 15, 50, true⟩), (j0, some (oPrm ((c.ps.take (min c.ps.length 18)).map cutPrm))), (j1, some (oCau ((c.cs.take (min c.cs.length 18)).map cutCau)))]) ∧ n3 ≤ n' ∧ (∀ i ∈ keys [(n, some ⟨[(cChk c)], 15, 50, true⟩), ((n + 1), some ⟨[xCh9], 15, 50, true⟩), ((n + 2), some ⟨[(xCh3 c j0 j1)], 15, 50, true⟩), (j0, some (oPrm ((c.ps.take (min c.ps.length 18)).map cutPrm))), (j1, some (oCau ((c.cs.take (min c.cs.length 18)).map cutCau)))], i < n') ∧ n + 3 ≤ j1 ∧ j0 ≠ j1))) ?_ ?_)
  ·
   refine RA.seq hd ?_
   refine RA.region env_ok ?_
   refine OA.p (some 5) (.int .i64 0) rfl rfl rfl rfl ?_
   refine OA.nil ?_
   intro _
   refine RA.block ?_
   refine RA.loop hd (fun kk_ τ n' D => (∃ i : Nat, ∃ j : Nat, kk_ = (18 - i) ∧ n3 ≤ n' ∧ Has τ [(1, (Pt n 0 0)), (2, (.pointer (some ⟨(n + 1), 0, some 0⟩))), (3, (.pointer (some ⟨(n + 2), 0, some 0⟩))), (5, (.int .i64 ((i : Nat) : Int)))] ∧ D = [(n, some ⟨[(cChk c)], 15, 50, true⟩), ((n + 1), some ⟨[xCh9], 15, 50, true⟩), ((n + 2), some ⟨[(xCh5 c j0 j i)], 15, 50, true⟩), (j0, some (oPrm ((c.ps.take (min c.ps.length 18)).map cutPrm))), (j, some (oCau ((c.cs.take i).map cutCau)))] ∧ (∀ i ∈ keys D, i < n') ∧ i ≤ c.cs.length ∧ i ≤ 18 ∧ n + 3 ≤ j ∧ j0 ≠ j)) ((18 - 0)) (⟨0, (n + 4), rfl, by omega, ⟨rfl, rfl, rfl, rfl, trivial⟩, rfl, (kb5 (by omega)), ⟨by omega, by omega, by omega, by omega⟩⟩) ?_
   rintro kn4 τ4 n4 _ ⟨i, j, rfl, hn4, hHn4, rfl, hKn4, hIn4⟩
   rw [Has.eq hHn4]
   have hKn4_0 : n < n4 := hKn4 _ (by simp only [keys, List.map_cons, List.map_nil, List.mem_cons, true_or, or_true])
   have hKn4_1 : (n + 1) < n4 := hKn4 _ (by simp only [keys, List.map_cons, List.map_nil, List.mem_cons, true_or, or_true])
   have hKn4_2 : (n + 2) < n4 := hKn4 _ (by simp only [keys, List.map_cons, List.map_nil, List.mem_cons, true_or, or_true])
   have hKn4_3 : j0 < n4 := hKn4 _ (by simp only [keys, List.map_cons, List.map_nil, List.mem_cons, true_or, or_true])
   have hKn4_4 : j < n4 := hKn4 _ (by simp only [keys, List.map_cons, List.map_nil, List.mem_cons, true_or, or_true])
   clear hKn4
   obtain ⟨hi1, hi2, hj3, hj4⟩ := hIn4
   refine RA.seq hd ?_
   refine RA.seq hd ?_
   refine RA.region env_ok ?_
   refine OA.p (some 57) (.int .i64 ((i : Nat) : Int)) rfl rfl rfl rfl ?_
   refine OA.p (some 58) (Pt n 0 12) rfl rfl rfl rfl ?_
   refine OA.p (some 59) c.cv rfl rfl rfl (r_load1 rfl rfl rfl rfl rfl get_here rfl rfl) ?_
   refine OA.p (some 60) (.int .i64 ((c.cs.length : Nat) : Int)) rfl rfl rfl (r_lenP (c := cCau) rfl rfl rfl rfl rfl rfl hok.2.1 rfl) ?_
   by_cases hc3 : ((i : Nat) : Int) < ((c.cs.length : Nat) : Int)
   ·
    obtain ⟨rcs, hatcs⟩ := hok.2.1.get (m := i) (by omega)
    have lathatcs := hd.lt hatcs
    refine OA.p (some 61) (.bool true) rfl rfl rfl (Eq.trans (r_bin rfl rfl rfl (b_lss rfl)) (dT hc3)) ?_
    refine OA.p (some 62) (.bool true) rfl rfl rfl rfl ?_
    refine OA.p (some 63) (.int .i64 ((i : Nat) : Int)) rfl rfl rfl rfl ?_
    by_cases hc4 : ((i : Nat) : Int) < 18
    ·
     refine OA.p (some 64) (.bool true) rfl rfl rfl (Eq.trans (r_bin rfl rfl rfl (b_lss rfl)) (dT hc4)) ?_
     refine OA.p (some 65) (.bool true) rfl rfl rfl rfl ?_
     refine OA.nil ?_
     intro _
     refine RA.condT rfl ?_
     refine RA.skip env_ok ?_
     intro _
     refine RA.seq hd ?_
     refine RA.block ?_
     refine RA.par (md := [some [], some [(n + 2)], some [], some [n], some [], none, some [], none, some [], some [n], some [], none, some [], none, some [], some [n], some [], none, some [], none, some [], some [], some [], some [], some [], none, some [], none]) env_ok (hd.of (by omega) (kb5 (by omega))) (by kernel_rfl) ?_
     refine PQ.pure (dst := (some 68)) (v := (.pointer (some ⟨(n + 2), 0, some 12⟩))) rfl rfl rfl noStore (none_ok _ _) rfl ?_
     refine PQ.pure (dst := (some 69)) (v := (.slice (some ⟨j, 0, none⟩) i 0)) rfl rfl rfl (app [((n + 2), some ⟨[(xCh5 c j0 j i)], 15, 50, true⟩)] noStore) (seen_one (V := []) (D := [(n, some ⟨[(cChk c)], 15, 50, true⟩), ((n + 1), some ⟨[xCh9], 15, 50, true⟩), ((n + 2), some ⟨[(xCh5 c j0 j i)], 15, 50, true⟩), (j0, some (oPrm ((c.ps.take (min c.ps.length 18)).map cutPrm))), (j, some (oCau ((c.cs.take i).map cutCau)))]) (by kernel_rfl) (gt2 (by omega) get_here)) (r_load1 rfl rfl rfl rfl rfl get_here rfl rfl) ?_
     refine PQ.pure (dst := (some 70)) (v := (Pt n 0 12)) rfl rfl rfl noStore (none_ok _ _) rfl ?_
     refine PQ.pure (dst := (some 71)) (v := c.cv) rfl rfl rfl (app [(n, some ⟨[(cChk c)], 15, 50, true⟩)] noStore) (seen_one (V := []) (D := [(n, some ⟨[(cChk c)], 15, 50, true⟩), ((n + 1), some ⟨[xCh9], 15, 50, true⟩), ((n + 2), some ⟨[(xCh5 c j0 j i)], 15, 50, true⟩), (j0, some (oPrm ((c.ps.take (min c.ps.length 18)).map cutPrm))), (j, some (oCau ((c.cs.take i).map cutCau)))]) (by kernel_rfl) get_here) (r_load1 rfl rfl rfl rfl rfl get_here rfl rfl) ?_
     refine PQ.pure (dst := (some 72)) (v := (.int .i64 ((i : Nat) : Int))) rfl rfl rfl noStore (none_ok _ _) rfl ?_
     refine PQ.pure (dst := (some 73)) (v := (.pointer (some ⟨(rk c.cv), i, some 0⟩))) rfl rfl rfl _ (seen_any (V := []) (D := [(n, some ⟨[(cChk c)], 15, 50, true⟩), ((n + 1), some ⟨[xCh9], 15, 50, true⟩), ((n + 2), some ⟨[(xCh5 c j0 j i)], 15, 50, true⟩), (j0, some (oPrm ((c.ps.take (min c.ps.length 18)).map cutPrm))), (j, some (oCau ((c.cs.take i).map cutCau)))]) (by kernel_rfl)) (r_iaP (c := cCau) (m := i) rfl rfl rfl rfl rfl rfl hok.2.1 rfl (by omega) (gt5 (by omega) hatcs) rfl) ?_
     refine PQ.pure (dst := (some 74)) (v := (.pointer (some ⟨(rk c.cv), i, some 0⟩))) rfl rfl rfl noStore (none_ok _ _) rfl ?_
     refine PQ.pure (dst := (some 75)) (v := (.int .i64 (c.cs.getD i dCau).code)) rfl rfl rfl _ (seen_any (V := []) (D := [(n, some ⟨[(cChk c)], 15, 50, true⟩), ((n + 1), some ⟨[xCh9], 15, 50, true⟩), ((n + 2), some ⟨[(xCh5 c j0 j i)], 15, 50, true⟩), (j0, some (oPrm ((c.ps.take (min c.ps.length 18)).map cutPrm))), (j, some (oCau ((c.cs.take i).map cutCau)))]) (by kernel_rfl)) (r_load1 (e := cCau (c.cs.getD i dCau)) rfl rfl rfl rfl rfl (gt5 (by omega) hatcs) (mp_getA (by omega)) rfl) ?_
     refine PQ.pure (dst := (some 76)) (v := (Pt n 0 12)) rfl rfl rfl noStore (none_ok _ _) rfl ?_
     refine PQ.pure (dst := (some 77)) (v := c.cv) rfl rfl rfl (app [(n, some ⟨[(cChk c)], 15, 50, true⟩)] noStore) (seen_one (V := []) (D := [(n, some ⟨[(cChk c)], 15, 50, true⟩), ((n + 1), some ⟨[xCh9], 15, 50, true⟩), ((n + 2), some ⟨[(xCh5 c j0 j i)], 15, 50, true⟩), (j0, some (oPrm ((c.ps.take (min c.ps.length 18)).map cutPrm))), (j, some (oCau ((c.cs.take i).map cutCau)))]) (by kernel_rfl) get_here) (r_load1 rfl rfl rfl rfl rfl get_here rfl rfl) ?_
     refine PQ.pure (dst := (some 78)) (v := (.int .i64 ((i : Nat) : Int))) rfl rfl rfl noStore (none_ok _ _) rfl ?_
     refine PQ.pure (dst := (some 79)) (v := (.pointer (some ⟨(rk c.cv), i, some 0⟩))) rfl rfl rfl _ (seen_any (V := []) (D := [(n, some ⟨[(cChk c)], 15, 50, true⟩), ((n + 1), some ⟨[xCh9], 15, 50, true⟩), ((n + 2), some ⟨[(xCh5 c j0 j i)], 15, 50, true⟩), (j0, some (oPrm ((c.ps.take (min c.ps.length 18)).map cutPrm))), (j, some (oCau ((c.cs.take i).map cutCau)))]) (by kernel_rfl)) (r_iaP (c := cCau) (m := i) rfl rfl rfl rfl rfl rfl hok.2.1 rfl (by omega) (gt5 (by omega) hatcs) rfl) ?_
     refine PQ.pure (dst := (some 80)) (v := (.pointer (some ⟨(rk c.cv), i, some 1⟩))) rfl rfl rfl noStore (none_ok _ _) rfl ?_
     refine PQ.pure (dst := (some 81)) (v := (.string (c.cs.getD i dCau).info)) rfl rfl rfl _ (seen_any (V := []) (D := [(n, some ⟨[(cChk c)], 15, 50, true⟩), ((n + 1), some ⟨[xCh9], 15, 50, true⟩), ((n + 2), some ⟨[(xCh5 c j0 j i)], 15, 50, true⟩), (j0, some (oPrm ((c.ps.take (min c.ps.length 18)).map cutPrm))), (j, some (oCau ((c.cs.take i).map cutCau)))]) (by kernel_rfl)) (r_load1 (e := cCau (c.cs.getD i dCau)) rfl rfl rfl rfl rfl (gt5 (by omega) hatcs) (mp_getA (by omega)) rfl) ?_
     refine PQ.pure (dst := (some 82)) (v := (Pt n 0 12)) rfl rfl rfl noStore (none_ok _ _) rfl ?_
     refine PQ.pure (dst := (some 83)) (v := c.cv) rfl rfl rfl (app [(n, some ⟨[(cChk c)], 15, 50, true⟩)] noStore) (seen_one (V := []) (D := [(n, some ⟨[(cChk c)], 15, 50, true⟩), ((n + 1), some ⟨[xCh9], 15, 50, true⟩), ((n + 2), some ⟨[(xCh5 c j0 j i)], 15, 50, true⟩), (j0, some (oPrm ((c.ps.take (min c.ps.length 18)).map cutPrm))), (j, some (oCau ((c.cs.take i).map cutCau)))]) (by kernel_rfl) get_here) (r_load1 rfl rfl rfl rfl rfl get_here rfl rfl) ?_
     refine PQ.pure (dst := (some 84)) (v := (.int .i64 ((i : Nat) : Int))) rfl rfl rfl noStore (none_ok _ _) rfl ?_
     refine PQ.pure (dst := (some 85)) (v := (.pointer (some ⟨(rk c.cv), i, some 0⟩))) rfl rfl rfl _ (seen_any (V := []) (D := [(n, some ⟨[(cChk c)], 15, 50, true⟩), ((n + 1), some ⟨[xCh9], 15, 50, true⟩), ((n + 2), some ⟨[(xCh5 c j0 j i)], 15, 50, true⟩), (j0, some (oPrm ((c.ps.take (min c.ps.length 18)).map cutPrm))), (j, some (oCau ((c.cs.take i).map cutCau)))]) (by kernel_rfl)) (r_iaP (c := cCau) (m := i) rfl rfl rfl rfl rfl rfl hok.2.1 rfl (by omega) (gt5 (by omega) hatcs) rfl) ?_
     refine PQ.pure (dst := (some 86)) (v := (.pointer (some ⟨(rk c.cv), i, some 1⟩))) rfl rfl rfl noStore (none_ok _ _) rfl ?_
     refine PQ.pure (dst := (some 87)) (v := (.string (c.cs.getD i dCau).info)) rfl rfl rfl _ (seen_any (V := []) (D := [(n, some ⟨[(cChk c)], 15, 50, true⟩), ((n + 1), some ⟨[xCh9], 15, 50, true⟩), ((n + 2), some ⟨[(xCh5 c j0 j i)], 15, 50, true⟩), (j0, some (oPrm ((c.ps.take (min c.ps.length 18)).map cutPrm))), (j, some (oCau ((c.cs.take i).map cutCau)))]) (by kernel_rfl)) (r_load1 (e := cCau (c.cs.getD i dCau)) rfl rfl rfl rfl rfl (gt5 (by omega) hatcs) (mp_getA (by omega)) rfl) ?_
     refine PQ.pure (dst := (some 88)) (v := (.int .i64 (((c.cs.getD i dCau).info.size : Nat) : Int))) rfl rfl rfl noStore (none_ok _ _) rfl ?_
     refine PQ.pure (dst := (some 89)) (v := (.int .i64 (((min (c.cs.getD i dCau).info.size 60) : Nat) : Int))) rfl rfl rfl noStore (none_ok _ _) (r_min (a := (c.cs.getD i dCau).info.size) (b := 60) rfl rfl rfl) ?_
     refine PQ.pure (dst := (some 90)) (v := (.string ((c.cs.getD i dCau).info.extract 0 (min (c.cs.getD i dCau).info.size 60)))) rfl rfl rfl noStore (none_ok _ _) (r_cut (a := 0) (b := (min (c.cs.getD i dCau).info.size 60)) rfl rfl (fun _ => rfl) (fun _ => rfl) rfl rfl rfl bound_nat (by omega) (by omega) rfl) ?_
     refine PQ.pure (dst := (some 91)) (v := (.agg ⟨(xCh11 c i)⟩)) rfl rfl rfl noStore (none_ok _ _) (by kernel_rfl) ?_
     refine PQ.op (dst := (some 92)) (v := (.slice (some ⟨n4, 0, none⟩) 1 0)) (n1 := (n4 + 1)) (d1 := [(n4, some ⟨[(xCh11 c i)], 2, 145, true⟩)]) rfl rfl rfl noStore (none_ok _ _) (by kernel_rfl) (by omega) (kp1 (wr_new (by omega) (by omega))) ?_
     refine PQ.op (dst := (some 93)) (v := (.slice (some ⟨(n4 + 1), 0, none⟩) (i + 1) 0)) (n1 := (n4 + 2)) (d1 := [((n4 + 1), some (oCau ((c.cs.take (i + 1)).map cutCau))), (j, none)]) rfl rfl rfl _ (seen_any (V := [(n4, some ⟨[(xCh11 c i)], 2, 145, true⟩)]) (D := [(n, some ⟨[(cChk c)], 15, 50, true⟩), ((n + 1), some ⟨[xCh9], 15, 50, true⟩), ((n + 2), some ⟨[(xCh5 c j0 j i)], 15, 50, true⟩), (j0, some (oPrm ((c.ps.take (min c.ps.length 18)).map cutPrm))), (j, some (oCau ((c.cs.take i).map cutCau)))]) (by kernel_rfl)) (r_appendR (c := cCau) (l' := ((c.cs.take (i + 1)).map cutCau)) rfl rfl rfl rfl rfl rfl rfl rfl rfl rfl (by decide) (gt5 (by omega) get_here) get_here (by rw [cutCau_len (by omega)]) (cutCau_snoc (by omega)) (by omega) (of_decide_eq_true (by kernel_rfl)) (by omega)) (by omega) (kp2 (wr_new (by omega) (by omega)) (wr_tight (by kernel_rfl) (by omega))) ?_
     refine PQ.pure (dst := (some 94)) (v := (.pointer (some ⟨(n + 2), 0, some 12⟩))) rfl rfl rfl noStore (none_ok _ _) rfl ?_
     refine PQ.op (dst := none) (v := (.tuple #[])) (n1 := (n4 + 2)) (d1 := [((n + 2), some ⟨[(xCh4 c j0 n4 i)], 15, 50, true⟩)]) rfl rfl rfl _ (seen_any (V := [((n4 + 1), some (oCau ((c.cs.take (i + 1)).map cutCau))), (j, none), (n4, some ⟨[(xCh11 c i)], 2, 145, true⟩)]) (D := [(n, some ⟨[(cChk c)], 15, 50, true⟩), ((n + 1), some ⟨[xCh9], 15, 50, true⟩), ((n + 2), some ⟨[(xCh5 c j0 j i)], 15, 50, true⟩), (j0, some (oPrm ((c.ps.take (min c.ps.length 18)).map cutPrm))), (j, some (oCau ((c.cs.take i).map cutCau)))]) (by kernel_rfl)) (r_store rfl rfl rfl rfl rfl rfl rfl (gt5 (by omega) get_here) rfl rfl (Nat.le_of_ble_eq_true rfl) rfl) (by omega) (kp1 (wr_tight (by kernel_rfl) (by omega))) ?_
     refine PQ.done (d := [((n + 2), some ⟨[(xCh4 c j0 n4 i)], 15, 50, true⟩), ((n4 + 1), some (oCau ((c.cs.take (i + 1)).map cutCau))), (j, none), (n4, some ⟨[(xCh11 c i)], 2, 145, true⟩)]) (by kernel_rfl) ?_
     intro _
     refine RA.weaken (D' := [((n + 2), some ⟨[(xCh4 c j0 n4 i)], 15, 50, true⟩), ((n4 + 1), some (oCau ((c.cs.take (i + 1)).map cutCau))), (j, none), (n4, some ⟨[(xCh11 c i)], 2, 145, true⟩), (n, some ⟨[(cChk c)], 15, 50, true⟩), ((n + 1), some ⟨[xCh9], 15, 50, true⟩), (j0, some (oPrm ((c.ps.take (min c.ps.length 18)).map cutPrm)))]) hd (Less.of (fac (mm (fun _ => get_here) (fun _ => get_here)) (fac (mm (fun _ => (get_there (by omega) get_here)) (fun _ => (get_there (by omega) get_here))) (fac (mm (fun _ => (gt2 (by omega) get_here)) (fun _ => (gt2 (by omega) get_here))) (fac (mm (fun _ => (gt3 (by omega) get_here)) (fun _ => (gt3 (by omega) get_here))) (fac (mm (fun _ => (gt4 (by omega) get_here)) (fun _ => (gt4 (by omega) get_here))) (fac (mm (fun _ => (gt5 (by omega) get_here)) (fun _ => (gt5 (by omega) get_here))) (fac (mm (fun _ => (gt6 (by omega) get_here)) (fun _ => (gt7 (by omega) get_here))) fan))))))) (gone_of (by simp only [goneP, memP, List.cons_append, List.nil_append, true_or, or_true, true_and, and_true, or_false] <;> omega))) ?_
     refine RA.rebase [(1, (Pt n 0 0)), (2, (.pointer (some ⟨(n + 1), 0, some 0⟩))), (3, (.pointer (some ⟨(n + 2), 0, some 0⟩))), (5, (.int .i64 ((i : Nat) : Int))), (65, (.bool true))] ⟨rfl, rfl, rfl, rfl, rfl, trivial⟩ (fun τr5 => ?_)
     refine RA.region env_ok ?_
     refine OA.p (some 66) (.int .i64 ((i : Nat) : Int)) rfl rfl rfl rfl ?_
     refine OA.p (some 67) (.int .i64 (((i + 1) : Nat) : Int)) rfl rfl rfl (r_bin rfl rfl rfl (b_add (i64_eq (by omega)))) ?_
     refine OA.p (some 5) (.int .i64 (((i + 1) : Nat) : Int)) rfl rfl rfl rfl ?_
     refine OA.nil ?_
     refine ⟨(18 - (i + 1)), by omega, [(n, some ⟨[(cChk c)], 15, 50, true⟩), ((n + 1), some ⟨[xCh9], 15, 50, true⟩), ((n + 2), some ⟨[(xCh4 c j0 n4 i)], 15, 50, true⟩), (j0, some (oPrm ((c.ps.take (min c.ps.length 18)).map cutPrm))), ((n4 + 1), some (oCau ((c.cs.take (i + 1)).map cutCau)))], (Less.of (fac (mm (fun _ => get_here) (fun _ => (gt4 (by omega) get_here))) (fac (mm (fun _ => (get_there (by omega) get_here)) (fun _ => (gt5 (by omega) get_here))) (fac (mm (fun _ => (gt2 (by omega) get_here)) (fun _ => get_here)) (fac (mm (fun _ => (gt3 (by omega) get_here)) (fun _ => (gt6 (by omega) get_here))) (fac (mm (fun _ => (gt4 (by omega) get_here)) (fun _ => (get_there (by omega) get_here))) fan))))) (gone_of (by simp only [goneP, memP, List.cons_append, List.nil_append, true_or, or_true, true_and, and_true, or_false] <;> omega))), ⟨(i + 1), (n4 + 1), rfl, by omega, ⟨rfl, rfl, rfl, rfl, trivial⟩, rfl, (kb5 (by omega)), ⟨by omega, by omega, by omega, by omega⟩⟩⟩
    ·
     refine OA.p (some 64) (.bool false) rfl rfl rfl (Eq.trans (r_bin rfl rfl rfl (b_lss rfl)) (dF hc4)) ?_
     refine OA.p (some 65) (.bool false) rfl rfl rfl rfl ?_
     refine OA.nil ?_
     intro _
     refine RA.condF rfl ?_
     refine RA.exit env_ok ?_
     exact ⟨rfl, ⟨j, ⟨rfl, rfl, rfl, trivial⟩, ⟨[(n, some ⟨[(cChk c)], 15, 50, true⟩), ((n + 1), some ⟨[xCh9], 15, 50, true⟩), ((n + 2), some ⟨[(xCh5 c j0 j i)], 15, 50, true⟩), (j0, some (oPrm ((c.ps.take (min c.ps.length 18)).map cutPrm))), (j, some (oCau ((c.cs.take i).map cutCau)))], (Less.refl _ _ _), (by rw [show i = (min c.cs.length 18) from by omega])⟩, by omega, (kb5 (by omega)), ⟨by omega, by omega⟩⟩⟩
   ·
    refine OA.p (some 61) (.bool false) rfl rfl rfl (Eq.trans (r_bin rfl rfl rfl (b_lss rfl)) (dF hc3)) ?_
    refine OA.p (some 62) (.bool false) rfl rfl rfl rfl ?_
    refine OA.off (dst := (some 63)) rfl rfl rfl ?_
    refine OA.off (dst := (some 64)) rfl rfl rfl ?_
    refine OA.p (some 65) (.bool false) rfl rfl rfl rfl ?_
    refine OA.nil ?_
    intro _
    refine RA.condF rfl ?_
    refine RA.exit env_ok ?_
    exact ⟨rfl, ⟨j, ⟨rfl, rfl, rfl, trivial⟩, ⟨[(n, some ⟨[(cChk c)], 15, 50, true⟩), ((n + 1), some ⟨[xCh9], 15, 50, true⟩), ((n + 2), some ⟨[(xCh5 c j0 j i)], 15, 50, true⟩), (j0, some (oPrm ((c.ps.take (min c.ps.length 18)).map cutPrm))), (j, some (oCau ((c.cs.take i).map cutCau)))], (Less.refl _ _ _), (by rw [show i = (min c.cs.length 18) from by omega])⟩, by omega, (kb5 (by omega)), ⟨by omega, by omega⟩⟩⟩
  ·
   rintro _ τ6 n6 Dn6 hmn6 ⟨rfl, hSn6⟩
   rcases hSn6 with ⟨j1, hHn6, ⟨_, hLn6, rfl⟩, hn6, hKn6, hIn6⟩
   intro _
   refine RA.weaken hd hLn6 ?_
   rw [Has.eq hHn6]
   have hKn6_0 : n < n6 := hKn6 _ (by simp only [keys, List.map_cons, List.map_nil, List.mem_cons, true_or, or_true])
   have hKn6_1 : (n + 1) < n6 := hKn6 _ (by simp only [keys, List.map_cons, List.map_nil, List.mem_cons, true_or, or_true])
   have hKn6_2 : (n + 2) < n6 := hKn6 _ (by simp only [keys, List.map_cons, List.map_nil, List.mem_cons, true_or, or_true])
   have hKn6_3 : j0 < n6 := hKn6 _ (by simp only [keys, List.map_cons, List.map_nil, List.mem_cons, true_or, or_true])
   have hKn6_4 : j1 < n6 := hKn6 _ (by simp only [keys, List.map_cons, List.map_nil, List.mem_cons, true_or, or_true])
   clear hKn6
   obtain ⟨hj3, hj4⟩ := hIn6
   refine RA.seq hd ?_
   refine RA.par (md := [some [], some [n], some [], some [n], some [], some [], some [(rk c.gv)], some [], some [n], some [], some [n], some [], some [], some [(rk c.dv)], some [], none, some [], none]) env_ok (hd.of (by omega) (kb5 (by omega))) (by kernel_rfl) ?_
   refine PQ.pure (dst := (some 95)) (v := (Pt n 0 13)) rfl rfl rfl noStore (none_ok _ _) rfl ?_
   refine PQ.pure (dst := (some 96)) (v := c.gv) rfl rfl rfl (app [(n, some ⟨[(cChk c)], 15, 50, true⟩)] noStore) (seen_one (V := []) (D := [(n, some ⟨[(cChk c)], 15, 50, true⟩), ((n + 1), some ⟨[xCh9], 15, 50, true⟩), ((n + 2), some ⟨[(xCh3 c j0 j1)], 15, 50, true⟩), (j0, some (oPrm ((c.ps.take (min c.ps.length 18)).map cutPrm))), (j1, some (oCau ((c.cs.take (min c.cs.length 18)).map cutCau)))]) (by kernel_rfl) get_here) (r_load1 rfl rfl rfl rfl rfl get_here rfl rfl) ?_
   refine PQ.pure (dst := (some 97)) (v := (Pt n 0 13)) rfl rfl rfl noStore (none_ok _ _) rfl ?_
   refine PQ.pure (dst := (some 98)) (v := c.gv) rfl rfl rfl (app [(n, some ⟨[(cChk c)], 15, 50, true⟩)] noStore) (seen_one (V := []) (D := [(n, some ⟨[(cChk c)], 15, 50, true⟩), ((n + 1), some ⟨[xCh9], 15, 50, true⟩), ((n + 2), some ⟨[(xCh3 c j0 j1)], 15, 50, true⟩), (j0, some (oPrm ((c.ps.take (min c.ps.length 18)).map cutPrm))), (j1, some (oCau ((c.cs.take (min c.cs.length 18)).map cutCau)))]) (by kernel_rfl) get_here) (r_load1 rfl rfl rfl rfl rfl get_here rfl rfl) ?_
   refine PQ.pure (dst := (some 99)) (v := (.int .i64 ((c.gs.length : Nat) : Int))) rfl rfl rfl noStore (none_ok _ _) (r_lenP (c := cGp) rfl rfl rfl rfl rfl rfl hok.2.2.1 rfl) ?_
   refine PQ.pure (dst := (some 100)) (v := (.int .i64 (((min c.gs.length 18) : Nat) : Int))) rfl rfl rfl noStore (none_ok _ _) (r_min (a := c.gs.length) (b := 18) rfl rfl rfl) ?_
   refine PQ.pure (dst := (some 101)) (v := (cutV c.gv (min c.gs.length 18))) rfl rfl rfl _ (seen_key (k := (rk c.gv)) (V := []) (D := [(n, some ⟨[(cChk c)], 15, 50, true⟩), ((n + 1), some ⟨[xCh9], 15, 50, true⟩), ((n + 2), some ⟨[(xCh3 c j0 j1)], 15, 50, true⟩), (j0, some (oPrm ((c.ps.take (min c.ps.length 18)).map cutPrm))), (j1, some (oCau ((c.cs.take (min c.cs.length 18)).map cutCau)))]) (by kernel_rfl)) (r_cutP (c := cGp) (q := (min c.gs.length 18)) (v := c.gv) rfl rfl rfl rfl rfl rfl hok.2.2.1 (.inr (fun _ hh => by have hlt := hd.lt hh; rw [only_self]; exact (gt5 (by omega) rfl))) rfl (by omega)) ?_
   refine PQ.pure (dst := (some 102)) (v := (Pt n 0 14)) rfl rfl rfl noStore (none_ok _ _) rfl ?_
   refine PQ.pure (dst := (some 103)) (v := c.dv) rfl rfl rfl (app [(n, some ⟨[(cChk c)], 15, 50, true⟩)] noStore) (seen_one (V := []) (D := [(n, some ⟨[(cChk c)], 15, 50, true⟩), ((n + 1), some ⟨[xCh9], 15, 50, true⟩), ((n + 2), some ⟨[(xCh3 c j0 j1)], 15, 50, true⟩), (j0, some (oPrm ((c.ps.take (min c.ps.length 18)).map cutPrm))), (j1, some (oCau ((c.cs.take (min c.cs.length 18)).map cutCau)))]) (by kernel_rfl) get_here) (r_load1 rfl rfl rfl rfl rfl get_here rfl rfl) ?_
   refine PQ.pure (dst := (some 104)) (v := (Pt n 0 14)) rfl rfl rfl noStore (none_ok _ _) rfl ?_
   refine PQ.pure (dst := (some 105)) (v := c.dv) rfl rfl rfl (app [(n, some ⟨[(cChk c)], 15, 50, true⟩)] noStore) (seen_one (V := []) (D := [(n, some ⟨[(cChk c)], 15, 50, true⟩), ((n + 1), some ⟨[xCh9], 15, 50, true⟩), ((n + 2), some ⟨[(xCh3 c j0 j1)], 15, 50, true⟩), (j0, some (oPrm ((c.ps.take (min c.ps.length 18)).map cutPrm))), (j1, some (oCau ((c.cs.take (min c.cs.length 18)).map cutCau)))]) (by kernel_rfl) get_here) (r_load1 rfl rfl rfl rfl rfl get_here rfl rfl) ?_
   refine PQ.pure (dst := (some 106)) (v := (.int .i64 ((c.ds.length : Nat) : Int))) rfl rfl rfl noStore (none_ok _ _) (r_lenP (c := cDp) rfl rfl rfl rfl rfl rfl hok.2.2.2 rfl) ?_
   refine PQ.pure (dst := (some 107)) (v := (.int .i64 (((min c.ds.length 18) : Nat) : Int))) rfl rfl rfl noStore (none_ok _ _) (r_min (a := c.ds.length) (b := 18) rfl rfl rfl) ?_
   refine PQ.pure (dst := (some 108)) (v := (cutV c.dv (min c.ds.length 18))) rfl rfl rfl _ (seen_key (k := (rk c.dv)) (V := []) (D := [(n, some ⟨[(cChk c)], 15, 50, true⟩), ((n + 1), some ⟨[xCh9], 15, 50, true⟩), ((n + 2), some ⟨[(xCh3 c j0 j1)], 15, 50, true⟩), (j0, some (oPrm ((c.ps.take (min c.ps.length 18)).map cutPrm))), (j1, some (oCau ((c.cs.take (min c.cs.length 18)).map cutCau)))]) (by kernel_rfl)) (r_cutP (c := cDp) (q := (min c.ds.length 18)) (v := c.dv) rfl rfl rfl rfl rfl rfl hok.2.2.2 (.inr (fun _ hh => by have hlt := hd.lt hh; rw [only_self]; exact (gt5 (by omega) rfl))) rfl (by omega)) ?_
   refine PQ.pure (dst := (some 109)) (v := (.pointer (some ⟨(n + 2), 0, some 13⟩))) rfl rfl rfl noStore (none_ok _ _) rfl ?_
   refine PQ.op (dst := none) (v := (.tuple #[])) (n1 := n6) (d1 := [((n + 2), some ⟨[(xCh2 c j0 j1)], 15, 50, true⟩)]) rfl rfl rfl _ (seen_any (V := []) (D := [(n, some ⟨[(cChk c)], 15, 50, true⟩), ((n + 1), some ⟨[xCh9], 15, 50, true⟩), ((n + 2), some ⟨[(xCh3 c j0 j1)], 15, 50, true⟩), (j0, some (oPrm ((c.ps.take (min c.ps.length 18)).map cutPrm))), (j1, some (oCau ((c.cs.take (min c.cs.length 18)).map cutCau)))]) (by kernel_rfl)) (r_store (cs := [(cutV c.gv (min c.gs.length 18))]) rfl rfl rfl rfl ((hok.2.2.1.cutR (min c.gs.length 18) (by omega))).cells rfl (by simp only [List.all_cons, List.all_nil, Bool.and_true]; exact ((hok.2.2.1.cutR (min c.gs.length 18) (by omega))).one) (gt2 (by omega) get_here) rfl rfl (Nat.le_of_ble_eq_true rfl) rfl) (by omega) (kp1 (wr_old [7, 8, 9, 10, 11, 12, 13] (by kernel_rfl) (by omega) (by omega) (fac (lo0 rfl) (fac (lo1 rfl (by omega)) (fac (lo0 rfl) (fac (lo1 rfl (by omega)) (fac (lo0 rfl) (fac (lo0 rfl) (fac (lo1 rfl (by omega)) fan))))))))) ?_
   refine PQ.pure (dst := (some 110)) (v := (.pointer (some ⟨(n + 2), 0, some 14⟩))) rfl rfl rfl noStore (none_ok _ _) rfl ?_
   refine PQ.op (dst := none) (v := (.tuple #[])) (n1 := n6) (d1 := [((n + 2), some ⟨[(xCh1 c j0 j1)], 15, 50, true⟩)]) rfl rfl rfl _ (seen_any (V := [((n + 2), some ⟨[(xCh2 c j0 j1)], 15, 50, true⟩)]) (D := [(n, some ⟨[(cChk c)], 15, 50, true⟩), ((n + 1), some ⟨[xCh9], 15, 50, true⟩), ((n + 2), some ⟨[(xCh3 c j0 j1)], 15, 50, true⟩), (j0, some (oPrm ((c.ps.take (min c.ps.length 18)).map cutPrm))), (j1, some (oCau ((c.cs.take (min c.cs.length 18)).map cutCau)))]) (by kernel_rfl)) (r_store (cs := [(cutV c.dv (min c.ds.length 18))]) rfl rfl rfl rfl ((hok.2.2.2.cutR (min c.ds.length 18) (by omega))).cells rfl (by simp only [List.all_cons, List.all_nil, Bool.and_true]; exact ((hok.2.2.2.cutR (min c.ds.length 18) (by omega))).one) get_here rfl rfl (Nat.le_of_ble_eq_true rfl) rfl) (by omega) (kp1 (wr_tight (by kernel_rfl) (by omega))) ?_
   refine PQ.done (d := [((n + 2), some ⟨[(xCh1 c j0 j1)], 15, 50, true⟩), ((n + 2), some ⟨[(xCh2 c j0 j1)], 15, 50, true⟩)]) (by kernel_rfl) ?_
   intro _
   refine RA.weaken (D' := [((n + 2), some ⟨[(xCh1 c j0 j1)], 15, 50, true⟩), (n, some ⟨[(cChk c)], 15, 50, true⟩), ((n + 1), some ⟨[xCh9], 15, 50, true⟩), (j0, some (oPrm ((c.ps.take (min c.ps.length 18)).map cutPrm))), (j1, some (oCau ((c.cs.take (min c.cs.length 18)).map cutCau)))]) hd (Less.of (fac (mm (fun _ => get_here) (fun _ => get_here)) (fac (mm (fun _ => (get_there (by omega) get_here)) (fun _ => (gt2 (by omega) get_here))) (fac (mm (fun _ => (gt2 (by omega) get_here)) (fun _ => (gt3 (by omega) get_here))) (fac (mm (fun _ => (gt3 (by omega) get_here)) (fun _ => (gt5 (by omega) get_here))) (fac (mm (fun _ => (gt4 (by omega) get_here)) (fun _ => (gt6 (by omega) get_here))) fan))))) (gone_of (by simp only [goneP, memP, List.cons_append, List.nil_append, true_or, or_true, true_and, and_true, or_false] <;> omega))) ?_
   refine RA.seq hd ?_
   refine RA.region env_ok ?_
   refine OA.p (some 111) (.agg ⟨(xCh1 c j0 j1)⟩) rfl rfl rfl (r_loadA rfl rfl rfl rfl get_here rfl rfl rfl) ?_
   refine OA.op1 (dst := none) (v := (.tuple #[])) (n1 := n6) (w := ((n + 1), some ⟨[(xCh1 c j0 j1)], 15, 50, true⟩)) rfl rfl rfl (r_store (cs := (xCh1 c j0 j1)) rfl rfl rfl rfl rfl rfl (by simp only [List.all_cons, List.all_nil, Bool.and_true, Bool.and_eq_true]; exact ⟨rfl, rfl, rfl, rfl, rfl, rfl, rfl, rfl, rfl, rfl, rfl, rfl, rfl, ((hok.2.2.1.cutR (min c.gs.length 18) (by omega))).one, ((hok.2.2.2.cutR (min c.ds.length 18) (by omega))).one⟩) (gt2 (by omega) get_here) rfl rfl (Nat.le_of_ble_eq_true rfl) rfl) (by omega) ?_
   refine OA.nil ?_
   intro _
   refine RA.weaken (D' := [((n + 1), some ⟨[(xCh1 c j0 j1)], 15, 50, true⟩), ((n + 2), some ⟨[(xCh1 c j0 j1)], 15, 50, true⟩), (n, some ⟨[(cChk c)], 15, 50, true⟩), (j0, some (oPrm ((c.ps.take (min c.ps.length 18)).map cutPrm))), (j1, some (oCau ((c.cs.take (min c.cs.length 18)).map cutCau)))]) hd (Less.of (fac (mm (fun _ => get_here) (fun _ => get_here)) (fac (mm (fun _ => (get_there (by omega) get_here)) (fun _ => (get_there (by omega) get_here))) (fac (mm (fun _ => (gt2 (by omega) get_here)) (fun _ => (gt2 (by omega) get_here))) (fac (mm (fun _ => (gt3 (by omega) get_here)) (fun _ => (gt4 (by omega) get_here))) (fac (mm (fun _ => (gt4 (by omega) get_here)) (fun _ => (gt5 (by omega) get_here))) fan))))) (gone_of (by simp only [goneP, memP, List.cons_append, List.nil_append, true_or, or_true, true_and, and_true, or_false] <;> omega))) ?_
   refine RA.ret env_ok ?_
   refine ⟨.inr rfl, [(.agg ⟨(xCh1 c j0 j1)⟩)], (resL_cons (res_cellA rfl rfl rfl get_here rfl rfl rfl) resL_nil), [(j0, some (oPrm ((c.ps.take (min c.ps.length 18)).map cutPrm))), (j1, some (oCau ((c.cs.take (min c.cs.length 18)).map cutCau)))], (Less.of (fac (mm (fun _ => get_here) (fun _ => (gt3 (by omega) get_here))) (fac (mm (fun _ => (get_there (by omega) get_here)) (fun _ => (gt4 (by omega) get_here))) fan)) (gone_of (by simp only [goneP, memP, List.cons_append, List.nil_append, true_or, or_true, true_and, and_true, or_false] <;> omega))), ⟨j0, j1, by omega, by omega, by omega, by omega, by omega, rfl, rfl⟩⟩
end Go.Proofs.Ytnjknabighmedaa.Vt
