/- Dp5: walks through functions of the program, by the calculus; written by a program of this workplace. -/
import Derived.Test.YtmepflkodjdgdaaDp4
import Derived.Test.YtmepflkodjdgdaaVm6
namespace Go.Proofs.Ytmepflkodjdgdaa.Vt
open Go Go.Proofs Go.Proofs.YtmepflkodjdgdaaV
set_option maxRecDepth 100000
set_option linter.unusedVariables false
set_option linter.unusedSimpArgs false
structure Act where
  what : Int
  st : Int
  ssn : Int
  loose : Bool
  proto : BitVec 32
  data : ByteArray
deriving DecidableEq
def dAct : Act := ⟨0, 0, 0, false, 0#32, ByteArray.empty⟩
abbrev cAct (e : Act) : List Value := [(.int .i64 e.what), (.int .i64 e.st), (.int .i64 e.ssn), (.bool e.loose), (W e.proto), (.string e.data)]
abbrev oAct (l : List Act) : AObj := ⟨l.map cAct, 6, 40, true⟩
theorem rep_uI {k : Nat} : List.replicate k dIn = (List.replicate k dUx).map uI := by rw [List.map_replicate]; rfl
theorem app_uI {nx : List Ux} {k : Nat} : nx.map uI ++ List.replicate k dIn = (nx ++ List.replicate k dUx).map uI := by rw [List.map_append, List.map_replicate]; rfl
theorem getD_lt {nx : List Ux} (h : ∀ u ∈ nx, u.z < 65536) (t : Nat) : (nx.getD t dUx).z < 65536 := by
  rw [List.getD_eq_getElem?_getD]
  cases hh : nx[t]? with
  | none => exact (by decide : (0 : Nat) < 65536)
  | some u => exact h u (List.mem_of_getElem? hh)
theorem rep_lt {N k : Nat} : ∀ t, t < N → ((List.replicate k dUx).getD t dUx).z < 65536 := fun t _ => getD_lt (fun u hu => by rw [List.eq_of_mem_replicate hu]; decide) t
theorem hxa_all {nx : List Ux} {NX : Nat} (hnx : nx.length = NX) (h : ∀ t, t < NX → (nx.getD t dUx).z < 65536) : ∀ u ∈ nx, u.z < 65536 := fun u hu => by
  obtain ⟨t, ht, rfl⟩ := List.getElem_of_mem hu
  have := h t (by omega)
  rw [List.getD_eq_getElem?_getD, List.getElem?_eq_getElem ht] at this
  exact this
theorem hxa_set {nx : List Ux} {NX t a : Nat} (hnx : nx.length = NX) (h : ∀ t, t < NX → (nx.getD t dUx).z < 65536) (ha : a < 65536) : ∀ k, k < NX → ((nx.set t (Ux.mk a)).getD k dUx).z < 65536 := fun k _ => getD_lt (fun u hu => by
  rcases List.mem_or_eq_of_mem_set hu with h3 | h3
  · exact hxa_all hnx h u h3
  · rw [h3]; exact ha) k
theorem hxa_app {nx : List Ux} {NX N k : Nat} (hnx : nx.length = NX) (h : ∀ t, t < NX → (nx.getD t dUx).z < 65536) : ∀ t, t < N → ((nx ++ List.replicate k dUx).getD t dUx).z < 65536 := fun t _ => getD_lt (fun u hu => by
  rcases List.mem_append.1 hu with h3 | h3
  · exact hxa_all hnx h u h3
  · rw [List.eq_of_mem_replicate h3]; decide) t
theorem szs_k {ws L2 : List Msg} {i : Nat} (h : szs ws + szs L2 ≤ 5 * i) : szs ws + szs (L2.drop 0) ≤ 5 * (i + 1) := by rw [List.drop_zero]; omega
theorem szs_1 (m : Msg) : szs [m] = m.data.size := by simp [szs]
theorem szs_m {ws L2 : List Msg} {m : Msg} {i : Nat} (h : szs ws + szs L2 ≤ 5 * i) (hm : m.data.size ≤ 5) : szs ws + szs ((L2 ++ [m]).drop 0) ≤ 5 * (i + 1) := by rw [List.drop_zero, szs_app, szs_1]; omega
theorem szs_g {ws L2 : List Msg} {m : Msg} {i f a : Nat} {t : Int} {R : Nat × List Msg × List Msg} (h : szs ws + szs L2 ≤ 5 * i) (hm : m.data.size ≤ 5) (hR : goS t f a (ws ++ [m]) L2 = R) : szs R.2.1 + szs (R.2.2.drop 0) ≤ 5 * (i + 1) := by
  have h1 := goS_szs hR
  rw [szs_app, szs_1] at h1
  rw [List.drop_zero]; omega
theorem szs_d {ws L2 : List Msg} {i : Nat} (h : szs ws + szs L2 ≤ 5 * i) : szs ws + szs (L2.drop 1) ≤ 5 * (i + 1) := by
  have h2 := szs_app (L2.take 1) (L2.drop 1)
  rw [List.take_append_drop] at h2; omega
theorem cut_le (d : ByteArray) : (d.extract 0 (min d.size 5)).size ≤ 5 := by rw [ByteArray.size_extract]; omega
abbrev xDp51 (acts : List Act) (i : Nat) : List Value := [(.int .i64 (Int.tmod (acts.getD i dAct).st 20)), (.int .i64 (acts.getD i dAct).ssn), (.bool (acts.getD i dAct).loose), (W (acts.getD i dAct).proto), (.string ((acts.getD i dAct).data.extract 0 (min (acts.getD i dAct).data.size 5)))]
abbrev xDp52 (acts : List Act) (i : Nat) : List Value := [(.int .i64 (Int.tmod (acts.getD i dAct).st 20)), (.int .i64 (acts.getD i dAct).ssn), (.bool (acts.getD i dAct).loose), (W (acts.getD i dAct).proto), (.string (acts.getD i dAct).data)]
abbrev xDp53 (n13 : Nat) (NX : Nat) (acts : List Act) (i : Nat) (K : Nat) (M : Nat) : List Value := [(.slice (some ⟨(n13 + 6), 0, none⟩) (NX + (min (andN (acts.getD i dAct).ssn 3) (16 - NX))) 0), (.slice (some ⟨(n13 + 2), 0, none⟩) K 2), (.slice (some ⟨(n13 + 3), 0, none⟩) M 2)]
abbrev xDp54 (jn2n13 : Nat) (NX : Nat) (acts : List Act) (i : Nat) (n13 : Nat) (K : Nat) (M : Nat) : List Value := [(.slice (some ⟨jn2n13, 0, none⟩) (NX + (min (andN (acts.getD i dAct).ssn 3) (16 - NX))) 0), (.slice (some ⟨n13, 0, none⟩) K 2), (.slice (some ⟨(n13 + 1), 0, none⟩) M 2)]
abbrev xDp55 (acts : List Act) (i : Nat) : List Value := [(.int .i64 (acts.getD i dAct).st), (.int .i64 (acts.getD i dAct).ssn), (.bool (acts.getD i dAct).loose), (W (acts.getD i dAct).proto), (.string (acts.getD i dAct).data)]
abbrev xDp56 (n3 : Nat) (mn : Int) (n4 : Nat) : List Value := [(.slice (some ⟨n3, 0, none⟩) (min (max (andN mn 31) 1) 16) 0), (.slice (some ⟨(n4 + 2), 0, none⟩) 0 2), (.slice (some ⟨(n4 + 3), 0, none⟩) 0 2)]
abbrev xDp57 (jnn3 : Nat) (mn : Int) (n4 : Nat) : List Value := [(.slice (some ⟨jnn3, 0, none⟩) (min (max (andN mn 31) 1) 16) 0), (.slice (some ⟨n4, 0, none⟩) 0 2), (.slice (some ⟨(n4 + 1), 0, none⟩) 0 2)]
abbrev xDp58 (sn3 : Nat) (m : Msg) : List Value := [(.pointer (some ⟨sn3, 0, some 0⟩)), (.agg ⟨[(.int .i64 m.st), (.int .i64 m.ssn), (.bool m.loose), (W m.proto), (.string m.data)]⟩)]
abbrev xDp59 (n12 : Nat) (NX : Nat) (K : Nat) (M : Nat) : List Value := [(.slice (some ⟨(n12 + 5), 0, none⟩) NX 0), (.slice (some ⟨(n12 + 2), 0, none⟩) K 2), (.slice (some ⟨(n12 + 3), 0, none⟩) M 2)]
abbrev xDp510 (jx : Nat) (NX : Nat) (n20 : Nat) (K : Nat) (M : Nat) : List Value := [(.slice (some ⟨jx, 0, none⟩) NX 0), (.slice (some ⟨(n20 + 2), 0, none⟩) K 2), (.slice (some ⟨(n20 + 3), 0, none⟩) (M + 1) 2)]
abbrev xDp511 (jx2n24 : Nat) (NX : Nat) (n26 : Nat) (K2 : Nat) (M2 : Nat) : List Value := [(.slice (some ⟨jx2n24, 0, none⟩) NX 0), (.slice (some ⟨(n26 + 2), 0, none⟩) K2 2), (.slice (some ⟨(n26 + 3), 0, none⟩) M2 2)]
abbrev xDp512 (jn : Nat) (NX : Nat) (n8 : Nat) (K : Nat) (M : Nat) : List Value := [(.slice (some ⟨jn, 0, none⟩) NX 0), (.slice (some ⟨(n8 + 1), 0, none⟩) K 2), (.slice (some ⟨(n8 + 2), 0, none⟩) (M - 1) 2)]
abbrev xDp513 (jx' : Nat) (NX' : Nat) (n27 : Nat) (K' : Nat) (M' : Nat) : List Value := [(.slice (some ⟨jx', 0, none⟩) NX' 0), (.slice (some ⟨(n27 + 2), 0, none⟩) K' 2), (.slice (some ⟨(n27 + 3), 0, none⟩) M' 2)]
abbrev xDp514 (n3 : Nat) (mn : Int) (n4 : Nat) : List Value := [(.slice (some ⟨n3, 0, none⟩) (min (max (andN mn 31) 1) 16) 0), (.slice (some ⟨(n4 + 2), 0, none⟩) 0 2), (.slice none 0 0)]
abbrev xDp515 (jx : Nat) (NX : Nat) (n12 : Nat) (K : Nat) (M : Nat) : List Value := [(.slice (some ⟨jx, 0, none⟩) NX 0), (.slice (some ⟨(n12 + 2), 0, none⟩) K 2), (.slice (some ⟨(n12 + 3), 0, none⟩) M 2)]
abbrev xDp516 (jx : Nat) (NX : Nat) (n13 : Nat) (K : Nat) (M : Nat) : List Value := [(.slice (some ⟨jx, 0, none⟩) NX 0), (.slice (some ⟨(n13 + 2), 0, none⟩) K 2), (.slice (some ⟨(n13 + 3), 0, none⟩) M 2)]
abbrev xDp517 (jx : Nat) (NX : Nat) (n17 : Nat) (K : Nat) (M : Nat) : List Value := [(.slice (some ⟨jx, 0, none⟩) NX 0), (.slice (some ⟨(n17 + 2), 0, none⟩) K 2), (.slice (some ⟨(n17 + 3), 0, none⟩) M 2)]
abbrev xDp518 (jn : Nat) (NX : Nat) (n20 : Nat) (K : Nat) (M : Nat) : List Value := [(.slice (some ⟨jn, 0, none⟩) NX 0), (.slice (some ⟨n20, 0, none⟩) K 2), (.slice (some ⟨(n20 + 1), 0, none⟩) (M + 1) 2)]
abbrev xDp519 (jx : Nat) (NX : Nat) (n23 : Nat) (K : Nat) (M : Nat) : List Value := [(.slice (some ⟨jx, 0, none⟩) NX 0), (.slice (some ⟨(n23 + 2), 0, none⟩) K 2), (.slice (some ⟨(n23 + 3), 0, none⟩) M 2)]
abbrev xDp520 (jx2n24 : Nat) (NX : Nat) (jv2n24 : Nat) (K2 : Nat) (ju2n24 : Nat) (M2 : Nat) : List Value := [(.slice (some ⟨jx2n24, 0, none⟩) NX 0), (.slice (some ⟨jv2n24, 0, none⟩) K2 2), (.slice (some ⟨ju2n24, 0, none⟩) M2 2)]
abbrev xDp521 (jnn3 : Nat) (mn : Int) (n4 : Nat) : List Value := [(.slice (some ⟨jnn3, 0, none⟩) (min (max (andN mn 31) 1) 16) 0), (.slice (some ⟨n4, 0, none⟩) 0 2), (.slice none 0 0)]
abbrev xDp522 (jn : Nat) (NX : Nat) (n6 : Nat) (K : Nat) (M : Nat) : List Value := [(.slice (some ⟨jn, 0, none⟩) NX 0), (.slice (some ⟨(n6 + 1), 0, none⟩) K 2), (.slice (some ⟨(n6 + 2), 0, none⟩) M 2)]
abbrev xDp523 (jx : Nat) (NX : Nat) (n6 : Nat) (K : Nat) (M : Nat) : List Value := [(.slice (some ⟨jx, 0, none⟩) NX 0), (.slice (some ⟨(n6 + 3), 0, none⟩) K 2), (.slice (some ⟨(n6 + 4), 0, none⟩) M 2)]
abbrev xDp524 (jn' : Nat) (NX' : Nat) (n27 : Nat) (K' : Nat) (M' : Nat) : List Value := [(.slice (some ⟨jn', 0, none⟩) NX' 0), (.slice (some ⟨n27, 0, none⟩) K' 2), (.slice (some ⟨(n27 + 1), 0, none⟩) M' 2)]
abbrev xDp525 (jx : Nat) (NX : Nat) (jv : Nat) (K : Nat) (ju2n18 : Nat) (M : Nat) : List Value := [(.slice (some ⟨jx, 0, none⟩) NX 0), (.slice (some ⟨jv, 0, none⟩) K 2), (.slice (some ⟨ju2n18, 0, none⟩) (M + 1) 2)]
abbrev xDp526 (jn : Nat) (NX : Nat) (n26 : Nat) (K2 : Nat) (M2 : Nat) : List Value := [(.slice (some ⟨jn, 0, none⟩) NX 0), (.slice (some ⟨n26, 0, none⟩) K2 2), (.slice (some ⟨(n26 + 1), 0, none⟩) M2 2)]
abbrev xDp527 (jn : Nat) (NX : Nat) (n12 : Nat) (K : Nat) (M : Nat) : List Value := [(.slice (some ⟨jn, 0, none⟩) NX 0), (.slice (some ⟨n12, 0, none⟩) K 2), (.slice (some ⟨(n12 + 1), 0, none⟩) M 2)]
abbrev xDp528 (jn : Nat) (NX : Nat) (n17 : Nat) (K : Nat) (M : Nat) : List Value := [(.slice (some ⟨jn, 0, none⟩) NX 0), (.slice (some ⟨n17, 0, none⟩) K 2), (.slice (some ⟨(n17 + 1), 0, none⟩) M 2)]
abbrev xDp529 (jn : Nat) (NX : Nat) (n23 : Nat) (K : Nat) (M : Nat) : List Value := [(.slice (some ⟨jn, 0, none⟩) NX 0), (.slice (some ⟨n23, 0, none⟩) K 2), (.slice (some ⟨(n23 + 1), 0, none⟩) M 2)]
abbrev xDp530 (jn : Nat) (NX : Nat) (jw : Nat) (K : Nat) (jo : Nat) (M : Nat) : List Value := [(.slice (some ⟨jn, 0, none⟩) NX 0), (.slice (some ⟨jw, 0, none⟩) K 2), (.slice (some ⟨jo, 1, none⟩) (M - 1) 2)]
abbrev xDp531 (jn : Nat) (NX : Nat) (jw : Nat) (K : Nat) (jo : Nat) (M : Nat) : List Value := [(.slice (some ⟨jn, 0, none⟩) NX 0), (.slice (some ⟨jw, 0, none⟩) K 2), (.slice (some ⟨jo, 0, none⟩) M 2)]
abbrev xDp532 (jx : Nat) (NX : Nat) (jv : Nat) (K : Nat) (ju : Nat) (M : Nat) : List Value := [(.slice (some ⟨jx, 0, none⟩) NX 0), (.slice (some ⟨jv, 0, none⟩) K 2), (.slice (some ⟨ju, 0, none⟩) M 2)]
abbrev xDp533 (jnn3 : Nat) (mn : Int) : List Value := [(.slice (some ⟨jnn3, 0, none⟩) (min (max (andN mn 31) 1) 16) 0), (.slice none 0 0), (.slice none 0 0)]
abbrev xDp534 (n3 : Nat) (mn : Int) : List Value := [(.slice (some ⟨n3, 0, none⟩) (min (max (andN mn 31) 1) 16) 0), (.slice none 0 0), (.slice none 0 0)]
set_option maxHeartbeats 8000000 in
theorem dpLaw {n : Nat} {σ : Store} (hd : Dom n σ) (hn0 : 0 < n) (mn : Int) (va : Value) (acts : List Act) (hva : RowP σ 40 6 va (acts.map cAct))   : CQ Try.prog noDen 4 [(.int .i64 mn), va] n σ (fun v n' d => v = .bool true) := by
 refine CQ.body (E := env) env_ok hd rfl rfl (by show _ ≤ _; exact of_decide_eq_true (by kernel_rfl)) ?_
 refine RA.seq hd ?_
 refine RA.region env_ok ?_
 refine OA.p (some 4) (.bool false) rfl rfl rfl rfl ?_
 refine OA.nil ?_
 intro _
 refine RA.seq hd ?_
 refine RA.region env_ok ?_
 refine OA.p (some 19) (.int .i64 mn) rfl rfl rfl rfl ?_
 have hm1 := andN_le mn 31 (by decide)
 refine OA.p (some 20) (.int .i64 (((andN mn 31) : Nat) : Int)) rfl rfl rfl (r_bin rfl rfl rfl (b_andN mn 31 (by decide))) ?_
 refine OA.p (some 21) (.int .i64 (((max (andN mn 31) 1) : Nat) : Int)) rfl rfl rfl (r_max (a := (andN mn 31)) (b := 1) rfl rfl rfl) ?_
 refine OA.p (some 22) (.int .i64 (((min (max (andN mn 31) 1) 16) : Nat) : Int)) rfl rfl rfl (r_min (a := (max (andN mn 31) 1)) (b := 16) rfl rfl rfl) ?_
 refine OA.p (some 5) (.int .i64 (((min (max (andN mn 31) 1) 16) : Nat) : Int)) rfl rfl rfl rfl ?_
 refine OA.nil ?_
 intro _
 refine RA.seq hd ?_
 refine RA.par (md := [some [], some [], none, some [], some [], some [], some [], some [], none]) env_ok (hd.up (by omega)) (by kernel_rfl) ?_
 refine PQ.pure (dst := (some 23)) (v := (.int .i64 mn)) rfl rfl rfl noStore (none_ok _ _) rfl ?_
 have hm2 := andN_le mn 31 (by decide)
 refine PQ.pure (dst := (some 24)) (v := (.int .i64 (((andN mn 31) : Nat) : Int))) rfl rfl rfl noStore (none_ok _ _) (r_bin rfl rfl rfl (b_andN mn 31 (by decide))) ?_
 refine PQ.call (dst := (some 25)) (all := [(.int .i64 (((andN mn 31) : Nat) : Int))]) rfl rfl rfl rfl rfl rfl rfl rfl _ (seen_any (V := []) (D := []) (by kernel_rfl)) (CQ.imp (CQ.keys (pNewD (hd.up (by omega)) (andN mn 31) (by omega))) ?_)
 rintro _ n3 _ ⟨hkn3, ⟨sn3, jnn3, p1n3, p2n3, p3n3, p4n3, p5n3, rfl, rfl⟩⟩
 have hn3 := hkn3.1
 refine ⟨hn3, (kp2 (by first | exact wr_new (by omega) (by omega) | exact wr_old [3, 4, 5, 6] (by kernel_rfl) (by omega) (by omega) (fac (lo0 rfl) (fac (lo0 rfl) (fac (lo0 rfl) (fac (lo0 rfl) fan))))) (by first | exact wr_new (by omega) (by omega) | exact wr_old [3, 4, 5, 6] (by kernel_rfl) (by omega) (by omega) (fac (lo0 rfl) (fac (lo0 rfl) (fac (lo0 rfl) (fac (lo0 rfl) fan)))))), ?_⟩
 refine PQ.pure (dst := (some 26)) (v := (.int .i64 (((min (max (andN mn 31) 1) 16) : Nat) : Int))) rfl rfl rfl noStore (none_ok _ _) rfl ?_
 refine PQ.op (dst := (some 27)) (v := (.slice (some ⟨n3, 0, none⟩) (min (max (andN mn 31) 1) 16) 0)) (n1 := (n3 + 1)) (d1 := [(n3, some (oIn (List.replicate (min (max (andN mn 31) 1) 16) dIn)))]) rfl rfl rfl noStore (none_ok _ _) (r_makeR (c := cIn) (z := dIn) (K := (min (max (andN mn 31) 1) 16)) rfl rfl rfl rfl rfl rfl rfl (by decide) rfl rfl (of_decide_eq_true (by kernel_rfl)) (by omega)) (by omega) (kp1 (wr_new (by omega) (by omega))) ?_
 refine PQ.pure (dst := (some 28)) (v := (.agg ⟨(xDp534 n3 mn)⟩)) rfl rfl rfl noStore (none_ok _ _) (by kernel_rfl) ?_
 refine PQ.op (dst := (some 7)) (v := (.pointer (some ⟨(n3 + 1), 0, some 0⟩))) (n1 := (n3 + 2)) (d1 := [((n3 + 1), some ⟨[[(.slice none 0 0), (.slice none 0 0), (.slice none 0 0)]], 3, 38, true⟩)]) rfl rfl rfl noStore (none_ok _ _) rfl (by omega) (kp1 (wr_new (by omega) (by omega))) ?_
 refine PQ.pure (dst := (some 6)) (v := (Pt sn3 0 0)) rfl rfl rfl noStore (none_ok _ _) rfl ?_
 refine PQ.op (dst := none) (v := (.tuple #[])) (n1 := (n3 + 2)) (d1 := [((n3 + 1), some ⟨[(xDp534 n3 mn)], 3, 38, true⟩)]) rfl rfl rfl _ (seen_any (V := [((n3 + 1), some ⟨[[(.slice none 0 0), (.slice none 0 0), (.slice none 0 0)]], 3, 38, true⟩), (n3, some (oIn (List.replicate (min (max (andN mn 31) 1) 16) dIn))), (sn3, some ⟨[(xDp533 jnn3 mn)], 3, 101, true⟩), (jnn3, some (oUx (List.replicate (min (max (andN mn 31) 1) 16) dUx)))]) (D := []) (by kernel_rfl)) (r_store rfl rfl rfl rfl rfl rfl rfl get_here rfl rfl (Nat.le_of_ble_eq_true rfl) rfl) (by omega) (kp1 (wr_tight (by kernel_rfl) (by omega))) ?_
 refine PQ.done (d := [((n3 + 1), some ⟨[(xDp534 n3 mn)], 3, 38, true⟩), ((n3 + 1), some ⟨[[(.slice none 0 0), (.slice none 0 0), (.slice none 0 0)]], 3, 38, true⟩), (n3, some (oIn (List.replicate (min (max (andN mn 31) 1) 16) dIn))), (sn3, some ⟨[(xDp533 jnn3 mn)], 3, 101, true⟩), (jnn3, some (oUx (List.replicate (min (max (andN mn 31) 1) 16) dUx)))]) (by kernel_rfl) ?_
 intro _
 refine RA.seq hd ?_
 refine RA.seq hd ?_
 refine RA.region env_ok ?_
 refine OA.callP (dst := (some 29)) (all := []) (v := (.bool true)) (hd.of (by omega) (kb5 (by omega))) rfl rfl rfl rfl rfl rfl rfl rfl awakeDp ?_
 intro n4 hn4
 refine OA.p (some 30) (.bool false) rfl rfl rfl rfl ?_
 refine OA.nil ?_
 intro _
 refine RA.condF rfl ?_
 refine RA.skip env_ok ?_
 intro _
 refine RA.seq hd ?_
 refine RA.seq hd ?_
 refine RA.region env_ok ?_
 refine OA.p (some 8) (.int .i64 0) rfl rfl rfl rfl ?_
 refine OA.nil ?_
 intro _
 refine RA.block ?_
 refine RA.ph (sz := 5) (t := 29) (by decide) ?_
 show RA _ _ _ _ _ _ _ _ [(n4, some (oMsg ([] : List Msg))), ((n3 + 1), some ⟨[(xDp534 n3 mn)], 3, 38, true⟩), ((n3 + 1), some ⟨[[(.slice none 0 0), (.slice none 0 0), (.slice none 0 0)]], 3, 38, true⟩), (n3, some (oIn (List.replicate (min (max (andN mn 31) 1) 16) dIn))), (sn3, some ⟨[(xDp533 jnn3 mn)], 3, 101, true⟩), (jnn3, some (oUx (List.replicate (min (max (andN mn 31) 1) 16) dUx)))] _
 refine RA.le (ob := ⟨[(xDp533 jnn3 mn)], 3, 101, true⟩) (ob' := ⟨[(xDp521 jnn3 mn n4)], 3, 101, true⟩) (gt4 (by omega) get_here) (OLe.one (cs := (xDp533 jnn3 mn)) (cs' := (xDp521 jnn3 mn n4)) ⟨VLe.refl _, (vle_nil _ _), VLe.refl _, trivial⟩ rfl) ?_
 refine RA.ph (sz := 5) (t := 29) (by decide) ?_
 show RA _ _ _ _ _ _ _ _ [((n4 + 1), some (oMsg ([] : List Msg))), (sn3, some ⟨[(xDp521 jnn3 mn n4)], 3, 101, true⟩), (n4, some (oMsg ([] : List Msg))), ((n3 + 1), some ⟨[(xDp534 n3 mn)], 3, 38, true⟩), ((n3 + 1), some ⟨[[(.slice none 0 0), (.slice none 0 0), (.slice none 0 0)]], 3, 38, true⟩), (n3, some (oIn (List.replicate (min (max (andN mn 31) 1) 16) dIn))), (sn3, some ⟨[(xDp533 jnn3 mn)], 3, 101, true⟩), (jnn3, some (oUx (List.replicate (min (max (andN mn 31) 1) 16) dUx)))] _
 refine RA.le (ob := ⟨[(xDp521 jnn3 mn n4)], 3, 101, true⟩) (ob' := ⟨[(xDp57 jnn3 mn n4)], 3, 101, true⟩) (get_there (by omega) get_here) (OLe.one (cs := (xDp521 jnn3 mn n4)) (cs' := (xDp57 jnn3 mn n4)) ⟨VLe.refl _, VLe.refl _, (vle_nil _ _), trivial⟩ rfl) ?_
 refine RA.ph (sz := 5) (t := 29) (by decide) ?_
 show RA _ _ _ _ _ _ _ _ [((n4 + 2), some (oMsg ([] : List Msg))), (sn3, some ⟨[(xDp57 jnn3 mn n4)], 3, 101, true⟩), ((n4 + 1), some (oMsg ([] : List Msg))), (sn3, some ⟨[(xDp521 jnn3 mn n4)], 3, 101, true⟩), (n4, some (oMsg ([] : List Msg))), ((n3 + 1), some ⟨[(xDp534 n3 mn)], 3, 38, true⟩), ((n3 + 1), some ⟨[[(.slice none 0 0), (.slice none 0 0), (.slice none 0 0)]], 3, 38, true⟩), (n3, some (oIn (List.replicate (min (max (andN mn 31) 1) 16) dIn))), (sn3, some ⟨[(xDp533 jnn3 mn)], 3, 101, true⟩), (jnn3, some (oUx (List.replicate (min (max (andN mn 31) 1) 16) dUx)))] _
 refine RA.le (ob := ⟨[(xDp534 n3 mn)], 3, 38, true⟩) (ob' := ⟨[(xDp514 n3 mn n4)], 3, 38, true⟩) (gt5 (by omega) get_here) (OLe.one (cs := (xDp534 n3 mn)) (cs' := (xDp514 n3 mn n4)) ⟨VLe.refl _, (vle_nil _ _), VLe.refl _, trivial⟩ rfl) ?_
 refine RA.ph (sz := 5) (t := 29) (by decide) ?_
 show RA _ _ _ _ _ _ _ _ [((n4 + 3), some (oMsg ([] : List Msg))), ((n3 + 1), some ⟨[(xDp514 n3 mn n4)], 3, 38, true⟩), ((n4 + 2), some (oMsg ([] : List Msg))), (sn3, some ⟨[(xDp57 jnn3 mn n4)], 3, 101, true⟩), ((n4 + 1), some (oMsg ([] : List Msg))), (sn3, some ⟨[(xDp521 jnn3 mn n4)], 3, 101, true⟩), (n4, some (oMsg ([] : List Msg))), ((n3 + 1), some ⟨[(xDp534 n3 mn)], 3, 38, true⟩), ((n3 + 1), some ⟨[[(.slice none 0 0), (.slice none 0 0), (.slice none 0 0)]], 3, 38, true⟩), (n3, some (oIn (List.replicate (min (max (andN mn 31) 1) 16) dIn))), (sn3, some ⟨[(xDp533 jnn3 mn)], 3, 101, true⟩), (jnn3, some (oUx (List.replicate (min (max (andN mn 31) 1) 16) dUx)))] _
 refine RA.le (ob := ⟨[(xDp514 n3 mn n4)], 3, 38, true⟩) (ob' := ⟨[(xDp56 n3 mn n4)], 3, 38, true⟩) (get_there (by omega) get_here) (OLe.one (cs := (xDp514 n3 mn n4)) (cs' := (xDp56 n3 mn n4)) ⟨VLe.refl _, VLe.refl _, (vle_nil _ _), trivial⟩ rfl) ?_
 rw [rep_uI]
 show RA _ _ _ _ _ _ _ _ [((n3 + 1), some ⟨[(xDp56 n3 mn n4)], 3, 38, true⟩), ((n4 + 3), some (oMsg ([] : List Msg))), ((n3 + 1), some ⟨[(xDp514 n3 mn n4)], 3, 38, true⟩), ((n4 + 2), some (oMsg ([] : List Msg))), (sn3, some ⟨[(xDp57 jnn3 mn n4)], 3, 101, true⟩), ((n4 + 1), some (oMsg ([] : List Msg))), (sn3, some ⟨[(xDp521 jnn3 mn n4)], 3, 101, true⟩), (n4, some (oMsg ([] : List Msg))), ((n3 + 1), some ⟨[(xDp534 n3 mn)], 3, 38, true⟩), ((n3 + 1), some ⟨[[(.slice none 0 0), (.slice none 0 0), (.slice none 0 0)]], 3, 38, true⟩), (n3, some (oIn ((List.replicate (min (max (andN mn 31) 1) 16) dUx).map uI))), (sn3, some ⟨[(xDp533 jnn3 mn)], 3, 101, true⟩), (jnn3, some (oUx (List.replicate (min (max (andN mn 31) 1) 16) dUx)))] _
 refine RA.weaken (D' := [(sn3, some ⟨[(xDp57 jnn3 mn n4)], 3, 101, true⟩), ((n3 + 1), some ⟨[(xDp56 n3 mn n4)], 3, 38, true⟩), (jnn3, some (oUx (List.replicate (min (max (andN mn 31) 1) 16) dUx))), (n4, some (oMsg ([] : List Msg))), ((n4 + 1), some (oMsg ([] : List Msg))), (n3, some (oIn ((List.replicate (min (max (andN mn 31) 1) 16) dUx).map uI))), ((n4 + 2), some (oMsg ([] : List Msg))), ((n4 + 3), some (oMsg ([] : List Msg)))]) hd (Less.of (fac (mm (fun _ => get_here) (fun _ => (gt4 (by omega) get_here))) (fac (mm (fun _ => (get_there (by omega) get_here)) (fun _ => get_here)) (fac (mm (fun _ => (gt2 (by omega) get_here)) (fun _ => (gt12 (by omega) get_here))) (fac (mm (fun _ => (gt3 (by omega) get_here)) (fun _ => (gt7 (by omega) get_here))) (fac (mm (fun _ => (gt4 (by omega) get_here)) (fun _ => (gt5 (by omega) get_here))) (fac (mm (fun _ => (gt5 (by omega) get_here)) (fun _ => (gt10 (by omega) get_here))) (fac (mm (fun _ => (gt6 (by omega) get_here)) (fun _ => (gt3 (by omega) get_here))) (fac (mm (fun _ => (gt7 (by omega) get_here)) (fun _ => (get_there (by omega) get_here))) fan)))))))) (gone_of (by simp only [goneP, memP, List.cons_append, List.nil_append, true_or, or_true, true_and, and_true, or_false] <;> omega))) ?_
 refine RA.loop hd (fun kk_ τ n' D => (∃ i : Nat, ∃ NX : Nat, ∃ nx : List Ux, ∃ K : Nat, ∃ ws : List Msg, ∃ M : Nat, ∃ L2 : List Msg, ∃ jn : Nat, ∃ jw : Nat, ∃ jo : Nat, ∃ jx : Nat, ∃ jv : Nat, ∃ ju : Nat, kk_ = 60 - i ∧ (n4 + 4) ≤ n' ∧ Has τ [(0, (.int .i64 mn)), (1, va), (6, (Pt sn3 0 0)), (7, (.pointer (some ⟨(n3 + 1), 0, some 0⟩))), (8, (.int .i64 ((i : Nat) : Int)))] ∧ D = [(sn3, some ⟨[(xDp531 jn NX jw K jo M)], 3, 101, true⟩), ((n3 + 1), some ⟨[(xDp532 jx NX jv K ju M)], 3, 38, true⟩), (jn, some (oUx nx)), (jw, some (oMsg ws)), (jo, some (oMsg L2)), (jx, some (oIn (nx.map uI))), (jv, some (oMsg ws)), (ju, some (oMsg L2))] ∧ (∀ i ∈ keys D, i < n') ∧ i ≤ acts.length ∧ nx.length = NX ∧ ws.length = K ∧ L2.length = M ∧ NX ≤ 16 ∧ 0 < NX ∧ (i ≤ 60 ∧ K + M ≤ i) ∧ (∀ t, t < NX → (nx.getD t dUx).z < 65536) ∧ szs ws + szs L2 ≤ 5 * i ∧ sn3 ≠ jn ∧ sn3 ≠ jx ∧ (n3 + 1) ≠ jn ∧ (n3 + 1) ≠ jx ∧ jn ≠ jx ∧ (jn < jw ∧ jx < jw) ∧ jw < jo ∧ jo < jv ∧ jv < ju ∧ (sn3 < jw ∧ (n3 + 1) < jw ∧ n ≤ jn ∧ n ≤ jx))) (60 - 0) (⟨0, (min (max (andN mn 31) 1) 16), (List.replicate (min (max (andN mn 31) 1) 16) dUx), 0, [], 0, [], jnn3, n4, (n4 + 1), n3, (n4 + 2), (n4 + 3), rfl, by omega, ⟨rfl, rfl, rfl, rfl, rfl, trivial⟩, rfl, (kb8 (by omega)), ⟨by omega, List.length_replicate, rfl, rfl, by omega, by omega, by omega, rep_lt, by decide, by omega, by omega, by omega, by omega, by omega, by omega, by omega, by omega, by omega, by omega⟩⟩) ?_
 rintro kn5 τ5 n5 _ ⟨i, NX, nx, K, ws, M, L2, jn, jw, jo, jx, jv, ju, rfl, hn5, hHn5, rfl, hKn5, hIn5⟩
 rw [Has.eq hHn5]
 have hKn5_0 : sn3 < n5 := hKn5 _ (by simp only [keys, List.map_cons, List.map_nil, List.mem_cons, true_or, or_true])
 have hKn5_1 : (n3 + 1) < n5 := hKn5 _ (by simp only [keys, List.map_cons, List.map_nil, List.mem_cons, true_or, or_true])
 have hKn5_2 : jn < n5 := hKn5 _ (by simp only [keys, List.map_cons, List.map_nil, List.mem_cons, true_or, or_true])
 have hKn5_3 : jw < n5 := hKn5 _ (by simp only [keys, List.map_cons, List.map_nil, List.mem_cons, true_or, or_true])
 have hKn5_4 : jo < n5 := hKn5 _ (by simp only [keys, List.map_cons, List.map_nil, List.mem_cons, true_or, or_true])
 have hKn5_5 : jx < n5 := hKn5 _ (by simp only [keys, List.map_cons, List.map_nil, List.mem_cons, true_or, or_true])
 have hKn5_6 : jv < n5 := hKn5 _ (by simp only [keys, List.map_cons, List.map_nil, List.mem_cons, true_or, or_true])
 have hKn5_7 : ju < n5 := hKn5 _ (by simp only [keys, List.map_cons, List.map_nil, List.mem_cons, true_or, or_true])
 clear hKn5
 obtain ⟨hi1, hnx, hws, hL2, hN16, hN0, ⟨hi60, hKM⟩, hxa, hsz, ho1, ho2, ho3, ho4, ho5, ⟨ho6, ho7⟩, ho8, ho9, ho10, ⟨ho11, ho12, ho13, ho14⟩⟩ := hIn5
 refine RA.seq hd ?_
 refine RA.seq hd ?_
 refine RA.region env_ok ?_
 refine OA.p (some 31) (.int .i64 ((i : Nat) : Int)) rfl rfl rfl rfl ?_
 refine OA.p (some 32) va rfl rfl rfl rfl ?_
 refine OA.p (some 33) (.int .i64 ((acts.length : Nat) : Int)) rfl rfl rfl (r_lenP (c := cAct) rfl rfl rfl rfl rfl rfl hva rfl) ?_
 by_cases hc1 : ((i : Nat) : Int) < ((acts.length : Nat) : Int)
 ·
  obtain ⟨rest, hat⟩ := hva.get (m := i) (by omega)
  have lathat := hd.lt hat
  refine OA.p (some 34) (.bool true) rfl rfl rfl (Eq.trans (r_bin rfl rfl rfl (b_lss rfl)) (dT hc1)) ?_
  refine OA.p (some 35) (.bool true) rfl rfl rfl rfl ?_
  refine OA.p (some 36) (.int .i64 ((i : Nat) : Int)) rfl rfl rfl rfl ?_
  by_cases hc2 : ((i : Nat) : Int) < 60
  ·
   refine OA.p (some 37) (.bool true) rfl rfl rfl (Eq.trans (r_bin rfl rfl rfl (b_lss rfl)) (dT hc2)) ?_
   refine OA.p (some 38) (.bool true) rfl rfl rfl rfl ?_
   refine OA.nil ?_
   intro _
   refine RA.condT rfl ?_
   refine RA.skip env_ok ?_
   intro _
   refine RA.seq hd ?_
   refine RA.block ?_
   refine RA.seq hd ?_
   refine RA.region env_ok ?_
   refine OA.p (some 41) va rfl rfl rfl rfl ?_
   refine OA.p (some 42) (.int .i64 ((i : Nat) : Int)) rfl rfl rfl rfl ?_
   refine OA.p (some 43) (.pointer (some ⟨(rk va), i, some 0⟩)) rfl rfl rfl (r_iaP (c := cAct) (m := i) rfl rfl rfl rfl rfl rfl hva rfl (by omega) (gt8 (by omega) hat) rfl) ?_
   refine OA.p (some 44) (.agg ⟨(cAct (acts.getD i dAct))⟩) rfl rfl rfl (r_loadA (e := cAct (acts.getD i dAct)) rfl rfl rfl rfl (gt8 (by omega) hat) (mp_getA (by omega)) rfl rfl) ?_
   refine OA.op1 (dst := (some 9)) (v := (Pt n5 0 0)) (n1 := (n5 + 1)) (w := (n5, some ⟨[[(.int .i64 0), (.int .i64 0), (.int .i64 0), (.bool false), (.int .u32 0), (.string ByteArray.empty)]], 6, 40, true⟩)) rfl rfl rfl rfl (by omega) ?_
   refine OA.op1 (dst := none) (v := (.tuple #[])) (n1 := (n5 + 1)) (w := (n5, some ⟨[(cAct (acts.getD i dAct))], 6, 40, true⟩)) rfl rfl rfl (r_store rfl rfl rfl rfl rfl rfl rfl get_here rfl rfl (Nat.le_of_ble_eq_true rfl) rfl) (by omega) ?_
   refine OA.nil ?_
   intro _
   refine RA.weaken (D' := [(n5, some ⟨[(cAct (acts.getD i dAct))], 6, 40, true⟩), (sn3, some ⟨[(xDp531 jn NX jw K jo M)], 3, 101, true⟩), ((n3 + 1), some ⟨[(xDp532 jx NX jv K ju M)], 3, 38, true⟩), (jn, some (oUx nx)), (jw, some (oMsg ws)), (jo, some (oMsg L2)), (jx, some (oIn (nx.map uI))), (jv, some (oMsg ws)), (ju, some (oMsg L2))]) hd (Less.of (fac (mm (fun _ => get_here) (fun _ => get_here)) (fac (mm (fun _ => (get_there (by omega) get_here)) (fun _ => (gt2 (by omega) get_here))) (fac (mm (fun _ => (gt2 (by omega) get_here)) (fun _ => (gt3 (by omega) get_here))) (fac (mm (fun _ => (gt3 (by omega) get_here)) (fun _ => (gt4 (by omega) get_here))) (fac (mm (fun _ => (gt4 (by omega) get_here)) (fun _ => (gt5 (by omega) get_here))) (fac (mm (fun _ => (gt5 (by omega) get_here)) (fun _ => (gt6 (by omega) get_here))) (fac (mm (fun _ => (gt6 (by omega) get_here)) (fun _ => (gt7 (by omega) get_here))) (fac (mm (fun _ => (gt7 (by omega) get_here)) (fun _ => (gt8 (by omega) get_here))) (fac (mm (fun _ => (gt8 (by omega) get_here)) (fun _ => (gt9 (by omega) get_here))) fan))))))))) (gone_of (by simp only [goneP, memP, List.cons_append, List.nil_append, true_or, or_true, true_and, and_true, or_false] <;> omega))) ?_
   refine RA.seq hd (RA.imp (Q := fun x τ' n' D' => x = .normal ∧ ((∃ NX' : Nat, ∃ nx' : List Ux, ∃ K' : Nat, ∃ ws' : List Msg, ∃ M' : Nat, ∃ oo : Nat, ∃ pp : Nat, ∃ L5 : List Msg, ∃ L3 : List Msg, ∃ jn' : Nat, ∃ jw' : Nat, ∃ jo' : Nat, ∃ jx' : Nat, ∃ jv' : Nat, ∃ ju' : Nat, Has τ' [(0, (.int .i64 mn)), (1, va), (6, (Pt sn3 0 0)), (7, (.pointer (some ⟨(n3 + 1), 0, some 0⟩))), (8, (.int .i64 ((i : Nat) : Int)))] ∧ (∃ D2, Less n n' D' D2 ∧ D2 = [(sn3, some ⟨[[(.slice (some ⟨jn', 0, none⟩) NX' 0), (.slice (some ⟨jw', 0, none⟩) K' 2), (.slice (some ⟨jo', oo, none⟩) M' 2)]], 3, 101, true⟩), ((n3 + 1), some ⟨[[(.slice (some ⟨jx', 0, none⟩) NX' 0), (.slice (some ⟨jv', 0, none⟩) K' 2), (.slice (some ⟨ju', pp, none⟩) M' 2)]], 3, 38, true⟩), (jn', some (oUx nx')), (jw', some (oMsg ws')), (jo', some (oMsg L5)), (jx', some (oIn (nx'.map uI))), (jv', some (oMsg ws')), (ju', some (oMsg L3))]) ∧ (n5 + 1) ≤ n' ∧ (∀ i_ ∈ keys [(sn3, some ⟨[[(.slice (some ⟨jn', 0, none⟩) NX' 0), (.slice (some ⟨jw', 0, none⟩) K' 2), (.slice (some ⟨jo', oo, none⟩) M' 2)]], 3, 101, true⟩), ((n3 + 1), some ⟨[[(.slice (some ⟨jx', 0, none⟩) NX' 0), (.slice (some ⟨jv', 0, none⟩) K' 2), (.slice (some ⟨ju', pp, none⟩) M' 2)]], 3, 38, true⟩), (jn', some (oUx nx')), (jw', some (oMsg ws')), (jo', some (oMsg L5)), (jx', some (oIn (nx'.map uI))), (jv', some (oMsg ws')), (ju', some (oMsg L3))], i_ < n') ∧ nx'.length = NX' ∧ ws'.length = K' ∧ L3.length = pp + M' ∧ L5.length = oo + M' ∧ L5.drop oo = L3.drop pp ∧ (NX' ≤ 16 ∧ 0 < NX' ∧ K' + M' ≤ i + 1) ∧ (∀ t, t < NX' → (nx'.getD t dUx).z < 65536) ∧ szs ws' + szs (L3.drop pp) ≤ 5 * (i + 1) ∧ sn3 ≠ jn' ∧ sn3 ≠ jx' ∧ (n3 + 1) ≠ jn' ∧ (n3 + 1) ≠ jx' ∧ jn' ≠ jx' ∧ jn' < jw' ∧ jw' < jo' ∧ jo' < jv' ∧ jv' < ju' ∧ (sn3 < jw' ∧ (n3 + 1) < jw' ∧ n ≤ jn' ∧ n ≤ jx') ∧ jx' ≠ jw' ∧ jx' ≠ jo' ∧ jx' ≠ jv' ∧ jx' ≠ ju'))) ?_ ?_)
   ·
    refine RA.seq hd ?_
    refine RA.region env_ok ?_
    refine OA.p (some 45) (Pt n5 0 0) rfl rfl rfl rfl ?_
    refine OA.p (some 46) (.int .i64 (acts.getD i dAct).what) rfl rfl rfl (r_load1 rfl rfl rfl rfl rfl get_here rfl rfl) ?_
    refine OA.p (some 47) (.int .i64 (Int.tmod (acts.getD i dAct).what 5)) rfl rfl rfl (r_bin rfl rfl rfl (b_rem (by decide) rfl)) ?_
    refine OA.nil ?_
    intro _
    refine RA.block ?_
    refine RA.seq hd ?_
    refine RA.region env_ok ?_
    by_cases hc3 : (Int.tmod (acts.getD i dAct).what 5) = 3
    ·
     refine OA.p (some 78) (.bool true) rfl rfl rfl (Eq.trans (r_bin rfl rfl rfl (b_eql rfl)) (dT hc3)) ?_
     refine OA.p (some 77) (.bool true) rfl rfl rfl rfl ?_
     refine OA.nil ?_
     intro _
     refine RA.condT rfl ?_
     refine RA.seq hd ?_
     refine RA.region env_ok ?_
     refine OA.p (some 80) (Pt sn3 0 0) rfl rfl rfl rfl ?_
     by_cases hc4 : M = 0
     ·
      refine OA.call (dst := (some 81)) (all := [(Pt sn3 0 0)]) rfl rfl rfl rfl rfl rfl rfl rfl (CQ.imp (pReadN (hd.of (by omega) (kb9 (by omega))) sn3 jn NX jo M hc4 (.slice (some ⟨jw, 0, none⟩) K 2) rfl (get_there (by omega) get_here)) ?_)
      rintro _ n6 _ ⟨rfl, rfl⟩ hn6
      refine OA.app0 ?_
      refine OA.p (some 79) (.tuple ⟨[(.agg ⟨(cMsg dMsg)⟩), (.bool false)]⟩) rfl rfl rfl rfl ?_
      refine OA.p (some 82) (.agg ⟨(cMsg dMsg)⟩) rfl rfl rfl rfl ?_
      refine OA.p (some 83) (.bool false) rfl rfl rfl rfl ?_
      refine OA.op1 (dst := (some 10)) (v := (Pt n6 0 0)) (n1 := (n6 + 1)) (w := (n6, some ⟨[[(.int .i64 0), (.int .i64 0), (.bool false), (.int .u32 0), (.string ByteArray.empty)]], 5, 29, true⟩)) rfl rfl rfl rfl (by omega) ?_
      refine OA.op1 (dst := none) (v := (.tuple #[])) (n1 := (n6 + 1)) (w := (n6, some ⟨[(cMsg dMsg)], 5, 29, true⟩)) rfl rfl rfl (r_store rfl rfl rfl rfl rfl rfl rfl get_here rfl rfl (Nat.le_of_ble_eq_true rfl) rfl) (by omega) ?_
      refine OA.p (some 11) (.bool false) rfl rfl rfl rfl ?_
      refine OA.nil ?_
      intro _
      refine RA.weaken (D' := [(n6, some ⟨[(cMsg dMsg)], 5, 29, true⟩), (n5, some ⟨[(cAct (acts.getD i dAct))], 6, 40, true⟩), (sn3, some ⟨[(xDp531 jn NX jw K jo M)], 3, 101, true⟩), ((n3 + 1), some ⟨[(xDp532 jx NX jv K ju M)], 3, 38, true⟩), (jn, some (oUx nx)), (jw, some (oMsg ws)), (jo, some (oMsg L2)), (jx, some (oIn (nx.map uI))), (jv, some (oMsg ws)), (ju, some (oMsg L2))]) hd (Less.of (fac (mm (fun _ => get_here) (fun _ => get_here)) (fac (mm (fun _ => (get_there (by omega) get_here)) (fun _ => (gt2 (by omega) get_here))) (fac (mm (fun _ => (gt2 (by omega) get_here)) (fun _ => (gt3 (by omega) get_here))) (fac (mm (fun _ => (gt3 (by omega) get_here)) (fun _ => (gt4 (by omega) get_here))) (fac (mm (fun _ => (gt4 (by omega) get_here)) (fun _ => (gt5 (by omega) get_here))) (fac (mm (fun _ => (gt5 (by omega) get_here)) (fun _ => (gt6 (by omega) get_here))) (fac (mm (fun _ => (gt6 (by omega) get_here)) (fun _ => (gt7 (by omega) get_here))) (fac (mm (fun _ => (gt7 (by omega) get_here)) (fun _ => (gt8 (by omega) get_here))) (fac (mm (fun _ => (gt8 (by omega) get_here)) (fun _ => (gt9 (by omega) get_here))) (fac (mm (fun _ => (gt9 (by omega) get_here)) (fun _ => (gt10 (by omega) get_here))) fan)))))))))) (gone_of (by simp only [goneP, memP, List.cons_append, List.nil_append, true_or, or_true, true_and, and_true, or_false] <;> omega))) ?_
      refine RA.rebase [(0, (.int .i64 mn)), (1, va), (6, (Pt sn3 0 0)), (7, (.pointer (some ⟨(n3 + 1), 0, some 0⟩))), (8, (.int .i64 ((i : Nat) : Int))), (9, (Pt n5 0 0)), (10, (Pt n6 0 0)), (11, (.bool false)), (38, (.bool true)), (47, (.int .i64 (Int.tmod (acts.getD i dAct).what 5))), (77, (.bool true))] ⟨rfl, rfl, rfl, rfl, rfl, rfl, rfl, rfl, rfl, rfl, rfl, trivial⟩ (fun τr7 => ?_)
      refine RA.seq hd ?_
      refine RA.seq hd ?_
      refine RA.par (md := [some [], some [], some [(n3 + 1)], some [], some [], some [], some [], some [], some [], some [n6], some [], some [(n3 + 1)], none, none, some [], some [], some []]) env_ok (hd.of (by omega) (kb10 (by omega))) (by kernel_rfl) ?_
      refine PQ.pure (dst := (some 84)) (v := (.bool false)) rfl rfl rfl noStore (none_ok _ _) rfl ?_
      refine PQ.pure (dst := (some 85)) (v := (.pointer (some ⟨(n3 + 1), 0, some 2⟩))) rfl rfl rfl noStore (none_ok _ _) rfl ?_
      refine PQ.pure (dst := (some 86)) (v := (.slice (some ⟨ju, 0, none⟩) M 2)) rfl rfl rfl (app [((n3 + 1), some ⟨[(xDp532 jx NX jv K ju M)], 3, 38, true⟩)] noStore) (seen_one (V := []) (D := [(n6, some ⟨[(cMsg dMsg)], 5, 29, true⟩), (n5, some ⟨[(cAct (acts.getD i dAct))], 6, 40, true⟩), (sn3, some ⟨[(xDp531 jn NX jw K jo M)], 3, 101, true⟩), ((n3 + 1), some ⟨[(xDp532 jx NX jv K ju M)], 3, 38, true⟩), (jn, some (oUx nx)), (jw, some (oMsg ws)), (jo, some (oMsg L2)), (jx, some (oIn (nx.map uI))), (jv, some (oMsg ws)), (ju, some (oMsg L2))]) (by kernel_rfl) (gt3 (by omega) get_here)) (r_load1 rfl rfl rfl rfl rfl get_here rfl rfl) ?_
      refine PQ.pure (dst := (some 87)) (v := (.int .i64 ((M : Nat) : Int))) rfl rfl rfl noStore (none_ok _ _) rfl ?_
      refine PQ.pure (dst := (some 88)) (v := (.bool false)) rfl rfl rfl noStore (none_ok _ _) (r_bin rfl rfl rfl (b_gtr (decide_eq_false (by omega)))) ?_
      refine PQ.pure (dst := (some 89)) (v := (.bool false)) rfl rfl rfl noStore (none_ok _ _) rfl ?_
      refine PQ.pure (dst := (some 90)) (v := (.bool false)) rfl rfl rfl noStore (none_ok _ _) rfl ?_
      refine PQ.pure (dst := (some 91)) (v := (.bool false)) rfl rfl rfl noStore (none_ok _ _) rfl ?_
      refine PQ.pure (dst := (some 92)) (v := (.bool false)) rfl rfl rfl noStore (none_ok _ _) rfl ?_
      refine PQ.off (dst := (some 93)) rfl rfl rfl ?_
      refine PQ.off (dst := (some 94)) rfl rfl rfl ?_
      refine PQ.off (dst := (some 95)) rfl rfl rfl ?_
      refine PQ.off (dst := (some 96)) rfl rfl rfl ?_
      refine PQ.off (dst := (some 97)) rfl rfl rfl ?_
      refine PQ.off (dst := (some 98)) rfl rfl rfl ?_
      refine PQ.pure (dst := (some 99)) (v := (.bool false)) rfl rfl rfl noStore (none_ok _ _) rfl ?_
      refine PQ.pure (dst := (some 100)) (v := (.bool false)) rfl rfl rfl noStore (none_ok _ _) rfl ?_
      refine PQ.done (d := []) (by kernel_rfl) ?_
      intro _
      refine RA.condF rfl ?_
      refine RA.skip env_ok ?_
      intro _
      refine RA.reoff (idx := 1) (gt2 (by omega) get_here) (gt5 (by omega) get_here) (by omega) rfl (cs' := [(.slice (some ⟨jn, 0, none⟩) NX 0), (.slice (some ⟨(n6 + 1), 0, none⟩) K 2), (.slice (some ⟨jo, 0, none⟩) M 2)]) rfl (ob' := (oMsg ws)) (ro0) ?_
      refine RA.reoff (idx := 2) get_here (gt9 (by omega) get_here) (by omega) rfl (cs' := (xDp522 jn NX n6 K M)) rfl (ob' := (oMsg L2)) (ro0) ?_
      refine RA.reoff (idx := 1) (gt9 (by omega) get_here) (gt14 (by omega) get_here) (by omega) rfl (cs' := [(.slice (some ⟨jx, 0, none⟩) NX 0), (.slice (some ⟨(n6 + 3), 0, none⟩) K 2), (.slice (some ⟨ju, 0, none⟩) M 2)]) rfl (ob' := (oMsg ws)) (ro0) ?_
      refine RA.reoff (idx := 2) get_here (gt18 (by omega) get_here) (by omega) rfl (cs' := (xDp523 jx NX n6 K M)) rfl (ob' := (oMsg L2)) (ro0) ?_
      refine RA.weaken (D' := [((n3 + 1), some ⟨[(xDp523 jx NX n6 K M)], 3, 38, true⟩), ((n6 + 4), some (oMsg L2)), (ju, none), ((n6 + 3), some (oMsg ws)), (jv, none), (sn3, some ⟨[(xDp522 jn NX n6 K M)], 3, 101, true⟩), ((n6 + 2), some (oMsg L2)), (jo, none), ((n6 + 1), some (oMsg ws)), (jw, none), (n6, some ⟨[(cMsg dMsg)], 5, 29, true⟩), (n5, some ⟨[(cAct (acts.getD i dAct))], 6, 40, true⟩), (jn, some (oUx nx)), (jx, some (oIn (nx.map uI)))]) hd (Less.of (fac (mm (fun _ => get_here) (fun _ => get_here)) (fac (mm (fun _ => (get_there (by omega) get_here)) (fun _ => (get_there (by omega) get_here))) (fac (mm (fun _ => (gt2 (by omega) get_here)) (fun _ => (gt2 (by omega) get_here))) (fac (mm (fun _ => (gt3 (by omega) get_here)) (fun _ => (gt4 (by omega) get_here))) (fac (mm (fun _ => (gt4 (by omega) get_here)) (fun _ => (gt5 (by omega) get_here))) (fac (mm (fun _ => (gt5 (by omega) get_here)) (fun _ => (gt6 (by omega) get_here))) (fac (mm (fun _ => (gt6 (by omega) get_here)) (fun _ => (gt7 (by omega) get_here))) (fac (mm (fun _ => (gt7 (by omega) get_here)) (fun _ => (gt8 (by omega) get_here))) (fac (mm (fun _ => (gt8 (by omega) get_here)) (fun _ => (gt10 (by omega) get_here))) (fac (mm (fun _ => (gt9 (by omega) get_here)) (fun _ => (gt11 (by omega) get_here))) (fac (mm (fun _ => (gt10 (by omega) get_here)) (fun _ => (gt12 (by omega) get_here))) (fac (mm (fun _ => (gt11 (by omega) get_here)) (fun _ => (gt13 (by omega) get_here))) (fac (mm (fun _ => (gt12 (by omega) get_here)) (fun _ => (gt16 (by omega) get_here))) (fac (mm (fun _ => (gt13 (by omega) get_here)) (fun _ => (gt19 (by omega) get_here))) fan)))))))))))))) (gone_of (by simp only [goneP, memP, List.cons_append, List.nil_append, true_or, or_true, true_and, and_true, or_false] <;> omega))) ?_
      refine RA.seq hd ?_
      refine RA.region env_ok ?_
      refine OA.p (some 101) (.bool false) rfl rfl rfl rfl ?_
      refine OA.nil ?_
      intro _
      refine RA.condF rfl ?_
      refine RA.skip env_ok ?_
      exact ⟨rfl, ⟨NX, nx, K, ws, M, 0, 0, L2, L2, jn, (n6 + 1), (n6 + 2), jx, (n6 + 3), (n6 + 4), ⟨rfl, rfl, rfl, rfl, rfl, trivial⟩, ⟨[(sn3, some ⟨[(xDp522 jn NX n6 K M)], 3, 101, true⟩), ((n3 + 1), some ⟨[(xDp523 jx NX n6 K M)], 3, 38, true⟩), (jn, some (oUx nx)), ((n6 + 1), some (oMsg ws)), ((n6 + 2), some (oMsg L2)), (jx, some (oIn (nx.map uI))), ((n6 + 3), some (oMsg ws)), ((n6 + 4), some (oMsg L2))], (Less.of (fac (mm (fun _ => get_here) (fun _ => (gt5 (by omega) get_here))) (fac (mm (fun _ => (get_there (by omega) get_here)) (fun _ => get_here)) (fac (mm (fun _ => (gt2 (by omega) get_here)) (fun _ => (gt12 (by omega) get_here))) (fac (mm (fun _ => (gt3 (by omega) get_here)) (fun _ => (gt8 (by omega) get_here))) (fac (mm (fun _ => (gt4 (by omega) get_here)) (fun _ => (gt6 (by omega) get_here))) (fac (mm (fun _ => (gt5 (by omega) get_here)) (fun _ => (gt13 (by omega) get_here))) (fac (mm (fun _ => (gt6 (by omega) get_here)) (fun _ => (gt3 (by omega) get_here))) (fac (mm (fun _ => (gt7 (by omega) get_here)) (fun _ => (get_there (by omega) get_here))) fan)))))))) (gone_of (by simp only [goneP, memP, List.cons_append, List.nil_append, true_or, or_true, true_and, and_true, or_false] <;> omega))), rfl⟩, by omega, (kb8 (by omega)), ⟨by rw [hnx], by rw [hws], by have hh := (show L2.length = M from by rw [hL2]); omega, by have hh := (show L2.length = M from by rw [hL2]); omega, by first | rfl | (rw [List.drop_zero]; rfl), ⟨by omega, by omega, by omega⟩, hxa, szs_k hsz, by omega, by omega, by omega, by omega, by omega, by omega, by omega, by omega, by omega, by omega, by omega, by omega, by omega, by omega⟩⟩⟩
     ·
      refine OA.call (dst := (some 81)) (all := [(Pt sn3 0 0)]) rfl rfl rfl rfl rfl rfl rfl rfl (CQ.imp (pReadY (hd.of (by omega) (kb9 (by omega))) sn3 jn NX jo M L2 hL2 (by omega) (by omega) (.slice (some ⟨jw, 0, none⟩) K 2) rfl (get_there (by omega) get_here) (gt5 (by omega) get_here)) ?_)
      rintro _ n8 _ ⟨rfl, rfl⟩ hn8
      refine OA.app1 ?_
      refine OA.p (some 79) (.tuple ⟨[(.agg ⟨(cMsg (L2.getD 0 dMsg))⟩), (.bool true)]⟩) rfl rfl rfl rfl ?_
      refine OA.p (some 82) (.agg ⟨(cMsg (L2.getD 0 dMsg))⟩) rfl rfl rfl rfl ?_
      refine OA.p (some 83) (.bool true) rfl rfl rfl rfl ?_
      refine OA.op1 (dst := (some 10)) (v := (Pt n8 0 0)) (n1 := (n8 + 1)) (w := (n8, some ⟨[[(.int .i64 0), (.int .i64 0), (.bool false), (.int .u32 0), (.string ByteArray.empty)]], 5, 29, true⟩)) rfl rfl rfl rfl (by omega) ?_
      refine OA.op1 (dst := none) (v := (.tuple #[])) (n1 := (n8 + 1)) (w := (n8, some ⟨[(cMsg (L2.getD 0 dMsg))], 5, 29, true⟩)) rfl rfl rfl (r_store rfl rfl rfl rfl rfl rfl rfl get_here rfl rfl (Nat.le_of_ble_eq_true rfl) rfl) (by omega) ?_
      refine OA.p (some 11) (.bool true) rfl rfl rfl rfl ?_
      refine OA.nil ?_
      intro _
      refine RA.weaken (D' := [(n8, some ⟨[(cMsg (L2.getD 0 dMsg))], 5, 29, true⟩), (sn3, some ⟨[(xDp530 jn NX jw K jo M)], 3, 101, true⟩), (n5, some ⟨[(cAct (acts.getD i dAct))], 6, 40, true⟩), ((n3 + 1), some ⟨[(xDp532 jx NX jv K ju M)], 3, 38, true⟩), (jn, some (oUx nx)), (jw, some (oMsg ws)), (jo, some (oMsg L2)), (jx, some (oIn (nx.map uI))), (jv, some (oMsg ws)), (ju, some (oMsg L2))]) hd (Less.of (fac (mm (fun _ => get_here) (fun _ => get_here)) (fac (mm (fun _ => (get_there (by omega) get_here)) (fun _ => (gt2 (by omega) get_here))) (fac (mm (fun _ => (gt2 (by omega) get_here)) (fun _ => (gt3 (by omega) get_here))) (fac (mm (fun _ => (gt3 (by omega) get_here)) (fun _ => (gt5 (by omega) get_here))) (fac (mm (fun _ => (gt4 (by omega) get_here)) (fun _ => (gt6 (by omega) get_here))) (fac (mm (fun _ => (gt5 (by omega) get_here)) (fun _ => (gt7 (by omega) get_here))) (fac (mm (fun _ => (gt6 (by omega) get_here)) (fun _ => (gt8 (by omega) get_here))) (fac (mm (fun _ => (gt7 (by omega) get_here)) (fun _ => (gt9 (by omega) get_here))) (fac (mm (fun _ => (gt8 (by omega) get_here)) (fun _ => (gt10 (by omega) get_here))) (fac (mm (fun _ => (gt9 (by omega) get_here)) (fun _ => (gt11 (by omega) get_here))) fan)))))))))) (gone_of (by simp only [goneP, memP, List.cons_append, List.nil_append, true_or, or_true, true_and, and_true, or_false] <;> omega))) ?_
      refine RA.rebase [(0, (.int .i64 mn)), (1, va), (6, (Pt sn3 0 0)), (7, (.pointer (some ⟨(n3 + 1), 0, some 0⟩))), (8, (.int .i64 ((i : Nat) : Int))), (9, (Pt n5 0 0)), (10, (Pt n8 0 0)), (11, (.bool true)), (38, (.bool true)), (47, (.int .i64 (Int.tmod (acts.getD i dAct).what 5))), (77, (.bool true))] ⟨rfl, rfl, rfl, rfl, rfl, rfl, rfl, rfl, rfl, rfl, rfl, trivial⟩ (fun τr9 => ?_)
      refine RA.seq hd ?_
      refine RA.seq hd ?_
      refine RA.par (md := [some [], some [], some [(n3 + 1)], some [], some [], some [], some [], some [], some [], some [n8], some [], some [(n3 + 1)], some [ju], some [ju], some [], some [], some []]) env_ok (hd.of (by omega) (kb10 (by omega))) (by kernel_rfl) ?_
      refine PQ.pure (dst := (some 84)) (v := (.bool true)) rfl rfl rfl noStore (none_ok _ _) rfl ?_
      refine PQ.pure (dst := (some 85)) (v := (.pointer (some ⟨(n3 + 1), 0, some 2⟩))) rfl rfl rfl noStore (none_ok _ _) rfl ?_
      refine PQ.pure (dst := (some 86)) (v := (.slice (some ⟨ju, 0, none⟩) M 2)) rfl rfl rfl (app [((n3 + 1), some ⟨[(xDp532 jx NX jv K ju M)], 3, 38, true⟩)] noStore) (seen_one (V := []) (D := [(n8, some ⟨[(cMsg (L2.getD 0 dMsg))], 5, 29, true⟩), (sn3, some ⟨[(xDp530 jn NX jw K jo M)], 3, 101, true⟩), (n5, some ⟨[(cAct (acts.getD i dAct))], 6, 40, true⟩), ((n3 + 1), some ⟨[(xDp532 jx NX jv K ju M)], 3, 38, true⟩), (jn, some (oUx nx)), (jw, some (oMsg ws)), (jo, some (oMsg L2)), (jx, some (oIn (nx.map uI))), (jv, some (oMsg ws)), (ju, some (oMsg L2))]) (by kernel_rfl) (gt3 (by omega) get_here)) (r_load1 rfl rfl rfl rfl rfl get_here rfl rfl) ?_
      refine PQ.pure (dst := (some 87)) (v := (.int .i64 ((M : Nat) : Int))) rfl rfl rfl noStore (none_ok _ _) rfl ?_
      refine PQ.pure (dst := (some 88)) (v := (.bool true)) rfl rfl rfl noStore (none_ok _ _) (r_bin rfl rfl rfl (b_gtr (decide_eq_true (by omega)))) ?_
      refine PQ.pure (dst := (some 89)) (v := (.bool false)) rfl rfl rfl noStore (none_ok _ _) rfl ?_
      refine PQ.pure (dst := (some 90)) (v := (.bool false)) rfl rfl rfl noStore (none_ok _ _) rfl ?_
      refine PQ.pure (dst := (some 91)) (v := (.bool true)) rfl rfl rfl noStore (none_ok _ _) rfl ?_
      refine PQ.pure (dst := (some 92)) (v := (.bool true)) rfl rfl rfl noStore (none_ok _ _) rfl ?_
      refine PQ.pure (dst := (some 93)) (v := (.agg ⟨[(.int .i64 (L2.getD 0 dMsg).st), (.int .i64 (L2.getD 0 dMsg).ssn), (.bool (L2.getD 0 dMsg).loose), (W (L2.getD 0 dMsg).proto), (.string (L2.getD 0 dMsg).data)]⟩)) rfl rfl rfl (app [(n8, some ⟨[(cMsg (L2.getD 0 dMsg))], 5, 29, true⟩)] noStore) (seen_one (V := []) (D := [(n8, some ⟨[(cMsg (L2.getD 0 dMsg))], 5, 29, true⟩), (sn3, some ⟨[(xDp530 jn NX jw K jo M)], 3, 101, true⟩), (n5, some ⟨[(cAct (acts.getD i dAct))], 6, 40, true⟩), ((n3 + 1), some ⟨[(xDp532 jx NX jv K ju M)], 3, 38, true⟩), (jn, some (oUx nx)), (jw, some (oMsg ws)), (jo, some (oMsg L2)), (jx, some (oIn (nx.map uI))), (jv, some (oMsg ws)), (ju, some (oMsg L2))]) (by kernel_rfl) get_here) (r_loadA rfl rfl rfl rfl get_here rfl rfl rfl) ?_
      refine PQ.pure (dst := (some 94)) (v := (.pointer (some ⟨(n3 + 1), 0, some 2⟩))) rfl rfl rfl noStore (none_ok _ _) rfl ?_
      refine PQ.pure (dst := (some 95)) (v := (.slice (some ⟨ju, 0, none⟩) M 2)) rfl rfl rfl (app [((n3 + 1), some ⟨[(xDp532 jx NX jv K ju M)], 3, 38, true⟩)] noStore) (seen_one (V := []) (D := [(n8, some ⟨[(cMsg (L2.getD 0 dMsg))], 5, 29, true⟩), (sn3, some ⟨[(xDp530 jn NX jw K jo M)], 3, 101, true⟩), (n5, some ⟨[(cAct (acts.getD i dAct))], 6, 40, true⟩), ((n3 + 1), some ⟨[(xDp532 jx NX jv K ju M)], 3, 38, true⟩), (jn, some (oUx nx)), (jw, some (oMsg ws)), (jo, some (oMsg L2)), (jx, some (oIn (nx.map uI))), (jv, some (oMsg ws)), (ju, some (oMsg L2))]) (by kernel_rfl) (gt3 (by omega) get_here)) (r_load1 rfl rfl rfl rfl rfl get_here rfl rfl) ?_
      refine PQ.pure (dst := (some 96)) (v := (Pt ju 0 0)) rfl rfl rfl (app [(ju, some (oMsg L2))] noStore) (seen_one (V := []) (D := [(n8, some ⟨[(cMsg (L2.getD 0 dMsg))], 5, 29, true⟩), (sn3, some ⟨[(xDp530 jn NX jw K jo M)], 3, 101, true⟩), (n5, some ⟨[(cAct (acts.getD i dAct))], 6, 40, true⟩), ((n3 + 1), some ⟨[(xDp532 jx NX jv K ju M)], 3, 38, true⟩), (jn, some (oUx nx)), (jw, some (oMsg ws)), (jo, some (oMsg L2)), (jx, some (oIn (nx.map uI))), (jv, some (oMsg ws)), (ju, some (oMsg L2))]) (by kernel_rfl) (gt9 (by omega) get_here)) (r_iaS (l := 0) rfl rfl rfl rfl rfl rfl (by omega) (by omega) get_here rfl (by omega)) ?_
      refine PQ.pure (dst := (some 97)) (v := (.agg ⟨(cMsg (L2.getD 0 dMsg))⟩)) rfl rfl rfl (app [(ju, some (oMsg L2))] noStore) (seen_one (V := []) (D := [(n8, some ⟨[(cMsg (L2.getD 0 dMsg))], 5, 29, true⟩), (sn3, some ⟨[(xDp530 jn NX jw K jo M)], 3, 101, true⟩), (n5, some ⟨[(cAct (acts.getD i dAct))], 6, 40, true⟩), ((n3 + 1), some ⟨[(xDp532 jx NX jv K ju M)], 3, 38, true⟩), (jn, some (oUx nx)), (jw, some (oMsg ws)), (jo, some (oMsg L2)), (jx, some (oIn (nx.map uI))), (jv, some (oMsg ws)), (ju, some (oMsg L2))]) (by kernel_rfl) (gt9 (by omega) get_here)) (r_loadR (c := cMsg) dMsg rfl rfl rfl rfl get_here (by rw [hL2]; omega) rfl) ?_
      refine PQ.pure (dst := (some 98)) (v := (.bool false)) rfl rfl rfl noStore (none_ok _ _) (r_neqA (r := true) rfl rfl rfl (by kernel_rfl) (aeq_self _ _ _ (by kernel_rfl))) ?_
      refine PQ.pure (dst := (some 99)) (v := (.bool false)) rfl rfl rfl noStore (none_ok _ _) rfl ?_
      refine PQ.pure (dst := (some 100)) (v := (.bool false)) rfl rfl rfl noStore (none_ok _ _) rfl ?_
      refine PQ.done (d := []) (by kernel_rfl) ?_
      intro _
      refine RA.condF rfl ?_
      refine RA.skip env_ok ?_
      intro _
      refine RA.reoff (idx := 1) (get_there (by omega) get_here) (gt5 (by omega) get_here) (by omega) rfl (cs' := [(.slice (some ⟨jn, 0, none⟩) NX 0), (.slice (some ⟨(n8 + 1), 0, none⟩) K 2), (.slice (some ⟨jo, 1, none⟩) (M - 1) 2)]) rfl (ob' := (oMsg ws)) (ro0) ?_
      refine RA.reoff (idx := 2) get_here (gt9 (by omega) get_here) (by omega) rfl (cs' := (xDp512 jn NX n8 K M)) rfl (ob' := (oMsg (L2.drop 1))) (roD) ?_
      refine RA.reoff (idx := 1) (gt9 (by omega) get_here) (gt14 (by omega) get_here) (by omega) rfl (cs' := [(.slice (some ⟨jx, 0, none⟩) NX 0), (.slice (some ⟨(n8 + 3), 0, none⟩) K 2), (.slice (some ⟨ju, 0, none⟩) M 2)]) rfl (ob' := (oMsg ws)) (ro0) ?_
      refine RA.reoff (idx := 2) get_here (gt18 (by omega) get_here) (by omega) rfl (cs' := [(.slice (some ⟨jx, 0, none⟩) NX 0), (.slice (some ⟨(n8 + 3), 0, none⟩) K 2), (.slice (some ⟨(n8 + 4), 0, none⟩) M 2)]) rfl (ob' := (oMsg L2)) (ro0) ?_
      refine RA.weaken (D' := [((n3 + 1), some ⟨[[(.slice (some ⟨jx, 0, none⟩) NX 0), (.slice (some ⟨(n8 + 3), 0, none⟩) K 2), (.slice (some ⟨(n8 + 4), 0, none⟩) M 2)]], 3, 38, true⟩), ((n8 + 4), some (oMsg L2)), (ju, none), ((n8 + 3), some (oMsg ws)), (jv, none), (sn3, some ⟨[(xDp512 jn NX n8 K M)], 3, 101, true⟩), ((n8 + 2), some (oMsg (L2.drop 1))), (jo, none), ((n8 + 1), some (oMsg ws)), (jw, none), (n8, some ⟨[(cMsg (L2.getD 0 dMsg))], 5, 29, true⟩), (n5, some ⟨[(cAct (acts.getD i dAct))], 6, 40, true⟩), (jn, some (oUx nx)), (jx, some (oIn (nx.map uI)))]) hd (Less.of (fac (mm (fun _ => get_here) (fun _ => get_here)) (fac (mm (fun _ => (get_there (by omega) get_here)) (fun _ => (get_there (by omega) get_here))) (fac (mm (fun _ => (gt2 (by omega) get_here)) (fun _ => (gt2 (by omega) get_here))) (fac (mm (fun _ => (gt3 (by omega) get_here)) (fun _ => (gt4 (by omega) get_here))) (fac (mm (fun _ => (gt4 (by omega) get_here)) (fun _ => (gt5 (by omega) get_here))) (fac (mm (fun _ => (gt5 (by omega) get_here)) (fun _ => (gt6 (by omega) get_here))) (fac (mm (fun _ => (gt6 (by omega) get_here)) (fun _ => (gt7 (by omega) get_here))) (fac (mm (fun _ => (gt7 (by omega) get_here)) (fun _ => (gt8 (by omega) get_here))) (fac (mm (fun _ => (gt8 (by omega) get_here)) (fun _ => (gt10 (by omega) get_here))) (fac (mm (fun _ => (gt9 (by omega) get_here)) (fun _ => (gt11 (by omega) get_here))) (fac (mm (fun _ => (gt10 (by omega) get_here)) (fun _ => (gt12 (by omega) get_here))) (fac (mm (fun _ => (gt11 (by omega) get_here)) (fun _ => (gt14 (by omega) get_here))) (fac (mm (fun _ => (gt12 (by omega) get_here)) (fun _ => (gt16 (by omega) get_here))) (fac (mm (fun _ => (gt13 (by omega) get_here)) (fun _ => (gt19 (by omega) get_here))) fan)))))))))))))) (gone_of (by simp only [goneP, memP, List.cons_append, List.nil_append, true_or, or_true, true_and, and_true, or_false] <;> omega))) ?_
      refine RA.seq hd ?_
      refine RA.region env_ok ?_
      refine OA.p (some 101) (.bool true) rfl rfl rfl rfl ?_
      refine OA.nil ?_
      intro _
      refine RA.condT rfl ?_
      refine RA.region env_ok ?_
      refine OA.p (some 102) (.pointer (some ⟨(n3 + 1), 0, some 2⟩)) rfl rfl rfl rfl ?_
      refine OA.p (some 103) (.slice (some ⟨(n8 + 4), 0, none⟩) M 2) rfl rfl rfl (r_load1 rfl rfl rfl rfl rfl get_here rfl rfl) ?_
      refine OA.p (some 104) (.slice (some ⟨(n8 + 4), 1, none⟩) (M - 1) 2) rfl rfl rfl (r_cut2 (a := 1) (b := M) rfl rfl (fun _ => rfl) (fun _ => rfl) rfl rfl rfl rfl rfl (get_there (by omega) get_here) rfl (by omega) (by omega) (by rw [List.length_map, hL2]; omega) (by omega) (by omega)) ?_
      refine OA.p (some 105) (.pointer (some ⟨(n3 + 1), 0, some 2⟩)) rfl rfl rfl rfl ?_
      refine OA.op1 (dst := none) (v := (.tuple #[])) (n1 := (n8 + 5)) (w := ((n3 + 1), some ⟨[[(.slice (some ⟨jx, 0, none⟩) NX 0), (.slice (some ⟨(n8 + 3), 0, none⟩) K 2), (.slice (some ⟨(n8 + 4), 1, none⟩) (M - 1) 2)]], 3, 38, true⟩)) rfl rfl rfl (r_store rfl rfl rfl rfl rfl rfl rfl get_here rfl rfl (Nat.le_of_ble_eq_true rfl) rfl) (by omega) ?_
      refine OA.nil ?_
      exact ⟨rfl, ⟨NX, nx, K, ws, (M - 1), 0, 1, (L2.drop 1), L2, jn, (n8 + 1), (n8 + 2), jx, (n8 + 3), (n8 + 4), ⟨rfl, rfl, rfl, rfl, rfl, trivial⟩, ⟨[(sn3, some ⟨[(xDp512 jn NX n8 K M)], 3, 101, true⟩), ((n3 + 1), some ⟨[[(.slice (some ⟨jx, 0, none⟩) NX 0), (.slice (some ⟨(n8 + 3), 0, none⟩) K 2), (.slice (some ⟨(n8 + 4), 1, none⟩) (M - 1) 2)]], 3, 38, true⟩), (jn, some (oUx nx)), ((n8 + 1), some (oMsg ws)), ((n8 + 2), some (oMsg (L2.drop 1))), (jx, some (oIn (nx.map uI))), ((n8 + 3), some (oMsg ws)), ((n8 + 4), some (oMsg L2))], (Less.of (fac (mm (fun _ => get_here) (fun _ => (gt6 (by omega) get_here))) (fac (mm (fun _ => (get_there (by omega) get_here)) (fun _ => get_here)) (fac (mm (fun _ => (gt2 (by omega) get_here)) (fun _ => (gt13 (by omega) get_here))) (fac (mm (fun _ => (gt3 (by omega) get_here)) (fun _ => (gt9 (by omega) get_here))) (fac (mm (fun _ => (gt4 (by omega) get_here)) (fun _ => (gt7 (by omega) get_here))) (fac (mm (fun _ => (gt5 (by omega) get_here)) (fun _ => (gt14 (by omega) get_here))) (fac (mm (fun _ => (gt6 (by omega) get_here)) (fun _ => (gt4 (by omega) get_here))) (fac (mm (fun _ => (gt7 (by omega) get_here)) (fun _ => (gt2 (by omega) get_here))) fan)))))))) (gone_of (by simp only [goneP, memP, List.cons_append, List.nil_append, true_or, or_true, true_and, and_true, or_false] <;> omega))), rfl⟩, by omega, (kb8 (by omega)), ⟨by rw [hnx], by rw [hws], by have hh := (show L2.length = M from by rw [hL2]); omega, by have hh := (show (L2.drop 1).length = (M - 1) from by rw [List.length_drop, hL2] <;> omega); omega, by first | rfl | (rw [List.drop_zero]; rfl), ⟨by omega, by omega, by omega⟩, hxa, szs_d hsz, by omega, by omega, by omega, by omega, by omega, by omega, by omega, by omega, by omega, by omega, by omega, by omega, by omega, by omega⟩⟩⟩
    ·
     refine OA.p (some 78) (.bool false) rfl rfl rfl (Eq.trans (r_bin rfl rfl rfl (b_eql rfl)) (dF hc3)) ?_
     refine OA.p (some 77) (.bool false) rfl rfl rfl rfl ?_
     refine OA.nil ?_
     intro _
     refine RA.condF rfl ?_
     refine RA.seq hd ?_
     refine RA.region env_ok ?_
     by_cases hc5 : (Int.tmod (acts.getD i dAct).what 5) = 4
     ·
      refine OA.p (some 107) (.bool true) rfl rfl rfl (Eq.trans (r_bin rfl rfl rfl (b_eql rfl)) (dT hc5)) ?_
      refine OA.p (some 106) (.bool true) rfl rfl rfl rfl ?_
      refine OA.nil ?_
      intro _
      refine RA.condT rfl ?_
      refine RA.seq hd ?_
      refine RA.region env_ok ?_
      refine OA.p (some 108) (Pt n5 0 1) rfl rfl rfl rfl ?_
      refine OA.p (some 109) (Pt n5 0 2) rfl rfl rfl rfl ?_
      refine OA.p (some 110) (.int .i64 (acts.getD i dAct).ssn) rfl rfl rfl (r_load1 rfl rfl rfl rfl rfl get_here rfl rfl) ?_
      have hm10 := andN_le (acts.getD i dAct).ssn 3 (by decide)
      refine OA.p (some 111) (.int .i64 (((andN (acts.getD i dAct).ssn 3) : Nat) : Int)) rfl rfl rfl (r_bin rfl rfl rfl (b_andN (acts.getD i dAct).ssn 3 (by decide))) ?_
      refine OA.p (some 12) (.int .i64 (((andN (acts.getD i dAct).ssn 3) : Nat) : Int)) rfl rfl rfl rfl ?_
      refine OA.nil ?_
      intro _
      refine RA.rebase [(0, (.int .i64 mn)), (1, va), (6, (Pt sn3 0 0)), (7, (.pointer (some ⟨(n3 + 1), 0, some 0⟩))), (8, (.int .i64 ((i : Nat) : Int))), (9, (Pt n5 0 0)), (12, (.int .i64 (((andN (acts.getD i dAct).ssn 3) : Nat) : Int))), (38, (.bool true)), (47, (.int .i64 (Int.tmod (acts.getD i dAct).what 5))), (77, (.bool false)), (106, (.bool true))] ⟨rfl, rfl, rfl, rfl, rfl, rfl, rfl, rfl, rfl, rfl, rfl, trivial⟩ (fun τr11 => ?_)
      refine RA.seq hd ?_
      refine RA.region env_ok ?_
      refine OA.p (some 112) (Pt sn3 0 0) rfl rfl rfl rfl ?_
      refine OA.p (some 113) (.int .i64 (((andN (acts.getD i dAct).ssn 3) : Nat) : Int)) rfl rfl rfl rfl ?_
      by_cases hc6 : (min (andN (acts.getD i dAct).ssn 3) (16 - NX)) = 0
      ·
       refine OA.call (dst := (some 114)) (all := [(Pt sn3 0 0), (.int .i64 (((andN (acts.getD i dAct).ssn 3) : Nat) : Int))]) rfl rfl rfl rfl rfl rfl rfl rfl (CQ.imp (pGrow0 (hd.of (by omega) (kb9 (by omega))) sn3 jn NX (andN (acts.getD i dAct).ssn 3) nx hnx (by omega) (by omega) (by omega) (.slice (some ⟨jw, 0, none⟩) K 2) (.slice (some ⟨jo, 0, none⟩) M 2) rfl rfl hc6 (get_there (by omega) get_here) (gt3 (by omega) get_here)) ?_)
       rintro _ n12 _ ⟨rfl, rfl⟩ hn12
       refine OA.app1 ?_
       refine OA.nil ?_
       intro _
       refine RA.reoff (idx := 1) get_here (gt5 (by omega) get_here) (by omega) rfl (cs' := [(.slice (some ⟨jn, 0, none⟩) NX 0), (.slice (some ⟨n12, 0, none⟩) K 2), (.slice (some ⟨jo, 0, none⟩) M 2)]) rfl (ob' := (oMsg ws)) (ro0) ?_
       refine RA.reoff (idx := 2) get_here (gt9 (by omega) get_here) (by omega) rfl (cs' := (xDp527 jn NX n12 K M)) rfl (ob' := (oMsg L2)) (ro0) ?_
       refine RA.reoff (idx := 1) (gt9 (by omega) get_here) (gt14 (by omega) get_here) (by omega) rfl (cs' := [(.slice (some ⟨jx, 0, none⟩) NX 0), (.slice (some ⟨(n12 + 2), 0, none⟩) K 2), (.slice (some ⟨ju, 0, none⟩) M 2)]) rfl (ob' := (oMsg ws)) (ro0) ?_
       refine RA.reoff (idx := 2) get_here (gt18 (by omega) get_here) (by omega) rfl (cs' := (xDp515 jx NX n12 K M)) rfl (ob' := (oMsg L2)) (ro0) ?_
       refine RA.weaken (D' := [((n3 + 1), some ⟨[(xDp515 jx NX n12 K M)], 3, 38, true⟩), ((n12 + 3), some (oMsg L2)), (ju, none), ((n12 + 2), some (oMsg ws)), (jv, none), (sn3, some ⟨[(xDp527 jn NX n12 K M)], 3, 101, true⟩), ((n12 + 1), some (oMsg L2)), (jo, none), (n12, some (oMsg ws)), (jw, none), (n5, some ⟨[(cAct (acts.getD i dAct))], 6, 40, true⟩), (jn, some (oUx nx)), (jx, some (oIn (nx.map uI)))]) hd (Less.of (fac (mm (fun _ => get_here) (fun _ => get_here)) (fac (mm (fun _ => (get_there (by omega) get_here)) (fun _ => (get_there (by omega) get_here))) (fac (mm (fun _ => (gt2 (by omega) get_here)) (fun _ => (gt2 (by omega) get_here))) (fac (mm (fun _ => (gt3 (by omega) get_here)) (fun _ => (gt4 (by omega) get_here))) (fac (mm (fun _ => (gt4 (by omega) get_here)) (fun _ => (gt5 (by omega) get_here))) (fac (mm (fun _ => (gt5 (by omega) get_here)) (fun _ => (gt6 (by omega) get_here))) (fac (mm (fun _ => (gt6 (by omega) get_here)) (fun _ => (gt7 (by omega) get_here))) (fac (mm (fun _ => (gt7 (by omega) get_here)) (fun _ => (gt8 (by omega) get_here))) (fac (mm (fun _ => (gt8 (by omega) get_here)) (fun _ => (gt10 (by omega) get_here))) (fac (mm (fun _ => (gt9 (by omega) get_here)) (fun _ => (gt11 (by omega) get_here))) (fac (mm (fun _ => (gt10 (by omega) get_here)) (fun _ => (gt13 (by omega) get_here))) (fac (mm (fun _ => (gt11 (by omega) get_here)) (fun _ => (gt16 (by omega) get_here))) (fac (mm (fun _ => (gt12 (by omega) get_here)) (fun _ => (gt19 (by omega) get_here))) fan))))))))))))) (gone_of (by simp only [goneP, memP, List.cons_append, List.nil_append, true_or, or_true, true_and, and_true, or_false] <;> omega))) ?_
       refine RA.par (md := [some [], some [], some [(n3 + 1)], none, some [], some [], some [(n3 + 1)], some [], some [], some [], none, some [], none]) env_ok (hd.of (by omega) (kb13 (by omega))) (by kernel_rfl) ?_
       refine PQ.op (dst := (some 115)) (v := (.slice (some ⟨(n12 + 4), 0, none⟩) 0 0)) (n1 := (n12 + 5)) (d1 := [((n12 + 4), some (oIn ([] : List In)))]) rfl rfl rfl noStore (none_ok _ _) (by kernel_rfl) (by omega) (kp1 (wr_new (by omega) (by omega))) ?_
       refine PQ.pure (dst := (some 116)) (v := (.pointer (some ⟨(n3 + 1), 0, some 0⟩))) rfl rfl rfl noStore (none_ok _ _) rfl ?_
       refine PQ.pure (dst := (some 117)) (v := (.slice (some ⟨jx, 0, none⟩) NX 0)) rfl rfl rfl (app [((n3 + 1), some ⟨[(xDp515 jx NX n12 K M)], 3, 38, true⟩)] noStore) (seen_one (V := []) (D := [((n3 + 1), some ⟨[(xDp515 jx NX n12 K M)], 3, 38, true⟩), ((n12 + 3), some (oMsg L2)), (ju, none), ((n12 + 2), some (oMsg ws)), (jv, none), (sn3, some ⟨[(xDp527 jn NX n12 K M)], 3, 101, true⟩), ((n12 + 1), some (oMsg L2)), (jo, none), (n12, some (oMsg ws)), (jw, none), (n5, some ⟨[(cAct (acts.getD i dAct))], 6, 40, true⟩), (jn, some (oUx nx)), (jx, some (oIn (nx.map uI)))]) (by kernel_rfl) get_here) (r_load1 rfl rfl rfl rfl rfl get_here rfl rfl) ?_
       refine PQ.op (dst := (some 118)) (v := (.slice (some ⟨(n12 + 5), 0, none⟩) NX 0)) (n1 := (n12 + 6)) (d1 := [((n12 + 5), some (oIn (nx.map uI))), ((n12 + 4), none)]) rfl rfl rfl _ (seen_any (V := [((n12 + 4), some (oIn ([] : List In)))]) (D := [((n3 + 1), some ⟨[(xDp515 jx NX n12 K M)], 3, 38, true⟩), ((n12 + 3), some (oMsg L2)), (ju, none), ((n12 + 2), some (oMsg ws)), (jv, none), (sn3, some ⟨[(xDp527 jn NX n12 K M)], 3, 101, true⟩), ((n12 + 1), some (oMsg L2)), (jo, none), (n12, some (oMsg ws)), (jw, none), (n5, some ⟨[(cAct (acts.getD i dAct))], 6, 40, true⟩), (jn, some (oUx nx)), (jx, some (oIn (nx.map uI)))]) (by kernel_rfl)) (r_appendL (c := cIn) (l' := (nx.map uI)) rfl rfl rfl rfl rfl rfl rfl rfl rfl rfl (by decide) get_here (gt13 (by omega) get_here) (by rw [show ([] : List In).length = 0 from rfl]) (by omega) (by rw [List.length_map, hnx]; omega) (by rw [List.nil_append, take_all' (by rw [List.length_map, hnx])]) (by omega) (of_decide_eq_true (by kernel_rfl)) (by omega)) (by omega) (kp2 (wr_new (by omega) (by omega)) (wr_late [4, 5, 6, 7, 8, 9] (by kernel_rfl) (by kernel_rfl) (by omega) 0 (by kernel_rfl) (by simp [keys]) (fac (lo0 rfl) (fac (lo0 rfl) (fac (lo1 rfl (by omega)) (fac (lo0 rfl) (fac (lo0 rfl) (fac (lo0 rfl) fan)))))))) ?_
       refine PQ.pure (dst := (some 119)) (v := (.int .i64 (((andN (acts.getD i dAct).ssn 3) : Nat) : Int))) rfl rfl rfl noStore (none_ok _ _) rfl ?_
       refine PQ.pure (dst := (some 120)) (v := (.pointer (some ⟨(n3 + 1), 0, some 0⟩))) rfl rfl rfl noStore (none_ok _ _) rfl ?_
       refine PQ.pure (dst := (some 121)) (v := (.slice (some ⟨jx, 0, none⟩) NX 0)) rfl rfl rfl (app [((n3 + 1), some ⟨[(xDp515 jx NX n12 K M)], 3, 38, true⟩)] noStore) (seen_one (V := []) (D := [((n3 + 1), some ⟨[(xDp515 jx NX n12 K M)], 3, 38, true⟩), ((n12 + 3), some (oMsg L2)), (ju, none), ((n12 + 2), some (oMsg ws)), (jv, none), (sn3, some ⟨[(xDp527 jn NX n12 K M)], 3, 101, true⟩), ((n12 + 1), some (oMsg L2)), (jo, none), (n12, some (oMsg ws)), (jw, none), (n5, some ⟨[(cAct (acts.getD i dAct))], 6, 40, true⟩), (jn, some (oUx nx)), (jx, some (oIn (nx.map uI)))]) (by kernel_rfl) get_here) (r_load1 rfl rfl rfl rfl rfl get_here rfl rfl) ?_
       refine PQ.pure (dst := (some 122)) (v := (.int .i64 ((NX : Nat) : Int))) rfl rfl rfl noStore (none_ok _ _) rfl ?_
       refine PQ.pure (dst := (some 123)) (v := (.int .i64 (((16 - NX) : Nat) : Int))) rfl rfl rfl noStore (none_ok _ _) (r_bin rfl rfl rfl (b_sub (i64_eq (by omega)))) ?_
       refine PQ.pure (dst := (some 124)) (v := (.int .i64 (((min (andN (acts.getD i dAct).ssn 3) (16 - NX)) : Nat) : Int))) rfl rfl rfl noStore (none_ok _ _) (r_min (a := (andN (acts.getD i dAct).ssn 3)) (b := (16 - NX)) rfl rfl rfl) ?_
       by_cases hc7 : (min (andN (acts.getD i dAct).ssn 3) (16 - NX)) = 0
       ·
        refine PQ.pure (dst := (some 125)) (v := (.slice (some ⟨(n12 + 5), 0, none⟩) NX 0)) rfl rfl rfl _ (seen_any (V := [((n12 + 5), some (oIn (nx.map uI))), ((n12 + 4), none), ((n12 + 4), some (oIn ([] : List In)))]) (D := [((n3 + 1), some ⟨[(xDp515 jx NX n12 K M)], 3, 38, true⟩), ((n12 + 3), some (oMsg L2)), (ju, none), ((n12 + 2), some (oMsg ws)), (jv, none), (sn3, some ⟨[(xDp527 jn NX n12 K M)], 3, 101, true⟩), ((n12 + 1), some (oMsg L2)), (jo, none), (n12, some (oMsg ws)), (jw, none), (n5, some ⟨[(cAct (acts.getD i dAct))], 6, 40, true⟩), (jn, some (oUx nx)), (jx, some (oIn (nx.map uI)))]) (by kernel_rfl)) (r_appz0 rfl rfl rfl rfl rfl rfl rfl rfl rfl (by decide) (of_decide_eq_true (by kernel_rfl)) hc7) ?_
        refine PQ.pure (dst := (some 126)) (v := (.pointer (some ⟨(n3 + 1), 0, some 0⟩))) rfl rfl rfl noStore (none_ok _ _) rfl ?_
        refine PQ.op (dst := none) (v := (.tuple #[])) (n1 := (n12 + 6)) (d1 := [((n3 + 1), some ⟨[(xDp59 n12 NX K M)], 3, 38, true⟩)]) rfl rfl rfl _ (seen_any (V := [((n12 + 5), some (oIn (nx.map uI))), ((n12 + 4), none), ((n12 + 4), some (oIn ([] : List In)))]) (D := [((n3 + 1), some ⟨[(xDp515 jx NX n12 K M)], 3, 38, true⟩), ((n12 + 3), some (oMsg L2)), (ju, none), ((n12 + 2), some (oMsg ws)), (jv, none), (sn3, some ⟨[(xDp527 jn NX n12 K M)], 3, 101, true⟩), ((n12 + 1), some (oMsg L2)), (jo, none), (n12, some (oMsg ws)), (jw, none), (n5, some ⟨[(cAct (acts.getD i dAct))], 6, 40, true⟩), (jn, some (oUx nx)), (jx, some (oIn (nx.map uI)))]) (by kernel_rfl)) (r_store rfl rfl rfl rfl rfl rfl rfl (gt3 (by omega) get_here) rfl rfl (Nat.le_of_ble_eq_true rfl) rfl) (by omega) (kp1 (wr_tight (by kernel_rfl) (by omega))) ?_
        refine PQ.done (d := [((n3 + 1), some ⟨[(xDp59 n12 NX K M)], 3, 38, true⟩), ((n12 + 5), some (oIn (nx.map uI))), ((n12 + 4), none), ((n12 + 4), some (oIn ([] : List In)))]) (by kernel_rfl) ?_
        exact ⟨rfl, ⟨NX, nx, K, ws, M, 0, 0, L2, L2, jn, n12, (n12 + 1), (n12 + 5), (n12 + 2), (n12 + 3), ⟨rfl, rfl, rfl, rfl, rfl, trivial⟩, ⟨[(sn3, some ⟨[(xDp527 jn NX n12 K M)], 3, 101, true⟩), ((n3 + 1), some ⟨[(xDp59 n12 NX K M)], 3, 38, true⟩), (jn, some (oUx nx)), (n12, some (oMsg ws)), ((n12 + 1), some (oMsg L2)), ((n12 + 5), some (oIn (nx.map uI))), ((n12 + 2), some (oMsg ws)), ((n12 + 3), some (oMsg L2))], (Less.of (fac (mm (fun _ => get_here) (fun _ => (gt9 (by omega) get_here))) (fac (mm (fun _ => (get_there (by omega) get_here)) (fun _ => get_here)) (fac (mm (fun _ => (gt2 (by omega) get_here)) (fun _ => (gt15 (by omega) get_here))) (fac (mm (fun _ => (gt3 (by omega) get_here)) (fun _ => (gt12 (by omega) get_here))) (fac (mm (fun _ => (gt4 (by omega) get_here)) (fun _ => (gt10 (by omega) get_here))) (fac (mm (fun _ => (gt5 (by omega) get_here)) (fun _ => (get_there (by omega) get_here))) (fac (mm (fun _ => (gt6 (by omega) get_here)) (fun _ => (gt7 (by omega) get_here))) (fac (mm (fun _ => (gt7 (by omega) get_here)) (fun _ => (gt5 (by omega) get_here))) fan)))))))) (gone_of (by simp only [goneP, memP, List.cons_append, List.nil_append, true_or, or_true, true_and, and_true, or_false] <;> omega))), rfl⟩, by omega, (kb8 (by omega)), ⟨by rw [hnx], by rw [hws], by have hh := (show L2.length = M from by rw [hL2]); omega, by have hh := (show L2.length = M from by rw [hL2]); omega, by first | rfl | (rw [List.drop_zero]; rfl), ⟨by omega, by omega, by omega⟩, hxa, szs_k hsz, by omega, by omega, by omega, by omega, by omega, by omega, by omega, by omega, by omega, by omega, by omega, by omega, by omega, by omega⟩⟩⟩
       · exfalso; first | omega | exact absurd hc7 (by assumption) | exact absurd (by assumption) hc7
      ·
       refine OA.call (dst := (some 114)) (all := [(Pt sn3 0 0), (.int .i64 (((andN (acts.getD i dAct).ssn 3) : Nat) : Int))]) rfl rfl rfl rfl rfl rfl rfl rfl (CQ.imp (pGrow1 (hd.of (by omega) (kb9 (by omega))) sn3 jn NX (andN (acts.getD i dAct).ssn 3) nx hnx (by omega) (by omega) (by omega) (.slice (some ⟨jw, 0, none⟩) K 2) (.slice (some ⟨jo, 0, none⟩) M 2) rfl rfl hc6 (get_there (by omega) get_here) (gt3 (by omega) get_here)) ?_)
       rintro _ n13 _ ⟨jn2n13, p1n13, p2n13, rfl, rfl⟩ hn13
       show OA _ _ _ _ _ _ _ _ [(sn3, some ⟨[[(.slice (some ⟨jn2n13, 0, none⟩) (NX + (min (andN (acts.getD i dAct).ssn 3) (16 - NX))) 0), (.slice (some ⟨jw, 0, none⟩) K 2), (.slice (some ⟨jo, 0, none⟩) M 2)]], 3, 101, true⟩), (jn2n13, some (oUx (nx ++ List.replicate (min (andN (acts.getD i dAct).ssn 3) (16 - NX)) dUx))), (jn, none), (n5, some ⟨[(cAct (acts.getD i dAct))], 6, 40, true⟩), (sn3, some ⟨[(xDp531 jn NX jw K jo M)], 3, 101, true⟩), ((n3 + 1), some ⟨[(xDp532 jx NX jv K ju M)], 3, 38, true⟩), (jn, some (oUx nx)), (jw, some (oMsg ws)), (jo, some (oMsg L2)), (jx, some (oIn (nx.map uI))), (jv, some (oMsg ws)), (ju, some (oMsg L2))] _
       refine OA.nil ?_
       intro _
       refine RA.reoff (idx := 1) get_here (gt7 (by omega) get_here) (by omega) rfl (cs' := [(.slice (some ⟨jn2n13, 0, none⟩) (NX + (min (andN (acts.getD i dAct).ssn 3) (16 - NX))) 0), (.slice (some ⟨n13, 0, none⟩) K 2), (.slice (some ⟨jo, 0, none⟩) M 2)]) rfl (ob' := (oMsg ws)) (ro0) ?_
       refine RA.reoff (idx := 2) get_here (gt11 (by omega) get_here) (by omega) rfl (cs' := (xDp54 jn2n13 NX acts i n13 K M)) rfl (ob' := (oMsg L2)) (ro0) ?_
       refine RA.reoff (idx := 1) (gt11 (by omega) get_here) (gt16 (by omega) get_here) (by omega) rfl (cs' := [(.slice (some ⟨jx, 0, none⟩) NX 0), (.slice (some ⟨(n13 + 2), 0, none⟩) K 2), (.slice (some ⟨ju, 0, none⟩) M 2)]) rfl (ob' := (oMsg ws)) (ro0) ?_
       refine RA.reoff (idx := 2) get_here (gt20 (by omega) get_here) (by omega) rfl (cs' := (xDp516 jx NX n13 K M)) rfl (ob' := (oMsg L2)) (ro0) ?_
       refine RA.weaken (D' := [((n3 + 1), some ⟨[(xDp516 jx NX n13 K M)], 3, 38, true⟩), ((n13 + 3), some (oMsg L2)), (ju, none), ((n13 + 2), some (oMsg ws)), (jv, none), (sn3, some ⟨[(xDp54 jn2n13 NX acts i n13 K M)], 3, 101, true⟩), ((n13 + 1), some (oMsg L2)), (jo, none), (n13, some (oMsg ws)), (jw, none), (jn2n13, some (oUx (nx ++ List.replicate (min (andN (acts.getD i dAct).ssn 3) (16 - NX)) dUx))), (jn, none), (n5, some ⟨[(cAct (acts.getD i dAct))], 6, 40, true⟩), (jx, some (oIn (nx.map uI)))]) hd (Less.of (fac (mm (fun _ => get_here) (fun _ => get_here)) (fac (mm (fun _ => (get_there (by omega) get_here)) (fun _ => (get_there (by omega) get_here))) (fac (mm (fun _ => (gt2 (by omega) get_here)) (fun _ => (gt2 (by omega) get_here))) (fac (mm (fun _ => (gt3 (by omega) get_here)) (fun _ => (gt4 (by omega) get_here))) (fac (mm (fun _ => (gt4 (by omega) get_here)) (fun _ => (gt5 (by omega) get_here))) (fac (mm (fun _ => (gt5 (by omega) get_here)) (fun _ => (gt6 (by omega) get_here))) (fac (mm (fun _ => (gt6 (by omega) get_here)) (fun _ => (gt7 (by omega) get_here))) (fac (mm (fun _ => (gt7 (by omega) get_here)) (fun _ => (gt8 (by omega) get_here))) (fac (mm (fun _ => (gt8 (by omega) get_here)) (fun _ => (gt10 (by omega) get_here))) (fac (mm (fun _ => (gt9 (by omega) get_here)) (fun _ => (gt11 (by omega) get_here))) (fac (mm (fun _ => (gt10 (by omega) get_here)) (fun _ => (gt13 (by omega) get_here))) (fac (mm (fun _ => (gt11 (by omega) get_here)) (fun _ => (gt14 (by omega) get_here))) (fac (mm (fun _ => (gt12 (by omega) get_here)) (fun _ => (gt15 (by omega) get_here))) (fac (mm (fun _ => (gt13 (by omega) get_here)) (fun _ => (gt20 (by omega) (get_there (by omega) get_here)))) fan)))))))))))))) (gone_of (by simp only [goneP, memP, List.cons_append, List.nil_append, true_or, or_true, true_and, and_true, or_false] <;> omega))) ?_
       refine RA.par (md := [some [], some [], some [(n3 + 1)], none, some [], some [], some [(n3 + 1)], some [], some [], some [], none, some [], none]) env_ok (hd.of (by omega) (kb14 (by omega))) (by kernel_rfl) ?_
       refine PQ.op (dst := (some 115)) (v := (.slice (some ⟨(n13 + 4), 0, none⟩) 0 0)) (n1 := (n13 + 5)) (d1 := [((n13 + 4), some (oIn ([] : List In)))]) rfl rfl rfl noStore (none_ok _ _) (by kernel_rfl) (by omega) (kp1 (wr_new (by omega) (by omega))) ?_
       refine PQ.pure (dst := (some 116)) (v := (.pointer (some ⟨(n3 + 1), 0, some 0⟩))) rfl rfl rfl noStore (none_ok _ _) rfl ?_
       refine PQ.pure (dst := (some 117)) (v := (.slice (some ⟨jx, 0, none⟩) NX 0)) rfl rfl rfl (app [((n3 + 1), some ⟨[(xDp516 jx NX n13 K M)], 3, 38, true⟩)] noStore) (seen_one (V := []) (D := [((n3 + 1), some ⟨[(xDp516 jx NX n13 K M)], 3, 38, true⟩), ((n13 + 3), some (oMsg L2)), (ju, none), ((n13 + 2), some (oMsg ws)), (jv, none), (sn3, some ⟨[(xDp54 jn2n13 NX acts i n13 K M)], 3, 101, true⟩), ((n13 + 1), some (oMsg L2)), (jo, none), (n13, some (oMsg ws)), (jw, none), (jn2n13, some (oUx (nx ++ List.replicate (min (andN (acts.getD i dAct).ssn 3) (16 - NX)) dUx))), (jn, none), (n5, some ⟨[(cAct (acts.getD i dAct))], 6, 40, true⟩), (jx, some (oIn (nx.map uI)))]) (by kernel_rfl) get_here) (r_load1 rfl rfl rfl rfl rfl get_here rfl rfl) ?_
       refine PQ.op (dst := (some 118)) (v := (.slice (some ⟨(n13 + 5), 0, none⟩) NX 0)) (n1 := (n13 + 6)) (d1 := [((n13 + 5), some (oIn (nx.map uI))), ((n13 + 4), none)]) rfl rfl rfl _ (seen_any (V := [((n13 + 4), some (oIn ([] : List In)))]) (D := [((n3 + 1), some ⟨[(xDp516 jx NX n13 K M)], 3, 38, true⟩), ((n13 + 3), some (oMsg L2)), (ju, none), ((n13 + 2), some (oMsg ws)), (jv, none), (sn3, some ⟨[(xDp54 jn2n13 NX acts i n13 K M)], 3, 101, true⟩), ((n13 + 1), some (oMsg L2)), (jo, none), (n13, some (oMsg ws)), (jw, none), (jn2n13, some (oUx (nx ++ List.replicate (min (andN (acts.getD i dAct).ssn 3) (16 - NX)) dUx))), (jn, none), (n5, some ⟨[(cAct (acts.getD i dAct))], 6, 40, true⟩), (jx, some (oIn (nx.map uI)))]) (by kernel_rfl)) (r_appendL (c := cIn) (l' := (nx.map uI)) rfl rfl rfl rfl rfl rfl rfl rfl rfl rfl (by decide) get_here (gt14 (by omega) get_here) (by rw [show ([] : List In).length = 0 from rfl]) (by omega) (by rw [List.length_map, hnx]; omega) (by rw [List.nil_append, take_all' (by rw [List.length_map, hnx])]) (by omega) (of_decide_eq_true (by kernel_rfl)) (by omega)) (by omega) (kp2 (wr_new (by omega) (by omega)) (wr_late [4, 5, 6, 7, 8, 9] (by kernel_rfl) (by kernel_rfl) (by omega) 0 (by kernel_rfl) (by simp [keys]) (fac (lo0 rfl) (fac (lo0 rfl) (fac (lo1 rfl (by omega)) (fac (lo0 rfl) (fac (lo0 rfl) (fac (lo0 rfl) fan)))))))) ?_
       refine PQ.pure (dst := (some 119)) (v := (.int .i64 (((andN (acts.getD i dAct).ssn 3) : Nat) : Int))) rfl rfl rfl noStore (none_ok _ _) rfl ?_
       refine PQ.pure (dst := (some 120)) (v := (.pointer (some ⟨(n3 + 1), 0, some 0⟩))) rfl rfl rfl noStore (none_ok _ _) rfl ?_
       refine PQ.pure (dst := (some 121)) (v := (.slice (some ⟨jx, 0, none⟩) NX 0)) rfl rfl rfl (app [((n3 + 1), some ⟨[(xDp516 jx NX n13 K M)], 3, 38, true⟩)] noStore) (seen_one (V := []) (D := [((n3 + 1), some ⟨[(xDp516 jx NX n13 K M)], 3, 38, true⟩), ((n13 + 3), some (oMsg L2)), (ju, none), ((n13 + 2), some (oMsg ws)), (jv, none), (sn3, some ⟨[(xDp54 jn2n13 NX acts i n13 K M)], 3, 101, true⟩), ((n13 + 1), some (oMsg L2)), (jo, none), (n13, some (oMsg ws)), (jw, none), (jn2n13, some (oUx (nx ++ List.replicate (min (andN (acts.getD i dAct).ssn 3) (16 - NX)) dUx))), (jn, none), (n5, some ⟨[(cAct (acts.getD i dAct))], 6, 40, true⟩), (jx, some (oIn (nx.map uI)))]) (by kernel_rfl) get_here) (r_load1 rfl rfl rfl rfl rfl get_here rfl rfl) ?_
       refine PQ.pure (dst := (some 122)) (v := (.int .i64 ((NX : Nat) : Int))) rfl rfl rfl noStore (none_ok _ _) rfl ?_
       refine PQ.pure (dst := (some 123)) (v := (.int .i64 (((16 - NX) : Nat) : Int))) rfl rfl rfl noStore (none_ok _ _) (r_bin rfl rfl rfl (b_sub (i64_eq (by omega)))) ?_
       refine PQ.pure (dst := (some 124)) (v := (.int .i64 (((min (andN (acts.getD i dAct).ssn 3) (16 - NX)) : Nat) : Int))) rfl rfl rfl noStore (none_ok _ _) (r_min (a := (andN (acts.getD i dAct).ssn 3)) (b := (16 - NX)) rfl rfl rfl) ?_
       by_cases hc8 : (min (andN (acts.getD i dAct).ssn 3) (16 - NX)) = 0
       · exfalso; first | omega | exact absurd hc8 (by assumption) | exact absurd (by assumption) hc8
       ·
        refine PQ.op (dst := (some 125)) (v := (.slice (some ⟨(n13 + 6), 0, none⟩) (NX + (min (andN (acts.getD i dAct).ssn 3) (16 - NX))) 0)) (n1 := (n13 + 7)) (d1 := [((n13 + 6), some (oIn ((nx.map uI) ++ List.replicate (min (andN (acts.getD i dAct).ssn 3) (16 - NX)) dIn))), ((n13 + 5), none)]) rfl rfl rfl _ (seen_any (V := [((n13 + 5), some (oIn (nx.map uI))), ((n13 + 4), none), ((n13 + 4), some (oIn ([] : List In)))]) (D := [((n3 + 1), some ⟨[(xDp516 jx NX n13 K M)], 3, 38, true⟩), ((n13 + 3), some (oMsg L2)), (ju, none), ((n13 + 2), some (oMsg ws)), (jv, none), (sn3, some ⟨[(xDp54 jn2n13 NX acts i n13 K M)], 3, 101, true⟩), ((n13 + 1), some (oMsg L2)), (jo, none), (n13, some (oMsg ws)), (jw, none), (jn2n13, some (oUx (nx ++ List.replicate (min (andN (acts.getD i dAct).ssn 3) (16 - NX)) dUx))), (jn, none), (n5, some ⟨[(cAct (acts.getD i dAct))], 6, 40, true⟩), (jx, some (oIn (nx.map uI)))]) (by kernel_rfl)) (r_appz (c := cIn) (z := dIn) rfl rfl rfl rfl rfl rfl rfl rfl rfl rfl (by decide) rfl get_here (by rw [List.length_map, hnx]) (by omega) (by omega) (of_decide_eq_true (by kernel_rfl)) rfl) (by omega) (kp2 (wr_new (by omega) (by omega)) (wr_tight (by kernel_rfl) (by omega))) ?_
        refine PQ.pure (dst := (some 126)) (v := (.pointer (some ⟨(n3 + 1), 0, some 0⟩))) rfl rfl rfl noStore (none_ok _ _) rfl ?_
        refine PQ.op (dst := none) (v := (.tuple #[])) (n1 := (n13 + 7)) (d1 := [((n3 + 1), some ⟨[(xDp53 n13 NX acts i K M)], 3, 38, true⟩)]) rfl rfl rfl _ (seen_any (V := [((n13 + 6), some (oIn ((nx.map uI) ++ List.replicate (min (andN (acts.getD i dAct).ssn 3) (16 - NX)) dIn))), ((n13 + 5), none), ((n13 + 5), some (oIn (nx.map uI))), ((n13 + 4), none), ((n13 + 4), some (oIn ([] : List In)))]) (D := [((n3 + 1), some ⟨[(xDp516 jx NX n13 K M)], 3, 38, true⟩), ((n13 + 3), some (oMsg L2)), (ju, none), ((n13 + 2), some (oMsg ws)), (jv, none), (sn3, some ⟨[(xDp54 jn2n13 NX acts i n13 K M)], 3, 101, true⟩), ((n13 + 1), some (oMsg L2)), (jo, none), (n13, some (oMsg ws)), (jw, none), (jn2n13, some (oUx (nx ++ List.replicate (min (andN (acts.getD i dAct).ssn 3) (16 - NX)) dUx))), (jn, none), (n5, some ⟨[(cAct (acts.getD i dAct))], 6, 40, true⟩), (jx, some (oIn (nx.map uI)))]) (by kernel_rfl)) (r_store rfl rfl rfl rfl rfl rfl rfl (gt5 (by omega) get_here) rfl rfl (Nat.le_of_ble_eq_true rfl) rfl) (by omega) (kp1 (wr_tight (by kernel_rfl) (by omega))) ?_
        refine PQ.done (d := [((n3 + 1), some ⟨[(xDp53 n13 NX acts i K M)], 3, 38, true⟩), ((n13 + 6), some (oIn ((nx.map uI) ++ List.replicate (min (andN (acts.getD i dAct).ssn 3) (16 - NX)) dIn))), ((n13 + 5), none), ((n13 + 5), some (oIn (nx.map uI))), ((n13 + 4), none), ((n13 + 4), some (oIn ([] : List In)))]) (by kernel_rfl) ?_
        exact ⟨rfl, ⟨(NX + (min (andN (acts.getD i dAct).ssn 3) (16 - NX))), (nx ++ List.replicate (min (andN (acts.getD i dAct).ssn 3) (16 - NX)) dUx), K, ws, M, 0, 0, L2, L2, jn2n13, n13, (n13 + 1), (n13 + 6), (n13 + 2), (n13 + 3), ⟨rfl, rfl, rfl, rfl, rfl, trivial⟩, ⟨[(sn3, some ⟨[(xDp54 jn2n13 NX acts i n13 K M)], 3, 101, true⟩), ((n3 + 1), some ⟨[(xDp53 n13 NX acts i K M)], 3, 38, true⟩), (jn2n13, some (oUx (nx ++ List.replicate (min (andN (acts.getD i dAct).ssn 3) (16 - NX)) dUx))), (n13, some (oMsg ws)), ((n13 + 1), some (oMsg L2)), ((n13 + 6), some (oIn ((nx.map uI) ++ List.replicate (min (andN (acts.getD i dAct).ssn 3) (16 - NX)) dIn))), ((n13 + 2), some (oMsg ws)), ((n13 + 3), some (oMsg L2))], (Less.of (fac (mm (fun _ => get_here) (fun _ => (gt11 (by omega) get_here))) (fac (mm (fun _ => (get_there (by omega) get_here)) (fun _ => get_here)) (fac (mm (fun _ => (gt2 (by omega) get_here)) (fun _ => (gt16 (by omega) get_here))) (fac (mm (fun _ => (gt3 (by omega) get_here)) (fun _ => (gt14 (by omega) get_here))) (fac (mm (fun _ => (gt4 (by omega) get_here)) (fun _ => (gt12 (by omega) get_here))) (fac (mm (fun _ => (gt5 (by omega) get_here)) (fun _ => (get_there (by omega) get_here))) (fac (mm (fun _ => (gt6 (by omega) get_here)) (fun _ => (gt9 (by omega) get_here))) (fac (mm (fun _ => (gt7 (by omega) get_here)) (fun _ => (gt7 (by omega) get_here))) fan)))))))) (gone_of (by simp only [goneP, memP, List.cons_append, List.nil_append, true_or, or_true, true_and, and_true, or_false] <;> omega))), (by rw [app_uI])⟩, by omega, (kb8 (by omega)), ⟨show (nx ++ List.replicate (min (andN (acts.getD i dAct).ssn 3) (16 - NX)) dUx).length = NX + (min (andN (acts.getD i dAct).ssn 3) (16 - NX)) from by rw [List.length_append, hnx, List.length_replicate], by rw [hws], by have hh := (show L2.length = M from by rw [hL2]); omega, by have hh := (show L2.length = M from by rw [hL2]); omega, by first | rfl | (rw [List.drop_zero]; rfl), ⟨by omega, by omega, by omega⟩, hxa_app hnx hxa, szs_k hsz, by omega, by omega, by omega, by omega, by omega, by omega, by omega, by omega, by omega, by omega, by omega, by omega, by omega, by omega⟩⟩⟩
     ·
      refine OA.p (some 107) (.bool false) rfl rfl rfl (Eq.trans (r_bin rfl rfl rfl (b_eql rfl)) (dF hc5)) ?_
      refine OA.p (some 106) (.bool false) rfl rfl rfl rfl ?_
      refine OA.nil ?_
      intro _
      refine RA.condF rfl ?_
      refine RA.seq hd ?_
      refine RA.region env_ok ?_
      refine OA.p (some 48) (Pt n5 0 1) rfl rfl rfl rfl ?_
      refine OA.p (some 49) (.agg ⟨(xDp55 acts i)⟩) rfl rfl rfl (r_loadA rfl rfl rfl rfl get_here rfl rfl rfl) ?_
      refine OA.op1 (dst := (some 13)) (v := (.pointer (some ⟨(n5 + 1), 0, some 0⟩))) (n1 := (n5 + 2)) (w := ((n5 + 1), some ⟨[[(.int .i64 0), (.int .i64 0), (.bool false), (.int .u32 0), (.string ByteArray.empty)]], 5, 29, true⟩)) rfl rfl rfl rfl (by omega) ?_
      refine OA.op1 (dst := none) (v := (.tuple #[])) (n1 := (n5 + 2)) (w := ((n5 + 1), some ⟨[(xDp55 acts i)], 5, 29, true⟩)) rfl rfl rfl (r_store rfl rfl rfl rfl rfl rfl rfl get_here rfl rfl (Nat.le_of_ble_eq_true rfl) rfl) (by omega) ?_
      refine OA.nil ?_
      intro _
      refine RA.weaken (D' := [((n5 + 1), some ⟨[(xDp55 acts i)], 5, 29, true⟩), (n5, some ⟨[(cAct (acts.getD i dAct))], 6, 40, true⟩), (sn3, some ⟨[(xDp531 jn NX jw K jo M)], 3, 101, true⟩), ((n3 + 1), some ⟨[(xDp532 jx NX jv K ju M)], 3, 38, true⟩), (jn, some (oUx nx)), (jw, some (oMsg ws)), (jo, some (oMsg L2)), (jx, some (oIn (nx.map uI))), (jv, some (oMsg ws)), (ju, some (oMsg L2))]) hd (Less.of (fac (mm (fun _ => get_here) (fun _ => get_here)) (fac (mm (fun _ => (get_there (by omega) get_here)) (fun _ => (gt2 (by omega) get_here))) (fac (mm (fun _ => (gt2 (by omega) get_here)) (fun _ => (gt3 (by omega) get_here))) (fac (mm (fun _ => (gt3 (by omega) get_here)) (fun _ => (gt4 (by omega) get_here))) (fac (mm (fun _ => (gt4 (by omega) get_here)) (fun _ => (gt5 (by omega) get_here))) (fac (mm (fun _ => (gt5 (by omega) get_here)) (fun _ => (gt6 (by omega) get_here))) (fac (mm (fun _ => (gt6 (by omega) get_here)) (fun _ => (gt7 (by omega) get_here))) (fac (mm (fun _ => (gt7 (by omega) get_here)) (fun _ => (gt8 (by omega) get_here))) (fac (mm (fun _ => (gt8 (by omega) get_here)) (fun _ => (gt9 (by omega) get_here))) (fac (mm (fun _ => (gt9 (by omega) get_here)) (fun _ => (gt10 (by omega) get_here))) fan)))))))))) (gone_of (by simp only [goneP, memP, List.cons_append, List.nil_append, true_or, or_true, true_and, and_true, or_false] <;> omega))) ?_
      refine RA.rebase [(0, (.int .i64 mn)), (1, va), (6, (Pt sn3 0 0)), (7, (.pointer (some ⟨(n3 + 1), 0, some 0⟩))), (8, (.int .i64 ((i : Nat) : Int))), (9, (Pt n5 0 0)), (13, (.pointer (some ⟨(n5 + 1), 0, some 0⟩))), (38, (.bool true)), (47, (.int .i64 (Int.tmod (acts.getD i dAct).what 5))), (77, (.bool false)), (106, (.bool false))] ⟨rfl, rfl, rfl, rfl, rfl, rfl, rfl, rfl, rfl, rfl, rfl, trivial⟩ (fun τr14 => ?_)
      refine RA.seq hd ?_
      refine RA.par (md := [some [], some [], some [n5], some [], some [], some [], some [n5], some [], some [], some [n5], some [], some [], some [], some [], none, some [], none]) env_ok (hd.of (by omega) (kb10 (by omega))) (by kernel_rfl) ?_
      refine PQ.pure (dst := (some 50)) (v := (Pt n5 0 1)) rfl rfl rfl noStore (none_ok _ _) rfl ?_
      refine PQ.pure (dst := (some 51)) (v := (Pt n5 0 1)) rfl rfl rfl noStore (none_ok _ _) rfl ?_
      refine PQ.pure (dst := (some 52)) (v := (.int .i64 (acts.getD i dAct).st)) rfl rfl rfl (app [(n5, some ⟨[(cAct (acts.getD i dAct))], 6, 40, true⟩)] noStore) (seen_one (V := []) (D := [((n5 + 1), some ⟨[(xDp55 acts i)], 5, 29, true⟩), (n5, some ⟨[(cAct (acts.getD i dAct))], 6, 40, true⟩), (sn3, some ⟨[(xDp531 jn NX jw K jo M)], 3, 101, true⟩), ((n3 + 1), some ⟨[(xDp532 jx NX jv K ju M)], 3, 38, true⟩), (jn, some (oUx nx)), (jw, some (oMsg ws)), (jo, some (oMsg L2)), (jx, some (oIn (nx.map uI))), (jv, some (oMsg ws)), (ju, some (oMsg L2))]) (by kernel_rfl) (get_there (by omega) get_here)) (r_load1 rfl rfl rfl rfl rfl get_here rfl rfl) ?_
      refine PQ.pure (dst := (some 53)) (v := (.int .i64 (Int.tmod (acts.getD i dAct).st 20))) rfl rfl rfl noStore (none_ok _ _) (r_bin rfl rfl rfl (b_rem (by decide) rfl)) ?_
      refine PQ.pure (dst := (some 54)) (v := (Pt n5 0 1)) rfl rfl rfl noStore (none_ok _ _) rfl ?_
      refine PQ.pure (dst := (some 55)) (v := (Pt n5 0 5)) rfl rfl rfl noStore (none_ok _ _) rfl ?_
      refine PQ.pure (dst := (some 56)) (v := (.string (acts.getD i dAct).data)) rfl rfl rfl (app [(n5, some ⟨[(cAct (acts.getD i dAct))], 6, 40, true⟩)] noStore) (seen_one (V := []) (D := [((n5 + 1), some ⟨[(xDp55 acts i)], 5, 29, true⟩), (n5, some ⟨[(cAct (acts.getD i dAct))], 6, 40, true⟩), (sn3, some ⟨[(xDp531 jn NX jw K jo M)], 3, 101, true⟩), ((n3 + 1), some ⟨[(xDp532 jx NX jv K ju M)], 3, 38, true⟩), (jn, some (oUx nx)), (jw, some (oMsg ws)), (jo, some (oMsg L2)), (jx, some (oIn (nx.map uI))), (jv, some (oMsg ws)), (ju, some (oMsg L2))]) (by kernel_rfl) (get_there (by omega) get_here)) (r_load1 rfl rfl rfl rfl rfl get_here rfl rfl) ?_
      refine PQ.pure (dst := (some 57)) (v := (Pt n5 0 1)) rfl rfl rfl noStore (none_ok _ _) rfl ?_
      refine PQ.pure (dst := (some 58)) (v := (Pt n5 0 5)) rfl rfl rfl noStore (none_ok _ _) rfl ?_
      refine PQ.pure (dst := (some 59)) (v := (.string (acts.getD i dAct).data)) rfl rfl rfl (app [(n5, some ⟨[(cAct (acts.getD i dAct))], 6, 40, true⟩)] noStore) (seen_one (V := []) (D := [((n5 + 1), some ⟨[(xDp55 acts i)], 5, 29, true⟩), (n5, some ⟨[(cAct (acts.getD i dAct))], 6, 40, true⟩), (sn3, some ⟨[(xDp531 jn NX jw K jo M)], 3, 101, true⟩), ((n3 + 1), some ⟨[(xDp532 jx NX jv K ju M)], 3, 38, true⟩), (jn, some (oUx nx)), (jw, some (oMsg ws)), (jo, some (oMsg L2)), (jx, some (oIn (nx.map uI))), (jv, some (oMsg ws)), (ju, some (oMsg L2))]) (by kernel_rfl) (get_there (by omega) get_here)) (r_load1 rfl rfl rfl rfl rfl get_here rfl rfl) ?_
      refine PQ.pure (dst := (some 60)) (v := (.int .i64 (((acts.getD i dAct).data.size : Nat) : Int))) rfl rfl rfl noStore (none_ok _ _) rfl ?_
      refine PQ.pure (dst := (some 61)) (v := (.int .i64 (((min (acts.getD i dAct).data.size 5) : Nat) : Int))) rfl rfl rfl noStore (none_ok _ _) (r_min (a := (acts.getD i dAct).data.size) (b := 5) rfl rfl rfl) ?_
      refine PQ.pure (dst := (some 62)) (v := (.string ((acts.getD i dAct).data.extract 0 (min (acts.getD i dAct).data.size 5)))) rfl rfl rfl noStore (none_ok _ _) (r_cut (a := 0) (b := (min (acts.getD i dAct).data.size 5)) rfl rfl (fun _ => rfl) (fun _ => rfl) rfl rfl rfl bound_nat (by omega) (by omega) rfl) ?_
      refine PQ.pure (dst := (some 63)) (v := (.pointer (some ⟨(n5 + 1), 0, some 0⟩))) rfl rfl rfl noStore (none_ok _ _) rfl ?_
      refine PQ.op (dst := none) (v := (.tuple #[])) (n1 := (n5 + 2)) (d1 := [((n5 + 1), some ⟨[(xDp52 acts i)], 5, 29, true⟩)]) rfl rfl rfl _ (seen_any (V := []) (D := [((n5 + 1), some ⟨[(xDp55 acts i)], 5, 29, true⟩), (n5, some ⟨[(cAct (acts.getD i dAct))], 6, 40, true⟩), (sn3, some ⟨[(xDp531 jn NX jw K jo M)], 3, 101, true⟩), ((n3 + 1), some ⟨[(xDp532 jx NX jv K ju M)], 3, 38, true⟩), (jn, some (oUx nx)), (jw, some (oMsg ws)), (jo, some (oMsg L2)), (jx, some (oIn (nx.map uI))), (jv, some (oMsg ws)), (ju, some (oMsg L2))]) (by kernel_rfl)) (r_store rfl rfl rfl rfl rfl rfl rfl get_here rfl rfl (Nat.le_of_ble_eq_true rfl) rfl) (by omega) (kp1 (wr_old [4, 5, 6, 7, 8, 9, 10, 11, 12] (by kernel_rfl) (by omega) (by omega) (fac (lo0 rfl) (fac (lo0 rfl) (fac (lo1 rfl (by omega)) (fac (lo0 rfl) (fac (lo0 rfl) (fac (lo1 rfl (by omega)) (fac (lo0 rfl) (fac (lo0 rfl) (fac (lo0 rfl) fan))))))))))) ?_
      refine PQ.pure (dst := (some 64)) (v := (.pointer (some ⟨(n5 + 1), 0, some 4⟩))) rfl rfl rfl noStore (none_ok _ _) rfl ?_
      refine PQ.op (dst := none) (v := (.tuple #[])) (n1 := (n5 + 2)) (d1 := [((n5 + 1), some ⟨[(xDp51 acts i)], 5, 29, true⟩)]) rfl rfl rfl _ (seen_any (V := [((n5 + 1), some ⟨[(xDp52 acts i)], 5, 29, true⟩)]) (D := [((n5 + 1), some ⟨[(xDp55 acts i)], 5, 29, true⟩), (n5, some ⟨[(cAct (acts.getD i dAct))], 6, 40, true⟩), (sn3, some ⟨[(xDp531 jn NX jw K jo M)], 3, 101, true⟩), ((n3 + 1), some ⟨[(xDp532 jx NX jv K ju M)], 3, 38, true⟩), (jn, some (oUx nx)), (jw, some (oMsg ws)), (jo, some (oMsg L2)), (jx, some (oIn (nx.map uI))), (jv, some (oMsg ws)), (ju, some (oMsg L2))]) (by kernel_rfl)) (r_store rfl rfl rfl rfl rfl rfl rfl get_here rfl rfl (Nat.le_of_ble_eq_true rfl) rfl) (by omega) (kp1 (wr_tight (by kernel_rfl) (by omega))) ?_
      refine PQ.done (d := [((n5 + 1), some ⟨[(xDp51 acts i)], 5, 29, true⟩), ((n5 + 1), some ⟨[(xDp52 acts i)], 5, 29, true⟩)]) (by kernel_rfl) ?_
      intro _
      refine RA.weaken (D' := [((n5 + 1), some ⟨[(xDp51 acts i)], 5, 29, true⟩), (n5, some ⟨[(cAct (acts.getD i dAct))], 6, 40, true⟩), (sn3, some ⟨[(xDp531 jn NX jw K jo M)], 3, 101, true⟩), ((n3 + 1), some ⟨[(xDp532 jx NX jv K ju M)], 3, 38, true⟩), (jn, some (oUx nx)), (jw, some (oMsg ws)), (jo, some (oMsg L2)), (jx, some (oIn (nx.map uI))), (jv, some (oMsg ws)), (ju, some (oMsg L2))]) hd (Less.of (fac (mm (fun _ => get_here) (fun _ => get_here)) (fac (mm (fun _ => (get_there (by omega) get_here)) (fun _ => (gt3 (by omega) get_here))) (fac (mm (fun _ => (gt2 (by omega) get_here)) (fun _ => (gt4 (by omega) get_here))) (fac (mm (fun _ => (gt3 (by omega) get_here)) (fun _ => (gt5 (by omega) get_here))) (fac (mm (fun _ => (gt4 (by omega) get_here)) (fun _ => (gt6 (by omega) get_here))) (fac (mm (fun _ => (gt5 (by omega) get_here)) (fun _ => (gt7 (by omega) get_here))) (fac (mm (fun _ => (gt6 (by omega) get_here)) (fun _ => (gt8 (by omega) get_here))) (fac (mm (fun _ => (gt7 (by omega) get_here)) (fun _ => (gt9 (by omega) get_here))) (fac (mm (fun _ => (gt8 (by omega) get_here)) (fun _ => (gt10 (by omega) get_here))) (fac (mm (fun _ => (gt9 (by omega) get_here)) (fun _ => (gt11 (by omega) get_here))) fan)))))))))) (gone_of (by simp only [goneP, memP, List.cons_append, List.nil_append, true_or, or_true, true_and, and_true, or_false] <;> omega))) ?_
      obtain ⟨m, hm⟩ : ∃ m : Msg, m = (Msg.mk (Int.tmod (acts.getD i dAct).st 20) ((acts.getD i dAct).ssn) ((acts.getD i dAct).loose) ((acts.getD i dAct).proto) ((acts.getD i dAct).data.extract 0 (min (acts.getD i dAct).data.size 5))) := ⟨_, rfl⟩
      have hmd : m.data.size ≤ 5 := by rw [hm]; exact cut_le _
      show RA _ _ _ _ _ _ _ _ [((n5 + 1), some ⟨[(cMsg (Msg.mk (Int.tmod (acts.getD i dAct).st 20) ((acts.getD i dAct).ssn) ((acts.getD i dAct).loose) ((acts.getD i dAct).proto) ((acts.getD i dAct).data.extract 0 (min (acts.getD i dAct).data.size 5))))], 5, 29, true⟩), (n5, some ⟨[(cAct (acts.getD i dAct))], 6, 40, true⟩), (sn3, some ⟨[(xDp531 jn NX jw K jo M)], 3, 101, true⟩), ((n3 + 1), some ⟨[(xDp532 jx NX jv K ju M)], 3, 38, true⟩), (jn, some (oUx nx)), (jw, some (oMsg ws)), (jo, some (oMsg L2)), (jx, some (oIn (nx.map uI))), (jv, some (oMsg ws)), (ju, some (oMsg L2))] _
      rw [← hm]
      refine RA.seq hd ?_
      refine RA.region env_ok ?_
      refine OA.p (some 66) (.agg ⟨(xDp532 jx NX jv K ju M)⟩) rfl rfl rfl (r_loadA rfl rfl rfl rfl (gt3 (by omega) get_here) rfl rfl rfl) ?_
      refine OA.p (some 67) (.agg ⟨[(.int .i64 m.st), (.int .i64 m.ssn), (.bool m.loose), (W m.proto), (.string m.data)]⟩) rfl rfl rfl (r_loadA rfl rfl rfl rfl get_here rfl rfl rfl) ?_
      by_cases hc9 : m.st < 0 ∨ ((NX : Nat) : Int) ≤ m.st
      ·
       refine OA.call (dst := (some 68)) (all := [(.agg ⟨(xDp532 jx NX jv K ju M)⟩), (.agg ⟨[(.int .i64 m.st), (.int .i64 m.ssn), (.bool m.loose), (W m.proto), (.string m.data)]⟩)]) rfl rfl rfl rfl rfl rfl rfl rfl (CQ.imp (rPutX (hd.of (by omega) (kb10 (by omega))) jx jv ju NX K M m hc9) ?_)
       rintro _ n15 _ ⟨rfl, rfl⟩ hn15
       refine OA.app0 ?_
       refine OA.p (some 65) (.tuple ⟨[(.agg ⟨(xDp532 jx NX jv K ju M)⟩), (.bool false)]⟩) rfl rfl rfl rfl ?_
       refine OA.p (some 69) (.agg ⟨(xDp532 jx NX jv K ju M)⟩) rfl rfl rfl rfl ?_
       refine OA.p (some 70) (.bool false) rfl rfl rfl rfl ?_
       refine OA.op1 (dst := (some 14)) (v := (Pt n15 0 0)) (n1 := (n15 + 1)) (w := (n15, some ⟨[[(.slice none 0 0), (.slice none 0 0), (.slice none 0 0)]], 3, 38, true⟩)) rfl rfl rfl rfl (by omega) ?_
       refine OA.op1 (dst := none) (v := (.tuple #[])) (n1 := (n15 + 1)) (w := (n15, some ⟨[(xDp532 jx NX jv K ju M)], 3, 38, true⟩)) rfl rfl rfl (r_store rfl rfl rfl rfl rfl rfl rfl get_here rfl rfl (Nat.le_of_ble_eq_true rfl) rfl) (by omega) ?_
       refine OA.p (some 15) (.bool false) rfl rfl rfl rfl ?_
       refine OA.nil ?_
       intro _
       refine RA.weaken (D' := [(n15, some ⟨[(xDp532 jx NX jv K ju M)], 3, 38, true⟩), ((n5 + 1), some ⟨[(cMsg m)], 5, 29, true⟩), (n5, some ⟨[(cAct (acts.getD i dAct))], 6, 40, true⟩), (sn3, some ⟨[(xDp531 jn NX jw K jo M)], 3, 101, true⟩), ((n3 + 1), some ⟨[(xDp532 jx NX jv K ju M)], 3, 38, true⟩), (jn, some (oUx nx)), (jw, some (oMsg ws)), (jo, some (oMsg L2)), (jx, some (oIn (nx.map uI))), (jv, some (oMsg ws)), (ju, some (oMsg L2))]) hd (Less.of (fac (mm (fun _ => get_here) (fun _ => get_here)) (fac (mm (fun _ => (get_there (by omega) get_here)) (fun _ => (gt2 (by omega) get_here))) (fac (mm (fun _ => (gt2 (by omega) get_here)) (fun _ => (gt3 (by omega) get_here))) (fac (mm (fun _ => (gt3 (by omega) get_here)) (fun _ => (gt4 (by omega) get_here))) (fac (mm (fun _ => (gt4 (by omega) get_here)) (fun _ => (gt5 (by omega) get_here))) (fac (mm (fun _ => (gt5 (by omega) get_here)) (fun _ => (gt6 (by omega) get_here))) (fac (mm (fun _ => (gt6 (by omega) get_here)) (fun _ => (gt7 (by omega) get_here))) (fac (mm (fun _ => (gt7 (by omega) get_here)) (fun _ => (gt8 (by omega) get_here))) (fac (mm (fun _ => (gt8 (by omega) get_here)) (fun _ => (gt9 (by omega) get_here))) (fac (mm (fun _ => (gt9 (by omega) get_here)) (fun _ => (gt10 (by omega) get_here))) (fac (mm (fun _ => (gt10 (by omega) get_here)) (fun _ => (gt11 (by omega) get_here))) fan))))))))))) (gone_of (by simp only [goneP, memP, List.cons_append, List.nil_append, true_or, or_true, true_and, and_true, or_false] <;> omega))) ?_
       refine RA.rebase [(0, (.int .i64 mn)), (1, va), (6, (Pt sn3 0 0)), (7, (.pointer (some ⟨(n3 + 1), 0, some 0⟩))), (8, (.int .i64 ((i : Nat) : Int))), (9, (Pt n5 0 0)), (13, (.pointer (some ⟨(n5 + 1), 0, some 0⟩))), (14, (Pt n15 0 0)), (15, (.bool false)), (38, (.bool true)), (47, (.int .i64 (Int.tmod (acts.getD i dAct).what 5))), (77, (.bool false)), (106, (.bool false))] ⟨rfl, rfl, rfl, rfl, rfl, rfl, rfl, rfl, rfl, rfl, rfl, rfl, rfl, trivial⟩ (fun τr16 => ?_)
       refine RA.seq hd ?_
       refine RA.region env_ok ?_
       refine OA.p (some 71) (.agg ⟨(xDp532 jx NX jv K ju M)⟩) rfl rfl rfl (r_loadA rfl rfl rfl rfl get_here rfl rfl rfl) ?_
       refine OA.op1 (dst := none) (v := (.tuple #[])) (n1 := (n15 + 1)) (w := ((n3 + 1), some ⟨[(xDp532 jx NX jv K ju M)], 3, 38, true⟩)) rfl rfl rfl (r_store rfl rfl rfl rfl rfl rfl rfl (gt4 (by omega) get_here) rfl rfl (Nat.le_of_ble_eq_true rfl) rfl) (by omega) ?_
       refine OA.nil ?_
       intro _
       refine RA.weaken (D' := [((n3 + 1), some ⟨[(xDp532 jx NX jv K ju M)], 3, 38, true⟩), (n15, some ⟨[(xDp532 jx NX jv K ju M)], 3, 38, true⟩), ((n5 + 1), some ⟨[(cMsg m)], 5, 29, true⟩), (n5, some ⟨[(cAct (acts.getD i dAct))], 6, 40, true⟩), (sn3, some ⟨[(xDp531 jn NX jw K jo M)], 3, 101, true⟩), (jn, some (oUx nx)), (jw, some (oMsg ws)), (jo, some (oMsg L2)), (jx, some (oIn (nx.map uI))), (jv, some (oMsg ws)), (ju, some (oMsg L2))]) hd (Less.of (fac (mm (fun _ => get_here) (fun _ => get_here)) (fac (mm (fun _ => (get_there (by omega) get_here)) (fun _ => (get_there (by omega) get_here))) (fac (mm (fun _ => (gt2 (by omega) get_here)) (fun _ => (gt2 (by omega) get_here))) (fac (mm (fun _ => (gt3 (by omega) get_here)) (fun _ => (gt3 (by omega) get_here))) (fac (mm (fun _ => (gt4 (by omega) get_here)) (fun _ => (gt4 (by omega) get_here))) (fac (mm (fun _ => (gt5 (by omega) get_here)) (fun _ => (gt6 (by omega) get_here))) (fac (mm (fun _ => (gt6 (by omega) get_here)) (fun _ => (gt7 (by omega) get_here))) (fac (mm (fun _ => (gt7 (by omega) get_here)) (fun _ => (gt8 (by omega) get_here))) (fac (mm (fun _ => (gt8 (by omega) get_here)) (fun _ => (gt9 (by omega) get_here))) (fac (mm (fun _ => (gt9 (by omega) get_here)) (fun _ => (gt10 (by omega) get_here))) (fac (mm (fun _ => (gt10 (by omega) get_here)) (fun _ => (gt11 (by omega) get_here))) fan))))))))))) (gone_of (by simp only [goneP, memP, List.cons_append, List.nil_append, true_or, or_true, true_and, and_true, or_false] <;> omega))) ?_
       refine RA.seq hd ?_
       refine RA.region env_ok ?_
       refine OA.p (some 72) (Pt sn3 0 0) rfl rfl rfl rfl ?_
       refine OA.p (some 73) (.agg ⟨[(.int .i64 m.st), (.int .i64 m.ssn), (.bool m.loose), (W m.proto), (.string m.data)]⟩) rfl rfl rfl (r_loadA rfl rfl rfl rfl (gt2 (by omega) get_here) rfl rfl rfl) ?_
       refine OA.call (dst := (some 74)) (all := (xDp58 sn3 m)) rfl rfl rfl rfl rfl rfl rfl rfl (CQ.imp (pPutX (hd.of (by omega) (kb11 (by omega))) sn3 jn NX (.slice (some ⟨jw, 0, none⟩) K 2) (.slice (some ⟨jo, 0, none⟩) M 2) rfl rfl m hc9 (gt4 (by omega) get_here)) ?_)
       rintro _ n17 _ ⟨rfl, rfl⟩ hn17
       refine OA.app0 ?_
       refine OA.p (some 75) (.bool false) rfl rfl rfl rfl ?_
       refine OA.p (some 76) (.bool false) rfl rfl rfl rfl ?_
       refine OA.nil ?_
       intro _
       refine RA.reoff (idx := 1) (gt4 (by omega) get_here) (gt6 (by omega) get_here) (by omega) rfl (cs' := [(.slice (some ⟨jn, 0, none⟩) NX 0), (.slice (some ⟨n17, 0, none⟩) K 2), (.slice (some ⟨jo, 0, none⟩) M 2)]) rfl (ob' := (oMsg ws)) (ro0) ?_
       refine RA.reoff (idx := 2) get_here (gt10 (by omega) get_here) (by omega) rfl (cs' := (xDp528 jn NX n17 K M)) rfl (ob' := (oMsg L2)) (ro0) ?_
       refine RA.reoff (idx := 1) (gt6 (by omega) get_here) (gt15 (by omega) get_here) (by omega) rfl (cs' := [(.slice (some ⟨jx, 0, none⟩) NX 0), (.slice (some ⟨(n17 + 2), 0, none⟩) K 2), (.slice (some ⟨ju, 0, none⟩) M 2)]) rfl (ob' := (oMsg ws)) (ro0) ?_
       refine RA.reoff (idx := 2) get_here (gt19 (by omega) get_here) (by omega) rfl (cs' := (xDp517 jx NX n17 K M)) rfl (ob' := (oMsg L2)) (ro0) ?_
       refine RA.weaken (D' := [((n3 + 1), some ⟨[(xDp517 jx NX n17 K M)], 3, 38, true⟩), ((n17 + 3), some (oMsg L2)), (ju, none), ((n17 + 2), some (oMsg ws)), (jv, none), (sn3, some ⟨[(xDp528 jn NX n17 K M)], 3, 101, true⟩), ((n17 + 1), some (oMsg L2)), (jo, none), (n17, some (oMsg ws)), (jw, none), (n15, some ⟨[(xDp532 jx NX jv K ju M)], 3, 38, true⟩), ((n5 + 1), some ⟨[(cMsg m)], 5, 29, true⟩), (n5, some ⟨[(cAct (acts.getD i dAct))], 6, 40, true⟩), (jn, some (oUx nx)), (jx, some (oIn (nx.map uI)))]) hd (Less.of (fac (mm (fun _ => get_here) (fun _ => get_here)) (fac (mm (fun _ => (get_there (by omega) get_here)) (fun _ => (get_there (by omega) get_here))) (fac (mm (fun _ => (gt2 (by omega) get_here)) (fun _ => (gt2 (by omega) get_here))) (fac (mm (fun _ => (gt3 (by omega) get_here)) (fun _ => (gt4 (by omega) get_here))) (fac (mm (fun _ => (gt4 (by omega) get_here)) (fun _ => (gt5 (by omega) get_here))) (fac (mm (fun _ => (gt5 (by omega) get_here)) (fun _ => (gt6 (by omega) get_here))) (fac (mm (fun _ => (gt6 (by omega) get_here)) (fun _ => (gt7 (by omega) get_here))) (fac (mm (fun _ => (gt7 (by omega) get_here)) (fun _ => (gt8 (by omega) get_here))) (fac (mm (fun _ => (gt8 (by omega) get_here)) (fun _ => (gt10 (by omega) get_here))) (fac (mm (fun _ => (gt9 (by omega) get_here)) (fun _ => (gt11 (by omega) get_here))) (fac (mm (fun _ => (gt10 (by omega) get_here)) (fun _ => (gt13 (by omega) get_here))) (fac (mm (fun _ => (gt11 (by omega) get_here)) (fun _ => (gt14 (by omega) get_here))) (fac (mm (fun _ => (gt12 (by omega) get_here)) (fun _ => (gt15 (by omega) get_here))) (fac (mm (fun _ => (gt13 (by omega) get_here)) (fun _ => (gt17 (by omega) get_here))) (fac (mm (fun _ => (gt14 (by omega) get_here)) (fun _ => (gt20 (by omega) get_here))) fan))))))))))))))) (gone_of (by simp only [goneP, memP, List.cons_append, List.nil_append, true_or, or_true, true_and, and_true, or_false] <;> omega))) ?_
       refine RA.condF rfl ?_
       refine RA.skip env_ok ?_
       exact ⟨rfl, ⟨NX, nx, K, ws, M, 0, 0, L2, L2, jn, n17, (n17 + 1), jx, (n17 + 2), (n17 + 3), ⟨rfl, rfl, rfl, rfl, rfl, trivial⟩, ⟨[(sn3, some ⟨[(xDp528 jn NX n17 K M)], 3, 101, true⟩), ((n3 + 1), some ⟨[(xDp517 jx NX n17 K M)], 3, 38, true⟩), (jn, some (oUx nx)), (n17, some (oMsg ws)), ((n17 + 1), some (oMsg L2)), (jx, some (oIn (nx.map uI))), ((n17 + 2), some (oMsg ws)), ((n17 + 3), some (oMsg L2))], (Less.of (fac (mm (fun _ => get_here) (fun _ => (gt5 (by omega) get_here))) (fac (mm (fun _ => (get_there (by omega) get_here)) (fun _ => get_here)) (fac (mm (fun _ => (gt2 (by omega) get_here)) (fun _ => (gt13 (by omega) get_here))) (fac (mm (fun _ => (gt3 (by omega) get_here)) (fun _ => (gt8 (by omega) get_here))) (fac (mm (fun _ => (gt4 (by omega) get_here)) (fun _ => (gt6 (by omega) get_here))) (fac (mm (fun _ => (gt5 (by omega) get_here)) (fun _ => (gt14 (by omega) get_here))) (fac (mm (fun _ => (gt6 (by omega) get_here)) (fun _ => (gt3 (by omega) get_here))) (fac (mm (fun _ => (gt7 (by omega) get_here)) (fun _ => (get_there (by omega) get_here))) fan)))))))) (gone_of (by simp only [goneP, memP, List.cons_append, List.nil_append, true_or, or_true, true_and, and_true, or_false] <;> omega))), rfl⟩, by omega, (kb8 (by omega)), ⟨by rw [hnx], by rw [hws], by have hh := (show L2.length = M from by rw [hL2]); omega, by have hh := (show L2.length = M from by rw [hL2]); omega, by first | rfl | (rw [List.drop_zero]; rfl), ⟨by omega, by omega, by omega⟩, hxa, szs_k hsz, by omega, by omega, by omega, by omega, by omega, by omega, by omega, by omega, by omega, by omega, by omega, by omega, by omega, by omega⟩⟩⟩
      ·
       obtain ⟨t, hmt⟩ : ∃ t : Nat, m.st = ((t : Nat) : Int) := ⟨m.st.toNat, by omega⟩
       have ht : t < NX := by omega
       by_cases hc10 : m.loose = true
       ·
        refine OA.call (dst := (some 68)) (all := [(.agg ⟨(xDp532 jx NX jv K ju M)⟩), (.agg ⟨[(.int .i64 m.st), (.int .i64 m.ssn), (.bool m.loose), (W m.proto), (.string m.data)]⟩)]) rfl rfl rfl rfl rfl rfl rfl rfl (CQ.imp (rPutL (hd.of (by omega) (kb10 (by omega))) jx jv ju t NX K M nx ws L2 hnx (hxa t ht) hws hL2 ht (by omega) (by omega) (by omega) m hmt hc10 trivial (gt7 (by omega) get_here) (gt8 (by omega) get_here) (gt9 (by omega) get_here)) ?_)
        rintro _ n18 _ ⟨ju2n18, p1n18, p2n18, rfl, rfl⟩ hn18
        refine OA.app1 ?_
        refine OA.p (some 65) (.tuple ⟨[(.agg ⟨(xDp525 jx NX jv K ju2n18 M)⟩), (.bool true)]⟩) rfl rfl rfl rfl ?_
        refine OA.p (some 69) (.agg ⟨(xDp525 jx NX jv K ju2n18 M)⟩) rfl rfl rfl rfl ?_
        refine OA.p (some 70) (.bool true) rfl rfl rfl rfl ?_
        refine OA.op1 (dst := (some 14)) (v := (Pt n18 0 0)) (n1 := (n18 + 1)) (w := (n18, some ⟨[[(.slice none 0 0), (.slice none 0 0), (.slice none 0 0)]], 3, 38, true⟩)) rfl rfl rfl rfl (by omega) ?_
        refine OA.op1 (dst := none) (v := (.tuple #[])) (n1 := (n18 + 1)) (w := (n18, some ⟨[(xDp525 jx NX jv K ju2n18 M)], 3, 38, true⟩)) rfl rfl rfl (r_store rfl rfl rfl rfl rfl rfl rfl get_here rfl rfl (Nat.le_of_ble_eq_true rfl) rfl) (by omega) ?_
        refine OA.p (some 15) (.bool true) rfl rfl rfl rfl ?_
        refine OA.nil ?_
        intro _
        refine RA.weaken (D' := [(n18, some ⟨[(xDp525 jx NX jv K ju2n18 M)], 3, 38, true⟩), (ju2n18, some (oMsg (L2 ++ [m]))), ((n5 + 1), some ⟨[(cMsg m)], 5, 29, true⟩), (n5, some ⟨[(cAct (acts.getD i dAct))], 6, 40, true⟩), (sn3, some ⟨[(xDp531 jn NX jw K jo M)], 3, 101, true⟩), ((n3 + 1), some ⟨[(xDp532 jx NX jv K ju M)], 3, 38, true⟩), (jn, some (oUx nx)), (jw, some (oMsg ws)), (jo, some (oMsg L2)), (jx, some (oIn (nx.map uI))), (jv, some (oMsg ws)), (ju, some (oMsg L2))]) hd (Less.of (fac (mm (fun _ => get_here) (fun _ => get_here)) (fac (mm (fun _ => (get_there (by omega) get_here)) (fun _ => (gt2 (by omega) get_here))) (fac (mm (fun _ => (gt2 (by omega) get_here)) (fun _ => (gt3 (by omega) get_here))) (fac (mm (fun _ => (gt3 (by omega) get_here)) (fun _ => (gt4 (by omega) get_here))) (fac (mm (fun _ => (gt4 (by omega) get_here)) (fun _ => (gt5 (by omega) get_here))) (fac (mm (fun _ => (gt5 (by omega) get_here)) (fun _ => (gt6 (by omega) get_here))) (fac (mm (fun _ => (gt6 (by omega) get_here)) (fun _ => (gt7 (by omega) get_here))) (fac (mm (fun _ => (gt7 (by omega) get_here)) (fun _ => (gt8 (by omega) get_here))) (fac (mm (fun _ => (gt8 (by omega) get_here)) (fun _ => (gt9 (by omega) get_here))) (fac (mm (fun _ => (gt9 (by omega) get_here)) (fun _ => (gt10 (by omega) get_here))) (fac (mm (fun _ => (gt10 (by omega) get_here)) (fun _ => (gt11 (by omega) get_here))) (fac (mm (fun _ => (gt11 (by omega) get_here)) (fun _ => (gt12 (by omega) get_here))) fan)))))))))))) (gone_of (by simp only [goneP, memP, List.cons_append, List.nil_append, true_or, or_true, true_and, and_true, or_false] <;> omega))) ?_
        refine RA.rebase [(0, (.int .i64 mn)), (1, va), (6, (Pt sn3 0 0)), (7, (.pointer (some ⟨(n3 + 1), 0, some 0⟩))), (8, (.int .i64 ((i : Nat) : Int))), (9, (Pt n5 0 0)), (13, (.pointer (some ⟨(n5 + 1), 0, some 0⟩))), (14, (Pt n18 0 0)), (15, (.bool true)), (38, (.bool true)), (47, (.int .i64 (Int.tmod (acts.getD i dAct).what 5))), (77, (.bool false)), (106, (.bool false))] ⟨rfl, rfl, rfl, rfl, rfl, rfl, rfl, rfl, rfl, rfl, rfl, rfl, rfl, trivial⟩ (fun τr19 => ?_)
        refine RA.seq hd ?_
        refine RA.region env_ok ?_
        refine OA.p (some 71) (.agg ⟨(xDp525 jx NX jv K ju2n18 M)⟩) rfl rfl rfl (r_loadA rfl rfl rfl rfl get_here rfl rfl rfl) ?_
        refine OA.op1 (dst := none) (v := (.tuple #[])) (n1 := (n18 + 1)) (w := ((n3 + 1), some ⟨[(xDp525 jx NX jv K ju2n18 M)], 3, 38, true⟩)) rfl rfl rfl (r_store rfl rfl rfl rfl rfl rfl rfl (gt5 (by omega) get_here) rfl rfl (Nat.le_of_ble_eq_true rfl) rfl) (by omega) ?_
        refine OA.nil ?_
        intro _
        refine RA.weaken (D' := [((n3 + 1), some ⟨[(xDp525 jx NX jv K ju2n18 M)], 3, 38, true⟩), (n18, some ⟨[(xDp525 jx NX jv K ju2n18 M)], 3, 38, true⟩), (ju2n18, some (oMsg (L2 ++ [m]))), ((n5 + 1), some ⟨[(cMsg m)], 5, 29, true⟩), (n5, some ⟨[(cAct (acts.getD i dAct))], 6, 40, true⟩), (sn3, some ⟨[(xDp531 jn NX jw K jo M)], 3, 101, true⟩), (jn, some (oUx nx)), (jw, some (oMsg ws)), (jo, some (oMsg L2)), (jx, some (oIn (nx.map uI))), (jv, some (oMsg ws)), (ju, some (oMsg L2))]) hd (Less.of (fac (mm (fun _ => get_here) (fun _ => get_here)) (fac (mm (fun _ => (get_there (by omega) get_here)) (fun _ => (get_there (by omega) get_here))) (fac (mm (fun _ => (gt2 (by omega) get_here)) (fun _ => (gt2 (by omega) get_here))) (fac (mm (fun _ => (gt3 (by omega) get_here)) (fun _ => (gt3 (by omega) get_here))) (fac (mm (fun _ => (gt4 (by omega) get_here)) (fun _ => (gt4 (by omega) get_here))) (fac (mm (fun _ => (gt5 (by omega) get_here)) (fun _ => (gt5 (by omega) get_here))) (fac (mm (fun _ => (gt6 (by omega) get_here)) (fun _ => (gt7 (by omega) get_here))) (fac (mm (fun _ => (gt7 (by omega) get_here)) (fun _ => (gt8 (by omega) get_here))) (fac (mm (fun _ => (gt8 (by omega) get_here)) (fun _ => (gt9 (by omega) get_here))) (fac (mm (fun _ => (gt9 (by omega) get_here)) (fun _ => (gt10 (by omega) get_here))) (fac (mm (fun _ => (gt10 (by omega) get_here)) (fun _ => (gt11 (by omega) get_here))) (fac (mm (fun _ => (gt11 (by omega) get_here)) (fun _ => (gt12 (by omega) get_here))) fan)))))))))))) (gone_of (by simp only [goneP, memP, List.cons_append, List.nil_append, true_or, or_true, true_and, and_true, or_false] <;> omega))) ?_
        refine RA.seq hd ?_
        refine RA.region env_ok ?_
        refine OA.p (some 72) (Pt sn3 0 0) rfl rfl rfl rfl ?_
        refine OA.p (some 73) (.agg ⟨[(.int .i64 m.st), (.int .i64 m.ssn), (.bool m.loose), (W m.proto), (.string m.data)]⟩) rfl rfl rfl (r_loadA rfl rfl rfl rfl (gt3 (by omega) get_here) rfl rfl rfl) ?_
        refine OA.call (dst := (some 74)) (all := (xDp58 sn3 m)) rfl rfl rfl rfl rfl rfl rfl rfl (CQ.imp (pPutL (hd.of (by omega) (kb12 (by omega))) sn3 jn jw jo t NX K M nx ws L2 hnx hws hL2 ht (by omega) (by omega) (by omega) (by omega) (by omega) (by omega) (by omega) (by omega) m hmt hc10 trivial (gt5 (by omega) get_here) (gt6 (by omega) get_here) (gt7 (by omega) get_here) (gt8 (by omega) get_here)) ?_)
        rintro _ n20 _ ⟨jo2n20, p1n20, p2n20, rfl, rfl⟩ hn20
        show OA _ _ _ _ _ _ _ _ [(sn3, some ⟨[[(.slice (some ⟨jn, 0, none⟩) NX 0), (.slice (some ⟨jw, 0, none⟩) K 2), (.slice (some ⟨jo2n20, 0, none⟩) (M + 1) 2)]], 3, 101, true⟩), (jo2n20, some (oMsg (L2 ++ [m]))), (jo, none), ((n3 + 1), some ⟨[(xDp525 jx NX jv K ju2n18 M)], 3, 38, true⟩), (n18, some ⟨[(xDp525 jx NX jv K ju2n18 M)], 3, 38, true⟩), (ju2n18, some (oMsg (L2 ++ [m]))), ((n5 + 1), some ⟨[(cMsg m)], 5, 29, true⟩), (n5, some ⟨[(cAct (acts.getD i dAct))], 6, 40, true⟩), (sn3, some ⟨[(xDp531 jn NX jw K jo M)], 3, 101, true⟩), (jn, some (oUx nx)), (jw, some (oMsg ws)), (jo, some (oMsg L2)), (jx, some (oIn (nx.map uI))), (jv, some (oMsg ws)), (ju, some (oMsg L2))] _
        refine OA.p (some 75) (.bool true) rfl rfl rfl rfl ?_
        refine OA.p (some 76) (.bool false) rfl rfl rfl rfl ?_
        refine OA.nil ?_
        intro _
        refine RA.reoff (idx := 1) get_here (gt10 (by omega) get_here) (by omega) rfl (cs' := [(.slice (some ⟨jn, 0, none⟩) NX 0), (.slice (some ⟨n20, 0, none⟩) K 2), (.slice (some ⟨jo2n20, 0, none⟩) (M + 1) 2)]) rfl (ob' := (oMsg ws)) (ro0) ?_
        refine RA.reoff (idx := 2) get_here (gt4 (by omega) get_here) (by omega) rfl (cs' := (xDp518 jn NX n20 K M)) rfl (ob' := (oMsg (L2 ++ [m]))) (ro0) ?_
        refine RA.reoff (idx := 1) (gt9 (by omega) get_here) (gt19 (by omega) get_here) (by omega) rfl (cs' := [(.slice (some ⟨jx, 0, none⟩) NX 0), (.slice (some ⟨(n20 + 2), 0, none⟩) K 2), (.slice (some ⟨ju2n18, 0, none⟩) (M + 1) 2)]) rfl (ob' := (oMsg ws)) (ro0) ?_
        refine RA.reoff (idx := 2) get_here (gt14 (by omega) get_here) (by omega) rfl (cs' := (xDp510 jx NX n20 K M)) rfl (ob' := (oMsg (L2 ++ [m]))) (ro0) ?_
        refine RA.weaken (D' := [((n3 + 1), some ⟨[(xDp510 jx NX n20 K M)], 3, 38, true⟩), ((n20 + 3), some (oMsg (L2 ++ [m]))), (ju2n18, none), ((n20 + 2), some (oMsg ws)), (jv, none), (sn3, some ⟨[(xDp518 jn NX n20 K M)], 3, 101, true⟩), ((n20 + 1), some (oMsg (L2 ++ [m]))), (jo2n20, none), (n20, some (oMsg ws)), (jw, none), (jo, none), (n18, some ⟨[(xDp525 jx NX jv K ju2n18 M)], 3, 38, true⟩), ((n5 + 1), some ⟨[(cMsg m)], 5, 29, true⟩), (n5, some ⟨[(cAct (acts.getD i dAct))], 6, 40, true⟩), (jn, some (oUx nx)), (jx, some (oIn (nx.map uI))), (ju, some (oMsg L2))]) hd (Less.of (fac (mm (fun _ => get_here) (fun _ => get_here)) (fac (mm (fun _ => (get_there (by omega) get_here)) (fun _ => (get_there (by omega) get_here))) (fac (mm (fun _ => (gt2 (by omega) get_here)) (fun _ => (gt2 (by omega) get_here))) (fac (mm (fun _ => (gt3 (by omega) get_here)) (fun _ => (gt4 (by omega) get_here))) (fac (mm (fun _ => (gt4 (by omega) get_here)) (fun _ => (gt5 (by omega) get_here))) (fac (mm (fun _ => (gt5 (by omega) get_here)) (fun _ => (gt6 (by omega) get_here))) (fac (mm (fun _ => (gt6 (by omega) get_here)) (fun _ => (gt7 (by omega) get_here))) (fac (mm (fun _ => (gt7 (by omega) get_here)) (fun _ => (gt8 (by omega) get_here))) (fac (mm (fun _ => (gt8 (by omega) get_here)) (fun _ => (gt10 (by omega) get_here))) (fac (mm (fun _ => (gt9 (by omega) get_here)) (fun _ => (gt11 (by omega) get_here))) (fac (mm (fun _ => (gt10 (by omega) get_here)) (fun _ => (gt14 (by omega) get_here))) (fac (mm (fun _ => (gt11 (by omega) get_here)) (fun _ => (gt16 (by omega) get_here))) (fac (mm (fun _ => (gt12 (by omega) get_here)) (fun _ => (gt18 (by omega) get_here))) (fac (mm (fun _ => (gt13 (by omega) get_here)) (fun _ => (gt19 (by omega) get_here))) (fac (mm (fun _ => (gt14 (by omega) get_here)) (fun _ => (gt20 (by omega) (get_there (by omega) get_here)))) (fac (mm (fun _ => (gt15 (by omega) get_here)) (fun _ => (gt20 (by omega) (gt4 (by omega) get_here)))) (fac (mm (fun _ => (gt16 (by omega) get_here)) (fun _ => (gt20 (by omega) (gt6 (by omega) get_here)))) fan))))))))))))))))) (gone_of (by simp only [goneP, memP, List.cons_append, List.nil_append, true_or, or_true, true_and, and_true, or_false] <;> omega))) ?_
        refine RA.condF rfl ?_
        refine RA.skip env_ok ?_
        exact ⟨rfl, ⟨NX, nx, K, ws, (M + 1), 0, 0, (L2 ++ [m]), (L2 ++ [m]), jn, n20, (n20 + 1), jx, (n20 + 2), (n20 + 3), ⟨rfl, rfl, rfl, rfl, rfl, trivial⟩, ⟨[(sn3, some ⟨[(xDp518 jn NX n20 K M)], 3, 101, true⟩), ((n3 + 1), some ⟨[(xDp510 jx NX n20 K M)], 3, 38, true⟩), (jn, some (oUx nx)), (n20, some (oMsg ws)), ((n20 + 1), some (oMsg (L2 ++ [m]))), (jx, some (oIn (nx.map uI))), ((n20 + 2), some (oMsg ws)), ((n20 + 3), some (oMsg (L2 ++ [m])))], (Less.of (fac (mm (fun _ => get_here) (fun _ => (gt5 (by omega) get_here))) (fac (mm (fun _ => (get_there (by omega) get_here)) (fun _ => get_here)) (fac (mm (fun _ => (gt2 (by omega) get_here)) (fun _ => (gt14 (by omega) get_here))) (fac (mm (fun _ => (gt3 (by omega) get_here)) (fun _ => (gt8 (by omega) get_here))) (fac (mm (fun _ => (gt4 (by omega) get_here)) (fun _ => (gt6 (by omega) get_here))) (fac (mm (fun _ => (gt5 (by omega) get_here)) (fun _ => (gt15 (by omega) get_here))) (fac (mm (fun _ => (gt6 (by omega) get_here)) (fun _ => (gt3 (by omega) get_here))) (fac (mm (fun _ => (gt7 (by omega) get_here)) (fun _ => (get_there (by omega) get_here))) fan)))))))) (gone_of (by simp only [goneP, memP, List.cons_append, List.nil_append, true_or, or_true, true_and, and_true, or_false] <;> omega))), rfl⟩, by omega, (kb8 (by omega)), ⟨by rw [hnx], by rw [hws], by have hh := (show (L2 ++ [m]).length = M + 1 from by rw [List.length_append, hL2]; rfl); omega, by have hh := (show (L2 ++ [m]).length = M + 1 from by rw [List.length_append, hL2]; rfl); omega, by first | rfl | (rw [List.drop_zero]; rfl), ⟨by omega, by omega, by omega⟩, hxa, szs_m hsz hmd, by omega, by omega, by omega, by omega, by omega, by omega, by omega, by omega, by omega, by omega, by omega, by omega, by omega, by omega⟩⟩⟩
       ·
        have hlo : m.loose = false := Bool.eq_false_iff.2 hc10
        by_cases hc11 : less16 (u16N m.ssn) (nx.getD t dUx).z ∨ ws.any (qq ((t : Nat) : Int) (u16N m.ssn)) = true
        ·
         refine OA.call (dst := (some 68)) (all := [(.agg ⟨(xDp532 jx NX jv K ju M)⟩), (.agg ⟨[(.int .i64 m.st), (.int .i64 m.ssn), (.bool m.loose), (W m.proto), (.string m.data)]⟩)]) rfl rfl rfl rfl rfl rfl rfl rfl (CQ.imp (rPutR (hd.of (by omega) (kb10 (by omega))) jx jv ju t NX K M nx ws L2 hnx (hxa t ht) hws hL2 ht (by omega) (by omega) (by omega) m hmt hlo hc11 (gt7 (by omega) get_here) (gt8 (by omega) get_here) (gt9 (by omega) get_here)) ?_)
         rintro _ n21 _ ⟨rfl, rfl⟩ hn21
         refine OA.app0 ?_
         refine OA.p (some 65) (.tuple ⟨[(.agg ⟨(xDp532 jx NX jv K ju M)⟩), (.bool false)]⟩) rfl rfl rfl rfl ?_
         refine OA.p (some 69) (.agg ⟨(xDp532 jx NX jv K ju M)⟩) rfl rfl rfl rfl ?_
         refine OA.p (some 70) (.bool false) rfl rfl rfl rfl ?_
         refine OA.op1 (dst := (some 14)) (v := (Pt n21 0 0)) (n1 := (n21 + 1)) (w := (n21, some ⟨[[(.slice none 0 0), (.slice none 0 0), (.slice none 0 0)]], 3, 38, true⟩)) rfl rfl rfl rfl (by omega) ?_
         refine OA.op1 (dst := none) (v := (.tuple #[])) (n1 := (n21 + 1)) (w := (n21, some ⟨[(xDp532 jx NX jv K ju M)], 3, 38, true⟩)) rfl rfl rfl (r_store rfl rfl rfl rfl rfl rfl rfl get_here rfl rfl (Nat.le_of_ble_eq_true rfl) rfl) (by omega) ?_
         refine OA.p (some 15) (.bool false) rfl rfl rfl rfl ?_
         refine OA.nil ?_
         intro _
         refine RA.weaken (D' := [(n21, some ⟨[(xDp532 jx NX jv K ju M)], 3, 38, true⟩), ((n5 + 1), some ⟨[(cMsg m)], 5, 29, true⟩), (n5, some ⟨[(cAct (acts.getD i dAct))], 6, 40, true⟩), (sn3, some ⟨[(xDp531 jn NX jw K jo M)], 3, 101, true⟩), ((n3 + 1), some ⟨[(xDp532 jx NX jv K ju M)], 3, 38, true⟩), (jn, some (oUx nx)), (jw, some (oMsg ws)), (jo, some (oMsg L2)), (jx, some (oIn (nx.map uI))), (jv, some (oMsg ws)), (ju, some (oMsg L2))]) hd (Less.of (fac (mm (fun _ => get_here) (fun _ => get_here)) (fac (mm (fun _ => (get_there (by omega) get_here)) (fun _ => (gt2 (by omega) get_here))) (fac (mm (fun _ => (gt2 (by omega) get_here)) (fun _ => (gt3 (by omega) get_here))) (fac (mm (fun _ => (gt3 (by omega) get_here)) (fun _ => (gt4 (by omega) get_here))) (fac (mm (fun _ => (gt4 (by omega) get_here)) (fun _ => (gt5 (by omega) get_here))) (fac (mm (fun _ => (gt5 (by omega) get_here)) (fun _ => (gt6 (by omega) get_here))) (fac (mm (fun _ => (gt6 (by omega) get_here)) (fun _ => (gt7 (by omega) get_here))) (fac (mm (fun _ => (gt7 (by omega) get_here)) (fun _ => (gt8 (by omega) get_here))) (fac (mm (fun _ => (gt8 (by omega) get_here)) (fun _ => (gt9 (by omega) get_here))) (fac (mm (fun _ => (gt9 (by omega) get_here)) (fun _ => (gt10 (by omega) get_here))) (fac (mm (fun _ => (gt10 (by omega) get_here)) (fun _ => (gt11 (by omega) get_here))) fan))))))))))) (gone_of (by simp only [goneP, memP, List.cons_append, List.nil_append, true_or, or_true, true_and, and_true, or_false] <;> omega))) ?_
         refine RA.rebase [(0, (.int .i64 mn)), (1, va), (6, (Pt sn3 0 0)), (7, (.pointer (some ⟨(n3 + 1), 0, some 0⟩))), (8, (.int .i64 ((i : Nat) : Int))), (9, (Pt n5 0 0)), (13, (.pointer (some ⟨(n5 + 1), 0, some 0⟩))), (14, (Pt n21 0 0)), (15, (.bool false)), (38, (.bool true)), (47, (.int .i64 (Int.tmod (acts.getD i dAct).what 5))), (77, (.bool false)), (106, (.bool false))] ⟨rfl, rfl, rfl, rfl, rfl, rfl, rfl, rfl, rfl, rfl, rfl, rfl, rfl, trivial⟩ (fun τr22 => ?_)
         refine RA.seq hd ?_
         refine RA.region env_ok ?_
         refine OA.p (some 71) (.agg ⟨(xDp532 jx NX jv K ju M)⟩) rfl rfl rfl (r_loadA rfl rfl rfl rfl get_here rfl rfl rfl) ?_
         refine OA.op1 (dst := none) (v := (.tuple #[])) (n1 := (n21 + 1)) (w := ((n3 + 1), some ⟨[(xDp532 jx NX jv K ju M)], 3, 38, true⟩)) rfl rfl rfl (r_store rfl rfl rfl rfl rfl rfl rfl (gt4 (by omega) get_here) rfl rfl (Nat.le_of_ble_eq_true rfl) rfl) (by omega) ?_
         refine OA.nil ?_
         intro _
         refine RA.weaken (D' := [((n3 + 1), some ⟨[(xDp532 jx NX jv K ju M)], 3, 38, true⟩), (n21, some ⟨[(xDp532 jx NX jv K ju M)], 3, 38, true⟩), ((n5 + 1), some ⟨[(cMsg m)], 5, 29, true⟩), (n5, some ⟨[(cAct (acts.getD i dAct))], 6, 40, true⟩), (sn3, some ⟨[(xDp531 jn NX jw K jo M)], 3, 101, true⟩), (jn, some (oUx nx)), (jw, some (oMsg ws)), (jo, some (oMsg L2)), (jx, some (oIn (nx.map uI))), (jv, some (oMsg ws)), (ju, some (oMsg L2))]) hd (Less.of (fac (mm (fun _ => get_here) (fun _ => get_here)) (fac (mm (fun _ => (get_there (by omega) get_here)) (fun _ => (get_there (by omega) get_here))) (fac (mm (fun _ => (gt2 (by omega) get_here)) (fun _ => (gt2 (by omega) get_here))) (fac (mm (fun _ => (gt3 (by omega) get_here)) (fun _ => (gt3 (by omega) get_here))) (fac (mm (fun _ => (gt4 (by omega) get_here)) (fun _ => (gt4 (by omega) get_here))) (fac (mm (fun _ => (gt5 (by omega) get_here)) (fun _ => (gt6 (by omega) get_here))) (fac (mm (fun _ => (gt6 (by omega) get_here)) (fun _ => (gt7 (by omega) get_here))) (fac (mm (fun _ => (gt7 (by omega) get_here)) (fun _ => (gt8 (by omega) get_here))) (fac (mm (fun _ => (gt8 (by omega) get_here)) (fun _ => (gt9 (by omega) get_here))) (fac (mm (fun _ => (gt9 (by omega) get_here)) (fun _ => (gt10 (by omega) get_here))) (fac (mm (fun _ => (gt10 (by omega) get_here)) (fun _ => (gt11 (by omega) get_here))) fan))))))))))) (gone_of (by simp only [goneP, memP, List.cons_append, List.nil_append, true_or, or_true, true_and, and_true, or_false] <;> omega))) ?_
         refine RA.seq hd ?_
         refine RA.region env_ok ?_
         refine OA.p (some 72) (Pt sn3 0 0) rfl rfl rfl rfl ?_
         refine OA.p (some 73) (.agg ⟨[(.int .i64 m.st), (.int .i64 m.ssn), (.bool m.loose), (W m.proto), (.string m.data)]⟩) rfl rfl rfl (r_loadA rfl rfl rfl rfl (gt2 (by omega) get_here) rfl rfl rfl) ?_
         refine OA.call (dst := (some 74)) (all := (xDp58 sn3 m)) rfl rfl rfl rfl rfl rfl rfl rfl (CQ.imp (pPutR (hd.of (by omega) (kb11 (by omega))) sn3 jn jw jo t NX K M nx ws L2 hnx hws hL2 ht (by omega) (by omega) (by omega) (by omega) (by omega) (by omega) (by omega) (by omega) m hmt hlo hc11 (gt4 (by omega) get_here) (gt5 (by omega) get_here) (gt6 (by omega) get_here) (gt7 (by omega) get_here)) ?_)
         rintro _ n23 _ ⟨rfl, rfl⟩ hn23
         refine OA.app0 ?_
         refine OA.p (some 75) (.bool false) rfl rfl rfl rfl ?_
         refine OA.p (some 76) (.bool false) rfl rfl rfl rfl ?_
         refine OA.nil ?_
         intro _
         refine RA.reoff (idx := 1) (gt4 (by omega) get_here) (gt6 (by omega) get_here) (by omega) rfl (cs' := [(.slice (some ⟨jn, 0, none⟩) NX 0), (.slice (some ⟨n23, 0, none⟩) K 2), (.slice (some ⟨jo, 0, none⟩) M 2)]) rfl (ob' := (oMsg ws)) (ro0) ?_
         refine RA.reoff (idx := 2) get_here (gt10 (by omega) get_here) (by omega) rfl (cs' := (xDp529 jn NX n23 K M)) rfl (ob' := (oMsg L2)) (ro0) ?_
         refine RA.reoff (idx := 1) (gt6 (by omega) get_here) (gt15 (by omega) get_here) (by omega) rfl (cs' := [(.slice (some ⟨jx, 0, none⟩) NX 0), (.slice (some ⟨(n23 + 2), 0, none⟩) K 2), (.slice (some ⟨ju, 0, none⟩) M 2)]) rfl (ob' := (oMsg ws)) (ro0) ?_
         refine RA.reoff (idx := 2) get_here (gt19 (by omega) get_here) (by omega) rfl (cs' := (xDp519 jx NX n23 K M)) rfl (ob' := (oMsg L2)) (ro0) ?_
         refine RA.weaken (D' := [((n3 + 1), some ⟨[(xDp519 jx NX n23 K M)], 3, 38, true⟩), ((n23 + 3), some (oMsg L2)), (ju, none), ((n23 + 2), some (oMsg ws)), (jv, none), (sn3, some ⟨[(xDp529 jn NX n23 K M)], 3, 101, true⟩), ((n23 + 1), some (oMsg L2)), (jo, none), (n23, some (oMsg ws)), (jw, none), (n21, some ⟨[(xDp532 jx NX jv K ju M)], 3, 38, true⟩), ((n5 + 1), some ⟨[(cMsg m)], 5, 29, true⟩), (n5, some ⟨[(cAct (acts.getD i dAct))], 6, 40, true⟩), (jn, some (oUx nx)), (jx, some (oIn (nx.map uI)))]) hd (Less.of (fac (mm (fun _ => get_here) (fun _ => get_here)) (fac (mm (fun _ => (get_there (by omega) get_here)) (fun _ => (get_there (by omega) get_here))) (fac (mm (fun _ => (gt2 (by omega) get_here)) (fun _ => (gt2 (by omega) get_here))) (fac (mm (fun _ => (gt3 (by omega) get_here)) (fun _ => (gt4 (by omega) get_here))) (fac (mm (fun _ => (gt4 (by omega) get_here)) (fun _ => (gt5 (by omega) get_here))) (fac (mm (fun _ => (gt5 (by omega) get_here)) (fun _ => (gt6 (by omega) get_here))) (fac (mm (fun _ => (gt6 (by omega) get_here)) (fun _ => (gt7 (by omega) get_here))) (fac (mm (fun _ => (gt7 (by omega) get_here)) (fun _ => (gt8 (by omega) get_here))) (fac (mm (fun _ => (gt8 (by omega) get_here)) (fun _ => (gt10 (by omega) get_here))) (fac (mm (fun _ => (gt9 (by omega) get_here)) (fun _ => (gt11 (by omega) get_here))) (fac (mm (fun _ => (gt10 (by omega) get_here)) (fun _ => (gt13 (by omega) get_here))) (fac (mm (fun _ => (gt11 (by omega) get_here)) (fun _ => (gt14 (by omega) get_here))) (fac (mm (fun _ => (gt12 (by omega) get_here)) (fun _ => (gt15 (by omega) get_here))) (fac (mm (fun _ => (gt13 (by omega) get_here)) (fun _ => (gt17 (by omega) get_here))) (fac (mm (fun _ => (gt14 (by omega) get_here)) (fun _ => (gt20 (by omega) get_here))) fan))))))))))))))) (gone_of (by simp only [goneP, memP, List.cons_append, List.nil_append, true_or, or_true, true_and, and_true, or_false] <;> omega))) ?_
         refine RA.condF rfl ?_
         refine RA.skip env_ok ?_
         exact ⟨rfl, ⟨NX, nx, K, ws, M, 0, 0, L2, L2, jn, n23, (n23 + 1), jx, (n23 + 2), (n23 + 3), ⟨rfl, rfl, rfl, rfl, rfl, trivial⟩, ⟨[(sn3, some ⟨[(xDp529 jn NX n23 K M)], 3, 101, true⟩), ((n3 + 1), some ⟨[(xDp519 jx NX n23 K M)], 3, 38, true⟩), (jn, some (oUx nx)), (n23, some (oMsg ws)), ((n23 + 1), some (oMsg L2)), (jx, some (oIn (nx.map uI))), ((n23 + 2), some (oMsg ws)), ((n23 + 3), some (oMsg L2))], (Less.of (fac (mm (fun _ => get_here) (fun _ => (gt5 (by omega) get_here))) (fac (mm (fun _ => (get_there (by omega) get_here)) (fun _ => get_here)) (fac (mm (fun _ => (gt2 (by omega) get_here)) (fun _ => (gt13 (by omega) get_here))) (fac (mm (fun _ => (gt3 (by omega) get_here)) (fun _ => (gt8 (by omega) get_here))) (fac (mm (fun _ => (gt4 (by omega) get_here)) (fun _ => (gt6 (by omega) get_here))) (fac (mm (fun _ => (gt5 (by omega) get_here)) (fun _ => (gt14 (by omega) get_here))) (fac (mm (fun _ => (gt6 (by omega) get_here)) (fun _ => (gt3 (by omega) get_here))) (fac (mm (fun _ => (gt7 (by omega) get_here)) (fun _ => (get_there (by omega) get_here))) fan)))))))) (gone_of (by simp only [goneP, memP, List.cons_append, List.nil_append, true_or, or_true, true_and, and_true, or_false] <;> omega))), rfl⟩, by omega, (kb8 (by omega)), ⟨by rw [hnx], by rw [hws], by have hh := (show L2.length = M from by rw [hL2]); omega, by have hh := (show L2.length = M from by rw [hL2]); omega, by first | rfl | (rw [List.drop_zero]; rfl), ⟨by omega, by omega, by omega⟩, hxa, szs_k hsz, by omega, by omega, by omega, by omega, by omega, by omega, by omega, by omega, by omega, by omega, by omega, by omega, by omega, by omega⟩⟩⟩
        ·
         obtain ⟨R, hR⟩ : ∃ R, goS ((t : Nat) : Int) (K + 1) (nx.getD t dUx).z (ws ++ [m]) L2 = R := ⟨_, rfl⟩
         obtain ⟨K2, hk2⟩ : ∃ K2, R.2.1.length = K2 := ⟨_, rfl⟩
         obtain ⟨M2, hm2⟩ : ∃ M2, R.2.2.length = M2 := ⟨_, rfl⟩
         refine OA.call (dst := (some 68)) (all := [(.agg ⟨(xDp532 jx NX jv K ju M)⟩), (.agg ⟨[(.int .i64 m.st), (.int .i64 m.ssn), (.bool m.loose), (W m.proto), (.string m.data)]⟩)]) rfl rfl rfl rfl rfl rfl rfl rfl (CQ.imp (rPutT (hd.of (by omega) (kb10 (by omega))) jx jv ju t NX K M nx ws L2 hnx (hxa t ht) hws hL2 ht (by omega) (by omega) (by omega) m hmt hlo hc11 R hR K2 M2 hk2 hm2 (gt7 (by omega) get_here) (gt8 (by omega) get_here) (gt9 (by omega) get_here)) ?_)
         rintro _ n24 _ ⟨jx2n24, jv2n24, ju2n24, p0n24, p1n24, p2n24, p3n24, p4n24, p5n24, p6n24, p7n24, p8n24, hkmn24, rfl, rfl⟩ hn24
         show OA _ _ _ _ _ _ _ _ [(jx2n24, some (oIn ((nx.set t (Ux.mk R.1)).map uI))), (jv2n24, some (oMsg R.2.1)), (ju2n24, some (oMsg R.2.2)), (ju, none), ((n5 + 1), some ⟨[(cMsg m)], 5, 29, true⟩), (n5, some ⟨[(cAct (acts.getD i dAct))], 6, 40, true⟩), (sn3, some ⟨[(xDp531 jn NX jw K jo M)], 3, 101, true⟩), ((n3 + 1), some ⟨[(xDp532 jx NX jv K ju M)], 3, 38, true⟩), (jn, some (oUx nx)), (jw, some (oMsg ws)), (jo, some (oMsg L2)), (jx, some (oIn (nx.map uI))), (jv, some (oMsg ws)), (ju, some (oMsg L2))] _
         refine OA.p (some 65) (.tuple ⟨[(.agg ⟨(xDp520 jx2n24 NX jv2n24 K2 ju2n24 M2)⟩), (.bool true)]⟩) rfl rfl rfl rfl ?_
         refine OA.p (some 69) (.agg ⟨(xDp520 jx2n24 NX jv2n24 K2 ju2n24 M2)⟩) rfl rfl rfl rfl ?_
         refine OA.p (some 70) (.bool true) rfl rfl rfl rfl ?_
         refine OA.op1 (dst := (some 14)) (v := (Pt n24 0 0)) (n1 := (n24 + 1)) (w := (n24, some ⟨[[(.slice none 0 0), (.slice none 0 0), (.slice none 0 0)]], 3, 38, true⟩)) rfl rfl rfl rfl (by omega) ?_
         refine OA.op1 (dst := none) (v := (.tuple #[])) (n1 := (n24 + 1)) (w := (n24, some ⟨[(xDp520 jx2n24 NX jv2n24 K2 ju2n24 M2)], 3, 38, true⟩)) rfl rfl rfl (r_store rfl rfl rfl rfl rfl rfl rfl get_here rfl rfl (Nat.le_of_ble_eq_true rfl) rfl) (by omega) ?_
         refine OA.p (some 15) (.bool true) rfl rfl rfl rfl ?_
         refine OA.nil ?_
         intro _
         refine RA.weaken (D' := [(n24, some ⟨[(xDp520 jx2n24 NX jv2n24 K2 ju2n24 M2)], 3, 38, true⟩), (jx2n24, some (oIn ((nx.set t (Ux.mk R.1)).map uI))), (jv2n24, some (oMsg R.2.1)), (ju2n24, some (oMsg R.2.2)), (ju, none), ((n5 + 1), some ⟨[(cMsg m)], 5, 29, true⟩), (n5, some ⟨[(cAct (acts.getD i dAct))], 6, 40, true⟩), (sn3, some ⟨[(xDp531 jn NX jw K jo M)], 3, 101, true⟩), ((n3 + 1), some ⟨[(xDp532 jx NX jv K ju M)], 3, 38, true⟩), (jn, some (oUx nx)), (jw, some (oMsg ws)), (jo, some (oMsg L2)), (jx, some (oIn (nx.map uI))), (jv, some (oMsg ws))]) hd (Less.of (fac (mm (fun _ => get_here) (fun _ => get_here)) (fac (mm (fun _ => (get_there (by omega) get_here)) (fun _ => (gt2 (by omega) get_here))) (fac (mm (fun _ => (gt2 (by omega) get_here)) (fun _ => (gt3 (by omega) get_here))) (fac (mm (fun _ => (gt3 (by omega) get_here)) (fun _ => (gt4 (by omega) get_here))) (fac (mm (fun _ => (gt4 (by omega) get_here)) (fun _ => (gt5 (by omega) get_here))) (fac (mm (fun _ => (gt5 (by omega) get_here)) (fun _ => (gt6 (by omega) get_here))) (fac (mm (fun _ => (gt6 (by omega) get_here)) (fun _ => (gt7 (by omega) get_here))) (fac (mm (fun _ => (gt7 (by omega) get_here)) (fun _ => (gt8 (by omega) get_here))) (fac (mm (fun _ => (gt8 (by omega) get_here)) (fun _ => (gt9 (by omega) get_here))) (fac (mm (fun _ => (gt9 (by omega) get_here)) (fun _ => (gt10 (by omega) get_here))) (fac (mm (fun _ => (gt10 (by omega) get_here)) (fun _ => (gt11 (by omega) get_here))) (fac (mm (fun _ => (gt11 (by omega) get_here)) (fun _ => (gt12 (by omega) get_here))) (fac (mm (fun _ => (gt12 (by omega) get_here)) (fun _ => (gt13 (by omega) get_here))) (fac (mm (fun _ => (gt13 (by omega) get_here)) (fun _ => (gt14 (by omega) get_here))) fan)))))))))))))) (gone_of (by simp only [goneP, memP, List.cons_append, List.nil_append, true_or, or_true, true_and, and_true, or_false] <;> omega))) ?_
         refine RA.rebase [(0, (.int .i64 mn)), (1, va), (6, (Pt sn3 0 0)), (7, (.pointer (some ⟨(n3 + 1), 0, some 0⟩))), (8, (.int .i64 ((i : Nat) : Int))), (9, (Pt n5 0 0)), (13, (.pointer (some ⟨(n5 + 1), 0, some 0⟩))), (14, (Pt n24 0 0)), (15, (.bool true)), (38, (.bool true)), (47, (.int .i64 (Int.tmod (acts.getD i dAct).what 5))), (77, (.bool false)), (106, (.bool false))] ⟨rfl, rfl, rfl, rfl, rfl, rfl, rfl, rfl, rfl, rfl, rfl, rfl, rfl, trivial⟩ (fun τr25 => ?_)
         refine RA.seq hd ?_
         refine RA.region env_ok ?_
         refine OA.p (some 71) (.agg ⟨(xDp520 jx2n24 NX jv2n24 K2 ju2n24 M2)⟩) rfl rfl rfl (r_loadA rfl rfl rfl rfl get_here rfl rfl rfl) ?_
         refine OA.op1 (dst := none) (v := (.tuple #[])) (n1 := (n24 + 1)) (w := ((n3 + 1), some ⟨[(xDp520 jx2n24 NX jv2n24 K2 ju2n24 M2)], 3, 38, true⟩)) rfl rfl rfl (r_store rfl rfl rfl rfl rfl rfl rfl (gt8 (by omega) get_here) rfl rfl (Nat.le_of_ble_eq_true rfl) rfl) (by omega) ?_
         refine OA.nil ?_
         intro _
         refine RA.weaken (D' := [((n3 + 1), some ⟨[(xDp520 jx2n24 NX jv2n24 K2 ju2n24 M2)], 3, 38, true⟩), (n24, some ⟨[(xDp520 jx2n24 NX jv2n24 K2 ju2n24 M2)], 3, 38, true⟩), (jx2n24, some (oIn ((nx.set t (Ux.mk R.1)).map uI))), (jv2n24, some (oMsg R.2.1)), (ju2n24, some (oMsg R.2.2)), (ju, none), ((n5 + 1), some ⟨[(cMsg m)], 5, 29, true⟩), (n5, some ⟨[(cAct (acts.getD i dAct))], 6, 40, true⟩), (sn3, some ⟨[(xDp531 jn NX jw K jo M)], 3, 101, true⟩), (jn, some (oUx nx)), (jw, some (oMsg ws)), (jo, some (oMsg L2)), (jx, some (oIn (nx.map uI))), (jv, some (oMsg ws))]) hd (Less.of (fac (mm (fun _ => get_here) (fun _ => get_here)) (fac (mm (fun _ => (get_there (by omega) get_here)) (fun _ => (get_there (by omega) get_here))) (fac (mm (fun _ => (gt2 (by omega) get_here)) (fun _ => (gt2 (by omega) get_here))) (fac (mm (fun _ => (gt3 (by omega) get_here)) (fun _ => (gt3 (by omega) get_here))) (fac (mm (fun _ => (gt4 (by omega) get_here)) (fun _ => (gt4 (by omega) get_here))) (fac (mm (fun _ => (gt5 (by omega) get_here)) (fun _ => (gt5 (by omega) get_here))) (fac (mm (fun _ => (gt6 (by omega) get_here)) (fun _ => (gt6 (by omega) get_here))) (fac (mm (fun _ => (gt7 (by omega) get_here)) (fun _ => (gt7 (by omega) get_here))) (fac (mm (fun _ => (gt8 (by omega) get_here)) (fun _ => (gt8 (by omega) get_here))) (fac (mm (fun _ => (gt9 (by omega) get_here)) (fun _ => (gt10 (by omega) get_here))) (fac (mm (fun _ => (gt10 (by omega) get_here)) (fun _ => (gt11 (by omega) get_here))) (fac (mm (fun _ => (gt11 (by omega) get_here)) (fun _ => (gt12 (by omega) get_here))) (fac (mm (fun _ => (gt12 (by omega) get_here)) (fun _ => (gt13 (by omega) get_here))) (fac (mm (fun _ => (gt13 (by omega) get_here)) (fun _ => (gt14 (by omega) get_here))) fan)))))))))))))) (gone_of (by simp only [goneP, memP, List.cons_append, List.nil_append, true_or, or_true, true_and, and_true, or_false] <;> omega))) ?_
         refine RA.seq hd ?_
         refine RA.region env_ok ?_
         refine OA.p (some 72) (Pt sn3 0 0) rfl rfl rfl rfl ?_
         refine OA.p (some 73) (.agg ⟨[(.int .i64 m.st), (.int .i64 m.ssn), (.bool m.loose), (W m.proto), (.string m.data)]⟩) rfl rfl rfl (r_loadA rfl rfl rfl rfl (gt6 (by omega) get_here) rfl rfl rfl) ?_
         refine OA.call (dst := (some 74)) (all := (xDp58 sn3 m)) rfl rfl rfl rfl rfl rfl rfl rfl (CQ.imp (pPutT (hd.of (by omega) (kb14 (by omega))) sn3 jn jw jo t NX K M nx ws L2 hnx hws hL2 ht (by omega) (by omega) (by omega) (by omega) (by omega) (by omega) (by omega) (by omega) m hmt hlo hc11 R hR K2 M2 hk2 hm2 (gt8 (by omega) get_here) (gt9 (by omega) get_here) (gt10 (by omega) get_here) (gt11 (by omega) get_here)) ?_)
         rintro _ n26 _ ⟨jw2n26, jo2n26, p0n26, p1n26, p2n26, p3n26, p4n26, hkmn26, rfl, rfl⟩ hn26
         show OA _ _ _ _ _ _ _ _ [(sn3, some ⟨[[(.slice (some ⟨jn, 0, none⟩) NX 0), (.slice (some ⟨jw2n26, 0, none⟩) K2 2), (.slice (some ⟨jo2n26, 0, none⟩) M2 2)]], 3, 101, true⟩), (jn, some (oUx (nx.set t (Ux.mk R.1)))), (jw2n26, some (oMsg R.2.1)), (jo2n26, some (oMsg R.2.2)), (jw, none), (jo, none), ((n3 + 1), some ⟨[(xDp520 jx2n24 NX jv2n24 K2 ju2n24 M2)], 3, 38, true⟩), (n24, some ⟨[(xDp520 jx2n24 NX jv2n24 K2 ju2n24 M2)], 3, 38, true⟩), (jx2n24, some (oIn ((nx.set t (Ux.mk R.1)).map uI))), (jv2n24, some (oMsg R.2.1)), (ju2n24, some (oMsg R.2.2)), (ju, none), ((n5 + 1), some ⟨[(cMsg m)], 5, 29, true⟩), (n5, some ⟨[(cAct (acts.getD i dAct))], 6, 40, true⟩), (sn3, some ⟨[(xDp531 jn NX jw K jo M)], 3, 101, true⟩), (jn, some (oUx nx)), (jw, some (oMsg ws)), (jo, some (oMsg L2)), (jx, some (oIn (nx.map uI))), (jv, some (oMsg ws))] _
         refine OA.p (some 75) (.bool true) rfl rfl rfl rfl ?_
         refine OA.p (some 76) (.bool false) rfl rfl rfl rfl ?_
         refine OA.nil ?_
         intro _
         refine RA.reoff (idx := 1) get_here (gt2 (by omega) get_here) (by omega) rfl (cs' := [(.slice (some ⟨jn, 0, none⟩) NX 0), (.slice (some ⟨n26, 0, none⟩) K2 2), (.slice (some ⟨jo2n26, 0, none⟩) M2 2)]) rfl (ob' := (oMsg R.2.1)) (ro0) ?_
         refine RA.reoff (idx := 2) get_here (gt6 (by omega) get_here) (by omega) rfl (cs' := (xDp526 jn NX n26 K2 M2)) rfl (ob' := (oMsg R.2.2)) (ro0) ?_
         refine RA.reoff (idx := 1) (gt12 (by omega) get_here) (gt15 (by omega) get_here) (by omega) rfl (cs' := [(.slice (some ⟨jx2n24, 0, none⟩) NX 0), (.slice (some ⟨(n26 + 2), 0, none⟩) K2 2), (.slice (some ⟨ju2n24, 0, none⟩) M2 2)]) rfl (ob' := (oMsg R.2.1)) (ro0) ?_
         refine RA.reoff (idx := 2) get_here (gt19 (by omega) get_here) (by omega) rfl (cs' := (xDp511 jx2n24 NX n26 K2 M2)) rfl (ob' := (oMsg R.2.2)) (ro0) ?_
         refine RA.weaken (D' := [((n3 + 1), some ⟨[(xDp511 jx2n24 NX n26 K2 M2)], 3, 38, true⟩), ((n26 + 3), some (oMsg R.2.2)), (ju2n24, none), ((n26 + 2), some (oMsg R.2.1)), (jv2n24, none), (sn3, some ⟨[(xDp526 jn NX n26 K2 M2)], 3, 101, true⟩), ((n26 + 1), some (oMsg R.2.2)), (jo2n26, none), (n26, some (oMsg R.2.1)), (jw2n26, none), (jn, some (oUx (nx.set t (Ux.mk R.1)))), (jw, none), (jo, none), (n24, some ⟨[(xDp520 jx2n24 NX jv2n24 K2 ju2n24 M2)], 3, 38, true⟩), (jx2n24, some (oIn ((nx.set t (Ux.mk R.1)).map uI))), (ju, none), ((n5 + 1), some ⟨[(cMsg m)], 5, 29, true⟩), (n5, some ⟨[(cAct (acts.getD i dAct))], 6, 40, true⟩), (jx, some (oIn (nx.map uI))), (jv, some (oMsg ws))]) hd (Less.of (fac (mm (fun _ => get_here) (fun _ => get_here)) (fac (mm (fun _ => (get_there (by omega) get_here)) (fun _ => (get_there (by omega) get_here))) (fac (mm (fun _ => (gt2 (by omega) get_here)) (fun _ => (gt2 (by omega) get_here))) (fac (mm (fun _ => (gt3 (by omega) get_here)) (fun _ => (gt4 (by omega) get_here))) (fac (mm (fun _ => (gt4 (by omega) get_here)) (fun _ => (gt5 (by omega) get_here))) (fac (mm (fun _ => (gt5 (by omega) get_here)) (fun _ => (gt6 (by omega) get_here))) (fac (mm (fun _ => (gt6 (by omega) get_here)) (fun _ => (gt7 (by omega) get_here))) (fac (mm (fun _ => (gt7 (by omega) get_here)) (fun _ => (gt8 (by omega) get_here))) (fac (mm (fun _ => (gt8 (by omega) get_here)) (fun _ => (gt10 (by omega) get_here))) (fac (mm (fun _ => (gt9 (by omega) get_here)) (fun _ => (gt11 (by omega) get_here))) (fac (mm (fun _ => (gt10 (by omega) get_here)) (fun _ => (gt13 (by omega) get_here))) (fac (mm (fun _ => (gt11 (by omega) get_here)) (fun _ => (gt16 (by omega) get_here))) (fac (mm (fun _ => (gt12 (by omega) get_here)) (fun _ => (gt17 (by omega) get_here))) (fac (mm (fun _ => (gt13 (by omega) get_here)) (fun _ => (gt19 (by omega) get_here))) (fac (mm (fun _ => (gt14 (by omega) get_here)) (fun _ => (gt20 (by omega) get_here))) (fac (mm (fun _ => (gt15 (by omega) get_here)) (fun _ => (gt20 (by omega) (gt3 (by omega) get_here)))) (fac (mm (fun _ => (gt16 (by omega) get_here)) (fun _ => (gt20 (by omega) (gt4 (by omega) get_here)))) (fac (mm (fun _ => (gt17 (by omega) get_here)) (fun _ => (gt20 (by omega) (gt5 (by omega) get_here)))) (fac (mm (fun _ => (gt18 (by omega) get_here)) (fun _ => (gt20 (by omega) (gt10 (by omega) get_here)))) (fac (mm (fun _ => (gt19 (by omega) get_here)) (fun _ => (gt20 (by omega) (gt11 (by omega) get_here)))) fan)))))))))))))))))))) (gone_of (by simp only [goneP, memP, List.cons_append, List.nil_append, true_or, or_true, true_and, and_true, or_false] <;> omega))) ?_
         refine RA.condF rfl ?_
         refine RA.skip env_ok ?_
         exact ⟨rfl, ⟨NX, (nx.set t (Ux.mk R.1)), K2, R.2.1, M2, 0, 0, R.2.2, R.2.2, jn, n26, (n26 + 1), jx2n24, (n26 + 2), (n26 + 3), ⟨rfl, rfl, rfl, rfl, rfl, trivial⟩, ⟨[(sn3, some ⟨[(xDp526 jn NX n26 K2 M2)], 3, 101, true⟩), ((n3 + 1), some ⟨[(xDp511 jx2n24 NX n26 K2 M2)], 3, 38, true⟩), (jn, some (oUx (nx.set t (Ux.mk R.1)))), (n26, some (oMsg R.2.1)), ((n26 + 1), some (oMsg R.2.2)), (jx2n24, some (oIn ((nx.set t (Ux.mk R.1)).map uI))), ((n26 + 2), some (oMsg R.2.1)), ((n26 + 3), some (oMsg R.2.2))], (Less.of (fac (mm (fun _ => get_here) (fun _ => (gt5 (by omega) get_here))) (fac (mm (fun _ => (get_there (by omega) get_here)) (fun _ => get_here)) (fac (mm (fun _ => (gt2 (by omega) get_here)) (fun _ => (gt10 (by omega) get_here))) (fac (mm (fun _ => (gt3 (by omega) get_here)) (fun _ => (gt8 (by omega) get_here))) (fac (mm (fun _ => (gt4 (by omega) get_here)) (fun _ => (gt6 (by omega) get_here))) (fac (mm (fun _ => (gt5 (by omega) get_here)) (fun _ => (gt14 (by omega) get_here))) (fac (mm (fun _ => (gt6 (by omega) get_here)) (fun _ => (gt3 (by omega) get_here))) (fac (mm (fun _ => (gt7 (by omega) get_here)) (fun _ => (get_there (by omega) get_here))) fan)))))))) (gone_of (by simp only [goneP, memP, List.cons_append, List.nil_append, true_or, or_true, true_and, and_true, or_false] <;> omega))), rfl⟩, by omega, (kb8 (by omega)), ⟨by rw [List.length_set, hnx], by rw [hk2], by have hh := (show R.2.2.length = M2 from by rw [hm2]); omega, by have hh := (show R.2.2.length = M2 from by rw [hm2]); omega, by first | rfl | (rw [List.drop_zero]; rfl), ⟨by omega, by omega, by omega⟩, hxa_set hnx hxa (goS_lt (hxa t ht) hR), szs_g hsz hmd hR, by omega, by omega, by omega, by omega, by omega, by omega, by omega, by omega, by omega, by omega, by omega, by omega, by omega, by omega⟩⟩⟩
   ·
    rintro _ τ27 n27 Dn27 hmn27 ⟨rfl, hSn27⟩
    rcases hSn27 with ⟨NX', nx', K', ws', M', oo, pp, L5, L3, jn', jw', jo', jx', jv', ju', hHn27, ⟨_, hLn27, rfl⟩, hn27, hKn27, hIn27⟩
    intro _
    refine RA.weaken hd hLn27 ?_
    rw [Has.eq hHn27]
    have hKn27_0 : sn3 < n27 := hKn27 _ (by simp only [keys, List.map_cons, List.map_nil, List.mem_cons, true_or, or_true])
    have hKn27_1 : (n3 + 1) < n27 := hKn27 _ (by simp only [keys, List.map_cons, List.map_nil, List.mem_cons, true_or, or_true])
    have hKn27_2 : jn' < n27 := hKn27 _ (by simp only [keys, List.map_cons, List.map_nil, List.mem_cons, true_or, or_true])
    have hKn27_3 : jw' < n27 := hKn27 _ (by simp only [keys, List.map_cons, List.map_nil, List.mem_cons, true_or, or_true])
    have hKn27_4 : jo' < n27 := hKn27 _ (by simp only [keys, List.map_cons, List.map_nil, List.mem_cons, true_or, or_true])
    have hKn27_5 : jx' < n27 := hKn27 _ (by simp only [keys, List.map_cons, List.map_nil, List.mem_cons, true_or, or_true])
    have hKn27_6 : jv' < n27 := hKn27 _ (by simp only [keys, List.map_cons, List.map_nil, List.mem_cons, true_or, or_true])
    have hKn27_7 : ju' < n27 := hKn27 _ (by simp only [keys, List.map_cons, List.map_nil, List.mem_cons, true_or, or_true])
    clear hKn27
    obtain ⟨hnx', hws', hL3, hL5, hdr, ⟨hN16', hN0', hKM'⟩, hxa', hsz0, ha1, ha2, ha3, ha4, ha5, ha6, ha7, ha8, ha9, ⟨ha10, ha11, ha12, ha13⟩, ha14, ha15, ha16, ha17⟩ := hIn27
    refine RA.seq hd ?_
    refine RA.region env_ok ?_
    refine OA.p (some 16) (.int .i64 0) rfl rfl rfl rfl ?_
    refine OA.nil ?_
    intro _
    refine RA.reoff (idx := 1) get_here (gt3 (by omega) get_here) (by omega) rfl (cs' := [(.slice (some ⟨jn', 0, none⟩) NX' 0), (.slice (some ⟨n27, 0, none⟩) K' 2), (.slice (some ⟨jo', oo, none⟩) M' 2)]) rfl (ob' := (oMsg ws')) (ro0) ?_
    refine RA.reoff (idx := 2) get_here (gt7 (by omega) get_here) (by omega) rfl (cs' := (xDp524 jn' NX' n27 K' M')) rfl (ob' := (oMsg (L5.drop oo))) (roD) ?_
    refine RA.reoff (idx := 1) (gt7 (by omega) get_here) (gt12 (by omega) get_here) (by omega) rfl (cs' := [(.slice (some ⟨jx', 0, none⟩) NX' 0), (.slice (some ⟨(n27 + 2), 0, none⟩) K' 2), (.slice (some ⟨ju', pp, none⟩) M' 2)]) rfl (ob' := (oMsg ws')) (ro0) ?_
    refine RA.reoff (idx := 2) get_here (gt16 (by omega) get_here) (by omega) rfl (cs' := (xDp513 jx' NX' n27 K' M')) rfl (ob' := (oMsg (L3.drop pp))) (roD) ?_
    refine RA.weaken (D' := [(sn3, some ⟨[(xDp524 jn' NX' n27 K' M')], 3, 101, true⟩), ((n3 + 1), some ⟨[(xDp513 jx' NX' n27 K' M')], 3, 38, true⟩), (jn', some (oUx nx')), (n27, some (oMsg ws')), ((n27 + 1), some (oMsg (L5.drop oo))), (jx', some (oIn (nx'.map uI))), ((n27 + 2), some (oMsg ws')), ((n27 + 3), some (oMsg (L3.drop pp)))]) hd (Less.of (fac (mm (fun _ => get_here) (fun _ => (gt6 (by omega) get_here))) (fac (mm (fun _ => (get_there (by omega) get_here)) (fun _ => get_here)) (fac (mm (fun _ => (gt2 (by omega) get_here)) (fun _ => (gt14 (by omega) get_here))) (fac (mm (fun _ => (gt3 (by omega) get_here)) (fun _ => (gt10 (by omega) get_here))) (fac (mm (fun _ => (gt4 (by omega) get_here)) (fun _ => (gt7 (by omega) get_here))) (fac (mm (fun _ => (gt5 (by omega) get_here)) (fun _ => (gt17 (by omega) get_here))) (fac (mm (fun _ => (gt6 (by omega) get_here)) (fun _ => (gt4 (by omega) get_here))) (fac (mm (fun _ => (gt7 (by omega) get_here)) (fun _ => (get_there (by omega) get_here))) fan)))))))) (gone_of (by simp only [goneP, memP, List.cons_append, List.nil_append, true_or, or_true, true_and, and_true, or_false] <;> omega))) ?_
    clear ha14 ha15 ha16 ha17
    obtain ⟨L4, hL4e⟩ : ∃ L4, L4 = L3.drop pp := ⟨_, rfl⟩
    rw [hdr, ← hL4e]
    rw [← hL4e] at hsz0
    have hL4 : L4.length = M' := by rw [hL4e, List.length_drop]; omega
    have hsz' : szs ws' + szs L4 ≤ 5 * (i + 1) := hsz0
    show RA _ _ _ _ _ _ _ _ [(sn3, some ⟨[(xDp524 jn' NX' n27 K' M')], 3, 101, true⟩), ((n3 + 1), some ⟨[(xDp513 jx' NX' n27 K' M')], 3, 38, true⟩), (jn', some (oUx nx')), (n27, some (oMsg ws')), ((n27 + 1), some (oMsg L4)), (jx', some (oIn (nx'.map uI))), ((n27 + 2), some (oMsg ws')), ((n27 + 3), some (oMsg L4))] _
    refine RA.seq hd ?_
    refine RA.seq hd ?_
    refine RA.region env_ok ?_
    refine OA.p (some 17) (.int .i64 0) rfl rfl rfl rfl ?_
    refine OA.nil ?_
    intro _
    refine RA.block ?_
    refine RA.loop hd (fun kk_ τ n' D => ∃ k : Nat,  kk_ = (K' - k) ∧ (n27 + 4) ≤ n' ∧ Has τ [(0, (.int .i64 mn)), (1, va), (6, (Pt sn3 0 0)), (7, (.pointer (some ⟨(n3 + 1), 0, some 0⟩))), (8, (.int .i64 ((i : Nat) : Int))), (16, (.int .i64 (((szs (ws'.take k)) : Nat) : Int))), (17, (.int .i64 ((k : Nat) : Int)))] ∧ D = [(sn3, some ⟨[(xDp524 jn' NX' n27 K' M')], 3, 101, true⟩), ((n3 + 1), some ⟨[(xDp513 jx' NX' n27 K' M')], 3, 38, true⟩), (jn', some (oUx nx')), (n27, some (oMsg ws')), ((n27 + 1), some (oMsg L4)), (jx', some (oIn (nx'.map uI))), ((n27 + 2), some (oMsg ws')), ((n27 + 3), some (oMsg L4))] ∧ (∀ i ∈ keys D, i < n') ∧ k ≤ K') ((K' - 0)) ⟨0, rfl, by omega, ⟨rfl, rfl, rfl, rfl, rfl, (by show Value.int _ _ = Value.int _ _; simp [szs]), rfl, trivial⟩, rfl, (kb8 (by omega)), by omega⟩ ?_
    rintro kn28 τ28 n28 _ ⟨k, rfl, hn28, hHn28, rfl, hKn28, hIn28⟩
    rw [Has.eq hHn28]
    have hKn28_0 : sn3 < n28 := hKn28 _ (by simp only [keys, List.map_cons, List.map_nil, List.mem_cons, true_or, or_true])
    have hKn28_1 : (n3 + 1) < n28 := hKn28 _ (by simp only [keys, List.map_cons, List.map_nil, List.mem_cons, true_or, or_true])
    have hKn28_2 : jn' < n28 := hKn28 _ (by simp only [keys, List.map_cons, List.map_nil, List.mem_cons, true_or, or_true])
    have hKn28_3 : n27 < n28 := hKn28 _ (by simp only [keys, List.map_cons, List.map_nil, List.mem_cons, true_or, or_true])
    have hKn28_4 : (n27 + 1) < n28 := hKn28 _ (by simp only [keys, List.map_cons, List.map_nil, List.mem_cons, true_or, or_true])
    have hKn28_5 : jx' < n28 := hKn28 _ (by simp only [keys, List.map_cons, List.map_nil, List.mem_cons, true_or, or_true])
    have hKn28_6 : (n27 + 2) < n28 := hKn28 _ (by simp only [keys, List.map_cons, List.map_nil, List.mem_cons, true_or, or_true])
    have hKn28_7 : (n27 + 3) < n28 := hKn28 _ (by simp only [keys, List.map_cons, List.map_nil, List.mem_cons, true_or, or_true])
    simp only [keys, List.map, List.forall_mem_cons, List.mem_cons, List.not_mem_nil, false_imp_iff, implies_true, and_true] at hKn28
    refine RA.seq hd ?_
    refine RA.seq hd ?_
    refine RA.region env_ok ?_
    refine OA.p (some 127) (.int .i64 ((k : Nat) : Int)) rfl rfl rfl rfl ?_
    refine OA.p (some 128) (.pointer (some ⟨(n3 + 1), 0, some 1⟩)) rfl rfl rfl rfl ?_
    refine OA.p (some 129) (.slice (some ⟨(n27 + 2), 0, none⟩) K' 2) rfl rfl rfl (r_load1 rfl rfl rfl rfl rfl (get_there (by omega) get_here) rfl rfl) ?_
    refine OA.p (some 130) (.int .i64 ((K' : Nat) : Int)) rfl rfl rfl rfl ?_
    by_cases hc12 : ((k : Nat) : Int) < ((K' : Nat) : Int)
    ·
     have hsi := szs_snoc (l := ws') (i := k) (by omega)
     have hse := szs_le (l := ws') (i := k + 1)
     refine OA.p (some 131) (.bool true) rfl rfl rfl (Eq.trans (r_bin rfl rfl rfl (b_lss rfl)) (dT hc12)) ?_
     refine OA.nil ?_
     intro _
     refine RA.condT rfl ?_
     refine RA.skip env_ok ?_
     intro _
     refine RA.seq hd ?_
     refine RA.block ?_
     refine RA.region env_ok ?_
     refine OA.p (some 134) (.int .i64 (((szs (ws'.take k)) : Nat) : Int)) rfl rfl rfl rfl ?_
     refine OA.p (some 135) (.pointer (some ⟨(n3 + 1), 0, some 1⟩)) rfl rfl rfl rfl ?_
     refine OA.p (some 136) (.slice (some ⟨(n27 + 2), 0, none⟩) K' 2) rfl rfl rfl (r_load1 rfl rfl rfl rfl rfl (get_there (by omega) get_here) rfl rfl) ?_
     refine OA.p (some 137) (.int .i64 ((k : Nat) : Int)) rfl rfl rfl rfl ?_
     refine OA.p (some 138) (.pointer (some ⟨(n27 + 2), k, some 0⟩)) rfl rfl rfl (r_iaS (l := k) rfl rfl rfl rfl rfl rfl (by omega) (by omega) (gt6 (by omega) get_here) rfl (by omega)) ?_
     refine OA.p (some 139) (.pointer (some ⟨(n27 + 2), k, some 4⟩)) rfl rfl rfl rfl ?_
     refine OA.p (some 140) (.string (ws'.getD k dMsg).data) rfl rfl rfl (r_loadF (c := cMsg) dMsg rfl rfl rfl rfl rfl (gt6 (by omega) get_here) (by rw [hws']; omega) rfl) ?_
     refine OA.p (some 141) (.int .i64 (((ws'.getD k dMsg).data.size : Nat) : Int)) rfl rfl rfl rfl ?_
     refine OA.p (some 142) (.int .i64 ((((szs (ws'.take k)) + (ws'.getD k dMsg).data.size) : Nat) : Int)) rfl rfl rfl (r_bin rfl rfl rfl (b_add (i64_eq (by omega)))) ?_
     refine OA.p (some 16) (.int .i64 ((((szs (ws'.take k)) + (ws'.getD k dMsg).data.size) : Nat) : Int)) rfl rfl rfl rfl ?_
     refine OA.nil ?_
     intro _
     refine RA.region env_ok ?_
     refine OA.p (some 132) (.int .i64 ((k : Nat) : Int)) rfl rfl rfl rfl ?_
     refine OA.p (some 133) (.int .i64 (((k + 1) : Nat) : Int)) rfl rfl rfl (r_bin rfl rfl rfl (b_add (i64_eq (by omega)))) ?_
     refine OA.p (some 17) (.int .i64 (((k + 1) : Nat) : Int)) rfl rfl rfl rfl ?_
     refine OA.nil ?_
     refine ⟨(K' - (k + 1)), by omega, [(sn3, some ⟨[(xDp524 jn' NX' n27 K' M')], 3, 101, true⟩), ((n3 + 1), some ⟨[(xDp513 jx' NX' n27 K' M')], 3, 38, true⟩), (jn', some (oUx nx')), (n27, some (oMsg ws')), ((n27 + 1), some (oMsg L4)), (jx', some (oIn (nx'.map uI))), ((n27 + 2), some (oMsg ws')), ((n27 + 3), some (oMsg L4))], (Less.refl _ _ _), (k + 1), rfl, by omega, ⟨rfl, rfl, rfl, rfl, rfl, (by show Value.int _ _ = Value.int _ _; rw [szs_snoc (by omega)]), rfl, trivial⟩, rfl, (kb8 (by omega)), by omega⟩
    ·
     refine OA.p (some 131) (.bool false) rfl rfl rfl (Eq.trans (r_bin rfl rfl rfl (b_lss rfl)) (dF hc12)) ?_
     refine OA.nil ?_
     intro _
     refine RA.condF rfl ?_
     refine RA.exit env_ok ?_
     intro _
     rw [szs_all (l := ws') (i := k) (by omega)]
     skip
     refine RA.seq hd ?_
     refine RA.seq hd ?_
     refine RA.region env_ok ?_
     refine OA.p (some 18) (.int .i64 0) rfl rfl rfl rfl ?_
     refine OA.nil ?_
     intro _
     refine RA.block ?_
     refine RA.loop hd (fun kk_ τ n' D => ∃ k : Nat,  kk_ = (M' - k) ∧ n28 ≤ n' ∧ Has τ [(0, (.int .i64 mn)), (1, va), (6, (Pt sn3 0 0)), (7, (.pointer (some ⟨(n3 + 1), 0, some 0⟩))), (8, (.int .i64 ((i : Nat) : Int))), (16, (.int .i64 (((szs ws' + szs (L4.take k)) : Nat) : Int))), (18, (.int .i64 ((k : Nat) : Int)))] ∧ D = [(sn3, some ⟨[(xDp524 jn' NX' n27 K' M')], 3, 101, true⟩), ((n3 + 1), some ⟨[(xDp513 jx' NX' n27 K' M')], 3, 38, true⟩), (jn', some (oUx nx')), (n27, some (oMsg ws')), ((n27 + 1), some (oMsg L4)), (jx', some (oIn (nx'.map uI))), ((n27 + 2), some (oMsg ws')), ((n27 + 3), some (oMsg L4))] ∧ (∀ i ∈ keys D, i < n') ∧ k ≤ M') ((M' - 0)) ⟨0, rfl, by omega, ⟨rfl, rfl, rfl, rfl, rfl, (by show Value.int _ _ = Value.int _ _; simp [szs]), rfl, trivial⟩, rfl, (kb8 (by omega)), by omega⟩ ?_
     rintro kn29 τ29 n29 _ ⟨k, rfl, hn29, hHn29, rfl, hKn29, hIn29⟩
     rw [Has.eq hHn29]
     have hKn29_0 : sn3 < n29 := hKn29 _ (by simp only [keys, List.map_cons, List.map_nil, List.mem_cons, true_or, or_true])
     have hKn29_1 : (n3 + 1) < n29 := hKn29 _ (by simp only [keys, List.map_cons, List.map_nil, List.mem_cons, true_or, or_true])
     have hKn29_2 : jn' < n29 := hKn29 _ (by simp only [keys, List.map_cons, List.map_nil, List.mem_cons, true_or, or_true])
     have hKn29_3 : n27 < n29 := hKn29 _ (by simp only [keys, List.map_cons, List.map_nil, List.mem_cons, true_or, or_true])
     have hKn29_4 : (n27 + 1) < n29 := hKn29 _ (by simp only [keys, List.map_cons, List.map_nil, List.mem_cons, true_or, or_true])
     have hKn29_5 : jx' < n29 := hKn29 _ (by simp only [keys, List.map_cons, List.map_nil, List.mem_cons, true_or, or_true])
     have hKn29_6 : (n27 + 2) < n29 := hKn29 _ (by simp only [keys, List.map_cons, List.map_nil, List.mem_cons, true_or, or_true])
     have hKn29_7 : (n27 + 3) < n29 := hKn29 _ (by simp only [keys, List.map_cons, List.map_nil, List.mem_cons, true_or, or_true])
     simp only [keys, List.map, List.forall_mem_cons, List.mem_cons, List.not_mem_nil, false_imp_iff, implies_true, and_true] at hKn29
     refine RA.seq hd ?_
     refine RA.seq hd ?_
     refine RA.region env_ok ?_
     refine OA.p (some 143) (.int .i64 ((k : Nat) : Int)) rfl rfl rfl rfl ?_
     refine OA.p (some 144) (.pointer (some ⟨(n3 + 1), 0, some 2⟩)) rfl rfl rfl rfl ?_
     refine OA.p (some 145) (.slice (some ⟨(n27 + 3), 0, none⟩) M' 2) rfl rfl rfl (r_load1 rfl rfl rfl rfl rfl (get_there (by omega) get_here) rfl rfl) ?_
     refine OA.p (some 146) (.int .i64 ((M' : Nat) : Int)) rfl rfl rfl rfl ?_
     by_cases hc13 : ((k : Nat) : Int) < ((M' : Nat) : Int)
     ·
      have hsi := szs_snoc (l := L4) (i := k) (by omega)
      have hse := szs_le (l := L4) (i := k + 1)
      refine OA.p (some 147) (.bool true) rfl rfl rfl (Eq.trans (r_bin rfl rfl rfl (b_lss rfl)) (dT hc13)) ?_
      refine OA.nil ?_
      intro _
      refine RA.condT rfl ?_
      refine RA.skip env_ok ?_
      intro _
      refine RA.seq hd ?_
      refine RA.block ?_
      refine RA.region env_ok ?_
      refine OA.p (some 150) (.int .i64 (((szs ws' + szs (L4.take k)) : Nat) : Int)) rfl rfl rfl rfl ?_
      refine OA.p (some 151) (.pointer (some ⟨(n3 + 1), 0, some 2⟩)) rfl rfl rfl rfl ?_
      refine OA.p (some 152) (.slice (some ⟨(n27 + 3), 0, none⟩) M' 2) rfl rfl rfl (r_load1 rfl rfl rfl rfl rfl (get_there (by omega) get_here) rfl rfl) ?_
      refine OA.p (some 153) (.int .i64 ((k : Nat) : Int)) rfl rfl rfl rfl ?_
      refine OA.p (some 154) (.pointer (some ⟨(n27 + 3), k, some 0⟩)) rfl rfl rfl (r_iaS (l := k) rfl rfl rfl rfl rfl rfl (by omega) (by omega) (gt7 (by omega) get_here) rfl (by omega)) ?_
      refine OA.p (some 155) (.pointer (some ⟨(n27 + 3), k, some 4⟩)) rfl rfl rfl rfl ?_
      refine OA.p (some 156) (.string (L4.getD k dMsg).data) rfl rfl rfl (r_loadF (c := cMsg) dMsg rfl rfl rfl rfl rfl (gt7 (by omega) get_here) (by rw [hL4]; omega) rfl) ?_
      refine OA.p (some 157) (.int .i64 (((L4.getD k dMsg).data.size : Nat) : Int)) rfl rfl rfl rfl ?_
      refine OA.p (some 158) (.int .i64 ((((szs ws' + szs (L4.take k)) + (L4.getD k dMsg).data.size) : Nat) : Int)) rfl rfl rfl (r_bin rfl rfl rfl (b_add (i64_eq (by omega)))) ?_
      refine OA.p (some 16) (.int .i64 ((((szs ws' + szs (L4.take k)) + (L4.getD k dMsg).data.size) : Nat) : Int)) rfl rfl rfl rfl ?_
      refine OA.nil ?_
      intro _
      refine RA.region env_ok ?_
      refine OA.p (some 148) (.int .i64 ((k : Nat) : Int)) rfl rfl rfl rfl ?_
      refine OA.p (some 149) (.int .i64 (((k + 1) : Nat) : Int)) rfl rfl rfl (r_bin rfl rfl rfl (b_add (i64_eq (by omega)))) ?_
      refine OA.p (some 18) (.int .i64 (((k + 1) : Nat) : Int)) rfl rfl rfl rfl ?_
      refine OA.nil ?_
      refine ⟨(M' - (k + 1)), by omega, [(sn3, some ⟨[(xDp524 jn' NX' n27 K' M')], 3, 101, true⟩), ((n3 + 1), some ⟨[(xDp513 jx' NX' n27 K' M')], 3, 38, true⟩), (jn', some (oUx nx')), (n27, some (oMsg ws')), ((n27 + 1), some (oMsg L4)), (jx', some (oIn (nx'.map uI))), ((n27 + 2), some (oMsg ws')), ((n27 + 3), some (oMsg L4))], (Less.refl _ _ _), (k + 1), rfl, by omega, ⟨rfl, rfl, rfl, rfl, rfl, (by show Value.int _ _ = Value.int _ _; rw [szs_snoc (by omega)]; rw [Nat.add_assoc]), rfl, trivial⟩, rfl, (kb8 (by omega)), by omega⟩
     ·
      refine OA.p (some 147) (.bool false) rfl rfl rfl (Eq.trans (r_bin rfl rfl rfl (b_lss rfl)) (dF hc13)) ?_
      refine OA.nil ?_
      intro _
      refine RA.condF rfl ?_
      refine RA.exit env_ok ?_
      intro _
      rw [szs_all (l := L4) (i := k) (by omega)]
      refine RA.seq hd ?_
      refine RA.par (md := [some [], none, some [], some [(n3 + 1)], some [], some [], some [], some [], none, some [], some [], some [], some [], some [], none, some [], some [(n3 + 1)], some [], some [], some []]) env_ok (hd.of (by omega) (kb8 (by omega))) (by kernel_rfl) ?_
      refine PQ.pure (dst := (some 159)) (v := (Pt sn3 0 0)) rfl rfl rfl noStore (none_ok _ _) rfl ?_
      refine PQ.callP (dst := (some 160)) (all := [(Pt sn3 0 0)]) (v := (.int .i64 ((M' : Nat) : Int))) _ (hd.of (by omega) (kb8 (by omega))) rfl rfl rfl rfl rfl rfl rfl rfl (seen_any (V := []) (D := [(sn3, some ⟨[(xDp524 jn' NX' n27 K' M')], 3, 101, true⟩), ((n3 + 1), some ⟨[(xDp513 jx' NX' n27 K' M')], 3, 38, true⟩), (jn', some (oUx nx')), (n27, some (oMsg ws')), ((n27 + 1), some (oMsg L4)), (jx', some (oIn (nx'.map uI))), ((n27 + 2), some (oMsg ws')), ((n27 + 3), some (oMsg L4))]) (by kernel_rfl)) (pReady sn3 jn' NX' (n27 + 1) M' (.slice (some ⟨n27, 0, none⟩) K' 2) get_here) ?_
      intro n30 hn30
      refine PQ.pure (dst := (some 161)) (v := (.pointer (some ⟨(n3 + 1), 0, some 2⟩))) rfl rfl rfl noStore (none_ok _ _) rfl ?_
      refine PQ.pure (dst := (some 162)) (v := (.slice (some ⟨(n27 + 3), 0, none⟩) M' 2)) rfl rfl rfl (app [((n3 + 1), some ⟨[(xDp513 jx' NX' n27 K' M')], 3, 38, true⟩)] noStore) (seen_one (V := []) (D := [(sn3, some ⟨[(xDp524 jn' NX' n27 K' M')], 3, 101, true⟩), ((n3 + 1), some ⟨[(xDp513 jx' NX' n27 K' M')], 3, 38, true⟩), (jn', some (oUx nx')), (n27, some (oMsg ws')), ((n27 + 1), some (oMsg L4)), (jx', some (oIn (nx'.map uI))), ((n27 + 2), some (oMsg ws')), ((n27 + 3), some (oMsg L4))]) (by kernel_rfl) (get_there (by omega) get_here)) (r_load1 rfl rfl rfl rfl rfl get_here rfl rfl) ?_
      refine PQ.pure (dst := (some 163)) (v := (.int .i64 ((M' : Nat) : Int))) rfl rfl rfl noStore (none_ok _ _) rfl ?_
      refine PQ.pure (dst := (some 164)) (v := (.bool false)) rfl rfl rfl noStore (none_ok _ _) (r_bin rfl rfl rfl (b_neq (decide_eq_false (fun h => h rfl)))) ?_
      refine PQ.pure (dst := (some 165)) (v := (.bool false)) rfl rfl rfl noStore (none_ok _ _) rfl ?_
      refine PQ.pure (dst := (some 166)) (v := (Pt sn3 0 0)) rfl rfl rfl noStore (none_ok _ _) rfl ?_
      refine PQ.callP (dst := (some 167)) (all := [(Pt sn3 0 0)]) (v := (.int .i64 (((szs ws' + szs L4) : Nat) : Int))) _ (hd.of (by omega) (kb8 (by omega))) rfl rfl rfl rfl rfl rfl rfl rfl (seen_any (V := []) (D := [(sn3, some ⟨[(xDp524 jn' NX' n27 K' M')], 3, 101, true⟩), ((n3 + 1), some ⟨[(xDp513 jx' NX' n27 K' M')], 3, 38, true⟩), (jn', some (oUx nx')), (n27, some (oMsg ws')), ((n27 + 1), some (oMsg L4)), (jx', some (oIn (nx'.map uI))), ((n27 + 2), some (oMsg ws')), ((n27 + 3), some (oMsg L4))]) (by kernel_rfl)) (pBytes sn3 jn' NX' n27 (n27 + 1) K' M' ws' L4 hws' hL4 (by omega) (by omega) (by omega) get_here (gt3 (by omega) get_here) (gt4 (by omega) get_here)) ?_
      intro n31 hn31
      refine PQ.pure (dst := (some 168)) (v := (.int .i64 (((szs ws' + szs L4) : Nat) : Int))) rfl rfl rfl noStore (none_ok _ _) rfl ?_
      refine PQ.pure (dst := (some 169)) (v := (.bool false)) rfl rfl rfl noStore (none_ok _ _) (r_bin rfl rfl rfl (b_neq (decide_eq_false (fun h => h rfl)))) ?_
      refine PQ.pure (dst := (some 170)) (v := (.bool false)) rfl rfl rfl noStore (none_ok _ _) rfl ?_
      refine PQ.pure (dst := (some 171)) (v := (.bool false)) rfl rfl rfl noStore (none_ok _ _) rfl ?_
      refine PQ.pure (dst := (some 172)) (v := (Pt sn3 0 0)) rfl rfl rfl noStore (none_ok _ _) rfl ?_
      refine PQ.callP (dst := (some 173)) (all := [(Pt sn3 0 0)]) (v := (.int .i64 ((NX' : Nat) : Int))) _ (hd.of (by omega) (kb8 (by omega))) rfl rfl rfl rfl rfl rfl rfl rfl (seen_any (V := []) (D := [(sn3, some ⟨[(xDp524 jn' NX' n27 K' M')], 3, 101, true⟩), ((n3 + 1), some ⟨[(xDp513 jx' NX' n27 K' M')], 3, 38, true⟩), (jn', some (oUx nx')), (n27, some (oMsg ws')), ((n27 + 1), some (oMsg L4)), (jx', some (oIn (nx'.map uI))), ((n27 + 2), some (oMsg ws')), ((n27 + 3), some (oMsg L4))]) (by kernel_rfl)) (pMany sn3 jn' NX' (.slice (some ⟨n27, 0, none⟩) K' 2) (.slice (some ⟨(n27 + 1), 0, none⟩) M' 2) get_here) ?_
      intro n32 hn32
      refine PQ.pure (dst := (some 174)) (v := (.pointer (some ⟨(n3 + 1), 0, some 0⟩))) rfl rfl rfl noStore (none_ok _ _) rfl ?_
      refine PQ.pure (dst := (some 175)) (v := (.slice (some ⟨jx', 0, none⟩) NX' 0)) rfl rfl rfl (app [((n3 + 1), some ⟨[(xDp513 jx' NX' n27 K' M')], 3, 38, true⟩)] noStore) (seen_one (V := []) (D := [(sn3, some ⟨[(xDp524 jn' NX' n27 K' M')], 3, 101, true⟩), ((n3 + 1), some ⟨[(xDp513 jx' NX' n27 K' M')], 3, 38, true⟩), (jn', some (oUx nx')), (n27, some (oMsg ws')), ((n27 + 1), some (oMsg L4)), (jx', some (oIn (nx'.map uI))), ((n27 + 2), some (oMsg ws')), ((n27 + 3), some (oMsg L4))]) (by kernel_rfl) (get_there (by omega) get_here)) (r_load1 rfl rfl rfl rfl rfl get_here rfl rfl) ?_
      refine PQ.pure (dst := (some 176)) (v := (.int .i64 ((NX' : Nat) : Int))) rfl rfl rfl noStore (none_ok _ _) rfl ?_
      refine PQ.pure (dst := (some 177)) (v := (.bool false)) rfl rfl rfl noStore (none_ok _ _) (r_bin rfl rfl rfl (b_neq (decide_eq_false (fun h => h rfl)))) ?_
      refine PQ.pure (dst := (some 178)) (v := (.bool false)) rfl rfl rfl noStore (none_ok _ _) rfl ?_
      refine PQ.done (d := []) (by kernel_rfl) ?_
      intro _
      refine RA.rebase [(0, (.int .i64 mn)), (1, va), (6, (Pt sn3 0 0)), (7, (.pointer (some ⟨(n3 + 1), 0, some 0⟩))), (8, (.int .i64 ((i : Nat) : Int))), (16, (.int .i64 (((szs ws' + szs L4) : Nat) : Int))), (18, (.int .i64 ((k : Nat) : Int))), (147, (.bool false)), (178, (.bool false))] ⟨rfl, rfl, rfl, rfl, rfl, rfl, rfl, rfl, rfl, trivial⟩ (fun τr33 => ?_)
      refine RA.condF rfl ?_
      refine RA.skip env_ok ?_
      intro _
      refine RA.region env_ok ?_
      refine OA.p (some 39) (.int .i64 ((i : Nat) : Int)) rfl rfl rfl rfl ?_
      refine OA.p (some 40) (.int .i64 (((i + 1) : Nat) : Int)) rfl rfl rfl (r_bin rfl rfl rfl (b_add (i64_eq (by omega)))) ?_
      refine OA.p (some 8) (.int .i64 (((i + 1) : Nat) : Int)) rfl rfl rfl rfl ?_
      refine OA.nil ?_
      refine ⟨60 - (i + 1), by omega, [(sn3, some ⟨[(xDp524 jn' NX' n27 K' M')], 3, 101, true⟩), ((n3 + 1), some ⟨[(xDp513 jx' NX' n27 K' M')], 3, 38, true⟩), (jn', some (oUx nx')), (n27, some (oMsg ws')), ((n27 + 1), some (oMsg L4)), (jx', some (oIn (nx'.map uI))), ((n27 + 2), some (oMsg ws')), ((n27 + 3), some (oMsg L4))], (Less.refl _ _ _), ⟨(i + 1), NX', nx', K', ws', M', L4, jn', n27, (n27 + 1), jx', (n27 + 2), (n27 + 3), rfl, by omega, ⟨rfl, rfl, rfl, rfl, rfl, trivial⟩, rfl, (kb8 (by omega)), ⟨by omega, hnx', hws', hL4, by omega, by omega, by omega, hxa', hsz', by omega, by omega, by omega, by omega, by omega, by omega, by omega, by omega, by omega, by omega⟩⟩⟩
  ·
   refine OA.p (some 37) (.bool false) rfl rfl rfl (Eq.trans (r_bin rfl rfl rfl (b_lss rfl)) (dF hc2)) ?_
   refine OA.p (some 38) (.bool false) rfl rfl rfl rfl ?_
   refine OA.nil ?_
   intro _
   refine RA.condF rfl ?_
   refine RA.exit env_ok ?_
   intro _
   refine RA.seq hd ?_
   refine RA.region env_ok ?_
   refine OA.p (some 4) (.bool true) rfl rfl rfl rfl ?_
   refine OA.nil ?_
   intro _
   refine RA.ret env_ok ?_
   refine ⟨.inr rfl, [(.bool true)], (resL_cons rfl resL_nil), [], (Less.of (fun p hp => by simp at hp) (gone_of (by simp only [goneP, memP, List.cons_append, List.nil_append, true_or, or_true, true_and, and_true, or_false] <;> omega))), rfl⟩
 ·
  refine OA.p (some 34) (.bool false) rfl rfl rfl (Eq.trans (r_bin rfl rfl rfl (b_lss rfl)) (dF hc1)) ?_
  refine OA.p (some 35) (.bool false) rfl rfl rfl rfl ?_
  refine OA.off (dst := (some 36)) rfl rfl rfl ?_
  refine OA.off (dst := (some 37)) rfl rfl rfl ?_
  refine OA.p (some 38) (.bool false) rfl rfl rfl rfl ?_
  refine OA.nil ?_
  intro _
  refine RA.condF rfl ?_
  refine RA.exit env_ok ?_
  intro _
  refine RA.seq hd ?_
  refine RA.region env_ok ?_
  refine OA.p (some 4) (.bool true) rfl rfl rfl rfl ?_
  refine OA.nil ?_
  intro _
  refine RA.ret env_ok ?_
  refine ⟨.inr rfl, [(.bool true)], (resL_cons rfl resL_nil), [], (Less.of (fun p hp => by simp at hp) (gone_of (by simp only [goneP, memP, List.cons_append, List.nil_append, true_or, or_true, true_and, and_true, or_false] <;> omega))), rfl⟩
end Go.Proofs.Ytmepflkodjdgdaa.Vt
