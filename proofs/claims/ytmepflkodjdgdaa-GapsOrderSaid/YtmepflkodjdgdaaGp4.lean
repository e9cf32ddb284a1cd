/- Gp4: walks through functions of the program, by the calculus; written by a program of this workplace. -/
import Derived.Test.YtmepflkodjdgdaaGpL
import Derived.Test.YtmepflkodjdgdaaVm6
namespace Go.Proofs.Ytmepflkodjdgdaa.Vt
open Go Go.Proofs Go.Proofs.YtmepflkodjdgdaaV
set_option maxRecDepth 100000
set_option linter.unusedVariables false
set_option linter.unusedSimpArgs false
structure By where
  z : Nat
deriving DecidableEq
def dBy : By := ⟨0⟩
abbrev cBy (e : By) : List Value := [(.int .u8 ((e.z : Nat) : Int))]
abbrev oBy (l : List By) : AObj := ⟨l.map cBy, 1, 5, true⟩
theorem awakeG {σ : Store} : PS Try.prog noDen 36 [] σ (.bool true) := PS.closed env_ok rfl (F := 200) (k := 60) (by kernel_rfl) rfl rfl
def TA (l : List By) (i : Nat) (x : Int) : Prop := ∃ j, j < i ∧ x = (((l.getD j dBy).z : Nat) : Int) + 1
def TB (l : List By) (N i : Nat) (x : Int) : Prop := ∃ j, j < i ∧ x = (((l.getD (N - 1 - j) dBy).z : Nat) : Int) + 1
theorem TA_s {l : List By} {i : Nat} : TA l (i + 1) = fun x => TA l i x ∨ x = (((l.getD i dBy).z : Nat) : Int) + 1 := by
  funext x
  apply propext
  constructor
  · rintro ⟨j, h1, h2⟩
    by_cases h : j = i
    · subst h; exact .inr h2
    · exact .inl ⟨j, by omega, h2⟩
  · rintro (⟨j, h1, h2⟩ | h)
    · exact ⟨j, by omega, h2⟩
    · exact ⟨i, by omega, h⟩
theorem TB_s {l : List By} {N i : Nat} : TB l N (i + 1) = fun x => TB l N i x ∨ x = (((l.getD (N - 1 - i) dBy).z : Nat) : Int) + 1 := by
  funext x
  apply propext
  constructor
  · rintro ⟨j, h1, h2⟩
    by_cases h : j = i
    · subst h; exact .inr h2
    · exact .inl ⟨j, by omega, h2⟩
  · rintro (⟨j, h1, h2⟩ | h)
    · exact ⟨j, by omega, h2⟩
    · exact ⟨i, by omega, h⟩
theorem getBy {l : List By} (h : ∀ b ∈ l, b.z < 256) (i : Nat) : (l.getD i dBy).z < 256 := by
  rcases Nat.lt_or_ge i l.length with h1 | h1
  · exact h _ (getD_mem h1)
  · rw [List.getD_eq_getElem?_getD, List.getElem?_eq_none h1]; decide
theorem TA_b {l : List By} {i : Nat} (h : ∀ b ∈ l, b.z < 256) : ∀ x, TA l i x → 1 ≤ x ∧ x ≤ 256 := by
  rintro x ⟨j, h1, rfl⟩
  have := getBy h j
  omega
theorem TB_b {l : List By} {N i : Nat} (h : ∀ b ∈ l, b.z < 256) : ∀ x, TB l N i x → 1 ≤ x ∧ x ≤ 256 := by
  rintro x ⟨j, h1, rfl⟩
  have := getBy h (N - 1 - j)
  omega
theorem TAB {l : List By} {N : Nat} : ∀ x, TA l N x ↔ TB l N N x := fun x => by
  constructor
  · rintro ⟨j, h1, h2⟩
    exact ⟨N - 1 - j, by omega, by rw [show N - 1 - (N - 1 - j) = j by omega]; exact h2⟩
  · rintro ⟨j, h1, h2⟩
    exact ⟨N - 1 - j, by omega, h2⟩
theorem GI_A {l : List By} {i k : Nat} {cum0 cum : BitVec 32} {ps : List Gap} {ds : List Wx} (h : GI (TA l i) cum0 cum ps) (hb : ∀ b ∈ l, b.z < 256) : GI (TA l (i + 1)) cum0 (addS cum ps ds (cum0 + 1#32 + BitVec.ofNat 32 (l.getD i dBy).z)).1 (addS cum ps ds (cum0 + 1#32 + BitVec.ofNat 32 (l.getD i dBy).z)).2.1 := by
  rw [TA_s]; exact GI_add h (TA_b hb) (getBy hb i)
theorem GI_B {l : List By} {N i k : Nat} {cum0 cum : BitVec 32} {ps : List Gap} {ds : List Wx} (h : GI (TB l N i) cum0 cum ps) (hb : ∀ b ∈ l, b.z < 256) : GI (TB l N (i + 1)) cum0 (addS cum ps ds (cum0 + 1#32 + BitVec.ofNat 32 (l.getD (N - 1 - i) dBy).z)).1 (addS cum ps ds (cum0 + 1#32 + BitVec.ofNat 32 (l.getD (N - 1 - i) dBy).z)).2.1 := by
  rw [TB_s]; exact GI_add h (TB_b hb) (getBy hb _)
theorem same_of {a b : List Gap} {x y : Nat} (h : a = b) (ha : a.length = x) (hb : b.length = y) : sameZ (a.take (min x 16)) (b.take (min y 16)) = true := by
  subst h; subst ha; subst hb; unfold sameZ; exact decide_eq_true rfl
abbrev xGp41 (c2 : BitVec 32) (ps2 : List Gap) (ds2 : List Wx) (cum : BitVec 32) (l : List By) (i : Nat) (jqn5 : Nat) (Kn5 : Nat) (jen5 : Nat) (Mn5 : Nat) : List Value := [(W (addS c2 ps2 ds2 ((cum + (1#32)) + (BitVec.ofNat 32 (l.getD (((min l.length 60) - 1) - i) dBy).z))).1), (.slice (some ⟨jqn5, 0, none⟩) Kn5 2), (.slice (some ⟨jen5, 0, none⟩) Mn5 2)]
abbrev xGp42 (c1 : BitVec 32) (ps1 : List Gap) (ds1 : List Wx) (cum : BitVec 32) (l : List By) (i : Nat) (jqn4 : Nat) (Kn4 : Nat) (jen4 : Nat) (Mn4 : Nat) : List Value := [(W (addS c1 ps1 ds1 ((cum + (1#32)) + (BitVec.ofNat 32 (l.getD i dBy).z))).1), (.slice (some ⟨jqn4, 0, none⟩) Kn4 2), (.slice (some ⟨jen4, 0, none⟩) Mn4 2)]
abbrev xGp43 (cum : BitVec 32) (n2 : Nat) : List Value := [(W cum), (.slice (some ⟨(n2 + 2), 0, none⟩) 0 2), (.slice (some ⟨(n2 + 3), 0, none⟩) 0 2)]
set_option maxHeartbeats 4000000 in
theorem gOrder {n : Nat} {σ : Store} (hd : Dom n σ) (hn0 : 0 < n) (cum : BitVec 32) (v : Value) (l : List By) (hv : RowP σ 5 1 v (l.map cBy)) (hby : ∀ b ∈ l, b.z < 256)   : CQ Try.prog noDen 9 [(W cum), v] n σ (fun v n' d => v = .bool true) := by
 have rlv := hv.lt hd hn0
 refine CQ.body (E := env) env_ok hd rfl rfl (by show _ ≤ _; exact of_decide_eq_true (by kernel_rfl)) ?_
 refine RA.seq hd ?_
 refine RA.region env_ok ?_
 refine OA.p (some 4) (.bool false) rfl rfl rfl rfl ?_
 refine OA.nil ?_
 intro _
 refine RA.seq hd ?_
 refine RA.region env_ok ?_
 refine OA.p (some 9) (W cum) rfl rfl rfl rfl ?_
 refine OA.call (dst := (some 10)) (all := [(W cum)]) rfl rfl rfl rfl rfl rfl rfl rfl (CQ.imp (gNew (hd.up (by omega)) cum) ?_)
 rintro _ n1 _ ⟨hnnn1, rfl, rfl⟩ hn1
 refine OA.app1 ?_
 refine OA.p (some 11) (W cum) rfl rfl rfl rfl ?_
 refine OA.call (dst := (some 12)) (all := [(W cum)]) rfl rfl rfl rfl rfl rfl rfl rfl (CQ.imp (gNew (hd.of (by omega) (kb1 (by omega))) cum) ?_)
 rintro _ n2 _ ⟨hnnn2, rfl, rfl⟩ hn2
 refine OA.app1 ?_
 refine OA.p (some 5) (Pt n 0 0) rfl rfl rfl rfl ?_
 refine OA.p (some 6) (Pt n1 0 0) rfl rfl rfl rfl ?_
 refine OA.nil ?_
 intro _
 refine RA.seq hd ?_
 refine RA.region env_ok ?_
 refine OA.p (some 13) v rfl rfl rfl rfl ?_
 refine OA.p (some 14) (.int .i64 ((l.length : Nat) : Int)) rfl rfl rfl (r_lenP (c := cBy) rfl rfl rfl rfl rfl rfl hv rfl) ?_
 refine OA.p (some 15) (.int .i64 (((min l.length 60) : Nat) : Int)) rfl rfl rfl (r_min (a := l.length) (b := 60) rfl rfl rfl) ?_
 refine OA.p (some 7) (.int .i64 (((min l.length 60) : Nat) : Int)) rfl rfl rfl rfl ?_
 refine OA.nil ?_
 intro _
 refine RA.seq hd ?_
 refine RA.seq hd ?_
 refine RA.region env_ok ?_
 refine OA.p (some 8) (.int .i64 0) rfl rfl rfl rfl ?_
 refine OA.nil ?_
 intro _
 refine RA.block ?_
 refine RA.ph (sz := 2) (t := 60) (by decide) ?_
 show RA _ _ _ _ _ _ _ _ [(n2, some (oGap ([] : List Gap))), (n1, some ⟨[[(W cum), (.slice none 0 0), (.slice none 0 0)]], 3, 131, true⟩), (n, some ⟨[[(W cum), (.slice none 0 0), (.slice none 0 0)]], 3, 131, true⟩)] _
 refine RA.le (ob := ⟨[[(W cum), (.slice none 0 0), (.slice none 0 0)]], 3, 131, true⟩) (ob' := ⟨[[(W cum), (.slice (some ⟨n2, 0, none⟩) 0 2), (.slice none 0 0)]], 3, 131, true⟩) (gt2 (by omega) get_here) (OLe.one (cs := [(W cum), (.slice none 0 0), (.slice none 0 0)]) (cs' := [(W cum), (.slice (some ⟨n2, 0, none⟩) 0 2), (.slice none 0 0)]) ⟨VLe.refl _, (vle_nil _ _), VLe.refl _, trivial⟩ rfl) ?_
 refine RA.ph (sz := 1) (t := 27) (by decide) ?_
 show RA _ _ _ _ _ _ _ _ [((n2 + 1), some (oWx ([] : List Wx))), (n, some ⟨[[(W cum), (.slice (some ⟨n2, 0, none⟩) 0 2), (.slice none 0 0)]], 3, 131, true⟩), (n2, some (oGap ([] : List Gap))), (n1, some ⟨[[(W cum), (.slice none 0 0), (.slice none 0 0)]], 3, 131, true⟩), (n, some ⟨[[(W cum), (.slice none 0 0), (.slice none 0 0)]], 3, 131, true⟩)] _
 refine RA.le (ob := ⟨[[(W cum), (.slice (some ⟨n2, 0, none⟩) 0 2), (.slice none 0 0)]], 3, 131, true⟩) (ob' := ⟨[[(W cum), (.slice (some ⟨n2, 0, none⟩) 0 2), (.slice (some ⟨(n2 + 1), 0, none⟩) 0 2)]], 3, 131, true⟩) (get_there (by omega) get_here) (OLe.one (cs := [(W cum), (.slice (some ⟨n2, 0, none⟩) 0 2), (.slice none 0 0)]) (cs' := [(W cum), (.slice (some ⟨n2, 0, none⟩) 0 2), (.slice (some ⟨(n2 + 1), 0, none⟩) 0 2)]) ⟨VLe.refl _, VLe.refl _, (vle_nil _ _), trivial⟩ rfl) ?_
 refine RA.ph (sz := 2) (t := 60) (by decide) ?_
 show RA _ _ _ _ _ _ _ _ [((n2 + 2), some (oGap ([] : List Gap))), (n, some ⟨[[(W cum), (.slice (some ⟨n2, 0, none⟩) 0 2), (.slice (some ⟨(n2 + 1), 0, none⟩) 0 2)]], 3, 131, true⟩), ((n2 + 1), some (oWx ([] : List Wx))), (n, some ⟨[[(W cum), (.slice (some ⟨n2, 0, none⟩) 0 2), (.slice none 0 0)]], 3, 131, true⟩), (n2, some (oGap ([] : List Gap))), (n1, some ⟨[[(W cum), (.slice none 0 0), (.slice none 0 0)]], 3, 131, true⟩), (n, some ⟨[[(W cum), (.slice none 0 0), (.slice none 0 0)]], 3, 131, true⟩)] _
 refine RA.le (ob := ⟨[[(W cum), (.slice none 0 0), (.slice none 0 0)]], 3, 131, true⟩) (ob' := ⟨[[(W cum), (.slice (some ⟨(n2 + 2), 0, none⟩) 0 2), (.slice none 0 0)]], 3, 131, true⟩) (gt5 (by omega) get_here) (OLe.one (cs := [(W cum), (.slice none 0 0), (.slice none 0 0)]) (cs' := [(W cum), (.slice (some ⟨(n2 + 2), 0, none⟩) 0 2), (.slice none 0 0)]) ⟨VLe.refl _, (vle_nil _ _), VLe.refl _, trivial⟩ rfl) ?_
 refine RA.ph (sz := 1) (t := 27) (by decide) ?_
 show RA _ _ _ _ _ _ _ _ [((n2 + 3), some (oWx ([] : List Wx))), (n1, some ⟨[[(W cum), (.slice (some ⟨(n2 + 2), 0, none⟩) 0 2), (.slice none 0 0)]], 3, 131, true⟩), ((n2 + 2), some (oGap ([] : List Gap))), (n, some ⟨[[(W cum), (.slice (some ⟨n2, 0, none⟩) 0 2), (.slice (some ⟨(n2 + 1), 0, none⟩) 0 2)]], 3, 131, true⟩), ((n2 + 1), some (oWx ([] : List Wx))), (n, some ⟨[[(W cum), (.slice (some ⟨n2, 0, none⟩) 0 2), (.slice none 0 0)]], 3, 131, true⟩), (n2, some (oGap ([] : List Gap))), (n1, some ⟨[[(W cum), (.slice none 0 0), (.slice none 0 0)]], 3, 131, true⟩), (n, some ⟨[[(W cum), (.slice none 0 0), (.slice none 0 0)]], 3, 131, true⟩)] _
 refine RA.le (ob := ⟨[[(W cum), (.slice (some ⟨(n2 + 2), 0, none⟩) 0 2), (.slice none 0 0)]], 3, 131, true⟩) (ob' := ⟨[(xGp43 cum n2)], 3, 131, true⟩) (get_there (by omega) get_here) (OLe.one (cs := [(W cum), (.slice (some ⟨(n2 + 2), 0, none⟩) 0 2), (.slice none 0 0)]) (cs' := (xGp43 cum n2)) ⟨VLe.refl _, VLe.refl _, (vle_nil _ _), trivial⟩ rfl) ?_
 refine RA.weaken (D' := [(n, some ⟨[[(W cum), (.slice (some ⟨n2, 0, none⟩) 0 2), (.slice (some ⟨(n2 + 1), 0, none⟩) 0 2)]], 3, 131, true⟩), (n2, some (oGap ([] : List Gap))), ((n2 + 1), some (oWx ([] : List Wx))), (n1, some ⟨[(xGp43 cum n2)], 3, 131, true⟩), ((n2 + 2), some (oGap ([] : List Gap))), ((n2 + 3), some (oWx ([] : List Wx)))]) hd (Less.of (fac (mm (fun _ => get_here) (fun _ => (gt4 (by omega) get_here))) (fac (mm (fun _ => (get_there (by omega) get_here)) (fun _ => (gt7 (by omega) get_here))) (fac (mm (fun _ => (gt2 (by omega) get_here)) (fun _ => (gt5 (by omega) get_here))) (fac (mm (fun _ => (gt3 (by omega) get_here)) (fun _ => get_here)) (fac (mm (fun _ => (gt4 (by omega) get_here)) (fun _ => (gt3 (by omega) get_here))) (fac (mm (fun _ => (gt5 (by omega) get_here)) (fun _ => (get_there (by omega) get_here))) fan)))))) (gone_of (by simp only [goneP, memP, List.cons_append, List.nil_append, true_or, or_true, true_and, and_true, or_false] <;> omega))) ?_
 refine RA.loop hd (fun kk_ τ n' D => (∃ i : Nat, ∃ c1 : BitVec 32, ∃ jp1 : Nat, ∃ K1 : Nat, ∃ jd1 : Nat, ∃ M1 : Nat, ∃ ps1 : List Gap, ∃ ds1 : List Wx, ∃ c2 : BitVec 32, ∃ jp2 : Nat, ∃ K2 : Nat, ∃ jd2 : Nat, ∃ M2 : Nat, ∃ ps2 : List Gap, ∃ ds2 : List Wx, kk_ = (min l.length 60) - i ∧ (n2 + 4) ≤ n' ∧ Has τ [(0, (W cum)), (1, v), (5, (Pt n 0 0)), (6, (Pt n1 0 0)), (7, (.int .i64 (((min l.length 60) : Nat) : Int))), (8, (.int .i64 ((i : Nat) : Int)))] ∧ D = [(n, some ⟨[[(W c1), (.slice (some ⟨jp1, 0, none⟩) K1 2), (.slice (some ⟨jd1, 0, none⟩) M1 2)]], 3, 131, true⟩), (jp1, some (oGap ps1)), (jd1, some (oWx ds1)), (n1, some ⟨[[(W c2), (.slice (some ⟨jp2, 0, none⟩) K2 2), (.slice (some ⟨jd2, 0, none⟩) M2 2)]], 3, 131, true⟩), (jp2, some (oGap ps2)), (jd2, some (oWx ds2))] ∧ (∀ i ∈ keys D, i < n') ∧ i ≤ (min l.length 60) ∧ ps1.length = K1 ∧ ds1.length = M1 ∧ GI (TA l i) cum c1 ps1 ∧ ps2.length = K2 ∧ ds2.length = M2 ∧ GI (TB l (min l.length 60) i) cum c2 ps2 ∧ M1 ≤ 16 ∧ M2 ≤ 16 ∧ n ≠ n1 ∧ jp1 ≠ jd1 ∧ jp2 ≠ jd2 ∧ jp1 ≠ jp2 ∧ jp1 ≠ jd2 ∧ jd1 ≠ jp2 ∧ jd1 ≠ jd2 ∧ (jp1 ≠ n ∧ jp1 ≠ n1) ∧ (jp2 ≠ n ∧ jp2 ≠ n1) ∧ (jd1 ≠ n ∧ jd1 ≠ n1) ∧ (jd2 ≠ n ∧ jd2 ≠ n1) ∧ (n ≤ jp1 ∧ n ≤ jp2 ∧ n ≤ jd1 ∧ n ≤ jd2))) ((min l.length 60) - 0) (⟨0, cum, n2, 0, (n2 + 1), 0, ([] : List Gap), ([] : List Wx), cum, (n2 + 2), 0, (n2 + 3), 0, ([] : List Gap), ([] : List Wx), rfl, by omega, ⟨rfl, rfl, rfl, rfl, rfl, rfl, trivial⟩, rfl, (kb6 (by omega)), ⟨by omega, rfl, rfl, GI_0 (by rintro x ⟨j, h, _⟩; omega), rfl, rfl, GI_0 (by rintro x ⟨j, h, _⟩; omega), by omega, by omega, by omega, by omega, by omega, by omega, by omega, by omega, by omega, by omega, by omega, by omega, by omega, by omega, by omega⟩⟩) ?_
 rintro kn3 τ3 n3 _ ⟨i, c1, jp1, K1, jd1, M1, ps1, ds1, c2, jp2, K2, jd2, M2, ps2, ds2, rfl, hn3, hHn3, rfl, hKn3, hIn3⟩
 rw [Has.eq hHn3]
 have hKn3_0 : n < n3 := hKn3 _ (by simp only [keys, List.map_cons, List.map_nil, List.mem_cons, true_or, or_true])
 have hKn3_1 : jp1 < n3 := hKn3 _ (by simp only [keys, List.map_cons, List.map_nil, List.mem_cons, true_or, or_true])
 have hKn3_2 : jd1 < n3 := hKn3 _ (by simp only [keys, List.map_cons, List.map_nil, List.mem_cons, true_or, or_true])
 have hKn3_3 : n1 < n3 := hKn3 _ (by simp only [keys, List.map_cons, List.map_nil, List.mem_cons, true_or, or_true])
 have hKn3_4 : jp2 < n3 := hKn3 _ (by simp only [keys, List.map_cons, List.map_nil, List.mem_cons, true_or, or_true])
 have hKn3_5 : jd2 < n3 := hKn3 _ (by simp only [keys, List.map_cons, List.map_nil, List.mem_cons, true_or, or_true])
 clear hKn3
 obtain ⟨hi1, hps1, hds1, hG1, hps2, hds2, hG2, hM1, hM2, k1, k2, k3, k4, k5, k6, k7, k8, k9, k10, k11, k12⟩ := hIn3
 refine RA.seq hd ?_
 refine RA.seq hd ?_
 refine RA.region env_ok ?_
 refine OA.p (some 16) (.int .i64 ((i : Nat) : Int)) rfl rfl rfl rfl ?_
 refine OA.p (some 17) (.int .i64 (((min l.length 60) : Nat) : Int)) rfl rfl rfl rfl ?_
 by_cases hc1 : ((i : Nat) : Int) < (((min l.length 60) : Nat) : Int)
 ·
  obtain ⟨rest, hat⟩ := hv.get (m := i) (by omega)
  have lathat := hd.lt hat
  have hbd1 := GI_bnd hG1 (TA_b hby); have hbd2 := GI_bnd hG2 (TB_b hby)
  refine OA.p (some 18) (.bool true) rfl rfl rfl (Eq.trans (r_bin rfl rfl rfl (b_lss rfl)) (dT hc1)) ?_
  refine OA.nil ?_
  intro _
  refine RA.condT rfl ?_
  refine RA.skip env_ok ?_
  intro _
  refine RA.seq hd ?_
  refine RA.block ?_
  refine RA.seq hd ?_
  refine RA.region env_ok ?_
  refine OA.p (some 21) (Pt n 0 0) rfl rfl rfl rfl ?_
  refine OA.p (some 22) (W cum) rfl rfl rfl rfl ?_
  refine OA.p (some 23) (W (cum + (1#32))) rfl rfl rfl (r_bin rfl rfl rfl (b_addW cum (1#32))) ?_
  refine OA.p (some 24) v rfl rfl rfl rfl ?_
  refine OA.p (some 25) (.int .i64 ((i : Nat) : Int)) rfl rfl rfl rfl ?_
  refine OA.p (some 26) (.pointer (some ⟨(rk v), i, some 0⟩)) rfl rfl rfl (r_iaP (c := cBy) (m := i) rfl rfl rfl rfl rfl rfl hv rfl (by omega) (gt6 (by omega) hat) rfl) ?_
  refine OA.p (some 27) (.int .u8 (((l.getD i dBy).z : Nat) : Int)) rfl rfl rfl (r_load1 (e := cBy (l.getD i dBy)) rfl rfl rfl rfl rfl (gt6 (by omega) hat) (mp_getA (by omega)) rfl) ?_
  refine OA.p (some 28) (W (BitVec.ofNat 32 (l.getD i dBy).z)) rfl rfl rfl (r_cvt rfl rfl rfl rfl rfl ⟨_, rfl⟩ (wrap_ofNat32 _)) ?_
  refine OA.p (some 29) (W ((cum + (1#32)) + (BitVec.ofNat 32 (l.getD i dBy).z))) rfl rfl rfl (r_bin rfl rfl rfl (b_addW (cum + (1#32)) (BitVec.ofNat 32 (l.getD i dBy).z))) ?_
  refine OA.call (dst := (some 30)) (all := [(Pt n 0 0), (W ((cum + (1#32)) + (BitVec.ofNat 32 (l.getD i dBy).z)))]) rfl rfl rfl rfl rfl rfl rfl rfl (CQ.imp (gAdd (hd.of (by omega) (kb6 (by omega))) n jp1 jd1 K1 M1 c1 ps1 ds1 hps1 hds1 (by omega) (by omega) (by omega) (by omega) (by omega) hbd1.2 ((cum + (1#32)) + (BitVec.ofNat 32 (l.getD i dBy).z)) get_here (get_there (by omega) get_here) (gt2 (by omega) get_here)) ?_)
  rintro _ n4 _ ⟨jqn4, jen4, q1n4, q2n4, q3n4, q4n4, q5n4, Kn4, Mn4, e1n4, e2n4, e3n4, e4n4, rfl, rfl⟩ hn4
  show OA _ _ _ _ _ _ _ _ [(n, some ⟨[(xGp42 c1 ps1 ds1 cum l i jqn4 Kn4 jen4 Mn4)], 3, 131, true⟩), (jqn4, some (oGap (addS c1 ps1 ds1 ((cum + (1#32)) + (BitVec.ofNat 32 (l.getD i dBy).z))).2.1)), (jen4, some (oWx (addS c1 ps1 ds1 ((cum + (1#32)) + (BitVec.ofNat 32 (l.getD i dBy).z))).2.2)), (jp1, none), (jd1, none), (n, some ⟨[[(W c1), (.slice (some ⟨jp1, 0, none⟩) K1 2), (.slice (some ⟨jd1, 0, none⟩) M1 2)]], 3, 131, true⟩), (jp1, some (oGap ps1)), (jd1, some (oWx ds1)), (n1, some ⟨[[(W c2), (.slice (some ⟨jp2, 0, none⟩) K2 2), (.slice (some ⟨jd2, 0, none⟩) M2 2)]], 3, 131, true⟩), (jp2, some (oGap ps2)), (jd2, some (oWx ds2))] _
  refine OA.nil ?_
  intro _
  refine RA.weaken (D' := [(n, some ⟨[(xGp42 c1 ps1 ds1 cum l i jqn4 Kn4 jen4 Mn4)], 3, 131, true⟩), (jqn4, some (oGap (addS c1 ps1 ds1 ((cum + (1#32)) + (BitVec.ofNat 32 (l.getD i dBy).z))).2.1)), (jen4, some (oWx (addS c1 ps1 ds1 ((cum + (1#32)) + (BitVec.ofNat 32 (l.getD i dBy).z))).2.2)), (jp1, none), (jd1, none), (n1, some ⟨[[(W c2), (.slice (some ⟨jp2, 0, none⟩) K2 2), (.slice (some ⟨jd2, 0, none⟩) M2 2)]], 3, 131, true⟩), (jp2, some (oGap ps2)), (jd2, some (oWx ds2))]) hd (Less.of (fac (mm (fun _ => get_here) (fun _ => get_here)) (fac (mm (fun _ => (get_there (by omega) get_here)) (fun _ => (get_there (by omega) get_here))) (fac (mm (fun _ => (gt2 (by omega) get_here)) (fun _ => (gt2 (by omega) get_here))) (fac (mm (fun _ => (gt3 (by omega) get_here)) (fun _ => (gt3 (by omega) get_here))) (fac (mm (fun _ => (gt4 (by omega) get_here)) (fun _ => (gt4 (by omega) get_here))) (fac (mm (fun _ => (gt5 (by omega) get_here)) (fun _ => (gt8 (by omega) get_here))) (fac (mm (fun _ => (gt6 (by omega) get_here)) (fun _ => (gt9 (by omega) get_here))) (fac (mm (fun _ => (gt7 (by omega) get_here)) (fun _ => (gt10 (by omega) get_here))) fan)))))))) (gone_of (by simp only [goneP, memP, List.cons_append, List.nil_append, true_or, or_true, true_and, and_true, or_false] <;> omega))) ?_
  refine RA.region env_ok ?_
  refine OA.p (some 31) (Pt n1 0 0) rfl rfl rfl rfl ?_
  refine OA.p (some 32) (W cum) rfl rfl rfl rfl ?_
  refine OA.p (some 33) (W (cum + (1#32))) rfl rfl rfl (r_bin rfl rfl rfl (b_addW cum (1#32))) ?_
  refine OA.p (some 34) v rfl rfl rfl rfl ?_
  refine OA.p (some 35) (.int .i64 (((min l.length 60) : Nat) : Int)) rfl rfl rfl rfl ?_
  refine OA.p (some 36) (.int .i64 ((((min l.length 60) - 1) : Nat) : Int)) rfl rfl rfl (r_bin rfl rfl rfl (b_sub (i64_eq (by omega)))) ?_
  refine OA.p (some 37) (.int .i64 ((i : Nat) : Int)) rfl rfl rfl rfl ?_
  refine OA.p (some 38) (.int .i64 (((((min l.length 60) - 1) - i) : Nat) : Int)) rfl rfl rfl (r_bin rfl rfl rfl (b_sub (i64_eq (by omega)))) ?_
  refine OA.p (some 39) (.pointer (some ⟨(rk v), (((min l.length 60) - 1) - i), some 0⟩)) rfl rfl rfl (r_iaP (c := cBy) (m := (((min l.length 60) - 1) - i)) rfl rfl rfl rfl rfl rfl hv rfl (by omega) (gt8 (by omega) hat) rfl) ?_
  refine OA.p (some 40) (.int .u8 (((l.getD (((min l.length 60) - 1) - i) dBy).z : Nat) : Int)) rfl rfl rfl (r_load1 (e := cBy (l.getD (((min l.length 60) - 1) - i) dBy)) rfl rfl rfl rfl rfl (gt8 (by omega) hat) (mp_getA (by omega)) rfl) ?_
  refine OA.p (some 41) (W (BitVec.ofNat 32 (l.getD (((min l.length 60) - 1) - i) dBy).z)) rfl rfl rfl (r_cvt rfl rfl rfl rfl rfl ⟨_, rfl⟩ (wrap_ofNat32 _)) ?_
  refine OA.p (some 42) (W ((cum + (1#32)) + (BitVec.ofNat 32 (l.getD (((min l.length 60) - 1) - i) dBy).z))) rfl rfl rfl (r_bin rfl rfl rfl (b_addW (cum + (1#32)) (BitVec.ofNat 32 (l.getD (((min l.length 60) - 1) - i) dBy).z))) ?_
  refine OA.call (dst := (some 43)) (all := [(Pt n1 0 0), (W ((cum + (1#32)) + (BitVec.ofNat 32 (l.getD (((min l.length 60) - 1) - i) dBy).z)))]) rfl rfl rfl rfl rfl rfl rfl rfl (CQ.imp (gAdd (hd.of (by omega) (kb8 (by omega))) n1 jp2 jd2 K2 M2 c2 ps2 ds2 hps2 hds2 (by omega) (by omega) (by omega) (by omega) (by omega) hbd2.2 ((cum + (1#32)) + (BitVec.ofNat 32 (l.getD (((min l.length 60) - 1) - i) dBy).z)) (gt5 (by omega) get_here) (gt6 (by omega) get_here) (gt7 (by omega) get_here)) ?_)
  rintro _ n5 _ ⟨jqn5, jen5, q1n5, q2n5, q3n5, q4n5, q5n5, Kn5, Mn5, e1n5, e2n5, e3n5, e4n5, rfl, rfl⟩ hn5
  show OA _ _ _ _ _ _ _ _ [(n1, some ⟨[(xGp41 c2 ps2 ds2 cum l i jqn5 Kn5 jen5 Mn5)], 3, 131, true⟩), (jqn5, some (oGap (addS c2 ps2 ds2 ((cum + (1#32)) + (BitVec.ofNat 32 (l.getD (((min l.length 60) - 1) - i) dBy).z))).2.1)), (jen5, some (oWx (addS c2 ps2 ds2 ((cum + (1#32)) + (BitVec.ofNat 32 (l.getD (((min l.length 60) - 1) - i) dBy).z))).2.2)), (jp2, none), (jd2, none), (n, some ⟨[(xGp42 c1 ps1 ds1 cum l i jqn4 Kn4 jen4 Mn4)], 3, 131, true⟩), (jqn4, some (oGap (addS c1 ps1 ds1 ((cum + (1#32)) + (BitVec.ofNat 32 (l.getD i dBy).z))).2.1)), (jen4, some (oWx (addS c1 ps1 ds1 ((cum + (1#32)) + (BitVec.ofNat 32 (l.getD i dBy).z))).2.2)), (jp1, none), (jd1, none), (n1, some ⟨[[(W c2), (.slice (some ⟨jp2, 0, none⟩) K2 2), (.slice (some ⟨jd2, 0, none⟩) M2 2)]], 3, 131, true⟩), (jp2, some (oGap ps2)), (jd2, some (oWx ds2))] _
  refine OA.nil ?_
  intro _
  refine RA.weaken (D' := [(n1, some ⟨[(xGp41 c2 ps2 ds2 cum l i jqn5 Kn5 jen5 Mn5)], 3, 131, true⟩), (jqn5, some (oGap (addS c2 ps2 ds2 ((cum + (1#32)) + (BitVec.ofNat 32 (l.getD (((min l.length 60) - 1) - i) dBy).z))).2.1)), (jen5, some (oWx (addS c2 ps2 ds2 ((cum + (1#32)) + (BitVec.ofNat 32 (l.getD (((min l.length 60) - 1) - i) dBy).z))).2.2)), (jp2, none), (jd2, none), (n, some ⟨[(xGp42 c1 ps1 ds1 cum l i jqn4 Kn4 jen4 Mn4)], 3, 131, true⟩), (jqn4, some (oGap (addS c1 ps1 ds1 ((cum + (1#32)) + (BitVec.ofNat 32 (l.getD i dBy).z))).2.1)), (jen4, some (oWx (addS c1 ps1 ds1 ((cum + (1#32)) + (BitVec.ofNat 32 (l.getD i dBy).z))).2.2)), (jp1, none), (jd1, none)]) hd (Less.of (fac (mm (fun _ => get_here) (fun _ => get_here)) (fac (mm (fun _ => (get_there (by omega) get_here)) (fun _ => (get_there (by omega) get_here))) (fac (mm (fun _ => (gt2 (by omega) get_here)) (fun _ => (gt2 (by omega) get_here))) (fac (mm (fun _ => (gt3 (by omega) get_here)) (fun _ => (gt3 (by omega) get_here))) (fac (mm (fun _ => (gt4 (by omega) get_here)) (fun _ => (gt4 (by omega) get_here))) (fac (mm (fun _ => (gt5 (by omega) get_here)) (fun _ => (gt5 (by omega) get_here))) (fac (mm (fun _ => (gt6 (by omega) get_here)) (fun _ => (gt6 (by omega) get_here))) (fac (mm (fun _ => (gt7 (by omega) get_here)) (fun _ => (gt7 (by omega) get_here))) (fac (mm (fun _ => (gt8 (by omega) get_here)) (fun _ => (gt8 (by omega) get_here))) (fac (mm (fun _ => (gt9 (by omega) get_here)) (fun _ => (gt9 (by omega) get_here))) fan)))))))))) (gone_of (by simp only [goneP, memP, List.cons_append, List.nil_append, true_or, or_true, true_and, and_true, or_false] <;> omega))) ?_
  refine RA.rebase [(0, (W cum)), (1, v), (5, (Pt n 0 0)), (6, (Pt n1 0 0)), (7, (.int .i64 (((min l.length 60) : Nat) : Int))), (8, (.int .i64 ((i : Nat) : Int))), (18, (.bool true))] ⟨rfl, rfl, rfl, rfl, rfl, rfl, rfl, trivial⟩ (fun τr6 => ?_)
  refine RA.region env_ok ?_
  refine OA.p (some 19) (.int .i64 ((i : Nat) : Int)) rfl rfl rfl rfl ?_
  refine OA.p (some 20) (.int .i64 (((i + 1) : Nat) : Int)) rfl rfl rfl (r_bin rfl rfl rfl (b_add (i64_eq (by omega)))) ?_
  refine OA.p (some 8) (.int .i64 (((i + 1) : Nat) : Int)) rfl rfl rfl rfl ?_
  refine OA.nil ?_
  refine ⟨(min l.length 60) - (i + 1), by omega, [(n, some ⟨[(xGp42 c1 ps1 ds1 cum l i jqn4 Kn4 jen4 Mn4)], 3, 131, true⟩), (jqn4, some (oGap (addS c1 ps1 ds1 ((cum + (1#32)) + (BitVec.ofNat 32 (l.getD i dBy).z))).2.1)), (jen4, some (oWx (addS c1 ps1 ds1 ((cum + (1#32)) + (BitVec.ofNat 32 (l.getD i dBy).z))).2.2)), (n1, some ⟨[(xGp41 c2 ps2 ds2 cum l i jqn5 Kn5 jen5 Mn5)], 3, 131, true⟩), (jqn5, some (oGap (addS c2 ps2 ds2 ((cum + (1#32)) + (BitVec.ofNat 32 (l.getD (((min l.length 60) - 1) - i) dBy).z))).2.1)), (jen5, some (oWx (addS c2 ps2 ds2 ((cum + (1#32)) + (BitVec.ofNat 32 (l.getD (((min l.length 60) - 1) - i) dBy).z))).2.2))], (Less.of (fac (mm (fun _ => get_here) (fun _ => (gt5 (by omega) get_here))) (fac (mm (fun _ => (get_there (by omega) get_here)) (fun _ => (gt6 (by omega) get_here))) (fac (mm (fun _ => (gt2 (by omega) get_here)) (fun _ => (gt7 (by omega) get_here))) (fac (mm (fun _ => (gt3 (by omega) get_here)) (fun _ => get_here)) (fac (mm (fun _ => (gt4 (by omega) get_here)) (fun _ => (get_there (by omega) get_here))) (fac (mm (fun _ => (gt5 (by omega) get_here)) (fun _ => (gt2 (by omega) get_here))) fan)))))) (gone_of (by simp only [goneP, memP, List.cons_append, List.nil_append, true_or, or_true, true_and, and_true, or_false] <;> omega))), ⟨(i + 1), (addS c1 ps1 ds1 ((cum + (1#32)) + (BitVec.ofNat 32 (l.getD i dBy).z))).1, jqn4, Kn4, jen4, Mn4, (addS c1 ps1 ds1 ((cum + (1#32)) + (BitVec.ofNat 32 (l.getD i dBy).z))).2.1, (addS c1 ps1 ds1 ((cum + (1#32)) + (BitVec.ofNat 32 (l.getD i dBy).z))).2.2, (addS c2 ps2 ds2 ((cum + (1#32)) + (BitVec.ofNat 32 (l.getD (((min l.length 60) - 1) - i) dBy).z))).1, jqn5, Kn5, jen5, Mn5, (addS c2 ps2 ds2 ((cum + (1#32)) + (BitVec.ofNat 32 (l.getD (((min l.length 60) - 1) - i) dBy).z))).2.1, (addS c2 ps2 ds2 ((cum + (1#32)) + (BitVec.ofNat 32 (l.getD (((min l.length 60) - 1) - i) dBy).z))).2.2, rfl, by omega, ⟨rfl, rfl, rfl, rfl, rfl, rfl, trivial⟩, rfl, (kb6 (by omega)), ⟨by omega, e1n4, e2n4, GI_A (k := 0) hG1 hby, e1n5, e2n5, (by have hg := GI_B (k := 0) (ds := ds2) hG2 hby; exact hg), by omega, by omega, by omega, by omega, by omega, by omega, by omega, by omega, by omega, by omega, by omega, by omega, by omega, by omega, by omega⟩⟩⟩
 ·
  have hiN : i = min l.length 60 := by omega
  rw [hiN] at hG1 hG2
  obtain ⟨hc12, hp12⟩ := GI_eq hG1 hG2 TAB
  have hbd1 := GI_bnd hG1 (TA_b hby); have hbd2 := GI_bnd hG2 (TB_b hby)
  refine OA.p (some 18) (.bool false) rfl rfl rfl (Eq.trans (r_bin rfl rfl rfl (b_lss rfl)) (dF hc1)) ?_
  refine OA.nil ?_
  intro _
  refine RA.condF rfl ?_
  refine RA.exit env_ok ?_
  intro _
  refine RA.seq hd ?_
  refine RA.region env_ok ?_
  refine OA.callP (dst := (some 44)) (all := []) (v := (.bool true)) (hd.of (by omega) (kb6 (by omega))) rfl rfl rfl rfl rfl rfl rfl rfl awakeG ?_
  intro n7 hn7
  refine OA.p (some 45) (.bool true) rfl rfl rfl rfl ?_
  refine OA.p (some 46) (Pt n 0 0) rfl rfl rfl rfl ?_
  refine OA.callP (dst := (some 47)) (all := [(Pt n 0 0)]) (v := (W c1)) (hd.of (by omega) (kb6 (by omega))) rfl rfl rfl rfl rfl rfl rfl rfl (gCum n jp1 jd1 K1 M1 c1 get_here) ?_
  intro n8 hn8
  refine OA.p (some 48) (Pt n1 0 0) rfl rfl rfl rfl ?_
  refine OA.callP (dst := (some 49)) (all := [(Pt n1 0 0)]) (v := (W c2)) (hd.of (by omega) (kb6 (by omega))) rfl rfl rfl rfl rfl rfl rfl rfl (gCum n1 jp2 jd2 K2 M2 c2 (gt3 (by omega) get_here)) ?_
  intro n9 hn9
  have hc2 : (c1.toNat : Int) = (c2.toNat : Int) := Classical.byContradiction (fun hdd => by exfalso; first | omega | (exact hdd (by rw [hc12])) | (exact hdd (same_of hp12 hps1 hps2)))
  refine OA.p (some 50) (.bool true) rfl rfl rfl (Eq.trans (r_bin rfl rfl rfl (b_eql rfl)) (dT hc2)) ?_
  refine OA.p (some 51) (.bool true) rfl rfl rfl rfl ?_
  refine OA.p (some 52) (.bool true) rfl rfl rfl rfl ?_
  refine OA.p (some 53) (Pt n 0 0) rfl rfl rfl rfl ?_
  refine OA.call (dst := (some 54)) (all := [(Pt n 0 0)]) rfl rfl rfl rfl rfl rfl rfl rfl (CQ.imp (gGaps (hd.of (by omega) (kb6 (by omega))) n jp1 jd1 K1 M1 c1 ps1 hps1 (by omega) (by omega) get_here (get_there (by omega) get_here)) ?_)
  rintro _ n10 _ ⟨jgn10, g1n10, g2n10, rfl, rfl⟩ hn10
  refine OA.app1 ?_
  refine OA.p (some 55) (Pt n1 0 0) rfl rfl rfl rfl ?_
  refine OA.call (dst := (some 56)) (all := [(Pt n1 0 0)]) rfl rfl rfl rfl rfl rfl rfl rfl (CQ.imp (gGaps (hd.of (by omega) (kb7 (by omega))) n1 jp2 jd2 K2 M2 c2 ps2 hps2 (by omega) (by omega) (gt4 (by omega) get_here) (gt5 (by omega) get_here)) ?_)
  rintro _ n11 _ ⟨jgn11, g1n11, g2n11, rfl, rfl⟩ hn11
  refine OA.app1 ?_
  have hc3 : (sameZ (ps1.take (min K1 16)) (ps2.take (min K2 16))) = true := Classical.byContradiction (fun hdd => by exfalso; first | omega | (exact hdd (by rw [hc12])) | (exact hdd (same_of hp12 hps1 hps2)))
  refine OA.callP (dst := (some 57)) (all := [(.slice (some ⟨jgn10, 0, none⟩) (min K1 16) 2), (.slice (some ⟨jgn11, 0, none⟩) (min K2 16) 2)]) (v := (.bool true)) (hd.of (by omega) (kb8 (by omega))) rfl rfl rfl rfl rfl rfl rfl rfl (PS.to (gSame jgn10 jgn11 (min K1 16) (min K2 16) (ps1.take (min K1 16)) (ps2.take (min K2 16)) (show (ps1.take (min K1 16)).length = (min K1 16) from by rw [List.length_take]; omega) (show (ps2.take (min K2 16)).length = (min K2 16) from by rw [List.length_take]; omega) (by omega) (by omega) (get_there (by omega) get_here) get_here) (show (.bool (sameZ (ps1.take (min K1 16)) (ps2.take (min K2 16)))) = ((.bool true) : Value) from (by first | (rw [hc3]; done) | (rw [hc3]; rfl)))) ?_
  intro n12 hn12
  refine OA.p (some 58) (.bool true) rfl rfl rfl rfl ?_
  refine OA.p (some 59) (.bool true) rfl rfl rfl rfl ?_
  refine OA.p (some 60) (Pt n 0 0) rfl rfl rfl rfl ?_
  refine OA.callP (dst := (some 61)) (all := [(Pt n 0 0)]) (v := (.bool (decide (((K1 : Nat) : Int) = 0)))) (hd.of (by omega) (kb8 (by omega))) rfl rfl rfl rfl rfl rfl rfl rfl (gWhole n jp1 jd1 K1 M1 c1 (gt2 (by omega) get_here)) ?_
  intro n13 hn13
  refine OA.p (some 62) (Pt n1 0 0) rfl rfl rfl rfl ?_
  refine OA.callP (dst := (some 63)) (all := [(Pt n1 0 0)]) (v := (.bool (decide (((K2 : Nat) : Int) = 0)))) (hd.of (by omega) (kb8 (by omega))) rfl rfl rfl rfl rfl rfl rfl rfl (gWhole n1 jp2 jd2 K2 M2 c2 (gt5 (by omega) get_here)) ?_
  intro n14 hn14
  refine OA.p (some 64) (.bool ((decide (((K1 : Nat) : Int) = 0)) == (decide (((K2 : Nat) : Int) = 0)))) rfl rfl rfl (r_eqlB rfl rfl rfl rfl rfl) ?_
  refine OA.p (some 65) (.bool ((decide (((K1 : Nat) : Int) = 0)) == (decide (((K2 : Nat) : Int) = 0)))) rfl rfl rfl rfl ?_
  refine OA.p (some 4) (.bool ((decide (((K1 : Nat) : Int) = 0)) == (decide (((K2 : Nat) : Int) = 0)))) rfl rfl rfl rfl ?_
  refine OA.nil ?_
  intro _
  refine RA.rebase [(0, (W cum)), (1, v), (4, (.bool ((decide (((K1 : Nat) : Int) = 0)) == (decide (((K2 : Nat) : Int) = 0))))), (5, (Pt n 0 0)), (6, (Pt n1 0 0)), (7, (.int .i64 (((min l.length 60) : Nat) : Int))), (8, (.int .i64 ((i : Nat) : Int))), (18, (.bool false))] ⟨rfl, rfl, rfl, rfl, rfl, rfl, rfl, rfl, trivial⟩ (fun τr15 => ?_)
  refine RA.ret env_ok ?_
  refine ⟨.inr rfl, [(.bool ((decide (((K1 : Nat) : Int) = 0)) == (decide (((K2 : Nat) : Int) = 0))))], (resL_cons rfl resL_nil), [], (Less.of (fun p hp => by simp at hp) (gone_of (by simp only [goneP, memP, List.cons_append, List.nil_append, true_or, or_true, true_and, and_true, or_false] <;> omega))), (congrArg Value.bool (by rw [show K1 = K2 from by rw [← hps1, ← hps2, hp12]]; exact beq_self_eq_true _))⟩
end Go.Proofs.Ytmepflkodjdgdaa.Vt
