/- Ao3: walks through functions of the program, by the calculus; written by a program of this workplace. -/
import Derived.Test.YtnjknabighmedaaAo2
import Derived.Test.YtnjknabighmedaaVm5
namespace Go.Proofs.Ytnjknabighmedaa.Vt
open Go Go.Proofs Go.Proofs.YtnjknabighmedaaV
set_option maxRecDepth 100000
set_option linter.unusedVariables false
set_option linter.unusedSimpArgs false
theorem takeLen {l : List Ent} {i : Nat} (h : i ≤ l.length) : ((l.take i).map near).length = i := by rw [List.length_map, List.length_take]; omega
theorem near_take {l : List Ent} {i : Nat} (h : i < l.length) : (l.take (i + 1)).map near = (l.take i).map near ++ [near (l.getD i dEnt)] := by rw [← take_snoc (d0 := dEnt) h, List.map_append]; rfl
theorem near_snoc {l : List Ent} {i : Nat} (h : i < l.length) : ((l.take i).map near).map cEnt ++ [cEnt (near (l.getD i dEnt))] = ((l.take (i + 1)).map near).map cEnt := by rw [near_take h, List.map_append]; rfl
theorem anyT {l : List Ent} {p : Ent → Bool} {i : Nat} (h : i < l.length) (h1 : ((l.take i).map near).any p = true) : ((l.take (i + 1)).map near).any p = true := by rw [near_take h, List.any_append, h1]; rfl
theorem anyH {l : List Ent} {p : Ent → Bool} {i : Nat} (h : i < l.length) (h1 : p (near (l.getD i dEnt)) = true) : ((l.take (i + 1)).map near).any p = true := by rw [near_take h, List.any_append, List.any_cons, h1]; simp
theorem anyN {l : List Ent} {p : Ent → Bool} {i : Nat} (h : i < l.length) (h1 : ((l.take i).map near).any p = false) (h2 : p (near (l.getD i dEnt)) = false) : ((l.take (i + 1)).map near).any p = false := by rw [near_take h, List.any_append, h1, List.any_cons, h2]; rfl
abbrev xAo31 (l : List Ent) (i : Nat) : List Value := [(W (near (l.getD i dEnt)).inner), (.int .i64 (near (l.getD i dEnt)).port), (W (near (l.getD i dEnt)).peer), (.int .i64 (near (l.getD i dEnt)).pport), (W (near (l.getD i dEnt)).inn), (W (near (l.getD i dEnt)).out), (.int .i64 (near (l.getD i dEnt)).seen)]
abbrev xAo32 (j : Nat) (i : Nat) (f : Int) (t : Int) (g : BitVec 32) (a : Option Addr) (K : Nat) : List Value := [(.slice (some ⟨j, 0, none⟩) i 0), (.int .u32 1), (.int .u32 9), (.agg ⟨[(.int .i64 (((andN f 1) : Nat) : Int)), (.int .i64 (((andN t 1) : Nat) : Int)), (W (g &&& (3#32))), (.slice a K 0)]⟩), (.bool false)]
abbrev xAo33 (j : Nat) (i : Nat) (f : Int) (t : Int) (g : BitVec 32) (a : Option Addr) (K : Nat) : List Value := [(.slice (some ⟨j, 0, none⟩) i 0), (.int .u32 1), (.int .u32 9), (.agg ⟨[(.int .i64 (((andN f 1) : Nat) : Int)), (.int .i64 (((andN t 1) : Nat) : Int)), (W (g &&& (3#32))), (.slice a K 0)]⟩), (.bool true)]
abbrev xAo34 (f : Int) (t : Int) (g : BitVec 32) (a : Option Addr) (K : Nat) : List Value := [(.int .i64 (((andN f 1) : Nat) : Int)), (.int .i64 (((andN t 1) : Nat) : Int)), (W (g &&& (3#32))), (.slice a K 0)]
abbrev xAo35 : List Value := [(.int .u32 0), (.int .i64 0), (.int .u32 0), (.int .i64 0), (.int .u32 0), (.int .u32 0), (.int .i64 0)]
abbrev xAo36 (f : Int) (t : Int) (g : BitVec 32) (a : Option Addr) (K : Nat) : List Value := [(.int .i64 (((andN f 1) : Nat) : Int)), (.int .i64 (((andN t 1) : Nat) : Int)), (W g), (.slice a K 0)]
theorem oLawtrue {n : Nat} {σ : Store} (hd : Dom n σ) (hn0 : 0 < n) (v : Value) (l : List Ent) (hv : RowP σ 26 7 v (l.map cEnt)) (f t : Int) (g : BitVec 32) (u : Value) (cl : List Chk) (hu : RowP σ 50 15 u (cl.map cChk)) (hcl : ∀ c ∈ cl, okChk σ c)   : CQ Try.prog noDen 4 [v, (.agg ⟨[(.int .i64 f), (.int .i64 t), (W g), u]⟩), (.bool true)] n σ (fun v n' d => v = .bool true) := by
 have rlv := hv.lt hd hn0
 have rlu := hu.lt hd hn0
 refine CQ.body (E := env) env_ok hd rfl rfl (by show _ ≤ _; exact of_decide_eq_true (by kernel_rfl)) ?_
 refine RA.seq hd ?_
 refine RA.region env_ok ?_
 refine OA.op1 (dst := (some 4)) (v := (Pt n 0 0)) (n1 := (n + 1)) (w := (n, some ⟨[[(.int .i64 f), (.int .i64 t), (W g), u]], 4, 33, true⟩)) rfl rfl rfl (r_box (cs := [(.int .i64 f), (.int .i64 t), (W g), u]) rfl rfl rfl (Nat.le_of_ble_eq_true rfl) (by simp only [List.all_cons, List.all_nil, Bool.and_true, Bool.and_eq_true]; exact ⟨rfl, rfl, rfl, (hu).one⟩)) (by omega) ?_
 refine OA.p (some 6) (.bool false) rfl rfl rfl rfl ?_
 refine OA.nil ?_
 intro _
 refine RA.seq hd ?_
 refine RA.region env_ok ?_
 refine OA.op1 (dst := (some 13)) (v := (.slice (some ⟨(n + 1), 0, none⟩) 0 0)) (n1 := (n + 2)) (w := ((n + 1), some (oEnt ([] : List Ent)))) rfl rfl rfl (by kernel_rfl) (by omega) ?_
 refine OA.p (some 7) (.slice (some ⟨(n + 1), 0, none⟩) 0 0) rfl rfl rfl rfl ?_
 refine OA.p (some 8) (.bool false) rfl rfl rfl rfl ?_
 refine OA.nil ?_
 intro _
 refine RA.seq hd ?_
 refine RA.region env_ok ?_
 refine OA.p (some 14) (.agg ⟨[(.int .i64 f), (.int .i64 t), (W g), u]⟩) rfl rfl rfl (r_loadA rfl rfl rfl rfl (get_there (by omega) get_here) rfl rfl rfl) ?_
 refine OA.call (dst := (some 15)) (all := [(.agg ⟨[(.int .i64 f), (.int .i64 t), (W g), u]⟩)]) rfl rfl rfl rfl rfl rfl rfl rfl (CQ.imp (oCut (hd.of (by omega) (kb2 (by omega))) (by omega) f t g u cl (hu.mono (sub_app (n' := (n + 2)) hd (kc2 (by omega)))) (fun c hc => (hcl c hc).mono (sub_app (n' := (n + 2)) hd (kc2 (by omega))))) ?_)
 rintro _ n1 _ ⟨a, K, rfl, rfl⟩ hn1
 refine OA.app0 ?_
 refine OA.op1 (dst := (some 9)) (v := (Pt n1 0 0)) (n1 := (n1 + 1)) (w := (n1, some ⟨[[(.int .i64 0), (.int .i64 0), (.int .u32 0), (.slice none 0 0)]], 4, 33, true⟩)) rfl rfl rfl rfl (by omega) ?_
 refine OA.op1 (dst := none) (v := (.tuple #[])) (n1 := (n1 + 1)) (w := (n1, some ⟨[[(.int .i64 f), (.int .i64 t), (W g), (.slice a K 0)]], 4, 33, true⟩)) rfl rfl rfl (r_store rfl rfl rfl rfl rfl rfl rfl get_here rfl rfl (Nat.le_of_ble_eq_true rfl) rfl) (by omega) ?_
 refine OA.nil ?_
 intro _
 refine RA.seq hd ?_
 refine RA.par (md := [some [], some [n], some [], some [], some [n], some [], some [], some [n], some [], some [], none, some [], none, some [], none]) env_ok (hd.of (by omega) (kb4 (by omega))) (by kernel_rfl) ?_
 refine PQ.pure (dst := (some 16)) (v := (Pt n 0 0)) rfl rfl rfl noStore (none_ok _ _) rfl ?_
 refine PQ.pure (dst := (some 17)) (v := (.int .i64 f)) rfl rfl rfl (app [(n, some ⟨[[(.int .i64 f), (.int .i64 t), (W g), u]], 4, 33, true⟩)] noStore) (seen_one (V := []) (D := [(n1, some ⟨[[(.int .i64 f), (.int .i64 t), (W g), (.slice a K 0)]], 4, 33, true⟩), (n1, some ⟨[[(.int .i64 0), (.int .i64 0), (.int .u32 0), (.slice none 0 0)]], 4, 33, true⟩), ((n + 1), some (oEnt ([] : List Ent))), (n, some ⟨[[(.int .i64 f), (.int .i64 t), (W g), u]], 4, 33, true⟩)]) (by kernel_rfl) (gt3 (by omega) get_here)) (r_load1 rfl rfl rfl rfl rfl get_here rfl rfl) ?_
 have hm2 := andN_le f 1 (by decide)
 refine PQ.pure (dst := (some 18)) (v := (.int .i64 (((andN f 1) : Nat) : Int))) rfl rfl rfl noStore (none_ok _ _) (r_bin rfl rfl rfl (b_andN f 1 (by decide))) ?_
 refine PQ.pure (dst := (some 19)) (v := (Pt n 0 1)) rfl rfl rfl noStore (none_ok _ _) rfl ?_
 refine PQ.pure (dst := (some 20)) (v := (.int .i64 t)) rfl rfl rfl (app [(n, some ⟨[[(.int .i64 f), (.int .i64 t), (W g), u]], 4, 33, true⟩)] noStore) (seen_one (V := []) (D := [(n1, some ⟨[[(.int .i64 f), (.int .i64 t), (W g), (.slice a K 0)]], 4, 33, true⟩), (n1, some ⟨[[(.int .i64 0), (.int .i64 0), (.int .u32 0), (.slice none 0 0)]], 4, 33, true⟩), ((n + 1), some (oEnt ([] : List Ent))), (n, some ⟨[[(.int .i64 f), (.int .i64 t), (W g), u]], 4, 33, true⟩)]) (by kernel_rfl) (gt3 (by omega) get_here)) (r_load1 rfl rfl rfl rfl rfl get_here rfl rfl) ?_
 have hm3 := andN_le t 1 (by decide)
 refine PQ.pure (dst := (some 21)) (v := (.int .i64 (((andN t 1) : Nat) : Int))) rfl rfl rfl noStore (none_ok _ _) (r_bin rfl rfl rfl (b_andN t 1 (by decide))) ?_
 refine PQ.pure (dst := (some 22)) (v := (Pt n 0 2)) rfl rfl rfl noStore (none_ok _ _) rfl ?_
 refine PQ.pure (dst := (some 23)) (v := (W g)) rfl rfl rfl (app [(n, some ⟨[[(.int .i64 f), (.int .i64 t), (W g), u]], 4, 33, true⟩)] noStore) (seen_one (V := []) (D := [(n1, some ⟨[[(.int .i64 f), (.int .i64 t), (W g), (.slice a K 0)]], 4, 33, true⟩), (n1, some ⟨[[(.int .i64 0), (.int .i64 0), (.int .u32 0), (.slice none 0 0)]], 4, 33, true⟩), ((n + 1), some (oEnt ([] : List Ent))), (n, some ⟨[[(.int .i64 f), (.int .i64 t), (W g), u]], 4, 33, true⟩)]) (by kernel_rfl) (gt3 (by omega) get_here)) (r_load1 rfl rfl rfl rfl rfl get_here rfl rfl) ?_
 refine PQ.pure (dst := (some 24)) (v := (W (g &&& (3#32)))) rfl rfl rfl noStore (none_ok _ _) (r_bin rfl rfl rfl (b_andW g (3#32))) ?_
 refine PQ.pure (dst := (some 25)) (v := (Pt n1 0 0)) rfl rfl rfl noStore (none_ok _ _) rfl ?_
 refine PQ.op (dst := none) (v := (.tuple #[])) (n1 := (n1 + 1)) (d1 := [(n1, some ⟨[[(.int .i64 (((andN f 1) : Nat) : Int)), (.int .i64 t), (W g), (.slice a K 0)]], 4, 33, true⟩)]) rfl rfl rfl _ (seen_any (V := []) (D := [(n1, some ⟨[[(.int .i64 f), (.int .i64 t), (W g), (.slice a K 0)]], 4, 33, true⟩), (n1, some ⟨[[(.int .i64 0), (.int .i64 0), (.int .u32 0), (.slice none 0 0)]], 4, 33, true⟩), ((n + 1), some (oEnt ([] : List Ent))), (n, some ⟨[[(.int .i64 f), (.int .i64 t), (W g), u]], 4, 33, true⟩)]) (by kernel_rfl)) (r_store rfl rfl rfl rfl rfl rfl rfl get_here rfl rfl (Nat.le_of_ble_eq_true rfl) rfl) (by omega) (kp1 (wr_old [3, 4, 5, 6, 7, 8] (by kernel_rfl) (by omega) (by omega) (fac (lo0 rfl) (fac (lo1 rfl (by omega)) (fac (lo0 rfl) (fac (lo0 rfl) (fac (lo1 rfl (by omega)) (fac (lo0 rfl) fan)))))))) ?_
 refine PQ.pure (dst := (some 26)) (v := (Pt n1 0 1)) rfl rfl rfl noStore (none_ok _ _) rfl ?_
 refine PQ.op (dst := none) (v := (.tuple #[])) (n1 := (n1 + 1)) (d1 := [(n1, some ⟨[(xAo36 f t g a K)], 4, 33, true⟩)]) rfl rfl rfl _ (seen_any (V := [(n1, some ⟨[[(.int .i64 (((andN f 1) : Nat) : Int)), (.int .i64 t), (W g), (.slice a K 0)]], 4, 33, true⟩)]) (D := [(n1, some ⟨[[(.int .i64 f), (.int .i64 t), (W g), (.slice a K 0)]], 4, 33, true⟩), (n1, some ⟨[[(.int .i64 0), (.int .i64 0), (.int .u32 0), (.slice none 0 0)]], 4, 33, true⟩), ((n + 1), some (oEnt ([] : List Ent))), (n, some ⟨[[(.int .i64 f), (.int .i64 t), (W g), u]], 4, 33, true⟩)]) (by kernel_rfl)) (r_store rfl rfl rfl rfl rfl rfl rfl get_here rfl rfl (Nat.le_of_ble_eq_true rfl) rfl) (by omega) (kp1 (wr_late [6, 7, 8] (by kernel_rfl) (by kernel_rfl) (by omega) 10 (by kernel_rfl) (by simp [keys]) (fac (lo0 rfl) (fac (lo1 rfl (by omega)) (fac (lo0 rfl) fan))))) ?_
 refine PQ.pure (dst := (some 27)) (v := (Pt n1 0 2)) rfl rfl rfl noStore (none_ok _ _) rfl ?_
 refine PQ.op (dst := none) (v := (.tuple #[])) (n1 := (n1 + 1)) (d1 := [(n1, some ⟨[(xAo34 f t g a K)], 4, 33, true⟩)]) rfl rfl rfl _ (seen_any (V := [(n1, some ⟨[(xAo36 f t g a K)], 4, 33, true⟩), (n1, some ⟨[[(.int .i64 (((andN f 1) : Nat) : Int)), (.int .i64 t), (W g), (.slice a K 0)]], 4, 33, true⟩)]) (D := [(n1, some ⟨[[(.int .i64 f), (.int .i64 t), (W g), (.slice a K 0)]], 4, 33, true⟩), (n1, some ⟨[[(.int .i64 0), (.int .i64 0), (.int .u32 0), (.slice none 0 0)]], 4, 33, true⟩), ((n + 1), some (oEnt ([] : List Ent))), (n, some ⟨[[(.int .i64 f), (.int .i64 t), (W g), u]], 4, 33, true⟩)]) (by kernel_rfl)) (r_store rfl rfl rfl rfl rfl rfl rfl get_here rfl rfl (Nat.le_of_ble_eq_true rfl) rfl) (by omega) (kp1 (wr_tight (by kernel_rfl) (by omega))) ?_
 refine PQ.done (d := [(n1, some ⟨[(xAo34 f t g a K)], 4, 33, true⟩), (n1, some ⟨[(xAo36 f t g a K)], 4, 33, true⟩), (n1, some ⟨[[(.int .i64 (((andN f 1) : Nat) : Int)), (.int .i64 t), (W g), (.slice a K 0)]], 4, 33, true⟩)]) (by kernel_rfl) ?_
 intro _
 refine RA.weaken (D' := [(n1, some ⟨[(xAo34 f t g a K)], 4, 33, true⟩), ((n + 1), some (oEnt ([] : List Ent))), (n, some ⟨[[(.int .i64 f), (.int .i64 t), (W g), u]], 4, 33, true⟩)]) hd (Less.of (fac (mm (fun _ => get_here) (fun _ => get_here)) (fac (mm (fun _ => (get_there (by omega) get_here)) (fun _ => (gt5 (by omega) get_here))) (fac (mm (fun _ => (gt2 (by omega) get_here)) (fun _ => (gt6 (by omega) get_here))) fan))) (gone_of (by simp only [goneP, memP, List.cons_append, List.nil_append, true_or, or_true, true_and, and_true, or_false] <;> omega))) ?_
 refine RA.seq hd ?_
 refine RA.seq hd ?_
 refine RA.region env_ok ?_
 refine OA.p (some 10) (.int .i64 0) rfl rfl rfl rfl ?_
 refine OA.nil ?_
 intro _
 refine RA.rebase [(0, v), (1, (.agg ⟨[(.int .i64 f), (.int .i64 t), (W g), u]⟩)), (2, (.bool true)), (4, (Pt n 0 0)), (6, (.bool false)), (7, (.slice (some ⟨(n + 1), 0, none⟩) 0 0)), (8, (.bool false)), (9, (Pt n1 0 0)), (10, (.int .i64 0))] ⟨rfl, rfl, rfl, rfl, rfl, rfl, rfl, rfl, rfl, trivial⟩ (fun τr4 => ?_)
 refine RA.block ?_
 refine RA.weaken (D' := [(n1, some ⟨[(xAo34 f t g a K)], 4, 33, true⟩), ((n + 1), some (oEnt ([] : List Ent)))]) hd (Less.of (fac (mm (fun _ => get_here) (fun _ => get_here)) (fac (mm (fun _ => (get_there (by omega) get_here)) (fun _ => (get_there (by omega) get_here))) fan)) (gone_of (by simp only [goneP, memP, List.cons_append, List.nil_append, true_or, or_true, true_and, and_true, or_false] <;> omega))) ?_
 refine RA.loop hd (fun kk_ τ n' D => (∃ i : Nat, ∃ j : Nat, kk_ = (12 - i) ∧ (n1 + 1) ≤ n' ∧ Has τ [(0, v), (2, (.bool true)), (7, (.slice (some ⟨j, 0, none⟩) i 0)), (8, (.bool false)), (9, (Pt n1 0 0)), (10, (.int .i64 ((i : Nat) : Int)))] ∧ D = [(n1, some ⟨[(xAo34 f t g a K)], 4, 33, true⟩), (j, some (oEnt ((l.take i).map near)))] ∧ (∀ i ∈ keys D, i < n') ∧ i ≤ l.length ∧ i ≤ 12 ∧ n ≤ j ∧ j ≠ n1 ∧ ((l.take i).map near).any (hit ((andN f 1 : Nat) : Int) ((andN t 1 : Nat) : Int) (g &&& 3#32) true) = false) ∨ (∃ i : Nat, ∃ j : Nat, kk_ = (12 - i) ∧ (n1 + 1) ≤ n' ∧ Has τ [(0, v), (2, (.bool true)), (7, (.slice (some ⟨j, 0, none⟩) i 0)), (8, (.bool true)), (9, (Pt n1 0 0)), (10, (.int .i64 ((i : Nat) : Int)))] ∧ D = [(n1, some ⟨[(xAo34 f t g a K)], 4, 33, true⟩), (j, some (oEnt ((l.take i).map near)))] ∧ (∀ i ∈ keys D, i < n') ∧ i ≤ l.length ∧ i ≤ 12 ∧ n ≤ j ∧ j ≠ n1 ∧ ((l.take i).map near).any (hit ((andN f 1 : Nat) : Int) ((andN t 1 : Nat) : Int) (g &&& 3#32) true) = true)) ((12 - 0)) (.inl (⟨0, (n + 1), rfl, by omega, ⟨rfl, rfl, rfl, rfl, rfl, rfl, trivial⟩, rfl, (kb2 (by omega)), ⟨by omega, by omega, by omega, by omega, rfl⟩⟩)) ?_
 rintro kn5 τ5 n5 Dn5 hSn5
 rcases hSn5 with ⟨i, j, rfl, hn5, hHn5, rfl, hKn5, hIn5⟩ | ⟨i, j, rfl, hn5, hHn5, rfl, hKn5, hIn5⟩
 ·
  rw [Has.eq hHn5]
  have hKn5_0 : n1 < n5 := hKn5 _ (by simp only [keys, List.map_cons, List.map_nil, List.mem_cons, true_or, or_true])
  have hKn5_1 : j < n5 := hKn5 _ (by simp only [keys, List.map_cons, List.map_nil, List.mem_cons, true_or, or_true])
  clear hKn5
  obtain ⟨hi1, hi2, hj1, hj2, hany⟩ := hIn5
  refine RA.seq hd ?_
  refine RA.seq hd ?_
  refine RA.region env_ok ?_
  refine OA.p (some 28) (.int .i64 ((i : Nat) : Int)) rfl rfl rfl rfl ?_
  refine OA.p (some 29) v rfl rfl rfl rfl ?_
  refine OA.p (some 30) (.int .i64 ((l.length : Nat) : Int)) rfl rfl rfl (r_lenP (c := cEnt) rfl rfl rfl rfl rfl rfl hv rfl) ?_
  by_cases hc1 : ((i : Nat) : Int) < ((l.length : Nat) : Int)
  ·
   obtain ⟨rest, hat⟩ := hv.get (m := i) (by omega)
   have lathat := hd.lt hat
   refine OA.p (some 31) (.bool true) rfl rfl rfl (Eq.trans (r_bin rfl rfl rfl (b_lss rfl)) (dT hc1)) ?_
   refine OA.p (some 32) (.bool true) rfl rfl rfl rfl ?_
   refine OA.p (some 33) (.int .i64 ((i : Nat) : Int)) rfl rfl rfl rfl ?_
   by_cases hc2 : ((i : Nat) : Int) < 12
   ·
    refine OA.p (some 34) (.bool true) rfl rfl rfl (Eq.trans (r_bin rfl rfl rfl (b_lss rfl)) (dT hc2)) ?_
    refine OA.p (some 35) (.bool true) rfl rfl rfl rfl ?_
    refine OA.nil ?_
    intro _
    refine RA.condT rfl ?_
    refine RA.skip env_ok ?_
    intro _
    refine RA.seq hd ?_
    refine RA.block ?_
    refine RA.seq hd ?_
    refine RA.region env_ok ?_
    refine OA.p (some 38) v rfl rfl rfl rfl ?_
    refine OA.p (some 39) (.int .i64 ((i : Nat) : Int)) rfl rfl rfl rfl ?_
    refine OA.p (some 40) (.pointer (some ⟨(rk v), i, some 0⟩)) rfl rfl rfl (r_iaP (c := cEnt) (m := i) rfl rfl rfl rfl rfl rfl hv rfl (by omega) (gt2 (by omega) hat) rfl) ?_
    refine OA.p (some 41) (.agg ⟨(cEnt (l.getD i dEnt))⟩) rfl rfl rfl (r_loadA (e := cEnt (l.getD i dEnt)) rfl rfl rfl rfl (gt2 (by omega) hat) (mp_getA (by omega)) rfl rfl) ?_
    refine OA.callP (dst := (some 42)) (all := [(.agg ⟨(cEnt (l.getD i dEnt))⟩)]) (v := (.agg ⟨(cEnt (near (l.getD i dEnt)))⟩)) (hd.of (by omega) (kb2 (by omega))) rfl rfl rfl rfl rfl rfl rfl rfl (oNear (l.getD i dEnt)) ?_
    intro n6 hn6
    refine OA.op1 (dst := (some 11)) (v := (Pt n6 0 0)) (n1 := (n6 + 1)) (w := (n6, some ⟨[xAo35], 7, 26, true⟩)) rfl rfl rfl rfl (by omega) ?_
    refine OA.op1 (dst := none) (v := (.tuple #[])) (n1 := (n6 + 1)) (w := (n6, some ⟨[(cEnt (near (l.getD i dEnt)))], 7, 26, true⟩)) rfl rfl rfl (r_store rfl rfl rfl rfl rfl rfl rfl get_here rfl rfl (Nat.le_of_ble_eq_true rfl) rfl) (by omega) ?_
    refine OA.nil ?_
    intro _
    refine RA.seq hd ?_
    refine RA.region env_ok ?_
    refine OA.p (some 43) (.slice (some ⟨j, 0, none⟩) i 0) rfl rfl rfl rfl ?_
    refine OA.p (some 44) (.agg ⟨(xAo31 l i)⟩) rfl rfl rfl (r_loadA rfl rfl rfl rfl get_here rfl rfl rfl) ?_
    refine OA.op1 (dst := (some 45)) (v := (.slice (some ⟨(n6 + 1), 0, none⟩) 1 0)) (n1 := (n6 + 2)) (w := ((n6 + 1), some ⟨[(xAo31 l i)], 7, 26, true⟩)) rfl rfl rfl (by kernel_rfl) (by omega) ?_
    refine OA.op (dst := (some 46)) (v := (.slice (some ⟨(n6 + 2), 0, none⟩) (i + 1) 0)) (n1 := (n6 + 3)) (d1 := [((n6 + 2), some (oEnt ((l.take (i + 1)).map near))), (j, none)]) (D' := [((n6 + 2), some (oEnt ((l.take (i + 1)).map near))), (j, none), ((n6 + 1), some ⟨[(xAo31 l i)], 7, 26, true⟩), (n6, some ⟨[(cEnt (near (l.getD i dEnt)))], 7, 26, true⟩), (n6, some ⟨[xAo35], 7, 26, true⟩), (n1, some ⟨[(xAo34 f t g a K)], 4, 33, true⟩), (j, some (oEnt ((l.take i).map near)))]) rfl rfl rfl (r_appendR (c := cEnt) (l' := ((l.take (i + 1)).map near)) rfl rfl rfl rfl rfl rfl rfl rfl rfl rfl (by decide) (gt4 (by omega) get_here) get_here (by rw [takeLen (by omega)]) (near_snoc (by omega)) (by omega) (of_decide_eq_true (by kernel_rfl)) (by omega)) (by omega) rfl ?_
    refine OA.p (some 7) (.slice (some ⟨(n6 + 2), 0, none⟩) (i + 1) 0) rfl rfl rfl rfl ?_
    refine OA.nil ?_
    intro _
    refine RA.weaken (D' := [((n6 + 2), some (oEnt ((l.take (i + 1)).map near))), (j, none), ((n6 + 1), some ⟨[(xAo31 l i)], 7, 26, true⟩), (n6, some ⟨[(cEnt (near (l.getD i dEnt)))], 7, 26, true⟩), (n1, some ⟨[(xAo34 f t g a K)], 4, 33, true⟩)]) hd (Less.of (fac (mm (fun _ => get_here) (fun _ => get_here)) (fac (mm (fun _ => (get_there (by omega) get_here)) (fun _ => (get_there (by omega) get_here))) (fac (mm (fun _ => (gt2 (by omega) get_here)) (fun _ => (gt2 (by omega) get_here))) (fac (mm (fun _ => (gt3 (by omega) get_here)) (fun _ => (gt3 (by omega) get_here))) (fac (mm (fun _ => (gt4 (by omega) get_here)) (fun _ => (gt5 (by omega) get_here))) fan))))) (gone_of (by simp only [goneP, memP, List.cons_append, List.nil_append, true_or, or_true, true_and, and_true, or_false] <;> omega))) ?_
    refine RA.seq hd ?_
    refine RA.region env_ok ?_
    refine OA.p (some 47) (Pt n6 0 4) rfl rfl rfl rfl ?_
    refine OA.p (some 48) (W (near (l.getD i dEnt)).inn) rfl rfl rfl (r_load1 rfl rfl rfl rfl rfl (gt3 (by omega) get_here) rfl rfl) ?_
    refine OA.p (some 12) (W (near (l.getD i dEnt)).inn) rfl rfl rfl rfl ?_
    refine OA.nil ?_
    intro _
    refine RA.seq hd ?_
    refine RA.seq hd ?_
    refine RA.region env_ok ?_
    refine OA.p (some 49) (.bool true) rfl rfl rfl rfl ?_
    refine OA.nil ?_
    intro _
    refine RA.condT rfl ?_
    refine RA.region env_ok ?_
    refine OA.p (some 50) (Pt n6 0 5) rfl rfl rfl rfl ?_
    refine OA.p (some 51) (W (near (l.getD i dEnt)).out) rfl rfl rfl (r_load1 rfl rfl rfl rfl rfl (gt3 (by omega) get_here) rfl rfl) ?_
    refine OA.p (some 12) (W (near (l.getD i dEnt)).out) rfl rfl rfl rfl ?_
    refine OA.nil ?_
    intro _
    refine RA.rebase [(0, v), (2, (.bool true)), (7, (.slice (some ⟨(n6 + 2), 0, none⟩) (i + 1) 0)), (8, (.bool false)), (9, (Pt n1 0 0)), (10, (.int .i64 ((i : Nat) : Int))), (11, (Pt n6 0 0)), (12, (W (near (l.getD i dEnt)).out)), (35, (.bool true)), (49, (.bool true))] ⟨rfl, rfl, rfl, rfl, rfl, rfl, rfl, rfl, rfl, rfl, trivial⟩ (fun τr7 => ?_)
    refine RA.region env_ok ?_
    refine OA.p (some 52) (.bool false) rfl rfl rfl rfl ?_
    refine OA.p (some 53) (.bool false) rfl rfl rfl rfl ?_
    refine OA.p (some 54) (Pt n6 0 0) rfl rfl rfl rfl ?_
    refine OA.p (some 55) (W (near (l.getD i dEnt)).inner) rfl rfl rfl (r_load1 rfl rfl rfl rfl rfl (gt3 (by omega) get_here) rfl rfl) ?_
    by_cases hc3 : ((near (l.getD i dEnt)).inner.toNat : Int) = 1
    ·
     refine OA.p (some 56) (.bool true) rfl rfl rfl (Eq.trans (r_bin rfl rfl rfl (b_eql rfl)) (dT hc3)) ?_
     refine OA.p (some 57) (.bool true) rfl rfl rfl rfl ?_
     refine OA.p (some 58) (Pt n6 0 2) rfl rfl rfl rfl ?_
     refine OA.p (some 59) (W (near (l.getD i dEnt)).peer) rfl rfl rfl (r_load1 rfl rfl rfl rfl rfl (gt3 (by omega) get_here) rfl rfl) ?_
     by_cases hc4 : ((near (l.getD i dEnt)).peer.toNat : Int) = 9
     ·
      refine OA.p (some 60) (.bool true) rfl rfl rfl (Eq.trans (r_bin rfl rfl rfl (b_eql rfl)) (dT hc4)) ?_
      refine OA.p (some 61) (.bool true) rfl rfl rfl rfl ?_
      refine OA.p (some 62) (.bool true) rfl rfl rfl rfl ?_
      refine OA.p (some 63) (Pt n6 0 1) rfl rfl rfl rfl ?_
      refine OA.p (some 64) (.int .i64 (near (l.getD i dEnt)).port) rfl rfl rfl (r_load1 rfl rfl rfl rfl rfl (gt3 (by omega) get_here) rfl rfl) ?_
      refine OA.p (some 65) (Pt n1 0 1) rfl rfl rfl rfl ?_
      refine OA.p (some 66) (.int .i64 (((andN t 1) : Nat) : Int)) rfl rfl rfl (r_load1 rfl rfl rfl rfl rfl (gt4 (by omega) get_here) rfl rfl) ?_
      by_cases hc5 : (near (l.getD i dEnt)).port = (((andN t 1) : Nat) : Int)
      ·
       refine OA.p (some 67) (.bool true) rfl rfl rfl (Eq.trans (r_bin rfl rfl rfl (b_eql rfl)) (dT hc5)) ?_
       refine OA.p (some 68) (.bool true) rfl rfl rfl rfl ?_
       refine OA.p (some 69) (.bool true) rfl rfl rfl rfl ?_
       refine OA.p (some 70) (Pt n6 0 3) rfl rfl rfl rfl ?_
       refine OA.p (some 71) (.int .i64 (near (l.getD i dEnt)).pport) rfl rfl rfl (r_load1 rfl rfl rfl rfl rfl (gt3 (by omega) get_here) rfl rfl) ?_
       refine OA.p (some 72) (Pt n1 0 0) rfl rfl rfl rfl ?_
       refine OA.p (some 73) (.int .i64 (((andN f 1) : Nat) : Int)) rfl rfl rfl (r_load1 rfl rfl rfl rfl rfl (gt4 (by omega) get_here) rfl rfl) ?_
       by_cases hc6 : (near (l.getD i dEnt)).pport = (((andN f 1) : Nat) : Int)
       ·
        refine OA.p (some 74) (.bool true) rfl rfl rfl (Eq.trans (r_bin rfl rfl rfl (b_eql rfl)) (dT hc6)) ?_
        refine OA.p (some 75) (.bool true) rfl rfl rfl rfl ?_
        refine OA.p (some 76) (.bool true) rfl rfl rfl rfl ?_
        refine OA.p (some 77) (W (near (l.getD i dEnt)).out) rfl rfl rfl rfl ?_
        refine OA.p (some 78) (Pt n1 0 2) rfl rfl rfl rfl ?_
        refine OA.p (some 79) (W (g &&& (3#32))) rfl rfl rfl (r_load1 rfl rfl rfl rfl rfl (gt4 (by omega) get_here) rfl rfl) ?_
        by_cases hc7 : ((near (l.getD i dEnt)).out.toNat : Int) = ((g &&& (3#32)).toNat : Int)
        ·
         refine OA.p (some 80) (.bool true) rfl rfl rfl (Eq.trans (r_bin rfl rfl rfl (b_eql rfl)) (dT hc7)) ?_
         refine OA.p (some 81) (.bool true) rfl rfl rfl rfl ?_
         refine OA.p (some 82) (.bool true) rfl rfl rfl rfl ?_
         refine OA.p (some 83) (Pt n1 0 2) rfl rfl rfl rfl ?_
         refine OA.p (some 84) (W (g &&& (3#32))) rfl rfl rfl (r_load1 rfl rfl rfl rfl rfl (gt4 (by omega) get_here) rfl rfl) ?_
         by_cases hc8 : ((g &&& (3#32)).toNat : Int) ≠ 0
         ·
          refine OA.p (some 85) (.bool true) rfl rfl rfl (Eq.trans (r_bin rfl rfl rfl (b_neq rfl)) (dT hc8)) ?_
          refine OA.p (some 86) (.bool true) rfl rfl rfl rfl ?_
          refine OA.p (some 87) (.bool true) rfl rfl rfl rfl ?_
          refine OA.p (some 8) (.bool true) rfl rfl rfl rfl ?_
          refine OA.nil ?_
          intro _
          refine RA.rebase [(0, v), (2, (.bool true)), (7, (.slice (some ⟨(n6 + 2), 0, none⟩) (i + 1) 0)), (8, (.bool true)), (9, (Pt n1 0 0)), (10, (.int .i64 ((i : Nat) : Int))), (11, (Pt n6 0 0)), (12, (W (near (l.getD i dEnt)).out)), (35, (.bool true)), (49, (.bool true))] ⟨rfl, rfl, rfl, rfl, rfl, rfl, rfl, rfl, rfl, rfl, trivial⟩ (fun τr8 => ?_)
          refine RA.region env_ok ?_
          refine OA.p (some 36) (.int .i64 ((i : Nat) : Int)) rfl rfl rfl rfl ?_
          refine OA.p (some 37) (.int .i64 (((i + 1) : Nat) : Int)) rfl rfl rfl (r_bin rfl rfl rfl (b_add (i64_eq (by omega)))) ?_
          refine OA.p (some 10) (.int .i64 (((i + 1) : Nat) : Int)) rfl rfl rfl rfl ?_
          refine OA.nil ?_
          refine ⟨(12 - (i + 1)), by omega, [(n1, some ⟨[(xAo34 f t g a K)], 4, 33, true⟩), ((n6 + 2), some (oEnt ((l.take (i + 1)).map near)))], (Less.of (fac (mm (fun _ => get_here) (fun _ => (gt4 (by omega) get_here))) (fac (mm (fun _ => (get_there (by omega) get_here)) (fun _ => get_here)) fan)) (gone_of (by simp only [goneP, memP, List.cons_append, List.nil_append, true_or, or_true, true_and, and_true, or_false] <;> omega))), .inr (⟨(i + 1), (n6 + 2), rfl, by omega, ⟨rfl, rfl, rfl, rfl, rfl, rfl, trivial⟩, rfl, (kb2 (by omega)), ⟨by omega, by omega, by omega, by omega, anyH (by omega) (hitT (m := true) (x := (near (l.getD i dEnt))) (f := ((andN f 1 : Nat) : Int)) (t := ((andN t 1 : Nat) : Int)) (g := (g &&& 3#32)) ⟨hc3, hc4, hc6, hc5, hc7, hc8⟩)⟩⟩)⟩
         ·
          refine OA.p (some 85) (.bool false) rfl rfl rfl (Eq.trans (r_bin rfl rfl rfl (b_neq rfl)) (dF hc8)) ?_
          refine OA.p (some 86) (.bool false) rfl rfl rfl rfl ?_
          refine OA.p (some 87) (.bool false) rfl rfl rfl rfl ?_
          refine OA.p (some 8) (.bool false) rfl rfl rfl rfl ?_
          refine OA.nil ?_
          intro _
          refine RA.rebase [(0, v), (2, (.bool true)), (7, (.slice (some ⟨(n6 + 2), 0, none⟩) (i + 1) 0)), (8, (.bool false)), (9, (Pt n1 0 0)), (10, (.int .i64 ((i : Nat) : Int))), (11, (Pt n6 0 0)), (12, (W (near (l.getD i dEnt)).out)), (35, (.bool true)), (49, (.bool true))] ⟨rfl, rfl, rfl, rfl, rfl, rfl, rfl, rfl, rfl, rfl, trivial⟩ (fun τr9 => ?_)
          refine RA.region env_ok ?_
          refine OA.p (some 36) (.int .i64 ((i : Nat) : Int)) rfl rfl rfl rfl ?_
          refine OA.p (some 37) (.int .i64 (((i + 1) : Nat) : Int)) rfl rfl rfl (r_bin rfl rfl rfl (b_add (i64_eq (by omega)))) ?_
          refine OA.p (some 10) (.int .i64 (((i + 1) : Nat) : Int)) rfl rfl rfl rfl ?_
          refine OA.nil ?_
          refine ⟨(12 - (i + 1)), by omega, [(n1, some ⟨[(xAo34 f t g a K)], 4, 33, true⟩), ((n6 + 2), some (oEnt ((l.take (i + 1)).map near)))], (Less.of (fac (mm (fun _ => get_here) (fun _ => (gt4 (by omega) get_here))) (fac (mm (fun _ => (get_there (by omega) get_here)) (fun _ => get_here)) fan)) (gone_of (by simp only [goneP, memP, List.cons_append, List.nil_append, true_or, or_true, true_and, and_true, or_false] <;> omega))), .inl (⟨(i + 1), (n6 + 2), rfl, by omega, ⟨rfl, rfl, rfl, rfl, rfl, rfl, trivial⟩, rfl, (kb2 (by omega)), ⟨by omega, by omega, by omega, by omega, anyN (by omega) hany (hitF (m := true) (x := (near (l.getD i dEnt))) (f := ((andN f 1 : Nat) : Int)) (t := ((andN t 1 : Nat) : Int)) (g := (g &&& 3#32)) (fun hh => hc8 hh.2.2.2.2.2))⟩⟩)⟩
        ·
         refine OA.p (some 80) (.bool false) rfl rfl rfl (Eq.trans (r_bin rfl rfl rfl (b_eql rfl)) (dF hc7)) ?_
         refine OA.p (some 81) (.bool false) rfl rfl rfl rfl ?_
         refine OA.p (some 82) (.bool false) rfl rfl rfl rfl ?_
         refine OA.off (dst := (some 83)) rfl rfl rfl ?_
         refine OA.off (dst := (some 84)) rfl rfl rfl ?_
         refine OA.off (dst := (some 85)) rfl rfl rfl ?_
         refine OA.p (some 86) (.bool false) rfl rfl rfl rfl ?_
         refine OA.p (some 87) (.bool false) rfl rfl rfl rfl ?_
         refine OA.p (some 8) (.bool false) rfl rfl rfl rfl ?_
         refine OA.nil ?_
         intro _
         refine RA.rebase [(0, v), (2, (.bool true)), (7, (.slice (some ⟨(n6 + 2), 0, none⟩) (i + 1) 0)), (8, (.bool false)), (9, (Pt n1 0 0)), (10, (.int .i64 ((i : Nat) : Int))), (11, (Pt n6 0 0)), (12, (W (near (l.getD i dEnt)).out)), (35, (.bool true)), (49, (.bool true))] ⟨rfl, rfl, rfl, rfl, rfl, rfl, rfl, rfl, rfl, rfl, trivial⟩ (fun τr10 => ?_)
         refine RA.region env_ok ?_
         refine OA.p (some 36) (.int .i64 ((i : Nat) : Int)) rfl rfl rfl rfl ?_
         refine OA.p (some 37) (.int .i64 (((i + 1) : Nat) : Int)) rfl rfl rfl (r_bin rfl rfl rfl (b_add (i64_eq (by omega)))) ?_
         refine OA.p (some 10) (.int .i64 (((i + 1) : Nat) : Int)) rfl rfl rfl rfl ?_
         refine OA.nil ?_
         refine ⟨(12 - (i + 1)), by omega, [(n1, some ⟨[(xAo34 f t g a K)], 4, 33, true⟩), ((n6 + 2), some (oEnt ((l.take (i + 1)).map near)))], (Less.of (fac (mm (fun _ => get_here) (fun _ => (gt4 (by omega) get_here))) (fac (mm (fun _ => (get_there (by omega) get_here)) (fun _ => get_here)) fan)) (gone_of (by simp only [goneP, memP, List.cons_append, List.nil_append, true_or, or_true, true_and, and_true, or_false] <;> omega))), .inl (⟨(i + 1), (n6 + 2), rfl, by omega, ⟨rfl, rfl, rfl, rfl, rfl, rfl, trivial⟩, rfl, (kb2 (by omega)), ⟨by omega, by omega, by omega, by omega, anyN (by omega) hany (hitF (m := true) (x := (near (l.getD i dEnt))) (f := ((andN f 1 : Nat) : Int)) (t := ((andN t 1 : Nat) : Int)) (g := (g &&& 3#32)) (fun hh => hc7 hh.2.2.2.2.1))⟩⟩)⟩
       ·
        refine OA.p (some 74) (.bool false) rfl rfl rfl (Eq.trans (r_bin rfl rfl rfl (b_eql rfl)) (dF hc6)) ?_
        refine OA.p (some 75) (.bool false) rfl rfl rfl rfl ?_
        refine OA.p (some 76) (.bool false) rfl rfl rfl rfl ?_
        refine OA.off (dst := (some 77)) rfl rfl rfl ?_
        refine OA.off (dst := (some 78)) rfl rfl rfl ?_
        refine OA.off (dst := (some 79)) rfl rfl rfl ?_
        refine OA.off (dst := (some 80)) rfl rfl rfl ?_
        refine OA.p (some 81) (.bool false) rfl rfl rfl rfl ?_
        refine OA.p (some 82) (.bool false) rfl rfl rfl rfl ?_
        refine OA.off (dst := (some 83)) rfl rfl rfl ?_
        refine OA.off (dst := (some 84)) rfl rfl rfl ?_
        refine OA.off (dst := (some 85)) rfl rfl rfl ?_
        refine OA.p (some 86) (.bool false) rfl rfl rfl rfl ?_
        refine OA.p (some 87) (.bool false) rfl rfl rfl rfl ?_
        refine OA.p (some 8) (.bool false) rfl rfl rfl rfl ?_
        refine OA.nil ?_
        intro _
        refine RA.rebase [(0, v), (2, (.bool true)), (7, (.slice (some ⟨(n6 + 2), 0, none⟩) (i + 1) 0)), (8, (.bool false)), (9, (Pt n1 0 0)), (10, (.int .i64 ((i : Nat) : Int))), (11, (Pt n6 0 0)), (12, (W (near (l.getD i dEnt)).out)), (35, (.bool true)), (49, (.bool true))] ⟨rfl, rfl, rfl, rfl, rfl, rfl, rfl, rfl, rfl, rfl, trivial⟩ (fun τr11 => ?_)
        refine RA.region env_ok ?_
        refine OA.p (some 36) (.int .i64 ((i : Nat) : Int)) rfl rfl rfl rfl ?_
        refine OA.p (some 37) (.int .i64 (((i + 1) : Nat) : Int)) rfl rfl rfl (r_bin rfl rfl rfl (b_add (i64_eq (by omega)))) ?_
        refine OA.p (some 10) (.int .i64 (((i + 1) : Nat) : Int)) rfl rfl rfl rfl ?_
        refine OA.nil ?_
        refine ⟨(12 - (i + 1)), by omega, [(n1, some ⟨[(xAo34 f t g a K)], 4, 33, true⟩), ((n6 + 2), some (oEnt ((l.take (i + 1)).map near)))], (Less.of (fac (mm (fun _ => get_here) (fun _ => (gt4 (by omega) get_here))) (fac (mm (fun _ => (get_there (by omega) get_here)) (fun _ => get_here)) fan)) (gone_of (by simp only [goneP, memP, List.cons_append, List.nil_append, true_or, or_true, true_and, and_true, or_false] <;> omega))), .inl (⟨(i + 1), (n6 + 2), rfl, by omega, ⟨rfl, rfl, rfl, rfl, rfl, rfl, trivial⟩, rfl, (kb2 (by omega)), ⟨by omega, by omega, by omega, by omega, anyN (by omega) hany (hitF (m := true) (x := (near (l.getD i dEnt))) (f := ((andN f 1 : Nat) : Int)) (t := ((andN t 1 : Nat) : Int)) (g := (g &&& 3#32)) (fun hh => hc6 hh.2.2.1))⟩⟩)⟩
      ·
       refine OA.p (some 67) (.bool false) rfl rfl rfl (Eq.trans (r_bin rfl rfl rfl (b_eql rfl)) (dF hc5)) ?_
       refine OA.p (some 68) (.bool false) rfl rfl rfl rfl ?_
       refine OA.p (some 69) (.bool false) rfl rfl rfl rfl ?_
       refine OA.off (dst := (some 70)) rfl rfl rfl ?_
       refine OA.off (dst := (some 71)) rfl rfl rfl ?_
       refine OA.off (dst := (some 72)) rfl rfl rfl ?_
       refine OA.off (dst := (some 73)) rfl rfl rfl ?_
       refine OA.off (dst := (some 74)) rfl rfl rfl ?_
       refine OA.p (some 75) (.bool false) rfl rfl rfl rfl ?_
       refine OA.p (some 76) (.bool false) rfl rfl rfl rfl ?_
       refine OA.off (dst := (some 77)) rfl rfl rfl ?_
       refine OA.off (dst := (some 78)) rfl rfl rfl ?_
       refine OA.off (dst := (some 79)) rfl rfl rfl ?_
       refine OA.off (dst := (some 80)) rfl rfl rfl ?_
       refine OA.p (some 81) (.bool false) rfl rfl rfl rfl ?_
       refine OA.p (some 82) (.bool false) rfl rfl rfl rfl ?_
       refine OA.off (dst := (some 83)) rfl rfl rfl ?_
       refine OA.off (dst := (some 84)) rfl rfl rfl ?_
       refine OA.off (dst := (some 85)) rfl rfl rfl ?_
       refine OA.p (some 86) (.bool false) rfl rfl rfl rfl ?_
       refine OA.p (some 87) (.bool false) rfl rfl rfl rfl ?_
       refine OA.p (some 8) (.bool false) rfl rfl rfl rfl ?_
       refine OA.nil ?_
       intro _
       refine RA.rebase [(0, v), (2, (.bool true)), (7, (.slice (some ⟨(n6 + 2), 0, none⟩) (i + 1) 0)), (8, (.bool false)), (9, (Pt n1 0 0)), (10, (.int .i64 ((i : Nat) : Int))), (11, (Pt n6 0 0)), (12, (W (near (l.getD i dEnt)).out)), (35, (.bool true)), (49, (.bool true))] ⟨rfl, rfl, rfl, rfl, rfl, rfl, rfl, rfl, rfl, rfl, trivial⟩ (fun τr12 => ?_)
       refine RA.region env_ok ?_
       refine OA.p (some 36) (.int .i64 ((i : Nat) : Int)) rfl rfl rfl rfl ?_
       refine OA.p (some 37) (.int .i64 (((i + 1) : Nat) : Int)) rfl rfl rfl (r_bin rfl rfl rfl (b_add (i64_eq (by omega)))) ?_
       refine OA.p (some 10) (.int .i64 (((i + 1) : Nat) : Int)) rfl rfl rfl rfl ?_
       refine OA.nil ?_
       refine ⟨(12 - (i + 1)), by omega, [(n1, some ⟨[(xAo34 f t g a K)], 4, 33, true⟩), ((n6 + 2), some (oEnt ((l.take (i + 1)).map near)))], (Less.of (fac (mm (fun _ => get_here) (fun _ => (gt4 (by omega) get_here))) (fac (mm (fun _ => (get_there (by omega) get_here)) (fun _ => get_here)) fan)) (gone_of (by simp only [goneP, memP, List.cons_append, List.nil_append, true_or, or_true, true_and, and_true, or_false] <;> omega))), .inl (⟨(i + 1), (n6 + 2), rfl, by omega, ⟨rfl, rfl, rfl, rfl, rfl, rfl, trivial⟩, rfl, (kb2 (by omega)), ⟨by omega, by omega, by omega, by omega, anyN (by omega) hany (hitF (m := true) (x := (near (l.getD i dEnt))) (f := ((andN f 1 : Nat) : Int)) (t := ((andN t 1 : Nat) : Int)) (g := (g &&& 3#32)) (fun hh => hc5 hh.2.2.2.1))⟩⟩)⟩
     ·
      refine OA.p (some 60) (.bool false) rfl rfl rfl (Eq.trans (r_bin rfl rfl rfl (b_eql rfl)) (dF hc4)) ?_
      refine OA.p (some 61) (.bool false) rfl rfl rfl rfl ?_
      refine OA.p (some 62) (.bool false) rfl rfl rfl rfl ?_
      refine OA.off (dst := (some 63)) rfl rfl rfl ?_
      refine OA.off (dst := (some 64)) rfl rfl rfl ?_
      refine OA.off (dst := (some 65)) rfl rfl rfl ?_
      refine OA.off (dst := (some 66)) rfl rfl rfl ?_
      refine OA.off (dst := (some 67)) rfl rfl rfl ?_
      refine OA.p (some 68) (.bool false) rfl rfl rfl rfl ?_
      refine OA.p (some 69) (.bool false) rfl rfl rfl rfl ?_
      refine OA.off (dst := (some 70)) rfl rfl rfl ?_
      refine OA.off (dst := (some 71)) rfl rfl rfl ?_
      refine OA.off (dst := (some 72)) rfl rfl rfl ?_
      refine OA.off (dst := (some 73)) rfl rfl rfl ?_
      refine OA.off (dst := (some 74)) rfl rfl rfl ?_
      refine OA.p (some 75) (.bool false) rfl rfl rfl rfl ?_
      refine OA.p (some 76) (.bool false) rfl rfl rfl rfl ?_
      refine OA.off (dst := (some 77)) rfl rfl rfl ?_
      refine OA.off (dst := (some 78)) rfl rfl rfl ?_
      refine OA.off (dst := (some 79)) rfl rfl rfl ?_
      refine OA.off (dst := (some 80)) rfl rfl rfl ?_
      refine OA.p (some 81) (.bool false) rfl rfl rfl rfl ?_
      refine OA.p (some 82) (.bool false) rfl rfl rfl rfl ?_
      refine OA.off (dst := (some 83)) rfl rfl rfl ?_
      refine OA.off (dst := (some 84)) rfl rfl rfl ?_
      refine OA.off (dst := (some 85)) rfl rfl rfl ?_
      refine OA.p (some 86) (.bool false) rfl rfl rfl rfl ?_
      refine OA.p (some 87) (.bool false) rfl rfl rfl rfl ?_
      refine OA.p (some 8) (.bool false) rfl rfl rfl rfl ?_
      refine OA.nil ?_
      intro _
      refine RA.rebase [(0, v), (2, (.bool true)), (7, (.slice (some ⟨(n6 + 2), 0, none⟩) (i + 1) 0)), (8, (.bool false)), (9, (Pt n1 0 0)), (10, (.int .i64 ((i : Nat) : Int))), (11, (Pt n6 0 0)), (12, (W (near (l.getD i dEnt)).out)), (35, (.bool true)), (49, (.bool true))] ⟨rfl, rfl, rfl, rfl, rfl, rfl, rfl, rfl, rfl, rfl, trivial⟩ (fun τr13 => ?_)
      refine RA.region env_ok ?_
      refine OA.p (some 36) (.int .i64 ((i : Nat) : Int)) rfl rfl rfl rfl ?_
      refine OA.p (some 37) (.int .i64 (((i + 1) : Nat) : Int)) rfl rfl rfl (r_bin rfl rfl rfl (b_add (i64_eq (by omega)))) ?_
      refine OA.p (some 10) (.int .i64 (((i + 1) : Nat) : Int)) rfl rfl rfl rfl ?_
      refine OA.nil ?_
      refine ⟨(12 - (i + 1)), by omega, [(n1, some ⟨[(xAo34 f t g a K)], 4, 33, true⟩), ((n6 + 2), some (oEnt ((l.take (i + 1)).map near)))], (Less.of (fac (mm (fun _ => get_here) (fun _ => (gt4 (by omega) get_here))) (fac (mm (fun _ => (get_there (by omega) get_here)) (fun _ => get_here)) fan)) (gone_of (by simp only [goneP, memP, List.cons_append, List.nil_append, true_or, or_true, true_and, and_true, or_false] <;> omega))), .inl (⟨(i + 1), (n6 + 2), rfl, by omega, ⟨rfl, rfl, rfl, rfl, rfl, rfl, trivial⟩, rfl, (kb2 (by omega)), ⟨by omega, by omega, by omega, by omega, anyN (by omega) hany (hitF (m := true) (x := (near (l.getD i dEnt))) (f := ((andN f 1 : Nat) : Int)) (t := ((andN t 1 : Nat) : Int)) (g := (g &&& 3#32)) (fun hh => hc4 hh.2.1))⟩⟩)⟩
    ·
     refine OA.p (some 56) (.bool false) rfl rfl rfl (Eq.trans (r_bin rfl rfl rfl (b_eql rfl)) (dF hc3)) ?_
     refine OA.p (some 57) (.bool false) rfl rfl rfl rfl ?_
     refine OA.off (dst := (some 58)) rfl rfl rfl ?_
     refine OA.off (dst := (some 59)) rfl rfl rfl ?_
     refine OA.off (dst := (some 60)) rfl rfl rfl ?_
     refine OA.p (some 61) (.bool false) rfl rfl rfl rfl ?_
     refine OA.p (some 62) (.bool false) rfl rfl rfl rfl ?_
     refine OA.off (dst := (some 63)) rfl rfl rfl ?_
     refine OA.off (dst := (some 64)) rfl rfl rfl ?_
     refine OA.off (dst := (some 65)) rfl rfl rfl ?_
     refine OA.off (dst := (some 66)) rfl rfl rfl ?_
     refine OA.off (dst := (some 67)) rfl rfl rfl ?_
     refine OA.p (some 68) (.bool false) rfl rfl rfl rfl ?_
     refine OA.p (some 69) (.bool false) rfl rfl rfl rfl ?_
     refine OA.off (dst := (some 70)) rfl rfl rfl ?_
     refine OA.off (dst := (some 71)) rfl rfl rfl ?_
     refine OA.off (dst := (some 72)) rfl rfl rfl ?_
     refine OA.off (dst := (some 73)) rfl rfl rfl ?_
     refine OA.off (dst := (some 74)) rfl rfl rfl ?_
     refine OA.p (some 75) (.bool false) rfl rfl rfl rfl ?_
     refine OA.p (some 76) (.bool false) rfl rfl rfl rfl ?_
     refine OA.off (dst := (some 77)) rfl rfl rfl ?_
     refine OA.off (dst := (some 78)) rfl rfl rfl ?_
     refine OA.off (dst := (some 79)) rfl rfl rfl ?_
     refine OA.off (dst := (some 80)) rfl rfl rfl ?_
     refine OA.p (some 81) (.bool false) rfl rfl rfl rfl ?_
     refine OA.p (some 82) (.bool false) rfl rfl rfl rfl ?_
     refine OA.off (dst := (some 83)) rfl rfl rfl ?_
     refine OA.off (dst := (some 84)) rfl rfl rfl ?_
     refine OA.off (dst := (some 85)) rfl rfl rfl ?_
     refine OA.p (some 86) (.bool false) rfl rfl rfl rfl ?_
     refine OA.p (some 87) (.bool false) rfl rfl rfl rfl ?_
     refine OA.p (some 8) (.bool false) rfl rfl rfl rfl ?_
     refine OA.nil ?_
     intro _
     refine RA.rebase [(0, v), (2, (.bool true)), (7, (.slice (some ⟨(n6 + 2), 0, none⟩) (i + 1) 0)), (8, (.bool false)), (9, (Pt n1 0 0)), (10, (.int .i64 ((i : Nat) : Int))), (11, (Pt n6 0 0)), (12, (W (near (l.getD i dEnt)).out)), (35, (.bool true)), (49, (.bool true))] ⟨rfl, rfl, rfl, rfl, rfl, rfl, rfl, rfl, rfl, rfl, trivial⟩ (fun τr14 => ?_)
     refine RA.region env_ok ?_
     refine OA.p (some 36) (.int .i64 ((i : Nat) : Int)) rfl rfl rfl rfl ?_
     refine OA.p (some 37) (.int .i64 (((i + 1) : Nat) : Int)) rfl rfl rfl (r_bin rfl rfl rfl (b_add (i64_eq (by omega)))) ?_
     refine OA.p (some 10) (.int .i64 (((i + 1) : Nat) : Int)) rfl rfl rfl rfl ?_
     refine OA.nil ?_
     refine ⟨(12 - (i + 1)), by omega, [(n1, some ⟨[(xAo34 f t g a K)], 4, 33, true⟩), ((n6 + 2), some (oEnt ((l.take (i + 1)).map near)))], (Less.of (fac (mm (fun _ => get_here) (fun _ => (gt4 (by omega) get_here))) (fac (mm (fun _ => (get_there (by omega) get_here)) (fun _ => get_here)) fan)) (gone_of (by simp only [goneP, memP, List.cons_append, List.nil_append, true_or, or_true, true_and, and_true, or_false] <;> omega))), .inl (⟨(i + 1), (n6 + 2), rfl, by omega, ⟨rfl, rfl, rfl, rfl, rfl, rfl, trivial⟩, rfl, (kb2 (by omega)), ⟨by omega, by omega, by omega, by omega, anyN (by omega) hany (hitF (m := true) (x := (near (l.getD i dEnt))) (f := ((andN f 1 : Nat) : Int)) (t := ((andN t 1 : Nat) : Int)) (g := (g &&& 3#32)) (fun hh => hc3 hh.1))⟩⟩)⟩
   ·
    refine OA.p (some 34) (.bool false) rfl rfl rfl (Eq.trans (r_bin rfl rfl rfl (b_lss rfl)) (dF hc2)) ?_
    refine OA.p (some 35) (.bool false) rfl rfl rfl rfl ?_
    refine OA.nil ?_
    intro _
    refine RA.condF rfl ?_
    refine RA.exit env_ok ?_
    intro _
    refine RA.seq hd ?_
    refine RA.region env_ok ?_
    refine OA.callP (dst := (some 88)) (all := []) (v := (.bool true)) (hd.of (by omega) (kb2 (by omega))) rfl rfl rfl rfl rfl rfl rfl rfl awakeT ?_
    intro n15 hn15
    refine OA.p (some 89) (.bool true) rfl rfl rfl rfl ?_
    refine OA.p (some 90) (.slice (some ⟨j, 0, none⟩) i 0) rfl rfl rfl rfl ?_
    refine OA.p (some 91) (.agg ⟨(xAo34 f t g a K)⟩) rfl rfl rfl (r_loadA rfl rfl rfl rfl get_here rfl rfl rfl) ?_
    refine OA.p (some 92) (.bool true) rfl rfl rfl rfl ?_
    refine OA.callP (dst := (some 93)) (all := (xAo33 j i f t g a K)) (v := (.bool false)) (hd.of (by omega) (kb2 (by omega))) rfl rfl rfl rfl rfl rfl rfl rfl (PS.to (oOwnertrue j i ((l.take i).map near) (takeLen (by omega)) (by omega) ((andN f 1 : Nat) : Int) ((andN t 1 : Nat) : Int) (g &&& 3#32) a K (get_there (by omega) get_here)) (congrArg Value.bool hany)) ?_
    intro n16 hn16
    refine OA.p (some 94) (.bool false) rfl rfl rfl rfl ?_
    refine OA.p (some 95) (.bool true) rfl rfl rfl rfl ?_
    refine OA.p (some 96) (.bool true) rfl rfl rfl rfl ?_
    refine OA.p (some 6) (.bool true) rfl rfl rfl rfl ?_
    refine OA.nil ?_
    intro _
    refine RA.ret env_ok ?_
    refine ⟨.inr rfl, [(.bool true)], (resL_cons rfl resL_nil), [], (Less.of (fun p hp => by simp at hp) (gone_of (by simp only [goneP, memP, List.cons_append, List.nil_append, true_or, or_true, true_and, and_true, or_false] <;> omega))), rfl⟩
  ·
   refine OA.p (some 31) (.bool false) rfl rfl rfl (Eq.trans (r_bin rfl rfl rfl (b_lss rfl)) (dF hc1)) ?_
   refine OA.p (some 32) (.bool false) rfl rfl rfl rfl ?_
   refine OA.off (dst := (some 33)) rfl rfl rfl ?_
   refine OA.off (dst := (some 34)) rfl rfl rfl ?_
   refine OA.p (some 35) (.bool false) rfl rfl rfl rfl ?_
   refine OA.nil ?_
   intro _
   refine RA.condF rfl ?_
   refine RA.exit env_ok ?_
   intro _
   refine RA.seq hd ?_
   refine RA.region env_ok ?_
   refine OA.callP (dst := (some 88)) (all := []) (v := (.bool true)) (hd.of (by omega) (kb2 (by omega))) rfl rfl rfl rfl rfl rfl rfl rfl awakeT ?_
   intro n17 hn17
   refine OA.p (some 89) (.bool true) rfl rfl rfl rfl ?_
   refine OA.p (some 90) (.slice (some ⟨j, 0, none⟩) i 0) rfl rfl rfl rfl ?_
   refine OA.p (some 91) (.agg ⟨(xAo34 f t g a K)⟩) rfl rfl rfl (r_loadA rfl rfl rfl rfl get_here rfl rfl rfl) ?_
   refine OA.p (some 92) (.bool true) rfl rfl rfl rfl ?_
   refine OA.callP (dst := (some 93)) (all := (xAo33 j i f t g a K)) (v := (.bool false)) (hd.of (by omega) (kb2 (by omega))) rfl rfl rfl rfl rfl rfl rfl rfl (PS.to (oOwnertrue j i ((l.take i).map near) (takeLen (by omega)) (by omega) ((andN f 1 : Nat) : Int) ((andN t 1 : Nat) : Int) (g &&& 3#32) a K (get_there (by omega) get_here)) (congrArg Value.bool hany)) ?_
   intro n18 hn18
   refine OA.p (some 94) (.bool false) rfl rfl rfl rfl ?_
   refine OA.p (some 95) (.bool true) rfl rfl rfl rfl ?_
   refine OA.p (some 96) (.bool true) rfl rfl rfl rfl ?_
   refine OA.p (some 6) (.bool true) rfl rfl rfl rfl ?_
   refine OA.nil ?_
   intro _
   refine RA.ret env_ok ?_
   refine ⟨.inr rfl, [(.bool true)], (resL_cons rfl resL_nil), [], (Less.of (fun p hp => by simp at hp) (gone_of (by simp only [goneP, memP, List.cons_append, List.nil_append, true_or, or_true, true_and, and_true, or_false] <;> omega))), rfl⟩
 ·
  rw [Has.eq hHn5]
  have hKn5_0 : n1 < n5 := hKn5 _ (by simp only [keys, List.map_cons, List.map_nil, List.mem_cons, true_or, or_true])
  have hKn5_1 : j < n5 := hKn5 _ (by simp only [keys, List.map_cons, List.map_nil, List.mem_cons, true_or, or_true])
  clear hKn5
  obtain ⟨hi1, hi2, hj1, hj2, hany⟩ := hIn5
  refine RA.seq hd ?_
  refine RA.seq hd ?_
  refine RA.region env_ok ?_
  refine OA.p (some 28) (.int .i64 ((i : Nat) : Int)) rfl rfl rfl rfl ?_
  refine OA.p (some 29) v rfl rfl rfl rfl ?_
  refine OA.p (some 30) (.int .i64 ((l.length : Nat) : Int)) rfl rfl rfl (r_lenP (c := cEnt) rfl rfl rfl rfl rfl rfl hv rfl) ?_
  by_cases hc9 : ((i : Nat) : Int) < ((l.length : Nat) : Int)
  ·
   obtain ⟨rest, hat⟩ := hv.get (m := i) (by omega)
   have lathat := hd.lt hat
   refine OA.p (some 31) (.bool true) rfl rfl rfl (Eq.trans (r_bin rfl rfl rfl (b_lss rfl)) (dT hc9)) ?_
   refine OA.p (some 32) (.bool true) rfl rfl rfl rfl ?_
   refine OA.p (some 33) (.int .i64 ((i : Nat) : Int)) rfl rfl rfl rfl ?_
   by_cases hc10 : ((i : Nat) : Int) < 12
   ·
    refine OA.p (some 34) (.bool true) rfl rfl rfl (Eq.trans (r_bin rfl rfl rfl (b_lss rfl)) (dT hc10)) ?_
    refine OA.p (some 35) (.bool true) rfl rfl rfl rfl ?_
    refine OA.nil ?_
    intro _
    refine RA.condT rfl ?_
    refine RA.skip env_ok ?_
    intro _
    refine RA.seq hd ?_
    refine RA.block ?_
    refine RA.seq hd ?_
    refine RA.region env_ok ?_
    refine OA.p (some 38) v rfl rfl rfl rfl ?_
    refine OA.p (some 39) (.int .i64 ((i : Nat) : Int)) rfl rfl rfl rfl ?_
    refine OA.p (some 40) (.pointer (some ⟨(rk v), i, some 0⟩)) rfl rfl rfl (r_iaP (c := cEnt) (m := i) rfl rfl rfl rfl rfl rfl hv rfl (by omega) (gt2 (by omega) hat) rfl) ?_
    refine OA.p (some 41) (.agg ⟨(cEnt (l.getD i dEnt))⟩) rfl rfl rfl (r_loadA (e := cEnt (l.getD i dEnt)) rfl rfl rfl rfl (gt2 (by omega) hat) (mp_getA (by omega)) rfl rfl) ?_
    refine OA.callP (dst := (some 42)) (all := [(.agg ⟨(cEnt (l.getD i dEnt))⟩)]) (v := (.agg ⟨(cEnt (near (l.getD i dEnt)))⟩)) (hd.of (by omega) (kb2 (by omega))) rfl rfl rfl rfl rfl rfl rfl rfl (oNear (l.getD i dEnt)) ?_
    intro n19 hn19
    refine OA.op1 (dst := (some 11)) (v := (Pt n19 0 0)) (n1 := (n19 + 1)) (w := (n19, some ⟨[xAo35], 7, 26, true⟩)) rfl rfl rfl rfl (by omega) ?_
    refine OA.op1 (dst := none) (v := (.tuple #[])) (n1 := (n19 + 1)) (w := (n19, some ⟨[(cEnt (near (l.getD i dEnt)))], 7, 26, true⟩)) rfl rfl rfl (r_store rfl rfl rfl rfl rfl rfl rfl get_here rfl rfl (Nat.le_of_ble_eq_true rfl) rfl) (by omega) ?_
    refine OA.nil ?_
    intro _
    refine RA.seq hd ?_
    refine RA.region env_ok ?_
    refine OA.p (some 43) (.slice (some ⟨j, 0, none⟩) i 0) rfl rfl rfl rfl ?_
    refine OA.p (some 44) (.agg ⟨(xAo31 l i)⟩) rfl rfl rfl (r_loadA rfl rfl rfl rfl get_here rfl rfl rfl) ?_
    refine OA.op1 (dst := (some 45)) (v := (.slice (some ⟨(n19 + 1), 0, none⟩) 1 0)) (n1 := (n19 + 2)) (w := ((n19 + 1), some ⟨[(xAo31 l i)], 7, 26, true⟩)) rfl rfl rfl (by kernel_rfl) (by omega) ?_
    refine OA.op (dst := (some 46)) (v := (.slice (some ⟨(n19 + 2), 0, none⟩) (i + 1) 0)) (n1 := (n19 + 3)) (d1 := [((n19 + 2), some (oEnt ((l.take (i + 1)).map near))), (j, none)]) (D' := [((n19 + 2), some (oEnt ((l.take (i + 1)).map near))), (j, none), ((n19 + 1), some ⟨[(xAo31 l i)], 7, 26, true⟩), (n19, some ⟨[(cEnt (near (l.getD i dEnt)))], 7, 26, true⟩), (n19, some ⟨[xAo35], 7, 26, true⟩), (n1, some ⟨[(xAo34 f t g a K)], 4, 33, true⟩), (j, some (oEnt ((l.take i).map near)))]) rfl rfl rfl (r_appendR (c := cEnt) (l' := ((l.take (i + 1)).map near)) rfl rfl rfl rfl rfl rfl rfl rfl rfl rfl (by decide) (gt4 (by omega) get_here) get_here (by rw [takeLen (by omega)]) (near_snoc (by omega)) (by omega) (of_decide_eq_true (by kernel_rfl)) (by omega)) (by omega) rfl ?_
    refine OA.p (some 7) (.slice (some ⟨(n19 + 2), 0, none⟩) (i + 1) 0) rfl rfl rfl rfl ?_
    refine OA.nil ?_
    intro _
    refine RA.weaken (D' := [((n19 + 2), some (oEnt ((l.take (i + 1)).map near))), (j, none), ((n19 + 1), some ⟨[(xAo31 l i)], 7, 26, true⟩), (n19, some ⟨[(cEnt (near (l.getD i dEnt)))], 7, 26, true⟩), (n1, some ⟨[(xAo34 f t g a K)], 4, 33, true⟩)]) hd (Less.of (fac (mm (fun _ => get_here) (fun _ => get_here)) (fac (mm (fun _ => (get_there (by omega) get_here)) (fun _ => (get_there (by omega) get_here))) (fac (mm (fun _ => (gt2 (by omega) get_here)) (fun _ => (gt2 (by omega) get_here))) (fac (mm (fun _ => (gt3 (by omega) get_here)) (fun _ => (gt3 (by omega) get_here))) (fac (mm (fun _ => (gt4 (by omega) get_here)) (fun _ => (gt5 (by omega) get_here))) fan))))) (gone_of (by simp only [goneP, memP, List.cons_append, List.nil_append, true_or, or_true, true_and, and_true, or_false] <;> omega))) ?_
    refine RA.seq hd ?_
    refine RA.region env_ok ?_
    refine OA.p (some 47) (Pt n19 0 4) rfl rfl rfl rfl ?_
    refine OA.p (some 48) (W (near (l.getD i dEnt)).inn) rfl rfl rfl (r_load1 rfl rfl rfl rfl rfl (gt3 (by omega) get_here) rfl rfl) ?_
    refine OA.p (some 12) (W (near (l.getD i dEnt)).inn) rfl rfl rfl rfl ?_
    refine OA.nil ?_
    intro _
    refine RA.seq hd ?_
    refine RA.seq hd ?_
    refine RA.region env_ok ?_
    refine OA.p (some 49) (.bool true) rfl rfl rfl rfl ?_
    refine OA.nil ?_
    intro _
    refine RA.condT rfl ?_
    refine RA.region env_ok ?_
    refine OA.p (some 50) (Pt n19 0 5) rfl rfl rfl rfl ?_
    refine OA.p (some 51) (W (near (l.getD i dEnt)).out) rfl rfl rfl (r_load1 rfl rfl rfl rfl rfl (gt3 (by omega) get_here) rfl rfl) ?_
    refine OA.p (some 12) (W (near (l.getD i dEnt)).out) rfl rfl rfl rfl ?_
    refine OA.nil ?_
    intro _
    refine RA.rebase [(0, v), (2, (.bool true)), (7, (.slice (some ⟨(n19 + 2), 0, none⟩) (i + 1) 0)), (8, (.bool true)), (9, (Pt n1 0 0)), (10, (.int .i64 ((i : Nat) : Int))), (11, (Pt n19 0 0)), (12, (W (near (l.getD i dEnt)).out)), (35, (.bool true)), (49, (.bool true))] ⟨rfl, rfl, rfl, rfl, rfl, rfl, rfl, rfl, rfl, rfl, trivial⟩ (fun τr20 => ?_)
    refine RA.region env_ok ?_
    refine OA.p (some 52) (.bool true) rfl rfl rfl rfl ?_
    refine OA.p (some 53) (.bool true) rfl rfl rfl rfl ?_
    refine OA.off (dst := (some 54)) rfl rfl rfl ?_
    refine OA.off (dst := (some 55)) rfl rfl rfl ?_
    refine OA.off (dst := (some 56)) rfl rfl rfl ?_
    refine OA.off (dst := (some 57)) rfl rfl rfl ?_
    refine OA.off (dst := (some 58)) rfl rfl rfl ?_
    refine OA.off (dst := (some 59)) rfl rfl rfl ?_
    refine OA.off (dst := (some 60)) rfl rfl rfl ?_
    refine OA.off (dst := (some 61)) rfl rfl rfl ?_
    refine OA.off (dst := (some 62)) rfl rfl rfl ?_
    refine OA.off (dst := (some 63)) rfl rfl rfl ?_
    refine OA.off (dst := (some 64)) rfl rfl rfl ?_
    refine OA.off (dst := (some 65)) rfl rfl rfl ?_
    refine OA.off (dst := (some 66)) rfl rfl rfl ?_
    refine OA.off (dst := (some 67)) rfl rfl rfl ?_
    refine OA.off (dst := (some 68)) rfl rfl rfl ?_
    refine OA.off (dst := (some 69)) rfl rfl rfl ?_
    refine OA.off (dst := (some 70)) rfl rfl rfl ?_
    refine OA.off (dst := (some 71)) rfl rfl rfl ?_
    refine OA.off (dst := (some 72)) rfl rfl rfl ?_
    refine OA.off (dst := (some 73)) rfl rfl rfl ?_
    refine OA.off (dst := (some 74)) rfl rfl rfl ?_
    refine OA.off (dst := (some 75)) rfl rfl rfl ?_
    refine OA.off (dst := (some 76)) rfl rfl rfl ?_
    refine OA.off (dst := (some 77)) rfl rfl rfl ?_
    refine OA.off (dst := (some 78)) rfl rfl rfl ?_
    refine OA.off (dst := (some 79)) rfl rfl rfl ?_
    refine OA.off (dst := (some 80)) rfl rfl rfl ?_
    refine OA.off (dst := (some 81)) rfl rfl rfl ?_
    refine OA.off (dst := (some 82)) rfl rfl rfl ?_
    refine OA.off (dst := (some 83)) rfl rfl rfl ?_
    refine OA.off (dst := (some 84)) rfl rfl rfl ?_
    refine OA.off (dst := (some 85)) rfl rfl rfl ?_
    refine OA.off (dst := (some 86)) rfl rfl rfl ?_
    refine OA.p (some 87) (.bool true) rfl rfl rfl rfl ?_
    refine OA.p (some 8) (.bool true) rfl rfl rfl rfl ?_
    refine OA.nil ?_
    intro _
    refine RA.rebase [(0, v), (2, (.bool true)), (7, (.slice (some ⟨(n19 + 2), 0, none⟩) (i + 1) 0)), (8, (.bool true)), (9, (Pt n1 0 0)), (10, (.int .i64 ((i : Nat) : Int))), (11, (Pt n19 0 0)), (12, (W (near (l.getD i dEnt)).out)), (35, (.bool true)), (49, (.bool true))] ⟨rfl, rfl, rfl, rfl, rfl, rfl, rfl, rfl, rfl, rfl, trivial⟩ (fun τr21 => ?_)
    refine RA.region env_ok ?_
    refine OA.p (some 36) (.int .i64 ((i : Nat) : Int)) rfl rfl rfl rfl ?_
    refine OA.p (some 37) (.int .i64 (((i + 1) : Nat) : Int)) rfl rfl rfl (r_bin rfl rfl rfl (b_add (i64_eq (by omega)))) ?_
    refine OA.p (some 10) (.int .i64 (((i + 1) : Nat) : Int)) rfl rfl rfl rfl ?_
    refine OA.nil ?_
    refine ⟨(12 - (i + 1)), by omega, [(n1, some ⟨[(xAo34 f t g a K)], 4, 33, true⟩), ((n19 + 2), some (oEnt ((l.take (i + 1)).map near)))], (Less.of (fac (mm (fun _ => get_here) (fun _ => (gt4 (by omega) get_here))) (fac (mm (fun _ => (get_there (by omega) get_here)) (fun _ => get_here)) fan)) (gone_of (by simp only [goneP, memP, List.cons_append, List.nil_append, true_or, or_true, true_and, and_true, or_false] <;> omega))), .inr (⟨(i + 1), (n19 + 2), rfl, by omega, ⟨rfl, rfl, rfl, rfl, rfl, rfl, trivial⟩, rfl, (kb2 (by omega)), ⟨by omega, by omega, by omega, by omega, anyT (by omega) hany⟩⟩)⟩
   ·
    refine OA.p (some 34) (.bool false) rfl rfl rfl (Eq.trans (r_bin rfl rfl rfl (b_lss rfl)) (dF hc10)) ?_
    refine OA.p (some 35) (.bool false) rfl rfl rfl rfl ?_
    refine OA.nil ?_
    intro _
    refine RA.condF rfl ?_
    refine RA.exit env_ok ?_
    intro _
    refine RA.seq hd ?_
    refine RA.region env_ok ?_
    refine OA.callP (dst := (some 88)) (all := []) (v := (.bool true)) (hd.of (by omega) (kb2 (by omega))) rfl rfl rfl rfl rfl rfl rfl rfl awakeT ?_
    intro n22 hn22
    refine OA.p (some 89) (.bool true) rfl rfl rfl rfl ?_
    refine OA.p (some 90) (.slice (some ⟨j, 0, none⟩) i 0) rfl rfl rfl rfl ?_
    refine OA.p (some 91) (.agg ⟨(xAo34 f t g a K)⟩) rfl rfl rfl (r_loadA rfl rfl rfl rfl get_here rfl rfl rfl) ?_
    refine OA.p (some 92) (.bool true) rfl rfl rfl rfl ?_
    refine OA.callP (dst := (some 93)) (all := (xAo33 j i f t g a K)) (v := (.bool true)) (hd.of (by omega) (kb2 (by omega))) rfl rfl rfl rfl rfl rfl rfl rfl (PS.to (oOwnertrue j i ((l.take i).map near) (takeLen (by omega)) (by omega) ((andN f 1 : Nat) : Int) ((andN t 1 : Nat) : Int) (g &&& 3#32) a K (get_there (by omega) get_here)) (congrArg Value.bool hany)) ?_
    intro n23 hn23
    refine OA.p (some 94) (.bool true) rfl rfl rfl rfl ?_
    refine OA.p (some 95) (.bool true) rfl rfl rfl rfl ?_
    refine OA.p (some 96) (.bool true) rfl rfl rfl rfl ?_
    refine OA.p (some 6) (.bool true) rfl rfl rfl rfl ?_
    refine OA.nil ?_
    intro _
    refine RA.ret env_ok ?_
    refine ⟨.inr rfl, [(.bool true)], (resL_cons rfl resL_nil), [], (Less.of (fun p hp => by simp at hp) (gone_of (by simp only [goneP, memP, List.cons_append, List.nil_append, true_or, or_true, true_and, and_true, or_false] <;> omega))), rfl⟩
  ·
   refine OA.p (some 31) (.bool false) rfl rfl rfl (Eq.trans (r_bin rfl rfl rfl (b_lss rfl)) (dF hc9)) ?_
   refine OA.p (some 32) (.bool false) rfl rfl rfl rfl ?_
   refine OA.off (dst := (some 33)) rfl rfl rfl ?_
   refine OA.off (dst := (some 34)) rfl rfl rfl ?_
   refine OA.p (some 35) (.bool false) rfl rfl rfl rfl ?_
   refine OA.nil ?_
   intro _
   refine RA.condF rfl ?_
   refine RA.exit env_ok ?_
   intro _
   refine RA.seq hd ?_
   refine RA.region env_ok ?_
   refine OA.callP (dst := (some 88)) (all := []) (v := (.bool true)) (hd.of (by omega) (kb2 (by omega))) rfl rfl rfl rfl rfl rfl rfl rfl awakeT ?_
   intro n24 hn24
   refine OA.p (some 89) (.bool true) rfl rfl rfl rfl ?_
   refine OA.p (some 90) (.slice (some ⟨j, 0, none⟩) i 0) rfl rfl rfl rfl ?_
   refine OA.p (some 91) (.agg ⟨(xAo34 f t g a K)⟩) rfl rfl rfl (r_loadA rfl rfl rfl rfl get_here rfl rfl rfl) ?_
   refine OA.p (some 92) (.bool true) rfl rfl rfl rfl ?_
   refine OA.callP (dst := (some 93)) (all := (xAo33 j i f t g a K)) (v := (.bool true)) (hd.of (by omega) (kb2 (by omega))) rfl rfl rfl rfl rfl rfl rfl rfl (PS.to (oOwnertrue j i ((l.take i).map near) (takeLen (by omega)) (by omega) ((andN f 1 : Nat) : Int) ((andN t 1 : Nat) : Int) (g &&& 3#32) a K (get_there (by omega) get_here)) (congrArg Value.bool hany)) ?_
   intro n25 hn25
   refine OA.p (some 94) (.bool true) rfl rfl rfl rfl ?_
   refine OA.p (some 95) (.bool true) rfl rfl rfl rfl ?_
   refine OA.p (some 96) (.bool true) rfl rfl rfl rfl ?_
   refine OA.p (some 6) (.bool true) rfl rfl rfl rfl ?_
   refine OA.nil ?_
   intro _
   refine RA.ret env_ok ?_
   refine ⟨.inr rfl, [(.bool true)], (resL_cons rfl resL_nil), [], (Less.of (fun p hp => by simp at hp) (gone_of (by simp only [goneP, memP, List.cons_append, List.nil_append, true_or, or_true, true_and, and_true, or_false] <;> omega))), rfl⟩

theorem oLawfalse {n : Nat} {σ : Store} (hd : Dom n σ) (hn0 : 0 < n) (v : Value) (l : List Ent) (hv : RowP σ 26 7 v (l.map cEnt)) (f t : Int) (g : BitVec 32) (u : Value) (cl : List Chk) (hu : RowP σ 50 15 u (cl.map cChk)) (hcl : ∀ c ∈ cl, okChk σ c)   : CQ Try.prog noDen 4 [v, (.agg ⟨[(.int .i64 f), (.int .i64 t), (W g), u]⟩), (.bool false)] n σ (fun v n' d => v = .bool true) := by
 have rlv := hv.lt hd hn0
 have rlu := hu.lt hd hn0
 refine CQ.body (E := env) env_ok hd rfl rfl (by show _ ≤ _; exact of_decide_eq_true (by kernel_rfl)) ?_
 refine RA.seq hd ?_
 refine RA.region env_ok ?_
 refine OA.op1 (dst := (some 4)) (v := (Pt n 0 0)) (n1 := (n + 1)) (w := (n, some ⟨[[(.int .i64 f), (.int .i64 t), (W g), u]], 4, 33, true⟩)) rfl rfl rfl (r_box (cs := [(.int .i64 f), (.int .i64 t), (W g), u]) rfl rfl rfl (Nat.le_of_ble_eq_true rfl) (by simp only [List.all_cons, List.all_nil, Bool.and_true, Bool.and_eq_true]; exact ⟨rfl, rfl, rfl, (hu).one⟩)) (by omega) ?_
 refine OA.p (some 6) (.bool false) rfl rfl rfl rfl ?_
 refine OA.nil ?_
 intro _
 refine RA.seq hd ?_
 refine RA.region env_ok ?_
 refine OA.op1 (dst := (some 13)) (v := (.slice (some ⟨(n + 1), 0, none⟩) 0 0)) (n1 := (n + 2)) (w := ((n + 1), some (oEnt ([] : List Ent)))) rfl rfl rfl (by kernel_rfl) (by omega) ?_
 refine OA.p (some 7) (.slice (some ⟨(n + 1), 0, none⟩) 0 0) rfl rfl rfl rfl ?_
 refine OA.p (some 8) (.bool false) rfl rfl rfl rfl ?_
 refine OA.nil ?_
 intro _
 refine RA.seq hd ?_
 refine RA.region env_ok ?_
 refine OA.p (some 14) (.agg ⟨[(.int .i64 f), (.int .i64 t), (W g), u]⟩) rfl rfl rfl (r_loadA rfl rfl rfl rfl (get_there (by omega) get_here) rfl rfl rfl) ?_
 refine OA.call (dst := (some 15)) (all := [(.agg ⟨[(.int .i64 f), (.int .i64 t), (W g), u]⟩)]) rfl rfl rfl rfl rfl rfl rfl rfl (CQ.imp (oCut (hd.of (by omega) (kb2 (by omega))) (by omega) f t g u cl (hu.mono (sub_app (n' := (n + 2)) hd (kc2 (by omega)))) (fun c hc => (hcl c hc).mono (sub_app (n' := (n + 2)) hd (kc2 (by omega))))) ?_)
 rintro _ n1 _ ⟨a, K, rfl, rfl⟩ hn1
 refine OA.app0 ?_
 refine OA.op1 (dst := (some 9)) (v := (Pt n1 0 0)) (n1 := (n1 + 1)) (w := (n1, some ⟨[[(.int .i64 0), (.int .i64 0), (.int .u32 0), (.slice none 0 0)]], 4, 33, true⟩)) rfl rfl rfl rfl (by omega) ?_
 refine OA.op1 (dst := none) (v := (.tuple #[])) (n1 := (n1 + 1)) (w := (n1, some ⟨[[(.int .i64 f), (.int .i64 t), (W g), (.slice a K 0)]], 4, 33, true⟩)) rfl rfl rfl (r_store rfl rfl rfl rfl rfl rfl rfl get_here rfl rfl (Nat.le_of_ble_eq_true rfl) rfl) (by omega) ?_
 refine OA.nil ?_
 intro _
 refine RA.seq hd ?_
 refine RA.par (md := [some [], some [n], some [], some [], some [n], some [], some [], some [n], some [], some [], none, some [], none, some [], none]) env_ok (hd.of (by omega) (kb4 (by omega))) (by kernel_rfl) ?_
 refine PQ.pure (dst := (some 16)) (v := (Pt n 0 0)) rfl rfl rfl noStore (none_ok _ _) rfl ?_
 refine PQ.pure (dst := (some 17)) (v := (.int .i64 f)) rfl rfl rfl (app [(n, some ⟨[[(.int .i64 f), (.int .i64 t), (W g), u]], 4, 33, true⟩)] noStore) (seen_one (V := []) (D := [(n1, some ⟨[[(.int .i64 f), (.int .i64 t), (W g), (.slice a K 0)]], 4, 33, true⟩), (n1, some ⟨[[(.int .i64 0), (.int .i64 0), (.int .u32 0), (.slice none 0 0)]], 4, 33, true⟩), ((n + 1), some (oEnt ([] : List Ent))), (n, some ⟨[[(.int .i64 f), (.int .i64 t), (W g), u]], 4, 33, true⟩)]) (by kernel_rfl) (gt3 (by omega) get_here)) (r_load1 rfl rfl rfl rfl rfl get_here rfl rfl) ?_
 have hm2 := andN_le f 1 (by decide)
 refine PQ.pure (dst := (some 18)) (v := (.int .i64 (((andN f 1) : Nat) : Int))) rfl rfl rfl noStore (none_ok _ _) (r_bin rfl rfl rfl (b_andN f 1 (by decide))) ?_
 refine PQ.pure (dst := (some 19)) (v := (Pt n 0 1)) rfl rfl rfl noStore (none_ok _ _) rfl ?_
 refine PQ.pure (dst := (some 20)) (v := (.int .i64 t)) rfl rfl rfl (app [(n, some ⟨[[(.int .i64 f), (.int .i64 t), (W g), u]], 4, 33, true⟩)] noStore) (seen_one (V := []) (D := [(n1, some ⟨[[(.int .i64 f), (.int .i64 t), (W g), (.slice a K 0)]], 4, 33, true⟩), (n1, some ⟨[[(.int .i64 0), (.int .i64 0), (.int .u32 0), (.slice none 0 0)]], 4, 33, true⟩), ((n + 1), some (oEnt ([] : List Ent))), (n, some ⟨[[(.int .i64 f), (.int .i64 t), (W g), u]], 4, 33, true⟩)]) (by kernel_rfl) (gt3 (by omega) get_here)) (r_load1 rfl rfl rfl rfl rfl get_here rfl rfl) ?_
 have hm3 := andN_le t 1 (by decide)
 refine PQ.pure (dst := (some 21)) (v := (.int .i64 (((andN t 1) : Nat) : Int))) rfl rfl rfl noStore (none_ok _ _) (r_bin rfl rfl rfl (b_andN t 1 (by decide))) ?_
 refine PQ.pure (dst := (some 22)) (v := (Pt n 0 2)) rfl rfl rfl noStore (none_ok _ _) rfl ?_
 refine PQ.pure (dst := (some 23)) (v := (W g)) rfl rfl rfl (app [(n, some ⟨[[(.int .i64 f), (.int .i64 t), (W g), u]], 4, 33, true⟩)] noStore) (seen_one (V := []) (D := [(n1, some ⟨[[(.int .i64 f), (.int .i64 t), (W g), (.slice a K 0)]], 4, 33, true⟩), (n1, some ⟨[[(.int .i64 0), (.int .i64 0), (.int .u32 0), (.slice none 0 0)]], 4, 33, true⟩), ((n + 1), some (oEnt ([] : List Ent))), (n, some ⟨[[(.int .i64 f), (.int .i64 t), (W g), u]], 4, 33, true⟩)]) (by kernel_rfl) (gt3 (by omega) get_here)) (r_load1 rfl rfl rfl rfl rfl get_here rfl rfl) ?_
 refine PQ.pure (dst := (some 24)) (v := (W (g &&& (3#32)))) rfl rfl rfl noStore (none_ok _ _) (r_bin rfl rfl rfl (b_andW g (3#32))) ?_
 refine PQ.pure (dst := (some 25)) (v := (Pt n1 0 0)) rfl rfl rfl noStore (none_ok _ _) rfl ?_
 refine PQ.op (dst := none) (v := (.tuple #[])) (n1 := (n1 + 1)) (d1 := [(n1, some ⟨[[(.int .i64 (((andN f 1) : Nat) : Int)), (.int .i64 t), (W g), (.slice a K 0)]], 4, 33, true⟩)]) rfl rfl rfl _ (seen_any (V := []) (D := [(n1, some ⟨[[(.int .i64 f), (.int .i64 t), (W g), (.slice a K 0)]], 4, 33, true⟩), (n1, some ⟨[[(.int .i64 0), (.int .i64 0), (.int .u32 0), (.slice none 0 0)]], 4, 33, true⟩), ((n + 1), some (oEnt ([] : List Ent))), (n, some ⟨[[(.int .i64 f), (.int .i64 t), (W g), u]], 4, 33, true⟩)]) (by kernel_rfl)) (r_store rfl rfl rfl rfl rfl rfl rfl get_here rfl rfl (Nat.le_of_ble_eq_true rfl) rfl) (by omega) (kp1 (wr_old [3, 4, 5, 6, 7, 8] (by kernel_rfl) (by omega) (by omega) (fac (lo0 rfl) (fac (lo1 rfl (by omega)) (fac (lo0 rfl) (fac (lo0 rfl) (fac (lo1 rfl (by omega)) (fac (lo0 rfl) fan)))))))) ?_
 refine PQ.pure (dst := (some 26)) (v := (Pt n1 0 1)) rfl rfl rfl noStore (none_ok _ _) rfl ?_
 refine PQ.op (dst := none) (v := (.tuple #[])) (n1 := (n1 + 1)) (d1 := [(n1, some ⟨[(xAo36 f t g a K)], 4, 33, true⟩)]) rfl rfl rfl _ (seen_any (V := [(n1, some ⟨[[(.int .i64 (((andN f 1) : Nat) : Int)), (.int .i64 t), (W g), (.slice a K 0)]], 4, 33, true⟩)]) (D := [(n1, some ⟨[[(.int .i64 f), (.int .i64 t), (W g), (.slice a K 0)]], 4, 33, true⟩), (n1, some ⟨[[(.int .i64 0), (.int .i64 0), (.int .u32 0), (.slice none 0 0)]], 4, 33, true⟩), ((n + 1), some (oEnt ([] : List Ent))), (n, some ⟨[[(.int .i64 f), (.int .i64 t), (W g), u]], 4, 33, true⟩)]) (by kernel_rfl)) (r_store rfl rfl rfl rfl rfl rfl rfl get_here rfl rfl (Nat.le_of_ble_eq_true rfl) rfl) (by omega) (kp1 (wr_late [6, 7, 8] (by kernel_rfl) (by kernel_rfl) (by omega) 10 (by kernel_rfl) (by simp [keys]) (fac (lo0 rfl) (fac (lo1 rfl (by omega)) (fac (lo0 rfl) fan))))) ?_
 refine PQ.pure (dst := (some 27)) (v := (Pt n1 0 2)) rfl rfl rfl noStore (none_ok _ _) rfl ?_
 refine PQ.op (dst := none) (v := (.tuple #[])) (n1 := (n1 + 1)) (d1 := [(n1, some ⟨[(xAo34 f t g a K)], 4, 33, true⟩)]) rfl rfl rfl _ (seen_any (V := [(n1, some ⟨[(xAo36 f t g a K)], 4, 33, true⟩), (n1, some ⟨[[(.int .i64 (((andN f 1) : Nat) : Int)), (.int .i64 t), (W g), (.slice a K 0)]], 4, 33, true⟩)]) (D := [(n1, some ⟨[[(.int .i64 f), (.int .i64 t), (W g), (.slice a K 0)]], 4, 33, true⟩), (n1, some ⟨[[(.int .i64 0), (.int .i64 0), (.int .u32 0), (.slice none 0 0)]], 4, 33, true⟩), ((n + 1), some (oEnt ([] : List Ent))), (n, some ⟨[[(.int .i64 f), (.int .i64 t), (W g), u]], 4, 33, true⟩)]) (by kernel_rfl)) (r_store rfl rfl rfl rfl rfl rfl rfl get_here rfl rfl (Nat.le_of_ble_eq_true rfl) rfl) (by omega) (kp1 (wr_tight (by kernel_rfl) (by omega))) ?_
 refine PQ.done (d := [(n1, some ⟨[(xAo34 f t g a K)], 4, 33, true⟩), (n1, some ⟨[(xAo36 f t g a K)], 4, 33, true⟩), (n1, some ⟨[[(.int .i64 (((andN f 1) : Nat) : Int)), (.int .i64 t), (W g), (.slice a K 0)]], 4, 33, true⟩)]) (by kernel_rfl) ?_
 intro _
 refine RA.weaken (D' := [(n1, some ⟨[(xAo34 f t g a K)], 4, 33, true⟩), ((n + 1), some (oEnt ([] : List Ent))), (n, some ⟨[[(.int .i64 f), (.int .i64 t), (W g), u]], 4, 33, true⟩)]) hd (Less.of (fac (mm (fun _ => get_here) (fun _ => get_here)) (fac (mm (fun _ => (get_there (by omega) get_here)) (fun _ => (gt5 (by omega) get_here))) (fac (mm (fun _ => (gt2 (by omega) get_here)) (fun _ => (gt6 (by omega) get_here))) fan))) (gone_of (by simp only [goneP, memP, List.cons_append, List.nil_append, true_or, or_true, true_and, and_true, or_false] <;> omega))) ?_
 refine RA.seq hd ?_
 refine RA.seq hd ?_
 refine RA.region env_ok ?_
 refine OA.p (some 10) (.int .i64 0) rfl rfl rfl rfl ?_
 refine OA.nil ?_
 intro _
 refine RA.rebase [(0, v), (1, (.agg ⟨[(.int .i64 f), (.int .i64 t), (W g), u]⟩)), (2, (.bool false)), (4, (Pt n 0 0)), (6, (.bool false)), (7, (.slice (some ⟨(n + 1), 0, none⟩) 0 0)), (8, (.bool false)), (9, (Pt n1 0 0)), (10, (.int .i64 0))] ⟨rfl, rfl, rfl, rfl, rfl, rfl, rfl, rfl, rfl, trivial⟩ (fun τr4 => ?_)
 refine RA.block ?_
 refine RA.weaken (D' := [(n1, some ⟨[(xAo34 f t g a K)], 4, 33, true⟩), ((n + 1), some (oEnt ([] : List Ent)))]) hd (Less.of (fac (mm (fun _ => get_here) (fun _ => get_here)) (fac (mm (fun _ => (get_there (by omega) get_here)) (fun _ => (get_there (by omega) get_here))) fan)) (gone_of (by simp only [goneP, memP, List.cons_append, List.nil_append, true_or, or_true, true_and, and_true, or_false] <;> omega))) ?_
 refine RA.loop hd (fun kk_ τ n' D => (∃ i : Nat, ∃ j : Nat, kk_ = (12 - i) ∧ (n1 + 1) ≤ n' ∧ Has τ [(0, v), (2, (.bool false)), (7, (.slice (some ⟨j, 0, none⟩) i 0)), (8, (.bool false)), (9, (Pt n1 0 0)), (10, (.int .i64 ((i : Nat) : Int)))] ∧ D = [(n1, some ⟨[(xAo34 f t g a K)], 4, 33, true⟩), (j, some (oEnt ((l.take i).map near)))] ∧ (∀ i ∈ keys D, i < n') ∧ i ≤ l.length ∧ i ≤ 12 ∧ n ≤ j ∧ j ≠ n1 ∧ ((l.take i).map near).any (hit ((andN f 1 : Nat) : Int) ((andN t 1 : Nat) : Int) (g &&& 3#32) false) = false) ∨ (∃ i : Nat, ∃ j : Nat, kk_ = (12 - i) ∧ (n1 + 1) ≤ n' ∧ Has τ [(0, v), (2, (.bool false)), (7, (.slice (some ⟨j, 0, none⟩) i 0)), (8, (.bool true)), (9, (Pt n1 0 0)), (10, (.int .i64 ((i : Nat) : Int)))] ∧ D = [(n1, some ⟨[(xAo34 f t g a K)], 4, 33, true⟩), (j, some (oEnt ((l.take i).map near)))] ∧ (∀ i ∈ keys D, i < n') ∧ i ≤ l.length ∧ i ≤ 12 ∧ n ≤ j ∧ j ≠ n1 ∧ ((l.take i).map near).any (hit ((andN f 1 : Nat) : Int) ((andN t 1 : Nat) : Int) (g &&& 3#32) false) = true)) ((12 - 0)) (.inl (⟨0, (n + 1), rfl, by omega, ⟨rfl, rfl, rfl, rfl, rfl, rfl, trivial⟩, rfl, (kb2 (by omega)), ⟨by omega, by omega, by omega, by omega, rfl⟩⟩)) ?_
 rintro kn5 τ5 n5 Dn5 hSn5
 rcases hSn5 with ⟨i, j, rfl, hn5, hHn5, rfl, hKn5, hIn5⟩ | ⟨i, j, rfl, hn5, hHn5, rfl, hKn5, hIn5⟩
 ·
  rw [Has.eq hHn5]
  have hKn5_0 : n1 < n5 := hKn5 _ (by simp only [keys, List.map_cons, List.map_nil, List.mem_cons, true_or, or_true])
  have hKn5_1 : j < n5 := hKn5 _ (by simp only [keys, List.map_cons, List.map_nil, List.mem_cons, true_or, or_true])
  clear hKn5
  obtain ⟨hi1, hi2, hj1, hj2, hany⟩ := hIn5
  refine RA.seq hd ?_
  refine RA.seq hd ?_
  refine RA.region env_ok ?_
  refine OA.p (some 28) (.int .i64 ((i : Nat) : Int)) rfl rfl rfl rfl ?_
  refine OA.p (some 29) v rfl rfl rfl rfl ?_
  refine OA.p (some 30) (.int .i64 ((l.length : Nat) : Int)) rfl rfl rfl (r_lenP (c := cEnt) rfl rfl rfl rfl rfl rfl hv rfl) ?_
  by_cases hc1 : ((i : Nat) : Int) < ((l.length : Nat) : Int)
  ·
   obtain ⟨rest, hat⟩ := hv.get (m := i) (by omega)
   have lathat := hd.lt hat
   refine OA.p (some 31) (.bool true) rfl rfl rfl (Eq.trans (r_bin rfl rfl rfl (b_lss rfl)) (dT hc1)) ?_
   refine OA.p (some 32) (.bool true) rfl rfl rfl rfl ?_
   refine OA.p (some 33) (.int .i64 ((i : Nat) : Int)) rfl rfl rfl rfl ?_
   by_cases hc2 : ((i : Nat) : Int) < 12
   ·
    refine OA.p (some 34) (.bool true) rfl rfl rfl (Eq.trans (r_bin rfl rfl rfl (b_lss rfl)) (dT hc2)) ?_
    refine OA.p (some 35) (.bool true) rfl rfl rfl rfl ?_
    refine OA.nil ?_
    intro _
    refine RA.condT rfl ?_
    refine RA.skip env_ok ?_
    intro _
    refine RA.seq hd ?_
    refine RA.block ?_
    refine RA.seq hd ?_
    refine RA.region env_ok ?_
    refine OA.p (some 38) v rfl rfl rfl rfl ?_
    refine OA.p (some 39) (.int .i64 ((i : Nat) : Int)) rfl rfl rfl rfl ?_
    refine OA.p (some 40) (.pointer (some ⟨(rk v), i, some 0⟩)) rfl rfl rfl (r_iaP (c := cEnt) (m := i) rfl rfl rfl rfl rfl rfl hv rfl (by omega) (gt2 (by omega) hat) rfl) ?_
    refine OA.p (some 41) (.agg ⟨(cEnt (l.getD i dEnt))⟩) rfl rfl rfl (r_loadA (e := cEnt (l.getD i dEnt)) rfl rfl rfl rfl (gt2 (by omega) hat) (mp_getA (by omega)) rfl rfl) ?_
    refine OA.callP (dst := (some 42)) (all := [(.agg ⟨(cEnt (l.getD i dEnt))⟩)]) (v := (.agg ⟨(cEnt (near (l.getD i dEnt)))⟩)) (hd.of (by omega) (kb2 (by omega))) rfl rfl rfl rfl rfl rfl rfl rfl (oNear (l.getD i dEnt)) ?_
    intro n6 hn6
    refine OA.op1 (dst := (some 11)) (v := (Pt n6 0 0)) (n1 := (n6 + 1)) (w := (n6, some ⟨[xAo35], 7, 26, true⟩)) rfl rfl rfl rfl (by omega) ?_
    refine OA.op1 (dst := none) (v := (.tuple #[])) (n1 := (n6 + 1)) (w := (n6, some ⟨[(cEnt (near (l.getD i dEnt)))], 7, 26, true⟩)) rfl rfl rfl (r_store rfl rfl rfl rfl rfl rfl rfl get_here rfl rfl (Nat.le_of_ble_eq_true rfl) rfl) (by omega) ?_
    refine OA.nil ?_
    intro _
    refine RA.seq hd ?_
    refine RA.region env_ok ?_
    refine OA.p (some 43) (.slice (some ⟨j, 0, none⟩) i 0) rfl rfl rfl rfl ?_
    refine OA.p (some 44) (.agg ⟨(xAo31 l i)⟩) rfl rfl rfl (r_loadA rfl rfl rfl rfl get_here rfl rfl rfl) ?_
    refine OA.op1 (dst := (some 45)) (v := (.slice (some ⟨(n6 + 1), 0, none⟩) 1 0)) (n1 := (n6 + 2)) (w := ((n6 + 1), some ⟨[(xAo31 l i)], 7, 26, true⟩)) rfl rfl rfl (by kernel_rfl) (by omega) ?_
    refine OA.op (dst := (some 46)) (v := (.slice (some ⟨(n6 + 2), 0, none⟩) (i + 1) 0)) (n1 := (n6 + 3)) (d1 := [((n6 + 2), some (oEnt ((l.take (i + 1)).map near))), (j, none)]) (D' := [((n6 + 2), some (oEnt ((l.take (i + 1)).map near))), (j, none), ((n6 + 1), some ⟨[(xAo31 l i)], 7, 26, true⟩), (n6, some ⟨[(cEnt (near (l.getD i dEnt)))], 7, 26, true⟩), (n6, some ⟨[xAo35], 7, 26, true⟩), (n1, some ⟨[(xAo34 f t g a K)], 4, 33, true⟩), (j, some (oEnt ((l.take i).map near)))]) rfl rfl rfl (r_appendR (c := cEnt) (l' := ((l.take (i + 1)).map near)) rfl rfl rfl rfl rfl rfl rfl rfl rfl rfl (by decide) (gt4 (by omega) get_here) get_here (by rw [takeLen (by omega)]) (near_snoc (by omega)) (by omega) (of_decide_eq_true (by kernel_rfl)) (by omega)) (by omega) rfl ?_
    refine OA.p (some 7) (.slice (some ⟨(n6 + 2), 0, none⟩) (i + 1) 0) rfl rfl rfl rfl ?_
    refine OA.nil ?_
    intro _
    refine RA.weaken (D' := [((n6 + 2), some (oEnt ((l.take (i + 1)).map near))), (j, none), ((n6 + 1), some ⟨[(xAo31 l i)], 7, 26, true⟩), (n6, some ⟨[(cEnt (near (l.getD i dEnt)))], 7, 26, true⟩), (n1, some ⟨[(xAo34 f t g a K)], 4, 33, true⟩)]) hd (Less.of (fac (mm (fun _ => get_here) (fun _ => get_here)) (fac (mm (fun _ => (get_there (by omega) get_here)) (fun _ => (get_there (by omega) get_here))) (fac (mm (fun _ => (gt2 (by omega) get_here)) (fun _ => (gt2 (by omega) get_here))) (fac (mm (fun _ => (gt3 (by omega) get_here)) (fun _ => (gt3 (by omega) get_here))) (fac (mm (fun _ => (gt4 (by omega) get_here)) (fun _ => (gt5 (by omega) get_here))) fan))))) (gone_of (by simp only [goneP, memP, List.cons_append, List.nil_append, true_or, or_true, true_and, and_true, or_false] <;> omega))) ?_
    refine RA.seq hd ?_
    refine RA.region env_ok ?_
    refine OA.p (some 47) (Pt n6 0 4) rfl rfl rfl rfl ?_
    refine OA.p (some 48) (W (near (l.getD i dEnt)).inn) rfl rfl rfl (r_load1 rfl rfl rfl rfl rfl (gt3 (by omega) get_here) rfl rfl) ?_
    refine OA.p (some 12) (W (near (l.getD i dEnt)).inn) rfl rfl rfl rfl ?_
    refine OA.nil ?_
    intro _
    refine RA.seq hd ?_
    refine RA.seq hd ?_
    refine RA.region env_ok ?_
    refine OA.p (some 49) (.bool false) rfl rfl rfl rfl ?_
    refine OA.nil ?_
    intro _
    refine RA.condF rfl ?_
    refine RA.skip env_ok ?_
    intro _
    refine RA.region env_ok ?_
    refine OA.p (some 52) (.bool false) rfl rfl rfl rfl ?_
    refine OA.p (some 53) (.bool false) rfl rfl rfl rfl ?_
    refine OA.p (some 54) (Pt n6 0 0) rfl rfl rfl rfl ?_
    refine OA.p (some 55) (W (near (l.getD i dEnt)).inner) rfl rfl rfl (r_load1 rfl rfl rfl rfl rfl (gt3 (by omega) get_here) rfl rfl) ?_
    by_cases hc3 : ((near (l.getD i dEnt)).inner.toNat : Int) = 1
    ·
     refine OA.p (some 56) (.bool true) rfl rfl rfl (Eq.trans (r_bin rfl rfl rfl (b_eql rfl)) (dT hc3)) ?_
     refine OA.p (some 57) (.bool true) rfl rfl rfl rfl ?_
     refine OA.p (some 58) (Pt n6 0 2) rfl rfl rfl rfl ?_
     refine OA.p (some 59) (W (near (l.getD i dEnt)).peer) rfl rfl rfl (r_load1 rfl rfl rfl rfl rfl (gt3 (by omega) get_here) rfl rfl) ?_
     by_cases hc4 : ((near (l.getD i dEnt)).peer.toNat : Int) = 9
     ·
      refine OA.p (some 60) (.bool true) rfl rfl rfl (Eq.trans (r_bin rfl rfl rfl (b_eql rfl)) (dT hc4)) ?_
      refine OA.p (some 61) (.bool true) rfl rfl rfl rfl ?_
      refine OA.p (some 62) (.bool true) rfl rfl rfl rfl ?_
      refine OA.p (some 63) (Pt n6 0 1) rfl rfl rfl rfl ?_
      refine OA.p (some 64) (.int .i64 (near (l.getD i dEnt)).port) rfl rfl rfl (r_load1 rfl rfl rfl rfl rfl (gt3 (by omega) get_here) rfl rfl) ?_
      refine OA.p (some 65) (Pt n1 0 1) rfl rfl rfl rfl ?_
      refine OA.p (some 66) (.int .i64 (((andN t 1) : Nat) : Int)) rfl rfl rfl (r_load1 rfl rfl rfl rfl rfl (gt4 (by omega) get_here) rfl rfl) ?_
      by_cases hc5 : (near (l.getD i dEnt)).port = (((andN t 1) : Nat) : Int)
      ·
       refine OA.p (some 67) (.bool true) rfl rfl rfl (Eq.trans (r_bin rfl rfl rfl (b_eql rfl)) (dT hc5)) ?_
       refine OA.p (some 68) (.bool true) rfl rfl rfl rfl ?_
       refine OA.p (some 69) (.bool true) rfl rfl rfl rfl ?_
       refine OA.p (some 70) (Pt n6 0 3) rfl rfl rfl rfl ?_
       refine OA.p (some 71) (.int .i64 (near (l.getD i dEnt)).pport) rfl rfl rfl (r_load1 rfl rfl rfl rfl rfl (gt3 (by omega) get_here) rfl rfl) ?_
       refine OA.p (some 72) (Pt n1 0 0) rfl rfl rfl rfl ?_
       refine OA.p (some 73) (.int .i64 (((andN f 1) : Nat) : Int)) rfl rfl rfl (r_load1 rfl rfl rfl rfl rfl (gt4 (by omega) get_here) rfl rfl) ?_
       by_cases hc6 : (near (l.getD i dEnt)).pport = (((andN f 1) : Nat) : Int)
       ·
        refine OA.p (some 74) (.bool true) rfl rfl rfl (Eq.trans (r_bin rfl rfl rfl (b_eql rfl)) (dT hc6)) ?_
        refine OA.p (some 75) (.bool true) rfl rfl rfl rfl ?_
        refine OA.p (some 76) (.bool true) rfl rfl rfl rfl ?_
        refine OA.p (some 77) (W (near (l.getD i dEnt)).inn) rfl rfl rfl rfl ?_
        refine OA.p (some 78) (Pt n1 0 2) rfl rfl rfl rfl ?_
        refine OA.p (some 79) (W (g &&& (3#32))) rfl rfl rfl (r_load1 rfl rfl rfl rfl rfl (gt4 (by omega) get_here) rfl rfl) ?_
        by_cases hc7 : ((near (l.getD i dEnt)).inn.toNat : Int) = ((g &&& (3#32)).toNat : Int)
        ·
         refine OA.p (some 80) (.bool true) rfl rfl rfl (Eq.trans (r_bin rfl rfl rfl (b_eql rfl)) (dT hc7)) ?_
         refine OA.p (some 81) (.bool true) rfl rfl rfl rfl ?_
         refine OA.p (some 82) (.bool true) rfl rfl rfl rfl ?_
         refine OA.p (some 83) (Pt n1 0 2) rfl rfl rfl rfl ?_
         refine OA.p (some 84) (W (g &&& (3#32))) rfl rfl rfl (r_load1 rfl rfl rfl rfl rfl (gt4 (by omega) get_here) rfl rfl) ?_
         by_cases hc8 : ((g &&& (3#32)).toNat : Int) ≠ 0
         ·
          refine OA.p (some 85) (.bool true) rfl rfl rfl (Eq.trans (r_bin rfl rfl rfl (b_neq rfl)) (dT hc8)) ?_
          refine OA.p (some 86) (.bool true) rfl rfl rfl rfl ?_
          refine OA.p (some 87) (.bool true) rfl rfl rfl rfl ?_
          refine OA.p (some 8) (.bool true) rfl rfl rfl rfl ?_
          refine OA.nil ?_
          intro _
          refine RA.rebase [(0, v), (2, (.bool false)), (7, (.slice (some ⟨(n6 + 2), 0, none⟩) (i + 1) 0)), (8, (.bool true)), (9, (Pt n1 0 0)), (10, (.int .i64 ((i : Nat) : Int))), (11, (Pt n6 0 0)), (12, (W (near (l.getD i dEnt)).inn)), (35, (.bool true)), (49, (.bool false))] ⟨rfl, rfl, rfl, rfl, rfl, rfl, rfl, rfl, rfl, rfl, trivial⟩ (fun τr7 => ?_)
          refine RA.region env_ok ?_
          refine OA.p (some 36) (.int .i64 ((i : Nat) : Int)) rfl rfl rfl rfl ?_
          refine OA.p (some 37) (.int .i64 (((i + 1) : Nat) : Int)) rfl rfl rfl (r_bin rfl rfl rfl (b_add (i64_eq (by omega)))) ?_
          refine OA.p (some 10) (.int .i64 (((i + 1) : Nat) : Int)) rfl rfl rfl rfl ?_
          refine OA.nil ?_
          refine ⟨(12 - (i + 1)), by omega, [(n1, some ⟨[(xAo34 f t g a K)], 4, 33, true⟩), ((n6 + 2), some (oEnt ((l.take (i + 1)).map near)))], (Less.of (fac (mm (fun _ => get_here) (fun _ => (gt4 (by omega) get_here))) (fac (mm (fun _ => (get_there (by omega) get_here)) (fun _ => get_here)) fan)) (gone_of (by simp only [goneP, memP, List.cons_append, List.nil_append, true_or, or_true, true_and, and_true, or_false] <;> omega))), .inr (⟨(i + 1), (n6 + 2), rfl, by omega, ⟨rfl, rfl, rfl, rfl, rfl, rfl, trivial⟩, rfl, (kb2 (by omega)), ⟨by omega, by omega, by omega, by omega, anyH (by omega) (hitT (m := false) (x := (near (l.getD i dEnt))) (f := ((andN f 1 : Nat) : Int)) (t := ((andN t 1 : Nat) : Int)) (g := (g &&& 3#32)) ⟨hc3, hc4, hc6, hc5, hc7, hc8⟩)⟩⟩)⟩
         ·
          refine OA.p (some 85) (.bool false) rfl rfl rfl (Eq.trans (r_bin rfl rfl rfl (b_neq rfl)) (dF hc8)) ?_
          refine OA.p (some 86) (.bool false) rfl rfl rfl rfl ?_
          refine OA.p (some 87) (.bool false) rfl rfl rfl rfl ?_
          refine OA.p (some 8) (.bool false) rfl rfl rfl rfl ?_
          refine OA.nil ?_
          intro _
          refine RA.rebase [(0, v), (2, (.bool false)), (7, (.slice (some ⟨(n6 + 2), 0, none⟩) (i + 1) 0)), (8, (.bool false)), (9, (Pt n1 0 0)), (10, (.int .i64 ((i : Nat) : Int))), (11, (Pt n6 0 0)), (12, (W (near (l.getD i dEnt)).inn)), (35, (.bool true)), (49, (.bool false))] ⟨rfl, rfl, rfl, rfl, rfl, rfl, rfl, rfl, rfl, rfl, trivial⟩ (fun τr8 => ?_)
          refine RA.region env_ok ?_
          refine OA.p (some 36) (.int .i64 ((i : Nat) : Int)) rfl rfl rfl rfl ?_
          refine OA.p (some 37) (.int .i64 (((i + 1) : Nat) : Int)) rfl rfl rfl (r_bin rfl rfl rfl (b_add (i64_eq (by omega)))) ?_
          refine OA.p (some 10) (.int .i64 (((i + 1) : Nat) : Int)) rfl rfl rfl rfl ?_
          refine OA.nil ?_
          refine ⟨(12 - (i + 1)), by omega, [(n1, some ⟨[(xAo34 f t g a K)], 4, 33, true⟩), ((n6 + 2), some (oEnt ((l.take (i + 1)).map near)))], (Less.of (fac (mm (fun _ => get_here) (fun _ => (gt4 (by omega) get_here))) (fac (mm (fun _ => (get_there (by omega) get_here)) (fun _ => get_here)) fan)) (gone_of (by simp only [goneP, memP, List.cons_append, List.nil_append, true_or, or_true, true_and, and_true, or_false] <;> omega))), .inl (⟨(i + 1), (n6 + 2), rfl, by omega, ⟨rfl, rfl, rfl, rfl, rfl, rfl, trivial⟩, rfl, (kb2 (by omega)), ⟨by omega, by omega, by omega, by omega, anyN (by omega) hany (hitF (m := false) (x := (near (l.getD i dEnt))) (f := ((andN f 1 : Nat) : Int)) (t := ((andN t 1 : Nat) : Int)) (g := (g &&& 3#32)) (fun hh => hc8 hh.2.2.2.2.2))⟩⟩)⟩
        ·
         refine OA.p (some 80) (.bool false) rfl rfl rfl (Eq.trans (r_bin rfl rfl rfl (b_eql rfl)) (dF hc7)) ?_
         refine OA.p (some 81) (.bool false) rfl rfl rfl rfl ?_
         refine OA.p (some 82) (.bool false) rfl rfl rfl rfl ?_
         refine OA.off (dst := (some 83)) rfl rfl rfl ?_
         refine OA.off (dst := (some 84)) rfl rfl rfl ?_
         refine OA.off (dst := (some 85)) rfl rfl rfl ?_
         refine OA.p (some 86) (.bool false) rfl rfl rfl rfl ?_
         refine OA.p (some 87) (.bool false) rfl rfl rfl rfl ?_
         refine OA.p (some 8) (.bool false) rfl rfl rfl rfl ?_
         refine OA.nil ?_
         intro _
         refine RA.rebase [(0, v), (2, (.bool false)), (7, (.slice (some ⟨(n6 + 2), 0, none⟩) (i + 1) 0)), (8, (.bool false)), (9, (Pt n1 0 0)), (10, (.int .i64 ((i : Nat) : Int))), (11, (Pt n6 0 0)), (12, (W (near (l.getD i dEnt)).inn)), (35, (.bool true)), (49, (.bool false))] ⟨rfl, rfl, rfl, rfl, rfl, rfl, rfl, rfl, rfl, rfl, trivial⟩ (fun τr9 => ?_)
         refine RA.region env_ok ?_
         refine OA.p (some 36) (.int .i64 ((i : Nat) : Int)) rfl rfl rfl rfl ?_
         refine OA.p (some 37) (.int .i64 (((i + 1) : Nat) : Int)) rfl rfl rfl (r_bin rfl rfl rfl (b_add (i64_eq (by omega)))) ?_
         refine OA.p (some 10) (.int .i64 (((i + 1) : Nat) : Int)) rfl rfl rfl rfl ?_
         refine OA.nil ?_
         refine ⟨(12 - (i + 1)), by omega, [(n1, some ⟨[(xAo34 f t g a K)], 4, 33, true⟩), ((n6 + 2), some (oEnt ((l.take (i + 1)).map near)))], (Less.of (fac (mm (fun _ => get_here) (fun _ => (gt4 (by omega) get_here))) (fac (mm (fun _ => (get_there (by omega) get_here)) (fun _ => get_here)) fan)) (gone_of (by simp only [goneP, memP, List.cons_append, List.nil_append, true_or, or_true, true_and, and_true, or_false] <;> omega))), .inl (⟨(i + 1), (n6 + 2), rfl, by omega, ⟨rfl, rfl, rfl, rfl, rfl, rfl, trivial⟩, rfl, (kb2 (by omega)), ⟨by omega, by omega, by omega, by omega, anyN (by omega) hany (hitF (m := false) (x := (near (l.getD i dEnt))) (f := ((andN f 1 : Nat) : Int)) (t := ((andN t 1 : Nat) : Int)) (g := (g &&& 3#32)) (fun hh => hc7 hh.2.2.2.2.1))⟩⟩)⟩
       ·
        refine OA.p (some 74) (.bool false) rfl rfl rfl (Eq.trans (r_bin rfl rfl rfl (b_eql rfl)) (dF hc6)) ?_
        refine OA.p (some 75) (.bool false) rfl rfl rfl rfl ?_
        refine OA.p (some 76) (.bool false) rfl rfl rfl rfl ?_
        refine OA.off (dst := (some 77)) rfl rfl rfl ?_
        refine OA.off (dst := (some 78)) rfl rfl rfl ?_
        refine OA.off (dst := (some 79)) rfl rfl rfl ?_
        refine OA.off (dst := (some 80)) rfl rfl rfl ?_
        refine OA.p (some 81) (.bool false) rfl rfl rfl rfl ?_
        refine OA.p (some 82) (.bool false) rfl rfl rfl rfl ?_
        refine OA.off (dst := (some 83)) rfl rfl rfl ?_
        refine OA.off (dst := (some 84)) rfl rfl rfl ?_
        refine OA.off (dst := (some 85)) rfl rfl rfl ?_
        refine OA.p (some 86) (.bool false) rfl rfl rfl rfl ?_
        refine OA.p (some 87) (.bool false) rfl rfl rfl rfl ?_
        refine OA.p (some 8) (.bool false) rfl rfl rfl rfl ?_
        refine OA.nil ?_
        intro _
        refine RA.rebase [(0, v), (2, (.bool false)), (7, (.slice (some ⟨(n6 + 2), 0, none⟩) (i + 1) 0)), (8, (.bool false)), (9, (Pt n1 0 0)), (10, (.int .i64 ((i : Nat) : Int))), (11, (Pt n6 0 0)), (12, (W (near (l.getD i dEnt)).inn)), (35, (.bool true)), (49, (.bool false))] ⟨rfl, rfl, rfl, rfl, rfl, rfl, rfl, rfl, rfl, rfl, trivial⟩ (fun τr10 => ?_)
        refine RA.region env_ok ?_
        refine OA.p (some 36) (.int .i64 ((i : Nat) : Int)) rfl rfl rfl rfl ?_
        refine OA.p (some 37) (.int .i64 (((i + 1) : Nat) : Int)) rfl rfl rfl (r_bin rfl rfl rfl (b_add (i64_eq (by omega)))) ?_
        refine OA.p (some 10) (.int .i64 (((i + 1) : Nat) : Int)) rfl rfl rfl rfl ?_
        refine OA.nil ?_
        refine ⟨(12 - (i + 1)), by omega, [(n1, some ⟨[(xAo34 f t g a K)], 4, 33, true⟩), ((n6 + 2), some (oEnt ((l.take (i + 1)).map near)))], (Less.of (fac (mm (fun _ => get_here) (fun _ => (gt4 (by omega) get_here))) (fac (mm (fun _ => (get_there (by omega) get_here)) (fun _ => get_here)) fan)) (gone_of (by simp only [goneP, memP, List.cons_append, List.nil_append, true_or, or_true, true_and, and_true, or_false] <;> omega))), .inl (⟨(i + 1), (n6 + 2), rfl, by omega, ⟨rfl, rfl, rfl, rfl, rfl, rfl, trivial⟩, rfl, (kb2 (by omega)), ⟨by omega, by omega, by omega, by omega, anyN (by omega) hany (hitF (m := false) (x := (near (l.getD i dEnt))) (f := ((andN f 1 : Nat) : Int)) (t := ((andN t 1 : Nat) : Int)) (g := (g &&& 3#32)) (fun hh => hc6 hh.2.2.1))⟩⟩)⟩
      ·
       refine OA.p (some 67) (.bool false) rfl rfl rfl (Eq.trans (r_bin rfl rfl rfl (b_eql rfl)) (dF hc5)) ?_
       refine OA.p (some 68) (.bool false) rfl rfl rfl rfl ?_
       refine OA.p (some 69) (.bool false) rfl rfl rfl rfl ?_
       refine OA.off (dst := (some 70)) rfl rfl rfl ?_
       refine OA.off (dst := (some 71)) rfl rfl rfl ?_
       refine OA.off (dst := (some 72)) rfl rfl rfl ?_
       refine OA.off (dst := (some 73)) rfl rfl rfl ?_
       refine OA.off (dst := (some 74)) rfl rfl rfl ?_
       refine OA.p (some 75) (.bool false) rfl rfl rfl rfl ?_
       refine OA.p (some 76) (.bool false) rfl rfl rfl rfl ?_
       refine OA.off (dst := (some 77)) rfl rfl rfl ?_
       refine OA.off (dst := (some 78)) rfl rfl rfl ?_
       refine OA.off (dst := (some 79)) rfl rfl rfl ?_
       refine OA.off (dst := (some 80)) rfl rfl rfl ?_
       refine OA.p (some 81) (.bool false) rfl rfl rfl rfl ?_
       refine OA.p (some 82) (.bool false) rfl rfl rfl rfl ?_
       refine OA.off (dst := (some 83)) rfl rfl rfl ?_
       refine OA.off (dst := (some 84)) rfl rfl rfl ?_
       refine OA.off (dst := (some 85)) rfl rfl rfl ?_
       refine OA.p (some 86) (.bool false) rfl rfl rfl rfl ?_
       refine OA.p (some 87) (.bool false) rfl rfl rfl rfl ?_
       refine OA.p (some 8) (.bool false) rfl rfl rfl rfl ?_
       refine OA.nil ?_
       intro _
       refine RA.rebase [(0, v), (2, (.bool false)), (7, (.slice (some ⟨(n6 + 2), 0, none⟩) (i + 1) 0)), (8, (.bool false)), (9, (Pt n1 0 0)), (10, (.int .i64 ((i : Nat) : Int))), (11, (Pt n6 0 0)), (12, (W (near (l.getD i dEnt)).inn)), (35, (.bool true)), (49, (.bool false))] ⟨rfl, rfl, rfl, rfl, rfl, rfl, rfl, rfl, rfl, rfl, trivial⟩ (fun τr11 => ?_)
       refine RA.region env_ok ?_
       refine OA.p (some 36) (.int .i64 ((i : Nat) : Int)) rfl rfl rfl rfl ?_
       refine OA.p (some 37) (.int .i64 (((i + 1) : Nat) : Int)) rfl rfl rfl (r_bin rfl rfl rfl (b_add (i64_eq (by omega)))) ?_
       refine OA.p (some 10) (.int .i64 (((i + 1) : Nat) : Int)) rfl rfl rfl rfl ?_
       refine OA.nil ?_
       refine ⟨(12 - (i + 1)), by omega, [(n1, some ⟨[(xAo34 f t g a K)], 4, 33, true⟩), ((n6 + 2), some (oEnt ((l.take (i + 1)).map near)))], (Less.of (fac (mm (fun _ => get_here) (fun _ => (gt4 (by omega) get_here))) (fac (mm (fun _ => (get_there (by omega) get_here)) (fun _ => get_here)) fan)) (gone_of (by simp only [goneP, memP, List.cons_append, List.nil_append, true_or, or_true, true_and, and_true, or_false] <;> omega))), .inl (⟨(i + 1), (n6 + 2), rfl, by omega, ⟨rfl, rfl, rfl, rfl, rfl, rfl, trivial⟩, rfl, (kb2 (by omega)), ⟨by omega, by omega, by omega, by omega, anyN (by omega) hany (hitF (m := false) (x := (near (l.getD i dEnt))) (f := ((andN f 1 : Nat) : Int)) (t := ((andN t 1 : Nat) : Int)) (g := (g &&& 3#32)) (fun hh => hc5 hh.2.2.2.1))⟩⟩)⟩
     ·
      refine OA.p (some 60) (.bool false) rfl rfl rfl (Eq.trans (r_bin rfl rfl rfl (b_eql rfl)) (dF hc4)) ?_
      refine OA.p (some 61) (.bool false) rfl rfl rfl rfl ?_
      refine OA.p (some 62) (.bool false) rfl rfl rfl rfl ?_
      refine OA.off (dst := (some 63)) rfl rfl rfl ?_
      refine OA.off (dst := (some 64)) rfl rfl rfl ?_
      refine OA.off (dst := (some 65)) rfl rfl rfl ?_
      refine OA.off (dst := (some 66)) rfl rfl rfl ?_
      refine OA.off (dst := (some 67)) rfl rfl rfl ?_
      refine OA.p (some 68) (.bool false) rfl rfl rfl rfl ?_
      refine OA.p (some 69) (.bool false) rfl rfl rfl rfl ?_
      refine OA.off (dst := (some 70)) rfl rfl rfl ?_
      refine OA.off (dst := (some 71)) rfl rfl rfl ?_
      refine OA.off (dst := (some 72)) rfl rfl rfl ?_
      refine OA.off (dst := (some 73)) rfl rfl rfl ?_
      refine OA.off (dst := (some 74)) rfl rfl rfl ?_
      refine OA.p (some 75) (.bool false) rfl rfl rfl rfl ?_
      refine OA.p (some 76) (.bool false) rfl rfl rfl rfl ?_
      refine OA.off (dst := (some 77)) rfl rfl rfl ?_
      refine OA.off (dst := (some 78)) rfl rfl rfl ?_
      refine OA.off (dst := (some 79)) rfl rfl rfl ?_
      refine OA.off (dst := (some 80)) rfl rfl rfl ?_
      refine OA.p (some 81) (.bool false) rfl rfl rfl rfl ?_
      refine OA.p (some 82) (.bool false) rfl rfl rfl rfl ?_
      refine OA.off (dst := (some 83)) rfl rfl rfl ?_
      refine OA.off (dst := (some 84)) rfl rfl rfl ?_
      refine OA.off (dst := (some 85)) rfl rfl rfl ?_
      refine OA.p (some 86) (.bool false) rfl rfl rfl rfl ?_
      refine OA.p (some 87) (.bool false) rfl rfl rfl rfl ?_
      refine OA.p (some 8) (.bool false) rfl rfl rfl rfl ?_
      refine OA.nil ?_
      intro _
      refine RA.rebase [(0, v), (2, (.bool false)), (7, (.slice (some ⟨(n6 + 2), 0, none⟩) (i + 1) 0)), (8, (.bool false)), (9, (Pt n1 0 0)), (10, (.int .i64 ((i : Nat) : Int))), (11, (Pt n6 0 0)), (12, (W (near (l.getD i dEnt)).inn)), (35, (.bool true)), (49, (.bool false))] ⟨rfl, rfl, rfl, rfl, rfl, rfl, rfl, rfl, rfl, rfl, trivial⟩ (fun τr12 => ?_)
      refine RA.region env_ok ?_
      refine OA.p (some 36) (.int .i64 ((i : Nat) : Int)) rfl rfl rfl rfl ?_
      refine OA.p (some 37) (.int .i64 (((i + 1) : Nat) : Int)) rfl rfl rfl (r_bin rfl rfl rfl (b_add (i64_eq (by omega)))) ?_
      refine OA.p (some 10) (.int .i64 (((i + 1) : Nat) : Int)) rfl rfl rfl rfl ?_
      refine OA.nil ?_
      refine ⟨(12 - (i + 1)), by omega, [(n1, some ⟨[(xAo34 f t g a K)], 4, 33, true⟩), ((n6 + 2), some (oEnt ((l.take (i + 1)).map near)))], (Less.of (fac (mm (fun _ => get_here) (fun _ => (gt4 (by omega) get_here))) (fac (mm (fun _ => (get_there (by omega) get_here)) (fun _ => get_here)) fan)) (gone_of (by simp only [goneP, memP, List.cons_append, List.nil_append, true_or, or_true, true_and, and_true, or_false] <;> omega))), .inl (⟨(i + 1), (n6 + 2), rfl, by omega, ⟨rfl, rfl, rfl, rfl, rfl, rfl, trivial⟩, rfl, (kb2 (by omega)), ⟨by omega, by omega, by omega, by omega, anyN (by omega) hany (hitF (m := false) (x := (near (l.getD i dEnt))) (f := ((andN f 1 : Nat) : Int)) (t := ((andN t 1 : Nat) : Int)) (g := (g &&& 3#32)) (fun hh => hc4 hh.2.1))⟩⟩)⟩
    ·
     refine OA.p (some 56) (.bool false) rfl rfl rfl (Eq.trans (r_bin rfl rfl rfl (b_eql rfl)) (dF hc3)) ?_
     refine OA.p (some 57) (.bool false) rfl rfl rfl rfl ?_
     refine OA.off (dst := (some 58)) rfl rfl rfl ?_
     refine OA.off (dst := (some 59)) rfl rfl rfl ?_
     refine OA.off (dst := (some 60)) rfl rfl rfl ?_
     refine OA.p (some 61) (.bool false) rfl rfl rfl rfl ?_
     refine OA.p (some 62) (.bool false) rfl rfl rfl rfl ?_
     refine OA.off (dst := (some 63)) rfl rfl rfl ?_
     refine OA.off (dst := (some 64)) rfl rfl rfl ?_
     refine OA.off (dst := (some 65)) rfl rfl rfl ?_
     refine OA.off (dst := (some 66)) rfl rfl rfl ?_
     refine OA.off (dst := (some 67)) rfl rfl rfl ?_
     refine OA.p (some 68) (.bool false) rfl rfl rfl rfl ?_
     refine OA.p (some 69) (.bool false) rfl rfl rfl rfl ?_
     refine OA.off (dst := (some 70)) rfl rfl rfl ?_
     refine OA.off (dst := (some 71)) rfl rfl rfl ?_
     refine OA.off (dst := (some 72)) rfl rfl rfl ?_
     refine OA.off (dst := (some 73)) rfl rfl rfl ?_
     refine OA.off (dst := (some 74)) rfl rfl rfl ?_
     refine OA.p (some 75) (.bool false) rfl rfl rfl rfl ?_
     refine OA.p (some 76) (.bool false) rfl rfl rfl rfl ?_
     refine OA.off (dst := (some 77)) rfl rfl rfl ?_
     refine OA.off (dst := (some 78)) rfl rfl rfl ?_
     refine OA.off (dst := (some 79)) rfl rfl rfl ?_
     refine OA.off (dst := (some 80)) rfl rfl rfl ?_
     refine OA.p (some 81) (.bool false) rfl rfl rfl rfl ?_
     refine OA.p (some 82) (.bool false) rfl rfl rfl rfl ?_
     refine OA.off (dst := (some 83)) rfl rfl rfl ?_
     refine OA.off (dst := (some 84)) rfl rfl rfl ?_
     refine OA.off (dst := (some 85)) rfl rfl rfl ?_
     refine OA.p (some 86) (.bool false) rfl rfl rfl rfl ?_
     refine OA.p (some 87) (.bool false) rfl rfl rfl rfl ?_
     refine OA.p (some 8) (.bool false) rfl rfl rfl rfl ?_
     refine OA.nil ?_
     intro _
     refine RA.rebase [(0, v), (2, (.bool false)), (7, (.slice (some ⟨(n6 + 2), 0, none⟩) (i + 1) 0)), (8, (.bool false)), (9, (Pt n1 0 0)), (10, (.int .i64 ((i : Nat) : Int))), (11, (Pt n6 0 0)), (12, (W (near (l.getD i dEnt)).inn)), (35, (.bool true)), (49, (.bool false))] ⟨rfl, rfl, rfl, rfl, rfl, rfl, rfl, rfl, rfl, rfl, trivial⟩ (fun τr13 => ?_)
     refine RA.region env_ok ?_
     refine OA.p (some 36) (.int .i64 ((i : Nat) : Int)) rfl rfl rfl rfl ?_
     refine OA.p (some 37) (.int .i64 (((i + 1) : Nat) : Int)) rfl rfl rfl (r_bin rfl rfl rfl (b_add (i64_eq (by omega)))) ?_
     refine OA.p (some 10) (.int .i64 (((i + 1) : Nat) : Int)) rfl rfl rfl rfl ?_
     refine OA.nil ?_
     refine ⟨(12 - (i + 1)), by omega, [(n1, some ⟨[(xAo34 f t g a K)], 4, 33, true⟩), ((n6 + 2), some (oEnt ((l.take (i + 1)).map near)))], (Less.of (fac (mm (fun _ => get_here) (fun _ => (gt4 (by omega) get_here))) (fac (mm (fun _ => (get_there (by omega) get_here)) (fun _ => get_here)) fan)) (gone_of (by simp only [goneP, memP, List.cons_append, List.nil_append, true_or, or_true, true_and, and_true, or_false] <;> omega))), .inl (⟨(i + 1), (n6 + 2), rfl, by omega, ⟨rfl, rfl, rfl, rfl, rfl, rfl, trivial⟩, rfl, (kb2 (by omega)), ⟨by omega, by omega, by omega, by omega, anyN (by omega) hany (hitF (m := false) (x := (near (l.getD i dEnt))) (f := ((andN f 1 : Nat) : Int)) (t := ((andN t 1 : Nat) : Int)) (g := (g &&& 3#32)) (fun hh => hc3 hh.1))⟩⟩)⟩
   ·
    refine OA.p (some 34) (.bool false) rfl rfl rfl (Eq.trans (r_bin rfl rfl rfl (b_lss rfl)) (dF hc2)) ?_
    refine OA.p (some 35) (.bool false) rfl rfl rfl rfl ?_
    refine OA.nil ?_
    intro _
    refine RA.condF rfl ?_
    refine RA.exit env_ok ?_
    intro _
    refine RA.seq hd ?_
    refine RA.region env_ok ?_
    refine OA.callP (dst := (some 88)) (all := []) (v := (.bool true)) (hd.of (by omega) (kb2 (by omega))) rfl rfl rfl rfl rfl rfl rfl rfl awakeT ?_
    intro n14 hn14
    refine OA.p (some 89) (.bool true) rfl rfl rfl rfl ?_
    refine OA.p (some 90) (.slice (some ⟨j, 0, none⟩) i 0) rfl rfl rfl rfl ?_
    refine OA.p (some 91) (.agg ⟨(xAo34 f t g a K)⟩) rfl rfl rfl (r_loadA rfl rfl rfl rfl get_here rfl rfl rfl) ?_
    refine OA.p (some 92) (.bool false) rfl rfl rfl rfl ?_
    refine OA.callP (dst := (some 93)) (all := (xAo32 j i f t g a K)) (v := (.bool false)) (hd.of (by omega) (kb2 (by omega))) rfl rfl rfl rfl rfl rfl rfl rfl (PS.to (oOwnerfalse j i ((l.take i).map near) (takeLen (by omega)) (by omega) ((andN f 1 : Nat) : Int) ((andN t 1 : Nat) : Int) (g &&& 3#32) a K (get_there (by omega) get_here)) (congrArg Value.bool hany)) ?_
    intro n15 hn15
    refine OA.p (some 94) (.bool false) rfl rfl rfl rfl ?_
    refine OA.p (some 95) (.bool true) rfl rfl rfl rfl ?_
    refine OA.p (some 96) (.bool true) rfl rfl rfl rfl ?_
    refine OA.p (some 6) (.bool true) rfl rfl rfl rfl ?_
    refine OA.nil ?_
    intro _
    refine RA.ret env_ok ?_
    refine ⟨.inr rfl, [(.bool true)], (resL_cons rfl resL_nil), [], (Less.of (fun p hp => by simp at hp) (gone_of (by simp only [goneP, memP, List.cons_append, List.nil_append, true_or, or_true, true_and, and_true, or_false] <;> omega))), rfl⟩
  ·
   refine OA.p (some 31) (.bool false) rfl rfl rfl (Eq.trans (r_bin rfl rfl rfl (b_lss rfl)) (dF hc1)) ?_
   refine OA.p (some 32) (.bool false) rfl rfl rfl rfl ?_
   refine OA.off (dst := (some 33)) rfl rfl rfl ?_
   refine OA.off (dst := (some 34)) rfl rfl rfl ?_
   refine OA.p (some 35) (.bool false) rfl rfl rfl rfl ?_
   refine OA.nil ?_
   intro _
   refine RA.condF rfl ?_
   refine RA.exit env_ok ?_
   intro _
   refine RA.seq hd ?_
   refine RA.region env_ok ?_
   refine OA.callP (dst := (some 88)) (all := []) (v := (.bool true)) (hd.of (by omega) (kb2 (by omega))) rfl rfl rfl rfl rfl rfl rfl rfl awakeT ?_
   intro n16 hn16
   refine OA.p (some 89) (.bool true) rfl rfl rfl rfl ?_
   refine OA.p (some 90) (.slice (some ⟨j, 0, none⟩) i 0) rfl rfl rfl rfl ?_
   refine OA.p (some 91) (.agg ⟨(xAo34 f t g a K)⟩) rfl rfl rfl (r_loadA rfl rfl rfl rfl get_here rfl rfl rfl) ?_
   refine OA.p (some 92) (.bool false) rfl rfl rfl rfl ?_
   refine OA.callP (dst := (some 93)) (all := (xAo32 j i f t g a K)) (v := (.bool false)) (hd.of (by omega) (kb2 (by omega))) rfl rfl rfl rfl rfl rfl rfl rfl (PS.to (oOwnerfalse j i ((l.take i).map near) (takeLen (by omega)) (by omega) ((andN f 1 : Nat) : Int) ((andN t 1 : Nat) : Int) (g &&& 3#32) a K (get_there (by omega) get_here)) (congrArg Value.bool hany)) ?_
   intro n17 hn17
   refine OA.p (some 94) (.bool false) rfl rfl rfl rfl ?_
   refine OA.p (some 95) (.bool true) rfl rfl rfl rfl ?_
   refine OA.p (some 96) (.bool true) rfl rfl rfl rfl ?_
   refine OA.p (some 6) (.bool true) rfl rfl rfl rfl ?_
   refine OA.nil ?_
   intro _
   refine RA.ret env_ok ?_
   refine ⟨.inr rfl, [(.bool true)], (resL_cons rfl resL_nil), [], (Less.of (fun p hp => by simp at hp) (gone_of (by simp only [goneP, memP, List.cons_append, List.nil_append, true_or, or_true, true_and, and_true, or_false] <;> omega))), rfl⟩
 ·
  rw [Has.eq hHn5]
  have hKn5_0 : n1 < n5 := hKn5 _ (by simp only [keys, List.map_cons, List.map_nil, List.mem_cons, true_or, or_true])
  have hKn5_1 : j < n5 := hKn5 _ (by simp only [keys, List.map_cons, List.map_nil, List.mem_cons, true_or, or_true])
  clear hKn5
  obtain ⟨hi1, hi2, hj1, hj2, hany⟩ := hIn5
  refine RA.seq hd ?_
  refine RA.seq hd ?_
  refine RA.region env_ok ?_
  refine OA.p (some 28) (.int .i64 ((i : Nat) : Int)) rfl rfl rfl rfl ?_
  refine OA.p (some 29) v rfl rfl rfl rfl ?_
  refine OA.p (some 30) (.int .i64 ((l.length : Nat) : Int)) rfl rfl rfl (r_lenP (c := cEnt) rfl rfl rfl rfl rfl rfl hv rfl) ?_
  by_cases hc9 : ((i : Nat) : Int) < ((l.length : Nat) : Int)
  ·
   obtain ⟨rest, hat⟩ := hv.get (m := i) (by omega)
   have lathat := hd.lt hat
   refine OA.p (some 31) (.bool true) rfl rfl rfl (Eq.trans (r_bin rfl rfl rfl (b_lss rfl)) (dT hc9)) ?_
   refine OA.p (some 32) (.bool true) rfl rfl rfl rfl ?_
   refine OA.p (some 33) (.int .i64 ((i : Nat) : Int)) rfl rfl rfl rfl ?_
   by_cases hc10 : ((i : Nat) : Int) < 12
   ·
    refine OA.p (some 34) (.bool true) rfl rfl rfl (Eq.trans (r_bin rfl rfl rfl (b_lss rfl)) (dT hc10)) ?_
    refine OA.p (some 35) (.bool true) rfl rfl rfl rfl ?_
    refine OA.nil ?_
    intro _
    refine RA.condT rfl ?_
    refine RA.skip env_ok ?_
    intro _
    refine RA.seq hd ?_
    refine RA.block ?_
    refine RA.seq hd ?_
    refine RA.region env_ok ?_
    refine OA.p (some 38) v rfl rfl rfl rfl ?_
    refine OA.p (some 39) (.int .i64 ((i : Nat) : Int)) rfl rfl rfl rfl ?_
    refine OA.p (some 40) (.pointer (some ⟨(rk v), i, some 0⟩)) rfl rfl rfl (r_iaP (c := cEnt) (m := i) rfl rfl rfl rfl rfl rfl hv rfl (by omega) (gt2 (by omega) hat) rfl) ?_
    refine OA.p (some 41) (.agg ⟨(cEnt (l.getD i dEnt))⟩) rfl rfl rfl (r_loadA (e := cEnt (l.getD i dEnt)) rfl rfl rfl rfl (gt2 (by omega) hat) (mp_getA (by omega)) rfl rfl) ?_
    refine OA.callP (dst := (some 42)) (all := [(.agg ⟨(cEnt (l.getD i dEnt))⟩)]) (v := (.agg ⟨(cEnt (near (l.getD i dEnt)))⟩)) (hd.of (by omega) (kb2 (by omega))) rfl rfl rfl rfl rfl rfl rfl rfl (oNear (l.getD i dEnt)) ?_
    intro n18 hn18
    refine OA.op1 (dst := (some 11)) (v := (Pt n18 0 0)) (n1 := (n18 + 1)) (w := (n18, some ⟨[xAo35], 7, 26, true⟩)) rfl rfl rfl rfl (by omega) ?_
    refine OA.op1 (dst := none) (v := (.tuple #[])) (n1 := (n18 + 1)) (w := (n18, some ⟨[(cEnt (near (l.getD i dEnt)))], 7, 26, true⟩)) rfl rfl rfl (r_store rfl rfl rfl rfl rfl rfl rfl get_here rfl rfl (Nat.le_of_ble_eq_true rfl) rfl) (by omega) ?_
    refine OA.nil ?_
    intro _
    refine RA.seq hd ?_
    refine RA.region env_ok ?_
    refine OA.p (some 43) (.slice (some ⟨j, 0, none⟩) i 0) rfl rfl rfl rfl ?_
    refine OA.p (some 44) (.agg ⟨(xAo31 l i)⟩) rfl rfl rfl (r_loadA rfl rfl rfl rfl get_here rfl rfl rfl) ?_
    refine OA.op1 (dst := (some 45)) (v := (.slice (some ⟨(n18 + 1), 0, none⟩) 1 0)) (n1 := (n18 + 2)) (w := ((n18 + 1), some ⟨[(xAo31 l i)], 7, 26, true⟩)) rfl rfl rfl (by kernel_rfl) (by omega) ?_
    refine OA.op (dst := (some 46)) (v := (.slice (some ⟨(n18 + 2), 0, none⟩) (i + 1) 0)) (n1 := (n18 + 3)) (d1 := [((n18 + 2), some (oEnt ((l.take (i + 1)).map near))), (j, none)]) (D' := [((n18 + 2), some (oEnt ((l.take (i + 1)).map near))), (j, none), ((n18 + 1), some ⟨[(xAo31 l i)], 7, 26, true⟩), (n18, some ⟨[(cEnt (near (l.getD i dEnt)))], 7, 26, true⟩), (n18, some ⟨[xAo35], 7, 26, true⟩), (n1, some ⟨[(xAo34 f t g a K)], 4, 33, true⟩), (j, some (oEnt ((l.take i).map near)))]) rfl rfl rfl (r_appendR (c := cEnt) (l' := ((l.take (i + 1)).map near)) rfl rfl rfl rfl rfl rfl rfl rfl rfl rfl (by decide) (gt4 (by omega) get_here) get_here (by rw [takeLen (by omega)]) (near_snoc (by omega)) (by omega) (of_decide_eq_true (by kernel_rfl)) (by omega)) (by omega) rfl ?_
    refine OA.p (some 7) (.slice (some ⟨(n18 + 2), 0, none⟩) (i + 1) 0) rfl rfl rfl rfl ?_
    refine OA.nil ?_
    intro _
    refine RA.weaken (D' := [((n18 + 2), some (oEnt ((l.take (i + 1)).map near))), (j, none), ((n18 + 1), some ⟨[(xAo31 l i)], 7, 26, true⟩), (n18, some ⟨[(cEnt (near (l.getD i dEnt)))], 7, 26, true⟩), (n1, some ⟨[(xAo34 f t g a K)], 4, 33, true⟩)]) hd (Less.of (fac (mm (fun _ => get_here) (fun _ => get_here)) (fac (mm (fun _ => (get_there (by omega) get_here)) (fun _ => (get_there (by omega) get_here))) (fac (mm (fun _ => (gt2 (by omega) get_here)) (fun _ => (gt2 (by omega) get_here))) (fac (mm (fun _ => (gt3 (by omega) get_here)) (fun _ => (gt3 (by omega) get_here))) (fac (mm (fun _ => (gt4 (by omega) get_here)) (fun _ => (gt5 (by omega) get_here))) fan))))) (gone_of (by simp only [goneP, memP, List.cons_append, List.nil_append, true_or, or_true, true_and, and_true, or_false] <;> omega))) ?_
    refine RA.seq hd ?_
    refine RA.region env_ok ?_
    refine OA.p (some 47) (Pt n18 0 4) rfl rfl rfl rfl ?_
    refine OA.p (some 48) (W (near (l.getD i dEnt)).inn) rfl rfl rfl (r_load1 rfl rfl rfl rfl rfl (gt3 (by omega) get_here) rfl rfl) ?_
    refine OA.p (some 12) (W (near (l.getD i dEnt)).inn) rfl rfl rfl rfl ?_
    refine OA.nil ?_
    intro _
    refine RA.seq hd ?_
    refine RA.seq hd ?_
    refine RA.region env_ok ?_
    refine OA.p (some 49) (.bool false) rfl rfl rfl rfl ?_
    refine OA.nil ?_
    intro _
    refine RA.condF rfl ?_
    refine RA.skip env_ok ?_
    intro _
    refine RA.region env_ok ?_
    refine OA.p (some 52) (.bool true) rfl rfl rfl rfl ?_
    refine OA.p (some 53) (.bool true) rfl rfl rfl rfl ?_
    refine OA.off (dst := (some 54)) rfl rfl rfl ?_
    refine OA.off (dst := (some 55)) rfl rfl rfl ?_
    refine OA.off (dst := (some 56)) rfl rfl rfl ?_
    refine OA.off (dst := (some 57)) rfl rfl rfl ?_
    refine OA.off (dst := (some 58)) rfl rfl rfl ?_
    refine OA.off (dst := (some 59)) rfl rfl rfl ?_
    refine OA.off (dst := (some 60)) rfl rfl rfl ?_
    refine OA.off (dst := (some 61)) rfl rfl rfl ?_
    refine OA.off (dst := (some 62)) rfl rfl rfl ?_
    refine OA.off (dst := (some 63)) rfl rfl rfl ?_
    refine OA.off (dst := (some 64)) rfl rfl rfl ?_
    refine OA.off (dst := (some 65)) rfl rfl rfl ?_
    refine OA.off (dst := (some 66)) rfl rfl rfl ?_
    refine OA.off (dst := (some 67)) rfl rfl rfl ?_
    refine OA.off (dst := (some 68)) rfl rfl rfl ?_
    refine OA.off (dst := (some 69)) rfl rfl rfl ?_
    refine OA.off (dst := (some 70)) rfl rfl rfl ?_
    refine OA.off (dst := (some 71)) rfl rfl rfl ?_
    refine OA.off (dst := (some 72)) rfl rfl rfl ?_
    refine OA.off (dst := (some 73)) rfl rfl rfl ?_
    refine OA.off (dst := (some 74)) rfl rfl rfl ?_
    refine OA.off (dst := (some 75)) rfl rfl rfl ?_
    refine OA.off (dst := (some 76)) rfl rfl rfl ?_
    refine OA.off (dst := (some 77)) rfl rfl rfl ?_
    refine OA.off (dst := (some 78)) rfl rfl rfl ?_
    refine OA.off (dst := (some 79)) rfl rfl rfl ?_
    refine OA.off (dst := (some 80)) rfl rfl rfl ?_
    refine OA.off (dst := (some 81)) rfl rfl rfl ?_
    refine OA.off (dst := (some 82)) rfl rfl rfl ?_
    refine OA.off (dst := (some 83)) rfl rfl rfl ?_
    refine OA.off (dst := (some 84)) rfl rfl rfl ?_
    refine OA.off (dst := (some 85)) rfl rfl rfl ?_
    refine OA.off (dst := (some 86)) rfl rfl rfl ?_
    refine OA.p (some 87) (.bool true) rfl rfl rfl rfl ?_
    refine OA.p (some 8) (.bool true) rfl rfl rfl rfl ?_
    refine OA.nil ?_
    intro _
    refine RA.rebase [(0, v), (2, (.bool false)), (7, (.slice (some ⟨(n18 + 2), 0, none⟩) (i + 1) 0)), (8, (.bool true)), (9, (Pt n1 0 0)), (10, (.int .i64 ((i : Nat) : Int))), (11, (Pt n18 0 0)), (12, (W (near (l.getD i dEnt)).inn)), (35, (.bool true)), (49, (.bool false))] ⟨rfl, rfl, rfl, rfl, rfl, rfl, rfl, rfl, rfl, rfl, trivial⟩ (fun τr19 => ?_)
    refine RA.region env_ok ?_
    refine OA.p (some 36) (.int .i64 ((i : Nat) : Int)) rfl rfl rfl rfl ?_
    refine OA.p (some 37) (.int .i64 (((i + 1) : Nat) : Int)) rfl rfl rfl (r_bin rfl rfl rfl (b_add (i64_eq (by omega)))) ?_
    refine OA.p (some 10) (.int .i64 (((i + 1) : Nat) : Int)) rfl rfl rfl rfl ?_
    refine OA.nil ?_
    refine ⟨(12 - (i + 1)), by omega, [(n1, some ⟨[(xAo34 f t g a K)], 4, 33, true⟩), ((n18 + 2), some (oEnt ((l.take (i + 1)).map near)))], (Less.of (fac (mm (fun _ => get_here) (fun _ => (gt4 (by omega) get_here))) (fac (mm (fun _ => (get_there (by omega) get_here)) (fun _ => get_here)) fan)) (gone_of (by simp only [goneP, memP, List.cons_append, List.nil_append, true_or, or_true, true_and, and_true, or_false] <;> omega))), .inr (⟨(i + 1), (n18 + 2), rfl, by omega, ⟨rfl, rfl, rfl, rfl, rfl, rfl, trivial⟩, rfl, (kb2 (by omega)), ⟨by omega, by omega, by omega, by omega, anyT (by omega) hany⟩⟩)⟩
   ·
    refine OA.p (some 34) (.bool false) rfl rfl rfl (Eq.trans (r_bin rfl rfl rfl (b_lss rfl)) (dF hc10)) ?_
    refine OA.p (some 35) (.bool false) rfl rfl rfl rfl ?_
    refine OA.nil ?_
    intro _
    refine RA.condF rfl ?_
    refine RA.exit env_ok ?_
    intro _
    refine RA.seq hd ?_
    refine RA.region env_ok ?_
    refine OA.callP (dst := (some 88)) (all := []) (v := (.bool true)) (hd.of (by omega) (kb2 (by omega))) rfl rfl rfl rfl rfl rfl rfl rfl awakeT ?_
    intro n20 hn20
    refine OA.p (some 89) (.bool true) rfl rfl rfl rfl ?_
    refine OA.p (some 90) (.slice (some ⟨j, 0, none⟩) i 0) rfl rfl rfl rfl ?_
    refine OA.p (some 91) (.agg ⟨(xAo34 f t g a K)⟩) rfl rfl rfl (r_loadA rfl rfl rfl rfl get_here rfl rfl rfl) ?_
    refine OA.p (some 92) (.bool false) rfl rfl rfl rfl ?_
    refine OA.callP (dst := (some 93)) (all := (xAo32 j i f t g a K)) (v := (.bool true)) (hd.of (by omega) (kb2 (by omega))) rfl rfl rfl rfl rfl rfl rfl rfl (PS.to (oOwnerfalse j i ((l.take i).map near) (takeLen (by omega)) (by omega) ((andN f 1 : Nat) : Int) ((andN t 1 : Nat) : Int) (g &&& 3#32) a K (get_there (by omega) get_here)) (congrArg Value.bool hany)) ?_
    intro n21 hn21
    refine OA.p (some 94) (.bool true) rfl rfl rfl rfl ?_
    refine OA.p (some 95) (.bool true) rfl rfl rfl rfl ?_
    refine OA.p (some 96) (.bool true) rfl rfl rfl rfl ?_
    refine OA.p (some 6) (.bool true) rfl rfl rfl rfl ?_
    refine OA.nil ?_
    intro _
    refine RA.ret env_ok ?_
    refine ⟨.inr rfl, [(.bool true)], (resL_cons rfl resL_nil), [], (Less.of (fun p hp => by simp at hp) (gone_of (by simp only [goneP, memP, List.cons_append, List.nil_append, true_or, or_true, true_and, and_true, or_false] <;> omega))), rfl⟩
  ·
   refine OA.p (some 31) (.bool false) rfl rfl rfl (Eq.trans (r_bin rfl rfl rfl (b_lss rfl)) (dF hc9)) ?_
   refine OA.p (some 32) (.bool false) rfl rfl rfl rfl ?_
   refine OA.off (dst := (some 33)) rfl rfl rfl ?_
   refine OA.off (dst := (some 34)) rfl rfl rfl ?_
   refine OA.p (some 35) (.bool false) rfl rfl rfl rfl ?_
   refine OA.nil ?_
   intro _
   refine RA.condF rfl ?_
   refine RA.exit env_ok ?_
   intro _
   refine RA.seq hd ?_
   refine RA.region env_ok ?_
   refine OA.callP (dst := (some 88)) (all := []) (v := (.bool true)) (hd.of (by omega) (kb2 (by omega))) rfl rfl rfl rfl rfl rfl rfl rfl awakeT ?_
   intro n22 hn22
   refine OA.p (some 89) (.bool true) rfl rfl rfl rfl ?_
   refine OA.p (some 90) (.slice (some ⟨j, 0, none⟩) i 0) rfl rfl rfl rfl ?_
   refine OA.p (some 91) (.agg ⟨(xAo34 f t g a K)⟩) rfl rfl rfl (r_loadA rfl rfl rfl rfl get_here rfl rfl rfl) ?_
   refine OA.p (some 92) (.bool false) rfl rfl rfl rfl ?_
   refine OA.callP (dst := (some 93)) (all := (xAo32 j i f t g a K)) (v := (.bool true)) (hd.of (by omega) (kb2 (by omega))) rfl rfl rfl rfl rfl rfl rfl rfl (PS.to (oOwnerfalse j i ((l.take i).map near) (takeLen (by omega)) (by omega) ((andN f 1 : Nat) : Int) ((andN t 1 : Nat) : Int) (g &&& 3#32) a K (get_there (by omega) get_here)) (congrArg Value.bool hany)) ?_
   intro n23 hn23
   refine OA.p (some 94) (.bool true) rfl rfl rfl rfl ?_
   refine OA.p (some 95) (.bool true) rfl rfl rfl rfl ?_
   refine OA.p (some 96) (.bool true) rfl rfl rfl rfl ?_
   refine OA.p (some 6) (.bool true) rfl rfl rfl rfl ?_
   refine OA.nil ?_
   intro _
   refine RA.ret env_ok ?_
   refine ⟨.inr rfl, [(.bool true)], (resL_cons rfl resL_nil), [], (Less.of (fun p hp => by simp at hp) (gone_of (by simp only [goneP, memP, List.cons_append, List.nil_append, true_or, or_true, true_and, and_true, or_false] <;> omega))), rfl⟩
end Go.Proofs.Ytnjknabighmedaa.Vt
