/- Dg3: walks through functions of the program, by the calculus; written by a program of this workplace. -/
import Derived.Test.YtdnkhdkflemkeaaDg2
import Derived.Test.YtdnkhdkflemkeaaVm5
namespace Go.Proofs.Ytdnkhdkflemkeaa.Vt
open Go Go.Proofs Go.Proofs.YtdnkhdkflemkeaaV
set_option maxRecDepth 100000
set_option linter.unusedVariables false
set_option linter.unusedSimpArgs false
def word (s : ByteArray) (j : Nat) : BitVec 32 := BitVec.ofNat 32 (beN (((L s).drop (4 * j)).take 4))
def wd (s : ByteArray) (j : Nat) : BitVec 32 := if h : j < 16 then word s j else rl (wd s (j - 3) ^^^ wd s (j - 8) ^^^ wd s (j - 14) ^^^ wd s (j - 16)) 1
termination_by j
theorem wd_lo {s : ByteArray} {j : Nat} (h : j < 16) : wd s j = word s j := by rw [wd, dif_pos h]
theorem wd_hi {s : ByteArray} {j : Nat} (h : 16 ≤ j) : wd s j = rl (wd s (j - 3) ^^^ wd s (j - 8) ^^^ wd s (j - 14) ^^^ wd s (j - 16)) 1 := by rw [wd, dif_neg (by omega)]
theorem ext_ext (s : ByteArray) (a b : Nat) (h : a + b ≤ s.size) : (s.extract a s.size).extract b (s.extract a s.size).size = s.extract (a + b) s.size := by
  apply L_ext
  rw [L_extract, L_extract, L_extract, size_cut _ _ _ (Nat.le_refl _), List.drop_take, List.drop_drop, List.take_take]
  congr 1
  omega
theorem word_ext (s : ByteArray) (i : Nat) (h : 4 * i + 4 ≤ s.size) : BitVec.ofNat 32 (beN ((L (s.extract (4 * i) s.size)).take 4)) = word s i := by
  rw [word, L_extract, List.take_take]
  congr 4
  omega
structure H5 where
  a : BitVec 32
  b : BitVec 32
  c : BitVec 32
  d : BitVec 32
  e : BitVec 32
def rd (w : Nat → BitVec 32) (h : H5) : Nat → H5
  | 0 => h
  | i + 1 => ⟨rl (rd w h i).a 5 + (fk i (rd w h i).b (rd w h i).c (rd w h i).d).1 + (rd w h i).e + (fk i (rd w h i).b (rd w h i).c (rd w h i).d).2 + w i, (rd w h i).a, rl (rd w h i).b 30, (rd w h i).c, (rd w h i).d⟩
def blk (h : H5) (s : ByteArray) : H5 := ⟨h.a + (rd (wd s) h 80).a, h.b + (rd (wd s) h 80).b, h.c + (rd (wd s) h 80).c, h.d + (rd (wd s) h 80).d, h.e + (rd (wd s) h 80).e⟩
theorem s63w {n : Nat} {σ : Store} (hd : Dom n σ) (r : Nat) (s : ByteArray) (i : Nat) (hi : 4 * i + 4 ≤ s.size) (hs : s.size < 4294967296) (hr : σ r = some ⟨[[(.string (s.extract (4 * i) s.size)), (.int .i64 0)]], 2, 106, true⟩) : CQ Try.prog noDen 63 [(.pointer (some ⟨r, 0, some 0⟩))] n σ (fun v n' d => v = W (word s i) ∧ d = [(r, some ⟨[[(.string (s.extract (4 * i + 4) s.size)), (.int .i64 0)]], 2, 106, true⟩)]) := by
  refine (s63 hd r (s.extract (4 * i) s.size) (by rw [size_cut _ _ _ (Nat.le_refl _)]; omega) (by rw [size_cut _ _ _ (Nat.le_refl _)]; omega) hr).imp fun v n' d h => ?_
  obtain ⟨h1, h2⟩ := h
  rw [h1, h2, word_ext s i hi, ext_ext s (4 * i) 4 hi]
  exact ⟨rfl, rfl⟩
theorem s55 {σ : Store} (s : ByteArray) (hs : s.size = 64)   : PS Try.prog noDen 55 [(.string s)] σ (.agg ⟨((List.range 80).map (wd s)).map W⟩) := by
 refine PS.body (E := env) env_ok rfl rfl (by show _ ≤ _; exact of_decide_eq_true (by kernel_rfl)) (fun n hd => ?_)
 refine RA.seq hd ?_
 refine RA.region env_ok ?_
 refine OA.op1 (dst := (some 2)) (v := (.pointer (some ⟨n, 0, some 0⟩))) (n1 := (n + 1)) (w := (n, some ⟨[((List.replicate 80 0#32).map W)], 80, 79, true⟩)) rfl rfl rfl (by kernel_rfl) (by omega) ?_
 refine OA.nil ?_
 intro _
 refine RA.seq hd ?_
 refine RA.region env_ok ?_
 refine OA.op1 (dst := (some 3)) (v := (.pointer (some ⟨(n + 1), 0, some 0⟩))) (n1 := (n + 2)) (w := ((n + 1), some ⟨[((List.replicate 80 0#32).map W)], 80, 79, true⟩)) rfl rfl rfl (by kernel_rfl) (by omega) ?_
 refine OA.nil ?_
 intro _
 refine RA.seq hd ?_
 refine RA.region env_ok ?_
 refine OA.p (some 7) (.string s) rfl rfl rfl rfl ?_
 refine OA.call (dst := (some 8)) (all := [(.string s)]) rfl rfl rfl rfl rfl rfl rfl rfl (CQ.imp (s61 (hd.of (by omega) (kb2 (by omega))) s) ?_)
 rintro _ n1 _ ⟨q, hq1, hq2, rfl, rfl⟩ hn1
 refine OA.app1 ?_
 refine OA.p (some 4) (.pointer (some ⟨q, 0, some 0⟩)) rfl rfl rfl rfl ?_
 refine OA.nil ?_
 intro _
 refine RA.seq hd ?_
 refine RA.seq hd ?_
 refine RA.region env_ok ?_
 refine OA.p (some 9) (.int .i64 0) rfl rfl rfl rfl ?_
 refine OA.nil ?_
 intro _
 refine RA.block ?_
 refine RA.loop hd (fun kk_ τ n' D => ∃ i : Nat, ∃ ws : List (BitVec 32),  kk_ = (16 - i) ∧ n1 ≤ n' ∧ Has τ [(0, (.string s)), (2, (.pointer (some ⟨n, 0, some 0⟩))), (3, (.pointer (some ⟨(n + 1), 0, some 0⟩))), (4, (.pointer (some ⟨q, 0, some 0⟩))), (9, (.int .i64 ((i : Nat) : Int)))] ∧ D = [(q, some ⟨[[(.string (s.extract (4 * i) s.size)), (.int .i64 0)]], 2, 106, true⟩), ((n + 1), some ⟨[(ws.map W)], 80, 79, true⟩), (n, some ⟨[((List.replicate 80 0#32).map W)], 80, 79, true⟩)] ∧ (∀ i ∈ keys D, i < n') ∧ i ≤ 16 ∧ ws.length = 80 ∧ ∀ j, j < i → ws.getD j 0 = wd s j) ((16 - 0)) ⟨0, (List.replicate 80 0#32), rfl, by omega, ⟨rfl, rfl, rfl, rfl, rfl, trivial⟩, (by rw [show s.extract (4 * 0) s.size = s from by apply L_ext; rw [L_extract, Nat.mul_zero, List.drop_zero, List.take_of_length_le (by rw [L_len]; omega)]]), (kb3 (by omega)), ⟨by omega, List.length_replicate, fun j hj => by omega⟩⟩ ?_
 rintro kn2 τ2 n2 _ ⟨i, ws, rfl, hn2, hHn2, rfl, hKn2, hIn2⟩
 rw [Has.eq hHn2]
 have hKn2_0 : q < n2 := hKn2 _ (by simp only [keys, List.map_cons, List.map_nil, List.mem_cons, true_or, or_true])
 have hKn2_1 : (n + 1) < n2 := hKn2 _ (by simp only [keys, List.map_cons, List.map_nil, List.mem_cons, true_or, or_true])
 have hKn2_2 : n < n2 := hKn2 _ (by simp only [keys, List.map_cons, List.map_nil, List.mem_cons, true_or, or_true])
 simp only [keys, List.map, List.forall_mem_cons, List.mem_cons, List.not_mem_nil, false_imp_iff, implies_true, and_true] at hKn2
 obtain ⟨hi, hl, hf⟩ := hIn2
 refine RA.seq hd ?_
 refine RA.region env_ok ?_
 by_cases hc1 : ((i : Nat) : Int) < 16
 ·
  refine OA.p (some 10) (.bool true) rfl rfl rfl (Eq.trans (r_bin rfl rfl rfl (b_lss rfl)) (dT hc1)) ?_
  refine OA.nil ?_
  intro _
  refine RA.seq hd ?_
  refine RA.condT rfl ?_
  refine RA.skip env_ok ?_
  intro _
  refine RA.seq hd ?_
  refine RA.block ?_
  refine RA.seq hd ?_
  refine RA.region env_ok ?_
  refine OA.p (some 11) (.int .i64 ((i : Nat) : Int)) rfl rfl rfl rfl ?_
  refine OA.p (some 5) (.int .i64 ((i : Nat) : Int)) rfl rfl rfl rfl ?_
  refine OA.nil ?_
  intro _
  refine RA.region env_ok ?_
  refine OA.p (some 12) (.int .i64 ((i : Nat) : Int)) rfl rfl rfl rfl ?_
  refine OA.p (some 13) (.pointer (some ⟨q, 0, some 0⟩)) rfl rfl rfl rfl ?_
  refine OA.call (dst := (some 14)) (all := [(.pointer (some ⟨q, 0, some 0⟩))]) rfl rfl rfl rfl rfl rfl rfl rfl (CQ.imp (s63w (hd.of (by omega) (kb3 (by omega))) q s i (by omega) (by omega) get_here) ?_)
  rintro _ n3 _ ⟨rfl, rfl⟩ hn3
  refine OA.app1 ?_
  refine OA.p (some 15) (.pointer (some ⟨(n + 1), 0, some i⟩)) rfl rfl rfl (r_iaA (l := i) rfl rfl rfl rfl rfl rfl (by omega) (by omega) (by show 0 + i * 1 = i; omega)) ?_
  refine OA.op1 (dst := none) (v := (.tuple #[])) (n1 := n3) (w := ((n + 1), some ⟨[((ws.set i (word s i)).map W)], 80, 79, true⟩)) rfl rfl rfl (r_storeW rfl rfl rfl rfl rfl rfl (gt2 (by omega) get_here) (by rw [hl]; omega)) (by omega) ?_
  refine OA.nil ?_
  intro _
  refine RA.region env_ok ?_
  refine OA.p (some 16) (.int .i64 (((i + 1) : Nat) : Int)) rfl rfl rfl (r_bin rfl rfl rfl (b_add (i64_eq (by omega)))) ?_
  refine OA.p (some 9) (.int .i64 (((i + 1) : Nat) : Int)) rfl rfl rfl rfl ?_
  refine OA.nil ?_
  refine ⟨(16 - (i + 1)), by omega, [(q, some ⟨[[(.string (s.extract (4 * i + 4) s.size)), (.int .i64 0)]], 2, 106, true⟩), ((n + 1), some ⟨[((ws.set i (word s i)).map W)], 80, 79, true⟩), (n, some ⟨[((List.replicate 80 0#32).map W)], 80, 79, true⟩)], (Less.of (fac (mm (fun _ => get_here) (fun _ => (get_there (by omega) get_here))) (fac (mm (fun _ => (get_there (by omega) get_here)) (fun _ => get_here)) (fac (mm (fun _ => (gt2 (by omega) get_here)) (fun _ => (gt4 (by omega) get_here))) fan))) (gone_of (by simp only [goneP, memP, List.cons_append, List.nil_append, true_or, or_true, true_and, and_true, or_false] <;> omega))), (i + 1), (ws.set i (word s i)), rfl, by omega, ⟨rfl, rfl, rfl, rfl, rfl, trivial⟩, rfl, (kb3 (by omega)), ⟨by omega, by rw [List.length_set]; exact hl, fun j hj => (Nat.lt_or_ge j i).elim (fun h => by rw [lset_ne (by omega)]; exact hf j h) (fun h => by rw [show j = i from by omega, lset_self (by omega), wd_lo (by omega)])⟩⟩
 ·
  refine OA.p (some 10) (.bool false) rfl rfl rfl (Eq.trans (r_bin rfl rfl rfl (b_lss rfl)) (dF hc1)) ?_
  refine OA.nil ?_
  intro _
  refine RA.seq hd ?_
  refine RA.condF rfl ?_
  refine RA.exit env_ok ?_
  intro _
  refine RA.seq hd ?_
  refine RA.seq hd ?_
  refine RA.region env_ok ?_
  refine OA.p (some 6) (.int .i64 16) rfl rfl rfl rfl ?_
  refine OA.nil ?_
  intro _
  refine RA.block ?_
  have hi16 : i = 16 := by omega
  have hz : (0 : Nat) = 0 := rfl
  refine RA.weaken (D' := [((n + 1), some ⟨[(ws.map W)], 80, 79, true⟩), (n, some ⟨[((List.replicate 80 0#32).map W)], 80, 79, true⟩)]) hd (Less.of (fac (mm (fun _ => get_here) (fun _ => (get_there (by omega) get_here))) (fac (mm (fun _ => (get_there (by omega) get_here)) (fun _ => (gt2 (by omega) get_here))) fan)) (gone_of (by simp only [goneP, memP, List.cons_append, List.nil_append, true_or, or_true, true_and, and_true, or_false] <;> omega))) ?_
  refine RA.loop hd (fun kk_ τ n' D => ∃ k : Nat, ∃ ws2 : List (BitVec 32),  kk_ = (80 - k) ∧ n2 ≤ n' ∧ Has τ [(0, (.string s)), (2, (.pointer (some ⟨n, 0, some 0⟩))), (3, (.pointer (some ⟨(n + 1), 0, some 0⟩))), (6, (.int .i64 ((k : Nat) : Int)))] ∧ D = [((n + 1), some ⟨[(ws2.map W)], 80, 79, true⟩), (n, some ⟨[((List.replicate 80 0#32).map W)], 80, 79, true⟩)] ∧ (∀ i ∈ keys D, i < n') ∧ 16 ≤ k ∧ k ≤ 80 ∧ ws2.length = 80 ∧ ∀ j, j < k → ws2.getD j 0 = wd s j) ((80 - 16)) ⟨16, ws, rfl, by omega, ⟨rfl, rfl, rfl, rfl, trivial⟩, rfl, (kb2 (by omega)), ⟨by omega, by omega, hl, fun j hj => hf j (by omega)⟩⟩ ?_
  rintro kn4 τ4 n4 _ ⟨k, ws2, rfl, hn4, hHn4, rfl, hKn4, hIn4⟩
  rw [Has.eq hHn4]
  have hKn4_0 : (n + 1) < n4 := hKn4 _ (by simp only [keys, List.map_cons, List.map_nil, List.mem_cons, true_or, or_true])
  have hKn4_1 : n < n4 := hKn4 _ (by simp only [keys, List.map_cons, List.map_nil, List.mem_cons, true_or, or_true])
  simp only [keys, List.map, List.forall_mem_cons, List.mem_cons, List.not_mem_nil, false_imp_iff, implies_true, and_true] at hKn4
  obtain ⟨hk16, hk80, hl2, hf2⟩ := hIn4
  refine RA.seq hd ?_
  refine RA.seq hd ?_
  refine RA.region env_ok ?_
  refine OA.p (some 17) (.int .i64 ((k : Nat) : Int)) rfl rfl rfl rfl ?_
  by_cases hc2 : ((k : Nat) : Int) < 80
  ·
   refine OA.p (some 18) (.bool true) rfl rfl rfl (Eq.trans (r_bin rfl rfl rfl (b_lss rfl)) (dT hc2)) ?_
   refine OA.nil ?_
   intro _
   refine RA.condT rfl ?_
   refine RA.skip env_ok ?_
   intro _
   refine RA.seq hd ?_
   refine RA.block ?_
   refine RA.par (md := [some [], some [], some [], some [], some [(n + 1)], some [], some [], some [], some [(n + 1)], some [], some [], some [], some [], some [(n + 1)], some [], some [], some [], some [], some [(n + 1)], some [], some [], some [], none]) env_ok (hd.of (by omega) (kb2 (by omega))) (by kernel_rfl) ?_
   refine PQ.pure (dst := (some 21)) (v := (.int .i64 ((k : Nat) : Int))) rfl rfl rfl noStore (none_ok _ _) rfl ?_
   refine PQ.pure (dst := (some 22)) (v := (.int .i64 ((k : Nat) : Int))) rfl rfl rfl noStore (none_ok _ _) rfl ?_
   refine PQ.pure (dst := (some 23)) (v := (.int .i64 (((k - 3) : Nat) : Int))) rfl rfl rfl noStore (none_ok _ _) (r_bin rfl rfl rfl (b_sub (i64_eq (by omega)))) ?_
   refine PQ.pure (dst := (some 24)) (v := (.pointer (some ⟨(n + 1), 0, some (k - 3)⟩))) rfl rfl rfl noStore (none_ok _ _) (r_iaA (l := (k - 3)) rfl rfl rfl rfl rfl rfl (by omega) (by omega) (by show 0 + (k - 3) * 1 = (k - 3); omega)) ?_
   refine PQ.pure (dst := (some 25)) (v := (W (ws2.getD (k - 3) 0))) rfl rfl rfl (app [((n + 1), some ⟨[(ws2.map W)], 80, 79, true⟩)] noStore) (seen_one (V := []) (D := [((n + 1), some ⟨[(ws2.map W)], 80, 79, true⟩), (n, some ⟨[((List.replicate 80 0#32).map W)], 80, 79, true⟩)]) (by kernel_rfl) get_here) (r_load1 rfl rfl rfl rfl rfl get_here rfl (mapW_get (by rw [hl2]; omega))) ?_
   refine PQ.pure (dst := (some 26)) (v := (.int .i64 ((k : Nat) : Int))) rfl rfl rfl noStore (none_ok _ _) rfl ?_
   refine PQ.pure (dst := (some 27)) (v := (.int .i64 (((k - 8) : Nat) : Int))) rfl rfl rfl noStore (none_ok _ _) (r_bin rfl rfl rfl (b_sub (i64_eq (by omega)))) ?_
   refine PQ.pure (dst := (some 28)) (v := (.pointer (some ⟨(n + 1), 0, some (k - 8)⟩))) rfl rfl rfl noStore (none_ok _ _) (r_iaA (l := (k - 8)) rfl rfl rfl rfl rfl rfl (by omega) (by omega) (by show 0 + (k - 8) * 1 = (k - 8); omega)) ?_
   refine PQ.pure (dst := (some 29)) (v := (W (ws2.getD (k - 8) 0))) rfl rfl rfl (app [((n + 1), some ⟨[(ws2.map W)], 80, 79, true⟩)] noStore) (seen_one (V := []) (D := [((n + 1), some ⟨[(ws2.map W)], 80, 79, true⟩), (n, some ⟨[((List.replicate 80 0#32).map W)], 80, 79, true⟩)]) (by kernel_rfl) get_here) (r_load1 rfl rfl rfl rfl rfl get_here rfl (mapW_get (by rw [hl2]; omega))) ?_
   refine PQ.pure (dst := (some 30)) (v := (W ((ws2.getD (k - 3) 0) ^^^ (ws2.getD (k - 8) 0)))) rfl rfl rfl noStore (none_ok _ _) (r_bin rfl rfl rfl (b_xorW (ws2.getD (k - 3) 0) (ws2.getD (k - 8) 0))) ?_
   refine PQ.pure (dst := (some 31)) (v := (.int .i64 ((k : Nat) : Int))) rfl rfl rfl noStore (none_ok _ _) rfl ?_
   refine PQ.pure (dst := (some 32)) (v := (.int .i64 (((k - 14) : Nat) : Int))) rfl rfl rfl noStore (none_ok _ _) (r_bin rfl rfl rfl (b_sub (i64_eq (by omega)))) ?_
   refine PQ.pure (dst := (some 33)) (v := (.pointer (some ⟨(n + 1), 0, some (k - 14)⟩))) rfl rfl rfl noStore (none_ok _ _) (r_iaA (l := (k - 14)) rfl rfl rfl rfl rfl rfl (by omega) (by omega) (by show 0 + (k - 14) * 1 = (k - 14); omega)) ?_
   refine PQ.pure (dst := (some 34)) (v := (W (ws2.getD (k - 14) 0))) rfl rfl rfl (app [((n + 1), some ⟨[(ws2.map W)], 80, 79, true⟩)] noStore) (seen_one (V := []) (D := [((n + 1), some ⟨[(ws2.map W)], 80, 79, true⟩), (n, some ⟨[((List.replicate 80 0#32).map W)], 80, 79, true⟩)]) (by kernel_rfl) get_here) (r_load1 rfl rfl rfl rfl rfl get_here rfl (mapW_get (by rw [hl2]; omega))) ?_
   refine PQ.pure (dst := (some 35)) (v := (W (((ws2.getD (k - 3) 0) ^^^ (ws2.getD (k - 8) 0)) ^^^ (ws2.getD (k - 14) 0)))) rfl rfl rfl noStore (none_ok _ _) (r_bin rfl rfl rfl (b_xorW ((ws2.getD (k - 3) 0) ^^^ (ws2.getD (k - 8) 0)) (ws2.getD (k - 14) 0))) ?_
   refine PQ.pure (dst := (some 36)) (v := (.int .i64 ((k : Nat) : Int))) rfl rfl rfl noStore (none_ok _ _) rfl ?_
   refine PQ.pure (dst := (some 37)) (v := (.int .i64 (((k - 16) : Nat) : Int))) rfl rfl rfl noStore (none_ok _ _) (r_bin rfl rfl rfl (b_sub (i64_eq (by omega)))) ?_
   refine PQ.pure (dst := (some 38)) (v := (.pointer (some ⟨(n + 1), 0, some (k - 16)⟩))) rfl rfl rfl noStore (none_ok _ _) (r_iaA (l := (k - 16)) rfl rfl rfl rfl rfl rfl (by omega) (by omega) (by show 0 + (k - 16) * 1 = (k - 16); omega)) ?_
   refine PQ.pure (dst := (some 39)) (v := (W (ws2.getD (k - 16) 0))) rfl rfl rfl (app [((n + 1), some ⟨[(ws2.map W)], 80, 79, true⟩)] noStore) (seen_one (V := []) (D := [((n + 1), some ⟨[(ws2.map W)], 80, 79, true⟩), (n, some ⟨[((List.replicate 80 0#32).map W)], 80, 79, true⟩)]) (by kernel_rfl) get_here) (r_load1 rfl rfl rfl rfl rfl get_here rfl (mapW_get (by rw [hl2]; omega))) ?_
   refine PQ.pure (dst := (some 40)) (v := (W ((((ws2.getD (k - 3) 0) ^^^ (ws2.getD (k - 8) 0)) ^^^ (ws2.getD (k - 14) 0)) ^^^ (ws2.getD (k - 16) 0)))) rfl rfl rfl noStore (none_ok _ _) (r_bin rfl rfl rfl (b_xorW (((ws2.getD (k - 3) 0) ^^^ (ws2.getD (k - 8) 0)) ^^^ (ws2.getD (k - 14) 0)) (ws2.getD (k - 16) 0))) ?_
   refine PQ.callP (dst := (some 41)) (all := [(W ((((ws2.getD (k - 3) 0) ^^^ (ws2.getD (k - 8) 0)) ^^^ (ws2.getD (k - 14) 0)) ^^^ (ws2.getD (k - 16) 0))), (.int .i64 1)]) (v := (W (rl ((((ws2.getD (k - 3) 0) ^^^ (ws2.getD (k - 8) 0)) ^^^ (ws2.getD (k - 14) 0)) ^^^ (ws2.getD (k - 16) 0)) 1))) noStore (dom_none _) rfl rfl rfl rfl rfl rfl rfl rfl (none_ok _ _) (s57 _ 1 (by decide)) ?_
   intro n5 hn5
   refine PQ.pure (dst := (some 42)) (v := (.pointer (some ⟨(n + 1), 0, some k⟩))) rfl rfl rfl noStore (none_ok _ _) (r_iaA (l := k) rfl rfl rfl rfl rfl rfl (by omega) (by omega) (by show 0 + k * 1 = k; omega)) ?_
   refine PQ.op (dst := none) (v := (.tuple #[])) (n1 := n5) (d1 := [((n + 1), some ⟨[((ws2.set k (rl ((((ws2.getD (k - 3) 0) ^^^ (ws2.getD (k - 8) 0)) ^^^ (ws2.getD (k - 14) 0)) ^^^ (ws2.getD (k - 16) 0)) 1)).map W)], 80, 79, true⟩)]) rfl rfl rfl _ (seen_any (V := []) (D := [((n + 1), some ⟨[(ws2.map W)], 80, 79, true⟩), (n, some ⟨[((List.replicate 80 0#32).map W)], 80, 79, true⟩)]) (by kernel_rfl)) (r_storeW rfl rfl rfl rfl rfl rfl get_here (by rw [hl2]; omega)) (by omega) (kp1 (wr_tight (by kernel_rfl) (by omega))) ?_
   refine PQ.done (d := [((n + 1), some ⟨[((ws2.set k (rl ((((ws2.getD (k - 3) 0) ^^^ (ws2.getD (k - 8) 0)) ^^^ (ws2.getD (k - 14) 0)) ^^^ (ws2.getD (k - 16) 0)) 1)).map W)], 80, 79, true⟩)]) (by kernel_rfl) ?_
   intro _
   refine RA.rebase [(0, (.string s)), (2, (.pointer (some ⟨n, 0, some 0⟩))), (3, (.pointer (some ⟨(n + 1), 0, some 0⟩))), (6, (.int .i64 ((k : Nat) : Int))), (18, (.bool true))] ⟨rfl, rfl, rfl, rfl, rfl, trivial⟩ (fun τr6 => ?_)
   refine RA.region env_ok ?_
   refine OA.p (some 19) (.int .i64 ((k : Nat) : Int)) rfl rfl rfl rfl ?_
   refine OA.p (some 20) (.int .i64 (((k + 1) : Nat) : Int)) rfl rfl rfl (r_bin rfl rfl rfl (b_add (i64_eq (by omega)))) ?_
   refine OA.p (some 6) (.int .i64 (((k + 1) : Nat) : Int)) rfl rfl rfl rfl ?_
   refine OA.nil ?_
   refine ⟨(80 - (k + 1)), by omega, [((n + 1), some ⟨[((ws2.set k (rl ((((ws2.getD (k - 3) 0) ^^^ (ws2.getD (k - 8) 0)) ^^^ (ws2.getD (k - 14) 0)) ^^^ (ws2.getD (k - 16) 0)) 1)).map W)], 80, 79, true⟩), (n, some ⟨[((List.replicate 80 0#32).map W)], 80, 79, true⟩)], (Less.of (fac (mm (fun _ => get_here) (fun _ => get_here)) (fac (mm (fun _ => (get_there (by omega) get_here)) (fun _ => (gt2 (by omega) get_here))) fan)) (gone_of (by simp only [goneP, memP, List.cons_append, List.nil_append, true_or, or_true, true_and, and_true, or_false] <;> omega))), (k + 1), (ws2.set k (rl (ws2.getD (k - 3) 0 ^^^ ws2.getD (k - 8) 0 ^^^ ws2.getD (k - 14) 0 ^^^ ws2.getD (k - 16) 0) 1)), rfl, by omega, ⟨rfl, rfl, rfl, rfl, trivial⟩, rfl, (kb2 (by omega)), ⟨by omega, by omega, by rw [List.length_set]; exact hl2, fun j hj => (Nat.lt_or_ge j k).elim (fun h => by rw [lset_ne (by omega)]; exact hf2 j h) (fun h => by rw [show j = k from by omega, lset_self (by omega), wd_hi (by omega), hf2 _ (by omega), hf2 _ (by omega), hf2 _ (by omega), hf2 _ (by omega)])⟩⟩
  ·
   refine OA.p (some 18) (.bool false) rfl rfl rfl (Eq.trans (r_bin rfl rfl rfl (b_lss rfl)) (dF hc2)) ?_
   refine OA.nil ?_
   intro _
   refine RA.condF rfl ?_
   refine RA.exit env_ok ?_
   intro _
   refine RA.seq hd ?_
   refine RA.region env_ok ?_
   refine OA.p (some 43) (.agg ⟨(ws2.map W)⟩) rfl rfl rfl (r_loadA rfl rfl rfl rfl get_here rfl (take_all (by simp [hl2]; rfl)) (by simp [hl2]; rfl)) ?_
   refine OA.op1 (dst := none) (v := (.tuple #[])) (n1 := n4) (w := (n, some ⟨[(ws2.map W)], 80, 79, true⟩)) rfl rfl rfl (r_storeAll rfl rfl rfl rfl (by simp [hl2]; rfl) (mapW_one _) (get_there (by omega) get_here) rfl rfl (by simp [List.length_replicate]; rfl)) (by omega) ?_
   refine OA.nil ?_
   intro _
   refine RA.ret env_ok ?_
   refine ⟨.inr rfl, [(.agg ⟨(ws2.map W)⟩)], (resL_cons (res_cellA rfl rfl rfl get_here rfl (take_all (by simp [hl2]; rfl)) (by simp [hl2]; rfl)) resL_nil), (by rw [one, list_of (d := 0#32) hl2 (fun j hj => hf2 j (by omega))]), (kc3 (by omega))⟩
end Go.Proofs.Ytdnkhdkflemkeaa.Vt
