/- Dm1: walks through functions of the program, by the calculus; written by a program of this workplace. -/
import Derived.Test.YtdnkhdkflemkeaaDg8
import Derived.Test.YtdnkhdkflemkeaaDg5
import Derived.Test.YtdnkhdkflemkeaaDgC
import Derived.Test.YtdnkhdkflemkeaaVm5
namespace Go.Proofs.Ytdnkhdkflemkeaa.Vt
open Go Go.Proofs Go.Proofs.YtdnkhdkflemkeaaV
set_option maxRecDepth 100000
set_option linter.unusedVariables false
set_option linter.unusedSimpArgs false
theorem sha_size2 (s : ByteArray) : (sha s).size = 20 := rfl
def padK (key : ByteArray) : ByteArray := if 64 < key.size then sha key else key
def padF (key : ByteArray) (b : UInt8) : ByteArray := bstr ((List.range 64).map fun i => (L (padK key)).getD i 0 ^^^ b)
theorem padF_size (key : ByteArray) (b : UInt8) : (padF key b).size = 64 := by rw [padF, bstr_size, List.length_map, List.length_range]
def macF (key s : ByteArray) : ByteArray := sha (padF key 92 ++ sha (padF key 54 ++ s))
theorem macF_size (key s : ByteArray) : (macF key s).size = 20 := rfl
theorem padK_hi {key : ByteArray} (h : 64 < key.size) : padK key = sha key := if_pos h
theorem padK_lo {key : ByteArray} (h : ¬ 64 < key.size) : padK key = key := if_neg h
theorem getD_app0 (l : List UInt8) (m j : Nat) : (l ++ List.replicate m 0).getD j 0 = l.getD j 0 := by
  simp only [List.getD_eq_getElem?_getD]
  rcases Nat.lt_or_ge j l.length with h | h
  · rw [List.getElem?_append_left h]
  · rw [List.getElem?_append_right h, List.getElem?_eq_none h]
    cases hr : (List.replicate m (0 : UInt8))[j - l.length]? with
    | none => rfl
    | some v => rw [List.getElem?_replicate] at hr; split at hr; · cases hr; rfl
                · cases hr
theorem getD_out {l : List UInt8} {j : Nat} (h : l.length ≤ j) : l.getD j 0 = 0 := by
  rw [List.getD_eq_getElem?_getD, List.getElem?_eq_none h]; rfl
theorem getD_rep (m j : Nat) : (List.replicate m (0 : UInt8)).getD j 0 = 0 := by
  have := getD_app0 [] m j
  simpa using this
theorem pad_list {l : List UInt8} {k : ByteArray} {b : UInt8} (h : l.length = 64) (hf : ∀ j, j < 64 → l.getD j 0 = (L k).getD j 0 ^^^ b) : l = (List.range 64).map fun i => (L k).getD i 0 ^^^ b := list_of h hf
theorem pad_done {k key : ByteArray} {c : UInt8} {l : List UInt8} {i : Nat} (hk : padK key = k) (hi : i = 64) (hl : l.length = 64) (hf : ∀ j, j < 64 → l.getD j 0 = if j < i then (L k).getD j 0 ^^^ c else (L k).getD j 0) : one [Value.string (bstr ((l.drop 0).take 64))] = .string (padF key c) := by
  subst hi
  subst hk
  rw [one, List.drop_zero, List.take_of_length_le (by omega), padF]
  exact congrArg Value.string (congrArg bstr (pad_list hl (fun j hj => by rw [hf j hj, if_pos hj])))
theorem get_getD {s : ByteArray} {i : Nat} (h : i < s.size) : s.get! i = (L s).getD i 0 := by
  rw [List.getD_eq_getElem?_getD, L_get s i h]; rfl
theorem string_cast {a b : ByteArray} (h : a = b) : Value.string a = Value.string b := congrArg _ h
theorem s43 {σ : Store} (key : ByteArray) (c : UInt8) (hk : key.size < 4294967296)   : PS Try.prog noDen 43 [(.string key), (.int .u8 ((c.toNat : Nat) : Int))] σ (.string (padF key c)) := by
 refine PS.body (E := env) env_ok rfl rfl (by show _ ≤ _; exact of_decide_eq_true (by kernel_rfl)) (fun n hd => ?_)
 refine RA.seq hd ?_
 refine RA.region env_ok ?_
 refine OA.p (some 4) (.string (ByteArray.mk #[])) rfl rfl rfl rfl ?_
 refine OA.nil ?_
 intro _
 refine RA.seq hd ?_
 refine RA.seq hd ?_
 refine RA.region env_ok ?_
 refine OA.p (some 7) (.string key) rfl rfl rfl rfl ?_
 refine OA.p (some 8) (.int .i64 ((key.size : Nat) : Int)) rfl rfl rfl rfl ?_
 by_cases hc1 : 64 < ((key.size : Nat) : Int)
 ·
  refine OA.p (some 9) (.bool true) rfl rfl rfl (Eq.trans (r_bin rfl rfl rfl (b_gtr rfl)) (dT hc1)) ?_
  refine OA.nil ?_
  intro _
  refine RA.condT rfl ?_
  refine RA.region env_ok ?_
  refine OA.p (some 10) (.string key) rfl rfl rfl rfl ?_
  refine OA.callP (dst := (some 11)) (all := [(.string key)]) (v := (.string (sha key))) (hd.up (by omega)) rfl rfl rfl rfl rfl rfl rfl rfl (s15 key (by omega)) ?_
  intro n1 hn1
  refine OA.p (some 0) (.string (sha key)) rfl rfl rfl rfl ?_
  refine OA.nil ?_
  intro _
  refine RA.seq hd ?_
  refine RA.region env_ok ?_
  refine OA.op1 (dst := (some 12)) (v := (.slice (some ⟨n1, 0, none⟩) 64 0)) (n1 := (n1 + 1)) (w := (n1, some ⟨(bc (List.replicate 64 0)), 1, 5, true⟩)) rfl rfl rfl (r_makeBytes (K := 64) rfl rfl rfl rfl rfl rfl rfl rfl rfl (by omega)) (by omega) ?_
  refine OA.p (some 5) (.slice (some ⟨n1, 0, none⟩) 64 0) rfl rfl rfl rfl ?_
  refine OA.nil ?_
  intro _
  refine RA.seq hd ?_
  refine RA.region env_ok ?_
  refine OA.p (some 13) (.slice (some ⟨n1, 0, none⟩) 64 0) rfl rfl rfl rfl ?_
  refine OA.p (some 14) (.string (sha key)) rfl rfl rfl rfl ?_
  refine OA.op1 (dst := (some 15)) (v := (.int .i64 (((sha key).size : Nat) : Int))) (n1 := (n1 + 1)) (w := (n1, some ⟨(bc (L (sha key) ++ (List.replicate 64 0).drop (sha key).size)), 1, 5, true⟩)) rfl rfl rfl (r_copyS (N := 64) rfl rfl rfl rfl rfl rfl rfl rfl get_here (by first | rfl | (rw [List.length_replicate])) (by rw [sha_size2]; omega) (by rw [sha_size2]; decide)) (by omega) ?_
  refine OA.nil ?_
  intro _
  refine RA.seq hd ?_
  refine RA.seq hd ?_
  refine RA.region env_ok ?_
  refine OA.p (some 16) (.slice (some ⟨n1, 0, none⟩) 64 0) rfl rfl rfl rfl ?_
  refine OA.p (some 17) (.int .i64 64) rfl rfl rfl rfl ?_
  refine OA.p (some 18) (.int .i64 0) rfl rfl rfl rfl ?_
  refine OA.nil ?_
  intro _
  refine RA.block ?_
  refine RA.weaken (D' := [(n1, some ⟨(bc (L (sha key) ++ (List.replicate 64 0).drop (sha key).size)), 1, 5, true⟩)]) hd (Less.of (fac (mm (fun _ => get_here) (fun _ => get_here)) fan) (gone_of (by simp only [goneP, memP, List.cons_append, List.nil_append, true_or, or_true, true_and, and_true, or_false] <;> omega))) ?_
  refine RA.loop hd (fun kk_ τ n' D => ∃ i : Nat, ∃ l : List UInt8,  kk_ = (64 - i) ∧ (n1 + 1) ≤ n' ∧ Has τ [(1, (.int .u8 ((c.toNat : Nat) : Int))), (5, (.slice (some ⟨n1, 0, none⟩) 64 0)), (17, (.int .i64 64)), (18, (.int .i64 ((i : Nat) : Int)))] ∧ D = [(n1, some ⟨(bc l), 1, 5, true⟩)] ∧ (∀ i ∈ keys D, i < n') ∧ i ≤ 64 ∧ l.length = 64 ∧ ∀ j, j < 64 → l.getD j 0 = if j < i then (L (sha key)).getD j 0 ^^^ c else (L (sha key)).getD j 0) ((64 - 0)) ⟨0, (L (sha key) ++ (List.replicate 64 0).drop (sha key).size), rfl, by omega, ⟨rfl, rfl, rfl, rfl, trivial⟩, rfl, (kb1 (by omega)), ⟨by omega, by first | (rw [copy_len (List.replicate 64 0) (sha key) (by first | omega | (simp only [List.length_replicate, sha_size2]; omega))]; done) | exact (copy_len (List.replicate 64 0) (sha key) (by first | omega | (simp only [List.length_replicate, sha_size2]; omega))), fun j hj => by rw [if_neg (by omega), List.drop_replicate, getD_app0]⟩⟩ ?_
  rintro kn2 τ2 n2 _ ⟨i, l, rfl, hn2, hHn2, rfl, hKn2, hIn2⟩
  rw [Has.eq hHn2]
  have hKn2_0 : n1 < n2 := hKn2 _ (by simp only [keys, List.map_cons, List.map_nil, List.mem_cons, true_or, or_true])
  simp only [keys, List.map, List.forall_mem_cons, List.mem_cons, List.not_mem_nil, false_imp_iff, implies_true, and_true] at hKn2
  obtain ⟨hi, hl, hf⟩ := hIn2
  refine RA.seq hd ?_
  refine RA.region env_ok ?_
  by_cases hc2 : ((i : Nat) : Int) < 64
  ·
   refine OA.p (some 19) (.bool true) rfl rfl rfl (Eq.trans (r_bin rfl rfl rfl (b_lss rfl)) (dT hc2)) ?_
   refine OA.nil ?_
   intro _
   refine RA.seq hd ?_
   refine RA.condT rfl ?_
   refine RA.skip env_ok ?_
   intro _
   refine RA.seq hd ?_
   refine RA.block ?_
   refine RA.seq hd ?_
   refine RA.region env_ok ?_
   refine OA.p (some 20) (.int .i64 ((i : Nat) : Int)) rfl rfl rfl rfl ?_
   refine OA.p (some 6) (.int .i64 ((i : Nat) : Int)) rfl rfl rfl rfl ?_
   refine OA.nil ?_
   intro _
   refine RA.region env_ok ?_
   refine OA.p (some 21) (.slice (some ⟨n1, 0, none⟩) 64 0) rfl rfl rfl rfl ?_
   refine OA.p (some 22) (.int .i64 ((i : Nat) : Int)) rfl rfl rfl rfl ?_
   refine OA.p (some 23) (.pointer (some ⟨n1, i, some 0⟩)) rfl rfl rfl (r_iaS (l := i) rfl rfl rfl rfl rfl rfl (by omega) (by omega) get_here rfl (by omega)) ?_
   refine OA.p (some 24) (.int .u8 (((l.getD i 0).toNat : Nat) : Int)) rfl rfl rfl (r_loadB rfl rfl rfl rfl rfl get_here (by rw [hl]; omega)) ?_
   refine OA.p (some 25) (.int .u8 ((c.toNat : Nat) : Int)) rfl rfl rfl rfl ?_
   refine OA.p (some 26) (.int .u8 ((((l.getD i 0) ^^^ c).toNat : Nat) : Int)) rfl rfl rfl (r_bin rfl rfl rfl (b_xor8 (l.getD i 0) c)) ?_
   refine OA.p (some 27) (.pointer (some ⟨n1, i, some 0⟩)) rfl rfl rfl (r_iaS (l := i) rfl rfl rfl rfl rfl rfl (by omega) (by omega) get_here rfl (by omega)) ?_
   refine OA.op1 (dst := none) (v := (.tuple #[])) (n1 := n2) (w := (n1, some ⟨(bc (l.set i ((l.getD i 0) ^^^ c))), 1, 5, true⟩)) rfl rfl rfl (r_storeB (B' := ((l.getD i 0) ^^^ c)) rfl rfl rfl rfl rfl get_here (by rw [hl]; omega)) (by omega) ?_
   refine OA.nil ?_
   intro _
   refine RA.region env_ok ?_
   refine OA.p (some 28) (.int .i64 (((i + 1) : Nat) : Int)) rfl rfl rfl (r_bin rfl rfl rfl (b_add (i64_eq (by omega)))) ?_
   refine OA.p (some 18) (.int .i64 (((i + 1) : Nat) : Int)) rfl rfl rfl rfl ?_
   refine OA.nil ?_
   refine ⟨(64 - (i + 1)), by omega, [(n1, some ⟨(bc (l.set i ((l.getD i 0) ^^^ c))), 1, 5, true⟩)], (Less.of (fac (mm (fun _ => get_here) (fun _ => get_here)) fan) (gone_of (by simp only [goneP, memP, List.cons_append, List.nil_append, true_or, or_true, true_and, and_true, or_false] <;> omega))), (i + 1), (l.set i ((l.getD i 0) ^^^ c)), rfl, by omega, ⟨rfl, rfl, rfl, rfl, trivial⟩, rfl, (kb1 (by omega)), ⟨by omega, by rw [List.length_set]; exact hl, fun j hj => (Nat.lt_trichotomy j i).elim (fun h => by rw [lset_ne (by omega), hf j hj, if_pos h, if_pos (by omega)]) (fun h => h.elim (fun h => by subst h; rw [lset_self (by omega), hf _ hj, if_neg (by omega), if_pos (by omega)]) (fun h => by rw [lset_ne (by omega), hf j hj, if_neg (by omega), if_neg (by omega)]))⟩⟩
  ·
   refine OA.p (some 19) (.bool false) rfl rfl rfl (Eq.trans (r_bin rfl rfl rfl (b_lss rfl)) (dF hc2)) ?_
   refine OA.nil ?_
   intro _
   refine RA.seq hd ?_
   refine RA.condF rfl ?_
   refine RA.exit env_ok ?_
   intro _
   refine RA.seq hd ?_
   refine RA.region env_ok ?_
   refine OA.p (some 29) (.slice (some ⟨n1, 0, none⟩) 64 0) rfl rfl rfl rfl ?_
   refine OA.p (some 30) (.string (bstr ((l.drop 0).take 64))) rfl rfl rfl (r_b2s rfl rfl rfl rfl rfl rfl rfl rfl get_here (by rw [hl]; omega)) ?_
   refine OA.p (some 4) (.string (bstr ((l.drop 0).take 64))) rfl rfl rfl rfl ?_
   refine OA.nil ?_
   intro _
   refine RA.ret env_ok ?_
   refine ⟨.inr rfl, [(.string (bstr ((l.drop 0).take 64)))], (resL_cons rfl resL_nil), (by first | exact pad_done (padK_hi (by omega)) (by omega) hl hf | exact pad_done (padK_lo (by omega)) (by omega) hl hf), (kc1 (by omega))⟩
 ·
  refine OA.p (some 9) (.bool false) rfl rfl rfl (Eq.trans (r_bin rfl rfl rfl (b_gtr rfl)) (dF hc1)) ?_
  refine OA.nil ?_
  intro _
  refine RA.condF rfl ?_
  refine RA.skip env_ok ?_
  intro _
  refine RA.seq hd ?_
  refine RA.region env_ok ?_
  refine OA.op1 (dst := (some 12)) (v := (.slice (some ⟨n, 0, none⟩) 64 0)) (n1 := (n + 1)) (w := (n, some ⟨(bc (List.replicate 64 0)), 1, 5, true⟩)) rfl rfl rfl (r_makeBytes (K := 64) rfl rfl rfl rfl rfl rfl rfl rfl rfl (by omega)) (by omega) ?_
  refine OA.p (some 5) (.slice (some ⟨n, 0, none⟩) 64 0) rfl rfl rfl rfl ?_
  refine OA.nil ?_
  intro _
  refine RA.seq hd ?_
  refine RA.region env_ok ?_
  refine OA.p (some 13) (.slice (some ⟨n, 0, none⟩) 64 0) rfl rfl rfl rfl ?_
  refine OA.p (some 14) (.string key) rfl rfl rfl rfl ?_
  by_cases hc3 : key.size = 0
  ·
   refine OA.p (some 15) (.int .i64 0) rfl rfl rfl (r_copyS0 rfl rfl rfl rfl rfl rfl rfl rfl hc3) ?_
   refine OA.nil ?_
   intro _
   refine RA.seq hd ?_
   refine RA.seq hd ?_
   refine RA.region env_ok ?_
   refine OA.p (some 16) (.slice (some ⟨n, 0, none⟩) 64 0) rfl rfl rfl rfl ?_
   refine OA.p (some 17) (.int .i64 64) rfl rfl rfl rfl ?_
   refine OA.p (some 18) (.int .i64 0) rfl rfl rfl rfl ?_
   refine OA.nil ?_
   intro _
   refine RA.block ?_
   refine RA.loop hd (fun kk_ τ n' D => ∃ i : Nat, ∃ l : List UInt8,  kk_ = (64 - i) ∧ (n + 1) ≤ n' ∧ Has τ [(1, (.int .u8 ((c.toNat : Nat) : Int))), (5, (.slice (some ⟨n, 0, none⟩) 64 0)), (17, (.int .i64 64)), (18, (.int .i64 ((i : Nat) : Int)))] ∧ D = [(n, some ⟨(bc l), 1, 5, true⟩)] ∧ (∀ i ∈ keys D, i < n') ∧ i ≤ 64 ∧ l.length = 64 ∧ ∀ j, j < 64 → l.getD j 0 = if j < i then (L key).getD j 0 ^^^ c else (L key).getD j 0) ((64 - 0)) ⟨0, (List.replicate 64 0), rfl, by omega, ⟨rfl, rfl, rfl, rfl, trivial⟩, rfl, (kb1 (by omega)), ⟨by omega, by first | (rw [List.length_replicate]; done) | exact (List.length_replicate), fun j hj => by rw [if_neg (by omega), getD_rep, getD_out (by rw [L_len]; omega)]⟩⟩ ?_
   rintro kn3 τ3 n3 _ ⟨i, l, rfl, hn3, hHn3, rfl, hKn3, hIn3⟩
   rw [Has.eq hHn3]
   have hKn3_0 : n < n3 := hKn3 _ (by simp only [keys, List.map_cons, List.map_nil, List.mem_cons, true_or, or_true])
   simp only [keys, List.map, List.forall_mem_cons, List.mem_cons, List.not_mem_nil, false_imp_iff, implies_true, and_true] at hKn3
   obtain ⟨hi, hl, hf⟩ := hIn3
   refine RA.seq hd ?_
   refine RA.region env_ok ?_
   by_cases hc4 : ((i : Nat) : Int) < 64
   ·
    refine OA.p (some 19) (.bool true) rfl rfl rfl (Eq.trans (r_bin rfl rfl rfl (b_lss rfl)) (dT hc4)) ?_
    refine OA.nil ?_
    intro _
    refine RA.seq hd ?_
    refine RA.condT rfl ?_
    refine RA.skip env_ok ?_
    intro _
    refine RA.seq hd ?_
    refine RA.block ?_
    refine RA.seq hd ?_
    refine RA.region env_ok ?_
    refine OA.p (some 20) (.int .i64 ((i : Nat) : Int)) rfl rfl rfl rfl ?_
    refine OA.p (some 6) (.int .i64 ((i : Nat) : Int)) rfl rfl rfl rfl ?_
    refine OA.nil ?_
    intro _
    refine RA.region env_ok ?_
    refine OA.p (some 21) (.slice (some ⟨n, 0, none⟩) 64 0) rfl rfl rfl rfl ?_
    refine OA.p (some 22) (.int .i64 ((i : Nat) : Int)) rfl rfl rfl rfl ?_
    refine OA.p (some 23) (.pointer (some ⟨n, i, some 0⟩)) rfl rfl rfl (r_iaS (l := i) rfl rfl rfl rfl rfl rfl (by omega) (by omega) get_here rfl (by omega)) ?_
    refine OA.p (some 24) (.int .u8 (((l.getD i 0).toNat : Nat) : Int)) rfl rfl rfl (r_loadB rfl rfl rfl rfl rfl get_here (by rw [hl]; omega)) ?_
    refine OA.p (some 25) (.int .u8 ((c.toNat : Nat) : Int)) rfl rfl rfl rfl ?_
    refine OA.p (some 26) (.int .u8 ((((l.getD i 0) ^^^ c).toNat : Nat) : Int)) rfl rfl rfl (r_bin rfl rfl rfl (b_xor8 (l.getD i 0) c)) ?_
    refine OA.p (some 27) (.pointer (some ⟨n, i, some 0⟩)) rfl rfl rfl (r_iaS (l := i) rfl rfl rfl rfl rfl rfl (by omega) (by omega) get_here rfl (by omega)) ?_
    refine OA.op1 (dst := none) (v := (.tuple #[])) (n1 := n3) (w := (n, some ⟨(bc (l.set i ((l.getD i 0) ^^^ c))), 1, 5, true⟩)) rfl rfl rfl (r_storeB (B' := ((l.getD i 0) ^^^ c)) rfl rfl rfl rfl rfl get_here (by rw [hl]; omega)) (by omega) ?_
    refine OA.nil ?_
    intro _
    refine RA.region env_ok ?_
    refine OA.p (some 28) (.int .i64 (((i + 1) : Nat) : Int)) rfl rfl rfl (r_bin rfl rfl rfl (b_add (i64_eq (by omega)))) ?_
    refine OA.p (some 18) (.int .i64 (((i + 1) : Nat) : Int)) rfl rfl rfl rfl ?_
    refine OA.nil ?_
    refine ⟨(64 - (i + 1)), by omega, [(n, some ⟨(bc (l.set i ((l.getD i 0) ^^^ c))), 1, 5, true⟩)], (Less.of (fac (mm (fun _ => get_here) (fun _ => get_here)) fan) (gone_of (by simp only [goneP, memP, List.cons_append, List.nil_append, true_or, or_true, true_and, and_true, or_false] <;> omega))), (i + 1), (l.set i ((l.getD i 0) ^^^ c)), rfl, by omega, ⟨rfl, rfl, rfl, rfl, trivial⟩, rfl, (kb1 (by omega)), ⟨by omega, by rw [List.length_set]; exact hl, fun j hj => (Nat.lt_trichotomy j i).elim (fun h => by rw [lset_ne (by omega), hf j hj, if_pos h, if_pos (by omega)]) (fun h => h.elim (fun h => by subst h; rw [lset_self (by omega), hf _ hj, if_neg (by omega), if_pos (by omega)]) (fun h => by rw [lset_ne (by omega), hf j hj, if_neg (by omega), if_neg (by omega)]))⟩⟩
   ·
    refine OA.p (some 19) (.bool false) rfl rfl rfl (Eq.trans (r_bin rfl rfl rfl (b_lss rfl)) (dF hc4)) ?_
    refine OA.nil ?_
    intro _
    refine RA.seq hd ?_
    refine RA.condF rfl ?_
    refine RA.exit env_ok ?_
    intro _
    refine RA.seq hd ?_
    refine RA.region env_ok ?_
    refine OA.p (some 29) (.slice (some ⟨n, 0, none⟩) 64 0) rfl rfl rfl rfl ?_
    refine OA.p (some 30) (.string (bstr ((l.drop 0).take 64))) rfl rfl rfl (r_b2s rfl rfl rfl rfl rfl rfl rfl rfl get_here (by rw [hl]; omega)) ?_
    refine OA.p (some 4) (.string (bstr ((l.drop 0).take 64))) rfl rfl rfl rfl ?_
    refine OA.nil ?_
    intro _
    refine RA.ret env_ok ?_
    refine ⟨.inr rfl, [(.string (bstr ((l.drop 0).take 64)))], (resL_cons rfl resL_nil), (by first | exact pad_done (padK_hi (by omega)) (by omega) hl hf | exact pad_done (padK_lo (by omega)) (by omega) hl hf), (kc1 (by omega))⟩
  ·
   refine OA.op1 (dst := (some 15)) (v := (.int .i64 ((key.size : Nat) : Int))) (n1 := (n + 1)) (w := (n, some ⟨(bc (L key ++ (List.replicate 64 0).drop key.size)), 1, 5, true⟩)) rfl rfl rfl (r_copyS (N := 64) rfl rfl rfl rfl rfl rfl rfl rfl get_here (by first | rfl | (rw [List.length_replicate])) (by omega) hc3) (by omega) ?_
   refine OA.nil ?_
   intro _
   refine RA.seq hd ?_
   refine RA.seq hd ?_
   refine RA.region env_ok ?_
   refine OA.p (some 16) (.slice (some ⟨n, 0, none⟩) 64 0) rfl rfl rfl rfl ?_
   refine OA.p (some 17) (.int .i64 64) rfl rfl rfl rfl ?_
   refine OA.p (some 18) (.int .i64 0) rfl rfl rfl rfl ?_
   refine OA.nil ?_
   intro _
   refine RA.block ?_
   refine RA.weaken (D' := [(n, some ⟨(bc (L key ++ (List.replicate 64 0).drop key.size)), 1, 5, true⟩)]) hd (Less.of (fac (mm (fun _ => get_here) (fun _ => get_here)) fan) (gone_of (by simp only [goneP, memP, List.cons_append, List.nil_append, true_or, or_true, true_and, and_true, or_false] <;> omega))) ?_
   refine RA.loop hd (fun kk_ τ n' D => ∃ i : Nat, ∃ l : List UInt8,  kk_ = (64 - i) ∧ (n + 1) ≤ n' ∧ Has τ [(1, (.int .u8 ((c.toNat : Nat) : Int))), (5, (.slice (some ⟨n, 0, none⟩) 64 0)), (17, (.int .i64 64)), (18, (.int .i64 ((i : Nat) : Int)))] ∧ D = [(n, some ⟨(bc l), 1, 5, true⟩)] ∧ (∀ i ∈ keys D, i < n') ∧ i ≤ 64 ∧ l.length = 64 ∧ ∀ j, j < 64 → l.getD j 0 = if j < i then (L key).getD j 0 ^^^ c else (L key).getD j 0) ((64 - 0)) ⟨0, (L key ++ (List.replicate 64 0).drop key.size), rfl, by omega, ⟨rfl, rfl, rfl, rfl, trivial⟩, rfl, (kb1 (by omega)), ⟨by omega, by first | (rw [copy_len (List.replicate 64 0) key (by first | omega | (simp only [List.length_replicate, List.length_replicate]; omega))]; done) | exact (copy_len (List.replicate 64 0) key (by first | omega | (simp only [List.length_replicate, List.length_replicate]; omega))), fun j hj => by rw [if_neg (by omega), List.drop_replicate, getD_app0]⟩⟩ ?_
   rintro kn4 τ4 n4 _ ⟨i, l, rfl, hn4, hHn4, rfl, hKn4, hIn4⟩
   rw [Has.eq hHn4]
   have hKn4_0 : n < n4 := hKn4 _ (by simp only [keys, List.map_cons, List.map_nil, List.mem_cons, true_or, or_true])
   simp only [keys, List.map, List.forall_mem_cons, List.mem_cons, List.not_mem_nil, false_imp_iff, implies_true, and_true] at hKn4
   obtain ⟨hi, hl, hf⟩ := hIn4
   refine RA.seq hd ?_
   refine RA.region env_ok ?_
   by_cases hc5 : ((i : Nat) : Int) < 64
   ·
    refine OA.p (some 19) (.bool true) rfl rfl rfl (Eq.trans (r_bin rfl rfl rfl (b_lss rfl)) (dT hc5)) ?_
    refine OA.nil ?_
    intro _
    refine RA.seq hd ?_
    refine RA.condT rfl ?_
    refine RA.skip env_ok ?_
    intro _
    refine RA.seq hd ?_
    refine RA.block ?_
    refine RA.seq hd ?_
    refine RA.region env_ok ?_
    refine OA.p (some 20) (.int .i64 ((i : Nat) : Int)) rfl rfl rfl rfl ?_
    refine OA.p (some 6) (.int .i64 ((i : Nat) : Int)) rfl rfl rfl rfl ?_
    refine OA.nil ?_
    intro _
    refine RA.region env_ok ?_
    refine OA.p (some 21) (.slice (some ⟨n, 0, none⟩) 64 0) rfl rfl rfl rfl ?_
    refine OA.p (some 22) (.int .i64 ((i : Nat) : Int)) rfl rfl rfl rfl ?_
    refine OA.p (some 23) (.pointer (some ⟨n, i, some 0⟩)) rfl rfl rfl (r_iaS (l := i) rfl rfl rfl rfl rfl rfl (by omega) (by omega) get_here rfl (by omega)) ?_
    refine OA.p (some 24) (.int .u8 (((l.getD i 0).toNat : Nat) : Int)) rfl rfl rfl (r_loadB rfl rfl rfl rfl rfl get_here (by rw [hl]; omega)) ?_
    refine OA.p (some 25) (.int .u8 ((c.toNat : Nat) : Int)) rfl rfl rfl rfl ?_
    refine OA.p (some 26) (.int .u8 ((((l.getD i 0) ^^^ c).toNat : Nat) : Int)) rfl rfl rfl (r_bin rfl rfl rfl (b_xor8 (l.getD i 0) c)) ?_
    refine OA.p (some 27) (.pointer (some ⟨n, i, some 0⟩)) rfl rfl rfl (r_iaS (l := i) rfl rfl rfl rfl rfl rfl (by omega) (by omega) get_here rfl (by omega)) ?_
    refine OA.op1 (dst := none) (v := (.tuple #[])) (n1 := n4) (w := (n, some ⟨(bc (l.set i ((l.getD i 0) ^^^ c))), 1, 5, true⟩)) rfl rfl rfl (r_storeB (B' := ((l.getD i 0) ^^^ c)) rfl rfl rfl rfl rfl get_here (by rw [hl]; omega)) (by omega) ?_
    refine OA.nil ?_
    intro _
    refine RA.region env_ok ?_
    refine OA.p (some 28) (.int .i64 (((i + 1) : Nat) : Int)) rfl rfl rfl (r_bin rfl rfl rfl (b_add (i64_eq (by omega)))) ?_
    refine OA.p (some 18) (.int .i64 (((i + 1) : Nat) : Int)) rfl rfl rfl rfl ?_
    refine OA.nil ?_
    refine ⟨(64 - (i + 1)), by omega, [(n, some ⟨(bc (l.set i ((l.getD i 0) ^^^ c))), 1, 5, true⟩)], (Less.of (fac (mm (fun _ => get_here) (fun _ => get_here)) fan) (gone_of (by simp only [goneP, memP, List.cons_append, List.nil_append, true_or, or_true, true_and, and_true, or_false] <;> omega))), (i + 1), (l.set i ((l.getD i 0) ^^^ c)), rfl, by omega, ⟨rfl, rfl, rfl, rfl, trivial⟩, rfl, (kb1 (by omega)), ⟨by omega, by rw [List.length_set]; exact hl, fun j hj => (Nat.lt_trichotomy j i).elim (fun h => by rw [lset_ne (by omega), hf j hj, if_pos h, if_pos (by omega)]) (fun h => h.elim (fun h => by subst h; rw [lset_self (by omega), hf _ hj, if_neg (by omega), if_pos (by omega)]) (fun h => by rw [lset_ne (by omega), hf j hj, if_neg (by omega), if_neg (by omega)]))⟩⟩
   ·
    refine OA.p (some 19) (.bool false) rfl rfl rfl (Eq.trans (r_bin rfl rfl rfl (b_lss rfl)) (dF hc5)) ?_
    refine OA.nil ?_
    intro _
    refine RA.seq hd ?_
    refine RA.condF rfl ?_
    refine RA.exit env_ok ?_
    intro _
    refine RA.seq hd ?_
    refine RA.region env_ok ?_
    refine OA.p (some 29) (.slice (some ⟨n, 0, none⟩) 64 0) rfl rfl rfl rfl ?_
    refine OA.p (some 30) (.string (bstr ((l.drop 0).take 64))) rfl rfl rfl (r_b2s rfl rfl rfl rfl rfl rfl rfl rfl get_here (by rw [hl]; omega)) ?_
    refine OA.p (some 4) (.string (bstr ((l.drop 0).take 64))) rfl rfl rfl rfl ?_
    refine OA.nil ?_
    intro _
    refine RA.ret env_ok ?_
    refine ⟨.inr rfl, [(.string (bstr ((l.drop 0).take 64)))], (resL_cons rfl resL_nil), (by first | exact pad_done (padK_hi (by omega)) (by omega) hl hf | exact pad_done (padK_lo (by omega)) (by omega) hl hf), (kc1 (by omega))⟩

theorem s44 {σ : Store} (key : ByteArray) (c : UInt8) (hk : key.size < 4294967296)   : PS Try.prog noDen 44 [(.string key), (.int .u8 ((c.toNat : Nat) : Int))] σ (.string (padF key c)) := by
 refine PS.body (E := env) env_ok rfl rfl (by show _ ≤ _; exact of_decide_eq_true (by kernel_rfl)) (fun n hd => ?_)
 refine RA.seq hd ?_
 refine RA.region env_ok ?_
 refine OA.p (some 4) (.string (ByteArray.mk #[])) rfl rfl rfl rfl ?_
 refine OA.nil ?_
 intro _
 refine RA.seq hd ?_
 refine RA.region env_ok ?_
 refine OA.p (some 9) (.string key) rfl rfl rfl rfl ?_
 refine OA.p (some 5) (.string key) rfl rfl rfl rfl ?_
 refine OA.nil ?_
 intro _
 refine RA.seq hd ?_
 refine RA.seq hd ?_
 refine RA.region env_ok ?_
 refine OA.p (some 10) (.string key) rfl rfl rfl rfl ?_
 refine OA.p (some 11) (.int .i64 ((key.size : Nat) : Int)) rfl rfl rfl rfl ?_
 by_cases hc1 : 64 < ((key.size : Nat) : Int)
 ·
  refine OA.p (some 12) (.bool true) rfl rfl rfl (Eq.trans (r_bin rfl rfl rfl (b_gtr rfl)) (dT hc1)) ?_
  refine OA.nil ?_
  intro _
  refine RA.condT rfl ?_
  refine RA.region env_ok ?_
  refine OA.p (some 13) (.string key) rfl rfl rfl rfl ?_
  refine OA.callP (dst := (some 14)) (all := [(.string key)]) (v := (.string (sha key))) (hd.up (by omega)) rfl rfl rfl rfl rfl rfl rfl rfl (s16 key (by omega)) ?_
  intro n1 hn1
  refine OA.p (some 5) (.string (sha key)) rfl rfl rfl rfl ?_
  refine OA.nil ?_
  intro _
  refine RA.seq hd ?_
  refine RA.region env_ok ?_
  refine OA.p (some 6) (.string (ByteArray.mk #[])) rfl rfl rfl rfl ?_
  refine OA.nil ?_
  intro _
  refine RA.seq hd ?_
  refine RA.seq hd ?_
  refine RA.region env_ok ?_
  refine OA.p (some 7) (.int .i64 0) rfl rfl rfl rfl ?_
  refine OA.nil ?_
  intro _
  refine RA.block ?_
  have hqs : (sha key).size = 20 := rfl
  refine RA.loop hd (fun kk_ τ n' D => ∃ i : Nat,  kk_ = (64 - i) ∧ n1 ≤ n' ∧ Has τ [(1, (.int .u8 ((c.toNat : Nat) : Int))), (5, (.string (sha key))), (6, (.string (bstr ((List.range i).map fun j => (L (sha key)).getD j 0 ^^^ c)))), (7, (.int .i64 ((i : Nat) : Int)))] ∧ D = [] ∧ (∀ i ∈ keys D, i < n') ∧ i ≤ 64) ((64 - 0)) ⟨0, rfl, by omega, ⟨rfl, rfl, rfl, rfl, trivial⟩, rfl, (fun i hi => by cases hi), by omega⟩ ?_
  rintro kn2 τ2 n2 _ ⟨i, rfl, hn2, hHn2, rfl, hKn2, hIn2⟩
  rw [Has.eq hHn2]
  simp only [keys, List.map, List.forall_mem_cons, List.mem_cons, List.not_mem_nil, false_imp_iff, implies_true, and_true] at hKn2
  refine RA.seq hd ?_
  refine RA.seq hd ?_
  refine RA.region env_ok ?_
  refine OA.p (some 15) (.int .i64 ((i : Nat) : Int)) rfl rfl rfl rfl ?_
  by_cases hc2 : ((i : Nat) : Int) < 64
  ·
   refine OA.p (some 16) (.bool true) rfl rfl rfl (Eq.trans (r_bin rfl rfl rfl (b_lss rfl)) (dT hc2)) ?_
   refine OA.nil ?_
   intro _
   refine RA.condT rfl ?_
   refine RA.skip env_ok ?_
   intro _
   refine RA.seq hd ?_
   refine RA.block ?_
   refine RA.seq hd ?_
   refine RA.region env_ok ?_
   refine OA.p (some 19) (.int .u8 ((c.toNat : Nat) : Int)) rfl rfl rfl rfl ?_
   refine OA.p (some 8) (.int .u8 ((c.toNat : Nat) : Int)) rfl rfl rfl rfl ?_
   refine OA.nil ?_
   intro _
   refine RA.seq hd ?_
   refine RA.seq hd ?_
   refine RA.region env_ok ?_
   refine OA.p (some 20) (.int .i64 ((i : Nat) : Int)) rfl rfl rfl rfl ?_
   refine OA.p (some 21) (.string (sha key)) rfl rfl rfl rfl ?_
   refine OA.p (some 22) (.int .i64 20) rfl rfl rfl (Eq.trans (show _ = some (Value.int .i64 (((sha key).size : Nat) : Int), _, []) from rfl) (by rw [sha_size2] <;> rfl)) ?_
   by_cases hc3 : ((i : Nat) : Int) < 20
   ·
    refine OA.p (some 23) (.bool true) rfl rfl rfl (Eq.trans (r_bin rfl rfl rfl (b_lss rfl)) (dT hc3)) ?_
    refine OA.nil ?_
    intro _
    refine RA.condT rfl ?_
    refine RA.region env_ok ?_
    refine OA.p (some 24) (.int .u8 ((c.toNat : Nat) : Int)) rfl rfl rfl rfl ?_
    refine OA.p (some 25) (.string (sha key)) rfl rfl rfl rfl ?_
    refine OA.p (some 26) (.int .i64 ((i : Nat) : Int)) rfl rfl rfl rfl ?_
    refine OA.p (some 27) (.int .u8 (((sha key).get! i).toNat : Nat)) rfl rfl rfl (r_idxS (l := i) rfl rfl rfl rfl rfl (by omega) (by omega)) ?_
    refine OA.p (some 28) (.int .u8 (((c ^^^ ((sha key).get! i)).toNat : Nat) : Int)) rfl rfl rfl (r_bin rfl rfl rfl (b_xor8 c ((sha key).get! i))) ?_
    refine OA.p (some 8) (.int .u8 (((c ^^^ ((sha key).get! i)).toNat : Nat) : Int)) rfl rfl rfl rfl ?_
    refine OA.nil ?_
    intro _
    refine RA.region env_ok ?_
    refine OA.p (some 29) (.string (bstr ((List.range i).map fun j => (L (sha key)).getD j 0 ^^^ c))) rfl rfl rfl rfl ?_
    refine OA.p (some 30) (.int .u8 (((c ^^^ ((sha key).get! i)).toNat : Nat) : Int)) rfl rfl rfl rfl ?_
    refine OA.op1 (dst := (some 31)) (v := (.slice (some ⟨n2, 0, none⟩) 1 0)) (n1 := (n2 + 1)) (w := (n2, some ⟨(bc [(c ^^^ ((sha key).get! i))]), 1, 5, true⟩)) rfl rfl rfl (by kernel_rfl) (by omega) ?_
    refine OA.p (some 32) (.string (bstr (([(c ^^^ ((sha key).get! i))].drop 0).take 1))) rfl rfl rfl (r_b2s rfl rfl rfl rfl rfl rfl rfl rfl get_here (by rw [show ([(c ^^^ ((sha key).get! i))] : List UInt8).length = 1 from rfl]; omega)) ?_
    refine OA.p (some 33) (.string ((bstr ((List.range i).map fun j => (L (sha key)).getD j 0 ^^^ c)) ++ (bstr (([(c ^^^ ((sha key).get! i))].drop 0).take 1)))) rfl rfl rfl (r_cat rfl rfl rfl (by (try simp only [ByteArray.size_append, bstr_size, size_lit, List.size_toArray, List.length_cons, List.length_nil, List.length_take, List.length_drop, List.length_replicate, List.length_map, List.length_range]); try omega)) ?_
    refine OA.p (some 6) (.string ((bstr ((List.range i).map fun j => (L (sha key)).getD j 0 ^^^ c)) ++ (bstr (([(c ^^^ ((sha key).get! i))].drop 0).take 1)))) rfl rfl rfl rfl ?_
    refine OA.nil ?_
    intro _
    refine RA.region env_ok ?_
    refine OA.p (some 17) (.int .i64 ((i : Nat) : Int)) rfl rfl rfl rfl ?_
    refine OA.p (some 18) (.int .i64 (((i + 1) : Nat) : Int)) rfl rfl rfl (r_bin rfl rfl rfl (b_add (i64_eq (by omega)))) ?_
    refine OA.p (some 7) (.int .i64 (((i + 1) : Nat) : Int)) rfl rfl rfl rfl ?_
    refine OA.nil ?_
    refine ⟨(64 - (i + 1)), by omega, [], (Less.of (fun p hp => by simp at hp) (gone_of (by simp only [goneP, memP, List.cons_append, List.nil_append, true_or, or_true, true_and, and_true, or_false] <;> omega))), (i + 1), rfl, by omega, ⟨rfl, rfl, (by show Value.string _ = Value.string _; rw [List.drop_zero, List.take_of_length_le (Nat.le_refl 1), bstr_app, List.range_succ, List.map_append]; refine string_cast (congrArg bstr (congrArg _ ?_)); rw [get_getD (by first | omega | (rw [sha_size2]; omega))]; exact congrArg (fun z => [z]) (UInt8.xor_comm _ _)), rfl, trivial⟩, rfl, (fun i hi => by cases hi), by omega⟩
   ·
    refine OA.p (some 23) (.bool false) rfl rfl rfl (Eq.trans (r_bin rfl rfl rfl (b_lss rfl)) (dF hc3)) ?_
    refine OA.nil ?_
    intro _
    refine RA.condF rfl ?_
    refine RA.skip env_ok ?_
    intro _
    refine RA.region env_ok ?_
    refine OA.p (some 29) (.string (bstr ((List.range i).map fun j => (L (sha key)).getD j 0 ^^^ c))) rfl rfl rfl rfl ?_
    refine OA.p (some 30) (.int .u8 ((c.toNat : Nat) : Int)) rfl rfl rfl rfl ?_
    refine OA.op1 (dst := (some 31)) (v := (.slice (some ⟨n2, 0, none⟩) 1 0)) (n1 := (n2 + 1)) (w := (n2, some ⟨(bc [c]), 1, 5, true⟩)) rfl rfl rfl (by kernel_rfl) (by omega) ?_
    refine OA.p (some 32) (.string (bstr (([c].drop 0).take 1))) rfl rfl rfl (r_b2s rfl rfl rfl rfl rfl rfl rfl rfl get_here (by rw [show ([c] : List UInt8).length = 1 from rfl]; omega)) ?_
    refine OA.p (some 33) (.string ((bstr ((List.range i).map fun j => (L (sha key)).getD j 0 ^^^ c)) ++ (bstr (([c].drop 0).take 1)))) rfl rfl rfl (r_cat rfl rfl rfl (by (try simp only [ByteArray.size_append, bstr_size, size_lit, List.size_toArray, List.length_cons, List.length_nil, List.length_take, List.length_drop, List.length_replicate, List.length_map, List.length_range]); try omega)) ?_
    refine OA.p (some 6) (.string ((bstr ((List.range i).map fun j => (L (sha key)).getD j 0 ^^^ c)) ++ (bstr (([c].drop 0).take 1)))) rfl rfl rfl rfl ?_
    refine OA.nil ?_
    intro _
    refine RA.region env_ok ?_
    refine OA.p (some 17) (.int .i64 ((i : Nat) : Int)) rfl rfl rfl rfl ?_
    refine OA.p (some 18) (.int .i64 (((i + 1) : Nat) : Int)) rfl rfl rfl (r_bin rfl rfl rfl (b_add (i64_eq (by omega)))) ?_
    refine OA.p (some 7) (.int .i64 (((i + 1) : Nat) : Int)) rfl rfl rfl rfl ?_
    refine OA.nil ?_
    refine ⟨(64 - (i + 1)), by omega, [], (Less.of (fun p hp => by simp at hp) (gone_of (by simp only [goneP, memP, List.cons_append, List.nil_append, true_or, or_true, true_and, and_true, or_false] <;> omega))), (i + 1), rfl, by omega, ⟨rfl, rfl, (by show Value.string _ = Value.string _; rw [List.drop_zero, List.take_of_length_le (Nat.le_refl 1), bstr_app, List.range_succ, List.map_append]; refine string_cast (congrArg bstr (congrArg _ ?_)); show [c] = [(L (sha key)).getD i 0 ^^^ c]; rw [getD_out (by rw [L_len]; first | omega | (rw [sha_size2]; omega)), UInt8.zero_xor]), rfl, trivial⟩, rfl, (fun i hi => by cases hi), by omega⟩
  ·
   refine OA.p (some 16) (.bool false) rfl rfl rfl (Eq.trans (r_bin rfl rfl rfl (b_lss rfl)) (dF hc2)) ?_
   refine OA.nil ?_
   intro _
   refine RA.condF rfl ?_
   refine RA.exit env_ok ?_
   intro _
   refine RA.seq hd ?_
   refine RA.region env_ok ?_
   refine OA.p (some 34) (.string (bstr ((List.range i).map fun j => (L (sha key)).getD j 0 ^^^ c))) rfl rfl rfl rfl ?_
   refine OA.p (some 4) (.string (bstr ((List.range i).map fun j => (L (sha key)).getD j 0 ^^^ c))) rfl rfl rfl rfl ?_
   refine OA.nil ?_
   intro _
   refine RA.ret env_ok ?_
   refine ⟨.inr rfl, [(.string (bstr ((List.range i).map fun j => (L (sha key)).getD j 0 ^^^ c)))], (resL_cons rfl resL_nil), (by first | (rw [show i = 64 from (by omega), one, padF, padK_hi (by omega)]; done) | (rw [show i = 64 from (by omega), one, padF, padK_lo (by omega)]; done) | (rw [show i = 64 from (by omega), one, padF, padK_hi (by omega)]; rfl) | (rw [show i = 64 from (by omega), one, padF, padK_lo (by omega)]; rfl)), (fun i hi => by cases hi)⟩
 ·
  refine OA.p (some 12) (.bool false) rfl rfl rfl (Eq.trans (r_bin rfl rfl rfl (b_gtr rfl)) (dF hc1)) ?_
  refine OA.nil ?_
  intro _
  refine RA.condF rfl ?_
  refine RA.skip env_ok ?_
  intro _
  refine RA.seq hd ?_
  refine RA.region env_ok ?_
  refine OA.p (some 6) (.string (ByteArray.mk #[])) rfl rfl rfl rfl ?_
  refine OA.nil ?_
  intro _
  refine RA.seq hd ?_
  refine RA.seq hd ?_
  refine RA.region env_ok ?_
  refine OA.p (some 7) (.int .i64 0) rfl rfl rfl rfl ?_
  refine OA.nil ?_
  intro _
  refine RA.block ?_
  refine RA.loop hd (fun kk_ τ n' D => ∃ i : Nat,  kk_ = (64 - i) ∧ n ≤ n' ∧ Has τ [(1, (.int .u8 ((c.toNat : Nat) : Int))), (5, (.string key)), (6, (.string (bstr ((List.range i).map fun j => (L key).getD j 0 ^^^ c)))), (7, (.int .i64 ((i : Nat) : Int)))] ∧ D = [] ∧ (∀ i ∈ keys D, i < n') ∧ i ≤ 64) ((64 - 0)) ⟨0, rfl, by omega, ⟨rfl, rfl, rfl, rfl, trivial⟩, rfl, (fun i hi => by cases hi), by omega⟩ ?_
  rintro kn3 τ3 n3 _ ⟨i, rfl, hn3, hHn3, rfl, hKn3, hIn3⟩
  rw [Has.eq hHn3]
  simp only [keys, List.map, List.forall_mem_cons, List.mem_cons, List.not_mem_nil, false_imp_iff, implies_true, and_true] at hKn3
  refine RA.seq hd ?_
  refine RA.seq hd ?_
  refine RA.region env_ok ?_
  refine OA.p (some 15) (.int .i64 ((i : Nat) : Int)) rfl rfl rfl rfl ?_
  by_cases hc4 : ((i : Nat) : Int) < 64
  ·
   refine OA.p (some 16) (.bool true) rfl rfl rfl (Eq.trans (r_bin rfl rfl rfl (b_lss rfl)) (dT hc4)) ?_
   refine OA.nil ?_
   intro _
   refine RA.condT rfl ?_
   refine RA.skip env_ok ?_
   intro _
   refine RA.seq hd ?_
   refine RA.block ?_
   refine RA.seq hd ?_
   refine RA.region env_ok ?_
   refine OA.p (some 19) (.int .u8 ((c.toNat : Nat) : Int)) rfl rfl rfl rfl ?_
   refine OA.p (some 8) (.int .u8 ((c.toNat : Nat) : Int)) rfl rfl rfl rfl ?_
   refine OA.nil ?_
   intro _
   refine RA.seq hd ?_
   refine RA.seq hd ?_
   refine RA.region env_ok ?_
   refine OA.p (some 20) (.int .i64 ((i : Nat) : Int)) rfl rfl rfl rfl ?_
   refine OA.p (some 21) (.string key) rfl rfl rfl rfl ?_
   refine OA.p (some 22) (.int .i64 ((key.size : Nat) : Int)) rfl rfl rfl rfl ?_
   by_cases hc5 : ((i : Nat) : Int) < ((key.size : Nat) : Int)
   ·
    refine OA.p (some 23) (.bool true) rfl rfl rfl (Eq.trans (r_bin rfl rfl rfl (b_lss rfl)) (dT hc5)) ?_
    refine OA.nil ?_
    intro _
    refine RA.condT rfl ?_
    refine RA.region env_ok ?_
    refine OA.p (some 24) (.int .u8 ((c.toNat : Nat) : Int)) rfl rfl rfl rfl ?_
    refine OA.p (some 25) (.string key) rfl rfl rfl rfl ?_
    refine OA.p (some 26) (.int .i64 ((i : Nat) : Int)) rfl rfl rfl rfl ?_
    refine OA.p (some 27) (.int .u8 ((key.get! i).toNat : Nat)) rfl rfl rfl (r_idxS (l := i) rfl rfl rfl rfl rfl (by omega) (by omega)) ?_
    refine OA.p (some 28) (.int .u8 (((c ^^^ (key.get! i)).toNat : Nat) : Int)) rfl rfl rfl (r_bin rfl rfl rfl (b_xor8 c (key.get! i))) ?_
    refine OA.p (some 8) (.int .u8 (((c ^^^ (key.get! i)).toNat : Nat) : Int)) rfl rfl rfl rfl ?_
    refine OA.nil ?_
    intro _
    refine RA.region env_ok ?_
    refine OA.p (some 29) (.string (bstr ((List.range i).map fun j => (L key).getD j 0 ^^^ c))) rfl rfl rfl rfl ?_
    refine OA.p (some 30) (.int .u8 (((c ^^^ (key.get! i)).toNat : Nat) : Int)) rfl rfl rfl rfl ?_
    refine OA.op1 (dst := (some 31)) (v := (.slice (some ⟨n3, 0, none⟩) 1 0)) (n1 := (n3 + 1)) (w := (n3, some ⟨(bc [(c ^^^ (key.get! i))]), 1, 5, true⟩)) rfl rfl rfl (by kernel_rfl) (by omega) ?_
    refine OA.p (some 32) (.string (bstr (([(c ^^^ (key.get! i))].drop 0).take 1))) rfl rfl rfl (r_b2s rfl rfl rfl rfl rfl rfl rfl rfl get_here (by rw [show ([(c ^^^ (key.get! i))] : List UInt8).length = 1 from rfl]; omega)) ?_
    refine OA.p (some 33) (.string ((bstr ((List.range i).map fun j => (L key).getD j 0 ^^^ c)) ++ (bstr (([(c ^^^ (key.get! i))].drop 0).take 1)))) rfl rfl rfl (r_cat rfl rfl rfl (by (try simp only [ByteArray.size_append, bstr_size, size_lit, List.size_toArray, List.length_cons, List.length_nil, List.length_take, List.length_drop, List.length_replicate, List.length_map, List.length_range]); try omega)) ?_
    refine OA.p (some 6) (.string ((bstr ((List.range i).map fun j => (L key).getD j 0 ^^^ c)) ++ (bstr (([(c ^^^ (key.get! i))].drop 0).take 1)))) rfl rfl rfl rfl ?_
    refine OA.nil ?_
    intro _
    refine RA.region env_ok ?_
    refine OA.p (some 17) (.int .i64 ((i : Nat) : Int)) rfl rfl rfl rfl ?_
    refine OA.p (some 18) (.int .i64 (((i + 1) : Nat) : Int)) rfl rfl rfl (r_bin rfl rfl rfl (b_add (i64_eq (by omega)))) ?_
    refine OA.p (some 7) (.int .i64 (((i + 1) : Nat) : Int)) rfl rfl rfl rfl ?_
    refine OA.nil ?_
    refine ⟨(64 - (i + 1)), by omega, [], (Less.of (fun p hp => by simp at hp) (gone_of (by simp only [goneP, memP, List.cons_append, List.nil_append, true_or, or_true, true_and, and_true, or_false] <;> omega))), (i + 1), rfl, by omega, ⟨rfl, rfl, (by show Value.string _ = Value.string _; rw [List.drop_zero, List.take_of_length_le (Nat.le_refl 1), bstr_app, List.range_succ, List.map_append]; refine string_cast (congrArg bstr (congrArg _ ?_)); rw [get_getD (by first | omega | (rw [sha_size2]; omega))]; exact congrArg (fun z => [z]) (UInt8.xor_comm _ _)), rfl, trivial⟩, rfl, (fun i hi => by cases hi), by omega⟩
   ·
    refine OA.p (some 23) (.bool false) rfl rfl rfl (Eq.trans (r_bin rfl rfl rfl (b_lss rfl)) (dF hc5)) ?_
    refine OA.nil ?_
    intro _
    refine RA.condF rfl ?_
    refine RA.skip env_ok ?_
    intro _
    refine RA.region env_ok ?_
    refine OA.p (some 29) (.string (bstr ((List.range i).map fun j => (L key).getD j 0 ^^^ c))) rfl rfl rfl rfl ?_
    refine OA.p (some 30) (.int .u8 ((c.toNat : Nat) : Int)) rfl rfl rfl rfl ?_
    refine OA.op1 (dst := (some 31)) (v := (.slice (some ⟨n3, 0, none⟩) 1 0)) (n1 := (n3 + 1)) (w := (n3, some ⟨(bc [c]), 1, 5, true⟩)) rfl rfl rfl (by kernel_rfl) (by omega) ?_
    refine OA.p (some 32) (.string (bstr (([c].drop 0).take 1))) rfl rfl rfl (r_b2s rfl rfl rfl rfl rfl rfl rfl rfl get_here (by rw [show ([c] : List UInt8).length = 1 from rfl]; omega)) ?_
    refine OA.p (some 33) (.string ((bstr ((List.range i).map fun j => (L key).getD j 0 ^^^ c)) ++ (bstr (([c].drop 0).take 1)))) rfl rfl rfl (r_cat rfl rfl rfl (by (try simp only [ByteArray.size_append, bstr_size, size_lit, List.size_toArray, List.length_cons, List.length_nil, List.length_take, List.length_drop, List.length_replicate, List.length_map, List.length_range]); try omega)) ?_
    refine OA.p (some 6) (.string ((bstr ((List.range i).map fun j => (L key).getD j 0 ^^^ c)) ++ (bstr (([c].drop 0).take 1)))) rfl rfl rfl rfl ?_
    refine OA.nil ?_
    intro _
    refine RA.region env_ok ?_
    refine OA.p (some 17) (.int .i64 ((i : Nat) : Int)) rfl rfl rfl rfl ?_
    refine OA.p (some 18) (.int .i64 (((i + 1) : Nat) : Int)) rfl rfl rfl (r_bin rfl rfl rfl (b_add (i64_eq (by omega)))) ?_
    refine OA.p (some 7) (.int .i64 (((i + 1) : Nat) : Int)) rfl rfl rfl rfl ?_
    refine OA.nil ?_
    refine ⟨(64 - (i + 1)), by omega, [], (Less.of (fun p hp => by simp at hp) (gone_of (by simp only [goneP, memP, List.cons_append, List.nil_append, true_or, or_true, true_and, and_true, or_false] <;> omega))), (i + 1), rfl, by omega, ⟨rfl, rfl, (by show Value.string _ = Value.string _; rw [List.drop_zero, List.take_of_length_le (Nat.le_refl 1), bstr_app, List.range_succ, List.map_append]; refine string_cast (congrArg bstr (congrArg _ ?_)); show [c] = [(L key).getD i 0 ^^^ c]; rw [getD_out (by rw [L_len]; first | omega | (rw [sha_size2]; omega)), UInt8.zero_xor]), rfl, trivial⟩, rfl, (fun i hi => by cases hi), by omega⟩
  ·
   refine OA.p (some 16) (.bool false) rfl rfl rfl (Eq.trans (r_bin rfl rfl rfl (b_lss rfl)) (dF hc4)) ?_
   refine OA.nil ?_
   intro _
   refine RA.condF rfl ?_
   refine RA.exit env_ok ?_
   intro _
   refine RA.seq hd ?_
   refine RA.region env_ok ?_
   refine OA.p (some 34) (.string (bstr ((List.range i).map fun j => (L key).getD j 0 ^^^ c))) rfl rfl rfl rfl ?_
   refine OA.p (some 4) (.string (bstr ((List.range i).map fun j => (L key).getD j 0 ^^^ c))) rfl rfl rfl rfl ?_
   refine OA.nil ?_
   intro _
   refine RA.ret env_ok ?_
   refine ⟨.inr rfl, [(.string (bstr ((List.range i).map fun j => (L key).getD j 0 ^^^ c)))], (resL_cons rfl resL_nil), (by first | (rw [show i = 64 from (by omega), one, padF, padK_hi (by omega)]; done) | (rw [show i = 64 from (by omega), one, padF, padK_lo (by omega)]; done) | (rw [show i = 64 from (by omega), one, padF, padK_hi (by omega)]; rfl) | (rw [show i = 64 from (by omega), one, padF, padK_lo (by omega)]; rfl)), (fun i hi => by cases hi)⟩

theorem s18 {σ : Store} (key s : ByteArray) (hk : key.size < 4294967296) (hs : s.size < 2147483648)   : PS Try.prog noDen 18 [(.string key), (.string s)] σ (.string (macF key s)) := by
 refine PS.body (E := env) env_ok rfl rfl (by show _ ≤ _; exact of_decide_eq_true (by kernel_rfl)) (fun n hd => ?_)
 refine RA.seq hd ?_
 refine RA.region env_ok ?_
 refine OA.p (some 4) (.string (ByteArray.mk #[])) rfl rfl rfl rfl ?_
 refine OA.nil ?_
 intro _
 refine RA.seq hd ?_
 refine RA.region env_ok ?_
 refine OA.p (some 5) (.string key) rfl rfl rfl rfl ?_
 refine OA.callP (dst := (some 6)) (all := [(.string key), (.int .u8 92)]) (v := (.string (padF key 92))) (hd.up (by omega)) rfl rfl rfl rfl rfl rfl rfl rfl (s43 key 92 hk) ?_
 intro n1 hn1
 refine OA.p (some 7) (.string key) rfl rfl rfl rfl ?_
 refine OA.callP (dst := (some 8)) (all := [(.string key), (.int .u8 54)]) (v := (.string (padF key 54))) (hd.up (by omega)) rfl rfl rfl rfl rfl rfl rfl rfl (s43 key 54 hk) ?_
 intro n2 hn2
 refine OA.p (some 9) (.string s) rfl rfl rfl rfl ?_
 refine OA.p (some 10) (.string ((padF key 54) ++ s)) rfl rfl rfl (r_cat rfl rfl rfl (by (try simp only [ByteArray.size_append, bstr_size, size_lit, List.size_toArray, List.length_cons, List.length_nil, List.length_take, List.length_drop, List.length_replicate, padF_size, sha_size2]); try omega)) ?_
 refine OA.callP (dst := (some 11)) (all := [(.string ((padF key 54) ++ s))]) (v := (.string (sha ((padF key 54) ++ s)))) (hd.up (by omega)) rfl rfl rfl rfl rfl rfl rfl rfl (s15 ((padF key 54) ++ s) (by simp only [ByteArray.size_append, padF_size, sha_size2]; omega)) ?_
 intro n3 hn3
 refine OA.p (some 12) (.string ((padF key 92) ++ (sha ((padF key 54) ++ s)))) rfl rfl rfl (r_cat rfl rfl rfl (by (try simp only [ByteArray.size_append, bstr_size, size_lit, List.size_toArray, List.length_cons, List.length_nil, List.length_take, List.length_drop, List.length_replicate, padF_size, sha_size2]); try omega)) ?_
 refine OA.callP (dst := (some 13)) (all := [(.string ((padF key 92) ++ (sha ((padF key 54) ++ s))))]) (v := (.string (sha ((padF key 92) ++ (sha ((padF key 54) ++ s)))))) (hd.up (by omega)) rfl rfl rfl rfl rfl rfl rfl rfl (s15 ((padF key 92) ++ (sha ((padF key 54) ++ s))) (by simp only [ByteArray.size_append, padF_size, sha_size2]; omega)) ?_
 intro n4 hn4
 refine OA.p (some 4) (.string (sha ((padF key 92) ++ (sha ((padF key 54) ++ s))))) rfl rfl rfl rfl ?_
 refine OA.nil ?_
 intro _
 refine RA.ret env_ok ?_
 refine ⟨.inr rfl, [(.string (sha ((padF key 92) ++ (sha ((padF key 54) ++ s)))))], (resL_cons rfl resL_nil), rfl, (fun i hi => by cases hi)⟩

theorem s19 {σ : Store} (key s : ByteArray) (hk : key.size < 4294967296) (hs : s.size < 2147483648)   : PS Try.prog noDen 19 [(.string key), (.string s)] σ (.string (macF key s)) := by
 refine PS.body (E := env) env_ok rfl rfl (by show _ ≤ _; exact of_decide_eq_true (by kernel_rfl)) (fun n hd => ?_)
 refine RA.seq hd ?_
 refine RA.region env_ok ?_
 refine OA.p (some 4) (.string (ByteArray.mk #[])) rfl rfl rfl rfl ?_
 refine OA.nil ?_
 intro _
 refine RA.seq hd ?_
 refine RA.region env_ok ?_
 refine OA.p (some 5) (.string key) rfl rfl rfl rfl ?_
 refine OA.callP (dst := (some 6)) (all := [(.string key), (.int .u8 92)]) (v := (.string (padF key 92))) (hd.up (by omega)) rfl rfl rfl rfl rfl rfl rfl rfl (s44 key 92 hk) ?_
 intro n1 hn1
 refine OA.p (some 7) (.string key) rfl rfl rfl rfl ?_
 refine OA.callP (dst := (some 8)) (all := [(.string key), (.int .u8 54)]) (v := (.string (padF key 54))) (hd.up (by omega)) rfl rfl rfl rfl rfl rfl rfl rfl (s44 key 54 hk) ?_
 intro n2 hn2
 refine OA.p (some 9) (.string s) rfl rfl rfl rfl ?_
 refine OA.p (some 10) (.string ((padF key 54) ++ s)) rfl rfl rfl (r_cat rfl rfl rfl (by (try simp only [ByteArray.size_append, bstr_size, size_lit, List.size_toArray, List.length_cons, List.length_nil, List.length_take, List.length_drop, List.length_replicate, padF_size, sha_size2]); try omega)) ?_
 refine OA.callP (dst := (some 11)) (all := [(.string ((padF key 54) ++ s))]) (v := (.string (sha ((padF key 54) ++ s)))) (hd.up (by omega)) rfl rfl rfl rfl rfl rfl rfl rfl (s16 ((padF key 54) ++ s) (by simp only [ByteArray.size_append, padF_size, sha_size2]; omega)) ?_
 intro n3 hn3
 refine OA.p (some 12) (.string ((padF key 92) ++ (sha ((padF key 54) ++ s)))) rfl rfl rfl (r_cat rfl rfl rfl (by (try simp only [ByteArray.size_append, bstr_size, size_lit, List.size_toArray, List.length_cons, List.length_nil, List.length_take, List.length_drop, List.length_replicate, padF_size, sha_size2]); try omega)) ?_
 refine OA.callP (dst := (some 13)) (all := [(.string ((padF key 92) ++ (sha ((padF key 54) ++ s))))]) (v := (.string (sha ((padF key 92) ++ (sha ((padF key 54) ++ s)))))) (hd.up (by omega)) rfl rfl rfl rfl rfl rfl rfl rfl (s16 ((padF key 92) ++ (sha ((padF key 54) ++ s))) (by simp only [ByteArray.size_append, padF_size, sha_size2]; omega)) ?_
 intro n4 hn4
 refine OA.p (some 4) (.string (sha ((padF key 92) ++ (sha ((padF key 54) ++ s))))) rfl rfl rfl rfl ?_
 refine OA.nil ?_
 intro _
 refine RA.ret env_ok ?_
 refine ⟨.inr rfl, [(.string (sha ((padF key 92) ++ (sha ((padF key 54) ++ s)))))], (resL_cons rfl resL_nil), rfl, (fun i hi => by cases hi)⟩
end Go.Proofs.Ytdnkhdkflemkeaa.Vt
