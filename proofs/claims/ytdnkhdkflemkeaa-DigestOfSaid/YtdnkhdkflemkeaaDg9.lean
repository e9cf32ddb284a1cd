/- Dg9: walks through functions of the program, by the calculus; written by a program of this workplace. -/
import Derived.Test.YtdnkhdkflemkeaaDg8
import Derived.Test.YtdnkhdkflemkeaaDg5
namespace Go.Proofs.Ytdnkhdkflemkeaa.Vt
open Go Go.Proofs Go.Proofs.YtdnkhdkflemkeaaV
set_option maxRecDepth 100000
set_option linter.unusedVariables false
set_option linter.unusedSimpArgs false
theorem sha_size (s : ByteArray) : (sha s).size = 20 := rfl
theorem s14 {σ : Store} : PS Try.prog noDen 14 [] σ (.bool true) := PS.closed env_ok rfl (F := 100) (k := 20) (by kernel_rfl) rfl rfl
theorem s3 {σ : Store} (s : ByteArray)   : PS Try.prog noDen 3 [(.string s)] σ (.bool true) := by
  refine PS.body (E := env) env_ok rfl rfl (by show _ ≤ _; exact of_decide_eq_true (by kernel_rfl)) (fun n hd => ?_)
  refine RA.seq hd ?_
  refine RA.region env_ok ?_
  refine OA.pure (dst := (some 2)) (v := (.bool false)) rfl rfl rfl rfl ?_
  refine OA.nil ?_
  intro _
  refine RA.seq hd ?_
  refine RA.region env_ok ?_
  refine OA.pure (dst := (some 4)) (v := (.string s)) rfl rfl rfl rfl ?_
  refine OA.pure (dst := (some 5)) (v := (.string s)) rfl rfl rfl rfl ?_
  refine OA.pure (dst := (some 6)) (v := (.int .i64 ((s.size : Nat) : Int))) rfl rfl rfl rfl ?_
  refine OA.pure (dst := (some 7)) (v := (.int .i64 (((min s.size 1000) : Nat) : Int))) rfl rfl rfl (r_min (a := s.size) (b := 1000) rfl rfl rfl) ?_
  refine OA.pure (dst := (some 8)) (v := (.string (s.extract 0 (min s.size 1000)))) rfl rfl rfl (r_cut (a := 0) (b := (min s.size 1000)) rfl rfl (fun _ => rfl) (fun _ => rfl) rfl rfl rfl bound_nat (by omega) (by omega) rfl) ?_
  refine OA.pure (dst := (some 3)) (v := (.string (s.extract 0 (min s.size 1000)))) rfl rfl rfl rfl ?_
  refine OA.nil ?_
  intro _
  refine RA.seq hd ?_
  refine RA.region env_ok ?_
  refine OA.callP (dst := (some 9)) (all := []) (v := (.bool true)) (hd.up (by omega)) rfl rfl rfl rfl rfl rfl rfl rfl s14 ?_
  intro n1 hn1
  refine OA.pure (dst := (some 10)) (v := (.bool true)) rfl rfl rfl rfl ?_
  refine OA.pure (dst := (some 11)) (v := (.string (s.extract 0 (min s.size 1000)))) rfl rfl rfl rfl ?_
  refine OA.callP (dst := (some 12)) (all := [(.string (s.extract 0 (min s.size 1000)))]) (v := (.string (sha (s.extract 0 (min s.size 1000))))) (hd.up (by omega)) rfl rfl rfl rfl rfl rfl rfl rfl (s15 (s.extract 0 (min s.size 1000)) (by rw [size_cut _ _ _ (by omega)]; omega)) ?_
  intro n2 hn2
  refine OA.pure (dst := (some 13)) (v := (.string (s.extract 0 (min s.size 1000)))) rfl rfl rfl rfl ?_
  refine OA.callP (dst := (some 14)) (all := [(.string (s.extract 0 (min s.size 1000)))]) (v := (.string (sha (s.extract 0 (min s.size 1000))))) (hd.up (by omega)) rfl rfl rfl rfl rfl rfl rfl rfl (s16 (s.extract 0 (min s.size 1000)) (by rw [size_cut _ _ _ (by omega)]; omega)) ?_
  intro n3 hn3
  refine OA.pure (dst := (some 15)) (v := (.bool true)) rfl rfl rfl (Eq.trans (r_eqlS rfl rfl rfl) (by rw [decide_eq_true rfl] <;> rfl)) ?_
  refine OA.pure (dst := (some 16)) (v := (.bool true)) rfl rfl rfl rfl ?_
  refine OA.pure (dst := (some 17)) (v := (.bool true)) rfl rfl rfl rfl ?_
  refine OA.pure (dst := (some 18)) (v := (.string (s.extract 0 (min s.size 1000)))) rfl rfl rfl rfl ?_
  refine OA.callP (dst := (some 19)) (all := [(.string (s.extract 0 (min s.size 1000)))]) (v := (.string (sha (s.extract 0 (min s.size 1000))))) (hd.up (by omega)) rfl rfl rfl rfl rfl rfl rfl rfl (s15 (s.extract 0 (min s.size 1000)) (by rw [size_cut _ _ _ (by omega)]; omega)) ?_
  intro n4 hn4
  refine OA.pure (dst := (some 20)) (v := (.int .i64 20)) rfl rfl rfl (Eq.trans (show _ = some (Value.int .i64 (((sha (s.extract 0 (min s.size 1000))).size : Nat) : Int), _, []) from rfl) (by rw [sha_size] <;> rfl)) ?_
  refine OA.pure (dst := (some 21)) (v := (.bool true)) rfl rfl rfl (r_bin rfl rfl rfl (b_eql rfl)) ?_
  refine OA.pure (dst := (some 22)) (v := (.bool true)) rfl rfl rfl rfl ?_
  refine OA.pure (dst := (some 2)) (v := (.bool true)) rfl rfl rfl rfl ?_
  refine OA.nil ?_
  intro _
  refine RA.ret env_ok ?_
  refine ⟨.inr rfl, [(.bool true)], (resL_cons rfl resL_nil), rfl, (fun i hi => by cases hi)⟩

theorem s4 {σ : Store} (m : Int) (c : UInt8)   : PS Try.prog noDen 4 [(.int .i64 m), (.int .u8 ((c.toNat : Nat) : Int))] σ (.bool true) := by
  refine PS.body (E := env) env_ok rfl rfl (by show _ ≤ _; exact of_decide_eq_true (by kernel_rfl)) (fun n hd => ?_)
  refine RA.seq hd ?_
  refine RA.region env_ok ?_
  refine OA.pure (dst := (some 4)) (v := (.bool false)) rfl rfl rfl rfl ?_
  refine OA.nil ?_
  intro _
  refine RA.seq hd ?_
  refine RA.region env_ok ?_
  refine OA.pure (dst := (some 7)) (v := (.int .i64 m)) rfl rfl rfl rfl ?_
  have hm1 := andN_le m 255 (by decide)
  refine OA.pure (dst := (some 8)) (v := (.int .i64 (((andN m 255) : Nat) : Int))) rfl rfl rfl (r_bin rfl rfl rfl (b_andN m 255 (by decide))) ?_
  refine OA.op (dst := (some 9)) (v := (.slice (some ⟨n, 0, none⟩) (andN m 255) 0)) (n1 := (n + 1)) (d1 := [(n, some ⟨(bc (List.replicate (andN m 255) 0)), 1, 5, true⟩)]) (D' := [(n, some ⟨(bc (List.replicate (andN m 255) 0)), 1, 5, true⟩)]) rfl rfl rfl (r_makeBytes (K := (andN m 255)) rfl rfl rfl rfl rfl rfl rfl rfl rfl (by omega)) (by omega) rfl ?_
  refine OA.pure (dst := (some 5)) (v := (.slice (some ⟨n, 0, none⟩) (andN m 255) 0)) rfl rfl rfl rfl ?_
  refine OA.nil ?_
  intro _
  refine RA.seq hd ?_
  refine RA.seq hd ?_
  refine RA.region env_ok ?_
  refine OA.pure (dst := (some 6)) (v := (.int .i64 0)) rfl rfl rfl rfl ?_
  refine OA.nil ?_
  intro _
  refine RA.block ?_
  refine RA.loop hd (fun kk_ τ n' D => ∃ i : Nat, ∃ l : List UInt8,  kk_ = ((andN m 255) - i) ∧ (n + 1) ≤ n' ∧ Has τ [(1, (.int .u8 ((c.toNat : Nat) : Int))), (5, (.slice (some ⟨n, 0, none⟩) (andN m 255) 0)), (6, (.int .i64 ((i : Nat) : Int)))] ∧ D = [(n, some ⟨(bc l), 1, 5, true⟩)] ∧ (∀ i ∈ keys D, i < n') ∧ i ≤ (andN m 255) ∧ l.length = (andN m 255)) (((andN m 255) - 0)) ⟨0, (List.replicate (andN m 255) 0), rfl, by omega, ⟨rfl, rfl, rfl, trivial⟩, rfl, (by intro i hi; simp only [keys, List.cons_append, List.nil_append, List.map_cons, List.map_nil, List.mem_cons, List.not_mem_nil, or_false, false_or] at hi; omega), ⟨by omega, List.length_replicate⟩⟩ ?_
  rintro kn2 τ2 n2 _ ⟨i, l, rfl, hn2, hHn2, rfl, hKn2, hIn2⟩
  rw [Has.eq hHn2]
  simp only [keys, List.map, List.forall_mem_cons, List.mem_cons, List.not_mem_nil, false_imp_iff, implies_true, and_true] at hKn2
  obtain ⟨hi, hl⟩ := hIn2
  refine RA.seq hd ?_
  refine RA.seq hd ?_
  refine RA.region env_ok ?_
  refine OA.pure (dst := (some 10)) (v := (.int .i64 ((i : Nat) : Int))) rfl rfl rfl rfl ?_
  refine OA.pure (dst := (some 11)) (v := (.slice (some ⟨n, 0, none⟩) (andN m 255) 0)) rfl rfl rfl rfl ?_
  refine OA.pure (dst := (some 12)) (v := (.int .i64 (((andN m 255) : Nat) : Int))) rfl rfl rfl rfl ?_
  by_cases hc1 : ((i : Nat) : Int) < (((andN m 255) : Nat) : Int)
  ·
    refine OA.pure (dst := (some 13)) (v := (.bool true)) rfl rfl rfl (Eq.trans (r_bin rfl rfl rfl (b_lss rfl)) (by first | (rw [decide_eq_true hc1]; done) | (rw [decide_eq_true hc1]; rfl))) ?_
    refine OA.nil ?_
    intro _
    refine RA.cond (t := true) rfl (fun hc => ?_) (fun hc => ?_)
    ·
      refine RA.skip env_ok ?_
      intro _
      refine RA.seq hd ?_
      refine RA.block ?_
      refine RA.region env_ok ?_
      refine OA.pure (dst := (some 16)) (v := (.slice (some ⟨n, 0, none⟩) (andN m 255) 0)) rfl rfl rfl rfl ?_
      refine OA.pure (dst := (some 17)) (v := (.int .i64 ((i : Nat) : Int))) rfl rfl rfl rfl ?_
      refine OA.pure (dst := (some 18)) (v := (.int .u8 ((c.toNat : Nat) : Int))) rfl rfl rfl rfl ?_
      refine OA.pure (dst := (some 19)) (v := (.int .i64 ((i : Nat) : Int))) rfl rfl rfl rfl ?_
      refine OA.pure (dst := (some 20)) (v := (.int .u8 (((UInt8.ofNat i).toNat : Nat) : Int))) rfl rfl rfl (r_cvt rfl rfl rfl rfl rfl ⟨_, rfl⟩ (wrap_u8n _)) ?_
      refine OA.pure (dst := (some 21)) (v := (.int .u8 (((c + (UInt8.ofNat i)).toNat : Nat) : Int))) rfl rfl rfl (r_bin rfl rfl rfl (b_add8 c (UInt8.ofNat i))) ?_
      refine OA.pure (dst := (some 22)) (v := (.pointer (some ⟨n, i, some 0⟩))) rfl rfl rfl (r_iaS (l := i) rfl rfl rfl rfl rfl rfl (by omega) (by omega) get_here rfl (by omega)) ?_
      refine OA.op (dst := none) (v := (.tuple #[])) (n1 := n2) (d1 := [(n, some ⟨(bc (l.set i (c + (UInt8.ofNat i)))), 1, 5, true⟩)]) (D' := [(n, some ⟨(bc (l.set i (c + (UInt8.ofNat i)))), 1, 5, true⟩), (n, some ⟨(bc l), 1, 5, true⟩)]) rfl rfl rfl (r_storeB (B' := (c + (UInt8.ofNat i))) rfl rfl rfl rfl rfl get_here (by rw [hl]; omega)) (by omega) rfl ?_
      refine OA.nil ?_
      intro _
      refine RA.region env_ok ?_
      refine OA.pure (dst := (some 14)) (v := (.int .i64 ((i : Nat) : Int))) rfl rfl rfl rfl ?_
      refine OA.pure (dst := (some 15)) (v := (.int .i64 (((i + 1) : Nat) : Int))) rfl rfl rfl (r_bin rfl rfl rfl (b_add (i64_eq (by omega)))) ?_
      refine OA.pure (dst := (some 6)) (v := (.int .i64 (((i + 1) : Nat) : Int))) rfl rfl rfl rfl ?_
      refine OA.nil ?_
      refine ⟨((andN m 255) - (i + 1)), by omega, [(n, some ⟨(bc (l.set i (c + (UInt8.ofNat i)))), 1, 5, true⟩)], (Less.of (by simp only [List.forall_mem_cons, List.not_mem_nil, false_imp_iff, implies_true, and_true]; exact ⟨by simp only [keys, List.cons_append, List.nil_append, List.map_cons, List.map_nil, List.mem_cons, true_or, or_true], fun _ => (get_here).trans (get_here).symm⟩) (by intro x hx; simp only [keys, List.cons_append, List.nil_append, List.map_cons, List.map_nil, List.mem_cons, List.not_mem_nil, or_false, false_or] at hx ⊢; omega)), (i + 1), (l.set i (c + (UInt8.ofNat i))), rfl, by omega, ⟨rfl, rfl, rfl, trivial⟩, rfl, (by intro i hi; simp only [keys, List.cons_append, List.nil_append, List.map_cons, List.map_nil, List.mem_cons, List.not_mem_nil, or_false, false_or] at hi; omega), ⟨by omega, by rw [List.length_set]; exact hl⟩⟩
    · cases hc
  ·
    refine OA.pure (dst := (some 13)) (v := (.bool false)) rfl rfl rfl (Eq.trans (r_bin rfl rfl rfl (b_lss rfl)) (by first | (rw [decide_eq_false hc1]; done) | (rw [decide_eq_false hc1]; rfl))) ?_
    refine OA.nil ?_
    intro _
    refine RA.cond (t := false) rfl (fun hc => ?_) (fun hc => ?_)
    · cases hc
    ·
      refine RA.exit env_ok ?_
      intro _
      refine RA.seq hd ?_
      refine RA.par (md := [some [], some [], some [], none, some [], some [], none, some [], some [], some [], some []]) env_ok (hd.of (by omega) (by intro i hi; simp only [keys, List.cons_append, List.nil_append, List.map_cons, List.map_nil, List.mem_cons, List.not_mem_nil, or_false, false_or] at hi; omega)) (by kernel_rfl) ?_
      refine PQ.callP (dst := (some 23)) (all := []) (v := (.bool true)) noStore (dom_none _) rfl rfl rfl rfl rfl rfl rfl rfl (none_ok _ _) s14 ?_
      intro n3 hn3
      refine PQ.pure (dst := (some 24)) (v := (.bool true)) rfl rfl rfl noStore (none_ok _ _) rfl ?_
      refine PQ.pure (dst := (some 25)) (v := (.slice (some ⟨n, 0, none⟩) (andN m 255) 0)) rfl rfl rfl noStore (none_ok _ _) rfl ?_
      refine PQ.pure (dst := (some 26)) (v := (.string (bstr ((l.drop 0).take (andN m 255))))) rfl rfl rfl (app [(n, some ⟨(bc l), 1, 5, true⟩)] σ) (seen_any (V := []) (D := [(n, some ⟨(bc l), 1, 5, true⟩)]) (by kernel_rfl)) (r_b2s rfl rfl rfl rfl rfl rfl rfl rfl get_here (by rw [hl]; omega)) ?_
      refine PQ.callP (dst := (some 27)) (all := [(.string (bstr ((l.drop 0).take (andN m 255))))]) (v := (.string (sha (bstr ((l.drop 0).take (andN m 255)))))) noStore (dom_none _) rfl rfl rfl rfl rfl rfl rfl rfl (none_ok _ _) (s15 (bstr ((l.drop 0).take (andN m 255))) (by rw [bstr_size, List.length_take, List.length_drop]; omega)) ?_
      intro n4 hn4
      refine PQ.pure (dst := (some 28)) (v := (.slice (some ⟨n, 0, none⟩) (andN m 255) 0)) rfl rfl rfl noStore (none_ok _ _) rfl ?_
      refine PQ.pure (dst := (some 29)) (v := (.string (bstr ((l.drop 0).take (andN m 255))))) rfl rfl rfl (app [(n, some ⟨(bc l), 1, 5, true⟩)] σ) (seen_any (V := []) (D := [(n, some ⟨(bc l), 1, 5, true⟩)]) (by kernel_rfl)) (r_b2s rfl rfl rfl rfl rfl rfl rfl rfl get_here (by rw [hl]; omega)) ?_
      refine PQ.callP (dst := (some 30)) (all := [(.string (bstr ((l.drop 0).take (andN m 255))))]) (v := (.string (sha (bstr ((l.drop 0).take (andN m 255)))))) noStore (dom_none _) rfl rfl rfl rfl rfl rfl rfl rfl (none_ok _ _) (s16 (bstr ((l.drop 0).take (andN m 255))) (by rw [bstr_size, List.length_take, List.length_drop]; omega)) ?_
      intro n5 hn5
      refine PQ.pure (dst := (some 31)) (v := (.bool true)) rfl rfl rfl noStore (none_ok _ _) (Eq.trans (r_eqlS rfl rfl rfl) (by rw [decide_eq_true rfl] <;> rfl)) ?_
      refine PQ.pure (dst := (some 32)) (v := (.bool true)) rfl rfl rfl noStore (none_ok _ _) rfl ?_
      refine PQ.pure (dst := (some 4)) (v := (.bool true)) rfl rfl rfl noStore (none_ok _ _) rfl ?_
      refine PQ.done (d := []) (by kernel_rfl) ?_
      intro _
      refine RA.ret env_ok ?_
      refine ⟨.inr rfl, [(.bool true)], (resL_cons rfl resL_nil), rfl, (by intro i hi; simp only [keys, List.cons_append, List.nil_append, List.map_cons, List.map_nil, List.mem_cons, List.not_mem_nil, or_false, false_or] at hi; omega)⟩

theorem wf_byte {b : Int} (h : (Lit.int .u8 b).wf = true) : ∃ c : UInt8, b = ((c.toNat : Nat) : Int) := by
  have h2 : 0 ≤ b ∧ b < 256 := by
    simp [Lit.wf, IntKind.min, IntKind.max, IntKind.signed, IntKind.bits] at h
    omega
  exact ⟨UInt8.ofNat b.toNat, by simp [UInt8.toNat_ofNat']; omega⟩
theorem runDigestOf (n : Nat) (σ : Store) (hd : Dom n σ) (x0 : Value) (h0 : g9.G σ [x0]) : CQ Try.prog noDen 3 [x0] n σ (fun v _ _ => v = .bool true) := by
  obtain ⟨b0, q0, w0⟩ := h0
  cases q0
  exact CQ.ps hd (s3 b0) fun _ _ => rfl
theorem runDigestLong (n : Nat) (σ : Store) (hd : Dom n σ) (x0 x1 : Value) (h0 : g3.G σ [x0]) (h1 : g5.G σ [x1]) : CQ Try.prog noDen 4 [x0, x1] n σ (fun v _ _ => v = .bool true) := by
  obtain ⟨b0, q0, w0⟩ := h0
  cases q0
  obtain ⟨b1, q1, w1⟩ := h1
  cases q1
  obtain ⟨c, rfl⟩ := wf_byte w1
  exact CQ.ps hd (s4 b0 c) fun _ _ => rfl
end Go.Proofs.Ytdnkhdkflemkeaa.Vt
