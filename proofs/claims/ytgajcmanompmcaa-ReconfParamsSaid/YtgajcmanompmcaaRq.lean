/- Rq: walks through functions of the program, by the calculus; written by a program of this workplace. -/
import Derived.Test.YtgajcmanompmcaaRp
namespace Go.Proofs.Ytgajcmanompmcaa.Vt
open Go Go.Proofs Go.Proofs.YtgajcmanompmcaaV
set_option maxRecDepth 100000
set_option linter.unusedVariables false
set_option linter.unusedSimpArgs false
theorem suf {n : Nat} {σ : Store} (hd : Dom n σ) (typ : Int) (u : ByteArray) (hu : u.size ≤ 12) (m0 : Nat) (hm0 : n + 2 ≤ m0) (τ0 : Tm) : RA Try.prog env n σ Try.f5.ntmps (right 6 (Try.f5.body.getD .skip)) (upds τ0 [(7, (.pointer (some ⟨(n + 1), 0, some 0⟩)))]) m0 [((n + 1), some ⟨[[(.int .i64 typ), (.string u)]], 2, 35, true⟩)] (fun x τ' n' D => (x = .normal ∨ x = .ret) ∧ ∃ vs, resL env τ' (app D σ) Try.f5.results.toList = some vs ∧ one vs = (.bool true) ∧ ∀ i ∈ keys D, n ≤ i ∧ i < n') := by
  have hA : u.size = 8 → (u.extract 6 u.size = ByteArray.mk #[0, 0] ↔ at_ u 6 2 = 0) := fun h => by
    exact str_at [0, 0] rfl (by omega) (by omega)
  have hB : u.size = 8 → (u.extract 4 6 = ByteArray.mk #[0, 0] ↔ at_ u 4 2 = 0) := fun h => by
    exact str_at [0, 0] rfl (by omega) (by omega)
  have hC : u.size = 8 → (u.extract 4 u.size = ByteArray.mk #[0, 0, 0, 1] ↔ (w32 u 4).toNat = 1) := fun h => by
    rw [w32_toNat]; exact str_at [0, 0, 0, 1] rfl (by omega) (by omega)
  have hD : u.size = 8 → (u.extract 4 u.size = ByteArray.mk #[0, 0, 0, 2] ↔ (w32 u 4).toNat = 2) := fun h => by
    rw [w32_toNat]; exact str_at [0, 0, 0, 2] rfl (by omega) (by omega)
  refine RA.seq hd ?_
  refine RA.region env_ok ?_
  refine OA.pure (dst := (some 100)) (v := (.agg ⟨[(.int .i64 typ), (.string u)]⟩)) rfl rfl rfl (r_loadA rfl rfl rfl rfl get_here rfl rfl rfl) ?_
  by_cases hc1 : moreOk typ u
  ·
    have hzhc1 : u.size = 8 := by unfold moreOk at hc1; omega
    refine OA.callP (dst := (some 101)) (all := [(.agg ⟨[(.int .i64 typ), (.string u)]⟩)]) (v := (.tuple ⟨[(W (w32 u 0)), (.int .i64 (((at_ u 4 2) : Nat) : Int)), (.bool true)]⟩)) (hd.of (by omega) (by intro i hi; simp only [keys, List.cons_append, List.nil_append, List.map_cons, List.map_nil, List.mem_cons, List.not_mem_nil, or_false, false_or] at hi; omega)) rfl rfl rfl rfl rfl rfl rfl rfl (sAsM1 typ u (by omega) hc1) ?_
    intro n1 hn1
    refine OA.pure (dst := (some 99)) (v := (.tuple ⟨[(W (w32 u 0)), (.int .i64 (((at_ u 4 2) : Nat) : Int)), (.bool true)]⟩)) rfl rfl rfl rfl ?_
    refine OA.pure (dst := (some 102)) (v := (W (w32 u 0))) rfl rfl rfl rfl ?_
    refine OA.pure (dst := (some 103)) (v := (.int .i64 (((at_ u 4 2) : Nat) : Int))) rfl rfl rfl rfl ?_
    refine OA.pure (dst := (some 104)) (v := (.bool true)) rfl rfl rfl rfl ?_
    refine OA.pure (dst := (some 15)) (v := (W (w32 u 0))) rfl rfl rfl rfl ?_
    refine OA.pure (dst := (some 16)) (v := (.int .i64 (((at_ u 4 2) : Nat) : Int))) rfl rfl rfl rfl ?_
    refine OA.pure (dst := (some 17)) (v := (.bool true)) rfl rfl rfl rfl ?_
    refine OA.nil ?_
    intro _
    refine RA.seq hd ?_
    refine RA.region env_ok ?_
    refine OA.pure (dst := (some 106)) (v := (.agg ⟨[(.int .i64 typ), (.string u)]⟩)) rfl rfl rfl (r_loadA rfl rfl rfl rfl get_here rfl rfl rfl) ?_
    by_cases hc2 : resOk typ u
    ·
      have hzhc2 : u.size = 8 := by unfold resOk at hc2; omega
      refine OA.callP (dst := (some 107)) (all := [(.agg ⟨[(.int .i64 typ), (.string u)]⟩)]) (v := (.tuple ⟨[(W (w32 u 0)), (.int .i64 (((w32 u 4).toNat : Nat) : Int)), (.bool true)]⟩)) (hd.of (by omega) (by intro i hi; simp only [keys, List.cons_append, List.nil_append, List.map_cons, List.map_nil, List.mem_cons, List.not_mem_nil, or_false, false_or] at hi; omega)) rfl rfl rfl rfl rfl rfl rfl rfl (sAsR1 typ u (by omega) hc2) ?_
      intro n2 hn2
      refine OA.pure (dst := (some 105)) (v := (.tuple ⟨[(W (w32 u 0)), (.int .i64 (((w32 u 4).toNat : Nat) : Int)), (.bool true)]⟩)) rfl rfl rfl rfl ?_
      refine OA.pure (dst := (some 108)) (v := (W (w32 u 0))) rfl rfl rfl rfl ?_
      refine OA.pure (dst := (some 109)) (v := (.int .i64 (((w32 u 4).toNat : Nat) : Int))) rfl rfl rfl rfl ?_
      refine OA.pure (dst := (some 110)) (v := (.bool true)) rfl rfl rfl rfl ?_
      refine OA.pure (dst := (some 18)) (v := (W (w32 u 0))) rfl rfl rfl rfl ?_
      refine OA.pure (dst := (some 19)) (v := (.int .i64 (((w32 u 4).toNat : Nat) : Int))) rfl rfl rfl rfl ?_
      refine OA.pure (dst := (some 20)) (v := (.bool true)) rfl rfl rfl rfl ?_
      refine OA.nil ?_
      intro _
      refine RA.seq hd (RA.imp (Q := fun x τ' n' D' => x = .normal ∧ Has τ' [(7, (.pointer (some ⟨(n + 1), 0, some 0⟩))), (16, (.int .i64 (((at_ u 4 2) : Nat) : Int))), (17, (.bool true)), (19, (.int .i64 (((w32 u 4).toNat : Nat) : Int))), (20, (.bool true)), (21, (.bool true))] ∧ (∃ D2, Less n n' D' D2 ∧ D2 = [((n + 1), some ⟨[[(.int .i64 typ), (.string u)]], 2, 35, true⟩)]) ∧ n2 ≤ n' ∧ ∀ i ∈ keys [((n + 1), some ⟨[[(.int .i64 typ), (.string u)]], 2, 35, true⟩)], i < n') ?_ ?_)
      ·
        refine RA.region env_ok ?_
        refine OA.pure (dst := (some 111)) (v := (.pointer (some ⟨(n + 1), 0, some 0⟩))) rfl rfl rfl rfl ?_
        refine OA.pure (dst := (some 112)) (v := (.int .i64 typ)) rfl rfl rfl (r_load1 rfl rfl rfl rfl rfl get_here rfl rfl) ?_
        by_cases hc3 : typ = 17
        ·
          refine OA.pure (dst := (some 113)) (v := (.bool true)) rfl rfl rfl (Eq.trans (r_bin rfl rfl rfl (b_eql rfl)) (by first | (rw [decide_eq_true hc3]; done) | (rw [decide_eq_true hc3]; rfl))) ?_
          refine OA.pure (dst := (some 114)) (v := (.bool true)) rfl rfl rfl rfl ?_
          refine OA.pure (dst := (some 115)) (v := (.pointer (some ⟨(n + 1), 0, some 1⟩))) rfl rfl rfl rfl ?_
          refine OA.pure (dst := (some 116)) (v := (.string u)) rfl rfl rfl (r_load1 rfl rfl rfl rfl rfl get_here rfl rfl) ?_
          refine OA.pure (dst := (some 117)) (v := (.int .i64 ((u.size : Nat) : Int))) rfl rfl rfl rfl ?_
          by_cases hc4 : ((u.size : Nat) : Int) = 8
          ·
            refine OA.pure (dst := (some 118)) (v := (.bool true)) rfl rfl rfl (Eq.trans (r_bin rfl rfl rfl (b_eql rfl)) (by first | (rw [decide_eq_true hc4]; done) | (rw [decide_eq_true hc4]; rfl))) ?_
            refine OA.pure (dst := (some 119)) (v := (.bool true)) rfl rfl rfl rfl ?_
            refine OA.pure (dst := (some 120)) (v := (.bool true)) rfl rfl rfl rfl ?_
            refine OA.pure (dst := (some 121)) (v := (.pointer (some ⟨(n + 1), 0, some 1⟩))) rfl rfl rfl rfl ?_
            refine OA.pure (dst := (some 122)) (v := (.string u)) rfl rfl rfl (r_load1 rfl rfl rfl rfl rfl get_here rfl rfl) ?_
            refine OA.pure (dst := (some 123)) (v := (.string (u.extract 6 u.size))) rfl rfl rfl (r_cut (a := 6) (b := u.size) rfl rfl (fun _ => rfl) (fun _ => rfl) rfl rfl rfl rfl (by omega) (by omega) rfl) ?_
            by_cases hc5 : (u.extract 6 u.size) = (ByteArray.mk #[0, 0])
            ·
              have qhc5 : at_ u 6 2 = 0 := (hA (by omega)).1 hc5
              refine OA.pure (dst := (some 124)) (v := (.bool true)) rfl rfl rfl (Eq.trans (r_eqlS rfl rfl rfl) (by first | (rw [decide_eq_true hc5]; done) | (rw [decide_eq_true hc5]; rfl))) ?_
              refine OA.pure (dst := (some 125)) (v := (.bool true)) rfl rfl rfl rfl ?_
              refine OA.pure (dst := (some 126)) (v := (.bool true)) rfl rfl rfl rfl ?_
              refine OA.pure (dst := (some 127)) (v := (.pointer (some ⟨(n + 1), 0, some 1⟩))) rfl rfl rfl rfl ?_
              refine OA.pure (dst := (some 128)) (v := (.string u)) rfl rfl rfl (r_load1 rfl rfl rfl rfl rfl get_here rfl rfl) ?_
              refine OA.pure (dst := (some 129)) (v := (.string (u.extract 4 6))) rfl rfl rfl (r_cut (a := 4) (b := 6) rfl rfl (fun _ => rfl) (fun _ => rfl) rfl rfl rfl rfl (by omega) (by omega) rfl) ?_
              by_cases hc6 : (u.extract 4 6) = (ByteArray.mk #[0, 0])
              ·
                have qhc6 : at_ u 4 2 = 0 := (hB (by omega)).1 hc6
                refine OA.pure (dst := (some 130)) (v := (.bool false)) rfl rfl rfl (Eq.trans (r_neqS rfl rfl rfl) (by first | (rw [decide_eq_true hc6]; done) | (rw [decide_eq_true hc6]; rfl))) ?_
                refine OA.pure (dst := (some 131)) (v := (.bool false)) rfl rfl rfl rfl ?_
                refine OA.pure (dst := (some 21)) (v := (.bool false)) rfl rfl rfl rfl ?_
                refine OA.nil ?_
                exfalso
                first | omega | (unfold moreOk at *; omega) | (unfold resOk at *; omega)
              ·
                have qhc6 : ¬ at_ u 4 2 = 0 := fun q => hc6 ((hB (by omega)).2 q)
                refine OA.pure (dst := (some 130)) (v := (.bool true)) rfl rfl rfl (Eq.trans (r_neqS rfl rfl rfl) (by first | (rw [decide_eq_false hc6]; done) | (rw [decide_eq_false hc6]; rfl))) ?_
                refine OA.pure (dst := (some 131)) (v := (.bool true)) rfl rfl rfl rfl ?_
                refine OA.pure (dst := (some 21)) (v := (.bool true)) rfl rfl rfl rfl ?_
                refine OA.nil ?_
                exact ⟨rfl, ⟨rfl, rfl, rfl, rfl, rfl, rfl, trivial⟩, ⟨_, (Less.refl _ _ _), rfl⟩, by omega, (by intro i hi; simp only [keys, List.cons_append, List.nil_append, List.map_cons, List.map_nil, List.mem_cons, List.not_mem_nil, or_false, false_or] at hi; omega)⟩
            ·
              have qhc5 : ¬ at_ u 6 2 = 0 := fun q => hc5 ((hA (by omega)).2 q)
              refine OA.pure (dst := (some 124)) (v := (.bool false)) rfl rfl rfl (Eq.trans (r_eqlS rfl rfl rfl) (by first | (rw [decide_eq_false hc5]; done) | (rw [decide_eq_false hc5]; rfl))) ?_
              refine OA.pure (dst := (some 125)) (v := (.bool false)) rfl rfl rfl rfl ?_
              refine OA.pure (dst := (some 126)) (v := (.bool false)) rfl rfl rfl rfl ?_
              refine OA.off (dst := (some 127)) rfl rfl rfl ?_
              refine OA.off (dst := (some 128)) rfl rfl rfl ?_
              refine OA.off (dst := (some 129)) rfl rfl rfl ?_
              refine OA.off (dst := (some 130)) rfl rfl rfl ?_
              refine OA.pure (dst := (some 131)) (v := (.bool false)) rfl rfl rfl rfl ?_
              refine OA.pure (dst := (some 21)) (v := (.bool false)) rfl rfl rfl rfl ?_
              refine OA.nil ?_
              exfalso
              first | omega | (unfold moreOk at *; omega) | (unfold resOk at *; omega)
          ·
            refine OA.pure (dst := (some 118)) (v := (.bool false)) rfl rfl rfl (Eq.trans (r_bin rfl rfl rfl (b_eql rfl)) (by first | (rw [decide_eq_false hc4]; done) | (rw [decide_eq_false hc4]; rfl))) ?_
            refine OA.pure (dst := (some 119)) (v := (.bool false)) rfl rfl rfl rfl ?_
            refine OA.pure (dst := (some 120)) (v := (.bool false)) rfl rfl rfl rfl ?_
            refine OA.off (dst := (some 121)) rfl rfl rfl ?_
            refine OA.off (dst := (some 122)) rfl rfl rfl ?_
            refine OA.off (dst := (some 123)) rfl rfl rfl ?_
            refine OA.off (dst := (some 124)) rfl rfl rfl ?_
            refine OA.pure (dst := (some 125)) (v := (.bool false)) rfl rfl rfl rfl ?_
            refine OA.pure (dst := (some 126)) (v := (.bool false)) rfl rfl rfl rfl ?_
            refine OA.off (dst := (some 127)) rfl rfl rfl ?_
            refine OA.off (dst := (some 128)) rfl rfl rfl ?_
            refine OA.off (dst := (some 129)) rfl rfl rfl ?_
            refine OA.off (dst := (some 130)) rfl rfl rfl ?_
            refine OA.pure (dst := (some 131)) (v := (.bool false)) rfl rfl rfl rfl ?_
            refine OA.pure (dst := (some 21)) (v := (.bool false)) rfl rfl rfl rfl ?_
            refine OA.nil ?_
            exfalso
            first | omega | (unfold moreOk at *; omega) | (unfold resOk at *; omega)
        ·
          refine OA.pure (dst := (some 113)) (v := (.bool false)) rfl rfl rfl (Eq.trans (r_bin rfl rfl rfl (b_eql rfl)) (by first | (rw [decide_eq_false hc3]; done) | (rw [decide_eq_false hc3]; rfl))) ?_
          refine OA.pure (dst := (some 114)) (v := (.bool false)) rfl rfl rfl rfl ?_
          refine OA.off (dst := (some 115)) rfl rfl rfl ?_
          refine OA.off (dst := (some 116)) rfl rfl rfl ?_
          refine OA.off (dst := (some 117)) rfl rfl rfl ?_
          refine OA.off (dst := (some 118)) rfl rfl rfl ?_
          refine OA.pure (dst := (some 119)) (v := (.bool false)) rfl rfl rfl rfl ?_
          refine OA.pure (dst := (some 120)) (v := (.bool false)) rfl rfl rfl rfl ?_
          refine OA.off (dst := (some 121)) rfl rfl rfl ?_
          refine OA.off (dst := (some 122)) rfl rfl rfl ?_
          refine OA.off (dst := (some 123)) rfl rfl rfl ?_
          refine OA.off (dst := (some 124)) rfl rfl rfl ?_
          refine OA.pure (dst := (some 125)) (v := (.bool false)) rfl rfl rfl rfl ?_
          refine OA.pure (dst := (some 126)) (v := (.bool false)) rfl rfl rfl rfl ?_
          refine OA.off (dst := (some 127)) rfl rfl rfl ?_
          refine OA.off (dst := (some 128)) rfl rfl rfl ?_
          refine OA.off (dst := (some 129)) rfl rfl rfl ?_
          refine OA.off (dst := (some 130)) rfl rfl rfl ?_
          refine OA.pure (dst := (some 131)) (v := (.bool false)) rfl rfl rfl rfl ?_
          refine OA.pure (dst := (some 21)) (v := (.bool false)) rfl rfl rfl rfl ?_
          refine OA.nil ?_
          exfalso
          first | omega | (unfold moreOk at *; omega) | (unfold resOk at *; omega)
      ·
        rintro _ τ3 n3 Dn3 hmn3 ⟨rfl, hHn3, ⟨_, hLn3, rfl⟩, hn3, hKn3⟩
        rw [Has.eq hHn3]
        intro _
        refine RA.weaken hd hLn3 ?_
        try simp only [keys, List.map, List.forall_mem_cons, List.mem_cons, List.not_mem_nil, false_imp_iff, implies_true, and_true] at hKn3
        refine RA.seq hd (RA.imp (Q := fun x τ' n' D' => x = .normal ∧ Has τ' [(7, (.pointer (some ⟨(n + 1), 0, some 0⟩))), (16, (.int .i64 (((at_ u 4 2) : Nat) : Int))), (17, (.bool true)), (19, (.int .i64 (((w32 u 4).toNat : Nat) : Int))), (20, (.bool true)), (21, (.bool true)), (22, (.bool true))] ∧ (∃ D2, Less n n' D' D2 ∧ D2 = [((n + 1), some ⟨[[(.int .i64 typ), (.string u)]], 2, 35, true⟩)]) ∧ n3 ≤ n' ∧ ∀ i ∈ keys [((n + 1), some ⟨[[(.int .i64 typ), (.string u)]], 2, 35, true⟩)], i < n') ?_ ?_)
        ·
          refine RA.region env_ok ?_
          refine OA.pure (dst := (some 132)) (v := (.pointer (some ⟨(n + 1), 0, some 0⟩))) rfl rfl rfl rfl ?_
          refine OA.pure (dst := (some 133)) (v := (.int .i64 typ)) rfl rfl rfl (r_load1 rfl rfl rfl rfl rfl get_here rfl rfl) ?_
          by_cases hc7 : typ = 16
          ·
            refine OA.pure (dst := (some 134)) (v := (.bool true)) rfl rfl rfl (Eq.trans (r_bin rfl rfl rfl (b_eql rfl)) (by first | (rw [decide_eq_true hc7]; done) | (rw [decide_eq_true hc7]; rfl))) ?_
            refine OA.pure (dst := (some 135)) (v := (.bool true)) rfl rfl rfl rfl ?_
            refine OA.pure (dst := (some 136)) (v := (.pointer (some ⟨(n + 1), 0, some 1⟩))) rfl rfl rfl rfl ?_
            refine OA.pure (dst := (some 137)) (v := (.string u)) rfl rfl rfl (r_load1 rfl rfl rfl rfl rfl get_here rfl rfl) ?_
            refine OA.pure (dst := (some 138)) (v := (.int .i64 ((u.size : Nat) : Int))) rfl rfl rfl rfl ?_
            by_cases hc8 : ((u.size : Nat) : Int) = 8
            ·
              refine OA.pure (dst := (some 139)) (v := (.bool true)) rfl rfl rfl (Eq.trans (r_bin rfl rfl rfl (b_eql rfl)) (by first | (rw [decide_eq_true hc8]; done) | (rw [decide_eq_true hc8]; rfl))) ?_
              refine OA.pure (dst := (some 140)) (v := (.bool true)) rfl rfl rfl rfl ?_
              refine OA.pure (dst := (some 141)) (v := (.bool true)) rfl rfl rfl rfl ?_
              refine OA.pure (dst := (some 142)) (v := (.pointer (some ⟨(n + 1), 0, some 1⟩))) rfl rfl rfl rfl ?_
              refine OA.pure (dst := (some 143)) (v := (.string u)) rfl rfl rfl (r_load1 rfl rfl rfl rfl rfl get_here rfl rfl) ?_
              refine OA.pure (dst := (some 144)) (v := (.string (u.extract 4 u.size))) rfl rfl rfl (r_cut (a := 4) (b := u.size) rfl rfl (fun _ => rfl) (fun _ => rfl) rfl rfl rfl rfl (by omega) (by omega) rfl) ?_
              by_cases hc9 : (u.extract 4 u.size) = (ByteArray.mk #[0, 0, 0, 1])
              ·
                have qhc9 : (w32 u 4).toNat = 1 := (hC (by omega)).1 hc9
                refine OA.pure (dst := (some 145)) (v := (.bool true)) rfl rfl rfl (Eq.trans (r_eqlS rfl rfl rfl) (by first | (rw [decide_eq_true hc9]; done) | (rw [decide_eq_true hc9]; rfl))) ?_
                refine OA.pure (dst := (some 146)) (v := (.bool true)) rfl rfl rfl rfl ?_
                refine OA.off (dst := (some 147)) rfl rfl rfl ?_
                refine OA.off (dst := (some 148)) rfl rfl rfl ?_
                refine OA.off (dst := (some 149)) rfl rfl rfl ?_
                refine OA.off (dst := (some 150)) rfl rfl rfl ?_
                refine OA.pure (dst := (some 151)) (v := (.bool true)) rfl rfl rfl rfl ?_
                refine OA.pure (dst := (some 152)) (v := (.bool true)) rfl rfl rfl rfl ?_
                refine OA.pure (dst := (some 22)) (v := (.bool true)) rfl rfl rfl rfl ?_
                refine OA.nil ?_
                exact ⟨rfl, ⟨rfl, rfl, rfl, rfl, rfl, rfl, rfl, trivial⟩, ⟨_, (Less.refl _ _ _), rfl⟩, by omega, (by intro i hi; simp only [keys, List.cons_append, List.nil_append, List.map_cons, List.map_nil, List.mem_cons, List.not_mem_nil, or_false, false_or] at hi; omega)⟩
              ·
                have qhc9 : ¬ (w32 u 4).toNat = 1 := fun q => hc9 ((hC (by omega)).2 q)
                refine OA.pure (dst := (some 145)) (v := (.bool false)) rfl rfl rfl (Eq.trans (r_eqlS rfl rfl rfl) (by first | (rw [decide_eq_false hc9]; done) | (rw [decide_eq_false hc9]; rfl))) ?_
                refine OA.pure (dst := (some 146)) (v := (.bool false)) rfl rfl rfl rfl ?_
                refine OA.pure (dst := (some 147)) (v := (.pointer (some ⟨(n + 1), 0, some 1⟩))) rfl rfl rfl rfl ?_
                refine OA.pure (dst := (some 148)) (v := (.string u)) rfl rfl rfl (r_load1 rfl rfl rfl rfl rfl get_here rfl rfl) ?_
                refine OA.pure (dst := (some 149)) (v := (.string (u.extract 4 u.size))) rfl rfl rfl (r_cut (a := 4) (b := u.size) rfl rfl (fun _ => rfl) (fun _ => rfl) rfl rfl rfl rfl (by omega) (by omega) rfl) ?_
                by_cases hc10 : (u.extract 4 u.size) = (ByteArray.mk #[0, 0, 0, 2])
                ·
                  have qhc10 : (w32 u 4).toNat = 2 := (hD (by omega)).1 hc10
                  refine OA.pure (dst := (some 150)) (v := (.bool true)) rfl rfl rfl (Eq.trans (r_eqlS rfl rfl rfl) (by first | (rw [decide_eq_true hc10]; done) | (rw [decide_eq_true hc10]; rfl))) ?_
                  refine OA.pure (dst := (some 151)) (v := (.bool true)) rfl rfl rfl rfl ?_
                  refine OA.pure (dst := (some 152)) (v := (.bool true)) rfl rfl rfl rfl ?_
                  refine OA.pure (dst := (some 22)) (v := (.bool true)) rfl rfl rfl rfl ?_
                  refine OA.nil ?_
                  exact ⟨rfl, ⟨rfl, rfl, rfl, rfl, rfl, rfl, rfl, trivial⟩, ⟨_, (Less.refl _ _ _), rfl⟩, by omega, (by intro i hi; simp only [keys, List.cons_append, List.nil_append, List.map_cons, List.map_nil, List.mem_cons, List.not_mem_nil, or_false, false_or] at hi; omega)⟩
                ·
                  have qhc10 : ¬ (w32 u 4).toNat = 2 := fun q => hc10 ((hD (by omega)).2 q)
                  refine OA.pure (dst := (some 150)) (v := (.bool false)) rfl rfl rfl (Eq.trans (r_eqlS rfl rfl rfl) (by first | (rw [decide_eq_false hc10]; done) | (rw [decide_eq_false hc10]; rfl))) ?_
                  refine OA.pure (dst := (some 151)) (v := (.bool false)) rfl rfl rfl rfl ?_
                  refine OA.pure (dst := (some 152)) (v := (.bool false)) rfl rfl rfl rfl ?_
                  refine OA.pure (dst := (some 22)) (v := (.bool false)) rfl rfl rfl rfl ?_
                  refine OA.nil ?_
                  exfalso
                  first | omega | (unfold moreOk at *; omega) | (unfold resOk at *; omega)
            ·
              refine OA.pure (dst := (some 139)) (v := (.bool false)) rfl rfl rfl (Eq.trans (r_bin rfl rfl rfl (b_eql rfl)) (by first | (rw [decide_eq_false hc8]; done) | (rw [decide_eq_false hc8]; rfl))) ?_
              refine OA.pure (dst := (some 140)) (v := (.bool false)) rfl rfl rfl rfl ?_
              refine OA.pure (dst := (some 141)) (v := (.bool false)) rfl rfl rfl rfl ?_
              refine OA.off (dst := (some 142)) rfl rfl rfl ?_
              refine OA.off (dst := (some 143)) rfl rfl rfl ?_
              refine OA.off (dst := (some 144)) rfl rfl rfl ?_
              refine OA.off (dst := (some 145)) rfl rfl rfl ?_
              refine OA.off (dst := (some 146)) rfl rfl rfl ?_
              refine OA.off (dst := (some 147)) rfl rfl rfl ?_
              refine OA.off (dst := (some 148)) rfl rfl rfl ?_
              refine OA.off (dst := (some 149)) rfl rfl rfl ?_
              refine OA.off (dst := (some 150)) rfl rfl rfl ?_
              refine OA.off (dst := (some 151)) rfl rfl rfl ?_
              refine OA.pure (dst := (some 152)) (v := (.bool false)) rfl rfl rfl rfl ?_
              refine OA.pure (dst := (some 22)) (v := (.bool false)) rfl rfl rfl rfl ?_
              refine OA.nil ?_
              exfalso
              first | omega | (unfold moreOk at *; omega) | (unfold resOk at *; omega)
          ·
            refine OA.pure (dst := (some 134)) (v := (.bool false)) rfl rfl rfl (Eq.trans (r_bin rfl rfl rfl (b_eql rfl)) (by first | (rw [decide_eq_false hc7]; done) | (rw [decide_eq_false hc7]; rfl))) ?_
            refine OA.pure (dst := (some 135)) (v := (.bool false)) rfl rfl rfl rfl ?_
            refine OA.off (dst := (some 136)) rfl rfl rfl ?_
            refine OA.off (dst := (some 137)) rfl rfl rfl ?_
            refine OA.off (dst := (some 138)) rfl rfl rfl ?_
            refine OA.off (dst := (some 139)) rfl rfl rfl ?_
            refine OA.pure (dst := (some 140)) (v := (.bool false)) rfl rfl rfl rfl ?_
            refine OA.pure (dst := (some 141)) (v := (.bool false)) rfl rfl rfl rfl ?_
            refine OA.off (dst := (some 142)) rfl rfl rfl ?_
            refine OA.off (dst := (some 143)) rfl rfl rfl ?_
            refine OA.off (dst := (some 144)) rfl rfl rfl ?_
            refine OA.off (dst := (some 145)) rfl rfl rfl ?_
            refine OA.off (dst := (some 146)) rfl rfl rfl ?_
            refine OA.off (dst := (some 147)) rfl rfl rfl ?_
            refine OA.off (dst := (some 148)) rfl rfl rfl ?_
            refine OA.off (dst := (some 149)) rfl rfl rfl ?_
            refine OA.off (dst := (some 150)) rfl rfl rfl ?_
            refine OA.off (dst := (some 151)) rfl rfl rfl ?_
            refine OA.pure (dst := (some 152)) (v := (.bool false)) rfl rfl rfl rfl ?_
            refine OA.pure (dst := (some 22)) (v := (.bool false)) rfl rfl rfl rfl ?_
            refine OA.nil ?_
            exfalso
            first | omega | (unfold moreOk at *; omega) | (unfold resOk at *; omega)
        ·
          rintro _ τ4 n4 Dn4 hmn4 ⟨rfl, hHn4, ⟨_, hLn4, rfl⟩, hn4, hKn4⟩
          rw [Has.eq hHn4]
          intro _
          refine RA.weaken hd hLn4 ?_
          try simp only [keys, List.map, List.forall_mem_cons, List.mem_cons, List.not_mem_nil, false_imp_iff, implies_true, and_true] at hKn4
          refine RA.seq hd ?_
          refine RA.par (md := [some [], some [], some [], some [], some [], some [], some [], some [], some [], some [], some [], some [(n + 1)], some [], some [], some [], some [], some [], some [], some [], some [], some [], some [], some [], some [], some [], some [], some [], some [], some [], some [(n + 1)], some [], some [], some [], some [], some []]) env_ok (hd.of (by omega) (by intro i hi; simp only [keys, List.cons_append, List.nil_append, List.map_cons, List.map_nil, List.mem_cons, List.not_mem_nil, or_false, false_or] at hi; omega)) (by kernel_rfl) ?_
          refine PQ.pure (dst := (some 153)) (v := (.bool true)) rfl rfl rfl noStore (none_ok _ _) rfl ?_
          refine PQ.pure (dst := (some 154)) (v := (.bool true)) rfl rfl rfl noStore (none_ok _ _) rfl ?_
          refine PQ.pure (dst := (some 155)) (v := (.bool true)) rfl rfl rfl noStore (none_ok _ _) rfl ?_
          refine PQ.pure (dst := (some 156)) (v := (.bool true)) rfl rfl rfl noStore (none_ok _ _) rfl ?_
          refine PQ.pure (dst := (some 157)) (v := (.bool true)) rfl rfl rfl noStore (none_ok _ _) rfl ?_
          refine PQ.pure (dst := (some 158)) (v := (.bool false)) rfl rfl rfl noStore (none_ok _ _) rfl ?_
          refine PQ.pure (dst := (some 159)) (v := (.bool false)) rfl rfl rfl noStore (none_ok _ _) rfl ?_
          refine PQ.pure (dst := (some 160)) (v := (.int .i64 (((at_ u 4 2) : Nat) : Int))) rfl rfl rfl noStore (none_ok _ _) rfl ?_
          refine PQ.pure (dst := (some 161)) (v := (.int .u64 (((at_ u 4 2) : Nat) : Int))) rfl rfl rfl noStore (none_ok _ _) (r_cvt rfl rfl rfl rfl rfl ⟨_, rfl⟩ (u64_eq (by have := at_lt u 4 2; omega))) ?_
          refine PQ.callP (dst := (some 162)) (all := [(.int .u64 (((at_ u 4 2) : Nat) : Int)), (.int .i64 2)]) (v := (.string (u.extract 4 6))) noStore (dom_none _) rfl rfl rfl rfl rfl rfl rfl rfl (none_ok _ _) (PS.to (sPut 2 (at_ u 4 2) (by have := at_lt u 4 2; omega) (by decide)) (congrArg Value.string (putL_at rfl (by unfold moreOk at *; omega)))) ?_
          intro n5 hn5
          refine PQ.pure (dst := (some 163)) (v := (.pointer (some ⟨(n + 1), 0, some 1⟩))) rfl rfl rfl noStore (none_ok _ _) rfl ?_
          refine PQ.pure (dst := (some 164)) (v := (.string u)) rfl rfl rfl (app [((n + 1), some ⟨[[(.int .i64 typ), (.string u)]], 2, 35, true⟩)] noStore) (seen_one (V := []) (D := [((n + 1), some ⟨[[(.int .i64 typ), (.string u)]], 2, 35, true⟩)]) (by kernel_rfl) get_here) (r_load1 rfl rfl rfl rfl rfl get_here rfl rfl) ?_
          refine PQ.pure (dst := (some 165)) (v := (.string (u.extract 4 6))) rfl rfl rfl noStore (none_ok _ _) (r_cut (a := 4) (b := 6) rfl rfl (fun _ => rfl) (fun _ => rfl) rfl rfl rfl rfl (by omega) (by omega) rfl) ?_
          refine PQ.pure (dst := (some 166)) (v := (.bool true)) rfl rfl rfl noStore (none_ok _ _) (Eq.trans (r_eqlS rfl rfl rfl) (by rw [decide_eq_true rfl] <;> rfl)) ?_
          refine PQ.pure (dst := (some 167)) (v := (.bool true)) rfl rfl rfl noStore (none_ok _ _) rfl ?_
          refine PQ.pure (dst := (some 168)) (v := (.bool true)) rfl rfl rfl noStore (none_ok _ _) rfl ?_
          refine PQ.pure (dst := (some 169)) (v := (.bool true)) rfl rfl rfl noStore (none_ok _ _) rfl ?_
          refine PQ.pure (dst := (some 170)) (v := (.bool true)) rfl rfl rfl noStore (none_ok _ _) rfl ?_
          refine PQ.pure (dst := (some 171)) (v := (.bool true)) rfl rfl rfl noStore (none_ok _ _) rfl ?_
          refine PQ.pure (dst := (some 172)) (v := (.bool true)) rfl rfl rfl noStore (none_ok _ _) rfl ?_
          refine PQ.pure (dst := (some 173)) (v := (.bool true)) rfl rfl rfl noStore (none_ok _ _) rfl ?_
          refine PQ.pure (dst := (some 174)) (v := (.bool true)) rfl rfl rfl noStore (none_ok _ _) rfl ?_
          refine PQ.pure (dst := (some 175)) (v := (.bool true)) rfl rfl rfl noStore (none_ok _ _) rfl ?_
          refine PQ.pure (dst := (some 176)) (v := (.bool false)) rfl rfl rfl noStore (none_ok _ _) rfl ?_
          refine PQ.pure (dst := (some 177)) (v := (.bool false)) rfl rfl rfl noStore (none_ok _ _) rfl ?_
          refine PQ.pure (dst := (some 178)) (v := (.int .i64 (((w32 u 4).toNat : Nat) : Int))) rfl rfl rfl noStore (none_ok _ _) rfl ?_
          refine PQ.pure (dst := (some 179)) (v := (W (BitVec.ofNat 32 (w32 u 4).toNat))) rfl rfl rfl noStore (none_ok _ _) (r_cvt rfl rfl rfl rfl rfl ⟨_, rfl⟩ (wrap_ofNat32 _)) ?_
          refine PQ.callP (dst := (some 180)) (all := [(W (BitVec.ofNat 32 (w32 u 4).toNat))]) (v := (.string (u.extract 4 u.size))) noStore (dom_none _) rfl rfl rfl rfl rfl rfl rfl rfl (none_ok _ _) (PS.to (sFour _) (congrArg Value.string (by rw [BitVec.toNat_ofNat, w32_toNat, Nat.mod_eq_of_lt (at_lt u 4 4)]; exact putL_at (by unfold resOk at *; omega) (Nat.le_refl _)))) ?_
          intro n6 hn6
          refine PQ.pure (dst := (some 181)) (v := (.pointer (some ⟨(n + 1), 0, some 1⟩))) rfl rfl rfl noStore (none_ok _ _) rfl ?_
          refine PQ.pure (dst := (some 182)) (v := (.string u)) rfl rfl rfl (app [((n + 1), some ⟨[[(.int .i64 typ), (.string u)]], 2, 35, true⟩)] noStore) (seen_one (V := []) (D := [((n + 1), some ⟨[[(.int .i64 typ), (.string u)]], 2, 35, true⟩)]) (by kernel_rfl) get_here) (r_load1 rfl rfl rfl rfl rfl get_here rfl rfl) ?_
          refine PQ.pure (dst := (some 183)) (v := (.string (u.extract 4 u.size))) rfl rfl rfl noStore (none_ok _ _) (r_cut (a := 4) (b := u.size) rfl rfl (fun _ => rfl) (fun _ => rfl) rfl rfl rfl rfl (by omega) (by omega) rfl) ?_
          refine PQ.pure (dst := (some 184)) (v := (.bool true)) rfl rfl rfl noStore (none_ok _ _) (Eq.trans (r_eqlS rfl rfl rfl) (by rw [decide_eq_true rfl] <;> rfl)) ?_
          refine PQ.pure (dst := (some 185)) (v := (.bool true)) rfl rfl rfl noStore (none_ok _ _) rfl ?_
          refine PQ.pure (dst := (some 186)) (v := (.bool true)) rfl rfl rfl noStore (none_ok _ _) rfl ?_
          refine PQ.pure (dst := (some 6)) (v := (.bool true)) rfl rfl rfl noStore (none_ok _ _) rfl ?_
          refine PQ.done (d := []) (by kernel_rfl) ?_
          intro _
          refine RA.rebase [(6, (.bool true)), (7, (.pointer (some ⟨(n + 1), 0, some 0⟩))), (16, (.int .i64 (((at_ u 4 2) : Nat) : Int))), (17, (.bool true)), (19, (.int .i64 (((w32 u 4).toNat : Nat) : Int))), (20, (.bool true)), (21, (.bool true)), (22, (.bool true))] ⟨rfl, rfl, rfl, rfl, rfl, rfl, rfl, rfl, trivial⟩ (fun τr7 => ?_)
          refine RA.ret env_ok ?_
          refine ⟨.inr rfl, [(.bool true)], (resL_cons rfl resL_nil), rfl, (by intro i hi; simp only [keys, List.cons_append, List.nil_append, List.map_cons, List.map_nil, List.mem_cons, List.not_mem_nil, or_false, false_or] at hi; omega)⟩
    ·
      refine OA.callP (dst := (some 107)) (all := [(.agg ⟨[(.int .i64 typ), (.string u)]⟩)]) (v := (.tuple ⟨[(W 0#32), (.int .i64 0), (.bool false)]⟩)) (hd.of (by omega) (by intro i hi; simp only [keys, List.cons_append, List.nil_append, List.map_cons, List.map_nil, List.mem_cons, List.not_mem_nil, or_false, false_or] at hi; omega)) rfl rfl rfl rfl rfl rfl rfl rfl (sAsR0 typ u (by omega) hc2) ?_
      intro n8 hn8
      refine OA.pure (dst := (some 105)) (v := (.tuple ⟨[(W 0#32), (.int .i64 0), (.bool false)]⟩)) rfl rfl rfl rfl ?_
      refine OA.pure (dst := (some 108)) (v := (W 0#32)) rfl rfl rfl rfl ?_
      refine OA.pure (dst := (some 109)) (v := (.int .i64 0)) rfl rfl rfl rfl ?_
      refine OA.pure (dst := (some 110)) (v := (.bool false)) rfl rfl rfl rfl ?_
      refine OA.pure (dst := (some 18)) (v := (W 0#32)) rfl rfl rfl rfl ?_
      refine OA.pure (dst := (some 19)) (v := (.int .i64 0)) rfl rfl rfl rfl ?_
      refine OA.pure (dst := (some 20)) (v := (.bool false)) rfl rfl rfl rfl ?_
      refine OA.nil ?_
      intro _
      refine RA.seq hd (RA.imp (Q := fun x τ' n' D' => x = .normal ∧ Has τ' [(7, (.pointer (some ⟨(n + 1), 0, some 0⟩))), (16, (.int .i64 (((at_ u 4 2) : Nat) : Int))), (17, (.bool true)), (19, (.int .i64 0)), (20, (.bool false)), (21, (.bool true))] ∧ (∃ D2, Less n n' D' D2 ∧ D2 = [((n + 1), some ⟨[[(.int .i64 typ), (.string u)]], 2, 35, true⟩)]) ∧ n8 ≤ n' ∧ ∀ i ∈ keys [((n + 1), some ⟨[[(.int .i64 typ), (.string u)]], 2, 35, true⟩)], i < n') ?_ ?_)
      ·
        refine RA.region env_ok ?_
        refine OA.pure (dst := (some 111)) (v := (.pointer (some ⟨(n + 1), 0, some 0⟩))) rfl rfl rfl rfl ?_
        refine OA.pure (dst := (some 112)) (v := (.int .i64 typ)) rfl rfl rfl (r_load1 rfl rfl rfl rfl rfl get_here rfl rfl) ?_
        by_cases hc11 : typ = 17
        ·
          refine OA.pure (dst := (some 113)) (v := (.bool true)) rfl rfl rfl (Eq.trans (r_bin rfl rfl rfl (b_eql rfl)) (by first | (rw [decide_eq_true hc11]; done) | (rw [decide_eq_true hc11]; rfl))) ?_
          refine OA.pure (dst := (some 114)) (v := (.bool true)) rfl rfl rfl rfl ?_
          refine OA.pure (dst := (some 115)) (v := (.pointer (some ⟨(n + 1), 0, some 1⟩))) rfl rfl rfl rfl ?_
          refine OA.pure (dst := (some 116)) (v := (.string u)) rfl rfl rfl (r_load1 rfl rfl rfl rfl rfl get_here rfl rfl) ?_
          refine OA.pure (dst := (some 117)) (v := (.int .i64 ((u.size : Nat) : Int))) rfl rfl rfl rfl ?_
          by_cases hc12 : ((u.size : Nat) : Int) = 8
          ·
            refine OA.pure (dst := (some 118)) (v := (.bool true)) rfl rfl rfl (Eq.trans (r_bin rfl rfl rfl (b_eql rfl)) (by first | (rw [decide_eq_true hc12]; done) | (rw [decide_eq_true hc12]; rfl))) ?_
            refine OA.pure (dst := (some 119)) (v := (.bool true)) rfl rfl rfl rfl ?_
            refine OA.pure (dst := (some 120)) (v := (.bool true)) rfl rfl rfl rfl ?_
            refine OA.pure (dst := (some 121)) (v := (.pointer (some ⟨(n + 1), 0, some 1⟩))) rfl rfl rfl rfl ?_
            refine OA.pure (dst := (some 122)) (v := (.string u)) rfl rfl rfl (r_load1 rfl rfl rfl rfl rfl get_here rfl rfl) ?_
            refine OA.pure (dst := (some 123)) (v := (.string (u.extract 6 u.size))) rfl rfl rfl (r_cut (a := 6) (b := u.size) rfl rfl (fun _ => rfl) (fun _ => rfl) rfl rfl rfl rfl (by omega) (by omega) rfl) ?_
            by_cases hc13 : (u.extract 6 u.size) = (ByteArray.mk #[0, 0])
            ·
              have qhc13 : at_ u 6 2 = 0 := (hA (by omega)).1 hc13
              refine OA.pure (dst := (some 124)) (v := (.bool true)) rfl rfl rfl (Eq.trans (r_eqlS rfl rfl rfl) (by first | (rw [decide_eq_true hc13]; done) | (rw [decide_eq_true hc13]; rfl))) ?_
              refine OA.pure (dst := (some 125)) (v := (.bool true)) rfl rfl rfl rfl ?_
              refine OA.pure (dst := (some 126)) (v := (.bool true)) rfl rfl rfl rfl ?_
              refine OA.pure (dst := (some 127)) (v := (.pointer (some ⟨(n + 1), 0, some 1⟩))) rfl rfl rfl rfl ?_
              refine OA.pure (dst := (some 128)) (v := (.string u)) rfl rfl rfl (r_load1 rfl rfl rfl rfl rfl get_here rfl rfl) ?_
              refine OA.pure (dst := (some 129)) (v := (.string (u.extract 4 6))) rfl rfl rfl (r_cut (a := 4) (b := 6) rfl rfl (fun _ => rfl) (fun _ => rfl) rfl rfl rfl rfl (by omega) (by omega) rfl) ?_
              by_cases hc14 : (u.extract 4 6) = (ByteArray.mk #[0, 0])
              ·
                have qhc14 : at_ u 4 2 = 0 := (hB (by omega)).1 hc14
                refine OA.pure (dst := (some 130)) (v := (.bool false)) rfl rfl rfl (Eq.trans (r_neqS rfl rfl rfl) (by first | (rw [decide_eq_true hc14]; done) | (rw [decide_eq_true hc14]; rfl))) ?_
                refine OA.pure (dst := (some 131)) (v := (.bool false)) rfl rfl rfl rfl ?_
                refine OA.pure (dst := (some 21)) (v := (.bool false)) rfl rfl rfl rfl ?_
                refine OA.nil ?_
                exfalso
                first | omega | (unfold moreOk at *; omega) | (unfold resOk at *; omega)
              ·
                have qhc14 : ¬ at_ u 4 2 = 0 := fun q => hc14 ((hB (by omega)).2 q)
                refine OA.pure (dst := (some 130)) (v := (.bool true)) rfl rfl rfl (Eq.trans (r_neqS rfl rfl rfl) (by first | (rw [decide_eq_false hc14]; done) | (rw [decide_eq_false hc14]; rfl))) ?_
                refine OA.pure (dst := (some 131)) (v := (.bool true)) rfl rfl rfl rfl ?_
                refine OA.pure (dst := (some 21)) (v := (.bool true)) rfl rfl rfl rfl ?_
                refine OA.nil ?_
                exact ⟨rfl, ⟨rfl, rfl, rfl, rfl, rfl, rfl, trivial⟩, ⟨_, (Less.refl _ _ _), rfl⟩, by omega, (by intro i hi; simp only [keys, List.cons_append, List.nil_append, List.map_cons, List.map_nil, List.mem_cons, List.not_mem_nil, or_false, false_or] at hi; omega)⟩
            ·
              have qhc13 : ¬ at_ u 6 2 = 0 := fun q => hc13 ((hA (by omega)).2 q)
              refine OA.pure (dst := (some 124)) (v := (.bool false)) rfl rfl rfl (Eq.trans (r_eqlS rfl rfl rfl) (by first | (rw [decide_eq_false hc13]; done) | (rw [decide_eq_false hc13]; rfl))) ?_
              refine OA.pure (dst := (some 125)) (v := (.bool false)) rfl rfl rfl rfl ?_
              refine OA.pure (dst := (some 126)) (v := (.bool false)) rfl rfl rfl rfl ?_
              refine OA.off (dst := (some 127)) rfl rfl rfl ?_
              refine OA.off (dst := (some 128)) rfl rfl rfl ?_
              refine OA.off (dst := (some 129)) rfl rfl rfl ?_
              refine OA.off (dst := (some 130)) rfl rfl rfl ?_
              refine OA.pure (dst := (some 131)) (v := (.bool false)) rfl rfl rfl rfl ?_
              refine OA.pure (dst := (some 21)) (v := (.bool false)) rfl rfl rfl rfl ?_
              refine OA.nil ?_
              exfalso
              first | omega | (unfold moreOk at *; omega) | (unfold resOk at *; omega)
          ·
            refine OA.pure (dst := (some 118)) (v := (.bool false)) rfl rfl rfl (Eq.trans (r_bin rfl rfl rfl (b_eql rfl)) (by first | (rw [decide_eq_false hc12]; done) | (rw [decide_eq_false hc12]; rfl))) ?_
            refine OA.pure (dst := (some 119)) (v := (.bool false)) rfl rfl rfl rfl ?_
            refine OA.pure (dst := (some 120)) (v := (.bool false)) rfl rfl rfl rfl ?_
            refine OA.off (dst := (some 121)) rfl rfl rfl ?_
            refine OA.off (dst := (some 122)) rfl rfl rfl ?_
            refine OA.off (dst := (some 123)) rfl rfl rfl ?_
            refine OA.off (dst := (some 124)) rfl rfl rfl ?_
            refine OA.pure (dst := (some 125)) (v := (.bool false)) rfl rfl rfl rfl ?_
            refine OA.pure (dst := (some 126)) (v := (.bool false)) rfl rfl rfl rfl ?_
            refine OA.off (dst := (some 127)) rfl rfl rfl ?_
            refine OA.off (dst := (some 128)) rfl rfl rfl ?_
            refine OA.off (dst := (some 129)) rfl rfl rfl ?_
            refine OA.off (dst := (some 130)) rfl rfl rfl ?_
            refine OA.pure (dst := (some 131)) (v := (.bool false)) rfl rfl rfl rfl ?_
            refine OA.pure (dst := (some 21)) (v := (.bool false)) rfl rfl rfl rfl ?_
            refine OA.nil ?_
            exfalso
            first | omega | (unfold moreOk at *; omega) | (unfold resOk at *; omega)
        ·
          refine OA.pure (dst := (some 113)) (v := (.bool false)) rfl rfl rfl (Eq.trans (r_bin rfl rfl rfl (b_eql rfl)) (by first | (rw [decide_eq_false hc11]; done) | (rw [decide_eq_false hc11]; rfl))) ?_
          refine OA.pure (dst := (some 114)) (v := (.bool false)) rfl rfl rfl rfl ?_
          refine OA.off (dst := (some 115)) rfl rfl rfl ?_
          refine OA.off (dst := (some 116)) rfl rfl rfl ?_
          refine OA.off (dst := (some 117)) rfl rfl rfl ?_
          refine OA.off (dst := (some 118)) rfl rfl rfl ?_
          refine OA.pure (dst := (some 119)) (v := (.bool false)) rfl rfl rfl rfl ?_
          refine OA.pure (dst := (some 120)) (v := (.bool false)) rfl rfl rfl rfl ?_
          refine OA.off (dst := (some 121)) rfl rfl rfl ?_
          refine OA.off (dst := (some 122)) rfl rfl rfl ?_
          refine OA.off (dst := (some 123)) rfl rfl rfl ?_
          refine OA.off (dst := (some 124)) rfl rfl rfl ?_
          refine OA.pure (dst := (some 125)) (v := (.bool false)) rfl rfl rfl rfl ?_
          refine OA.pure (dst := (some 126)) (v := (.bool false)) rfl rfl rfl rfl ?_
          refine OA.off (dst := (some 127)) rfl rfl rfl ?_
          refine OA.off (dst := (some 128)) rfl rfl rfl ?_
          refine OA.off (dst := (some 129)) rfl rfl rfl ?_
          refine OA.off (dst := (some 130)) rfl rfl rfl ?_
          refine OA.pure (dst := (some 131)) (v := (.bool false)) rfl rfl rfl rfl ?_
          refine OA.pure (dst := (some 21)) (v := (.bool false)) rfl rfl rfl rfl ?_
          refine OA.nil ?_
          exfalso
          first | omega | (unfold moreOk at *; omega) | (unfold resOk at *; omega)
      ·
        rintro _ τ9 n9 Dn9 hmn9 ⟨rfl, hHn9, ⟨_, hLn9, rfl⟩, hn9, hKn9⟩
        rw [Has.eq hHn9]
        intro _
        refine RA.weaken hd hLn9 ?_
        try simp only [keys, List.map, List.forall_mem_cons, List.mem_cons, List.not_mem_nil, false_imp_iff, implies_true, and_true] at hKn9
        refine RA.seq hd (RA.imp (Q := fun x τ' n' D' => x = .normal ∧ Has τ' [(7, (.pointer (some ⟨(n + 1), 0, some 0⟩))), (16, (.int .i64 (((at_ u 4 2) : Nat) : Int))), (17, (.bool true)), (19, (.int .i64 0)), (20, (.bool false)), (21, (.bool true)), (22, (.bool false))] ∧ (∃ D2, Less n n' D' D2 ∧ D2 = [((n + 1), some ⟨[[(.int .i64 typ), (.string u)]], 2, 35, true⟩)]) ∧ n9 ≤ n' ∧ ∀ i ∈ keys [((n + 1), some ⟨[[(.int .i64 typ), (.string u)]], 2, 35, true⟩)], i < n') ?_ ?_)
        ·
          refine RA.region env_ok ?_
          refine OA.pure (dst := (some 132)) (v := (.pointer (some ⟨(n + 1), 0, some 0⟩))) rfl rfl rfl rfl ?_
          refine OA.pure (dst := (some 133)) (v := (.int .i64 typ)) rfl rfl rfl (r_load1 rfl rfl rfl rfl rfl get_here rfl rfl) ?_
          by_cases hc15 : typ = 16
          ·
            refine OA.pure (dst := (some 134)) (v := (.bool true)) rfl rfl rfl (Eq.trans (r_bin rfl rfl rfl (b_eql rfl)) (by first | (rw [decide_eq_true hc15]; done) | (rw [decide_eq_true hc15]; rfl))) ?_
            refine OA.pure (dst := (some 135)) (v := (.bool true)) rfl rfl rfl rfl ?_
            refine OA.pure (dst := (some 136)) (v := (.pointer (some ⟨(n + 1), 0, some 1⟩))) rfl rfl rfl rfl ?_
            refine OA.pure (dst := (some 137)) (v := (.string u)) rfl rfl rfl (r_load1 rfl rfl rfl rfl rfl get_here rfl rfl) ?_
            refine OA.pure (dst := (some 138)) (v := (.int .i64 ((u.size : Nat) : Int))) rfl rfl rfl rfl ?_
            by_cases hc16 : ((u.size : Nat) : Int) = 8
            ·
              refine OA.pure (dst := (some 139)) (v := (.bool true)) rfl rfl rfl (Eq.trans (r_bin rfl rfl rfl (b_eql rfl)) (by first | (rw [decide_eq_true hc16]; done) | (rw [decide_eq_true hc16]; rfl))) ?_
              refine OA.pure (dst := (some 140)) (v := (.bool true)) rfl rfl rfl rfl ?_
              refine OA.pure (dst := (some 141)) (v := (.bool true)) rfl rfl rfl rfl ?_
              refine OA.pure (dst := (some 142)) (v := (.pointer (some ⟨(n + 1), 0, some 1⟩))) rfl rfl rfl rfl ?_
              refine OA.pure (dst := (some 143)) (v := (.string u)) rfl rfl rfl (r_load1 rfl rfl rfl rfl rfl get_here rfl rfl) ?_
              refine OA.pure (dst := (some 144)) (v := (.string (u.extract 4 u.size))) rfl rfl rfl (r_cut (a := 4) (b := u.size) rfl rfl (fun _ => rfl) (fun _ => rfl) rfl rfl rfl rfl (by omega) (by omega) rfl) ?_
              by_cases hc17 : (u.extract 4 u.size) = (ByteArray.mk #[0, 0, 0, 1])
              ·
                have qhc17 : (w32 u 4).toNat = 1 := (hC (by omega)).1 hc17
                refine OA.pure (dst := (some 145)) (v := (.bool true)) rfl rfl rfl (Eq.trans (r_eqlS rfl rfl rfl) (by first | (rw [decide_eq_true hc17]; done) | (rw [decide_eq_true hc17]; rfl))) ?_
                refine OA.pure (dst := (some 146)) (v := (.bool true)) rfl rfl rfl rfl ?_
                refine OA.off (dst := (some 147)) rfl rfl rfl ?_
                refine OA.off (dst := (some 148)) rfl rfl rfl ?_
                refine OA.off (dst := (some 149)) rfl rfl rfl ?_
                refine OA.off (dst := (some 150)) rfl rfl rfl ?_
                refine OA.pure (dst := (some 151)) (v := (.bool true)) rfl rfl rfl rfl ?_
                refine OA.pure (dst := (some 152)) (v := (.bool true)) rfl rfl rfl rfl ?_
                refine OA.pure (dst := (some 22)) (v := (.bool true)) rfl rfl rfl rfl ?_
                refine OA.nil ?_
                exfalso
                first | omega | (unfold moreOk at *; omega) | (unfold resOk at *; omega)
              ·
                have qhc17 : ¬ (w32 u 4).toNat = 1 := fun q => hc17 ((hC (by omega)).2 q)
                refine OA.pure (dst := (some 145)) (v := (.bool false)) rfl rfl rfl (Eq.trans (r_eqlS rfl rfl rfl) (by first | (rw [decide_eq_false hc17]; done) | (rw [decide_eq_false hc17]; rfl))) ?_
                refine OA.pure (dst := (some 146)) (v := (.bool false)) rfl rfl rfl rfl ?_
                refine OA.pure (dst := (some 147)) (v := (.pointer (some ⟨(n + 1), 0, some 1⟩))) rfl rfl rfl rfl ?_
                refine OA.pure (dst := (some 148)) (v := (.string u)) rfl rfl rfl (r_load1 rfl rfl rfl rfl rfl get_here rfl rfl) ?_
                refine OA.pure (dst := (some 149)) (v := (.string (u.extract 4 u.size))) rfl rfl rfl (r_cut (a := 4) (b := u.size) rfl rfl (fun _ => rfl) (fun _ => rfl) rfl rfl rfl rfl (by omega) (by omega) rfl) ?_
                by_cases hc18 : (u.extract 4 u.size) = (ByteArray.mk #[0, 0, 0, 2])
                ·
                  have qhc18 : (w32 u 4).toNat = 2 := (hD (by omega)).1 hc18
                  refine OA.pure (dst := (some 150)) (v := (.bool true)) rfl rfl rfl (Eq.trans (r_eqlS rfl rfl rfl) (by first | (rw [decide_eq_true hc18]; done) | (rw [decide_eq_true hc18]; rfl))) ?_
                  refine OA.pure (dst := (some 151)) (v := (.bool true)) rfl rfl rfl rfl ?_
                  refine OA.pure (dst := (some 152)) (v := (.bool true)) rfl rfl rfl rfl ?_
                  refine OA.pure (dst := (some 22)) (v := (.bool true)) rfl rfl rfl rfl ?_
                  refine OA.nil ?_
                  exfalso
                  first | omega | (unfold moreOk at *; omega) | (unfold resOk at *; omega)
                ·
                  have qhc18 : ¬ (w32 u 4).toNat = 2 := fun q => hc18 ((hD (by omega)).2 q)
                  refine OA.pure (dst := (some 150)) (v := (.bool false)) rfl rfl rfl (Eq.trans (r_eqlS rfl rfl rfl) (by first | (rw [decide_eq_false hc18]; done) | (rw [decide_eq_false hc18]; rfl))) ?_
                  refine OA.pure (dst := (some 151)) (v := (.bool false)) rfl rfl rfl rfl ?_
                  refine OA.pure (dst := (some 152)) (v := (.bool false)) rfl rfl rfl rfl ?_
                  refine OA.pure (dst := (some 22)) (v := (.bool false)) rfl rfl rfl rfl ?_
                  refine OA.nil ?_
                  exact ⟨rfl, ⟨rfl, rfl, rfl, rfl, rfl, rfl, rfl, trivial⟩, ⟨_, (Less.refl _ _ _), rfl⟩, by omega, (by intro i hi; simp only [keys, List.cons_append, List.nil_append, List.map_cons, List.map_nil, List.mem_cons, List.not_mem_nil, or_false, false_or] at hi; omega)⟩
            ·
              refine OA.pure (dst := (some 139)) (v := (.bool false)) rfl rfl rfl (Eq.trans (r_bin rfl rfl rfl (b_eql rfl)) (by first | (rw [decide_eq_false hc16]; done) | (rw [decide_eq_false hc16]; rfl))) ?_
              refine OA.pure (dst := (some 140)) (v := (.bool false)) rfl rfl rfl rfl ?_
              refine OA.pure (dst := (some 141)) (v := (.bool false)) rfl rfl rfl rfl ?_
              refine OA.off (dst := (some 142)) rfl rfl rfl ?_
              refine OA.off (dst := (some 143)) rfl rfl rfl ?_
              refine OA.off (dst := (some 144)) rfl rfl rfl ?_
              refine OA.off (dst := (some 145)) rfl rfl rfl ?_
              refine OA.off (dst := (some 146)) rfl rfl rfl ?_
              refine OA.off (dst := (some 147)) rfl rfl rfl ?_
              refine OA.off (dst := (some 148)) rfl rfl rfl ?_
              refine OA.off (dst := (some 149)) rfl rfl rfl ?_
              refine OA.off (dst := (some 150)) rfl rfl rfl ?_
              refine OA.off (dst := (some 151)) rfl rfl rfl ?_
              refine OA.pure (dst := (some 152)) (v := (.bool false)) rfl rfl rfl rfl ?_
              refine OA.pure (dst := (some 22)) (v := (.bool false)) rfl rfl rfl rfl ?_
              refine OA.nil ?_
              exact ⟨rfl, ⟨rfl, rfl, rfl, rfl, rfl, rfl, rfl, trivial⟩, ⟨_, (Less.refl _ _ _), rfl⟩, by omega, (by intro i hi; simp only [keys, List.cons_append, List.nil_append, List.map_cons, List.map_nil, List.mem_cons, List.not_mem_nil, or_false, false_or] at hi; omega)⟩
          ·
            refine OA.pure (dst := (some 134)) (v := (.bool false)) rfl rfl rfl (Eq.trans (r_bin rfl rfl rfl (b_eql rfl)) (by first | (rw [decide_eq_false hc15]; done) | (rw [decide_eq_false hc15]; rfl))) ?_
            refine OA.pure (dst := (some 135)) (v := (.bool false)) rfl rfl rfl rfl ?_
            refine OA.off (dst := (some 136)) rfl rfl rfl ?_
            refine OA.off (dst := (some 137)) rfl rfl rfl ?_
            refine OA.off (dst := (some 138)) rfl rfl rfl ?_
            refine OA.off (dst := (some 139)) rfl rfl rfl ?_
            refine OA.pure (dst := (some 140)) (v := (.bool false)) rfl rfl rfl rfl ?_
            refine OA.pure (dst := (some 141)) (v := (.bool false)) rfl rfl rfl rfl ?_
            refine OA.off (dst := (some 142)) rfl rfl rfl ?_
            refine OA.off (dst := (some 143)) rfl rfl rfl ?_
            refine OA.off (dst := (some 144)) rfl rfl rfl ?_
            refine OA.off (dst := (some 145)) rfl rfl rfl ?_
            refine OA.off (dst := (some 146)) rfl rfl rfl ?_
            refine OA.off (dst := (some 147)) rfl rfl rfl ?_
            refine OA.off (dst := (some 148)) rfl rfl rfl ?_
            refine OA.off (dst := (some 149)) rfl rfl rfl ?_
            refine OA.off (dst := (some 150)) rfl rfl rfl ?_
            refine OA.off (dst := (some 151)) rfl rfl rfl ?_
            refine OA.pure (dst := (some 152)) (v := (.bool false)) rfl rfl rfl rfl ?_
            refine OA.pure (dst := (some 22)) (v := (.bool false)) rfl rfl rfl rfl ?_
            refine OA.nil ?_
            exact ⟨rfl, ⟨rfl, rfl, rfl, rfl, rfl, rfl, rfl, trivial⟩, ⟨_, (Less.refl _ _ _), rfl⟩, by omega, (by intro i hi; simp only [keys, List.cons_append, List.nil_append, List.map_cons, List.map_nil, List.mem_cons, List.not_mem_nil, or_false, false_or] at hi; omega)⟩
        ·
          rintro _ τ10 n10 Dn10 hmn10 ⟨rfl, hHn10, ⟨_, hLn10, rfl⟩, hn10, hKn10⟩
          rw [Has.eq hHn10]
          intro _
          refine RA.weaken hd hLn10 ?_
          try simp only [keys, List.map, List.forall_mem_cons, List.mem_cons, List.not_mem_nil, false_imp_iff, implies_true, and_true] at hKn10
          refine RA.seq hd ?_
          refine RA.par (md := [some [], some [], some [], some [], some [], some [], some [], some [], some [], some [], some [], some [(n + 1)], some [], some [], some [], some [], some [], some [], some [], some [], some [], some [], some [], some [], some [], some [], some [], some [], some [], some [(n + 1)], some [], some [], some [], some [], some []]) env_ok (hd.of (by omega) (by intro i hi; simp only [keys, List.cons_append, List.nil_append, List.map_cons, List.map_nil, List.mem_cons, List.not_mem_nil, or_false, false_or] at hi; omega)) (by kernel_rfl) ?_
          refine PQ.pure (dst := (some 153)) (v := (.bool true)) rfl rfl rfl noStore (none_ok _ _) rfl ?_
          refine PQ.pure (dst := (some 154)) (v := (.bool true)) rfl rfl rfl noStore (none_ok _ _) rfl ?_
          refine PQ.pure (dst := (some 155)) (v := (.bool true)) rfl rfl rfl noStore (none_ok _ _) rfl ?_
          refine PQ.pure (dst := (some 156)) (v := (.bool true)) rfl rfl rfl noStore (none_ok _ _) rfl ?_
          refine PQ.pure (dst := (some 157)) (v := (.bool true)) rfl rfl rfl noStore (none_ok _ _) rfl ?_
          refine PQ.pure (dst := (some 158)) (v := (.bool false)) rfl rfl rfl noStore (none_ok _ _) rfl ?_
          refine PQ.pure (dst := (some 159)) (v := (.bool false)) rfl rfl rfl noStore (none_ok _ _) rfl ?_
          refine PQ.pure (dst := (some 160)) (v := (.int .i64 (((at_ u 4 2) : Nat) : Int))) rfl rfl rfl noStore (none_ok _ _) rfl ?_
          refine PQ.pure (dst := (some 161)) (v := (.int .u64 (((at_ u 4 2) : Nat) : Int))) rfl rfl rfl noStore (none_ok _ _) (r_cvt rfl rfl rfl rfl rfl ⟨_, rfl⟩ (u64_eq (by have := at_lt u 4 2; omega))) ?_
          refine PQ.callP (dst := (some 162)) (all := [(.int .u64 (((at_ u 4 2) : Nat) : Int)), (.int .i64 2)]) (v := (.string (u.extract 4 6))) noStore (dom_none _) rfl rfl rfl rfl rfl rfl rfl rfl (none_ok _ _) (PS.to (sPut 2 (at_ u 4 2) (by have := at_lt u 4 2; omega) (by decide)) (congrArg Value.string (putL_at rfl (by unfold moreOk at *; omega)))) ?_
          intro n11 hn11
          refine PQ.pure (dst := (some 163)) (v := (.pointer (some ⟨(n + 1), 0, some 1⟩))) rfl rfl rfl noStore (none_ok _ _) rfl ?_
          refine PQ.pure (dst := (some 164)) (v := (.string u)) rfl rfl rfl (app [((n + 1), some ⟨[[(.int .i64 typ), (.string u)]], 2, 35, true⟩)] noStore) (seen_one (V := []) (D := [((n + 1), some ⟨[[(.int .i64 typ), (.string u)]], 2, 35, true⟩)]) (by kernel_rfl) get_here) (r_load1 rfl rfl rfl rfl rfl get_here rfl rfl) ?_
          refine PQ.pure (dst := (some 165)) (v := (.string (u.extract 4 6))) rfl rfl rfl noStore (none_ok _ _) (r_cut (a := 4) (b := 6) rfl rfl (fun _ => rfl) (fun _ => rfl) rfl rfl rfl rfl (by omega) (by omega) rfl) ?_
          refine PQ.pure (dst := (some 166)) (v := (.bool true)) rfl rfl rfl noStore (none_ok _ _) (Eq.trans (r_eqlS rfl rfl rfl) (by rw [decide_eq_true rfl] <;> rfl)) ?_
          refine PQ.pure (dst := (some 167)) (v := (.bool true)) rfl rfl rfl noStore (none_ok _ _) rfl ?_
          refine PQ.pure (dst := (some 168)) (v := (.bool true)) rfl rfl rfl noStore (none_ok _ _) rfl ?_
          refine PQ.pure (dst := (some 169)) (v := (.bool true)) rfl rfl rfl noStore (none_ok _ _) rfl ?_
          refine PQ.pure (dst := (some 170)) (v := (.bool false)) rfl rfl rfl noStore (none_ok _ _) rfl ?_
          refine PQ.pure (dst := (some 171)) (v := (.bool false)) rfl rfl rfl noStore (none_ok _ _) rfl ?_
          refine PQ.pure (dst := (some 172)) (v := (.bool true)) rfl rfl rfl noStore (none_ok _ _) rfl ?_
          refine PQ.pure (dst := (some 173)) (v := (.bool true)) rfl rfl rfl noStore (none_ok _ _) rfl ?_
          refine PQ.pure (dst := (some 174)) (v := (.bool true)) rfl rfl rfl noStore (none_ok _ _) rfl ?_
          refine PQ.pure (dst := (some 175)) (v := (.bool false)) rfl rfl rfl noStore (none_ok _ _) rfl ?_
          refine PQ.pure (dst := (some 176)) (v := (.bool true)) rfl rfl rfl noStore (none_ok _ _) rfl ?_
          refine PQ.pure (dst := (some 177)) (v := (.bool true)) rfl rfl rfl noStore (none_ok _ _) rfl ?_
          refine PQ.off (dst := (some 178)) rfl rfl rfl ?_
          refine PQ.off (dst := (some 179)) rfl rfl rfl ?_
          refine PQ.off (dst := (some 180)) rfl rfl rfl ?_
          refine PQ.off (dst := (some 181)) rfl rfl rfl ?_
          refine PQ.off (dst := (some 182)) rfl rfl rfl ?_
          refine PQ.off (dst := (some 183)) rfl rfl rfl ?_
          refine PQ.off (dst := (some 184)) rfl rfl rfl ?_
          refine PQ.pure (dst := (some 185)) (v := (.bool true)) rfl rfl rfl noStore (none_ok _ _) rfl ?_
          refine PQ.pure (dst := (some 186)) (v := (.bool true)) rfl rfl rfl noStore (none_ok _ _) rfl ?_
          refine PQ.pure (dst := (some 6)) (v := (.bool true)) rfl rfl rfl noStore (none_ok _ _) rfl ?_
          refine PQ.done (d := []) (by kernel_rfl) ?_
          intro _
          refine RA.rebase [(6, (.bool true)), (7, (.pointer (some ⟨(n + 1), 0, some 0⟩))), (16, (.int .i64 (((at_ u 4 2) : Nat) : Int))), (17, (.bool true)), (19, (.int .i64 0)), (20, (.bool false)), (21, (.bool true)), (22, (.bool false))] ⟨rfl, rfl, rfl, rfl, rfl, rfl, rfl, rfl, trivial⟩ (fun τr12 => ?_)
          refine RA.ret env_ok ?_
          refine ⟨.inr rfl, [(.bool true)], (resL_cons rfl resL_nil), rfl, (by intro i hi; simp only [keys, List.cons_append, List.nil_append, List.map_cons, List.map_nil, List.mem_cons, List.not_mem_nil, or_false, false_or] at hi; omega)⟩
  ·
    refine OA.callP (dst := (some 101)) (all := [(.agg ⟨[(.int .i64 typ), (.string u)]⟩)]) (v := (.tuple ⟨[(W 0#32), (.int .i64 0), (.bool false)]⟩)) (hd.of (by omega) (by intro i hi; simp only [keys, List.cons_append, List.nil_append, List.map_cons, List.map_nil, List.mem_cons, List.not_mem_nil, or_false, false_or] at hi; omega)) rfl rfl rfl rfl rfl rfl rfl rfl (sAsM0 typ u (by omega) hc1) ?_
    intro n13 hn13
    refine OA.pure (dst := (some 99)) (v := (.tuple ⟨[(W 0#32), (.int .i64 0), (.bool false)]⟩)) rfl rfl rfl rfl ?_
    refine OA.pure (dst := (some 102)) (v := (W 0#32)) rfl rfl rfl rfl ?_
    refine OA.pure (dst := (some 103)) (v := (.int .i64 0)) rfl rfl rfl rfl ?_
    refine OA.pure (dst := (some 104)) (v := (.bool false)) rfl rfl rfl rfl ?_
    refine OA.pure (dst := (some 15)) (v := (W 0#32)) rfl rfl rfl rfl ?_
    refine OA.pure (dst := (some 16)) (v := (.int .i64 0)) rfl rfl rfl rfl ?_
    refine OA.pure (dst := (some 17)) (v := (.bool false)) rfl rfl rfl rfl ?_
    refine OA.nil ?_
    intro _
    refine RA.seq hd ?_
    refine RA.region env_ok ?_
    refine OA.pure (dst := (some 106)) (v := (.agg ⟨[(.int .i64 typ), (.string u)]⟩)) rfl rfl rfl (r_loadA rfl rfl rfl rfl get_here rfl rfl rfl) ?_
    by_cases hc19 : resOk typ u
    ·
      have hzhc19 : u.size = 8 := by unfold resOk at hc19; omega
      refine OA.callP (dst := (some 107)) (all := [(.agg ⟨[(.int .i64 typ), (.string u)]⟩)]) (v := (.tuple ⟨[(W (w32 u 0)), (.int .i64 (((w32 u 4).toNat : Nat) : Int)), (.bool true)]⟩)) (hd.of (by omega) (by intro i hi; simp only [keys, List.cons_append, List.nil_append, List.map_cons, List.map_nil, List.mem_cons, List.not_mem_nil, or_false, false_or] at hi; omega)) rfl rfl rfl rfl rfl rfl rfl rfl (sAsR1 typ u (by omega) hc19) ?_
      intro n14 hn14
      refine OA.pure (dst := (some 105)) (v := (.tuple ⟨[(W (w32 u 0)), (.int .i64 (((w32 u 4).toNat : Nat) : Int)), (.bool true)]⟩)) rfl rfl rfl rfl ?_
      refine OA.pure (dst := (some 108)) (v := (W (w32 u 0))) rfl rfl rfl rfl ?_
      refine OA.pure (dst := (some 109)) (v := (.int .i64 (((w32 u 4).toNat : Nat) : Int))) rfl rfl rfl rfl ?_
      refine OA.pure (dst := (some 110)) (v := (.bool true)) rfl rfl rfl rfl ?_
      refine OA.pure (dst := (some 18)) (v := (W (w32 u 0))) rfl rfl rfl rfl ?_
      refine OA.pure (dst := (some 19)) (v := (.int .i64 (((w32 u 4).toNat : Nat) : Int))) rfl rfl rfl rfl ?_
      refine OA.pure (dst := (some 20)) (v := (.bool true)) rfl rfl rfl rfl ?_
      refine OA.nil ?_
      intro _
      refine RA.seq hd (RA.imp (Q := fun x τ' n' D' => x = .normal ∧ Has τ' [(7, (.pointer (some ⟨(n + 1), 0, some 0⟩))), (16, (.int .i64 0)), (17, (.bool false)), (19, (.int .i64 (((w32 u 4).toNat : Nat) : Int))), (20, (.bool true)), (21, (.bool false))] ∧ (∃ D2, Less n n' D' D2 ∧ D2 = [((n + 1), some ⟨[[(.int .i64 typ), (.string u)]], 2, 35, true⟩)]) ∧ n14 ≤ n' ∧ ∀ i ∈ keys [((n + 1), some ⟨[[(.int .i64 typ), (.string u)]], 2, 35, true⟩)], i < n') ?_ ?_)
      ·
        refine RA.region env_ok ?_
        refine OA.pure (dst := (some 111)) (v := (.pointer (some ⟨(n + 1), 0, some 0⟩))) rfl rfl rfl rfl ?_
        refine OA.pure (dst := (some 112)) (v := (.int .i64 typ)) rfl rfl rfl (r_load1 rfl rfl rfl rfl rfl get_here rfl rfl) ?_
        by_cases hc20 : typ = 17
        ·
          refine OA.pure (dst := (some 113)) (v := (.bool true)) rfl rfl rfl (Eq.trans (r_bin rfl rfl rfl (b_eql rfl)) (by first | (rw [decide_eq_true hc20]; done) | (rw [decide_eq_true hc20]; rfl))) ?_
          refine OA.pure (dst := (some 114)) (v := (.bool true)) rfl rfl rfl rfl ?_
          refine OA.pure (dst := (some 115)) (v := (.pointer (some ⟨(n + 1), 0, some 1⟩))) rfl rfl rfl rfl ?_
          refine OA.pure (dst := (some 116)) (v := (.string u)) rfl rfl rfl (r_load1 rfl rfl rfl rfl rfl get_here rfl rfl) ?_
          refine OA.pure (dst := (some 117)) (v := (.int .i64 ((u.size : Nat) : Int))) rfl rfl rfl rfl ?_
          by_cases hc21 : ((u.size : Nat) : Int) = 8
          ·
            refine OA.pure (dst := (some 118)) (v := (.bool true)) rfl rfl rfl (Eq.trans (r_bin rfl rfl rfl (b_eql rfl)) (by first | (rw [decide_eq_true hc21]; done) | (rw [decide_eq_true hc21]; rfl))) ?_
            refine OA.pure (dst := (some 119)) (v := (.bool true)) rfl rfl rfl rfl ?_
            refine OA.pure (dst := (some 120)) (v := (.bool true)) rfl rfl rfl rfl ?_
            refine OA.pure (dst := (some 121)) (v := (.pointer (some ⟨(n + 1), 0, some 1⟩))) rfl rfl rfl rfl ?_
            refine OA.pure (dst := (some 122)) (v := (.string u)) rfl rfl rfl (r_load1 rfl rfl rfl rfl rfl get_here rfl rfl) ?_
            refine OA.pure (dst := (some 123)) (v := (.string (u.extract 6 u.size))) rfl rfl rfl (r_cut (a := 6) (b := u.size) rfl rfl (fun _ => rfl) (fun _ => rfl) rfl rfl rfl rfl (by omega) (by omega) rfl) ?_
            by_cases hc22 : (u.extract 6 u.size) = (ByteArray.mk #[0, 0])
            ·
              have qhc22 : at_ u 6 2 = 0 := (hA (by omega)).1 hc22
              refine OA.pure (dst := (some 124)) (v := (.bool true)) rfl rfl rfl (Eq.trans (r_eqlS rfl rfl rfl) (by first | (rw [decide_eq_true hc22]; done) | (rw [decide_eq_true hc22]; rfl))) ?_
              refine OA.pure (dst := (some 125)) (v := (.bool true)) rfl rfl rfl rfl ?_
              refine OA.pure (dst := (some 126)) (v := (.bool true)) rfl rfl rfl rfl ?_
              refine OA.pure (dst := (some 127)) (v := (.pointer (some ⟨(n + 1), 0, some 1⟩))) rfl rfl rfl rfl ?_
              refine OA.pure (dst := (some 128)) (v := (.string u)) rfl rfl rfl (r_load1 rfl rfl rfl rfl rfl get_here rfl rfl) ?_
              refine OA.pure (dst := (some 129)) (v := (.string (u.extract 4 6))) rfl rfl rfl (r_cut (a := 4) (b := 6) rfl rfl (fun _ => rfl) (fun _ => rfl) rfl rfl rfl rfl (by omega) (by omega) rfl) ?_
              by_cases hc23 : (u.extract 4 6) = (ByteArray.mk #[0, 0])
              ·
                have qhc23 : at_ u 4 2 = 0 := (hB (by omega)).1 hc23
                refine OA.pure (dst := (some 130)) (v := (.bool false)) rfl rfl rfl (Eq.trans (r_neqS rfl rfl rfl) (by first | (rw [decide_eq_true hc23]; done) | (rw [decide_eq_true hc23]; rfl))) ?_
                refine OA.pure (dst := (some 131)) (v := (.bool false)) rfl rfl rfl rfl ?_
                refine OA.pure (dst := (some 21)) (v := (.bool false)) rfl rfl rfl rfl ?_
                refine OA.nil ?_
                exact ⟨rfl, ⟨rfl, rfl, rfl, rfl, rfl, rfl, trivial⟩, ⟨_, (Less.refl _ _ _), rfl⟩, by omega, (by intro i hi; simp only [keys, List.cons_append, List.nil_append, List.map_cons, List.map_nil, List.mem_cons, List.not_mem_nil, or_false, false_or] at hi; omega)⟩
              ·
                have qhc23 : ¬ at_ u 4 2 = 0 := fun q => hc23 ((hB (by omega)).2 q)
                refine OA.pure (dst := (some 130)) (v := (.bool true)) rfl rfl rfl (Eq.trans (r_neqS rfl rfl rfl) (by first | (rw [decide_eq_false hc23]; done) | (rw [decide_eq_false hc23]; rfl))) ?_
                refine OA.pure (dst := (some 131)) (v := (.bool true)) rfl rfl rfl rfl ?_
                refine OA.pure (dst := (some 21)) (v := (.bool true)) rfl rfl rfl rfl ?_
                refine OA.nil ?_
                exfalso
                first | omega | (unfold moreOk at *; omega) | (unfold resOk at *; omega)
            ·
              have qhc22 : ¬ at_ u 6 2 = 0 := fun q => hc22 ((hA (by omega)).2 q)
              refine OA.pure (dst := (some 124)) (v := (.bool false)) rfl rfl rfl (Eq.trans (r_eqlS rfl rfl rfl) (by first | (rw [decide_eq_false hc22]; done) | (rw [decide_eq_false hc22]; rfl))) ?_
              refine OA.pure (dst := (some 125)) (v := (.bool false)) rfl rfl rfl rfl ?_
              refine OA.pure (dst := (some 126)) (v := (.bool false)) rfl rfl rfl rfl ?_
              refine OA.off (dst := (some 127)) rfl rfl rfl ?_
              refine OA.off (dst := (some 128)) rfl rfl rfl ?_
              refine OA.off (dst := (some 129)) rfl rfl rfl ?_
              refine OA.off (dst := (some 130)) rfl rfl rfl ?_
              refine OA.pure (dst := (some 131)) (v := (.bool false)) rfl rfl rfl rfl ?_
              refine OA.pure (dst := (some 21)) (v := (.bool false)) rfl rfl rfl rfl ?_
              refine OA.nil ?_
              exact ⟨rfl, ⟨rfl, rfl, rfl, rfl, rfl, rfl, trivial⟩, ⟨_, (Less.refl _ _ _), rfl⟩, by omega, (by intro i hi; simp only [keys, List.cons_append, List.nil_append, List.map_cons, List.map_nil, List.mem_cons, List.not_mem_nil, or_false, false_or] at hi; omega)⟩
          ·
            refine OA.pure (dst := (some 118)) (v := (.bool false)) rfl rfl rfl (Eq.trans (r_bin rfl rfl rfl (b_eql rfl)) (by first | (rw [decide_eq_false hc21]; done) | (rw [decide_eq_false hc21]; rfl))) ?_
            refine OA.pure (dst := (some 119)) (v := (.bool false)) rfl rfl rfl rfl ?_
            refine OA.pure (dst := (some 120)) (v := (.bool false)) rfl rfl rfl rfl ?_
            refine OA.off (dst := (some 121)) rfl rfl rfl ?_
            refine OA.off (dst := (some 122)) rfl rfl rfl ?_
            refine OA.off (dst := (some 123)) rfl rfl rfl ?_
            refine OA.off (dst := (some 124)) rfl rfl rfl ?_
            refine OA.pure (dst := (some 125)) (v := (.bool false)) rfl rfl rfl rfl ?_
            refine OA.pure (dst := (some 126)) (v := (.bool false)) rfl rfl rfl rfl ?_
            refine OA.off (dst := (some 127)) rfl rfl rfl ?_
            refine OA.off (dst := (some 128)) rfl rfl rfl ?_
            refine OA.off (dst := (some 129)) rfl rfl rfl ?_
            refine OA.off (dst := (some 130)) rfl rfl rfl ?_
            refine OA.pure (dst := (some 131)) (v := (.bool false)) rfl rfl rfl rfl ?_
            refine OA.pure (dst := (some 21)) (v := (.bool false)) rfl rfl rfl rfl ?_
            refine OA.nil ?_
            exact ⟨rfl, ⟨rfl, rfl, rfl, rfl, rfl, rfl, trivial⟩, ⟨_, (Less.refl _ _ _), rfl⟩, by omega, (by intro i hi; simp only [keys, List.cons_append, List.nil_append, List.map_cons, List.map_nil, List.mem_cons, List.not_mem_nil, or_false, false_or] at hi; omega)⟩
        ·
          refine OA.pure (dst := (some 113)) (v := (.bool false)) rfl rfl rfl (Eq.trans (r_bin rfl rfl rfl (b_eql rfl)) (by first | (rw [decide_eq_false hc20]; done) | (rw [decide_eq_false hc20]; rfl))) ?_
          refine OA.pure (dst := (some 114)) (v := (.bool false)) rfl rfl rfl rfl ?_
          refine OA.off (dst := (some 115)) rfl rfl rfl ?_
          refine OA.off (dst := (some 116)) rfl rfl rfl ?_
          refine OA.off (dst := (some 117)) rfl rfl rfl ?_
          refine OA.off (dst := (some 118)) rfl rfl rfl ?_
          refine OA.pure (dst := (some 119)) (v := (.bool false)) rfl rfl rfl rfl ?_
          refine OA.pure (dst := (some 120)) (v := (.bool false)) rfl rfl rfl rfl ?_
          refine OA.off (dst := (some 121)) rfl rfl rfl ?_
          refine OA.off (dst := (some 122)) rfl rfl rfl ?_
          refine OA.off (dst := (some 123)) rfl rfl rfl ?_
          refine OA.off (dst := (some 124)) rfl rfl rfl ?_
          refine OA.pure (dst := (some 125)) (v := (.bool false)) rfl rfl rfl rfl ?_
          refine OA.pure (dst := (some 126)) (v := (.bool false)) rfl rfl rfl rfl ?_
          refine OA.off (dst := (some 127)) rfl rfl rfl ?_
          refine OA.off (dst := (some 128)) rfl rfl rfl ?_
          refine OA.off (dst := (some 129)) rfl rfl rfl ?_
          refine OA.off (dst := (some 130)) rfl rfl rfl ?_
          refine OA.pure (dst := (some 131)) (v := (.bool false)) rfl rfl rfl rfl ?_
          refine OA.pure (dst := (some 21)) (v := (.bool false)) rfl rfl rfl rfl ?_
          refine OA.nil ?_
          exact ⟨rfl, ⟨rfl, rfl, rfl, rfl, rfl, rfl, trivial⟩, ⟨_, (Less.refl _ _ _), rfl⟩, by omega, (by intro i hi; simp only [keys, List.cons_append, List.nil_append, List.map_cons, List.map_nil, List.mem_cons, List.not_mem_nil, or_false, false_or] at hi; omega)⟩
      ·
        rintro _ τ15 n15 Dn15 hmn15 ⟨rfl, hHn15, ⟨_, hLn15, rfl⟩, hn15, hKn15⟩
        rw [Has.eq hHn15]
        intro _
        refine RA.weaken hd hLn15 ?_
        try simp only [keys, List.map, List.forall_mem_cons, List.mem_cons, List.not_mem_nil, false_imp_iff, implies_true, and_true] at hKn15
        refine RA.seq hd (RA.imp (Q := fun x τ' n' D' => x = .normal ∧ Has τ' [(7, (.pointer (some ⟨(n + 1), 0, some 0⟩))), (16, (.int .i64 0)), (17, (.bool false)), (19, (.int .i64 (((w32 u 4).toNat : Nat) : Int))), (20, (.bool true)), (21, (.bool false)), (22, (.bool true))] ∧ (∃ D2, Less n n' D' D2 ∧ D2 = [((n + 1), some ⟨[[(.int .i64 typ), (.string u)]], 2, 35, true⟩)]) ∧ n15 ≤ n' ∧ ∀ i ∈ keys [((n + 1), some ⟨[[(.int .i64 typ), (.string u)]], 2, 35, true⟩)], i < n') ?_ ?_)
        ·
          refine RA.region env_ok ?_
          refine OA.pure (dst := (some 132)) (v := (.pointer (some ⟨(n + 1), 0, some 0⟩))) rfl rfl rfl rfl ?_
          refine OA.pure (dst := (some 133)) (v := (.int .i64 typ)) rfl rfl rfl (r_load1 rfl rfl rfl rfl rfl get_here rfl rfl) ?_
          by_cases hc24 : typ = 16
          ·
            refine OA.pure (dst := (some 134)) (v := (.bool true)) rfl rfl rfl (Eq.trans (r_bin rfl rfl rfl (b_eql rfl)) (by first | (rw [decide_eq_true hc24]; done) | (rw [decide_eq_true hc24]; rfl))) ?_
            refine OA.pure (dst := (some 135)) (v := (.bool true)) rfl rfl rfl rfl ?_
            refine OA.pure (dst := (some 136)) (v := (.pointer (some ⟨(n + 1), 0, some 1⟩))) rfl rfl rfl rfl ?_
            refine OA.pure (dst := (some 137)) (v := (.string u)) rfl rfl rfl (r_load1 rfl rfl rfl rfl rfl get_here rfl rfl) ?_
            refine OA.pure (dst := (some 138)) (v := (.int .i64 ((u.size : Nat) : Int))) rfl rfl rfl rfl ?_
            by_cases hc25 : ((u.size : Nat) : Int) = 8
            ·
              refine OA.pure (dst := (some 139)) (v := (.bool true)) rfl rfl rfl (Eq.trans (r_bin rfl rfl rfl (b_eql rfl)) (by first | (rw [decide_eq_true hc25]; done) | (rw [decide_eq_true hc25]; rfl))) ?_
              refine OA.pure (dst := (some 140)) (v := (.bool true)) rfl rfl rfl rfl ?_
              refine OA.pure (dst := (some 141)) (v := (.bool true)) rfl rfl rfl rfl ?_
              refine OA.pure (dst := (some 142)) (v := (.pointer (some ⟨(n + 1), 0, some 1⟩))) rfl rfl rfl rfl ?_
              refine OA.pure (dst := (some 143)) (v := (.string u)) rfl rfl rfl (r_load1 rfl rfl rfl rfl rfl get_here rfl rfl) ?_
              refine OA.pure (dst := (some 144)) (v := (.string (u.extract 4 u.size))) rfl rfl rfl (r_cut (a := 4) (b := u.size) rfl rfl (fun _ => rfl) (fun _ => rfl) rfl rfl rfl rfl (by omega) (by omega) rfl) ?_
              by_cases hc26 : (u.extract 4 u.size) = (ByteArray.mk #[0, 0, 0, 1])
              ·
                have qhc26 : (w32 u 4).toNat = 1 := (hC (by omega)).1 hc26
                refine OA.pure (dst := (some 145)) (v := (.bool true)) rfl rfl rfl (Eq.trans (r_eqlS rfl rfl rfl) (by first | (rw [decide_eq_true hc26]; done) | (rw [decide_eq_true hc26]; rfl))) ?_
                refine OA.pure (dst := (some 146)) (v := (.bool true)) rfl rfl rfl rfl ?_
                refine OA.off (dst := (some 147)) rfl rfl rfl ?_
                refine OA.off (dst := (some 148)) rfl rfl rfl ?_
                refine OA.off (dst := (some 149)) rfl rfl rfl ?_
                refine OA.off (dst := (some 150)) rfl rfl rfl ?_
                refine OA.pure (dst := (some 151)) (v := (.bool true)) rfl rfl rfl rfl ?_
                refine OA.pure (dst := (some 152)) (v := (.bool true)) rfl rfl rfl rfl ?_
                refine OA.pure (dst := (some 22)) (v := (.bool true)) rfl rfl rfl rfl ?_
                refine OA.nil ?_
                exact ⟨rfl, ⟨rfl, rfl, rfl, rfl, rfl, rfl, rfl, trivial⟩, ⟨_, (Less.refl _ _ _), rfl⟩, by omega, (by intro i hi; simp only [keys, List.cons_append, List.nil_append, List.map_cons, List.map_nil, List.mem_cons, List.not_mem_nil, or_false, false_or] at hi; omega)⟩
              ·
                have qhc26 : ¬ (w32 u 4).toNat = 1 := fun q => hc26 ((hC (by omega)).2 q)
                refine OA.pure (dst := (some 145)) (v := (.bool false)) rfl rfl rfl (Eq.trans (r_eqlS rfl rfl rfl) (by first | (rw [decide_eq_false hc26]; done) | (rw [decide_eq_false hc26]; rfl))) ?_
                refine OA.pure (dst := (some 146)) (v := (.bool false)) rfl rfl rfl rfl ?_
                refine OA.pure (dst := (some 147)) (v := (.pointer (some ⟨(n + 1), 0, some 1⟩))) rfl rfl rfl rfl ?_
                refine OA.pure (dst := (some 148)) (v := (.string u)) rfl rfl rfl (r_load1 rfl rfl rfl rfl rfl get_here rfl rfl) ?_
                refine OA.pure (dst := (some 149)) (v := (.string (u.extract 4 u.size))) rfl rfl rfl (r_cut (a := 4) (b := u.size) rfl rfl (fun _ => rfl) (fun _ => rfl) rfl rfl rfl rfl (by omega) (by omega) rfl) ?_
                by_cases hc27 : (u.extract 4 u.size) = (ByteArray.mk #[0, 0, 0, 2])
                ·
                  have qhc27 : (w32 u 4).toNat = 2 := (hD (by omega)).1 hc27
                  refine OA.pure (dst := (some 150)) (v := (.bool true)) rfl rfl rfl (Eq.trans (r_eqlS rfl rfl rfl) (by first | (rw [decide_eq_true hc27]; done) | (rw [decide_eq_true hc27]; rfl))) ?_
                  refine OA.pure (dst := (some 151)) (v := (.bool true)) rfl rfl rfl rfl ?_
                  refine OA.pure (dst := (some 152)) (v := (.bool true)) rfl rfl rfl rfl ?_
                  refine OA.pure (dst := (some 22)) (v := (.bool true)) rfl rfl rfl rfl ?_
                  refine OA.nil ?_
                  exact ⟨rfl, ⟨rfl, rfl, rfl, rfl, rfl, rfl, rfl, trivial⟩, ⟨_, (Less.refl _ _ _), rfl⟩, by omega, (by intro i hi; simp only [keys, List.cons_append, List.nil_append, List.map_cons, List.map_nil, List.mem_cons, List.not_mem_nil, or_false, false_or] at hi; omega)⟩
                ·
                  have qhc27 : ¬ (w32 u 4).toNat = 2 := fun q => hc27 ((hD (by omega)).2 q)
                  refine OA.pure (dst := (some 150)) (v := (.bool false)) rfl rfl rfl (Eq.trans (r_eqlS rfl rfl rfl) (by first | (rw [decide_eq_false hc27]; done) | (rw [decide_eq_false hc27]; rfl))) ?_
                  refine OA.pure (dst := (some 151)) (v := (.bool false)) rfl rfl rfl rfl ?_
                  refine OA.pure (dst := (some 152)) (v := (.bool false)) rfl rfl rfl rfl ?_
                  refine OA.pure (dst := (some 22)) (v := (.bool false)) rfl rfl rfl rfl ?_
                  refine OA.nil ?_
                  exfalso
                  first | omega | (unfold moreOk at *; omega) | (unfold resOk at *; omega)
            ·
              refine OA.pure (dst := (some 139)) (v := (.bool false)) rfl rfl rfl (Eq.trans (r_bin rfl rfl rfl (b_eql rfl)) (by first | (rw [decide_eq_false hc25]; done) | (rw [decide_eq_false hc25]; rfl))) ?_
              refine OA.pure (dst := (some 140)) (v := (.bool false)) rfl rfl rfl rfl ?_
              refine OA.pure (dst := (some 141)) (v := (.bool false)) rfl rfl rfl rfl ?_
              refine OA.off (dst := (some 142)) rfl rfl rfl ?_
              refine OA.off (dst := (some 143)) rfl rfl rfl ?_
              refine OA.off (dst := (some 144)) rfl rfl rfl ?_
              refine OA.off (dst := (some 145)) rfl rfl rfl ?_
              refine OA.off (dst := (some 146)) rfl rfl rfl ?_
              refine OA.off (dst := (some 147)) rfl rfl rfl ?_
              refine OA.off (dst := (some 148)) rfl rfl rfl ?_
              refine OA.off (dst := (some 149)) rfl rfl rfl ?_
              refine OA.off (dst := (some 150)) rfl rfl rfl ?_
              refine OA.off (dst := (some 151)) rfl rfl rfl ?_
              refine OA.pure (dst := (some 152)) (v := (.bool false)) rfl rfl rfl rfl ?_
              refine OA.pure (dst := (some 22)) (v := (.bool false)) rfl rfl rfl rfl ?_
              refine OA.nil ?_
              exfalso
              first | omega | (unfold moreOk at *; omega) | (unfold resOk at *; omega)
          ·
            refine OA.pure (dst := (some 134)) (v := (.bool false)) rfl rfl rfl (Eq.trans (r_bin rfl rfl rfl (b_eql rfl)) (by first | (rw [decide_eq_false hc24]; done) | (rw [decide_eq_false hc24]; rfl))) ?_
            refine OA.pure (dst := (some 135)) (v := (.bool false)) rfl rfl rfl rfl ?_
            refine OA.off (dst := (some 136)) rfl rfl rfl ?_
            refine OA.off (dst := (some 137)) rfl rfl rfl ?_
            refine OA.off (dst := (some 138)) rfl rfl rfl ?_
            refine OA.off (dst := (some 139)) rfl rfl rfl ?_
            refine OA.pure (dst := (some 140)) (v := (.bool false)) rfl rfl rfl rfl ?_
            refine OA.pure (dst := (some 141)) (v := (.bool false)) rfl rfl rfl rfl ?_
            refine OA.off (dst := (some 142)) rfl rfl rfl ?_
            refine OA.off (dst := (some 143)) rfl rfl rfl ?_
            refine OA.off (dst := (some 144)) rfl rfl rfl ?_
            refine OA.off (dst := (some 145)) rfl rfl rfl ?_
            refine OA.off (dst := (some 146)) rfl rfl rfl ?_
            refine OA.off (dst := (some 147)) rfl rfl rfl ?_
            refine OA.off (dst := (some 148)) rfl rfl rfl ?_
            refine OA.off (dst := (some 149)) rfl rfl rfl ?_
            refine OA.off (dst := (some 150)) rfl rfl rfl ?_
            refine OA.off (dst := (some 151)) rfl rfl rfl ?_
            refine OA.pure (dst := (some 152)) (v := (.bool false)) rfl rfl rfl rfl ?_
            refine OA.pure (dst := (some 22)) (v := (.bool false)) rfl rfl rfl rfl ?_
            refine OA.nil ?_
            exfalso
            first | omega | (unfold moreOk at *; omega) | (unfold resOk at *; omega)
        ·
          rintro _ τ16 n16 Dn16 hmn16 ⟨rfl, hHn16, ⟨_, hLn16, rfl⟩, hn16, hKn16⟩
          rw [Has.eq hHn16]
          intro _
          refine RA.weaken hd hLn16 ?_
          try simp only [keys, List.map, List.forall_mem_cons, List.mem_cons, List.not_mem_nil, false_imp_iff, implies_true, and_true] at hKn16
          refine RA.seq hd ?_
          refine RA.par (md := [some [], some [], some [], some [], some [], some [], some [], some [], some [], some [], some [], some [(n + 1)], some [], some [], some [], some [], some [], some [], some [], some [], some [], some [], some [], some [], some [], some [], some [], some [], some [], some [(n + 1)], some [], some [], some [], some [], some []]) env_ok (hd.of (by omega) (by intro i hi; simp only [keys, List.cons_append, List.nil_append, List.map_cons, List.map_nil, List.mem_cons, List.not_mem_nil, or_false, false_or] at hi; omega)) (by kernel_rfl) ?_
          refine PQ.pure (dst := (some 153)) (v := (.bool false)) rfl rfl rfl noStore (none_ok _ _) rfl ?_
          refine PQ.pure (dst := (some 154)) (v := (.bool false)) rfl rfl rfl noStore (none_ok _ _) rfl ?_
          refine PQ.pure (dst := (some 155)) (v := (.bool true)) rfl rfl rfl noStore (none_ok _ _) rfl ?_
          refine PQ.pure (dst := (some 156)) (v := (.bool true)) rfl rfl rfl noStore (none_ok _ _) rfl ?_
          refine PQ.pure (dst := (some 157)) (v := (.bool false)) rfl rfl rfl noStore (none_ok _ _) rfl ?_
          refine PQ.pure (dst := (some 158)) (v := (.bool true)) rfl rfl rfl noStore (none_ok _ _) rfl ?_
          refine PQ.pure (dst := (some 159)) (v := (.bool true)) rfl rfl rfl noStore (none_ok _ _) rfl ?_
          refine PQ.off (dst := (some 160)) rfl rfl rfl ?_
          refine PQ.off (dst := (some 161)) rfl rfl rfl ?_
          refine PQ.off (dst := (some 162)) rfl rfl rfl ?_
          refine PQ.off (dst := (some 163)) rfl rfl rfl ?_
          refine PQ.off (dst := (some 164)) rfl rfl rfl ?_
          refine PQ.off (dst := (some 165)) rfl rfl rfl ?_
          refine PQ.off (dst := (some 166)) rfl rfl rfl ?_
          refine PQ.pure (dst := (some 167)) (v := (.bool true)) rfl rfl rfl noStore (none_ok _ _) rfl ?_
          refine PQ.pure (dst := (some 168)) (v := (.bool true)) rfl rfl rfl noStore (none_ok _ _) rfl ?_
          refine PQ.pure (dst := (some 169)) (v := (.bool true)) rfl rfl rfl noStore (none_ok _ _) rfl ?_
          refine PQ.pure (dst := (some 170)) (v := (.bool true)) rfl rfl rfl noStore (none_ok _ _) rfl ?_
          refine PQ.pure (dst := (some 171)) (v := (.bool true)) rfl rfl rfl noStore (none_ok _ _) rfl ?_
          refine PQ.pure (dst := (some 172)) (v := (.bool true)) rfl rfl rfl noStore (none_ok _ _) rfl ?_
          refine PQ.pure (dst := (some 173)) (v := (.bool true)) rfl rfl rfl noStore (none_ok _ _) rfl ?_
          refine PQ.pure (dst := (some 174)) (v := (.bool true)) rfl rfl rfl noStore (none_ok _ _) rfl ?_
          refine PQ.pure (dst := (some 175)) (v := (.bool true)) rfl rfl rfl noStore (none_ok _ _) rfl ?_
          refine PQ.pure (dst := (some 176)) (v := (.bool false)) rfl rfl rfl noStore (none_ok _ _) rfl ?_
          refine PQ.pure (dst := (some 177)) (v := (.bool false)) rfl rfl rfl noStore (none_ok _ _) rfl ?_
          refine PQ.pure (dst := (some 178)) (v := (.int .i64 (((w32 u 4).toNat : Nat) : Int))) rfl rfl rfl noStore (none_ok _ _) rfl ?_
          refine PQ.pure (dst := (some 179)) (v := (W (BitVec.ofNat 32 (w32 u 4).toNat))) rfl rfl rfl noStore (none_ok _ _) (r_cvt rfl rfl rfl rfl rfl ⟨_, rfl⟩ (wrap_ofNat32 _)) ?_
          refine PQ.callP (dst := (some 180)) (all := [(W (BitVec.ofNat 32 (w32 u 4).toNat))]) (v := (.string (u.extract 4 u.size))) noStore (dom_none _) rfl rfl rfl rfl rfl rfl rfl rfl (none_ok _ _) (PS.to (sFour _) (congrArg Value.string (by rw [BitVec.toNat_ofNat, w32_toNat, Nat.mod_eq_of_lt (at_lt u 4 4)]; exact putL_at (by unfold resOk at *; omega) (Nat.le_refl _)))) ?_
          intro n17 hn17
          refine PQ.pure (dst := (some 181)) (v := (.pointer (some ⟨(n + 1), 0, some 1⟩))) rfl rfl rfl noStore (none_ok _ _) rfl ?_
          refine PQ.pure (dst := (some 182)) (v := (.string u)) rfl rfl rfl (app [((n + 1), some ⟨[[(.int .i64 typ), (.string u)]], 2, 35, true⟩)] noStore) (seen_one (V := []) (D := [((n + 1), some ⟨[[(.int .i64 typ), (.string u)]], 2, 35, true⟩)]) (by kernel_rfl) get_here) (r_load1 rfl rfl rfl rfl rfl get_here rfl rfl) ?_
          refine PQ.pure (dst := (some 183)) (v := (.string (u.extract 4 u.size))) rfl rfl rfl noStore (none_ok _ _) (r_cut (a := 4) (b := u.size) rfl rfl (fun _ => rfl) (fun _ => rfl) rfl rfl rfl rfl (by omega) (by omega) rfl) ?_
          refine PQ.pure (dst := (some 184)) (v := (.bool true)) rfl rfl rfl noStore (none_ok _ _) (Eq.trans (r_eqlS rfl rfl rfl) (by rw [decide_eq_true rfl] <;> rfl)) ?_
          refine PQ.pure (dst := (some 185)) (v := (.bool true)) rfl rfl rfl noStore (none_ok _ _) rfl ?_
          refine PQ.pure (dst := (some 186)) (v := (.bool true)) rfl rfl rfl noStore (none_ok _ _) rfl ?_
          refine PQ.pure (dst := (some 6)) (v := (.bool true)) rfl rfl rfl noStore (none_ok _ _) rfl ?_
          refine PQ.done (d := []) (by kernel_rfl) ?_
          intro _
          refine RA.rebase [(6, (.bool true)), (7, (.pointer (some ⟨(n + 1), 0, some 0⟩))), (16, (.int .i64 0)), (17, (.bool false)), (19, (.int .i64 (((w32 u 4).toNat : Nat) : Int))), (20, (.bool true)), (21, (.bool false)), (22, (.bool true))] ⟨rfl, rfl, rfl, rfl, rfl, rfl, rfl, rfl, trivial⟩ (fun τr18 => ?_)
          refine RA.ret env_ok ?_
          refine ⟨.inr rfl, [(.bool true)], (resL_cons rfl resL_nil), rfl, (by intro i hi; simp only [keys, List.cons_append, List.nil_append, List.map_cons, List.map_nil, List.mem_cons, List.not_mem_nil, or_false, false_or] at hi; omega)⟩
    ·
      refine OA.callP (dst := (some 107)) (all := [(.agg ⟨[(.int .i64 typ), (.string u)]⟩)]) (v := (.tuple ⟨[(W 0#32), (.int .i64 0), (.bool false)]⟩)) (hd.of (by omega) (by intro i hi; simp only [keys, List.cons_append, List.nil_append, List.map_cons, List.map_nil, List.mem_cons, List.not_mem_nil, or_false, false_or] at hi; omega)) rfl rfl rfl rfl rfl rfl rfl rfl (sAsR0 typ u (by omega) hc19) ?_
      intro n19 hn19
      refine OA.pure (dst := (some 105)) (v := (.tuple ⟨[(W 0#32), (.int .i64 0), (.bool false)]⟩)) rfl rfl rfl rfl ?_
      refine OA.pure (dst := (some 108)) (v := (W 0#32)) rfl rfl rfl rfl ?_
      refine OA.pure (dst := (some 109)) (v := (.int .i64 0)) rfl rfl rfl rfl ?_
      refine OA.pure (dst := (some 110)) (v := (.bool false)) rfl rfl rfl rfl ?_
      refine OA.pure (dst := (some 18)) (v := (W 0#32)) rfl rfl rfl rfl ?_
      refine OA.pure (dst := (some 19)) (v := (.int .i64 0)) rfl rfl rfl rfl ?_
      refine OA.pure (dst := (some 20)) (v := (.bool false)) rfl rfl rfl rfl ?_
      refine OA.nil ?_
      intro _
      refine RA.seq hd (RA.imp (Q := fun x τ' n' D' => x = .normal ∧ Has τ' [(7, (.pointer (some ⟨(n + 1), 0, some 0⟩))), (16, (.int .i64 0)), (17, (.bool false)), (19, (.int .i64 0)), (20, (.bool false)), (21, (.bool false))] ∧ (∃ D2, Less n n' D' D2 ∧ D2 = [((n + 1), some ⟨[[(.int .i64 typ), (.string u)]], 2, 35, true⟩)]) ∧ n19 ≤ n' ∧ ∀ i ∈ keys [((n + 1), some ⟨[[(.int .i64 typ), (.string u)]], 2, 35, true⟩)], i < n') ?_ ?_)
      ·
        refine RA.region env_ok ?_
        refine OA.pure (dst := (some 111)) (v := (.pointer (some ⟨(n + 1), 0, some 0⟩))) rfl rfl rfl rfl ?_
        refine OA.pure (dst := (some 112)) (v := (.int .i64 typ)) rfl rfl rfl (r_load1 rfl rfl rfl rfl rfl get_here rfl rfl) ?_
        by_cases hc28 : typ = 17
        ·
          refine OA.pure (dst := (some 113)) (v := (.bool true)) rfl rfl rfl (Eq.trans (r_bin rfl rfl rfl (b_eql rfl)) (by first | (rw [decide_eq_true hc28]; done) | (rw [decide_eq_true hc28]; rfl))) ?_
          refine OA.pure (dst := (some 114)) (v := (.bool true)) rfl rfl rfl rfl ?_
          refine OA.pure (dst := (some 115)) (v := (.pointer (some ⟨(n + 1), 0, some 1⟩))) rfl rfl rfl rfl ?_
          refine OA.pure (dst := (some 116)) (v := (.string u)) rfl rfl rfl (r_load1 rfl rfl rfl rfl rfl get_here rfl rfl) ?_
          refine OA.pure (dst := (some 117)) (v := (.int .i64 ((u.size : Nat) : Int))) rfl rfl rfl rfl ?_
          by_cases hc29 : ((u.size : Nat) : Int) = 8
          ·
            refine OA.pure (dst := (some 118)) (v := (.bool true)) rfl rfl rfl (Eq.trans (r_bin rfl rfl rfl (b_eql rfl)) (by first | (rw [decide_eq_true hc29]; done) | (rw [decide_eq_true hc29]; rfl))) ?_
            refine OA.pure (dst := (some 119)) (v := (.bool true)) rfl rfl rfl rfl ?_
            refine OA.pure (dst := (some 120)) (v := (.bool true)) rfl rfl rfl rfl ?_
            refine OA.pure (dst := (some 121)) (v := (.pointer (some ⟨(n + 1), 0, some 1⟩))) rfl rfl rfl rfl ?_
            refine OA.pure (dst := (some 122)) (v := (.string u)) rfl rfl rfl (r_load1 rfl rfl rfl rfl rfl get_here rfl rfl) ?_
            refine OA.pure (dst := (some 123)) (v := (.string (u.extract 6 u.size))) rfl rfl rfl (r_cut (a := 6) (b := u.size) rfl rfl (fun _ => rfl) (fun _ => rfl) rfl rfl rfl rfl (by omega) (by omega) rfl) ?_
            by_cases hc30 : (u.extract 6 u.size) = (ByteArray.mk #[0, 0])
            ·
              have qhc30 : at_ u 6 2 = 0 := (hA (by omega)).1 hc30
              refine OA.pure (dst := (some 124)) (v := (.bool true)) rfl rfl rfl (Eq.trans (r_eqlS rfl rfl rfl) (by first | (rw [decide_eq_true hc30]; done) | (rw [decide_eq_true hc30]; rfl))) ?_
              refine OA.pure (dst := (some 125)) (v := (.bool true)) rfl rfl rfl rfl ?_
              refine OA.pure (dst := (some 126)) (v := (.bool true)) rfl rfl rfl rfl ?_
              refine OA.pure (dst := (some 127)) (v := (.pointer (some ⟨(n + 1), 0, some 1⟩))) rfl rfl rfl rfl ?_
              refine OA.pure (dst := (some 128)) (v := (.string u)) rfl rfl rfl (r_load1 rfl rfl rfl rfl rfl get_here rfl rfl) ?_
              refine OA.pure (dst := (some 129)) (v := (.string (u.extract 4 6))) rfl rfl rfl (r_cut (a := 4) (b := 6) rfl rfl (fun _ => rfl) (fun _ => rfl) rfl rfl rfl rfl (by omega) (by omega) rfl) ?_
              by_cases hc31 : (u.extract 4 6) = (ByteArray.mk #[0, 0])
              ·
                have qhc31 : at_ u 4 2 = 0 := (hB (by omega)).1 hc31
                refine OA.pure (dst := (some 130)) (v := (.bool false)) rfl rfl rfl (Eq.trans (r_neqS rfl rfl rfl) (by first | (rw [decide_eq_true hc31]; done) | (rw [decide_eq_true hc31]; rfl))) ?_
                refine OA.pure (dst := (some 131)) (v := (.bool false)) rfl rfl rfl rfl ?_
                refine OA.pure (dst := (some 21)) (v := (.bool false)) rfl rfl rfl rfl ?_
                refine OA.nil ?_
                exact ⟨rfl, ⟨rfl, rfl, rfl, rfl, rfl, rfl, trivial⟩, ⟨_, (Less.refl _ _ _), rfl⟩, by omega, (by intro i hi; simp only [keys, List.cons_append, List.nil_append, List.map_cons, List.map_nil, List.mem_cons, List.not_mem_nil, or_false, false_or] at hi; omega)⟩
              ·
                have qhc31 : ¬ at_ u 4 2 = 0 := fun q => hc31 ((hB (by omega)).2 q)
                refine OA.pure (dst := (some 130)) (v := (.bool true)) rfl rfl rfl (Eq.trans (r_neqS rfl rfl rfl) (by first | (rw [decide_eq_false hc31]; done) | (rw [decide_eq_false hc31]; rfl))) ?_
                refine OA.pure (dst := (some 131)) (v := (.bool true)) rfl rfl rfl rfl ?_
                refine OA.pure (dst := (some 21)) (v := (.bool true)) rfl rfl rfl rfl ?_
                refine OA.nil ?_
                exfalso
                first | omega | (unfold moreOk at *; omega) | (unfold resOk at *; omega)
            ·
              have qhc30 : ¬ at_ u 6 2 = 0 := fun q => hc30 ((hA (by omega)).2 q)
              refine OA.pure (dst := (some 124)) (v := (.bool false)) rfl rfl rfl (Eq.trans (r_eqlS rfl rfl rfl) (by first | (rw [decide_eq_false hc30]; done) | (rw [decide_eq_false hc30]; rfl))) ?_
              refine OA.pure (dst := (some 125)) (v := (.bool false)) rfl rfl rfl rfl ?_
              refine OA.pure (dst := (some 126)) (v := (.bool false)) rfl rfl rfl rfl ?_
              refine OA.off (dst := (some 127)) rfl rfl rfl ?_
              refine OA.off (dst := (some 128)) rfl rfl rfl ?_
              refine OA.off (dst := (some 129)) rfl rfl rfl ?_
              refine OA.off (dst := (some 130)) rfl rfl rfl ?_
              refine OA.pure (dst := (some 131)) (v := (.bool false)) rfl rfl rfl rfl ?_
              refine OA.pure (dst := (some 21)) (v := (.bool false)) rfl rfl rfl rfl ?_
              refine OA.nil ?_
              exact ⟨rfl, ⟨rfl, rfl, rfl, rfl, rfl, rfl, trivial⟩, ⟨_, (Less.refl _ _ _), rfl⟩, by omega, (by intro i hi; simp only [keys, List.cons_append, List.nil_append, List.map_cons, List.map_nil, List.mem_cons, List.not_mem_nil, or_false, false_or] at hi; omega)⟩
          ·
            refine OA.pure (dst := (some 118)) (v := (.bool false)) rfl rfl rfl (Eq.trans (r_bin rfl rfl rfl (b_eql rfl)) (by first | (rw [decide_eq_false hc29]; done) | (rw [decide_eq_false hc29]; rfl))) ?_
            refine OA.pure (dst := (some 119)) (v := (.bool false)) rfl rfl rfl rfl ?_
            refine OA.pure (dst := (some 120)) (v := (.bool false)) rfl rfl rfl rfl ?_
            refine OA.off (dst := (some 121)) rfl rfl rfl ?_
            refine OA.off (dst := (some 122)) rfl rfl rfl ?_
            refine OA.off (dst := (some 123)) rfl rfl rfl ?_
            refine OA.off (dst := (some 124)) rfl rfl rfl ?_
            refine OA.pure (dst := (some 125)) (v := (.bool false)) rfl rfl rfl rfl ?_
            refine OA.pure (dst := (some 126)) (v := (.bool false)) rfl rfl rfl rfl ?_
            refine OA.off (dst := (some 127)) rfl rfl rfl ?_
            refine OA.off (dst := (some 128)) rfl rfl rfl ?_
            refine OA.off (dst := (some 129)) rfl rfl rfl ?_
            refine OA.off (dst := (some 130)) rfl rfl rfl ?_
            refine OA.pure (dst := (some 131)) (v := (.bool false)) rfl rfl rfl rfl ?_
            refine OA.pure (dst := (some 21)) (v := (.bool false)) rfl rfl rfl rfl ?_
            refine OA.nil ?_
            exact ⟨rfl, ⟨rfl, rfl, rfl, rfl, rfl, rfl, trivial⟩, ⟨_, (Less.refl _ _ _), rfl⟩, by omega, (by intro i hi; simp only [keys, List.cons_append, List.nil_append, List.map_cons, List.map_nil, List.mem_cons, List.not_mem_nil, or_false, false_or] at hi; omega)⟩
        ·
          refine OA.pure (dst := (some 113)) (v := (.bool false)) rfl rfl rfl (Eq.trans (r_bin rfl rfl rfl (b_eql rfl)) (by first | (rw [decide_eq_false hc28]; done) | (rw [decide_eq_false hc28]; rfl))) ?_
          refine OA.pure (dst := (some 114)) (v := (.bool false)) rfl rfl rfl rfl ?_
          refine OA.off (dst := (some 115)) rfl rfl rfl ?_
          refine OA.off (dst := (some 116)) rfl rfl rfl ?_
          refine OA.off (dst := (some 117)) rfl rfl rfl ?_
          refine OA.off (dst := (some 118)) rfl rfl rfl ?_
          refine OA.pure (dst := (some 119)) (v := (.bool false)) rfl rfl rfl rfl ?_
          refine OA.pure (dst := (some 120)) (v := (.bool false)) rfl rfl rfl rfl ?_
          refine OA.off (dst := (some 121)) rfl rfl rfl ?_
          refine OA.off (dst := (some 122)) rfl rfl rfl ?_
          refine OA.off (dst := (some 123)) rfl rfl rfl ?_
          refine OA.off (dst := (some 124)) rfl rfl rfl ?_
          refine OA.pure (dst := (some 125)) (v := (.bool false)) rfl rfl rfl rfl ?_
          refine OA.pure (dst := (some 126)) (v := (.bool false)) rfl rfl rfl rfl ?_
          refine OA.off (dst := (some 127)) rfl rfl rfl ?_
          refine OA.off (dst := (some 128)) rfl rfl rfl ?_
          refine OA.off (dst := (some 129)) rfl rfl rfl ?_
          refine OA.off (dst := (some 130)) rfl rfl rfl ?_
          refine OA.pure (dst := (some 131)) (v := (.bool false)) rfl rfl rfl rfl ?_
          refine OA.pure (dst := (some 21)) (v := (.bool false)) rfl rfl rfl rfl ?_
          refine OA.nil ?_
          exact ⟨rfl, ⟨rfl, rfl, rfl, rfl, rfl, rfl, trivial⟩, ⟨_, (Less.refl _ _ _), rfl⟩, by omega, (by intro i hi; simp only [keys, List.cons_append, List.nil_append, List.map_cons, List.map_nil, List.mem_cons, List.not_mem_nil, or_false, false_or] at hi; omega)⟩
      ·
        rintro _ τ20 n20 Dn20 hmn20 ⟨rfl, hHn20, ⟨_, hLn20, rfl⟩, hn20, hKn20⟩
        rw [Has.eq hHn20]
        intro _
        refine RA.weaken hd hLn20 ?_
        try simp only [keys, List.map, List.forall_mem_cons, List.mem_cons, List.not_mem_nil, false_imp_iff, implies_true, and_true] at hKn20
        refine RA.seq hd (RA.imp (Q := fun x τ' n' D' => x = .normal ∧ Has τ' [(7, (.pointer (some ⟨(n + 1), 0, some 0⟩))), (16, (.int .i64 0)), (17, (.bool false)), (19, (.int .i64 0)), (20, (.bool false)), (21, (.bool false)), (22, (.bool false))] ∧ (∃ D2, Less n n' D' D2 ∧ D2 = [((n + 1), some ⟨[[(.int .i64 typ), (.string u)]], 2, 35, true⟩)]) ∧ n20 ≤ n' ∧ ∀ i ∈ keys [((n + 1), some ⟨[[(.int .i64 typ), (.string u)]], 2, 35, true⟩)], i < n') ?_ ?_)
        ·
          refine RA.region env_ok ?_
          refine OA.pure (dst := (some 132)) (v := (.pointer (some ⟨(n + 1), 0, some 0⟩))) rfl rfl rfl rfl ?_
          refine OA.pure (dst := (some 133)) (v := (.int .i64 typ)) rfl rfl rfl (r_load1 rfl rfl rfl rfl rfl get_here rfl rfl) ?_
          by_cases hc32 : typ = 16
          ·
            refine OA.pure (dst := (some 134)) (v := (.bool true)) rfl rfl rfl (Eq.trans (r_bin rfl rfl rfl (b_eql rfl)) (by first | (rw [decide_eq_true hc32]; done) | (rw [decide_eq_true hc32]; rfl))) ?_
            refine OA.pure (dst := (some 135)) (v := (.bool true)) rfl rfl rfl rfl ?_
            refine OA.pure (dst := (some 136)) (v := (.pointer (some ⟨(n + 1), 0, some 1⟩))) rfl rfl rfl rfl ?_
            refine OA.pure (dst := (some 137)) (v := (.string u)) rfl rfl rfl (r_load1 rfl rfl rfl rfl rfl get_here rfl rfl) ?_
            refine OA.pure (dst := (some 138)) (v := (.int .i64 ((u.size : Nat) : Int))) rfl rfl rfl rfl ?_
            by_cases hc33 : ((u.size : Nat) : Int) = 8
            ·
              refine OA.pure (dst := (some 139)) (v := (.bool true)) rfl rfl rfl (Eq.trans (r_bin rfl rfl rfl (b_eql rfl)) (by first | (rw [decide_eq_true hc33]; done) | (rw [decide_eq_true hc33]; rfl))) ?_
              refine OA.pure (dst := (some 140)) (v := (.bool true)) rfl rfl rfl rfl ?_
              refine OA.pure (dst := (some 141)) (v := (.bool true)) rfl rfl rfl rfl ?_
              refine OA.pure (dst := (some 142)) (v := (.pointer (some ⟨(n + 1), 0, some 1⟩))) rfl rfl rfl rfl ?_
              refine OA.pure (dst := (some 143)) (v := (.string u)) rfl rfl rfl (r_load1 rfl rfl rfl rfl rfl get_here rfl rfl) ?_
              refine OA.pure (dst := (some 144)) (v := (.string (u.extract 4 u.size))) rfl rfl rfl (r_cut (a := 4) (b := u.size) rfl rfl (fun _ => rfl) (fun _ => rfl) rfl rfl rfl rfl (by omega) (by omega) rfl) ?_
              by_cases hc34 : (u.extract 4 u.size) = (ByteArray.mk #[0, 0, 0, 1])
              ·
                have qhc34 : (w32 u 4).toNat = 1 := (hC (by omega)).1 hc34
                refine OA.pure (dst := (some 145)) (v := (.bool true)) rfl rfl rfl (Eq.trans (r_eqlS rfl rfl rfl) (by first | (rw [decide_eq_true hc34]; done) | (rw [decide_eq_true hc34]; rfl))) ?_
                refine OA.pure (dst := (some 146)) (v := (.bool true)) rfl rfl rfl rfl ?_
                refine OA.off (dst := (some 147)) rfl rfl rfl ?_
                refine OA.off (dst := (some 148)) rfl rfl rfl ?_
                refine OA.off (dst := (some 149)) rfl rfl rfl ?_
                refine OA.off (dst := (some 150)) rfl rfl rfl ?_
                refine OA.pure (dst := (some 151)) (v := (.bool true)) rfl rfl rfl rfl ?_
                refine OA.pure (dst := (some 152)) (v := (.bool true)) rfl rfl rfl rfl ?_
                refine OA.pure (dst := (some 22)) (v := (.bool true)) rfl rfl rfl rfl ?_
                refine OA.nil ?_
                exfalso
                first | omega | (unfold moreOk at *; omega) | (unfold resOk at *; omega)
              ·
                have qhc34 : ¬ (w32 u 4).toNat = 1 := fun q => hc34 ((hC (by omega)).2 q)
                refine OA.pure (dst := (some 145)) (v := (.bool false)) rfl rfl rfl (Eq.trans (r_eqlS rfl rfl rfl) (by first | (rw [decide_eq_false hc34]; done) | (rw [decide_eq_false hc34]; rfl))) ?_
                refine OA.pure (dst := (some 146)) (v := (.bool false)) rfl rfl rfl rfl ?_
                refine OA.pure (dst := (some 147)) (v := (.pointer (some ⟨(n + 1), 0, some 1⟩))) rfl rfl rfl rfl ?_
                refine OA.pure (dst := (some 148)) (v := (.string u)) rfl rfl rfl (r_load1 rfl rfl rfl rfl rfl get_here rfl rfl) ?_
                refine OA.pure (dst := (some 149)) (v := (.string (u.extract 4 u.size))) rfl rfl rfl (r_cut (a := 4) (b := u.size) rfl rfl (fun _ => rfl) (fun _ => rfl) rfl rfl rfl rfl (by omega) (by omega) rfl) ?_
                by_cases hc35 : (u.extract 4 u.size) = (ByteArray.mk #[0, 0, 0, 2])
                ·
                  have qhc35 : (w32 u 4).toNat = 2 := (hD (by omega)).1 hc35
                  refine OA.pure (dst := (some 150)) (v := (.bool true)) rfl rfl rfl (Eq.trans (r_eqlS rfl rfl rfl) (by first | (rw [decide_eq_true hc35]; done) | (rw [decide_eq_true hc35]; rfl))) ?_
                  refine OA.pure (dst := (some 151)) (v := (.bool true)) rfl rfl rfl rfl ?_
                  refine OA.pure (dst := (some 152)) (v := (.bool true)) rfl rfl rfl rfl ?_
                  refine OA.pure (dst := (some 22)) (v := (.bool true)) rfl rfl rfl rfl ?_
                  refine OA.nil ?_
                  exfalso
                  first | omega | (unfold moreOk at *; omega) | (unfold resOk at *; omega)
                ·
                  have qhc35 : ¬ (w32 u 4).toNat = 2 := fun q => hc35 ((hD (by omega)).2 q)
                  refine OA.pure (dst := (some 150)) (v := (.bool false)) rfl rfl rfl (Eq.trans (r_eqlS rfl rfl rfl) (by first | (rw [decide_eq_false hc35]; done) | (rw [decide_eq_false hc35]; rfl))) ?_
                  refine OA.pure (dst := (some 151)) (v := (.bool false)) rfl rfl rfl rfl ?_
                  refine OA.pure (dst := (some 152)) (v := (.bool false)) rfl rfl rfl rfl ?_
                  refine OA.pure (dst := (some 22)) (v := (.bool false)) rfl rfl rfl rfl ?_
                  refine OA.nil ?_
                  exact ⟨rfl, ⟨rfl, rfl, rfl, rfl, rfl, rfl, rfl, trivial⟩, ⟨_, (Less.refl _ _ _), rfl⟩, by omega, (by intro i hi; simp only [keys, List.cons_append, List.nil_append, List.map_cons, List.map_nil, List.mem_cons, List.not_mem_nil, or_false, false_or] at hi; omega)⟩
            ·
              refine OA.pure (dst := (some 139)) (v := (.bool false)) rfl rfl rfl (Eq.trans (r_bin rfl rfl rfl (b_eql rfl)) (by first | (rw [decide_eq_false hc33]; done) | (rw [decide_eq_false hc33]; rfl))) ?_
              refine OA.pure (dst := (some 140)) (v := (.bool false)) rfl rfl rfl rfl ?_
              refine OA.pure (dst := (some 141)) (v := (.bool false)) rfl rfl rfl rfl ?_
              refine OA.off (dst := (some 142)) rfl rfl rfl ?_
              refine OA.off (dst := (some 143)) rfl rfl rfl ?_
              refine OA.off (dst := (some 144)) rfl rfl rfl ?_
              refine OA.off (dst := (some 145)) rfl rfl rfl ?_
              refine OA.off (dst := (some 146)) rfl rfl rfl ?_
              refine OA.off (dst := (some 147)) rfl rfl rfl ?_
              refine OA.off (dst := (some 148)) rfl rfl rfl ?_
              refine OA.off (dst := (some 149)) rfl rfl rfl ?_
              refine OA.off (dst := (some 150)) rfl rfl rfl ?_
              refine OA.off (dst := (some 151)) rfl rfl rfl ?_
              refine OA.pure (dst := (some 152)) (v := (.bool false)) rfl rfl rfl rfl ?_
              refine OA.pure (dst := (some 22)) (v := (.bool false)) rfl rfl rfl rfl ?_
              refine OA.nil ?_
              exact ⟨rfl, ⟨rfl, rfl, rfl, rfl, rfl, rfl, rfl, trivial⟩, ⟨_, (Less.refl _ _ _), rfl⟩, by omega, (by intro i hi; simp only [keys, List.cons_append, List.nil_append, List.map_cons, List.map_nil, List.mem_cons, List.not_mem_nil, or_false, false_or] at hi; omega)⟩
          ·
            refine OA.pure (dst := (some 134)) (v := (.bool false)) rfl rfl rfl (Eq.trans (r_bin rfl rfl rfl (b_eql rfl)) (by first | (rw [decide_eq_false hc32]; done) | (rw [decide_eq_false hc32]; rfl))) ?_
            refine OA.pure (dst := (some 135)) (v := (.bool false)) rfl rfl rfl rfl ?_
            refine OA.off (dst := (some 136)) rfl rfl rfl ?_
            refine OA.off (dst := (some 137)) rfl rfl rfl ?_
            refine OA.off (dst := (some 138)) rfl rfl rfl ?_
            refine OA.off (dst := (some 139)) rfl rfl rfl ?_
            refine OA.pure (dst := (some 140)) (v := (.bool false)) rfl rfl rfl rfl ?_
            refine OA.pure (dst := (some 141)) (v := (.bool false)) rfl rfl rfl rfl ?_
            refine OA.off (dst := (some 142)) rfl rfl rfl ?_
            refine OA.off (dst := (some 143)) rfl rfl rfl ?_
            refine OA.off (dst := (some 144)) rfl rfl rfl ?_
            refine OA.off (dst := (some 145)) rfl rfl rfl ?_
            refine OA.off (dst := (some 146)) rfl rfl rfl ?_
            refine OA.off (dst := (some 147)) rfl rfl rfl ?_
            refine OA.off (dst := (some 148)) rfl rfl rfl ?_
            refine OA.off (dst := (some 149)) rfl rfl rfl ?_
            refine OA.off (dst := (some 150)) rfl rfl rfl ?_
            refine OA.off (dst := (some 151)) rfl rfl rfl ?_
            refine OA.pure (dst := (some 152)) (v := (.bool false)) rfl rfl rfl rfl ?_
            refine OA.pure (dst := (some 22)) (v := (.bool false)) rfl rfl rfl rfl ?_
            refine OA.nil ?_
            exact ⟨rfl, ⟨rfl, rfl, rfl, rfl, rfl, rfl, rfl, trivial⟩, ⟨_, (Less.refl _ _ _), rfl⟩, by omega, (by intro i hi; simp only [keys, List.cons_append, List.nil_append, List.map_cons, List.map_nil, List.mem_cons, List.not_mem_nil, or_false, false_or] at hi; omega)⟩
        ·
          rintro _ τ21 n21 Dn21 hmn21 ⟨rfl, hHn21, ⟨_, hLn21, rfl⟩, hn21, hKn21⟩
          rw [Has.eq hHn21]
          intro _
          refine RA.weaken hd hLn21 ?_
          try simp only [keys, List.map, List.forall_mem_cons, List.mem_cons, List.not_mem_nil, false_imp_iff, implies_true, and_true] at hKn21
          refine RA.seq hd ?_
          refine RA.par (md := [some [], some [], some [], some [], some [], some [], some [], some [], some [], some [], some [], some [(n + 1)], some [], some [], some [], some [], some [], some [], some [], some [], some [], some [], some [], some [], some [], some [], some [], some [], some [], some [(n + 1)], some [], some [], some [], some [], some []]) env_ok (hd.of (by omega) (by intro i hi; simp only [keys, List.cons_append, List.nil_append, List.map_cons, List.map_nil, List.mem_cons, List.not_mem_nil, or_false, false_or] at hi; omega)) (by kernel_rfl) ?_
          refine PQ.pure (dst := (some 153)) (v := (.bool false)) rfl rfl rfl noStore (none_ok _ _) rfl ?_
          refine PQ.pure (dst := (some 154)) (v := (.bool false)) rfl rfl rfl noStore (none_ok _ _) rfl ?_
          refine PQ.pure (dst := (some 155)) (v := (.bool true)) rfl rfl rfl noStore (none_ok _ _) rfl ?_
          refine PQ.pure (dst := (some 156)) (v := (.bool true)) rfl rfl rfl noStore (none_ok _ _) rfl ?_
          refine PQ.pure (dst := (some 157)) (v := (.bool false)) rfl rfl rfl noStore (none_ok _ _) rfl ?_
          refine PQ.pure (dst := (some 158)) (v := (.bool true)) rfl rfl rfl noStore (none_ok _ _) rfl ?_
          refine PQ.pure (dst := (some 159)) (v := (.bool true)) rfl rfl rfl noStore (none_ok _ _) rfl ?_
          refine PQ.off (dst := (some 160)) rfl rfl rfl ?_
          refine PQ.off (dst := (some 161)) rfl rfl rfl ?_
          refine PQ.off (dst := (some 162)) rfl rfl rfl ?_
          refine PQ.off (dst := (some 163)) rfl rfl rfl ?_
          refine PQ.off (dst := (some 164)) rfl rfl rfl ?_
          refine PQ.off (dst := (some 165)) rfl rfl rfl ?_
          refine PQ.off (dst := (some 166)) rfl rfl rfl ?_
          refine PQ.pure (dst := (some 167)) (v := (.bool true)) rfl rfl rfl noStore (none_ok _ _) rfl ?_
          refine PQ.pure (dst := (some 168)) (v := (.bool true)) rfl rfl rfl noStore (none_ok _ _) rfl ?_
          refine PQ.pure (dst := (some 169)) (v := (.bool true)) rfl rfl rfl noStore (none_ok _ _) rfl ?_
          refine PQ.pure (dst := (some 170)) (v := (.bool false)) rfl rfl rfl noStore (none_ok _ _) rfl ?_
          refine PQ.pure (dst := (some 171)) (v := (.bool false)) rfl rfl rfl noStore (none_ok _ _) rfl ?_
          refine PQ.pure (dst := (some 172)) (v := (.bool true)) rfl rfl rfl noStore (none_ok _ _) rfl ?_
          refine PQ.pure (dst := (some 173)) (v := (.bool true)) rfl rfl rfl noStore (none_ok _ _) rfl ?_
          refine PQ.pure (dst := (some 174)) (v := (.bool true)) rfl rfl rfl noStore (none_ok _ _) rfl ?_
          refine PQ.pure (dst := (some 175)) (v := (.bool false)) rfl rfl rfl noStore (none_ok _ _) rfl ?_
          refine PQ.pure (dst := (some 176)) (v := (.bool true)) rfl rfl rfl noStore (none_ok _ _) rfl ?_
          refine PQ.pure (dst := (some 177)) (v := (.bool true)) rfl rfl rfl noStore (none_ok _ _) rfl ?_
          refine PQ.off (dst := (some 178)) rfl rfl rfl ?_
          refine PQ.off (dst := (some 179)) rfl rfl rfl ?_
          refine PQ.off (dst := (some 180)) rfl rfl rfl ?_
          refine PQ.off (dst := (some 181)) rfl rfl rfl ?_
          refine PQ.off (dst := (some 182)) rfl rfl rfl ?_
          refine PQ.off (dst := (some 183)) rfl rfl rfl ?_
          refine PQ.off (dst := (some 184)) rfl rfl rfl ?_
          refine PQ.pure (dst := (some 185)) (v := (.bool true)) rfl rfl rfl noStore (none_ok _ _) rfl ?_
          refine PQ.pure (dst := (some 186)) (v := (.bool true)) rfl rfl rfl noStore (none_ok _ _) rfl ?_
          refine PQ.pure (dst := (some 6)) (v := (.bool true)) rfl rfl rfl noStore (none_ok _ _) rfl ?_
          refine PQ.done (d := []) (by kernel_rfl) ?_
          intro _
          refine RA.rebase [(6, (.bool true)), (7, (.pointer (some ⟨(n + 1), 0, some 0⟩))), (16, (.int .i64 0)), (17, (.bool false)), (19, (.int .i64 0)), (20, (.bool false)), (21, (.bool false)), (22, (.bool false))] ⟨rfl, rfl, rfl, rfl, rfl, rfl, rfl, rfl, trivial⟩ (fun τr22 => ?_)
          refine RA.ret env_ok ?_
          refine ⟨.inr rfl, [(.bool true)], (resL_cons rfl resL_nil), rfl, (by intro i hi; simp only [keys, List.cons_append, List.nil_append, List.map_cons, List.map_nil, List.mem_cons, List.not_mem_nil, or_false, false_or] at hi; omega)⟩
end Go.Proofs.Ytgajcmanompmcaa.Vt
