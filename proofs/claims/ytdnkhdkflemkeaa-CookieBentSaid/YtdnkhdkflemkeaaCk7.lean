/- Ck7: walks through functions of the program, by the calculus; written by a program of this workplace. -/
import Derived.Test.YtdnkhdkflemkeaaCk6
import Derived.Test.YtdnkhdkflemkeaaVm5
namespace Go.Proofs.Ytdnkhdkflemkeaa.Vt
open Go Go.Proofs Go.Proofs.YtdnkhdkflemkeaaV
set_option maxRecDepth 100000
set_option linter.unusedVariables false
set_option linter.unusedSimpArgs false
abbrev xCk71 (c : Ck) : List Value := [(.int .i64 ((c.made : Nat) : Int)), (W c.mine), (W c.yours), (W c.mt), (W c.yt), (W c.peer), (W c.loc), (.int .i64 ((c.pp : Nat) : Int)), (.int .i64 ((c.mp : Nat) : Int)), (W c.rwnd), (.int .i64 ((c.ou : Nat) : Int)), (.int .i64 ((c.inn : Nat) : Int)), (W c.tm), (W c.ty), (.string c.mr), (.string c.rn)]
abbrev xCk72 : List Value := [(.int .i64 0), (.int .u32 0), (.int .u32 0), (.int .u32 0), (.int .u32 0), (.int .u32 0), (.int .u32 0), (.int .i64 0), (.int .i64 0), (.int .u32 0), (.int .i64 0), (.int .i64 0), (.int .u32 0), (.int .u32 0), (.string ByteArray.empty), (.string ByteArray.empty)]
abbrev xCk73 (c : CkI) : List Value := [(.int .i64 c.made), (W c.mine), (W c.yours), (W c.mt), (W c.yt), (W c.peer), (W c.loc), (.int .i64 c.pp), (.int .i64 c.mp), (W c.rwnd), (.int .i64 c.ou), (.int .i64 c.inn), (W c.tm), (W c.ty), (.string (rnd c.mr)), (.string (rnd c.rn))]
abbrev xCk74 (c : CkI) : List Value := [(.int .i64 c.made), (W c.mine), (W c.yours), (W c.mt), (W c.yt), (W c.peer), (W c.loc), (.int .i64 c.pp), (.int .i64 c.mp), (W c.rwnd), (.int .i64 c.ou), (.int .i64 c.inn), (W c.tm), (W c.ty), (.string (rnd c.mr)), (.string c.rn)]
abbrev xCk75 (c : CkI) : List Value := [(.int .i64 c.made), (W c.mine), (W c.yours), (W c.mt), (W c.yt), (W c.peer), (W c.loc), (.int .i64 c.pp), (.int .i64 c.mp), (W c.rwnd), (.int .i64 c.ou), (.int .i64 c.inn), (W c.tm), (W c.ty), (.string c.mr), (.string c.rn)]
theorem suf10Z {n : Nat} {σ : Store} (hd : Dom n σ) (key : ByteArray) (hk : key.size ≤ 70) (c0 c1 : UInt8) (p5 p8 : Nat) (g1 : n ≤ p5) (g2 : p5 < p8) (c : CkI) (h : ¬ MayI c) (m0 : Nat) (hm0 : p8 + 1 ≤ m0) (τ0 : Tm) : RA Try.prog env n σ Try.f10.ntmps (right 3 (Try.f10.body.getD .skip)) (upds τ0 [(5, (Pt p5 0 0)), (7, (.string key)), (8, (Pt p8 0 0))]) m0 [(p8, some ⟨[[(.int .i64 c.made), (W c.mine), (W c.yours), (W c.mt), (W c.yt), (W c.peer), (W c.loc), (.int .i64 c.pp), (.int .i64 c.mp), (W c.rwnd), (.int .i64 c.ou), (.int .i64 c.inn), (W c.tm), (W c.ty), (.string c.mr), (.string c.rn)]], 16, 35, true⟩), (p5, some ⟨[[(.int .u8 ((c0.toNat : Nat) : Int)), (.int .u8 ((c1.toNat : Nat) : Int))]], 2, 30, true⟩)] (fun x τ' n' D => (x = .normal ∨ x = .ret) ∧ ∃ vs, resL env τ' (app D σ) Try.f10.results.toList = some vs ∧ one vs = (.bool true) ∧ ∀ i ∈ keys D, n ≤ i ∧ i < n') := by
 refine RA.seq hd ?_
 refine RA.region env_ok ?_
 refine OA.pure (dst := (some 27)) (v := (.string key)) rfl rfl rfl rfl ?_
 refine OA.pure (dst := (some 28)) (v := (.agg ⟨(xCk75 c)⟩)) rfl rfl rfl (r_loadA rfl rfl rfl rfl get_here rfl rfl rfl) ?_
 refine OA.callP (dst := (some 29)) (all := [(.string key), (.agg ⟨(xCk75 c)⟩)]) (v := (.string (ByteArray.mk #[]))) (hd.of (by omega) (kb2 (by omega))) rfl rfl rfl rfl rfl rfl rfl rfl (s22Z key c h) ?_
 intro n1 hn1
 refine OA.op1 (dst := (some 30)) (v := (.slice (some ⟨n1, 0, none⟩) 0 0)) (n1 := (n1 + 1)) (w := (n1, some ⟨(bc (L (ByteArray.mk #[]))), 1, 5, true⟩)) rfl rfl rfl (r_s2bN (S' := (ByteArray.mk #[])) rfl rfl rfl rfl rfl rfl rfl rfl (by rw [show (ByteArray.mk #[]).size = 0 from rfl])) (by omega) ?_
 refine OA.pure (dst := (some 9)) (v := (.slice (some ⟨n1, 0, none⟩) 0 0)) rfl rfl rfl rfl ?_
 refine OA.nil ?_
 intro _
 refine RA.seq hd ?_
 refine RA.seq hd ?_
 refine RA.region env_ok ?_
 refine OA.pure (dst := (some 31)) (v := (.slice (some ⟨n1, 0, none⟩) 0 0)) rfl rfl rfl rfl ?_
 refine OA.pure (dst := (some 32)) (v := (.int .i64 0)) rfl rfl rfl rfl ?_
 refine OA.pure (dst := (some 33)) (v := (.bool true)) rfl rfl rfl (r_bin rfl rfl rfl (b_lss rfl)) ?_
 refine OA.nil ?_
 intro _
 refine RA.cond (t := true) rfl (fun hc => ?_) (fun hc => ?_)
 ·
  refine RA.seq hd ?_
  refine RA.region env_ok ?_
  refine OA.callP (dst := (some 34)) (all := []) (v := (.bool true)) (hd.of (by omega) (kb3 (by omega))) rfl rfl rfl rfl rfl rfl rfl rfl s23 ?_
  intro n2 hn2
  refine OA.pure (dst := (some 35)) (v := (.bool true)) rfl rfl rfl rfl ?_
  refine OA.pure (dst := (some 36)) (v := (.agg ⟨(xCk75 c)⟩)) rfl rfl rfl (r_loadA rfl rfl rfl rfl (get_there (by omega) get_here) rfl rfl rfl) ?_
  refine OA.callP (dst := (some 37)) (all := [(.agg ⟨(xCk75 c)⟩)]) (v := (.bool false)) (hd.of (by omega) (kb3 (by omega))) rfl rfl rfl rfl rfl rfl rfl rfl (s29Z c h) ?_
  intro n3 hn3
  refine OA.pure (dst := (some 38)) (v := (.bool true)) rfl rfl rfl rfl ?_
  refine OA.pure (dst := (some 39)) (v := (.bool true)) rfl rfl rfl rfl ?_
  refine OA.pure (dst := (some 6)) (v := (.bool true)) rfl rfl rfl rfl ?_
  refine OA.nil ?_
  intro _
  refine RA.ret env_ok ?_
  refine ⟨.inr rfl, [(.bool true)], (resL_cons rfl resL_nil), rfl, (kc3 (by omega))⟩
 · cases hc

set_option maxHeartbeats 4000000 in
theorem suf10N {n : Nat} {σ : Store} (hd : Dom n σ) (key : ByteArray) (hk : key.size ≤ 70) (c0 c1 : UInt8) (p5 p8 : Nat) (g1 : n ≤ p5) (g2 : p5 < p8) (c : Ck) (h : MayN c) (hm : c.made < 9223372036854775808) (m0 : Nat) (hm0 : p8 + 1 ≤ m0) (τ0 : Tm) : RA Try.prog env n σ Try.f10.ntmps (right 3 (Try.f10.body.getD .skip)) (upds τ0 [(5, (Pt p5 0 0)), (7, (.string key)), (8, (Pt p8 0 0))]) m0 [(p8, some ⟨[[(.int .i64 ((c.made : Nat) : Int)), (W c.mine), (W c.yours), (W c.mt), (W c.yt), (W c.peer), (W c.loc), (.int .i64 ((c.pp : Nat) : Int)), (.int .i64 ((c.mp : Nat) : Int)), (W c.rwnd), (.int .i64 ((c.ou : Nat) : Int)), (.int .i64 ((c.inn : Nat) : Int)), (W c.tm), (W c.ty), (.string c.mr), (.string c.rn)]], 16, 35, true⟩), (p5, some ⟨[[(.int .u8 ((c0.toNat : Nat) : Int)), (.int .u8 ((c1.toNat : Nat) : Int))]], 2, 30, true⟩)] (fun x τ' n' D => (x = .normal ∨ x = .ret) ∧ ∃ vs, resL env τ' (app D σ) Try.f10.results.toList = some vs ∧ one vs = (.bool true) ∧ ∀ i ∈ keys D, n ≤ i ∧ i < n') := by
 refine RA.seq hd ?_
 refine RA.region env_ok ?_
 refine OA.pure (dst := (some 27)) (v := (.string key)) rfl rfl rfl rfl ?_
 refine OA.pure (dst := (some 28)) (v := (.agg ⟨(xCk71 c)⟩)) rfl rfl rfl (r_loadA rfl rfl rfl rfl get_here rfl rfl rfl) ?_
 refine OA.callP (dst := (some 29)) (all := [(.string key), (.agg ⟨(xCk71 c)⟩)]) (v := (.string (ckS key c))) (hd.of (by omega) (kb2 (by omega))) rfl rfl rfl rfl rfl rfl rfl rfl (s22 key (by omega) c h hm) ?_
 intro n1 hn1
 refine OA.op1 (dst := (some 30)) (v := (.slice (some ⟨n1, 0, none⟩) 104 0)) (n1 := (n1 + 1)) (w := (n1, some ⟨(bc (L (ckS key c))), 1, 5, true⟩)) rfl rfl rfl (r_s2bN (S' := (ckS key c)) rfl rfl rfl rfl rfl rfl rfl rfl (by rw [ckS_size key c h])) (by omega) ?_
 refine OA.pure (dst := (some 9)) (v := (.slice (some ⟨n1, 0, none⟩) 104 0)) rfl rfl rfl rfl ?_
 refine OA.nil ?_
 intro _
 refine RA.seq hd ?_
 refine RA.seq hd ?_
 refine RA.region env_ok ?_
 refine OA.pure (dst := (some 31)) (v := (.slice (some ⟨n1, 0, none⟩) 104 0)) rfl rfl rfl rfl ?_
 refine OA.pure (dst := (some 32)) (v := (.int .i64 104)) rfl rfl rfl rfl ?_
 refine OA.pure (dst := (some 33)) (v := (.bool false)) rfl rfl rfl (r_bin rfl rfl rfl (b_lss rfl)) ?_
 refine OA.nil ?_
 intro _
 refine RA.cond (t := false) rfl (fun hc => ?_) (fun hc => ?_)
 · cases hc
 ·
  refine RA.skip env_ok ?_
  intro _
  refine RA.seq hd ?_
  refine RA.par (md := [some [], some [], some [], some [], some [], some [p5], some [], some [], some [], some [n1], some [n1], some [], some [p5], some [], some [n1], none]) env_ok (hd.of (by omega) (kb3 (by omega))) (by kernel_rfl) ?_
  refine PQ.pure (dst := (some 40)) (v := (.slice (some ⟨n1, 0, none⟩) 104 0)) rfl rfl rfl noStore (none_ok _ _) rfl ?_
  refine PQ.pure (dst := (some 41)) (v := (.slice (some ⟨n1, 0, none⟩) 104 0)) rfl rfl rfl noStore (none_ok _ _) rfl ?_
  refine PQ.pure (dst := (some 42)) (v := (.int .i64 104)) rfl rfl rfl noStore (none_ok _ _) rfl ?_
  refine PQ.pure (dst := (some 43)) (v := (.int .i64 103)) rfl rfl rfl noStore (none_ok _ _) (r_bin rfl rfl rfl (b_sub (i64_eq (by omega)))) ?_
  refine PQ.pure (dst := (some 44)) (v := (Pt p5 0 0)) rfl rfl rfl noStore (none_ok _ _) (r_iaA (l := 0) rfl rfl rfl rfl rfl rfl (by omega) (by omega) (by show 0 + 0 * 1 = 0; omega)) ?_
  refine PQ.pure (dst := (some 45)) (v := (.int .u8 ((c0.toNat : Nat) : Int))) rfl rfl rfl (app [(p5, some ⟨[[(.int .u8 ((c0.toNat : Nat) : Int)), (.int .u8 ((c1.toNat : Nat) : Int))]], 2, 30, true⟩)] noStore) (seen_one (V := []) (D := [(n1, some ⟨(bc (L (ckS key c))), 1, 5, true⟩), (p8, some ⟨[(xCk71 c)], 16, 35, true⟩), (p5, some ⟨[[(.int .u8 ((c0.toNat : Nat) : Int)), (.int .u8 ((c1.toNat : Nat) : Int))]], 2, 30, true⟩)]) (by kernel_rfl) (get_there (by omega) (get_there (by omega) get_here))) (r_load1 rfl rfl rfl rfl rfl get_here rfl rfl) ?_
  refine PQ.pure (dst := (some 46)) (v := (.int .u8 (((c0.toNat % 20) : Nat) : Int))) rfl rfl rfl noStore (none_ok _ _) (r_bin rfl rfl rfl (b_remN (a := c0.toNat) (c := 20) (by decide))) ?_
  refine PQ.pure (dst := (some 47)) (v := (.int .i64 (((c0.toNat % 20) : Nat) : Int))) rfl rfl rfl noStore (none_ok _ _) (r_cvt rfl rfl rfl rfl rfl ⟨_, rfl⟩ (i64_eq (by omega))) ?_
  refine PQ.pure (dst := (some 48)) (v := (.int .i64 (((103 - (c0.toNat % 20)) : Nat) : Int))) rfl rfl rfl noStore (none_ok _ _) (r_bin rfl rfl rfl (b_sub (i64_eq (by omega)))) ?_
  refine PQ.pure (dst := (some 49)) (v := (.pointer (some ⟨n1, (103 - (c0.toNat % 20)), some 0⟩))) rfl rfl rfl (app [(n1, some ⟨(bc (L (ckS key c))), 1, 5, true⟩)] noStore) (seen_one (V := []) (D := [(n1, some ⟨(bc (L (ckS key c))), 1, 5, true⟩), (p8, some ⟨[(xCk71 c)], 16, 35, true⟩), (p5, some ⟨[[(.int .u8 ((c0.toNat : Nat) : Int)), (.int .u8 ((c1.toNat : Nat) : Int))]], 2, 30, true⟩)]) (by kernel_rfl) get_here) (r_iaS (l := (103 - (c0.toNat % 20))) rfl rfl rfl rfl rfl rfl (by omega) (by omega) get_here rfl (by omega)) ?_
  refine PQ.pure (dst := (some 50)) (v := (.int .u8 ((((L (ckS key c)).getD (103 - (c0.toNat % 20)) 0).toNat : Nat) : Int))) rfl rfl rfl (app [(n1, some ⟨(bc (L (ckS key c))), 1, 5, true⟩)] noStore) (seen_one (V := []) (D := [(n1, some ⟨(bc (L (ckS key c))), 1, 5, true⟩), (p8, some ⟨[(xCk71 c)], 16, 35, true⟩), (p5, some ⟨[[(.int .u8 ((c0.toNat : Nat) : Int)), (.int .u8 ((c1.toNat : Nat) : Int))]], 2, 30, true⟩)]) (by kernel_rfl) get_here) (r_loadB rfl rfl rfl rfl rfl get_here (by rw [L_len, ckS_size key c h]; omega)) ?_
  refine PQ.pure (dst := (some 51)) (v := (Pt p5 0 1)) rfl rfl rfl noStore (none_ok _ _) (r_iaA (l := 1) rfl rfl rfl rfl rfl rfl (by omega) (by omega) (by show 0 + 1 * 1 = 1; omega)) ?_
  refine PQ.pure (dst := (some 52)) (v := (.int .u8 ((c1.toNat : Nat) : Int))) rfl rfl rfl (app [(p5, some ⟨[[(.int .u8 ((c0.toNat : Nat) : Int)), (.int .u8 ((c1.toNat : Nat) : Int))]], 2, 30, true⟩)] noStore) (seen_one (V := []) (D := [(n1, some ⟨(bc (L (ckS key c))), 1, 5, true⟩), (p8, some ⟨[(xCk71 c)], 16, 35, true⟩), (p5, some ⟨[[(.int .u8 ((c0.toNat : Nat) : Int)), (.int .u8 ((c1.toNat : Nat) : Int))]], 2, 30, true⟩)]) (by kernel_rfl) (get_there (by omega) (get_there (by omega) get_here))) (r_load1 rfl rfl rfl rfl rfl get_here rfl rfl) ?_
  refine PQ.pure (dst := (some 53)) (v := (.int .u8 (((((L (ckS key c)).getD (103 - (c0.toNat % 20)) 0) ^^^ c1).toNat : Nat) : Int))) rfl rfl rfl noStore (none_ok _ _) (r_bin rfl rfl rfl (b_xor8 ((L (ckS key c)).getD (103 - (c0.toNat % 20)) 0) c1)) ?_
  refine PQ.pure (dst := (some 54)) (v := (.pointer (some ⟨n1, (103 - (c0.toNat % 20)), some 0⟩))) rfl rfl rfl (app [(n1, some ⟨(bc (L (ckS key c))), 1, 5, true⟩)] noStore) (seen_one (V := []) (D := [(n1, some ⟨(bc (L (ckS key c))), 1, 5, true⟩), (p8, some ⟨[(xCk71 c)], 16, 35, true⟩), (p5, some ⟨[[(.int .u8 ((c0.toNat : Nat) : Int)), (.int .u8 ((c1.toNat : Nat) : Int))]], 2, 30, true⟩)]) (by kernel_rfl) get_here) (r_iaS (l := (103 - (c0.toNat % 20))) rfl rfl rfl rfl rfl rfl (by omega) (by omega) get_here rfl (by omega)) ?_
  refine PQ.op (dst := none) (v := (.tuple #[])) (n1 := (n1 + 1)) (d1 := [(n1, some ⟨(bc ((L (ckS key c)).set (103 - (c0.toNat % 20)) (((L (ckS key c)).getD (103 - (c0.toNat % 20)) 0) ^^^ c1))), 1, 5, true⟩)]) rfl rfl rfl (app [(n1, some ⟨(bc (L (ckS key c))), 1, 5, true⟩), (p8, some ⟨[(xCk71 c)], 16, 35, true⟩), (p5, some ⟨[[(.int .u8 ((c0.toNat : Nat) : Int)), (.int .u8 ((c1.toNat : Nat) : Int))]], 2, 30, true⟩)] σ) (seen_any (V := []) (D := [(n1, some ⟨(bc (L (ckS key c))), 1, 5, true⟩), (p8, some ⟨[(xCk71 c)], 16, 35, true⟩), (p5, some ⟨[[(.int .u8 ((c0.toNat : Nat) : Int)), (.int .u8 ((c1.toNat : Nat) : Int))]], 2, 30, true⟩)]) (by kernel_rfl)) (r_storeB (B' := (((L (ckS key c)).getD (103 - (c0.toNat % 20)) 0) ^^^ c1)) rfl rfl rfl rfl rfl get_here (by rw [L_len, ckS_size key c h]; omega)) (by omega) (fun x hx => by first | (simp only [keys, List.cons_append, List.nil_append, List.map_cons, List.map_nil, List.mem_cons, List.not_mem_nil, or_false, false_or] at hx; exact wr_new (by omega) (by omega)) | (exact wr_tight (by kernel_rfl) (by simp only [keys, List.cons_append, List.nil_append, List.map_cons, List.map_nil, List.mem_cons, List.not_mem_nil, or_false, false_or] at hx; omega))) ?_
  refine PQ.done (d := [(n1, some ⟨(bc ((L (ckS key c)).set (103 - (c0.toNat % 20)) (((L (ckS key c)).getD (103 - (c0.toNat % 20)) 0) ^^^ c1))), 1, 5, true⟩)]) (by kernel_rfl) ?_
  intro _
  refine RA.weaken (D' := [(n1, some ⟨(bc ((L (ckS key c)).set (103 - (c0.toNat % 20)) (((L (ckS key c)).getD (103 - (c0.toNat % 20)) 0) ^^^ c1))), 1, 5, true⟩), (p8, some ⟨[(xCk71 c)], 16, 35, true⟩), (p5, some ⟨[[(.int .u8 ((c0.toNat : Nat) : Int)), (.int .u8 ((c1.toNat : Nat) : Int))]], 2, 30, true⟩)]) hd (Less.of (fac (mm (fun _ => get_here) (fun _ => get_here)) (fac (mm (fun _ => (get_there (by omega) get_here)) (fun _ => (get_there (by omega) (get_there (by omega) get_here)))) (fac (mm (fun _ => (get_there (by omega) (get_there (by omega) get_here))) (fun _ => (get_there (by omega) (get_there (by omega) (get_there (by omega) get_here))))) fan))) (gone_of (by simp only [goneP, memP, List.cons_append, List.nil_append, true_or, or_true, true_and, and_true, or_false] <;> omega))) ?_
  refine RA.seq hd ?_
  refine RA.region env_ok ?_
  refine OA.pure (dst := (some 56)) (v := (.string key)) rfl rfl rfl rfl ?_
  refine OA.pure (dst := (some 57)) (v := (.slice (some ⟨n1, 0, none⟩) 104 0)) rfl rfl rfl rfl ?_
  refine OA.pure (dst := (some 58)) (v := (.string (bstr ((((L (ckS key c)).set (103 - (c0.toNat % 20)) (((L (ckS key c)).getD (103 - (c0.toNat % 20)) 0) ^^^ c1)).drop 0).take 104)))) rfl rfl rfl (r_b2s rfl rfl rfl rfl rfl rfl rfl rfl get_here (by rw [List.length_set, L_len, ckS_size key c h]; omega)) ?_
  by_cases hc1 : c1 = 0
  ·
   refine OA.callP (dst := (some 59)) (all := [(.string key), (.string (bstr ((((L (ckS key c)).set (103 - (c0.toNat % 20)) (((L (ckS key c)).getD (103 - (c0.toNat % 20)) 0) ^^^ c1)).drop 0).take 104))), (.int .i64 0)]) (v := (.tuple ⟨[(.agg ⟨(xCk71 c)⟩), (.int .i64 0), (.int .i64 0)]⟩)) (hd.of (by omega) (kb3 (by omega))) rfl rfl rfl rfl rfl rfl rfl rfl (bentE key (by omega) c h hm hc1) ?_
   intro n2 hn2
   refine OA.pure (dst := (some 55)) (v := (.tuple ⟨[(.agg ⟨(xCk71 c)⟩), (.int .i64 0), (.int .i64 0)]⟩)) rfl rfl rfl rfl ?_
   refine OA.pure (dst := (some 60)) (v := (.agg ⟨(xCk71 c)⟩)) rfl rfl rfl rfl ?_
   refine OA.pure (dst := (some 61)) (v := (.int .i64 0)) rfl rfl rfl rfl ?_
   refine OA.pure (dst := (some 62)) (v := (.int .i64 0)) rfl rfl rfl rfl ?_
   refine OA.op1 (dst := (some 10)) (v := (Pt n2 0 0)) (n1 := (n2 + 1)) (w := (n2, some ⟨[xCk72], 16, 35, true⟩)) rfl rfl rfl rfl (by omega) ?_
   refine OA.op1 (dst := none) (v := (.tuple #[])) (n1 := (n2 + 1)) (w := (n2, some ⟨[(xCk71 c)], 16, 35, true⟩)) rfl rfl rfl (r_store rfl rfl rfl rfl rfl rfl rfl get_here rfl rfl (Nat.le_of_ble_eq_true rfl) rfl) (by omega) ?_
   refine OA.pure (dst := (some 11)) (v := (.int .i64 0)) rfl rfl rfl rfl ?_
   refine OA.pure (dst := (some 12)) (v := (.int .i64 0)) rfl rfl rfl rfl ?_
   refine OA.nil ?_
   intro _
   refine RA.weaken (D' := [(n2, some ⟨[(xCk71 c)], 16, 35, true⟩), (n1, some ⟨(bc ((L (ckS key c)).set (103 - (c0.toNat % 20)) (((L (ckS key c)).getD (103 - (c0.toNat % 20)) 0) ^^^ c1))), 1, 5, true⟩), (p8, some ⟨[(xCk71 c)], 16, 35, true⟩), (p5, some ⟨[[(.int .u8 ((c0.toNat : Nat) : Int)), (.int .u8 ((c1.toNat : Nat) : Int))]], 2, 30, true⟩)]) hd (Less.of (fac (mm (fun _ => get_here) (fun _ => get_here)) (fac (mm (fun _ => (get_there (by omega) get_here)) (fun _ => (get_there (by omega) (get_there (by omega) get_here)))) (fac (mm (fun _ => (get_there (by omega) (get_there (by omega) get_here))) (fun _ => (get_there (by omega) (get_there (by omega) (get_there (by omega) get_here))))) (fac (mm (fun _ => (get_there (by omega) (get_there (by omega) (get_there (by omega) get_here)))) (fun _ => (get_there (by omega) (get_there (by omega) (get_there (by omega) (get_there (by omega) get_here)))))) fan)))) (gone_of (by simp only [goneP, memP, List.cons_append, List.nil_append, true_or, or_true, true_and, and_true, or_false] <;> omega))) ?_
   refine RA.rebase [(5, (Pt p5 0 0)), (7, (.string key)), (8, (Pt p8 0 0)), (9, (.slice (some ⟨n1, 0, none⟩) 104 0)), (12, (.int .i64 0)), (33, (.bool false))] ⟨rfl, rfl, rfl, rfl, rfl, rfl, trivial⟩ (fun τr3 => ?_)
   refine RA.seq hd ?_
   refine RA.region env_ok ?_
   refine OA.callP (dst := (some 63)) (all := []) (v := (.bool true)) (hd.of (by omega) (kb4 (by omega))) rfl rfl rfl rfl rfl rfl rfl rfl s23 ?_
   intro n4 hn4
   refine OA.pure (dst := (some 64)) (v := (.bool true)) rfl rfl rfl rfl ?_
   refine OA.pure (dst := (some 65)) (v := (.int .i64 0)) rfl rfl rfl rfl ?_
   refine OA.pure (dst := (some 66)) (v := (.bool false)) rfl rfl rfl (r_bin rfl rfl rfl (b_eql rfl)) ?_
   refine OA.pure (dst := (some 67)) (v := (Pt p5 0 1)) rfl rfl rfl (r_iaA (l := 1) rfl rfl rfl rfl rfl rfl (by omega) (by omega) (by show 0 + 1 * 1 = 1; omega)) ?_
   refine OA.pure (dst := (some 68)) (v := (.int .u8 ((c1.toNat : Nat) : Int))) rfl rfl rfl (r_load1 rfl rfl rfl rfl rfl (get_there (by omega) (get_there (by omega) (get_there (by omega) get_here))) rfl rfl) ?_
   refine OA.pure (dst := (some 69)) (v := (.bool (decide (((c1.toNat : Nat) : Int) ≠ 0)))) rfl rfl rfl (r_bin rfl rfl rfl (b_neq rfl)) ?_
   refine OA.pure (dst := (some 70)) (v := (.bool (false == (decide (((c1.toNat : Nat) : Int) ≠ 0))))) rfl rfl rfl (r_eqlB rfl rfl rfl rfl rfl) ?_
   refine OA.pure (dst := (some 71)) (v := (.bool (false == (decide (((c1.toNat : Nat) : Int) ≠ 0))))) rfl rfl rfl rfl ?_
   refine OA.pure (dst := (some 6)) (v := (.bool (false == (decide (((c1.toNat : Nat) : Int) ≠ 0))))) rfl rfl rfl rfl ?_
   refine OA.nil ?_
   intro _
   refine RA.ret env_ok ?_
   refine ⟨.inr rfl, [(.bool (false == (decide (((c1.toNat : Nat) : Int) ≠ 0))))], (resL_cons rfl resL_nil), (by rw [one, decide_eq_false (show ¬ (((c1.toNat : Nat) : Int) ≠ 0) from fun q => q (c1_iff.2 hc1))]; rfl), (kc4 (by omega))⟩
  ·
   refine OA.callP (dst := (some 59)) (all := [(.string key), (.string (bstr ((((L (ckS key c)).set (103 - (c0.toNat % 20)) (((L (ckS key c)).getD (103 - (c0.toNat % 20)) 0) ^^^ c1)).drop 0).take 104))), (.int .i64 0)]) (v := (.tuple ⟨[(.agg ⟨xCk72⟩), (.int .i64 0), (.int .i64 100)]⟩)) (hd.of (by omega) (kb3 (by omega))) rfl rfl rfl rfl rfl rfl rfl rfl (bentN key (by omega) c h hm (by omega) (by omega) hc1) ?_
   intro n5 hn5
   refine OA.pure (dst := (some 55)) (v := (.tuple ⟨[(.agg ⟨xCk72⟩), (.int .i64 0), (.int .i64 100)]⟩)) rfl rfl rfl rfl ?_
   refine OA.pure (dst := (some 60)) (v := (.agg ⟨xCk72⟩)) rfl rfl rfl rfl ?_
   refine OA.pure (dst := (some 61)) (v := (.int .i64 0)) rfl rfl rfl rfl ?_
   refine OA.pure (dst := (some 62)) (v := (.int .i64 100)) rfl rfl rfl rfl ?_
   refine OA.op1 (dst := (some 10)) (v := (Pt n5 0 0)) (n1 := (n5 + 1)) (w := (n5, some ⟨[xCk72], 16, 35, true⟩)) rfl rfl rfl rfl (by omega) ?_
   refine OA.op1 (dst := none) (v := (.tuple #[])) (n1 := (n5 + 1)) (w := (n5, some ⟨[xCk72], 16, 35, true⟩)) rfl rfl rfl (r_store rfl rfl rfl rfl rfl rfl rfl get_here rfl rfl (Nat.le_of_ble_eq_true rfl) rfl) (by omega) ?_
   refine OA.pure (dst := (some 11)) (v := (.int .i64 0)) rfl rfl rfl rfl ?_
   refine OA.pure (dst := (some 12)) (v := (.int .i64 100)) rfl rfl rfl rfl ?_
   refine OA.nil ?_
   intro _
   refine RA.weaken (D' := [(n5, some ⟨[xCk72], 16, 35, true⟩), (n1, some ⟨(bc ((L (ckS key c)).set (103 - (c0.toNat % 20)) (((L (ckS key c)).getD (103 - (c0.toNat % 20)) 0) ^^^ c1))), 1, 5, true⟩), (p8, some ⟨[(xCk71 c)], 16, 35, true⟩), (p5, some ⟨[[(.int .u8 ((c0.toNat : Nat) : Int)), (.int .u8 ((c1.toNat : Nat) : Int))]], 2, 30, true⟩)]) hd (Less.of (fac (mm (fun _ => get_here) (fun _ => get_here)) (fac (mm (fun _ => (get_there (by omega) get_here)) (fun _ => (get_there (by omega) (get_there (by omega) get_here)))) (fac (mm (fun _ => (get_there (by omega) (get_there (by omega) get_here))) (fun _ => (get_there (by omega) (get_there (by omega) (get_there (by omega) get_here))))) (fac (mm (fun _ => (get_there (by omega) (get_there (by omega) (get_there (by omega) get_here)))) (fun _ => (get_there (by omega) (get_there (by omega) (get_there (by omega) (get_there (by omega) get_here)))))) fan)))) (gone_of (by simp only [goneP, memP, List.cons_append, List.nil_append, true_or, or_true, true_and, and_true, or_false] <;> omega))) ?_
   refine RA.rebase [(5, (Pt p5 0 0)), (7, (.string key)), (8, (Pt p8 0 0)), (9, (.slice (some ⟨n1, 0, none⟩) 104 0)), (12, (.int .i64 100)), (33, (.bool false))] ⟨rfl, rfl, rfl, rfl, rfl, rfl, trivial⟩ (fun τr6 => ?_)
   refine RA.seq hd ?_
   refine RA.region env_ok ?_
   refine OA.callP (dst := (some 63)) (all := []) (v := (.bool true)) (hd.of (by omega) (kb4 (by omega))) rfl rfl rfl rfl rfl rfl rfl rfl s23 ?_
   intro n7 hn7
   refine OA.pure (dst := (some 64)) (v := (.bool true)) rfl rfl rfl rfl ?_
   refine OA.pure (dst := (some 65)) (v := (.int .i64 100)) rfl rfl rfl rfl ?_
   refine OA.pure (dst := (some 66)) (v := (.bool true)) rfl rfl rfl (r_bin rfl rfl rfl (b_eql rfl)) ?_
   refine OA.pure (dst := (some 67)) (v := (Pt p5 0 1)) rfl rfl rfl (r_iaA (l := 1) rfl rfl rfl rfl rfl rfl (by omega) (by omega) (by show 0 + 1 * 1 = 1; omega)) ?_
   refine OA.pure (dst := (some 68)) (v := (.int .u8 ((c1.toNat : Nat) : Int))) rfl rfl rfl (r_load1 rfl rfl rfl rfl rfl (get_there (by omega) (get_there (by omega) (get_there (by omega) get_here))) rfl rfl) ?_
   refine OA.pure (dst := (some 69)) (v := (.bool (decide (((c1.toNat : Nat) : Int) ≠ 0)))) rfl rfl rfl (r_bin rfl rfl rfl (b_neq rfl)) ?_
   refine OA.pure (dst := (some 70)) (v := (.bool (true == (decide (((c1.toNat : Nat) : Int) ≠ 0))))) rfl rfl rfl (r_eqlB rfl rfl rfl rfl rfl) ?_
   refine OA.pure (dst := (some 71)) (v := (.bool (true == (decide (((c1.toNat : Nat) : Int) ≠ 0))))) rfl rfl rfl rfl ?_
   refine OA.pure (dst := (some 6)) (v := (.bool (true == (decide (((c1.toNat : Nat) : Int) ≠ 0))))) rfl rfl rfl rfl ?_
   refine OA.nil ?_
   intro _
   refine RA.ret env_ok ?_
   refine ⟨.inr rfl, [(.bool (true == (decide (((c1.toNat : Nat) : Int) ≠ 0))))], (resL_cons rfl resL_nil), (by rw [one, decide_eq_true (show ((c1.toNat : Nat) : Int) ≠ 0 from fun q => hc1 (c1_iff.1 q))]; rfl), (kc4 (by omega))⟩

theorem suf10 {n : Nat} {σ : Store} (hd : Dom n σ) (key : ByteArray) (hk : key.size ≤ 70) (c0 c1 : UInt8) (p5 p8 : Nat) (g1 : n ≤ p5) (g2 : p5 < p8) (c : CkI) (hm : c.made < 9223372036854775808) (m0 : Nat) (hm0 : p8 + 1 ≤ m0) (τ0 : Tm) : RA Try.prog env n σ Try.f10.ntmps (right 3 (Try.f10.body.getD .skip)) (upds τ0 [(5, (Pt p5 0 0)), (7, (.string key)), (8, (Pt p8 0 0))]) m0 [(p8, some ⟨[[(.int .i64 c.made), (W c.mine), (W c.yours), (W c.mt), (W c.yt), (W c.peer), (W c.loc), (.int .i64 c.pp), (.int .i64 c.mp), (W c.rwnd), (.int .i64 c.ou), (.int .i64 c.inn), (W c.tm), (W c.ty), (.string c.mr), (.string c.rn)]], 16, 35, true⟩), (p5, some ⟨[[(.int .u8 ((c0.toNat : Nat) : Int)), (.int .u8 ((c1.toNat : Nat) : Int))]], 2, 30, true⟩)] (fun x τ' n' D => (x = .normal ∨ x = .ret) ∧ ∃ vs, resL env τ' (app D σ) Try.f10.results.toList = some vs ∧ one vs = (.bool true) ∧ ∀ i ∈ keys D, n ≤ i ∧ i < n') := by
  by_cases h : MayI c
  · obtain ⟨d, rfl, h1, h2⟩ := mayI_toI c h hm
    exact suf10N hd key hk c0 c1 p5 p8 g1 g2 d h1 h2 m0 hm0 τ0
  · exact suf10Z hd key hk c0 c1 p5 p8 g1 g2 c h m0 hm0 τ0

theorem s10 {σ : Store} (key : ByteArray) (c : CkI) (hm : c.made < 9223372036854775808) (hmr : c.mr.size < 9223372036854775000) (hrn : c.rn.size < 9223372036854775000) (c0 c1 : UInt8)   : PS Try.prog noDen 10 [(.string key), (.agg ⟨[(.int .i64 c.made), (W c.mine), (W c.yours), (W c.mt), (W c.yt), (W c.peer), (W c.loc), (.int .i64 c.pp), (.int .i64 c.mp), (W c.rwnd), (.int .i64 c.ou), (.int .i64 c.inn), (W c.tm), (W c.ty), (.string c.mr), (.string c.rn)]⟩), (.agg ⟨[(.int .u8 ((c0.toNat : Nat) : Int)), (.int .u8 ((c1.toNat : Nat) : Int))]⟩)] σ (.bool true) := by
 refine PS.body (E := env) env_ok rfl rfl (by show _ ≤ _; exact of_decide_eq_true (by kernel_rfl)) (fun n hd => ?_)
 refine RA.seq hd ?_
 refine RA.region env_ok ?_
 refine OA.op1 (dst := (some 4)) (v := (Pt n 0 0)) (n1 := (n + 1)) (w := (n, some ⟨[(xCk75 c)], 16, 35, true⟩)) rfl rfl rfl rfl (by omega) ?_
 refine OA.op1 (dst := (some 5)) (v := (.pointer (some ⟨(n + 1), 0, some 0⟩))) (n1 := (n + 2)) (w := ((n + 1), some ⟨[[(.int .u8 ((c0.toNat : Nat) : Int)), (.int .u8 ((c1.toNat : Nat) : Int))]], 2, 30, true⟩)) rfl rfl rfl rfl (by omega) ?_
 refine OA.pure (dst := (some 6)) (v := (.bool false)) rfl rfl rfl rfl ?_
 refine OA.nil ?_
 intro _
 refine RA.seq hd ?_
 refine RA.par (md := [some [], some [], some [], some [], some [], some [n], some [], some [], none]) env_ok (hd.of (by omega) (kb2 (by omega))) (by kernel_rfl) ?_
 refine PQ.pure (dst := (some 13)) (v := (.string key)) rfl rfl rfl noStore (none_ok _ _) rfl ?_
 refine PQ.pure (dst := (some 14)) (v := (.string key)) rfl rfl rfl noStore (none_ok _ _) rfl ?_
 refine PQ.pure (dst := (some 15)) (v := (.int .i64 ((key.size : Nat) : Int))) rfl rfl rfl noStore (none_ok _ _) rfl ?_
 refine PQ.pure (dst := (some 16)) (v := (.int .i64 (((min key.size 70) : Nat) : Int))) rfl rfl rfl noStore (none_ok _ _) (r_min (a := key.size) (b := 70) rfl rfl rfl) ?_
 refine PQ.pure (dst := (some 17)) (v := (.string (key.extract 0 (min key.size 70)))) rfl rfl rfl noStore (none_ok _ _) (r_cut (a := 0) (b := (min key.size 70)) rfl rfl (fun _ => rfl) (fun _ => rfl) rfl rfl rfl bound_nat (by omega) (by omega) rfl) ?_
 refine PQ.pure (dst := (some 18)) (v := (.agg ⟨(xCk75 c)⟩)) rfl rfl rfl (app [(n, some ⟨[(xCk75 c)], 16, 35, true⟩)] noStore) (seen_one (V := []) (D := [((n + 1), some ⟨[[(.int .u8 ((c0.toNat : Nat) : Int)), (.int .u8 ((c1.toNat : Nat) : Int))]], 2, 30, true⟩), (n, some ⟨[(xCk75 c)], 16, 35, true⟩)]) (by kernel_rfl) (get_there (by omega) get_here)) (r_loadA rfl rfl rfl rfl get_here rfl rfl rfl) ?_
 refine PQ.op (dst := (some 8)) (v := (.pointer (some ⟨(n + 2), 0, some 0⟩))) (n1 := (n + 3)) (d1 := [((n + 2), some ⟨[xCk72], 16, 35, true⟩)]) rfl rfl rfl noStore (none_ok _ _) rfl (by omega) (fun x hx => by first | (simp only [keys, List.cons_append, List.nil_append, List.map_cons, List.map_nil, List.mem_cons, List.not_mem_nil, or_false, false_or] at hx; exact wr_new (by omega) (by omega)) | (simp only [keys, List.cons_append, List.nil_append, List.map_cons, List.map_nil, List.mem_cons, List.not_mem_nil, or_false, false_or] at hx; exact wr_old [0, 1, 2, 3, 4, 5] (by kernel_rfl) (by omega) (by omega) (by intro i hi; simp only [List.mem_cons, List.not_mem_nil, or_false] at hi; rcases hi with rfl | rfl | rfl | rfl | rfl | rfl <;> exact ⟨_, rfl, by simp only [List.mem_cons, List.not_mem_nil, or_false, not_false_eq_true]; try omega⟩))) ?_
 refine PQ.pure (dst := (some 7)) (v := (.string (key.extract 0 (min key.size 70)))) rfl rfl rfl noStore (none_ok _ _) rfl ?_
 refine PQ.op (dst := none) (v := (.tuple #[])) (n1 := (n + 3)) (d1 := [((n + 2), some ⟨[(xCk75 c)], 16, 35, true⟩)]) rfl rfl rfl (app [((n + 2), some ⟨[xCk72], 16, 35, true⟩), ((n + 1), some ⟨[[(.int .u8 ((c0.toNat : Nat) : Int)), (.int .u8 ((c1.toNat : Nat) : Int))]], 2, 30, true⟩), (n, some ⟨[(xCk75 c)], 16, 35, true⟩)] σ) (seen_any (V := [((n + 2), some ⟨[xCk72], 16, 35, true⟩)]) (D := [((n + 1), some ⟨[[(.int .u8 ((c0.toNat : Nat) : Int)), (.int .u8 ((c1.toNat : Nat) : Int))]], 2, 30, true⟩), (n, some ⟨[(xCk75 c)], 16, 35, true⟩)]) (by kernel_rfl)) (r_store rfl rfl rfl rfl rfl rfl rfl get_here rfl rfl (Nat.le_of_ble_eq_true rfl) rfl) (by omega) (fun x hx => by first | (simp only [keys, List.cons_append, List.nil_append, List.map_cons, List.map_nil, List.mem_cons, List.not_mem_nil, or_false, false_or] at hx; exact wr_new (by omega) (by omega)) | (exact wr_tight (by kernel_rfl) (by simp only [keys, List.cons_append, List.nil_append, List.map_cons, List.map_nil, List.mem_cons, List.not_mem_nil, or_false, false_or] at hx; omega))) ?_
 refine PQ.done (d := [((n + 2), some ⟨[(xCk75 c)], 16, 35, true⟩), ((n + 2), some ⟨[xCk72], 16, 35, true⟩)]) (by kernel_rfl) ?_
 intro _
 refine RA.weaken (D' := [((n + 2), some ⟨[(xCk75 c)], 16, 35, true⟩), ((n + 1), some ⟨[[(.int .u8 ((c0.toNat : Nat) : Int)), (.int .u8 ((c1.toNat : Nat) : Int))]], 2, 30, true⟩), (n, some ⟨[(xCk75 c)], 16, 35, true⟩)]) hd (Less.of (fac (mm (fun _ => get_here) (fun _ => get_here)) (fac (mm (fun _ => (get_there (by omega) get_here)) (fun _ => (get_there (by omega) (get_there (by omega) get_here)))) (fac (mm (fun _ => (get_there (by omega) (get_there (by omega) get_here))) (fun _ => (get_there (by omega) (get_there (by omega) (get_there (by omega) get_here))))) fan))) (gone_of (by simp only [goneP, memP, List.cons_append, List.nil_append, true_or, or_true, true_and, and_true, or_false] <;> omega))) ?_
 refine RA.seq hd ?_
 refine RA.par (md := [some [], some [n], some [], some [], some [n], some [], some [], none, some [], none]) env_ok (hd.of (by omega) (kb3 (by omega))) (by kernel_rfl) ?_
 refine PQ.pure (dst := (some 19)) (v := (Pt n 0 14)) rfl rfl rfl noStore (none_ok _ _) rfl ?_
 refine PQ.pure (dst := (some 20)) (v := (.string c.mr)) rfl rfl rfl (app [(n, some ⟨[(xCk75 c)], 16, 35, true⟩)] noStore) (seen_one (V := []) (D := [((n + 2), some ⟨[(xCk75 c)], 16, 35, true⟩), ((n + 1), some ⟨[[(.int .u8 ((c0.toNat : Nat) : Int)), (.int .u8 ((c1.toNat : Nat) : Int))]], 2, 30, true⟩), (n, some ⟨[(xCk75 c)], 16, 35, true⟩)]) (by kernel_rfl) (get_there (by omega) (get_there (by omega) get_here))) (r_load1 rfl rfl rfl rfl rfl get_here rfl rfl) ?_
 refine PQ.callP (dst := (some 21)) (all := [(.string c.mr)]) (v := (.string (rnd c.mr))) noStore (dom_none _) rfl rfl rfl rfl rfl rfl rfl rfl (none_ok _ _) (s21 c.mr (by omega)) ?_
 intro n1 hn1
 refine PQ.pure (dst := (some 22)) (v := (Pt n 0 15)) rfl rfl rfl noStore (none_ok _ _) rfl ?_
 refine PQ.pure (dst := (some 23)) (v := (.string c.rn)) rfl rfl rfl (app [(n, some ⟨[(xCk75 c)], 16, 35, true⟩)] noStore) (seen_one (V := []) (D := [((n + 2), some ⟨[(xCk75 c)], 16, 35, true⟩), ((n + 1), some ⟨[[(.int .u8 ((c0.toNat : Nat) : Int)), (.int .u8 ((c1.toNat : Nat) : Int))]], 2, 30, true⟩), (n, some ⟨[(xCk75 c)], 16, 35, true⟩)]) (by kernel_rfl) (get_there (by omega) (get_there (by omega) get_here))) (r_load1 rfl rfl rfl rfl rfl get_here rfl rfl) ?_
 refine PQ.callP (dst := (some 24)) (all := [(.string c.rn)]) (v := (.string (rnd c.rn))) noStore (dom_none _) rfl rfl rfl rfl rfl rfl rfl rfl (none_ok _ _) (s21 c.rn (by omega)) ?_
 intro n2 hn2
 refine PQ.pure (dst := (some 25)) (v := (.pointer (some ⟨(n + 2), 0, some 14⟩))) rfl rfl rfl noStore (none_ok _ _) rfl ?_
 refine PQ.op (dst := none) (v := (.tuple #[])) (n1 := n2) (d1 := [((n + 2), some ⟨[(xCk74 c)], 16, 35, true⟩)]) rfl rfl rfl (app [((n + 2), some ⟨[(xCk75 c)], 16, 35, true⟩), ((n + 1), some ⟨[[(.int .u8 ((c0.toNat : Nat) : Int)), (.int .u8 ((c1.toNat : Nat) : Int))]], 2, 30, true⟩), (n, some ⟨[(xCk75 c)], 16, 35, true⟩)] σ) (seen_any (V := []) (D := [((n + 2), some ⟨[(xCk75 c)], 16, 35, true⟩), ((n + 1), some ⟨[[(.int .u8 ((c0.toNat : Nat) : Int)), (.int .u8 ((c1.toNat : Nat) : Int))]], 2, 30, true⟩), (n, some ⟨[(xCk75 c)], 16, 35, true⟩)]) (by kernel_rfl)) (r_store rfl rfl rfl rfl rfl rfl rfl get_here rfl rfl (Nat.le_of_ble_eq_true rfl) rfl) (by omega) (fun x hx => by first | (simp only [keys, List.cons_append, List.nil_append, List.map_cons, List.map_nil, List.mem_cons, List.not_mem_nil, or_false, false_or] at hx; exact wr_new (by omega) (by omega)) | (exact wr_tight (by kernel_rfl) (by simp only [keys, List.cons_append, List.nil_append, List.map_cons, List.map_nil, List.mem_cons, List.not_mem_nil, or_false, false_or] at hx; omega))) ?_
 refine PQ.pure (dst := (some 26)) (v := (.pointer (some ⟨(n + 2), 0, some 15⟩))) rfl rfl rfl noStore (none_ok _ _) rfl ?_
 refine PQ.op (dst := none) (v := (.tuple #[])) (n1 := n2) (d1 := [((n + 2), some ⟨[(xCk73 c)], 16, 35, true⟩)]) rfl rfl rfl (app [((n + 2), some ⟨[(xCk74 c)], 16, 35, true⟩), ((n + 2), some ⟨[(xCk75 c)], 16, 35, true⟩), ((n + 1), some ⟨[[(.int .u8 ((c0.toNat : Nat) : Int)), (.int .u8 ((c1.toNat : Nat) : Int))]], 2, 30, true⟩), (n, some ⟨[(xCk75 c)], 16, 35, true⟩)] σ) (seen_any (V := [((n + 2), some ⟨[(xCk74 c)], 16, 35, true⟩)]) (D := [((n + 2), some ⟨[(xCk75 c)], 16, 35, true⟩), ((n + 1), some ⟨[[(.int .u8 ((c0.toNat : Nat) : Int)), (.int .u8 ((c1.toNat : Nat) : Int))]], 2, 30, true⟩), (n, some ⟨[(xCk75 c)], 16, 35, true⟩)]) (by kernel_rfl)) (r_store rfl rfl rfl rfl rfl rfl rfl get_here rfl rfl (Nat.le_of_ble_eq_true rfl) rfl) (by omega) (fun x hx => by first | (simp only [keys, List.cons_append, List.nil_append, List.map_cons, List.map_nil, List.mem_cons, List.not_mem_nil, or_false, false_or] at hx; exact wr_new (by omega) (by omega)) | (exact wr_tight (by kernel_rfl) (by simp only [keys, List.cons_append, List.nil_append, List.map_cons, List.map_nil, List.mem_cons, List.not_mem_nil, or_false, false_or] at hx; omega))) ?_
 refine PQ.done (d := [((n + 2), some ⟨[(xCk73 c)], 16, 35, true⟩), ((n + 2), some ⟨[(xCk74 c)], 16, 35, true⟩)]) (by kernel_rfl) ?_
 intro _
 refine RA.weaken (D' := [((n + 2), some ⟨[(xCk73 c)], 16, 35, true⟩), ((n + 1), some ⟨[[(.int .u8 ((c0.toNat : Nat) : Int)), (.int .u8 ((c1.toNat : Nat) : Int))]], 2, 30, true⟩)]) hd (Less.of (fac (mm (fun _ => get_here) (fun _ => get_here)) (fac (mm (fun _ => (get_there (by omega) get_here)) (fun _ => (get_there (by omega) (get_there (by omega) (get_there (by omega) get_here))))) fan)) (gone_of (by simp only [goneP, memP, List.cons_append, List.nil_append, true_or, or_true, true_and, and_true, or_false] <;> omega))) ?_
 refine RA.rebase [(5, (.pointer (some ⟨(n + 1), 0, some 0⟩))), (7, (.string (key.extract 0 (min key.size 70)))), (8, (.pointer (some ⟨(n + 2), 0, some 0⟩)))] ⟨rfl, rfl, rfl, trivial⟩ (fun τr => ?_)
 exact suf10 hd (key.extract 0 (min key.size 70)) (by rw [size_cut _ _ _ (by omega)]; omega) c0 c1 (n + 1) (n + 2) (by omega) (by omega) (rk c) hm n2 (by omega) τr
end Go.Proofs.Ytdnkhdkflemkeaa.Vt
