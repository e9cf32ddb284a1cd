/- Ck2: walks through functions of the program, by the calculus; written by a program of this workplace. -/
import Derived.Test.YtdnkhdkflemkeaaCk1
import Derived.Test.YtdnkhdkflemkeaaVm5
namespace Go.Proofs.Ytdnkhdkflemkeaa.Vt
open Go Go.Proofs Go.Proofs.YtdnkhdkflemkeaaV
set_option maxRecDepth 100000
set_option linter.unusedVariables false
set_option linter.unusedSimpArgs false
def ckS (key : ByteArray) (c : Ck) : ByteArray := bstr (ckB c) ++ macF key (bstr (ckB c))
def ckOf (s : ByteArray) : CkI := ⟨IntKind.wrap .i64 ((at_ s 0 8 : Nat) : Int), w32 s 8, w32 s 12, w32 s 16, w32 s 20, w32 s 24, w32 s 28, (at_ s 32 2 : Nat), (at_ s 34 2 : Nat), w32 s 36, (at_ s 40 2 : Nat), (at_ s 42 2 : Nat), w32 s 44, w32 s 48, s.extract 52 (52 + 16), s.extract 68 (68 + 16)⟩
abbrev xCk21 (s : ByteArray) : List Value := [(.int .i64 (IntKind.wrap .i64 ((at_ s 0 8 : Nat) : Int))), (W (w32 s 8)), (W (w32 s 12)), (W (w32 s 16)), (W (w32 s 20)), (W (w32 s 24)), (W (w32 s 28)), (.int .i64 (((at_ s 32 2) : Nat) : Int)), (.int .i64 (((at_ s 34 2) : Nat) : Int)), (W (w32 s 36)), (.int .i64 (((at_ s 40 2) : Nat) : Int)), (.int .i64 (((at_ s 42 2) : Nat) : Int)), (W (w32 s 44)), (W (w32 s 48)), (.string (s.extract 52 (52 + 16))), (.string (s.extract 68 (68 + 16)))]
abbrev xCk22 (s : ByteArray) : List Value := [(.int .i64 (IntKind.wrap .i64 ((at_ s 0 8 : Nat) : Int))), (W (w32 s 8)), (W (w32 s 12)), (W (w32 s 16)), (W (w32 s 20)), (W (w32 s 24)), (W (w32 s 28)), (.int .i64 (((at_ s 32 2) : Nat) : Int)), (.int .i64 (((at_ s 34 2) : Nat) : Int)), (W (w32 s 36)), (.int .i64 (((at_ s 40 2) : Nat) : Int)), (.int .i64 (((at_ s 42 2) : Nat) : Int)), (.int .u32 0), (.int .u32 0), (.string ByteArray.empty), (.string ByteArray.empty)]
abbrev xCk23 (s : ByteArray) : List Value := [(.int .i64 (IntKind.wrap .i64 ((at_ s 0 8 : Nat) : Int))), (W (w32 s 8)), (W (w32 s 12)), (W (w32 s 16)), (W (w32 s 20)), (W (w32 s 24)), (W (w32 s 28)), (.int .i64 (((at_ s 32 2) : Nat) : Int)), (.int .i64 (((at_ s 34 2) : Nat) : Int)), (W (w32 s 36)), (.int .i64 (((at_ s 40 2) : Nat) : Int)), (.int .i64 0), (.int .u32 0), (.int .u32 0), (.string ByteArray.empty), (.string ByteArray.empty)]
abbrev xCk24 (s : ByteArray) : List Value := [(.int .i64 (IntKind.wrap .i64 ((at_ s 0 8 : Nat) : Int))), (W (w32 s 8)), (W (w32 s 12)), (W (w32 s 16)), (W (w32 s 20)), (W (w32 s 24)), (W (w32 s 28)), (.int .i64 (((at_ s 32 2) : Nat) : Int)), (.int .i64 (((at_ s 34 2) : Nat) : Int)), (W (w32 s 36)), (.int .i64 0), (.int .i64 0), (.int .u32 0), (.int .u32 0), (.string ByteArray.empty), (.string ByteArray.empty)]
abbrev xCk25 (s : ByteArray) : List Value := [(.int .i64 (IntKind.wrap .i64 ((at_ s 0 8 : Nat) : Int))), (W (w32 s 8)), (W (w32 s 12)), (W (w32 s 16)), (W (w32 s 20)), (W (w32 s 24)), (W (w32 s 28)), (.int .i64 (((at_ s 32 2) : Nat) : Int)), (.int .i64 0), (.int .u32 0), (.int .i64 0), (.int .i64 0), (.int .u32 0), (.int .u32 0), (.string ByteArray.empty), (.string ByteArray.empty)]
abbrev xCk26 (s : ByteArray) : List Value := [(.int .i64 (IntKind.wrap .i64 ((at_ s 0 8 : Nat) : Int))), (W (w32 s 8)), (W (w32 s 12)), (W (w32 s 16)), (W (w32 s 20)), (W (w32 s 24)), (W (w32 s 28)), (.int .i64 0), (.int .i64 0), (.int .u32 0), (.int .i64 0), (.int .i64 0), (.int .u32 0), (.int .u32 0), (.string ByteArray.empty), (.string ByteArray.empty)]
abbrev xCk27 (s : ByteArray) : List Value := [(.int .i64 (IntKind.wrap .i64 ((at_ s 0 8 : Nat) : Int))), (W (w32 s 8)), (W (w32 s 12)), (W (w32 s 16)), (W (w32 s 20)), (W (w32 s 24)), (.int .u32 0), (.int .i64 0), (.int .i64 0), (.int .u32 0), (.int .i64 0), (.int .i64 0), (.int .u32 0), (.int .u32 0), (.string ByteArray.empty), (.string ByteArray.empty)]
abbrev xCk28 (s : ByteArray) : List Value := [(.int .i64 (IntKind.wrap .i64 ((at_ s 0 8 : Nat) : Int))), (W (w32 s 8)), (W (w32 s 12)), (W (w32 s 16)), (W (w32 s 20)), (.int .u32 0), (.int .u32 0), (.int .i64 0), (.int .i64 0), (.int .u32 0), (.int .i64 0), (.int .i64 0), (.int .u32 0), (.int .u32 0), (.string ByteArray.empty), (.string ByteArray.empty)]
abbrev xCk29 (s : ByteArray) : List Value := [(.int .i64 (IntKind.wrap .i64 ((at_ s 0 8 : Nat) : Int))), (W (w32 s 8)), (W (w32 s 12)), (W (w32 s 16)), (W (w32 s 20)), (W (w32 s 24)), (W 0#32), (.int .i64 0), (.int .i64 0), (.int .u32 0), (.int .i64 0), (.int .i64 0), (.int .u32 0), (.int .u32 0), (.string ByteArray.empty), (.string ByteArray.empty)]
abbrev xCk210 (c : Ck) : List Value := [(.int .i64 ((c.made : Nat) : Int)), (W c.mine), (W c.yours), (W c.mt), (W c.yt), (W c.peer), (W c.loc), (.int .i64 ((c.pp : Nat) : Int)), (.int .i64 ((c.mp : Nat) : Int)), (W c.rwnd), (.int .i64 ((c.ou : Nat) : Int)), (.int .i64 ((c.inn : Nat) : Int)), (W c.tm), (W c.ty), (.string c.mr), (.string c.rn)]
abbrev xCk211 (s : ByteArray) : List Value := [(.int .i64 (IntKind.wrap .i64 ((at_ s 0 8 : Nat) : Int))), (W (w32 s 8)), (W (w32 s 12)), (W (w32 s 16)), (W 0#32), (.int .u32 0), (.int .u32 0), (.int .i64 0), (.int .i64 0), (.int .u32 0), (.int .i64 0), (.int .i64 0), (.int .u32 0), (.int .u32 0), (.string ByteArray.empty), (.string ByteArray.empty)]
abbrev xCk212 (s : ByteArray) : List Value := [(.int .i64 (IntKind.wrap .i64 ((at_ s 0 8 : Nat) : Int))), (W (w32 s 8)), (W (w32 s 12)), (W (w32 s 16)), (W (w32 s 20)), (W 0#32), (W 0#32), (.int .i64 0), (.int .i64 0), (.int .u32 0), (.int .i64 0), (.int .i64 0), (.int .u32 0), (.int .u32 0), (.string ByteArray.empty), (.string ByteArray.empty)]
abbrev xCk213 (s : ByteArray) : List Value := [(.int .i64 (IntKind.wrap .i64 ((at_ s 0 8 : Nat) : Int))), (W (w32 s 8)), (W (w32 s 12)), (W 0#32), (W 0#32), (.int .u32 0), (.int .u32 0), (.int .i64 0), (.int .i64 0), (.int .u32 0), (.int .i64 0), (.int .i64 0), (.int .u32 0), (.int .u32 0), (.string ByteArray.empty), (.string ByteArray.empty)]
abbrev xCk214 (s : ByteArray) : List Value := [(.int .i64 (IntKind.wrap .i64 ((at_ s 0 8 : Nat) : Int))), (W (w32 s 8)), (W 0#32), (W 0#32), (W 0#32), (.int .u32 0), (.int .u32 0), (.int .i64 0), (.int .i64 0), (.int .u32 0), (.int .i64 0), (.int .i64 0), (.int .u32 0), (.int .u32 0), (.string ByteArray.empty), (.string ByteArray.empty)]
abbrev xCk215 (s : ByteArray) : List Value := [(.int .i64 (IntKind.wrap .i64 ((at_ s 0 8 : Nat) : Int))), (W 0#32), (W 0#32), (W 0#32), (W 0#32), (.int .u32 0), (.int .u32 0), (.int .i64 0), (.int .i64 0), (.int .u32 0), (.int .i64 0), (.int .i64 0), (.int .u32 0), (.int .u32 0), (.string ByteArray.empty), (.string ByteArray.empty)]
abbrev xCk216 : List Value := [(.int .i64 0), (.int .u32 0), (.int .u32 0), (.int .u32 0), (.int .u32 0), (.int .u32 0), (.int .u32 0), (.int .i64 0), (.int .i64 0), (.int .u32 0), (.int .i64 0), (.int .i64 0), (.int .u32 0), (.int .u32 0), (.string ByteArray.empty), (.string ByteArray.empty)]
abbrev xCk217 : List Value := [(.int .i64 0), (W 0#32), (W 0#32), (W 0#32), (W 0#32), (.int .u32 0), (.int .u32 0), (.int .i64 0), (.int .i64 0), (.int .u32 0), (.int .i64 0), (.int .i64 0), (.int .u32 0), (.int .u32 0), (.string ByteArray.empty), (.string ByteArray.empty)]
abbrev xCk218 (c : CkI) : List Value := [(.int .i64 c.made), (W c.mine), (W c.yours), (W c.mt), (W c.yt), (W c.peer), (W c.loc), (.int .i64 c.pp), (.int .i64 c.mp), (W c.rwnd), (.int .i64 c.ou), (.int .i64 c.inn), (W c.tm), (W c.ty), (.string c.mr), (.string c.rn)]
theorem s22 {σ : Store} (key : ByteArray) (hk : key.size < 4294967296) (c : Ck) (h : MayN c) (hm : c.made < 9223372036854775808)   : PS Try.prog noDen 22 [(.string key), (.agg ⟨[(.int .i64 ((c.made : Nat) : Int)), (W c.mine), (W c.yours), (W c.mt), (W c.yt), (W c.peer), (W c.loc), (.int .i64 ((c.pp : Nat) : Int)), (.int .i64 ((c.mp : Nat) : Int)), (W c.rwnd), (.int .i64 ((c.ou : Nat) : Int)), (.int .i64 ((c.inn : Nat) : Int)), (W c.tm), (W c.ty), (.string c.mr), (.string c.rn)]⟩)] σ (.string (ckS key c)) := by
 refine PS.body (E := env) env_ok rfl rfl (by show _ ≤ _; exact of_decide_eq_true (by kernel_rfl)) (fun n hd => ?_)
 refine RA.seq hd ?_
 refine RA.region env_ok ?_
 refine OA.op1 (dst := (some 3)) (v := (Pt n 0 0)) (n1 := (n + 1)) (w := (n, some ⟨[(xCk210 c)], 16, 35, true⟩)) rfl rfl rfl rfl (by omega) ?_
 refine OA.pure (dst := (some 4)) (v := (.string (ByteArray.mk #[]))) rfl rfl rfl rfl ?_
 refine OA.nil ?_
 intro _
 refine RA.seq hd ?_
 refine RA.region env_ok ?_
 refine OA.pure (dst := (some 6)) (v := (.agg ⟨(xCk210 c)⟩)) rfl rfl rfl (r_loadA rfl rfl rfl rfl get_here rfl rfl rfl) ?_
 refine OA.callP (dst := (some 7)) (all := [(.agg ⟨(xCk210 c)⟩)]) (v := (.string (bstr (ckB c)))) (hd.of (by omega) (kb1 (by omega))) rfl rfl rfl rfl rfl rfl rfl rfl (s25 c h hm) ?_
 intro n1 hn1
 refine OA.pure (dst := (some 5)) (v := (.string (bstr (ckB c)))) rfl rfl rfl rfl ?_
 refine OA.nil ?_
 intro _
 refine RA.seq hd ?_
 refine RA.seq hd ?_
 refine RA.region env_ok ?_
 refine OA.pure (dst := (some 8)) (v := (.string (bstr (ckB c)))) rfl rfl rfl rfl ?_
 by_cases hc1 : (bstr (ckB c)) = (ByteArray.mk #[])
 · exfalso; have hz := congrArg ByteArray.size hc1; rw [bstr_size, ckB_len c h] at hz; exact absurd hz (by decide)
 ·
  refine OA.pure (dst := (some 9)) (v := (.bool false)) rfl rfl rfl (Eq.trans (r_eqlS rfl rfl rfl) (by first | (rw [decide_eq_false hc1]; done) | (rw [decide_eq_false hc1]; rfl))) ?_
  refine OA.nil ?_
  intro _
  refine RA.cond (t := false) rfl (fun hc => ?_) (fun hc => ?_)
  · cases hc
  ·
   refine RA.skip env_ok ?_
   intro _
   refine RA.seq hd ?_
   refine RA.region env_ok ?_
   refine OA.pure (dst := (some 10)) (v := (.string (bstr (ckB c)))) rfl rfl rfl rfl ?_
   refine OA.pure (dst := (some 11)) (v := (.string key)) rfl rfl rfl rfl ?_
   refine OA.pure (dst := (some 12)) (v := (.string (bstr (ckB c)))) rfl rfl rfl rfl ?_
   refine OA.callP (dst := (some 13)) (all := [(.string key), (.string (bstr (ckB c)))]) (v := (.string (macF key (bstr (ckB c))))) (hd.of (by omega) (kb1 (by omega))) rfl rfl rfl rfl rfl rfl rfl rfl (s18 key (bstr (ckB c)) hk (by rw [bstr_size, ckB_len c h]; omega)) ?_
   intro n2 hn2
   refine OA.pure (dst := (some 14)) (v := (.string ((bstr (ckB c)) ++ (macF key (bstr (ckB c)))))) rfl rfl rfl (r_cat rfl rfl rfl (by (try simp only [ByteArray.size_append, bstr_size, size_lit, List.size_toArray, List.length_cons, List.length_nil, List.length_take, List.length_drop, List.length_replicate, ckB_len c h, macF_size]); try omega)) ?_
   refine OA.pure (dst := (some 4)) (v := (.string ((bstr (ckB c)) ++ (macF key (bstr (ckB c)))))) rfl rfl rfl rfl ?_
   refine OA.nil ?_
   intro _
   refine RA.ret env_ok ?_
   refine ⟨.inr rfl, [(.string ((bstr (ckB c)) ++ (macF key (bstr (ckB c)))))], (resL_cons rfl resL_nil), rfl, (kc1 (by omega))⟩

theorem s22Z {σ : Store} (key : ByteArray) (c : CkI) (h : ¬ MayI c)   : PS Try.prog noDen 22 [(.string key), (.agg ⟨[(.int .i64 c.made), (W c.mine), (W c.yours), (W c.mt), (W c.yt), (W c.peer), (W c.loc), (.int .i64 c.pp), (.int .i64 c.mp), (W c.rwnd), (.int .i64 c.ou), (.int .i64 c.inn), (W c.tm), (W c.ty), (.string c.mr), (.string c.rn)]⟩)] σ (.string (ByteArray.mk #[])) := by
 refine PS.body (E := env) env_ok rfl rfl (by show _ ≤ _; exact of_decide_eq_true (by kernel_rfl)) (fun n hd => ?_)
 refine RA.seq hd ?_
 refine RA.region env_ok ?_
 refine OA.op1 (dst := (some 3)) (v := (Pt n 0 0)) (n1 := (n + 1)) (w := (n, some ⟨[(xCk218 c)], 16, 35, true⟩)) rfl rfl rfl rfl (by omega) ?_
 refine OA.pure (dst := (some 4)) (v := (.string (ByteArray.mk #[]))) rfl rfl rfl rfl ?_
 refine OA.nil ?_
 intro _
 refine RA.seq hd ?_
 refine RA.region env_ok ?_
 refine OA.pure (dst := (some 6)) (v := (.agg ⟨(xCk218 c)⟩)) rfl rfl rfl (r_loadA rfl rfl rfl rfl get_here rfl rfl rfl) ?_
 refine OA.callP (dst := (some 7)) (all := [(.agg ⟨(xCk218 c)⟩)]) (v := (.string (ByteArray.mk #[]))) (hd.of (by omega) (kb1 (by omega))) rfl rfl rfl rfl rfl rfl rfl rfl (s25Z c h) ?_
 intro n1 hn1
 refine OA.pure (dst := (some 5)) (v := (.string (ByteArray.mk #[]))) rfl rfl rfl rfl ?_
 refine OA.nil ?_
 intro _
 refine RA.seq hd ?_
 refine RA.seq hd ?_
 refine RA.region env_ok ?_
 refine OA.pure (dst := (some 8)) (v := (.string (ByteArray.mk #[]))) rfl rfl rfl rfl ?_
 refine OA.pure (dst := (some 9)) (v := (.bool true)) rfl rfl rfl (Eq.trans (r_eqlS rfl rfl rfl) (by rw [decide_eq_true rfl] <;> rfl)) ?_
 refine OA.nil ?_
 intro _
 refine RA.cond (t := true) rfl (fun hc => ?_) (fun hc => ?_)
 ·
  refine RA.seq hd ?_
  refine RA.region env_ok ?_
  refine OA.pure (dst := (some 4)) (v := (.string (ByteArray.mk #[]))) rfl rfl rfl rfl ?_
  refine OA.nil ?_
  intro _
  refine RA.ret env_ok ?_
  refine ⟨.inr rfl, [(.string (ByteArray.mk #[]))], (resL_cons rfl resL_nil), rfl, (kc1 (by omega))⟩
 · cases hc

theorem s24 {σ : Store} (key : ByteArray) (hk : key.size < 4294967296) (c : Ck) (h : MayN c) (hm : c.made < 9223372036854775808)   : PS Try.prog noDen 24 [(.string key), (.agg ⟨[(.int .i64 ((c.made : Nat) : Int)), (W c.mine), (W c.yours), (W c.mt), (W c.yt), (W c.peer), (W c.loc), (.int .i64 ((c.pp : Nat) : Int)), (.int .i64 ((c.mp : Nat) : Int)), (W c.rwnd), (.int .i64 ((c.ou : Nat) : Int)), (.int .i64 ((c.inn : Nat) : Int)), (W c.tm), (W c.ty), (.string c.mr), (.string c.rn)]⟩)] σ (.string (ckS key c)) := by
 refine PS.body (E := env) env_ok rfl rfl (by show _ ≤ _; exact of_decide_eq_true (by kernel_rfl)) (fun n hd => ?_)
 refine RA.seq hd ?_
 refine RA.region env_ok ?_
 refine OA.op1 (dst := (some 3)) (v := (Pt n 0 0)) (n1 := (n + 1)) (w := (n, some ⟨[(xCk210 c)], 16, 35, true⟩)) rfl rfl rfl rfl (by omega) ?_
 refine OA.pure (dst := (some 4)) (v := (.string (ByteArray.mk #[]))) rfl rfl rfl rfl ?_
 refine OA.nil ?_
 intro _
 refine RA.seq hd ?_
 refine RA.region env_ok ?_
 refine OA.pure (dst := (some 6)) (v := (.agg ⟨(xCk210 c)⟩)) rfl rfl rfl (r_loadA rfl rfl rfl rfl get_here rfl rfl rfl) ?_
 refine OA.callP (dst := (some 7)) (all := [(.agg ⟨(xCk210 c)⟩)]) (v := (.string (bstr (ckB c)))) (hd.of (by omega) (kb1 (by omega))) rfl rfl rfl rfl rfl rfl rfl rfl (s26 c h hm) ?_
 intro n1 hn1
 refine OA.pure (dst := (some 5)) (v := (.string (bstr (ckB c)))) rfl rfl rfl rfl ?_
 refine OA.nil ?_
 intro _
 refine RA.seq hd ?_
 refine RA.seq hd ?_
 refine RA.region env_ok ?_
 refine OA.pure (dst := (some 8)) (v := (.string (bstr (ckB c)))) rfl rfl rfl rfl ?_
 by_cases hc1 : (bstr (ckB c)) = (ByteArray.mk #[])
 · exfalso; have hz := congrArg ByteArray.size hc1; rw [bstr_size, ckB_len c h] at hz; exact absurd hz (by decide)
 ·
  refine OA.pure (dst := (some 9)) (v := (.bool false)) rfl rfl rfl (Eq.trans (r_eqlS rfl rfl rfl) (by first | (rw [decide_eq_false hc1]; done) | (rw [decide_eq_false hc1]; rfl))) ?_
  refine OA.nil ?_
  intro _
  refine RA.cond (t := false) rfl (fun hc => ?_) (fun hc => ?_)
  · cases hc
  ·
   refine RA.skip env_ok ?_
   intro _
   refine RA.seq hd ?_
   refine RA.region env_ok ?_
   refine OA.pure (dst := (some 10)) (v := (.string (bstr (ckB c)))) rfl rfl rfl rfl ?_
   refine OA.pure (dst := (some 11)) (v := (.string key)) rfl rfl rfl rfl ?_
   refine OA.pure (dst := (some 12)) (v := (.string (bstr (ckB c)))) rfl rfl rfl rfl ?_
   refine OA.callP (dst := (some 13)) (all := [(.string key), (.string (bstr (ckB c)))]) (v := (.string (macF key (bstr (ckB c))))) (hd.of (by omega) (kb1 (by omega))) rfl rfl rfl rfl rfl rfl rfl rfl (s19 key (bstr (ckB c)) hk (by rw [bstr_size, ckB_len c h]; omega)) ?_
   intro n2 hn2
   refine OA.pure (dst := (some 14)) (v := (.string ((bstr (ckB c)) ++ (macF key (bstr (ckB c)))))) rfl rfl rfl (r_cat rfl rfl rfl (by (try simp only [ByteArray.size_append, bstr_size, size_lit, List.size_toArray, List.length_cons, List.length_nil, List.length_take, List.length_drop, List.length_replicate, ckB_len c h, macF_size]); try omega)) ?_
   refine OA.pure (dst := (some 4)) (v := (.string ((bstr (ckB c)) ++ (macF key (bstr (ckB c)))))) rfl rfl rfl rfl ?_
   refine OA.nil ?_
   intro _
   refine RA.ret env_ok ?_
   refine ⟨.inr rfl, [(.string ((bstr (ckB c)) ++ (macF key (bstr (ckB c)))))], (resL_cons rfl resL_nil), rfl, (kc1 (by omega))⟩

theorem s24Z {σ : Store} (key : ByteArray) (c : CkI) (h : ¬ MayI c)   : PS Try.prog noDen 24 [(.string key), (.agg ⟨[(.int .i64 c.made), (W c.mine), (W c.yours), (W c.mt), (W c.yt), (W c.peer), (W c.loc), (.int .i64 c.pp), (.int .i64 c.mp), (W c.rwnd), (.int .i64 c.ou), (.int .i64 c.inn), (W c.tm), (W c.ty), (.string c.mr), (.string c.rn)]⟩)] σ (.string (ByteArray.mk #[])) := by
 refine PS.body (E := env) env_ok rfl rfl (by show _ ≤ _; exact of_decide_eq_true (by kernel_rfl)) (fun n hd => ?_)
 refine RA.seq hd ?_
 refine RA.region env_ok ?_
 refine OA.op1 (dst := (some 3)) (v := (Pt n 0 0)) (n1 := (n + 1)) (w := (n, some ⟨[(xCk218 c)], 16, 35, true⟩)) rfl rfl rfl rfl (by omega) ?_
 refine OA.pure (dst := (some 4)) (v := (.string (ByteArray.mk #[]))) rfl rfl rfl rfl ?_
 refine OA.nil ?_
 intro _
 refine RA.seq hd ?_
 refine RA.region env_ok ?_
 refine OA.pure (dst := (some 6)) (v := (.agg ⟨(xCk218 c)⟩)) rfl rfl rfl (r_loadA rfl rfl rfl rfl get_here rfl rfl rfl) ?_
 refine OA.callP (dst := (some 7)) (all := [(.agg ⟨(xCk218 c)⟩)]) (v := (.string (ByteArray.mk #[]))) (hd.of (by omega) (kb1 (by omega))) rfl rfl rfl rfl rfl rfl rfl rfl (s26Z c h) ?_
 intro n1 hn1
 refine OA.pure (dst := (some 5)) (v := (.string (ByteArray.mk #[]))) rfl rfl rfl rfl ?_
 refine OA.nil ?_
 intro _
 refine RA.seq hd ?_
 refine RA.seq hd ?_
 refine RA.region env_ok ?_
 refine OA.pure (dst := (some 8)) (v := (.string (ByteArray.mk #[]))) rfl rfl rfl rfl ?_
 refine OA.pure (dst := (some 9)) (v := (.bool true)) rfl rfl rfl (Eq.trans (r_eqlS rfl rfl rfl) (by rw [decide_eq_true rfl] <;> rfl)) ?_
 refine OA.nil ?_
 intro _
 refine RA.cond (t := true) rfl (fun hc => ?_) (fun hc => ?_)
 ·
  refine RA.seq hd ?_
  refine RA.region env_ok ?_
  refine OA.pure (dst := (some 4)) (v := (.string (ByteArray.mk #[]))) rfl rfl rfl rfl ?_
  refine OA.nil ?_
  intro _
  refine RA.ret env_ok ?_
  refine ⟨.inr rfl, [(.string (ByteArray.mk #[]))], (resL_cons rfl resL_nil), rfl, (kc1 (by omega))⟩
 · cases hc

theorem sd6 {n : Nat} {σ : Store} (hd : Dom n σ) (p2 r p5 : Nat) (u : ByteArray) (v0 v1 v2 v3 v4 v5 v6 v7 v8 v9 v10 v11 v12 v13 v14 v15 : Value) (g1 : n ≤ p2) (g2 : p2 < r) (g3 : r < p5) (m0 : Nat) (hm0 : p5 + 1 ≤ m0) (τ0 : Tm) : RA Try.prog env n σ Try.f47.ntmps (right 6 (Try.f47.body.getD .skip)) (upds τ0 [(2, (Pt p2 0 0)), (3, (.int .i64 0)), (4, (Pt r 0 0)), (5, (Pt p5 0 0))]) m0 [(p2, some ⟨[[(.int .i64 0), (.int .u32 0), (.int .u32 0), (.int .u32 0), (.int .u32 0), (.int .u32 0), (.int .u32 0), (.int .i64 0), (.int .i64 0), (.int .u32 0), (.int .i64 0), (.int .i64 0), (.int .u32 0), (.int .u32 0), (.string ByteArray.empty), (.string ByteArray.empty)]], 16, 35, true⟩), (r, some ⟨[[(.string u), (.int .i64 2)]], 2, 106, true⟩), (p5, some ⟨[[v0, v1, v2, v3, v4, v5, v6, v7, v8, v9, v10, v11, v12, v13, v14, v15]], 16, 35, true⟩)] (fun x τ' n' D => (x = .normal ∨ x = .ret) ∧ ∃ vs, resL env τ' (app D σ) Try.f47.results.toList = some vs ∧ one vs = (.tuple #[(.agg ⟨[(.int .i64 0), (.int .u32 0), (.int .u32 0), (.int .u32 0), (.int .u32 0), (.int .u32 0), (.int .u32 0), (.int .i64 0), (.int .i64 0), (.int .u32 0), (.int .i64 0), (.int .i64 0), (.int .u32 0), (.int .u32 0), (.string ByteArray.empty), (.string ByteArray.empty)]⟩), .int .i64 2]) ∧ ∀ i ∈ keys D, n ≤ i ∧ i < n') := by
 refine RA.seq hd ?_
 refine RA.seq hd ?_
 refine RA.region env_ok ?_
 refine OA.pure (dst := (some 54)) (v := (Pt r 0 0)) rfl rfl rfl rfl ?_
 refine OA.call (dst := (some 55)) (all := [(Pt r 0 0)]) rfl rfl rfl rfl rfl rfl rfl rfl (CQ.imp (rEndD (hd.of (by omega) (kb3 (by omega))) r _ (get_there (by omega) get_here)) ?_)
 rintro _ n1 _ ⟨rfl, rfl⟩ hn1
 refine OA.app0 ?_
 refine OA.pure (dst := (some 6)) (v := (.int .i64 2)) rfl rfl rfl rfl ?_
 refine OA.nil ?_
 intro _
 refine RA.seq hd ?_
 refine RA.region env_ok ?_
 refine OA.pure (dst := (some 56)) (v := (.int .i64 2)) rfl rfl rfl rfl ?_
 refine OA.pure (dst := (some 57)) (v := (.bool true)) rfl rfl rfl (r_bin rfl rfl rfl (b_neq rfl)) ?_
 refine OA.nil ?_
 intro _
 refine RA.cond (t := true) rfl (fun hc => ?_) (fun hc => ?_)
 ·
  refine RA.seq hd ?_
  refine RA.region env_ok ?_
  refine OA.pure (dst := (some 58)) (v := (.agg ⟨xCk216⟩)) rfl rfl rfl (by kernel_rfl) ?_
  refine OA.pure (dst := (some 59)) (v := (.int .i64 2)) rfl rfl rfl rfl ?_
  refine OA.op1 (dst := none) (v := (.tuple #[])) (n1 := n1) (w := (p2, some ⟨[xCk216], 16, 35, true⟩)) rfl rfl rfl (r_store rfl rfl rfl rfl rfl rfl rfl get_here rfl rfl (Nat.le_of_ble_eq_true rfl) rfl) (by omega) ?_
  refine OA.pure (dst := (some 3)) (v := (.int .i64 2)) rfl rfl rfl rfl ?_
  refine OA.nil ?_
  intro _
  refine RA.weaken (D' := [(p2, some ⟨[xCk216], 16, 35, true⟩), (r, some ⟨[[(.string u), (.int .i64 2)]], 2, 106, true⟩), (p5, some ⟨[[v0, v1, v2, v3, v4, v5, v6, v7, v8, v9, v10, v11, v12, v13, v14, v15]], 16, 35, true⟩)]) hd (Less.of (fac (mm (fun _ => get_here) (fun _ => get_here)) (fac (mm (fun _ => (get_there (by omega) get_here)) (fun _ => (get_there (by omega) (get_there (by omega) get_here)))) (fac (mm (fun _ => (get_there (by omega) (get_there (by omega) get_here))) (fun _ => (get_there (by omega) (get_there (by omega) (get_there (by omega) get_here))))) fan))) (gone_of (by simp only [goneP, memP, List.cons_append, List.nil_append, true_or, or_true, true_and, and_true, or_false] <;> omega))) ?_
  refine RA.ret env_ok ?_
  refine ⟨.inr rfl, [(.agg ⟨xCk216⟩), (.int .i64 2)], (resL_cons (res_cellA rfl rfl rfl get_here rfl rfl rfl) (resL_cons rfl resL_nil)), rfl, (kc3 (by omega))⟩
 · cases hc

theorem sd5 {n : Nat} {σ : Store} (hd : Dom n σ) (p2 r p5 : Nat) (u : ByteArray) (v0 v1 v2 v3 v4 v5 v6 v7 v8 v9 v10 v11 v12 v13 v14 v15 : Value) (g1 : n ≤ p2) (g2 : p2 < r) (g3 : r < p5) (m0 : Nat) (hm0 : p5 + 1 ≤ m0) (τ0 : Tm) : RA Try.prog env n σ Try.f47.ntmps (right 5 (Try.f47.body.getD .skip)) (upds τ0 [(2, (Pt p2 0 0)), (3, (.int .i64 0)), (4, (Pt r 0 0)), (5, (Pt p5 0 0))]) m0 [(p2, some ⟨[[(.int .i64 0), (.int .u32 0), (.int .u32 0), (.int .u32 0), (.int .u32 0), (.int .u32 0), (.int .u32 0), (.int .i64 0), (.int .i64 0), (.int .u32 0), (.int .i64 0), (.int .i64 0), (.int .u32 0), (.int .u32 0), (.string ByteArray.empty), (.string ByteArray.empty)]], 16, 35, true⟩), (r, some ⟨[[(.string u), (.int .i64 2)]], 2, 106, true⟩), (p5, some ⟨[[v0, v1, v2, v3, v4, v5, v6, v7, v8, v9, v10, v11, v12, v13, v14, v15]], 16, 35, true⟩)] (fun x τ' n' D => (x = .normal ∨ x = .ret) ∧ ∃ vs, resL env τ' (app D σ) Try.f47.results.toList = some vs ∧ one vs = (.tuple #[(.agg ⟨[(.int .i64 0), (.int .u32 0), (.int .u32 0), (.int .u32 0), (.int .u32 0), (.int .u32 0), (.int .u32 0), (.int .i64 0), (.int .i64 0), (.int .u32 0), (.int .i64 0), (.int .i64 0), (.int .u32 0), (.int .u32 0), (.string ByteArray.empty), (.string ByteArray.empty)]⟩), .int .i64 2]) ∧ ∀ i ∈ keys D, n ≤ i ∧ i < n') := by
 refine RA.seq hd ?_
 refine RA.region env_ok ?_
 refine OA.pure (dst := (some 48)) (v := (Pt r 0 0)) rfl rfl rfl rfl ?_
 refine OA.call (dst := (some 49)) (all := [(Pt r 0 0), (.int .i64 16)]) rfl rfl rfl rfl rfl rfl rfl rfl (CQ.imp (rTakeD (hd.of (by omega) (kb3 (by omega))) r _ 16 (get_there (by omega) get_here)) ?_)
 rintro _ n1 _ ⟨rfl, rfl⟩ hn1
 refine OA.app0 ?_
 refine OA.pure (dst := (some 50)) (v := (Pt r 0 0)) rfl rfl rfl rfl ?_
 refine OA.call (dst := (some 51)) (all := [(Pt r 0 0), (.int .i64 16)]) rfl rfl rfl rfl rfl rfl rfl rfl (CQ.imp (rTakeD (hd.of (by omega) (kb3 (by omega))) r _ 16 (get_there (by omega) get_here)) ?_)
 rintro _ n2 _ ⟨rfl, rfl⟩ hn2
 refine OA.app0 ?_
 refine OA.pure (dst := (some 52)) (v := (Pt p5 0 14)) rfl rfl rfl rfl ?_
 refine OA.op1 (dst := none) (v := (.tuple #[])) (n1 := n2) (w := (p5, some ⟨[[v0, v1, v2, v3, v4, v5, v6, v7, v8, v9, v10, v11, v12, v13, (.string (ByteArray.mk #[])), v15]], 16, 35, true⟩)) rfl rfl rfl (r_store rfl rfl rfl rfl rfl rfl rfl (get_there (by omega) (get_there (by omega) get_here)) rfl rfl (Nat.le_of_ble_eq_true rfl) rfl) (by omega) ?_
 refine OA.pure (dst := (some 53)) (v := (Pt p5 0 15)) rfl rfl rfl rfl ?_
 refine OA.op1 (dst := none) (v := (.tuple #[])) (n1 := n2) (w := (p5, some ⟨[[v0, v1, v2, v3, v4, v5, v6, v7, v8, v9, v10, v11, v12, v13, (.string (ByteArray.mk #[])), (.string (ByteArray.mk #[]))]], 16, 35, true⟩)) rfl rfl rfl (r_store rfl rfl rfl rfl rfl rfl rfl get_here rfl rfl (Nat.le_of_ble_eq_true rfl) rfl) (by omega) ?_
 refine OA.nil ?_
 intro _
 refine RA.weaken (D' := [(p2, some ⟨[xCk216], 16, 35, true⟩), (r, some ⟨[[(.string u), (.int .i64 2)]], 2, 106, true⟩), (p5, some ⟨[[v0, v1, v2, v3, v4, v5, v6, v7, v8, v9, v10, v11, v12, v13, (.string (ByteArray.mk #[])), (.string (ByteArray.mk #[]))]], 16, 35, true⟩)]) hd (Less.of (fac (mm (fun _ => get_here) (fun _ => (get_there (by omega) (get_there (by omega) get_here)))) (fac (mm (fun _ => (get_there (by omega) get_here)) (fun _ => (get_there (by omega) (get_there (by omega) (get_there (by omega) get_here))))) (fac (mm (fun _ => (get_there (by omega) (get_there (by omega) get_here))) (fun _ => get_here)) fan))) (gone_of (by simp only [goneP, memP, List.cons_append, List.nil_append, true_or, or_true, true_and, and_true, or_false] <;> omega))) ?_
 refine RA.rebase [(2, (Pt p2 0 0)), (3, (.int .i64 0)), (4, (Pt r 0 0)), (5, (Pt p5 0 0))] ⟨rfl, rfl, rfl, rfl, trivial⟩ (fun τr => ?_)
 exact sd6 hd p2 r p5 u v0 v1 v2 v3 v4 v5 v6 v7 v8 v9 v10 v11 v12 v13 (.string (ByteArray.mk #[])) (.string (ByteArray.mk #[])) (by omega) (by omega) (by omega) n2 (by omega) τr

theorem sd4 {n : Nat} {σ : Store} (hd : Dom n σ) (p2 r p5 : Nat) (u : ByteArray) (v0 v1 v2 v3 v4 v5 v6 v7 v8 v9 v10 v11 v12 v13 v14 v15 : Value) (g1 : n ≤ p2) (g2 : p2 < r) (g3 : r < p5) (m0 : Nat) (hm0 : p5 + 1 ≤ m0) (τ0 : Tm) : RA Try.prog env n σ Try.f47.ntmps (right 4 (Try.f47.body.getD .skip)) (upds τ0 [(2, (Pt p2 0 0)), (3, (.int .i64 0)), (4, (Pt r 0 0)), (5, (Pt p5 0 0))]) m0 [(p2, some ⟨[[(.int .i64 0), (.int .u32 0), (.int .u32 0), (.int .u32 0), (.int .u32 0), (.int .u32 0), (.int .u32 0), (.int .i64 0), (.int .i64 0), (.int .u32 0), (.int .i64 0), (.int .i64 0), (.int .u32 0), (.int .u32 0), (.string ByteArray.empty), (.string ByteArray.empty)]], 16, 35, true⟩), (r, some ⟨[[(.string u), (.int .i64 2)]], 2, 106, true⟩), (p5, some ⟨[[v0, v1, v2, v3, v4, v5, v6, v7, v8, v9, v10, v11, v12, v13, v14, v15]], 16, 35, true⟩)] (fun x τ' n' D => (x = .normal ∨ x = .ret) ∧ ∃ vs, resL env τ' (app D σ) Try.f47.results.toList = some vs ∧ one vs = (.tuple #[(.agg ⟨[(.int .i64 0), (.int .u32 0), (.int .u32 0), (.int .u32 0), (.int .u32 0), (.int .u32 0), (.int .u32 0), (.int .i64 0), (.int .i64 0), (.int .u32 0), (.int .i64 0), (.int .i64 0), (.int .u32 0), (.int .u32 0), (.string ByteArray.empty), (.string ByteArray.empty)]⟩), .int .i64 2]) ∧ ∀ i ∈ keys D, n ≤ i ∧ i < n') := by
 refine RA.seq hd ?_
 refine RA.region env_ok ?_
 refine OA.pure (dst := (some 36)) (v := (Pt r 0 0)) rfl rfl rfl rfl ?_
 refine OA.call (dst := (some 37)) (all := [(Pt r 0 0)]) rfl rfl rfl rfl rfl rfl rfl rfl (CQ.imp (rU16D (hd.of (by omega) (kb3 (by omega))) r _ 0 (get_there (by omega) get_here)) ?_)
 rintro _ n1 _ ⟨rfl, rfl⟩ hn1
 refine OA.app0 ?_
 refine OA.pure (dst := (some 38)) (v := (Pt r 0 0)) rfl rfl rfl rfl ?_
 refine OA.call (dst := (some 39)) (all := [(Pt r 0 0)]) rfl rfl rfl rfl rfl rfl rfl rfl (CQ.imp (rU16D (hd.of (by omega) (kb3 (by omega))) r _ 0 (get_there (by omega) get_here)) ?_)
 rintro _ n2 _ ⟨rfl, rfl⟩ hn2
 refine OA.app0 ?_
 refine OA.pure (dst := (some 40)) (v := (Pt r 0 0)) rfl rfl rfl rfl ?_
 refine OA.call (dst := (some 41)) (all := [(Pt r 0 0)]) rfl rfl rfl rfl rfl rfl rfl rfl (CQ.imp (rU32D (hd.of (by omega) (kb3 (by omega))) r _ 0 (get_there (by omega) get_here)) ?_)
 rintro _ n3 _ ⟨rfl, rfl⟩ hn3
 refine OA.app0 ?_
 refine OA.pure (dst := (some 42)) (v := (Pt r 0 0)) rfl rfl rfl rfl ?_
 refine OA.call (dst := (some 43)) (all := [(Pt r 0 0)]) rfl rfl rfl rfl rfl rfl rfl rfl (CQ.imp (rU32D (hd.of (by omega) (kb3 (by omega))) r _ 0 (get_there (by omega) get_here)) ?_)
 rintro _ n4 _ ⟨rfl, rfl⟩ hn4
 refine OA.app0 ?_
 refine OA.pure (dst := (some 44)) (v := (Pt p5 0 10)) rfl rfl rfl rfl ?_
 refine OA.op1 (dst := none) (v := (.tuple #[])) (n1 := n4) (w := (p5, some ⟨[[v0, v1, v2, v3, v4, v5, v6, v7, v8, v9, (.int .i64 0), v11, v12, v13, v14, v15]], 16, 35, true⟩)) rfl rfl rfl (r_store rfl rfl rfl rfl rfl rfl rfl (get_there (by omega) (get_there (by omega) get_here)) rfl rfl (Nat.le_of_ble_eq_true rfl) rfl) (by omega) ?_
 refine OA.pure (dst := (some 45)) (v := (Pt p5 0 11)) rfl rfl rfl rfl ?_
 refine OA.op1 (dst := none) (v := (.tuple #[])) (n1 := n4) (w := (p5, some ⟨[[v0, v1, v2, v3, v4, v5, v6, v7, v8, v9, (.int .i64 0), (.int .i64 0), v12, v13, v14, v15]], 16, 35, true⟩)) rfl rfl rfl (r_store rfl rfl rfl rfl rfl rfl rfl get_here rfl rfl (Nat.le_of_ble_eq_true rfl) rfl) (by omega) ?_
 refine OA.pure (dst := (some 46)) (v := (Pt p5 0 12)) rfl rfl rfl rfl ?_
 refine OA.op1 (dst := none) (v := (.tuple #[])) (n1 := n4) (w := (p5, some ⟨[[v0, v1, v2, v3, v4, v5, v6, v7, v8, v9, (.int .i64 0), (.int .i64 0), (W 0#32), v13, v14, v15]], 16, 35, true⟩)) rfl rfl rfl (r_store rfl rfl rfl rfl rfl rfl rfl get_here rfl rfl (Nat.le_of_ble_eq_true rfl) rfl) (by omega) ?_
 refine OA.pure (dst := (some 47)) (v := (Pt p5 0 13)) rfl rfl rfl rfl ?_
 refine OA.op1 (dst := none) (v := (.tuple #[])) (n1 := n4) (w := (p5, some ⟨[[v0, v1, v2, v3, v4, v5, v6, v7, v8, v9, (.int .i64 0), (.int .i64 0), (W 0#32), (W 0#32), v14, v15]], 16, 35, true⟩)) rfl rfl rfl (r_store rfl rfl rfl rfl rfl rfl rfl get_here rfl rfl (Nat.le_of_ble_eq_true rfl) rfl) (by omega) ?_
 refine OA.nil ?_
 intro _
 refine RA.weaken (D' := [(p2, some ⟨[xCk216], 16, 35, true⟩), (r, some ⟨[[(.string u), (.int .i64 2)]], 2, 106, true⟩), (p5, some ⟨[[v0, v1, v2, v3, v4, v5, v6, v7, v8, v9, (.int .i64 0), (.int .i64 0), (W 0#32), (W 0#32), v14, v15]], 16, 35, true⟩)]) hd (Less.of (fac (mm (fun _ => get_here) (fun _ => (get_there (by omega) (get_there (by omega) (get_there (by omega) (get_there (by omega) get_here)))))) (fac (mm (fun _ => (get_there (by omega) get_here)) (fun _ => (get_there (by omega) (get_there (by omega) (get_there (by omega) (get_there (by omega) (get_there (by omega) get_here))))))) (fac (mm (fun _ => (get_there (by omega) (get_there (by omega) get_here))) (fun _ => get_here)) fan))) (gone_of (by simp only [goneP, memP, List.cons_append, List.nil_append, true_or, or_true, true_and, and_true, or_false] <;> omega))) ?_
 refine RA.rebase [(2, (Pt p2 0 0)), (3, (.int .i64 0)), (4, (Pt r 0 0)), (5, (Pt p5 0 0))] ⟨rfl, rfl, rfl, rfl, trivial⟩ (fun τr => ?_)
 exact sd5 hd p2 r p5 u v0 v1 v2 v3 v4 v5 v6 v7 v8 v9 (.int .i64 0) (.int .i64 0) (W 0#32) (W 0#32) v14 v15 (by omega) (by omega) (by omega) n4 (by omega) τr

theorem sd3 {n : Nat} {σ : Store} (hd : Dom n σ) (p2 r p5 : Nat) (u : ByteArray) (v0 v1 v2 v3 v4 v5 v6 v7 v8 v9 v10 v11 v12 v13 v14 v15 : Value) (g1 : n ≤ p2) (g2 : p2 < r) (g3 : r < p5) (m0 : Nat) (hm0 : p5 + 1 ≤ m0) (τ0 : Tm) : RA Try.prog env n σ Try.f47.ntmps (right 3 (Try.f47.body.getD .skip)) (upds τ0 [(2, (Pt p2 0 0)), (3, (.int .i64 0)), (4, (Pt r 0 0)), (5, (Pt p5 0 0))]) m0 [(p2, some ⟨[[(.int .i64 0), (.int .u32 0), (.int .u32 0), (.int .u32 0), (.int .u32 0), (.int .u32 0), (.int .u32 0), (.int .i64 0), (.int .i64 0), (.int .u32 0), (.int .i64 0), (.int .i64 0), (.int .u32 0), (.int .u32 0), (.string ByteArray.empty), (.string ByteArray.empty)]], 16, 35, true⟩), (r, some ⟨[[(.string u), (.int .i64 2)]], 2, 106, true⟩), (p5, some ⟨[[v0, v1, v2, v3, v4, v5, v6, v7, v8, v9, v10, v11, v12, v13, v14, v15]], 16, 35, true⟩)] (fun x τ' n' D => (x = .normal ∨ x = .ret) ∧ ∃ vs, resL env τ' (app D σ) Try.f47.results.toList = some vs ∧ one vs = (.tuple #[(.agg ⟨[(.int .i64 0), (.int .u32 0), (.int .u32 0), (.int .u32 0), (.int .u32 0), (.int .u32 0), (.int .u32 0), (.int .i64 0), (.int .i64 0), (.int .u32 0), (.int .i64 0), (.int .i64 0), (.int .u32 0), (.int .u32 0), (.string ByteArray.empty), (.string ByteArray.empty)]⟩), .int .i64 2]) ∧ ∀ i ∈ keys D, n ≤ i ∧ i < n') := by
 refine RA.seq hd ?_
 refine RA.region env_ok ?_
 refine OA.pure (dst := (some 21)) (v := (Pt r 0 0)) rfl rfl rfl rfl ?_
 refine OA.call (dst := (some 22)) (all := [(Pt r 0 0)]) rfl rfl rfl rfl rfl rfl rfl rfl (CQ.imp (rU32D (hd.of (by omega) (kb3 (by omega))) r _ 0 (get_there (by omega) get_here)) ?_)
 rintro _ n1 _ ⟨rfl, rfl⟩ hn1
 refine OA.app0 ?_
 refine OA.pure (dst := (some 23)) (v := (Pt r 0 0)) rfl rfl rfl rfl ?_
 refine OA.call (dst := (some 24)) (all := [(Pt r 0 0)]) rfl rfl rfl rfl rfl rfl rfl rfl (CQ.imp (rU32D (hd.of (by omega) (kb3 (by omega))) r _ 0 (get_there (by omega) get_here)) ?_)
 rintro _ n2 _ ⟨rfl, rfl⟩ hn2
 refine OA.app0 ?_
 refine OA.pure (dst := (some 25)) (v := (Pt r 0 0)) rfl rfl rfl rfl ?_
 refine OA.call (dst := (some 26)) (all := [(Pt r 0 0)]) rfl rfl rfl rfl rfl rfl rfl rfl (CQ.imp (rU16D (hd.of (by omega) (kb3 (by omega))) r _ 0 (get_there (by omega) get_here)) ?_)
 rintro _ n3 _ ⟨rfl, rfl⟩ hn3
 refine OA.app0 ?_
 refine OA.pure (dst := (some 27)) (v := (Pt r 0 0)) rfl rfl rfl rfl ?_
 refine OA.call (dst := (some 28)) (all := [(Pt r 0 0)]) rfl rfl rfl rfl rfl rfl rfl rfl (CQ.imp (rU16D (hd.of (by omega) (kb3 (by omega))) r _ 0 (get_there (by omega) get_here)) ?_)
 rintro _ n4 _ ⟨rfl, rfl⟩ hn4
 refine OA.app0 ?_
 refine OA.pure (dst := (some 29)) (v := (Pt r 0 0)) rfl rfl rfl rfl ?_
 refine OA.call (dst := (some 30)) (all := [(Pt r 0 0)]) rfl rfl rfl rfl rfl rfl rfl rfl (CQ.imp (rU32D (hd.of (by omega) (kb3 (by omega))) r _ 0 (get_there (by omega) get_here)) ?_)
 rintro _ n5 _ ⟨rfl, rfl⟩ hn5
 refine OA.app0 ?_
 refine OA.pure (dst := (some 31)) (v := (Pt p5 0 5)) rfl rfl rfl rfl ?_
 refine OA.op1 (dst := none) (v := (.tuple #[])) (n1 := n5) (w := (p5, some ⟨[[v0, v1, v2, v3, v4, (W 0#32), v6, v7, v8, v9, v10, v11, v12, v13, v14, v15]], 16, 35, true⟩)) rfl rfl rfl (r_store rfl rfl rfl rfl rfl rfl rfl (get_there (by omega) (get_there (by omega) get_here)) rfl rfl (Nat.le_of_ble_eq_true rfl) rfl) (by omega) ?_
 refine OA.pure (dst := (some 32)) (v := (Pt p5 0 6)) rfl rfl rfl rfl ?_
 refine OA.op1 (dst := none) (v := (.tuple #[])) (n1 := n5) (w := (p5, some ⟨[[v0, v1, v2, v3, v4, (W 0#32), (W 0#32), v7, v8, v9, v10, v11, v12, v13, v14, v15]], 16, 35, true⟩)) rfl rfl rfl (r_store rfl rfl rfl rfl rfl rfl rfl get_here rfl rfl (Nat.le_of_ble_eq_true rfl) rfl) (by omega) ?_
 refine OA.pure (dst := (some 33)) (v := (Pt p5 0 7)) rfl rfl rfl rfl ?_
 refine OA.op1 (dst := none) (v := (.tuple #[])) (n1 := n5) (w := (p5, some ⟨[[v0, v1, v2, v3, v4, (W 0#32), (W 0#32), (.int .i64 0), v8, v9, v10, v11, v12, v13, v14, v15]], 16, 35, true⟩)) rfl rfl rfl (r_store rfl rfl rfl rfl rfl rfl rfl get_here rfl rfl (Nat.le_of_ble_eq_true rfl) rfl) (by omega) ?_
 refine OA.pure (dst := (some 34)) (v := (Pt p5 0 8)) rfl rfl rfl rfl ?_
 refine OA.op1 (dst := none) (v := (.tuple #[])) (n1 := n5) (w := (p5, some ⟨[[v0, v1, v2, v3, v4, (W 0#32), (W 0#32), (.int .i64 0), (.int .i64 0), v9, v10, v11, v12, v13, v14, v15]], 16, 35, true⟩)) rfl rfl rfl (r_store rfl rfl rfl rfl rfl rfl rfl get_here rfl rfl (Nat.le_of_ble_eq_true rfl) rfl) (by omega) ?_
 refine OA.pure (dst := (some 35)) (v := (Pt p5 0 9)) rfl rfl rfl rfl ?_
 refine OA.op1 (dst := none) (v := (.tuple #[])) (n1 := n5) (w := (p5, some ⟨[[v0, v1, v2, v3, v4, (W 0#32), (W 0#32), (.int .i64 0), (.int .i64 0), (W 0#32), v10, v11, v12, v13, v14, v15]], 16, 35, true⟩)) rfl rfl rfl (r_store rfl rfl rfl rfl rfl rfl rfl get_here rfl rfl (Nat.le_of_ble_eq_true rfl) rfl) (by omega) ?_
 refine OA.nil ?_
 intro _
 refine RA.weaken (D' := [(p2, some ⟨[xCk216], 16, 35, true⟩), (r, some ⟨[[(.string u), (.int .i64 2)]], 2, 106, true⟩), (p5, some ⟨[[v0, v1, v2, v3, v4, (W 0#32), (W 0#32), (.int .i64 0), (.int .i64 0), (W 0#32), v10, v11, v12, v13, v14, v15]], 16, 35, true⟩)]) hd (Less.of (fac (mm (fun _ => get_here) (fun _ => (get_there (by omega) (get_there (by omega) (get_there (by omega) (get_there (by omega) (get_there (by omega) get_here))))))) (fac (mm (fun _ => (get_there (by omega) get_here)) (fun _ => (get_there (by omega) (get_there (by omega) (get_there (by omega) (get_there (by omega) (get_there (by omega) (get_there (by omega) get_here)))))))) (fac (mm (fun _ => (get_there (by omega) (get_there (by omega) get_here))) (fun _ => get_here)) fan))) (gone_of (by simp only [goneP, memP, List.cons_append, List.nil_append, true_or, or_true, true_and, and_true, or_false] <;> omega))) ?_
 refine RA.rebase [(2, (Pt p2 0 0)), (3, (.int .i64 0)), (4, (Pt r 0 0)), (5, (Pt p5 0 0))] ⟨rfl, rfl, rfl, rfl, trivial⟩ (fun τr => ?_)
 exact sd4 hd p2 r p5 u v0 v1 v2 v3 v4 (W 0#32) (W 0#32) (.int .i64 0) (.int .i64 0) (W 0#32) v10 v11 v12 v13 v14 v15 (by omega) (by omega) (by omega) n5 (by omega) τr

theorem s27Y {σ : Store} (c : CkI) (h : MayI c) : PS Try.prog noDen 27 [(.agg ⟨[(.int .i64 c.made), (W c.mine), (W c.yours), (W c.mt), (W c.yt), (W c.peer), (W c.loc), (.int .i64 c.pp), (.int .i64 c.mp), (W c.rwnd), (.int .i64 c.ou), (.int .i64 c.inn), (W c.tm), (W c.ty), (.string c.mr), (.string c.rn)]⟩)] σ (.bool true) := by
  haveI := Classical.propDecidable (MayI c)
  have h1 := s27 (σ := σ) c
  rwa [decide_eq_true h] at h1

set_option maxHeartbeats 4000000 in
theorem s47A {σ : Store} (s : ByteArray) (hs : s.size < 4294967296) (v : Value) (h1 : s.size < 84 → v = (.tuple #[(.agg ⟨[(.int .i64 0), (.int .u32 0), (.int .u32 0), (.int .u32 0), (.int .u32 0), (.int .u32 0), (.int .u32 0), (.int .i64 0), (.int .i64 0), (.int .u32 0), (.int .i64 0), (.int .i64 0), (.int .u32 0), (.int .u32 0), (.string ByteArray.empty), (.string ByteArray.empty)]⟩), .int .i64 2])) (h2 : 84 < s.size → v = (.tuple #[(.agg ⟨[(.int .i64 0), (.int .u32 0), (.int .u32 0), (.int .u32 0), (.int .u32 0), (.int .u32 0), (.int .u32 0), (.int .i64 0), (.int .i64 0), (.int .u32 0), (.int .i64 0), (.int .i64 0), (.int .u32 0), (.int .u32 0), (.string ByteArray.empty), (.string ByteArray.empty)]⟩), .int .i64 3])) (h3 : s.size = 84 → ¬ MayI (ckOf s) → v = (.tuple #[(.agg ⟨[(.int .i64 0), (.int .u32 0), (.int .u32 0), (.int .u32 0), (.int .u32 0), (.int .u32 0), (.int .u32 0), (.int .i64 0), (.int .i64 0), (.int .u32 0), (.int .i64 0), (.int .i64 0), (.int .u32 0), (.int .u32 0), (.string ByteArray.empty), (.string ByteArray.empty)]⟩), .int .i64 3])) (h4 : s.size = 84 → MayI (ckOf s) → v = (.tuple #[(.agg ⟨[(.int .i64 (ckOf s).made), (W (ckOf s).mine), (W (ckOf s).yours), (W (ckOf s).mt), (W (ckOf s).yt), (W (ckOf s).peer), (W (ckOf s).loc), (.int .i64 (ckOf s).pp), (.int .i64 (ckOf s).mp), (W (ckOf s).rwnd), (.int .i64 (ckOf s).ou), (.int .i64 (ckOf s).inn), (W (ckOf s).tm), (W (ckOf s).ty), (.string (ckOf s).mr), (.string (ckOf s).rn)]⟩), .int .i64 0]))   : PS Try.prog noDen 47 [(.string s)] σ v := by
 refine PS.body (E := env) env_ok rfl rfl (by show _ ≤ _; exact of_decide_eq_true (by kernel_rfl)) (fun n hd => ?_)
 refine RA.seq hd ?_
 refine RA.region env_ok ?_
 refine OA.op1 (dst := (some 2)) (v := (Pt n 0 0)) (n1 := (n + 1)) (w := (n, some ⟨[xCk216], 16, 35, true⟩)) rfl rfl rfl rfl (by omega) ?_
 refine OA.pure (dst := (some 3)) (v := (.int .i64 0)) rfl rfl rfl rfl ?_
 refine OA.nil ?_
 intro _
 refine RA.seq hd ?_
 refine RA.region env_ok ?_
 refine OA.pure (dst := (some 7)) (v := (.string s)) rfl rfl rfl rfl ?_
 refine OA.call (dst := (some 8)) (all := [(.string s)]) rfl rfl rfl rfl rfl rfl rfl rfl (CQ.imp (rNew (hd.of (by omega) (kb1 (by omega))) s) ?_)
 rintro _ n2 _ ⟨q1, hq1a, hq1b, rfl, rfl⟩ hn2
 refine OA.app1 ?_
 refine OA.pure (dst := (some 4)) (v := (Pt q1 0 0)) rfl rfl rfl rfl ?_
 refine OA.nil ?_
 intro _
 refine RA.seq hd ?_
 refine RA.region env_ok ?_
 refine OA.pure (dst := (some 9)) (v := (Pt q1 0 0)) rfl rfl rfl rfl ?_
 by_cases hc1 : 8 ≤ s.size
 ·
  refine OA.call (dst := (some 10)) (all := [(Pt q1 0 0)]) rfl rfl rfl rfl rfl rfl rfl rfl (CQ.imp (rU64 (hd.of (by omega) (kb2 (by omega))) q1 s 0 (by omega) hs get_here) ?_)
  rintro _ n3 _ ⟨rfl, rfl⟩ hn3
  refine OA.app1 ?_
  refine OA.pure (dst := (some 11)) (v := (.int .i64 (IntKind.wrap .i64 ((at_ s 0 8 : Nat) : Int)))) rfl rfl rfl (r_cvt rfl rfl rfl rfl rfl ⟨_, rfl⟩ rfl) ?_
  refine OA.pure (dst := (some 12)) (v := (Pt q1 0 0)) rfl rfl rfl rfl ?_
  by_cases hc2 : 12 ≤ s.size
  ·
   refine OA.call (dst := (some 13)) (all := [(Pt q1 0 0)]) rfl rfl rfl rfl rfl rfl rfl rfl (CQ.imp (rU32 (hd.of (by omega) (kb3 (by omega))) q1 s 8 (by omega) hs get_here) ?_)
   rintro _ n4 _ ⟨rfl, rfl⟩ hn4
   refine OA.app1 ?_
   refine OA.pure (dst := (some 14)) (v := (Pt q1 0 0)) rfl rfl rfl rfl ?_
   by_cases hc3 : 16 ≤ s.size
   ·
    refine OA.call (dst := (some 15)) (all := [(Pt q1 0 0)]) rfl rfl rfl rfl rfl rfl rfl rfl (CQ.imp (rU32 (hd.of (by omega) (kb4 (by omega))) q1 s 12 (by omega) hs get_here) ?_)
    rintro _ n5 _ ⟨rfl, rfl⟩ hn5
    refine OA.app1 ?_
    refine OA.pure (dst := (some 16)) (v := (Pt q1 0 0)) rfl rfl rfl rfl ?_
    by_cases hc4 : 20 ≤ s.size
    ·
     refine OA.call (dst := (some 17)) (all := [(Pt q1 0 0)]) rfl rfl rfl rfl rfl rfl rfl rfl (CQ.imp (rU32 (hd.of (by omega) (kb5 (by omega))) q1 s 16 (by omega) hs get_here) ?_)
     rintro _ n6 _ ⟨rfl, rfl⟩ hn6
     refine OA.app1 ?_
     refine OA.pure (dst := (some 18)) (v := (Pt q1 0 0)) rfl rfl rfl rfl ?_
     by_cases hc5 : 24 ≤ s.size
     ·
      refine OA.call (dst := (some 19)) (all := [(Pt q1 0 0)]) rfl rfl rfl rfl rfl rfl rfl rfl (CQ.imp (rU32 (hd.of (by omega) (kb6 (by omega))) q1 s 20 (by omega) hs get_here) ?_)
      rintro _ n7 _ ⟨rfl, rfl⟩ hn7
      refine OA.app1 ?_
      refine OA.pure (dst := (some 20)) (v := (.agg ⟨(xCk28 s)⟩)) rfl rfl rfl (by kernel_rfl) ?_
      refine OA.op1 (dst := (some 5)) (v := (Pt n7 0 0)) (n1 := (n7 + 1)) (w := (n7, some ⟨[xCk216], 16, 35, true⟩)) rfl rfl rfl rfl (by omega) ?_
      refine OA.op1 (dst := none) (v := (.tuple #[])) (n1 := (n7 + 1)) (w := (n7, some ⟨[(xCk28 s)], 16, 35, true⟩)) rfl rfl rfl (r_store rfl rfl rfl rfl rfl rfl rfl get_here rfl rfl (Nat.le_of_ble_eq_true rfl) rfl) (by omega) ?_
      refine OA.nil ?_
      intro _
      refine RA.weaken (D' := [(n7, some ⟨[(xCk28 s)], 16, 35, true⟩), (q1, some ⟨[[(.string (s.extract 24 s.size)), (.int .i64 0)]], 2, 106, true⟩), (n, some ⟨[xCk216], 16, 35, true⟩)]) hd (Less.of (fac (mm (fun _ => get_here) (fun _ => get_here)) (fac (mm (fun _ => (get_there (by omega) get_here)) (fun _ => (get_there (by omega) (get_there (by omega) get_here)))) (fac (mm (fun _ => (get_there (by omega) (get_there (by omega) get_here))) (fun _ => (get_there (by omega) (get_there (by omega) (get_there (by omega) (get_there (by omega) (get_there (by omega) (get_there (by omega) (get_there (by omega) (get_there (by omega) get_here)))))))))) fan))) (gone_of (by simp only [goneP, memP, List.cons_append, List.nil_append, true_or, or_true, true_and, and_true, or_false] <;> omega))) ?_
      refine RA.seq hd ?_
      refine RA.region env_ok ?_
      refine OA.pure (dst := (some 21)) (v := (Pt q1 0 0)) rfl rfl rfl rfl ?_
      by_cases hc6 : 28 ≤ s.size
      ·
       refine OA.call (dst := (some 22)) (all := [(Pt q1 0 0)]) rfl rfl rfl rfl rfl rfl rfl rfl (CQ.imp (rU32 (hd.of (by omega) (kb3 (by omega))) q1 s 24 (by omega) hs (get_there (by omega) get_here)) ?_)
       rintro _ n8 _ ⟨rfl, rfl⟩ hn8
       refine OA.app1 ?_
       refine OA.pure (dst := (some 23)) (v := (Pt q1 0 0)) rfl rfl rfl rfl ?_
       by_cases hc7 : 32 ≤ s.size
       ·
        refine OA.call (dst := (some 24)) (all := [(Pt q1 0 0)]) rfl rfl rfl rfl rfl rfl rfl rfl (CQ.imp (rU32 (hd.of (by omega) (kb4 (by omega))) q1 s 28 (by omega) hs get_here) ?_)
        rintro _ n9 _ ⟨rfl, rfl⟩ hn9
        refine OA.app1 ?_
        refine OA.pure (dst := (some 25)) (v := (Pt q1 0 0)) rfl rfl rfl rfl ?_
        by_cases hc8 : 34 ≤ s.size
        ·
         refine OA.call (dst := (some 26)) (all := [(Pt q1 0 0)]) rfl rfl rfl rfl rfl rfl rfl rfl (CQ.imp (rU16 (hd.of (by omega) (kb5 (by omega))) q1 s 32 (by omega) hs get_here) ?_)
         rintro _ n10 _ ⟨rfl, rfl⟩ hn10
         refine OA.app1 ?_
         refine OA.pure (dst := (some 27)) (v := (Pt q1 0 0)) rfl rfl rfl rfl ?_
         by_cases hc9 : 36 ≤ s.size
         ·
          refine OA.call (dst := (some 28)) (all := [(Pt q1 0 0)]) rfl rfl rfl rfl rfl rfl rfl rfl (CQ.imp (rU16 (hd.of (by omega) (kb6 (by omega))) q1 s 34 (by omega) hs get_here) ?_)
          rintro _ n11 _ ⟨rfl, rfl⟩ hn11
          refine OA.app1 ?_
          refine OA.pure (dst := (some 29)) (v := (Pt q1 0 0)) rfl rfl rfl rfl ?_
          by_cases hc10 : 40 ≤ s.size
          ·
           refine OA.call (dst := (some 30)) (all := [(Pt q1 0 0)]) rfl rfl rfl rfl rfl rfl rfl rfl (CQ.imp (rU32 (hd.of (by omega) (kb7 (by omega))) q1 s 36 (by omega) hs get_here) ?_)
           rintro _ n12 _ ⟨rfl, rfl⟩ hn12
           refine OA.app1 ?_
           refine OA.pure (dst := (some 31)) (v := (Pt n7 0 5)) rfl rfl rfl rfl ?_
           refine OA.op1 (dst := none) (v := (.tuple #[])) (n1 := n12) (w := (n7, some ⟨[(xCk27 s)], 16, 35, true⟩)) rfl rfl rfl (r_store rfl rfl rfl rfl rfl rfl rfl (get_there (by omega) (get_there (by omega) (get_there (by omega) (get_there (by omega) (get_there (by omega) get_here))))) rfl rfl (Nat.le_of_ble_eq_true rfl) rfl) (by omega) ?_
           refine OA.pure (dst := (some 32)) (v := (Pt n7 0 6)) rfl rfl rfl rfl ?_
           refine OA.op1 (dst := none) (v := (.tuple #[])) (n1 := n12) (w := (n7, some ⟨[(xCk26 s)], 16, 35, true⟩)) rfl rfl rfl (r_store rfl rfl rfl rfl rfl rfl rfl get_here rfl rfl (Nat.le_of_ble_eq_true rfl) rfl) (by omega) ?_
           refine OA.pure (dst := (some 33)) (v := (Pt n7 0 7)) rfl rfl rfl rfl ?_
           refine OA.op1 (dst := none) (v := (.tuple #[])) (n1 := n12) (w := (n7, some ⟨[(xCk25 s)], 16, 35, true⟩)) rfl rfl rfl (r_store rfl rfl rfl rfl rfl rfl rfl get_here rfl rfl (Nat.le_of_ble_eq_true rfl) rfl) (by omega) ?_
           refine OA.pure (dst := (some 34)) (v := (Pt n7 0 8)) rfl rfl rfl rfl ?_
           refine OA.op1 (dst := none) (v := (.tuple #[])) (n1 := n12) (w := (n7, some ⟨[[(.int .i64 (IntKind.wrap .i64 ((at_ s 0 8 : Nat) : Int))), (W (w32 s 8)), (W (w32 s 12)), (W (w32 s 16)), (W (w32 s 20)), (W (w32 s 24)), (W (w32 s 28)), (.int .i64 (((at_ s 32 2) : Nat) : Int)), (.int .i64 (((at_ s 34 2) : Nat) : Int)), (.int .u32 0), (.int .i64 0), (.int .i64 0), (.int .u32 0), (.int .u32 0), (.string ByteArray.empty), (.string ByteArray.empty)]], 16, 35, true⟩)) rfl rfl rfl (r_store rfl rfl rfl rfl rfl rfl rfl get_here rfl rfl (Nat.le_of_ble_eq_true rfl) rfl) (by omega) ?_
           refine OA.pure (dst := (some 35)) (v := (Pt n7 0 9)) rfl rfl rfl rfl ?_
           refine OA.op1 (dst := none) (v := (.tuple #[])) (n1 := n12) (w := (n7, some ⟨[(xCk24 s)], 16, 35, true⟩)) rfl rfl rfl (r_store rfl rfl rfl rfl rfl rfl rfl get_here rfl rfl (Nat.le_of_ble_eq_true rfl) rfl) (by omega) ?_
           refine OA.nil ?_
           intro _
           refine RA.weaken (D' := [(n7, some ⟨[(xCk24 s)], 16, 35, true⟩), (q1, some ⟨[[(.string (s.extract 40 s.size)), (.int .i64 0)]], 2, 106, true⟩), (n, some ⟨[xCk216], 16, 35, true⟩)]) hd (Less.of (fac (mm (fun _ => get_here) (fun _ => get_here)) (fac (mm (fun _ => (get_there (by omega) get_here)) (fun _ => (get_there (by omega) (get_there (by omega) (get_there (by omega) (get_there (by omega) (get_there (by omega) get_here))))))) (fac (mm (fun _ => (get_there (by omega) (get_there (by omega) get_here))) (fun _ => (get_there (by omega) (get_there (by omega) (get_there (by omega) (get_there (by omega) (get_there (by omega) (get_there (by omega) (get_there (by omega) (get_there (by omega) (get_there (by omega) (get_there (by omega) (get_there (by omega) (get_there (by omega) get_here)))))))))))))) fan))) (gone_of (by simp only [goneP, memP, List.cons_append, List.nil_append, true_or, or_true, true_and, and_true, or_false] <;> omega))) ?_
           refine RA.rebase [(0, (.string s)), (2, (Pt n 0 0)), (3, (.int .i64 0)), (4, (Pt q1 0 0)), (5, (Pt n7 0 0))] ⟨rfl, rfl, rfl, rfl, rfl, trivial⟩ (fun τr13 => ?_)
           refine RA.seq hd ?_
           refine RA.region env_ok ?_
           refine OA.pure (dst := (some 36)) (v := (Pt q1 0 0)) rfl rfl rfl rfl ?_
           by_cases hc11 : 42 ≤ s.size
           ·
            refine OA.call (dst := (some 37)) (all := [(Pt q1 0 0)]) rfl rfl rfl rfl rfl rfl rfl rfl (CQ.imp (rU16 (hd.of (by omega) (kb3 (by omega))) q1 s 40 (by omega) hs (get_there (by omega) get_here)) ?_)
            rintro _ n14 _ ⟨rfl, rfl⟩ hn14
            refine OA.app1 ?_
            refine OA.pure (dst := (some 38)) (v := (Pt q1 0 0)) rfl rfl rfl rfl ?_
            by_cases hc12 : 44 ≤ s.size
            ·
             refine OA.call (dst := (some 39)) (all := [(Pt q1 0 0)]) rfl rfl rfl rfl rfl rfl rfl rfl (CQ.imp (rU16 (hd.of (by omega) (kb4 (by omega))) q1 s 42 (by omega) hs get_here) ?_)
             rintro _ n15 _ ⟨rfl, rfl⟩ hn15
             refine OA.app1 ?_
             refine OA.pure (dst := (some 40)) (v := (Pt q1 0 0)) rfl rfl rfl rfl ?_
             by_cases hc13 : 48 ≤ s.size
             ·
              refine OA.call (dst := (some 41)) (all := [(Pt q1 0 0)]) rfl rfl rfl rfl rfl rfl rfl rfl (CQ.imp (rU32 (hd.of (by omega) (kb5 (by omega))) q1 s 44 (by omega) hs get_here) ?_)
              rintro _ n16 _ ⟨rfl, rfl⟩ hn16
              refine OA.app1 ?_
              refine OA.pure (dst := (some 42)) (v := (Pt q1 0 0)) rfl rfl rfl rfl ?_
              by_cases hc14 : 52 ≤ s.size
              ·
               refine OA.call (dst := (some 43)) (all := [(Pt q1 0 0)]) rfl rfl rfl rfl rfl rfl rfl rfl (CQ.imp (rU32 (hd.of (by omega) (kb6 (by omega))) q1 s 48 (by omega) hs get_here) ?_)
               rintro _ n17 _ ⟨rfl, rfl⟩ hn17
               refine OA.app1 ?_
               refine OA.pure (dst := (some 44)) (v := (Pt n7 0 10)) rfl rfl rfl rfl ?_
               refine OA.op1 (dst := none) (v := (.tuple #[])) (n1 := n17) (w := (n7, some ⟨[(xCk23 s)], 16, 35, true⟩)) rfl rfl rfl (r_store rfl rfl rfl rfl rfl rfl rfl (get_there (by omega) (get_there (by omega) (get_there (by omega) (get_there (by omega) get_here)))) rfl rfl (Nat.le_of_ble_eq_true rfl) rfl) (by omega) ?_
               refine OA.pure (dst := (some 45)) (v := (Pt n7 0 11)) rfl rfl rfl rfl ?_
               refine OA.op1 (dst := none) (v := (.tuple #[])) (n1 := n17) (w := (n7, some ⟨[(xCk22 s)], 16, 35, true⟩)) rfl rfl rfl (r_store rfl rfl rfl rfl rfl rfl rfl get_here rfl rfl (Nat.le_of_ble_eq_true rfl) rfl) (by omega) ?_
               refine OA.pure (dst := (some 46)) (v := (Pt n7 0 12)) rfl rfl rfl rfl ?_
               refine OA.op1 (dst := none) (v := (.tuple #[])) (n1 := n17) (w := (n7, some ⟨[[(.int .i64 (IntKind.wrap .i64 ((at_ s 0 8 : Nat) : Int))), (W (w32 s 8)), (W (w32 s 12)), (W (w32 s 16)), (W (w32 s 20)), (W (w32 s 24)), (W (w32 s 28)), (.int .i64 (((at_ s 32 2) : Nat) : Int)), (.int .i64 (((at_ s 34 2) : Nat) : Int)), (W (w32 s 36)), (.int .i64 (((at_ s 40 2) : Nat) : Int)), (.int .i64 (((at_ s 42 2) : Nat) : Int)), (W (w32 s 44)), (.int .u32 0), (.string ByteArray.empty), (.string ByteArray.empty)]], 16, 35, true⟩)) rfl rfl rfl (r_store rfl rfl rfl rfl rfl rfl rfl get_here rfl rfl (Nat.le_of_ble_eq_true rfl) rfl) (by omega) ?_
               refine OA.pure (dst := (some 47)) (v := (Pt n7 0 13)) rfl rfl rfl rfl ?_
               refine OA.op1 (dst := none) (v := (.tuple #[])) (n1 := n17) (w := (n7, some ⟨[[(.int .i64 (IntKind.wrap .i64 ((at_ s 0 8 : Nat) : Int))), (W (w32 s 8)), (W (w32 s 12)), (W (w32 s 16)), (W (w32 s 20)), (W (w32 s 24)), (W (w32 s 28)), (.int .i64 (((at_ s 32 2) : Nat) : Int)), (.int .i64 (((at_ s 34 2) : Nat) : Int)), (W (w32 s 36)), (.int .i64 (((at_ s 40 2) : Nat) : Int)), (.int .i64 (((at_ s 42 2) : Nat) : Int)), (W (w32 s 44)), (W (w32 s 48)), (.string ByteArray.empty), (.string ByteArray.empty)]], 16, 35, true⟩)) rfl rfl rfl (r_store rfl rfl rfl rfl rfl rfl rfl get_here rfl rfl (Nat.le_of_ble_eq_true rfl) rfl) (by omega) ?_
               refine OA.nil ?_
               intro _
               refine RA.weaken (D' := [(n7, some ⟨[[(.int .i64 (IntKind.wrap .i64 ((at_ s 0 8 : Nat) : Int))), (W (w32 s 8)), (W (w32 s 12)), (W (w32 s 16)), (W (w32 s 20)), (W (w32 s 24)), (W (w32 s 28)), (.int .i64 (((at_ s 32 2) : Nat) : Int)), (.int .i64 (((at_ s 34 2) : Nat) : Int)), (W (w32 s 36)), (.int .i64 (((at_ s 40 2) : Nat) : Int)), (.int .i64 (((at_ s 42 2) : Nat) : Int)), (W (w32 s 44)), (W (w32 s 48)), (.string ByteArray.empty), (.string ByteArray.empty)]], 16, 35, true⟩), (q1, some ⟨[[(.string (s.extract 52 s.size)), (.int .i64 0)]], 2, 106, true⟩), (n, some ⟨[xCk216], 16, 35, true⟩)]) hd (Less.of (fac (mm (fun _ => get_here) (fun _ => get_here)) (fac (mm (fun _ => (get_there (by omega) get_here)) (fun _ => (get_there (by omega) (get_there (by omega) (get_there (by omega) (get_there (by omega) get_here)))))) (fac (mm (fun _ => (get_there (by omega) (get_there (by omega) get_here))) (fun _ => (get_there (by omega) (get_there (by omega) (get_there (by omega) (get_there (by omega) (get_there (by omega) (get_there (by omega) (get_there (by omega) (get_there (by omega) (get_there (by omega) (get_there (by omega) get_here)))))))))))) fan))) (gone_of (by simp only [goneP, memP, List.cons_append, List.nil_append, true_or, or_true, true_and, and_true, or_false] <;> omega))) ?_
               refine RA.seq hd ?_
               refine RA.region env_ok ?_
               refine OA.pure (dst := (some 48)) (v := (Pt q1 0 0)) rfl rfl rfl rfl ?_
               by_cases hc15 : 68 ≤ s.size
               ·
                refine OA.call (dst := (some 49)) (all := [(Pt q1 0 0), (.int .i64 16)]) rfl rfl rfl rfl rfl rfl rfl rfl (CQ.imp (rTakeP (hd.of (by omega) (kb3 (by omega))) q1 s 52 16 (by omega) hs (get_there (by omega) get_here)) ?_)
                rintro _ n18 _ ⟨rfl, rfl⟩ hn18
                refine OA.app1 ?_
                refine OA.pure (dst := (some 50)) (v := (Pt q1 0 0)) rfl rfl rfl rfl ?_
                by_cases hc16 : 84 ≤ s.size
                ·
                 refine OA.call (dst := (some 51)) (all := [(Pt q1 0 0), (.int .i64 16)]) rfl rfl rfl rfl rfl rfl rfl rfl (CQ.imp (rTakeP (hd.of (by omega) (kb4 (by omega))) q1 s 68 16 (by omega) hs get_here) ?_)
                 rintro _ n19 _ ⟨rfl, rfl⟩ hn19
                 refine OA.app1 ?_
                 refine OA.pure (dst := (some 52)) (v := (Pt n7 0 14)) rfl rfl rfl rfl ?_
                 refine OA.op1 (dst := none) (v := (.tuple #[])) (n1 := n19) (w := (n7, some ⟨[[(.int .i64 (IntKind.wrap .i64 ((at_ s 0 8 : Nat) : Int))), (W (w32 s 8)), (W (w32 s 12)), (W (w32 s 16)), (W (w32 s 20)), (W (w32 s 24)), (W (w32 s 28)), (.int .i64 (((at_ s 32 2) : Nat) : Int)), (.int .i64 (((at_ s 34 2) : Nat) : Int)), (W (w32 s 36)), (.int .i64 (((at_ s 40 2) : Nat) : Int)), (.int .i64 (((at_ s 42 2) : Nat) : Int)), (W (w32 s 44)), (W (w32 s 48)), (.string (s.extract 52 (52 + 16))), (.string ByteArray.empty)]], 16, 35, true⟩)) rfl rfl rfl (r_store rfl rfl rfl rfl rfl rfl rfl (get_there (by omega) (get_there (by omega) get_here)) rfl rfl (Nat.le_of_ble_eq_true rfl) rfl) (by omega) ?_
                 refine OA.pure (dst := (some 53)) (v := (Pt n7 0 15)) rfl rfl rfl rfl ?_
                 refine OA.op1 (dst := none) (v := (.tuple #[])) (n1 := n19) (w := (n7, some ⟨[(xCk21 s)], 16, 35, true⟩)) rfl rfl rfl (r_store rfl rfl rfl rfl rfl rfl rfl get_here rfl rfl (Nat.le_of_ble_eq_true rfl) rfl) (by omega) ?_
                 refine OA.nil ?_
                 intro _
                 refine RA.weaken (D' := [(n7, some ⟨[(xCk21 s)], 16, 35, true⟩), (q1, some ⟨[[(.string (s.extract 84 s.size)), (.int .i64 0)]], 2, 106, true⟩), (n, some ⟨[xCk216], 16, 35, true⟩)]) hd (Less.of (fac (mm (fun _ => get_here) (fun _ => get_here)) (fac (mm (fun _ => (get_there (by omega) get_here)) (fun _ => (get_there (by omega) (get_there (by omega) get_here)))) (fac (mm (fun _ => (get_there (by omega) (get_there (by omega) get_here))) (fun _ => (get_there (by omega) (get_there (by omega) (get_there (by omega) (get_there (by omega) (get_there (by omega) (get_there (by omega) get_here)))))))) fan))) (gone_of (by simp only [goneP, memP, List.cons_append, List.nil_append, true_or, or_true, true_and, and_true, or_false] <;> omega))) ?_
                 refine RA.seq hd ?_
                 refine RA.seq hd ?_
                 refine RA.region env_ok ?_
                 refine OA.pure (dst := (some 54)) (v := (Pt q1 0 0)) rfl rfl rfl rfl ?_
                 by_cases hc17 : s.size = 84
                 ·
                  refine OA.call (dst := (some 55)) (all := [(Pt q1 0 0)]) rfl rfl rfl rfl rfl rfl rfl rfl (CQ.imp (rEnd (hd.of (by omega) (kb3 (by omega))) q1 _ (by rw [size_cut _ _ _ (Nat.le_refl _)]; omega) (get_there (by omega) get_here)) ?_)
                  rintro _ n20 _ ⟨rfl, rfl⟩ hn20
                  refine OA.app0 ?_
                  refine OA.pure (dst := (some 6)) (v := (.int .i64 0)) rfl rfl rfl rfl ?_
                  refine OA.nil ?_
                  intro _
                  refine RA.rebase [(0, (.string s)), (2, (Pt n 0 0)), (3, (.int .i64 0)), (4, (Pt q1 0 0)), (5, (Pt n7 0 0)), (6, (.int .i64 0))] ⟨rfl, rfl, rfl, rfl, rfl, rfl, trivial⟩ (fun τr21 => ?_)
                  refine RA.seq hd ?_
                  refine RA.region env_ok ?_
                  refine OA.pure (dst := (some 56)) (v := (.int .i64 0)) rfl rfl rfl rfl ?_
                  refine OA.pure (dst := (some 57)) (v := (.bool false)) rfl rfl rfl (r_bin rfl rfl rfl (b_neq rfl)) ?_
                  refine OA.nil ?_
                  intro _
                  refine RA.cond (t := false) rfl (fun hc => ?_) (fun hc => ?_)
                  · cases hc
                  ·
                   refine RA.skip env_ok ?_
                   intro _
                   refine RA.seq hd ?_
                   refine RA.seq hd ?_
                   refine RA.region env_ok ?_
                   refine OA.pure (dst := (some 60)) (v := (.agg ⟨(xCk21 s)⟩)) rfl rfl rfl (r_loadA rfl rfl rfl rfl get_here rfl rfl rfl) ?_
                   by_cases hc18 : MayI (ckOf s)
                   ·
                    refine OA.callP (dst := (some 61)) (all := [(.agg ⟨(xCk21 s)⟩)]) (v := (.bool true)) (hd.of (by omega) (kb3 (by omega))) rfl rfl rfl rfl rfl rfl rfl rfl (s27Y (ckOf s) hc18) ?_
                    intro n22 hn22
                    refine OA.pure (dst := (some 62)) (v := (.bool false)) rfl rfl rfl rfl ?_
                    refine OA.nil ?_
                    intro _
                    refine RA.cond (t := false) rfl (fun hc => ?_) (fun hc => ?_)
                    · cases hc
                    ·
                     refine RA.skip env_ok ?_
                     intro _
                     refine RA.seq hd ?_
                     refine RA.region env_ok ?_
                     refine OA.pure (dst := (some 64)) (v := (.agg ⟨(xCk21 s)⟩)) rfl rfl rfl (r_loadA rfl rfl rfl rfl get_here rfl rfl rfl) ?_
                     refine OA.op1 (dst := none) (v := (.tuple #[])) (n1 := n22) (w := (n, some ⟨[(xCk21 s)], 16, 35, true⟩)) rfl rfl rfl (r_store rfl rfl rfl rfl rfl rfl rfl (get_there (by omega) (get_there (by omega) get_here)) rfl rfl (Nat.le_of_ble_eq_true rfl) rfl) (by omega) ?_
                     refine OA.pure (dst := (some 3)) (v := (.int .i64 0)) rfl rfl rfl rfl ?_
                     refine OA.nil ?_
                     intro _
                     refine RA.weaken (D' := [(n, some ⟨[(xCk21 s)], 16, 35, true⟩), (n7, some ⟨[(xCk21 s)], 16, 35, true⟩), (q1, some ⟨[[(.string (s.extract 84 s.size)), (.int .i64 0)]], 2, 106, true⟩)]) hd (Less.of (fac (mm (fun _ => get_here) (fun _ => get_here)) (fac (mm (fun _ => (get_there (by omega) get_here)) (fun _ => (get_there (by omega) get_here))) (fac (mm (fun _ => (get_there (by omega) (get_there (by omega) get_here))) (fun _ => (get_there (by omega) (get_there (by omega) get_here)))) fan))) (gone_of (by simp only [goneP, memP, List.cons_append, List.nil_append, true_or, or_true, true_and, and_true, or_false] <;> omega))) ?_
                     refine RA.ret env_ok ?_
                     refine ⟨.inr rfl, [(.agg ⟨(xCk21 s)⟩), (.int .i64 0)], (resL_cons (res_cellA rfl rfl rfl get_here rfl rfl rfl) (resL_cons rfl resL_nil)), (h4 (by omega) hc18).symm, (kc3 (by omega))⟩
                   ·
                    refine OA.callP (dst := (some 61)) (all := [(.agg ⟨(xCk21 s)⟩)]) (v := (.bool false)) (hd.of (by omega) (kb3 (by omega))) rfl rfl rfl rfl rfl rfl rfl rfl (s27Z (ckOf s) hc18) ?_
                    intro n23 hn23
                    refine OA.pure (dst := (some 62)) (v := (.bool true)) rfl rfl rfl rfl ?_
                    refine OA.nil ?_
                    intro _
                    refine RA.cond (t := true) rfl (fun hc => ?_) (fun hc => ?_)
                    ·
                     refine RA.seq hd ?_
                     refine RA.region env_ok ?_
                     refine OA.pure (dst := (some 63)) (v := (.agg ⟨xCk216⟩)) rfl rfl rfl (by kernel_rfl) ?_
                     refine OA.op1 (dst := none) (v := (.tuple #[])) (n1 := n23) (w := (n, some ⟨[xCk216], 16, 35, true⟩)) rfl rfl rfl (r_store rfl rfl rfl rfl rfl rfl rfl (get_there (by omega) (get_there (by omega) get_here)) rfl rfl (Nat.le_of_ble_eq_true rfl) rfl) (by omega) ?_
                     refine OA.pure (dst := (some 3)) (v := (.int .i64 3)) rfl rfl rfl rfl ?_
                     refine OA.nil ?_
                     intro _
                     refine RA.weaken (D' := [(n, some ⟨[xCk216], 16, 35, true⟩), (n7, some ⟨[(xCk21 s)], 16, 35, true⟩), (q1, some ⟨[[(.string (s.extract 84 s.size)), (.int .i64 0)]], 2, 106, true⟩)]) hd (Less.of (fac (mm (fun _ => get_here) (fun _ => get_here)) (fac (mm (fun _ => (get_there (by omega) get_here)) (fun _ => (get_there (by omega) get_here))) (fac (mm (fun _ => (get_there (by omega) (get_there (by omega) get_here))) (fun _ => (get_there (by omega) (get_there (by omega) get_here)))) fan))) (gone_of (by simp only [goneP, memP, List.cons_append, List.nil_append, true_or, or_true, true_and, and_true, or_false] <;> omega))) ?_
                     refine RA.ret env_ok ?_
                     refine ⟨.inr rfl, [(.agg ⟨xCk216⟩), (.int .i64 3)], (resL_cons (res_cellA rfl rfl rfl get_here rfl rfl rfl) (resL_cons rfl resL_nil)), (h3 (by omega) hc18).symm, (kc3 (by omega))⟩
                    · cases hc
                 ·
                  refine OA.call (dst := (some 55)) (all := [(Pt q1 0 0)]) rfl rfl rfl rfl rfl rfl rfl rfl (CQ.imp (rEndM (hd.of (by omega) (kb3 (by omega))) q1 _ (by rw [size_cut _ _ _ (Nat.le_refl _)]; omega) (get_there (by omega) get_here)) ?_)
                  rintro _ n24 _ ⟨rfl, rfl⟩ hn24
                  refine OA.app1 ?_
                  refine OA.pure (dst := (some 6)) (v := (.int .i64 3)) rfl rfl rfl rfl ?_
                  refine OA.nil ?_
                  intro _
                  refine RA.weaken (D' := [(q1, some ⟨[[(.string (s.extract 84 s.size)), (.int .i64 3)]], 2, 106, true⟩), (n7, some ⟨[(xCk21 s)], 16, 35, true⟩), (n, some ⟨[xCk216], 16, 35, true⟩)]) hd (Less.of (fac (mm (fun _ => get_here) (fun _ => get_here)) (fac (mm (fun _ => (get_there (by omega) get_here)) (fun _ => (get_there (by omega) get_here))) (fac (mm (fun _ => (get_there (by omega) (get_there (by omega) get_here))) (fun _ => (get_there (by omega) (get_there (by omega) (get_there (by omega) get_here))))) fan))) (gone_of (by simp only [goneP, memP, List.cons_append, List.nil_append, true_or, or_true, true_and, and_true, or_false] <;> omega))) ?_
                  refine RA.rebase [(0, (.string s)), (2, (Pt n 0 0)), (3, (.int .i64 0)), (4, (Pt q1 0 0)), (5, (Pt n7 0 0)), (6, (.int .i64 3))] ⟨rfl, rfl, rfl, rfl, rfl, rfl, trivial⟩ (fun τr25 => ?_)
                  refine RA.seq hd ?_
                  refine RA.region env_ok ?_
                  refine OA.pure (dst := (some 56)) (v := (.int .i64 3)) rfl rfl rfl rfl ?_
                  refine OA.pure (dst := (some 57)) (v := (.bool true)) rfl rfl rfl (r_bin rfl rfl rfl (b_neq rfl)) ?_
                  refine OA.nil ?_
                  intro _
                  refine RA.cond (t := true) rfl (fun hc => ?_) (fun hc => ?_)
                  ·
                   refine RA.seq hd ?_
                   refine RA.region env_ok ?_
                   refine OA.pure (dst := (some 58)) (v := (.agg ⟨xCk216⟩)) rfl rfl rfl (by kernel_rfl) ?_
                   refine OA.pure (dst := (some 59)) (v := (.int .i64 3)) rfl rfl rfl rfl ?_
                   refine OA.op1 (dst := none) (v := (.tuple #[])) (n1 := n24) (w := (n, some ⟨[xCk216], 16, 35, true⟩)) rfl rfl rfl (r_store rfl rfl rfl rfl rfl rfl rfl (get_there (by omega) (get_there (by omega) get_here)) rfl rfl (Nat.le_of_ble_eq_true rfl) rfl) (by omega) ?_
                   refine OA.pure (dst := (some 3)) (v := (.int .i64 3)) rfl rfl rfl rfl ?_
                   refine OA.nil ?_
                   intro _
                   refine RA.weaken (D' := [(n, some ⟨[xCk216], 16, 35, true⟩), (q1, some ⟨[[(.string (s.extract 84 s.size)), (.int .i64 3)]], 2, 106, true⟩), (n7, some ⟨[(xCk21 s)], 16, 35, true⟩)]) hd (Less.of (fac (mm (fun _ => get_here) (fun _ => get_here)) (fac (mm (fun _ => (get_there (by omega) get_here)) (fun _ => (get_there (by omega) get_here))) (fac (mm (fun _ => (get_there (by omega) (get_there (by omega) get_here))) (fun _ => (get_there (by omega) (get_there (by omega) get_here)))) fan))) (gone_of (by simp only [goneP, memP, List.cons_append, List.nil_append, true_or, or_true, true_and, and_true, or_false] <;> omega))) ?_
                   refine RA.ret env_ok ?_
                   refine ⟨.inr rfl, [(.agg ⟨xCk216⟩), (.int .i64 3)], (resL_cons (res_cellA rfl rfl rfl get_here rfl rfl rfl) (resL_cons rfl resL_nil)), (h2 (by omega)).symm, (kc3 (by omega))⟩
                  · cases hc
                ·
                 refine OA.call (dst := (some 51)) (all := [(Pt q1 0 0), (.int .i64 16)]) rfl rfl rfl rfl rfl rfl rfl rfl (CQ.imp (rTakeS (hd.of (by omega) (kb4 (by omega))) q1 _ 16 (by rw [size_cut _ _ _ (Nat.le_refl _)]; omega) get_here) ?_)
                 rintro _ n26 _ ⟨rfl, rfl⟩ hn26
                 refine OA.app1 ?_
                 refine OA.pure (dst := (some 52)) (v := (Pt n7 0 14)) rfl rfl rfl rfl ?_
                 refine OA.op1 (dst := none) (v := (.tuple #[])) (n1 := n26) (w := (n7, some ⟨[[(.int .i64 (IntKind.wrap .i64 ((at_ s 0 8 : Nat) : Int))), (W (w32 s 8)), (W (w32 s 12)), (W (w32 s 16)), (W (w32 s 20)), (W (w32 s 24)), (W (w32 s 28)), (.int .i64 (((at_ s 32 2) : Nat) : Int)), (.int .i64 (((at_ s 34 2) : Nat) : Int)), (W (w32 s 36)), (.int .i64 (((at_ s 40 2) : Nat) : Int)), (.int .i64 (((at_ s 42 2) : Nat) : Int)), (W (w32 s 44)), (W (w32 s 48)), (.string (s.extract 52 (52 + 16))), (.string ByteArray.empty)]], 16, 35, true⟩)) rfl rfl rfl (r_store rfl rfl rfl rfl rfl rfl rfl (get_there (by omega) (get_there (by omega) get_here)) rfl rfl (Nat.le_of_ble_eq_true rfl) rfl) (by omega) ?_
                 refine OA.pure (dst := (some 53)) (v := (Pt n7 0 15)) rfl rfl rfl rfl ?_
                 refine OA.op1 (dst := none) (v := (.tuple #[])) (n1 := n26) (w := (n7, some ⟨[[(.int .i64 (IntKind.wrap .i64 ((at_ s 0 8 : Nat) : Int))), (W (w32 s 8)), (W (w32 s 12)), (W (w32 s 16)), (W (w32 s 20)), (W (w32 s 24)), (W (w32 s 28)), (.int .i64 (((at_ s 32 2) : Nat) : Int)), (.int .i64 (((at_ s 34 2) : Nat) : Int)), (W (w32 s 36)), (.int .i64 (((at_ s 40 2) : Nat) : Int)), (.int .i64 (((at_ s 42 2) : Nat) : Int)), (W (w32 s 44)), (W (w32 s 48)), (.string (s.extract 52 (52 + 16))), (.string (ByteArray.mk #[]))]], 16, 35, true⟩)) rfl rfl rfl (r_store rfl rfl rfl rfl rfl rfl rfl get_here rfl rfl (Nat.le_of_ble_eq_true rfl) rfl) (by omega) ?_
                 refine OA.nil ?_
                 intro _
                 obtain rfl := h1 (by omega)
                 refine RA.weaken (D' := [(n, some ⟨[xCk216], 16, 35, true⟩), (q1, some ⟨[[(.string (s.extract 68 s.size)), (.int .i64 2)]], 2, 106, true⟩), (n7, some ⟨[[(.int .i64 (IntKind.wrap .i64 ((at_ s 0 8 : Nat) : Int))), (W (w32 s 8)), (W (w32 s 12)), (W (w32 s 16)), (W (w32 s 20)), (W (w32 s 24)), (W (w32 s 28)), (.int .i64 (((at_ s 32 2) : Nat) : Int)), (.int .i64 (((at_ s 34 2) : Nat) : Int)), (W (w32 s 36)), (.int .i64 (((at_ s 40 2) : Nat) : Int)), (.int .i64 (((at_ s 42 2) : Nat) : Int)), (W (w32 s 44)), (W (w32 s 48)), (.string (s.extract 52 (52 + 16))), (.string (ByteArray.mk #[]))]], 16, 35, true⟩)]) hd (Less.of (fac (mm (fun _ => get_here) (fun _ => (get_there (by omega) (get_there (by omega) (get_there (by omega) (get_there (by omega) (get_there (by omega) (get_there (by omega) get_here)))))))) (fac (mm (fun _ => (get_there (by omega) get_here)) (fun _ => (get_there (by omega) (get_there (by omega) get_here)))) (fac (mm (fun _ => (get_there (by omega) (get_there (by omega) get_here))) (fun _ => get_here)) fan))) (gone_of (by simp only [goneP, memP, List.cons_append, List.nil_append, true_or, or_true, true_and, and_true, or_false] <;> omega))) ?_
                 refine RA.rebase [(2, (Pt n 0 0)), (3, (.int .i64 0)), (4, (Pt q1 0 0)), (5, (Pt n7 0 0))] ⟨rfl, rfl, rfl, rfl, trivial⟩ (fun τr => ?_)
                 exact sd6 hd n q1 n7 (s.extract 68 s.size) (.int .i64 (IntKind.wrap .i64 ((at_ s 0 8 : Nat) : Int))) (W (w32 s 8)) (W (w32 s 12)) (W (w32 s 16)) (W (w32 s 20)) (W (w32 s 24)) (W (w32 s 28)) (.int .i64 (((at_ s 32 2) : Nat) : Int)) (.int .i64 (((at_ s 34 2) : Nat) : Int)) (W (w32 s 36)) (.int .i64 (((at_ s 40 2) : Nat) : Int)) (.int .i64 (((at_ s 42 2) : Nat) : Int)) (W (w32 s 44)) (W (w32 s 48)) (.string (s.extract 52 (52 + 16))) (.string (ByteArray.mk #[])) (by omega) (by omega) (by omega) n26 (by omega) τr
               ·
                refine OA.call (dst := (some 49)) (all := [(Pt q1 0 0), (.int .i64 16)]) rfl rfl rfl rfl rfl rfl rfl rfl (CQ.imp (rTakeS (hd.of (by omega) (kb3 (by omega))) q1 _ 16 (by rw [size_cut _ _ _ (Nat.le_refl _)]; omega) (get_there (by omega) get_here)) ?_)
                rintro _ n27 _ ⟨rfl, rfl⟩ hn27
                refine OA.app1 ?_
                refine OA.pure (dst := (some 50)) (v := (Pt q1 0 0)) rfl rfl rfl rfl ?_
                refine OA.call (dst := (some 51)) (all := [(Pt q1 0 0), (.int .i64 16)]) rfl rfl rfl rfl rfl rfl rfl rfl (CQ.imp (rTakeD (hd.of (by omega) (kb4 (by omega))) q1 _ 16 get_here) ?_)
                rintro _ n28 _ ⟨rfl, rfl⟩ hn28
                refine OA.app0 ?_
                refine OA.pure (dst := (some 52)) (v := (Pt n7 0 14)) rfl rfl rfl rfl ?_
                refine OA.op1 (dst := none) (v := (.tuple #[])) (n1 := n28) (w := (n7, some ⟨[[(.int .i64 (IntKind.wrap .i64 ((at_ s 0 8 : Nat) : Int))), (W (w32 s 8)), (W (w32 s 12)), (W (w32 s 16)), (W (w32 s 20)), (W (w32 s 24)), (W (w32 s 28)), (.int .i64 (((at_ s 32 2) : Nat) : Int)), (.int .i64 (((at_ s 34 2) : Nat) : Int)), (W (w32 s 36)), (.int .i64 (((at_ s 40 2) : Nat) : Int)), (.int .i64 (((at_ s 42 2) : Nat) : Int)), (W (w32 s 44)), (W (w32 s 48)), (.string (ByteArray.mk #[])), (.string ByteArray.empty)]], 16, 35, true⟩)) rfl rfl rfl (r_store rfl rfl rfl rfl rfl rfl rfl (get_there (by omega) get_here) rfl rfl (Nat.le_of_ble_eq_true rfl) rfl) (by omega) ?_
                refine OA.pure (dst := (some 53)) (v := (Pt n7 0 15)) rfl rfl rfl rfl ?_
                refine OA.op1 (dst := none) (v := (.tuple #[])) (n1 := n28) (w := (n7, some ⟨[[(.int .i64 (IntKind.wrap .i64 ((at_ s 0 8 : Nat) : Int))), (W (w32 s 8)), (W (w32 s 12)), (W (w32 s 16)), (W (w32 s 20)), (W (w32 s 24)), (W (w32 s 28)), (.int .i64 (((at_ s 32 2) : Nat) : Int)), (.int .i64 (((at_ s 34 2) : Nat) : Int)), (W (w32 s 36)), (.int .i64 (((at_ s 40 2) : Nat) : Int)), (.int .i64 (((at_ s 42 2) : Nat) : Int)), (W (w32 s 44)), (W (w32 s 48)), (.string (ByteArray.mk #[])), (.string (ByteArray.mk #[]))]], 16, 35, true⟩)) rfl rfl rfl (r_store rfl rfl rfl rfl rfl rfl rfl get_here rfl rfl (Nat.le_of_ble_eq_true rfl) rfl) (by omega) ?_
                refine OA.nil ?_
                intro _
                obtain rfl := h1 (by omega)
                refine RA.weaken (D' := [(n, some ⟨[xCk216], 16, 35, true⟩), (q1, some ⟨[[(.string (s.extract 52 s.size)), (.int .i64 2)]], 2, 106, true⟩), (n7, some ⟨[[(.int .i64 (IntKind.wrap .i64 ((at_ s 0 8 : Nat) : Int))), (W (w32 s 8)), (W (w32 s 12)), (W (w32 s 16)), (W (w32 s 20)), (W (w32 s 24)), (W (w32 s 28)), (.int .i64 (((at_ s 32 2) : Nat) : Int)), (.int .i64 (((at_ s 34 2) : Nat) : Int)), (W (w32 s 36)), (.int .i64 (((at_ s 40 2) : Nat) : Int)), (.int .i64 (((at_ s 42 2) : Nat) : Int)), (W (w32 s 44)), (W (w32 s 48)), (.string (ByteArray.mk #[])), (.string (ByteArray.mk #[]))]], 16, 35, true⟩)]) hd (Less.of (fac (mm (fun _ => get_here) (fun _ => (get_there (by omega) (get_there (by omega) (get_there (by omega) (get_there (by omega) (get_there (by omega) get_here))))))) (fac (mm (fun _ => (get_there (by omega) get_here)) (fun _ => (get_there (by omega) (get_there (by omega) get_here)))) (fac (mm (fun _ => (get_there (by omega) (get_there (by omega) get_here))) (fun _ => get_here)) fan))) (gone_of (by simp only [goneP, memP, List.cons_append, List.nil_append, true_or, or_true, true_and, and_true, or_false] <;> omega))) ?_
                refine RA.rebase [(2, (Pt n 0 0)), (3, (.int .i64 0)), (4, (Pt q1 0 0)), (5, (Pt n7 0 0))] ⟨rfl, rfl, rfl, rfl, trivial⟩ (fun τr => ?_)
                exact sd6 hd n q1 n7 (s.extract 52 s.size) (.int .i64 (IntKind.wrap .i64 ((at_ s 0 8 : Nat) : Int))) (W (w32 s 8)) (W (w32 s 12)) (W (w32 s 16)) (W (w32 s 20)) (W (w32 s 24)) (W (w32 s 28)) (.int .i64 (((at_ s 32 2) : Nat) : Int)) (.int .i64 (((at_ s 34 2) : Nat) : Int)) (W (w32 s 36)) (.int .i64 (((at_ s 40 2) : Nat) : Int)) (.int .i64 (((at_ s 42 2) : Nat) : Int)) (W (w32 s 44)) (W (w32 s 48)) (.string (ByteArray.mk #[])) (.string (ByteArray.mk #[])) (by omega) (by omega) (by omega) n28 (by omega) τr
              ·
               refine OA.call (dst := (some 43)) (all := [(Pt q1 0 0)]) rfl rfl rfl rfl rfl rfl rfl rfl (CQ.imp (rU32S (hd.of (by omega) (kb6 (by omega))) q1 s 48 (by omega) (by omega) get_here) ?_)
               rintro _ n29 _ ⟨rfl, rfl⟩ hn29
               refine OA.app1 ?_
               refine OA.pure (dst := (some 44)) (v := (Pt n7 0 10)) rfl rfl rfl rfl ?_
               refine OA.op1 (dst := none) (v := (.tuple #[])) (n1 := n29) (w := (n7, some ⟨[(xCk23 s)], 16, 35, true⟩)) rfl rfl rfl (r_store rfl rfl rfl rfl rfl rfl rfl (get_there (by omega) (get_there (by omega) (get_there (by omega) (get_there (by omega) get_here)))) rfl rfl (Nat.le_of_ble_eq_true rfl) rfl) (by omega) ?_
               refine OA.pure (dst := (some 45)) (v := (Pt n7 0 11)) rfl rfl rfl rfl ?_
               refine OA.op1 (dst := none) (v := (.tuple #[])) (n1 := n29) (w := (n7, some ⟨[(xCk22 s)], 16, 35, true⟩)) rfl rfl rfl (r_store rfl rfl rfl rfl rfl rfl rfl get_here rfl rfl (Nat.le_of_ble_eq_true rfl) rfl) (by omega) ?_
               refine OA.pure (dst := (some 46)) (v := (Pt n7 0 12)) rfl rfl rfl rfl ?_
               refine OA.op1 (dst := none) (v := (.tuple #[])) (n1 := n29) (w := (n7, some ⟨[[(.int .i64 (IntKind.wrap .i64 ((at_ s 0 8 : Nat) : Int))), (W (w32 s 8)), (W (w32 s 12)), (W (w32 s 16)), (W (w32 s 20)), (W (w32 s 24)), (W (w32 s 28)), (.int .i64 (((at_ s 32 2) : Nat) : Int)), (.int .i64 (((at_ s 34 2) : Nat) : Int)), (W (w32 s 36)), (.int .i64 (((at_ s 40 2) : Nat) : Int)), (.int .i64 (((at_ s 42 2) : Nat) : Int)), (W (w32 s 44)), (.int .u32 0), (.string ByteArray.empty), (.string ByteArray.empty)]], 16, 35, true⟩)) rfl rfl rfl (r_store rfl rfl rfl rfl rfl rfl rfl get_here rfl rfl (Nat.le_of_ble_eq_true rfl) rfl) (by omega) ?_
               refine OA.pure (dst := (some 47)) (v := (Pt n7 0 13)) rfl rfl rfl rfl ?_
               refine OA.op1 (dst := none) (v := (.tuple #[])) (n1 := n29) (w := (n7, some ⟨[[(.int .i64 (IntKind.wrap .i64 ((at_ s 0 8 : Nat) : Int))), (W (w32 s 8)), (W (w32 s 12)), (W (w32 s 16)), (W (w32 s 20)), (W (w32 s 24)), (W (w32 s 28)), (.int .i64 (((at_ s 32 2) : Nat) : Int)), (.int .i64 (((at_ s 34 2) : Nat) : Int)), (W (w32 s 36)), (.int .i64 (((at_ s 40 2) : Nat) : Int)), (.int .i64 (((at_ s 42 2) : Nat) : Int)), (W (w32 s 44)), (W 0#32), (.string ByteArray.empty), (.string ByteArray.empty)]], 16, 35, true⟩)) rfl rfl rfl (r_store rfl rfl rfl rfl rfl rfl rfl get_here rfl rfl (Nat.le_of_ble_eq_true rfl) rfl) (by omega) ?_
               refine OA.nil ?_
               intro _
               obtain rfl := h1 (by omega)
               refine RA.weaken (D' := [(n, some ⟨[xCk216], 16, 35, true⟩), (q1, some ⟨[[(.string (s.extract 48 s.size)), (.int .i64 2)]], 2, 106, true⟩), (n7, some ⟨[[(.int .i64 (IntKind.wrap .i64 ((at_ s 0 8 : Nat) : Int))), (W (w32 s 8)), (W (w32 s 12)), (W (w32 s 16)), (W (w32 s 20)), (W (w32 s 24)), (W (w32 s 28)), (.int .i64 (((at_ s 32 2) : Nat) : Int)), (.int .i64 (((at_ s 34 2) : Nat) : Int)), (W (w32 s 36)), (.int .i64 (((at_ s 40 2) : Nat) : Int)), (.int .i64 (((at_ s 42 2) : Nat) : Int)), (W (w32 s 44)), (W 0#32), (.string ByteArray.empty), (.string ByteArray.empty)]], 16, 35, true⟩)]) hd (Less.of (fac (mm (fun _ => get_here) (fun _ => (get_there (by omega) (get_there (by omega) (get_there (by omega) (get_there (by omega) (get_there (by omega) (get_there (by omega) (get_there (by omega) (get_there (by omega) (get_there (by omega) (get_there (by omega) get_here)))))))))))) (fac (mm (fun _ => (get_there (by omega) get_here)) (fun _ => (get_there (by omega) (get_there (by omega) (get_there (by omega) (get_there (by omega) get_here)))))) (fac (mm (fun _ => (get_there (by omega) (get_there (by omega) get_here))) (fun _ => get_here)) fan))) (gone_of (by simp only [goneP, memP, List.cons_append, List.nil_append, true_or, or_true, true_and, and_true, or_false] <;> omega))) ?_
               refine RA.rebase [(2, (Pt n 0 0)), (3, (.int .i64 0)), (4, (Pt q1 0 0)), (5, (Pt n7 0 0))] ⟨rfl, rfl, rfl, rfl, trivial⟩ (fun τr => ?_)
               exact sd5 hd n q1 n7 (s.extract 48 s.size) (.int .i64 (IntKind.wrap .i64 ((at_ s 0 8 : Nat) : Int))) (W (w32 s 8)) (W (w32 s 12)) (W (w32 s 16)) (W (w32 s 20)) (W (w32 s 24)) (W (w32 s 28)) (.int .i64 (((at_ s 32 2) : Nat) : Int)) (.int .i64 (((at_ s 34 2) : Nat) : Int)) (W (w32 s 36)) (.int .i64 (((at_ s 40 2) : Nat) : Int)) (.int .i64 (((at_ s 42 2) : Nat) : Int)) (W (w32 s 44)) (W 0#32) (.string ByteArray.empty) (.string ByteArray.empty) (by omega) (by omega) (by omega) n29 (by omega) τr
             ·
              refine OA.call (dst := (some 41)) (all := [(Pt q1 0 0)]) rfl rfl rfl rfl rfl rfl rfl rfl (CQ.imp (rU32S (hd.of (by omega) (kb5 (by omega))) q1 s 44 (by omega) (by omega) get_here) ?_)
              rintro _ n30 _ ⟨rfl, rfl⟩ hn30
              refine OA.app1 ?_
              refine OA.pure (dst := (some 42)) (v := (Pt q1 0 0)) rfl rfl rfl rfl ?_
              refine OA.call (dst := (some 43)) (all := [(Pt q1 0 0)]) rfl rfl rfl rfl rfl rfl rfl rfl (CQ.imp (rU32D (hd.of (by omega) (kb6 (by omega))) q1 _ 0 get_here) ?_)
              rintro _ n31 _ ⟨rfl, rfl⟩ hn31
              refine OA.app0 ?_
              refine OA.pure (dst := (some 44)) (v := (Pt n7 0 10)) rfl rfl rfl rfl ?_
              refine OA.op1 (dst := none) (v := (.tuple #[])) (n1 := n31) (w := (n7, some ⟨[(xCk23 s)], 16, 35, true⟩)) rfl rfl rfl (r_store rfl rfl rfl rfl rfl rfl rfl (get_there (by omega) (get_there (by omega) (get_there (by omega) get_here))) rfl rfl (Nat.le_of_ble_eq_true rfl) rfl) (by omega) ?_
              refine OA.pure (dst := (some 45)) (v := (Pt n7 0 11)) rfl rfl rfl rfl ?_
              refine OA.op1 (dst := none) (v := (.tuple #[])) (n1 := n31) (w := (n7, some ⟨[(xCk22 s)], 16, 35, true⟩)) rfl rfl rfl (r_store rfl rfl rfl rfl rfl rfl rfl get_here rfl rfl (Nat.le_of_ble_eq_true rfl) rfl) (by omega) ?_
              refine OA.pure (dst := (some 46)) (v := (Pt n7 0 12)) rfl rfl rfl rfl ?_
              refine OA.op1 (dst := none) (v := (.tuple #[])) (n1 := n31) (w := (n7, some ⟨[[(.int .i64 (IntKind.wrap .i64 ((at_ s 0 8 : Nat) : Int))), (W (w32 s 8)), (W (w32 s 12)), (W (w32 s 16)), (W (w32 s 20)), (W (w32 s 24)), (W (w32 s 28)), (.int .i64 (((at_ s 32 2) : Nat) : Int)), (.int .i64 (((at_ s 34 2) : Nat) : Int)), (W (w32 s 36)), (.int .i64 (((at_ s 40 2) : Nat) : Int)), (.int .i64 (((at_ s 42 2) : Nat) : Int)), (W 0#32), (.int .u32 0), (.string ByteArray.empty), (.string ByteArray.empty)]], 16, 35, true⟩)) rfl rfl rfl (r_store rfl rfl rfl rfl rfl rfl rfl get_here rfl rfl (Nat.le_of_ble_eq_true rfl) rfl) (by omega) ?_
              refine OA.pure (dst := (some 47)) (v := (Pt n7 0 13)) rfl rfl rfl rfl ?_
              refine OA.op1 (dst := none) (v := (.tuple #[])) (n1 := n31) (w := (n7, some ⟨[[(.int .i64 (IntKind.wrap .i64 ((at_ s 0 8 : Nat) : Int))), (W (w32 s 8)), (W (w32 s 12)), (W (w32 s 16)), (W (w32 s 20)), (W (w32 s 24)), (W (w32 s 28)), (.int .i64 (((at_ s 32 2) : Nat) : Int)), (.int .i64 (((at_ s 34 2) : Nat) : Int)), (W (w32 s 36)), (.int .i64 (((at_ s 40 2) : Nat) : Int)), (.int .i64 (((at_ s 42 2) : Nat) : Int)), (W 0#32), (W 0#32), (.string ByteArray.empty), (.string ByteArray.empty)]], 16, 35, true⟩)) rfl rfl rfl (r_store rfl rfl rfl rfl rfl rfl rfl get_here rfl rfl (Nat.le_of_ble_eq_true rfl) rfl) (by omega) ?_
              refine OA.nil ?_
              intro _
              obtain rfl := h1 (by omega)
              refine RA.weaken (D' := [(n, some ⟨[xCk216], 16, 35, true⟩), (q1, some ⟨[[(.string (s.extract 44 s.size)), (.int .i64 2)]], 2, 106, true⟩), (n7, some ⟨[[(.int .i64 (IntKind.wrap .i64 ((at_ s 0 8 : Nat) : Int))), (W (w32 s 8)), (W (w32 s 12)), (W (w32 s 16)), (W (w32 s 20)), (W (w32 s 24)), (W (w32 s 28)), (.int .i64 (((at_ s 32 2) : Nat) : Int)), (.int .i64 (((at_ s 34 2) : Nat) : Int)), (W (w32 s 36)), (.int .i64 (((at_ s 40 2) : Nat) : Int)), (.int .i64 (((at_ s 42 2) : Nat) : Int)), (W 0#32), (W 0#32), (.string ByteArray.empty), (.string ByteArray.empty)]], 16, 35, true⟩)]) hd (Less.of (fac (mm (fun _ => get_here) (fun _ => (get_there (by omega) (get_there (by omega) (get_there (by omega) (get_there (by omega) (get_there (by omega) (get_there (by omega) (get_there (by omega) (get_there (by omega) (get_there (by omega) get_here))))))))))) (fac (mm (fun _ => (get_there (by omega) get_here)) (fun _ => (get_there (by omega) (get_there (by omega) (get_there (by omega) (get_there (by omega) get_here)))))) (fac (mm (fun _ => (get_there (by omega) (get_there (by omega) get_here))) (fun _ => get_here)) fan))) (gone_of (by simp only [goneP, memP, List.cons_append, List.nil_append, true_or, or_true, true_and, and_true, or_false] <;> omega))) ?_
              refine RA.rebase [(2, (Pt n 0 0)), (3, (.int .i64 0)), (4, (Pt q1 0 0)), (5, (Pt n7 0 0))] ⟨rfl, rfl, rfl, rfl, trivial⟩ (fun τr => ?_)
              exact sd5 hd n q1 n7 (s.extract 44 s.size) (.int .i64 (IntKind.wrap .i64 ((at_ s 0 8 : Nat) : Int))) (W (w32 s 8)) (W (w32 s 12)) (W (w32 s 16)) (W (w32 s 20)) (W (w32 s 24)) (W (w32 s 28)) (.int .i64 (((at_ s 32 2) : Nat) : Int)) (.int .i64 (((at_ s 34 2) : Nat) : Int)) (W (w32 s 36)) (.int .i64 (((at_ s 40 2) : Nat) : Int)) (.int .i64 (((at_ s 42 2) : Nat) : Int)) (W 0#32) (W 0#32) (.string ByteArray.empty) (.string ByteArray.empty) (by omega) (by omega) (by omega) n31 (by omega) τr
            ·
             refine OA.call (dst := (some 39)) (all := [(Pt q1 0 0)]) rfl rfl rfl rfl rfl rfl rfl rfl (CQ.imp (rU16S (hd.of (by omega) (kb4 (by omega))) q1 s 42 (by omega) (by omega) get_here) ?_)
             rintro _ n32 _ ⟨rfl, rfl⟩ hn32
             refine OA.app1 ?_
             refine OA.pure (dst := (some 40)) (v := (Pt q1 0 0)) rfl rfl rfl rfl ?_
             refine OA.call (dst := (some 41)) (all := [(Pt q1 0 0)]) rfl rfl rfl rfl rfl rfl rfl rfl (CQ.imp (rU32D (hd.of (by omega) (kb5 (by omega))) q1 _ 0 get_here) ?_)
             rintro _ n33 _ ⟨rfl, rfl⟩ hn33
             refine OA.app0 ?_
             refine OA.pure (dst := (some 42)) (v := (Pt q1 0 0)) rfl rfl rfl rfl ?_
             refine OA.call (dst := (some 43)) (all := [(Pt q1 0 0)]) rfl rfl rfl rfl rfl rfl rfl rfl (CQ.imp (rU32D (hd.of (by omega) (kb5 (by omega))) q1 _ 0 get_here) ?_)
             rintro _ n34 _ ⟨rfl, rfl⟩ hn34
             refine OA.app0 ?_
             refine OA.pure (dst := (some 44)) (v := (Pt n7 0 10)) rfl rfl rfl rfl ?_
             refine OA.op1 (dst := none) (v := (.tuple #[])) (n1 := n34) (w := (n7, some ⟨[(xCk23 s)], 16, 35, true⟩)) rfl rfl rfl (r_store rfl rfl rfl rfl rfl rfl rfl (get_there (by omega) (get_there (by omega) get_here)) rfl rfl (Nat.le_of_ble_eq_true rfl) rfl) (by omega) ?_
             refine OA.pure (dst := (some 45)) (v := (Pt n7 0 11)) rfl rfl rfl rfl ?_
             refine OA.op1 (dst := none) (v := (.tuple #[])) (n1 := n34) (w := (n7, some ⟨[(xCk23 s)], 16, 35, true⟩)) rfl rfl rfl (r_store rfl rfl rfl rfl rfl rfl rfl get_here rfl rfl (Nat.le_of_ble_eq_true rfl) rfl) (by omega) ?_
             refine OA.pure (dst := (some 46)) (v := (Pt n7 0 12)) rfl rfl rfl rfl ?_
             refine OA.op1 (dst := none) (v := (.tuple #[])) (n1 := n34) (w := (n7, some ⟨[[(.int .i64 (IntKind.wrap .i64 ((at_ s 0 8 : Nat) : Int))), (W (w32 s 8)), (W (w32 s 12)), (W (w32 s 16)), (W (w32 s 20)), (W (w32 s 24)), (W (w32 s 28)), (.int .i64 (((at_ s 32 2) : Nat) : Int)), (.int .i64 (((at_ s 34 2) : Nat) : Int)), (W (w32 s 36)), (.int .i64 (((at_ s 40 2) : Nat) : Int)), (.int .i64 0), (W 0#32), (.int .u32 0), (.string ByteArray.empty), (.string ByteArray.empty)]], 16, 35, true⟩)) rfl rfl rfl (r_store rfl rfl rfl rfl rfl rfl rfl get_here rfl rfl (Nat.le_of_ble_eq_true rfl) rfl) (by omega) ?_
             refine OA.pure (dst := (some 47)) (v := (Pt n7 0 13)) rfl rfl rfl rfl ?_
             refine OA.op1 (dst := none) (v := (.tuple #[])) (n1 := n34) (w := (n7, some ⟨[[(.int .i64 (IntKind.wrap .i64 ((at_ s 0 8 : Nat) : Int))), (W (w32 s 8)), (W (w32 s 12)), (W (w32 s 16)), (W (w32 s 20)), (W (w32 s 24)), (W (w32 s 28)), (.int .i64 (((at_ s 32 2) : Nat) : Int)), (.int .i64 (((at_ s 34 2) : Nat) : Int)), (W (w32 s 36)), (.int .i64 (((at_ s 40 2) : Nat) : Int)), (.int .i64 0), (W 0#32), (W 0#32), (.string ByteArray.empty), (.string ByteArray.empty)]], 16, 35, true⟩)) rfl rfl rfl (r_store rfl rfl rfl rfl rfl rfl rfl get_here rfl rfl (Nat.le_of_ble_eq_true rfl) rfl) (by omega) ?_
             refine OA.nil ?_
             intro _
             obtain rfl := h1 (by omega)
             refine RA.weaken (D' := [(n, some ⟨[xCk216], 16, 35, true⟩), (q1, some ⟨[[(.string (s.extract 42 s.size)), (.int .i64 2)]], 2, 106, true⟩), (n7, some ⟨[[(.int .i64 (IntKind.wrap .i64 ((at_ s 0 8 : Nat) : Int))), (W (w32 s 8)), (W (w32 s 12)), (W (w32 s 16)), (W (w32 s 20)), (W (w32 s 24)), (W (w32 s 28)), (.int .i64 (((at_ s 32 2) : Nat) : Int)), (.int .i64 (((at_ s 34 2) : Nat) : Int)), (W (w32 s 36)), (.int .i64 (((at_ s 40 2) : Nat) : Int)), (.int .i64 0), (W 0#32), (W 0#32), (.string ByteArray.empty), (.string ByteArray.empty)]], 16, 35, true⟩)]) hd (Less.of (fac (mm (fun _ => get_here) (fun _ => (get_there (by omega) (get_there (by omega) (get_there (by omega) (get_there (by omega) (get_there (by omega) (get_there (by omega) (get_there (by omega) (get_there (by omega) get_here)))))))))) (fac (mm (fun _ => (get_there (by omega) get_here)) (fun _ => (get_there (by omega) (get_there (by omega) (get_there (by omega) (get_there (by omega) get_here)))))) (fac (mm (fun _ => (get_there (by omega) (get_there (by omega) get_here))) (fun _ => get_here)) fan))) (gone_of (by simp only [goneP, memP, List.cons_append, List.nil_append, true_or, or_true, true_and, and_true, or_false] <;> omega))) ?_
             refine RA.rebase [(2, (Pt n 0 0)), (3, (.int .i64 0)), (4, (Pt q1 0 0)), (5, (Pt n7 0 0))] ⟨rfl, rfl, rfl, rfl, trivial⟩ (fun τr => ?_)
             exact sd5 hd n q1 n7 (s.extract 42 s.size) (.int .i64 (IntKind.wrap .i64 ((at_ s 0 8 : Nat) : Int))) (W (w32 s 8)) (W (w32 s 12)) (W (w32 s 16)) (W (w32 s 20)) (W (w32 s 24)) (W (w32 s 28)) (.int .i64 (((at_ s 32 2) : Nat) : Int)) (.int .i64 (((at_ s 34 2) : Nat) : Int)) (W (w32 s 36)) (.int .i64 (((at_ s 40 2) : Nat) : Int)) (.int .i64 0) (W 0#32) (W 0#32) (.string ByteArray.empty) (.string ByteArray.empty) (by omega) (by omega) (by omega) n34 (by omega) τr
           ·
            refine OA.call (dst := (some 37)) (all := [(Pt q1 0 0)]) rfl rfl rfl rfl rfl rfl rfl rfl (CQ.imp (rU16S (hd.of (by omega) (kb3 (by omega))) q1 s 40 (by omega) (by omega) (get_there (by omega) get_here)) ?_)
            rintro _ n35 _ ⟨rfl, rfl⟩ hn35
            refine OA.app1 ?_
            refine OA.pure (dst := (some 38)) (v := (Pt q1 0 0)) rfl rfl rfl rfl ?_
            refine OA.call (dst := (some 39)) (all := [(Pt q1 0 0)]) rfl rfl rfl rfl rfl rfl rfl rfl (CQ.imp (rU16D (hd.of (by omega) (kb4 (by omega))) q1 _ 0 get_here) ?_)
            rintro _ n36 _ ⟨rfl, rfl⟩ hn36
            refine OA.app0 ?_
            refine OA.pure (dst := (some 40)) (v := (Pt q1 0 0)) rfl rfl rfl rfl ?_
            refine OA.call (dst := (some 41)) (all := [(Pt q1 0 0)]) rfl rfl rfl rfl rfl rfl rfl rfl (CQ.imp (rU32D (hd.of (by omega) (kb4 (by omega))) q1 _ 0 get_here) ?_)
            rintro _ n37 _ ⟨rfl, rfl⟩ hn37
            refine OA.app0 ?_
            refine OA.pure (dst := (some 42)) (v := (Pt q1 0 0)) rfl rfl rfl rfl ?_
            refine OA.call (dst := (some 43)) (all := [(Pt q1 0 0)]) rfl rfl rfl rfl rfl rfl rfl rfl (CQ.imp (rU32D (hd.of (by omega) (kb4 (by omega))) q1 _ 0 get_here) ?_)
            rintro _ n38 _ ⟨rfl, rfl⟩ hn38
            refine OA.app0 ?_
            refine OA.pure (dst := (some 44)) (v := (Pt n7 0 10)) rfl rfl rfl rfl ?_
            refine OA.op1 (dst := none) (v := (.tuple #[])) (n1 := n38) (w := (n7, some ⟨[(xCk24 s)], 16, 35, true⟩)) rfl rfl rfl (r_store rfl rfl rfl rfl rfl rfl rfl (get_there (by omega) get_here) rfl rfl (Nat.le_of_ble_eq_true rfl) rfl) (by omega) ?_
            refine OA.pure (dst := (some 45)) (v := (Pt n7 0 11)) rfl rfl rfl rfl ?_
            refine OA.op1 (dst := none) (v := (.tuple #[])) (n1 := n38) (w := (n7, some ⟨[(xCk24 s)], 16, 35, true⟩)) rfl rfl rfl (r_store rfl rfl rfl rfl rfl rfl rfl get_here rfl rfl (Nat.le_of_ble_eq_true rfl) rfl) (by omega) ?_
            refine OA.pure (dst := (some 46)) (v := (Pt n7 0 12)) rfl rfl rfl rfl ?_
            refine OA.op1 (dst := none) (v := (.tuple #[])) (n1 := n38) (w := (n7, some ⟨[[(.int .i64 (IntKind.wrap .i64 ((at_ s 0 8 : Nat) : Int))), (W (w32 s 8)), (W (w32 s 12)), (W (w32 s 16)), (W (w32 s 20)), (W (w32 s 24)), (W (w32 s 28)), (.int .i64 (((at_ s 32 2) : Nat) : Int)), (.int .i64 (((at_ s 34 2) : Nat) : Int)), (W (w32 s 36)), (.int .i64 0), (.int .i64 0), (W 0#32), (.int .u32 0), (.string ByteArray.empty), (.string ByteArray.empty)]], 16, 35, true⟩)) rfl rfl rfl (r_store rfl rfl rfl rfl rfl rfl rfl get_here rfl rfl (Nat.le_of_ble_eq_true rfl) rfl) (by omega) ?_
            refine OA.pure (dst := (some 47)) (v := (Pt n7 0 13)) rfl rfl rfl rfl ?_
            refine OA.op1 (dst := none) (v := (.tuple #[])) (n1 := n38) (w := (n7, some ⟨[[(.int .i64 (IntKind.wrap .i64 ((at_ s 0 8 : Nat) : Int))), (W (w32 s 8)), (W (w32 s 12)), (W (w32 s 16)), (W (w32 s 20)), (W (w32 s 24)), (W (w32 s 28)), (.int .i64 (((at_ s 32 2) : Nat) : Int)), (.int .i64 (((at_ s 34 2) : Nat) : Int)), (W (w32 s 36)), (.int .i64 0), (.int .i64 0), (W 0#32), (W 0#32), (.string ByteArray.empty), (.string ByteArray.empty)]], 16, 35, true⟩)) rfl rfl rfl (r_store rfl rfl rfl rfl rfl rfl rfl get_here rfl rfl (Nat.le_of_ble_eq_true rfl) rfl) (by omega) ?_
            refine OA.nil ?_
            intro _
            obtain rfl := h1 (by omega)
            refine RA.weaken (D' := [(n, some ⟨[xCk216], 16, 35, true⟩), (q1, some ⟨[[(.string (s.extract 40 s.size)), (.int .i64 2)]], 2, 106, true⟩), (n7, some ⟨[[(.int .i64 (IntKind.wrap .i64 ((at_ s 0 8 : Nat) : Int))), (W (w32 s 8)), (W (w32 s 12)), (W (w32 s 16)), (W (w32 s 20)), (W (w32 s 24)), (W (w32 s 28)), (.int .i64 (((at_ s 32 2) : Nat) : Int)), (.int .i64 (((at_ s 34 2) : Nat) : Int)), (W (w32 s 36)), (.int .i64 0), (.int .i64 0), (W 0#32), (W 0#32), (.string ByteArray.empty), (.string ByteArray.empty)]], 16, 35, true⟩)]) hd (Less.of (fac (mm (fun _ => get_here) (fun _ => (get_there (by omega) (get_there (by omega) (get_there (by omega) (get_there (by omega) (get_there (by omega) (get_there (by omega) (get_there (by omega) get_here))))))))) (fac (mm (fun _ => (get_there (by omega) get_here)) (fun _ => (get_there (by omega) (get_there (by omega) (get_there (by omega) (get_there (by omega) get_here)))))) (fac (mm (fun _ => (get_there (by omega) (get_there (by omega) get_here))) (fun _ => get_here)) fan))) (gone_of (by simp only [goneP, memP, List.cons_append, List.nil_append, true_or, or_true, true_and, and_true, or_false] <;> omega))) ?_
            refine RA.rebase [(2, (Pt n 0 0)), (3, (.int .i64 0)), (4, (Pt q1 0 0)), (5, (Pt n7 0 0))] ⟨rfl, rfl, rfl, rfl, trivial⟩ (fun τr => ?_)
            exact sd5 hd n q1 n7 (s.extract 40 s.size) (.int .i64 (IntKind.wrap .i64 ((at_ s 0 8 : Nat) : Int))) (W (w32 s 8)) (W (w32 s 12)) (W (w32 s 16)) (W (w32 s 20)) (W (w32 s 24)) (W (w32 s 28)) (.int .i64 (((at_ s 32 2) : Nat) : Int)) (.int .i64 (((at_ s 34 2) : Nat) : Int)) (W (w32 s 36)) (.int .i64 0) (.int .i64 0) (W 0#32) (W 0#32) (.string ByteArray.empty) (.string ByteArray.empty) (by omega) (by omega) (by omega) n38 (by omega) τr
          ·
           refine OA.call (dst := (some 30)) (all := [(Pt q1 0 0)]) rfl rfl rfl rfl rfl rfl rfl rfl (CQ.imp (rU32S (hd.of (by omega) (kb7 (by omega))) q1 s 36 (by omega) (by omega) get_here) ?_)
           rintro _ n39 _ ⟨rfl, rfl⟩ hn39
           refine OA.app1 ?_
           refine OA.pure (dst := (some 31)) (v := (Pt n7 0 5)) rfl rfl rfl rfl ?_
           refine OA.op1 (dst := none) (v := (.tuple #[])) (n1 := n39) (w := (n7, some ⟨[(xCk27 s)], 16, 35, true⟩)) rfl rfl rfl (r_store rfl rfl rfl rfl rfl rfl rfl (get_there (by omega) (get_there (by omega) (get_there (by omega) (get_there (by omega) (get_there (by omega) get_here))))) rfl rfl (Nat.le_of_ble_eq_true rfl) rfl) (by omega) ?_
           refine OA.pure (dst := (some 32)) (v := (Pt n7 0 6)) rfl rfl rfl rfl ?_
           refine OA.op1 (dst := none) (v := (.tuple #[])) (n1 := n39) (w := (n7, some ⟨[(xCk26 s)], 16, 35, true⟩)) rfl rfl rfl (r_store rfl rfl rfl rfl rfl rfl rfl get_here rfl rfl (Nat.le_of_ble_eq_true rfl) rfl) (by omega) ?_
           refine OA.pure (dst := (some 33)) (v := (Pt n7 0 7)) rfl rfl rfl rfl ?_
           refine OA.op1 (dst := none) (v := (.tuple #[])) (n1 := n39) (w := (n7, some ⟨[(xCk25 s)], 16, 35, true⟩)) rfl rfl rfl (r_store rfl rfl rfl rfl rfl rfl rfl get_here rfl rfl (Nat.le_of_ble_eq_true rfl) rfl) (by omega) ?_
           refine OA.pure (dst := (some 34)) (v := (Pt n7 0 8)) rfl rfl rfl rfl ?_
           refine OA.op1 (dst := none) (v := (.tuple #[])) (n1 := n39) (w := (n7, some ⟨[[(.int .i64 (IntKind.wrap .i64 ((at_ s 0 8 : Nat) : Int))), (W (w32 s 8)), (W (w32 s 12)), (W (w32 s 16)), (W (w32 s 20)), (W (w32 s 24)), (W (w32 s 28)), (.int .i64 (((at_ s 32 2) : Nat) : Int)), (.int .i64 (((at_ s 34 2) : Nat) : Int)), (.int .u32 0), (.int .i64 0), (.int .i64 0), (.int .u32 0), (.int .u32 0), (.string ByteArray.empty), (.string ByteArray.empty)]], 16, 35, true⟩)) rfl rfl rfl (r_store rfl rfl rfl rfl rfl rfl rfl get_here rfl rfl (Nat.le_of_ble_eq_true rfl) rfl) (by omega) ?_
           refine OA.pure (dst := (some 35)) (v := (Pt n7 0 9)) rfl rfl rfl rfl ?_
           refine OA.op1 (dst := none) (v := (.tuple #[])) (n1 := n39) (w := (n7, some ⟨[[(.int .i64 (IntKind.wrap .i64 ((at_ s 0 8 : Nat) : Int))), (W (w32 s 8)), (W (w32 s 12)), (W (w32 s 16)), (W (w32 s 20)), (W (w32 s 24)), (W (w32 s 28)), (.int .i64 (((at_ s 32 2) : Nat) : Int)), (.int .i64 (((at_ s 34 2) : Nat) : Int)), (W 0#32), (.int .i64 0), (.int .i64 0), (.int .u32 0), (.int .u32 0), (.string ByteArray.empty), (.string ByteArray.empty)]], 16, 35, true⟩)) rfl rfl rfl (r_store rfl rfl rfl rfl rfl rfl rfl get_here rfl rfl (Nat.le_of_ble_eq_true rfl) rfl) (by omega) ?_
           refine OA.nil ?_
           intro _
           obtain rfl := h1 (by omega)
           refine RA.weaken (D' := [(n, some ⟨[xCk216], 16, 35, true⟩), (q1, some ⟨[[(.string (s.extract 36 s.size)), (.int .i64 2)]], 2, 106, true⟩), (n7, some ⟨[[(.int .i64 (IntKind.wrap .i64 ((at_ s 0 8 : Nat) : Int))), (W (w32 s 8)), (W (w32 s 12)), (W (w32 s 16)), (W (w32 s 20)), (W (w32 s 24)), (W (w32 s 28)), (.int .i64 (((at_ s 32 2) : Nat) : Int)), (.int .i64 (((at_ s 34 2) : Nat) : Int)), (W 0#32), (.int .i64 0), (.int .i64 0), (.int .u32 0), (.int .u32 0), (.string ByteArray.empty), (.string ByteArray.empty)]], 16, 35, true⟩)]) hd (Less.of (fac (mm (fun _ => get_here) (fun _ => (get_there (by omega) (get_there (by omega) (get_there (by omega) (get_there (by omega) (get_there (by omega) (get_there (by omega) (get_there (by omega) (get_there (by omega) (get_there (by omega) (get_there (by omega) (get_there (by omega) (get_there (by omega) get_here)))))))))))))) (fac (mm (fun _ => (get_there (by omega) get_here)) (fun _ => (get_there (by omega) (get_there (by omega) (get_there (by omega) (get_there (by omega) (get_there (by omega) get_here))))))) (fac (mm (fun _ => (get_there (by omega) (get_there (by omega) get_here))) (fun _ => get_here)) fan))) (gone_of (by simp only [goneP, memP, List.cons_append, List.nil_append, true_or, or_true, true_and, and_true, or_false] <;> omega))) ?_
           refine RA.rebase [(2, (Pt n 0 0)), (3, (.int .i64 0)), (4, (Pt q1 0 0)), (5, (Pt n7 0 0))] ⟨rfl, rfl, rfl, rfl, trivial⟩ (fun τr => ?_)
           exact sd4 hd n q1 n7 (s.extract 36 s.size) (.int .i64 (IntKind.wrap .i64 ((at_ s 0 8 : Nat) : Int))) (W (w32 s 8)) (W (w32 s 12)) (W (w32 s 16)) (W (w32 s 20)) (W (w32 s 24)) (W (w32 s 28)) (.int .i64 (((at_ s 32 2) : Nat) : Int)) (.int .i64 (((at_ s 34 2) : Nat) : Int)) (W 0#32) (.int .i64 0) (.int .i64 0) (.int .u32 0) (.int .u32 0) (.string ByteArray.empty) (.string ByteArray.empty) (by omega) (by omega) (by omega) n39 (by omega) τr
         ·
          refine OA.call (dst := (some 28)) (all := [(Pt q1 0 0)]) rfl rfl rfl rfl rfl rfl rfl rfl (CQ.imp (rU16S (hd.of (by omega) (kb6 (by omega))) q1 s 34 (by omega) (by omega) get_here) ?_)
          rintro _ n40 _ ⟨rfl, rfl⟩ hn40
          refine OA.app1 ?_
          refine OA.pure (dst := (some 29)) (v := (Pt q1 0 0)) rfl rfl rfl rfl ?_
          refine OA.call (dst := (some 30)) (all := [(Pt q1 0 0)]) rfl rfl rfl rfl rfl rfl rfl rfl (CQ.imp (rU32D (hd.of (by omega) (kb7 (by omega))) q1 _ 0 get_here) ?_)
          rintro _ n41 _ ⟨rfl, rfl⟩ hn41
          refine OA.app0 ?_
          refine OA.pure (dst := (some 31)) (v := (Pt n7 0 5)) rfl rfl rfl rfl ?_
          refine OA.op1 (dst := none) (v := (.tuple #[])) (n1 := n41) (w := (n7, some ⟨[(xCk27 s)], 16, 35, true⟩)) rfl rfl rfl (r_store rfl rfl rfl rfl rfl rfl rfl (get_there (by omega) (get_there (by omega) (get_there (by omega) (get_there (by omega) get_here)))) rfl rfl (Nat.le_of_ble_eq_true rfl) rfl) (by omega) ?_
          refine OA.pure (dst := (some 32)) (v := (Pt n7 0 6)) rfl rfl rfl rfl ?_
          refine OA.op1 (dst := none) (v := (.tuple #[])) (n1 := n41) (w := (n7, some ⟨[(xCk26 s)], 16, 35, true⟩)) rfl rfl rfl (r_store rfl rfl rfl rfl rfl rfl rfl get_here rfl rfl (Nat.le_of_ble_eq_true rfl) rfl) (by omega) ?_
          refine OA.pure (dst := (some 33)) (v := (Pt n7 0 7)) rfl rfl rfl rfl ?_
          refine OA.op1 (dst := none) (v := (.tuple #[])) (n1 := n41) (w := (n7, some ⟨[(xCk25 s)], 16, 35, true⟩)) rfl rfl rfl (r_store rfl rfl rfl rfl rfl rfl rfl get_here rfl rfl (Nat.le_of_ble_eq_true rfl) rfl) (by omega) ?_
          refine OA.pure (dst := (some 34)) (v := (Pt n7 0 8)) rfl rfl rfl rfl ?_
          refine OA.op1 (dst := none) (v := (.tuple #[])) (n1 := n41) (w := (n7, some ⟨[(xCk25 s)], 16, 35, true⟩)) rfl rfl rfl (r_store rfl rfl rfl rfl rfl rfl rfl get_here rfl rfl (Nat.le_of_ble_eq_true rfl) rfl) (by omega) ?_
          refine OA.pure (dst := (some 35)) (v := (Pt n7 0 9)) rfl rfl rfl rfl ?_
          refine OA.op1 (dst := none) (v := (.tuple #[])) (n1 := n41) (w := (n7, some ⟨[[(.int .i64 (IntKind.wrap .i64 ((at_ s 0 8 : Nat) : Int))), (W (w32 s 8)), (W (w32 s 12)), (W (w32 s 16)), (W (w32 s 20)), (W (w32 s 24)), (W (w32 s 28)), (.int .i64 (((at_ s 32 2) : Nat) : Int)), (.int .i64 0), (W 0#32), (.int .i64 0), (.int .i64 0), (.int .u32 0), (.int .u32 0), (.string ByteArray.empty), (.string ByteArray.empty)]], 16, 35, true⟩)) rfl rfl rfl (r_store rfl rfl rfl rfl rfl rfl rfl get_here rfl rfl (Nat.le_of_ble_eq_true rfl) rfl) (by omega) ?_
          refine OA.nil ?_
          intro _
          obtain rfl := h1 (by omega)
          refine RA.weaken (D' := [(n, some ⟨[xCk216], 16, 35, true⟩), (q1, some ⟨[[(.string (s.extract 34 s.size)), (.int .i64 2)]], 2, 106, true⟩), (n7, some ⟨[[(.int .i64 (IntKind.wrap .i64 ((at_ s 0 8 : Nat) : Int))), (W (w32 s 8)), (W (w32 s 12)), (W (w32 s 16)), (W (w32 s 20)), (W (w32 s 24)), (W (w32 s 28)), (.int .i64 (((at_ s 32 2) : Nat) : Int)), (.int .i64 0), (W 0#32), (.int .i64 0), (.int .i64 0), (.int .u32 0), (.int .u32 0), (.string ByteArray.empty), (.string ByteArray.empty)]], 16, 35, true⟩)]) hd (Less.of (fac (mm (fun _ => get_here) (fun _ => (get_there (by omega) (get_there (by omega) (get_there (by omega) (get_there (by omega) (get_there (by omega) (get_there (by omega) (get_there (by omega) (get_there (by omega) (get_there (by omega) (get_there (by omega) (get_there (by omega) get_here))))))))))))) (fac (mm (fun _ => (get_there (by omega) get_here)) (fun _ => (get_there (by omega) (get_there (by omega) (get_there (by omega) (get_there (by omega) (get_there (by omega) get_here))))))) (fac (mm (fun _ => (get_there (by omega) (get_there (by omega) get_here))) (fun _ => get_here)) fan))) (gone_of (by simp only [goneP, memP, List.cons_append, List.nil_append, true_or, or_true, true_and, and_true, or_false] <;> omega))) ?_
          refine RA.rebase [(2, (Pt n 0 0)), (3, (.int .i64 0)), (4, (Pt q1 0 0)), (5, (Pt n7 0 0))] ⟨rfl, rfl, rfl, rfl, trivial⟩ (fun τr => ?_)
          exact sd4 hd n q1 n7 (s.extract 34 s.size) (.int .i64 (IntKind.wrap .i64 ((at_ s 0 8 : Nat) : Int))) (W (w32 s 8)) (W (w32 s 12)) (W (w32 s 16)) (W (w32 s 20)) (W (w32 s 24)) (W (w32 s 28)) (.int .i64 (((at_ s 32 2) : Nat) : Int)) (.int .i64 0) (W 0#32) (.int .i64 0) (.int .i64 0) (.int .u32 0) (.int .u32 0) (.string ByteArray.empty) (.string ByteArray.empty) (by omega) (by omega) (by omega) n41 (by omega) τr
        ·
         refine OA.call (dst := (some 26)) (all := [(Pt q1 0 0)]) rfl rfl rfl rfl rfl rfl rfl rfl (CQ.imp (rU16S (hd.of (by omega) (kb5 (by omega))) q1 s 32 (by omega) (by omega) get_here) ?_)
         rintro _ n42 _ ⟨rfl, rfl⟩ hn42
         refine OA.app1 ?_
         refine OA.pure (dst := (some 27)) (v := (Pt q1 0 0)) rfl rfl rfl rfl ?_
         refine OA.call (dst := (some 28)) (all := [(Pt q1 0 0)]) rfl rfl rfl rfl rfl rfl rfl rfl (CQ.imp (rU16D (hd.of (by omega) (kb6 (by omega))) q1 _ 0 get_here) ?_)
         rintro _ n43 _ ⟨rfl, rfl⟩ hn43
         refine OA.app0 ?_
         refine OA.pure (dst := (some 29)) (v := (Pt q1 0 0)) rfl rfl rfl rfl ?_
         refine OA.call (dst := (some 30)) (all := [(Pt q1 0 0)]) rfl rfl rfl rfl rfl rfl rfl rfl (CQ.imp (rU32D (hd.of (by omega) (kb6 (by omega))) q1 _ 0 get_here) ?_)
         rintro _ n44 _ ⟨rfl, rfl⟩ hn44
         refine OA.app0 ?_
         refine OA.pure (dst := (some 31)) (v := (Pt n7 0 5)) rfl rfl rfl rfl ?_
         refine OA.op1 (dst := none) (v := (.tuple #[])) (n1 := n44) (w := (n7, some ⟨[(xCk27 s)], 16, 35, true⟩)) rfl rfl rfl (r_store rfl rfl rfl rfl rfl rfl rfl (get_there (by omega) (get_there (by omega) (get_there (by omega) get_here))) rfl rfl (Nat.le_of_ble_eq_true rfl) rfl) (by omega) ?_
         refine OA.pure (dst := (some 32)) (v := (Pt n7 0 6)) rfl rfl rfl rfl ?_
         refine OA.op1 (dst := none) (v := (.tuple #[])) (n1 := n44) (w := (n7, some ⟨[(xCk26 s)], 16, 35, true⟩)) rfl rfl rfl (r_store rfl rfl rfl rfl rfl rfl rfl get_here rfl rfl (Nat.le_of_ble_eq_true rfl) rfl) (by omega) ?_
         refine OA.pure (dst := (some 33)) (v := (Pt n7 0 7)) rfl rfl rfl rfl ?_
         refine OA.op1 (dst := none) (v := (.tuple #[])) (n1 := n44) (w := (n7, some ⟨[(xCk26 s)], 16, 35, true⟩)) rfl rfl rfl (r_store rfl rfl rfl rfl rfl rfl rfl get_here rfl rfl (Nat.le_of_ble_eq_true rfl) rfl) (by omega) ?_
         refine OA.pure (dst := (some 34)) (v := (Pt n7 0 8)) rfl rfl rfl rfl ?_
         refine OA.op1 (dst := none) (v := (.tuple #[])) (n1 := n44) (w := (n7, some ⟨[(xCk26 s)], 16, 35, true⟩)) rfl rfl rfl (r_store rfl rfl rfl rfl rfl rfl rfl get_here rfl rfl (Nat.le_of_ble_eq_true rfl) rfl) (by omega) ?_
         refine OA.pure (dst := (some 35)) (v := (Pt n7 0 9)) rfl rfl rfl rfl ?_
         refine OA.op1 (dst := none) (v := (.tuple #[])) (n1 := n44) (w := (n7, some ⟨[[(.int .i64 (IntKind.wrap .i64 ((at_ s 0 8 : Nat) : Int))), (W (w32 s 8)), (W (w32 s 12)), (W (w32 s 16)), (W (w32 s 20)), (W (w32 s 24)), (W (w32 s 28)), (.int .i64 0), (.int .i64 0), (W 0#32), (.int .i64 0), (.int .i64 0), (.int .u32 0), (.int .u32 0), (.string ByteArray.empty), (.string ByteArray.empty)]], 16, 35, true⟩)) rfl rfl rfl (r_store rfl rfl rfl rfl rfl rfl rfl get_here rfl rfl (Nat.le_of_ble_eq_true rfl) rfl) (by omega) ?_
         refine OA.nil ?_
         intro _
         obtain rfl := h1 (by omega)
         refine RA.weaken (D' := [(n, some ⟨[xCk216], 16, 35, true⟩), (q1, some ⟨[[(.string (s.extract 32 s.size)), (.int .i64 2)]], 2, 106, true⟩), (n7, some ⟨[[(.int .i64 (IntKind.wrap .i64 ((at_ s 0 8 : Nat) : Int))), (W (w32 s 8)), (W (w32 s 12)), (W (w32 s 16)), (W (w32 s 20)), (W (w32 s 24)), (W (w32 s 28)), (.int .i64 0), (.int .i64 0), (W 0#32), (.int .i64 0), (.int .i64 0), (.int .u32 0), (.int .u32 0), (.string ByteArray.empty), (.string ByteArray.empty)]], 16, 35, true⟩)]) hd (Less.of (fac (mm (fun _ => get_here) (fun _ => (get_there (by omega) (get_there (by omega) (get_there (by omega) (get_there (by omega) (get_there (by omega) (get_there (by omega) (get_there (by omega) (get_there (by omega) (get_there (by omega) (get_there (by omega) get_here)))))))))))) (fac (mm (fun _ => (get_there (by omega) get_here)) (fun _ => (get_there (by omega) (get_there (by omega) (get_there (by omega) (get_there (by omega) (get_there (by omega) get_here))))))) (fac (mm (fun _ => (get_there (by omega) (get_there (by omega) get_here))) (fun _ => get_here)) fan))) (gone_of (by simp only [goneP, memP, List.cons_append, List.nil_append, true_or, or_true, true_and, and_true, or_false] <;> omega))) ?_
         refine RA.rebase [(2, (Pt n 0 0)), (3, (.int .i64 0)), (4, (Pt q1 0 0)), (5, (Pt n7 0 0))] ⟨rfl, rfl, rfl, rfl, trivial⟩ (fun τr => ?_)
         exact sd4 hd n q1 n7 (s.extract 32 s.size) (.int .i64 (IntKind.wrap .i64 ((at_ s 0 8 : Nat) : Int))) (W (w32 s 8)) (W (w32 s 12)) (W (w32 s 16)) (W (w32 s 20)) (W (w32 s 24)) (W (w32 s 28)) (.int .i64 0) (.int .i64 0) (W 0#32) (.int .i64 0) (.int .i64 0) (.int .u32 0) (.int .u32 0) (.string ByteArray.empty) (.string ByteArray.empty) (by omega) (by omega) (by omega) n44 (by omega) τr
       ·
        refine OA.call (dst := (some 24)) (all := [(Pt q1 0 0)]) rfl rfl rfl rfl rfl rfl rfl rfl (CQ.imp (rU32S (hd.of (by omega) (kb4 (by omega))) q1 s 28 (by omega) (by omega) get_here) ?_)
        rintro _ n45 _ ⟨rfl, rfl⟩ hn45
        refine OA.app1 ?_
        refine OA.pure (dst := (some 25)) (v := (Pt q1 0 0)) rfl rfl rfl rfl ?_
        refine OA.call (dst := (some 26)) (all := [(Pt q1 0 0)]) rfl rfl rfl rfl rfl rfl rfl rfl (CQ.imp (rU16D (hd.of (by omega) (kb5 (by omega))) q1 _ 0 get_here) ?_)
        rintro _ n46 _ ⟨rfl, rfl⟩ hn46
        refine OA.app0 ?_
        refine OA.pure (dst := (some 27)) (v := (Pt q1 0 0)) rfl rfl rfl rfl ?_
        refine OA.call (dst := (some 28)) (all := [(Pt q1 0 0)]) rfl rfl rfl rfl rfl rfl rfl rfl (CQ.imp (rU16D (hd.of (by omega) (kb5 (by omega))) q1 _ 0 get_here) ?_)
        rintro _ n47 _ ⟨rfl, rfl⟩ hn47
        refine OA.app0 ?_
        refine OA.pure (dst := (some 29)) (v := (Pt q1 0 0)) rfl rfl rfl rfl ?_
        refine OA.call (dst := (some 30)) (all := [(Pt q1 0 0)]) rfl rfl rfl rfl rfl rfl rfl rfl (CQ.imp (rU32D (hd.of (by omega) (kb5 (by omega))) q1 _ 0 get_here) ?_)
        rintro _ n48 _ ⟨rfl, rfl⟩ hn48
        refine OA.app0 ?_
        refine OA.pure (dst := (some 31)) (v := (Pt n7 0 5)) rfl rfl rfl rfl ?_
        refine OA.op1 (dst := none) (v := (.tuple #[])) (n1 := n48) (w := (n7, some ⟨[(xCk27 s)], 16, 35, true⟩)) rfl rfl rfl (r_store rfl rfl rfl rfl rfl rfl rfl (get_there (by omega) (get_there (by omega) get_here)) rfl rfl (Nat.le_of_ble_eq_true rfl) rfl) (by omega) ?_
        refine OA.pure (dst := (some 32)) (v := (Pt n7 0 6)) rfl rfl rfl rfl ?_
        refine OA.op1 (dst := none) (v := (.tuple #[])) (n1 := n48) (w := (n7, some ⟨[(xCk29 s)], 16, 35, true⟩)) rfl rfl rfl (r_store rfl rfl rfl rfl rfl rfl rfl get_here rfl rfl (Nat.le_of_ble_eq_true rfl) rfl) (by omega) ?_
        refine OA.pure (dst := (some 33)) (v := (Pt n7 0 7)) rfl rfl rfl rfl ?_
        refine OA.op1 (dst := none) (v := (.tuple #[])) (n1 := n48) (w := (n7, some ⟨[(xCk29 s)], 16, 35, true⟩)) rfl rfl rfl (r_store rfl rfl rfl rfl rfl rfl rfl get_here rfl rfl (Nat.le_of_ble_eq_true rfl) rfl) (by omega) ?_
        refine OA.pure (dst := (some 34)) (v := (Pt n7 0 8)) rfl rfl rfl rfl ?_
        refine OA.op1 (dst := none) (v := (.tuple #[])) (n1 := n48) (w := (n7, some ⟨[(xCk29 s)], 16, 35, true⟩)) rfl rfl rfl (r_store rfl rfl rfl rfl rfl rfl rfl get_here rfl rfl (Nat.le_of_ble_eq_true rfl) rfl) (by omega) ?_
        refine OA.pure (dst := (some 35)) (v := (Pt n7 0 9)) rfl rfl rfl rfl ?_
        refine OA.op1 (dst := none) (v := (.tuple #[])) (n1 := n48) (w := (n7, some ⟨[[(.int .i64 (IntKind.wrap .i64 ((at_ s 0 8 : Nat) : Int))), (W (w32 s 8)), (W (w32 s 12)), (W (w32 s 16)), (W (w32 s 20)), (W (w32 s 24)), (W 0#32), (.int .i64 0), (.int .i64 0), (W 0#32), (.int .i64 0), (.int .i64 0), (.int .u32 0), (.int .u32 0), (.string ByteArray.empty), (.string ByteArray.empty)]], 16, 35, true⟩)) rfl rfl rfl (r_store rfl rfl rfl rfl rfl rfl rfl get_here rfl rfl (Nat.le_of_ble_eq_true rfl) rfl) (by omega) ?_
        refine OA.nil ?_
        intro _
        obtain rfl := h1 (by omega)
        refine RA.weaken (D' := [(n, some ⟨[xCk216], 16, 35, true⟩), (q1, some ⟨[[(.string (s.extract 28 s.size)), (.int .i64 2)]], 2, 106, true⟩), (n7, some ⟨[[(.int .i64 (IntKind.wrap .i64 ((at_ s 0 8 : Nat) : Int))), (W (w32 s 8)), (W (w32 s 12)), (W (w32 s 16)), (W (w32 s 20)), (W (w32 s 24)), (W 0#32), (.int .i64 0), (.int .i64 0), (W 0#32), (.int .i64 0), (.int .i64 0), (.int .u32 0), (.int .u32 0), (.string ByteArray.empty), (.string ByteArray.empty)]], 16, 35, true⟩)]) hd (Less.of (fac (mm (fun _ => get_here) (fun _ => (get_there (by omega) (get_there (by omega) (get_there (by omega) (get_there (by omega) (get_there (by omega) (get_there (by omega) (get_there (by omega) (get_there (by omega) (get_there (by omega) get_here))))))))))) (fac (mm (fun _ => (get_there (by omega) get_here)) (fun _ => (get_there (by omega) (get_there (by omega) (get_there (by omega) (get_there (by omega) (get_there (by omega) get_here))))))) (fac (mm (fun _ => (get_there (by omega) (get_there (by omega) get_here))) (fun _ => get_here)) fan))) (gone_of (by simp only [goneP, memP, List.cons_append, List.nil_append, true_or, or_true, true_and, and_true, or_false] <;> omega))) ?_
        refine RA.rebase [(2, (Pt n 0 0)), (3, (.int .i64 0)), (4, (Pt q1 0 0)), (5, (Pt n7 0 0))] ⟨rfl, rfl, rfl, rfl, trivial⟩ (fun τr => ?_)
        exact sd4 hd n q1 n7 (s.extract 28 s.size) (.int .i64 (IntKind.wrap .i64 ((at_ s 0 8 : Nat) : Int))) (W (w32 s 8)) (W (w32 s 12)) (W (w32 s 16)) (W (w32 s 20)) (W (w32 s 24)) (W 0#32) (.int .i64 0) (.int .i64 0) (W 0#32) (.int .i64 0) (.int .i64 0) (.int .u32 0) (.int .u32 0) (.string ByteArray.empty) (.string ByteArray.empty) (by omega) (by omega) (by omega) n48 (by omega) τr
      ·
       refine OA.call (dst := (some 22)) (all := [(Pt q1 0 0)]) rfl rfl rfl rfl rfl rfl rfl rfl (CQ.imp (rU32S (hd.of (by omega) (kb3 (by omega))) q1 s 24 (by omega) (by omega) (get_there (by omega) get_here)) ?_)
       rintro _ n49 _ ⟨rfl, rfl⟩ hn49
       refine OA.app1 ?_
       refine OA.pure (dst := (some 23)) (v := (Pt q1 0 0)) rfl rfl rfl rfl ?_
       refine OA.call (dst := (some 24)) (all := [(Pt q1 0 0)]) rfl rfl rfl rfl rfl rfl rfl rfl (CQ.imp (rU32D (hd.of (by omega) (kb4 (by omega))) q1 _ 0 get_here) ?_)
       rintro _ n50 _ ⟨rfl, rfl⟩ hn50
       refine OA.app0 ?_
       refine OA.pure (dst := (some 25)) (v := (Pt q1 0 0)) rfl rfl rfl rfl ?_
       refine OA.call (dst := (some 26)) (all := [(Pt q1 0 0)]) rfl rfl rfl rfl rfl rfl rfl rfl (CQ.imp (rU16D (hd.of (by omega) (kb4 (by omega))) q1 _ 0 get_here) ?_)
       rintro _ n51 _ ⟨rfl, rfl⟩ hn51
       refine OA.app0 ?_
       refine OA.pure (dst := (some 27)) (v := (Pt q1 0 0)) rfl rfl rfl rfl ?_
       refine OA.call (dst := (some 28)) (all := [(Pt q1 0 0)]) rfl rfl rfl rfl rfl rfl rfl rfl (CQ.imp (rU16D (hd.of (by omega) (kb4 (by omega))) q1 _ 0 get_here) ?_)
       rintro _ n52 _ ⟨rfl, rfl⟩ hn52
       refine OA.app0 ?_
       refine OA.pure (dst := (some 29)) (v := (Pt q1 0 0)) rfl rfl rfl rfl ?_
       refine OA.call (dst := (some 30)) (all := [(Pt q1 0 0)]) rfl rfl rfl rfl rfl rfl rfl rfl (CQ.imp (rU32D (hd.of (by omega) (kb4 (by omega))) q1 _ 0 get_here) ?_)
       rintro _ n53 _ ⟨rfl, rfl⟩ hn53
       refine OA.app0 ?_
       refine OA.pure (dst := (some 31)) (v := (Pt n7 0 5)) rfl rfl rfl rfl ?_
       refine OA.op1 (dst := none) (v := (.tuple #[])) (n1 := n53) (w := (n7, some ⟨[[(.int .i64 (IntKind.wrap .i64 ((at_ s 0 8 : Nat) : Int))), (W (w32 s 8)), (W (w32 s 12)), (W (w32 s 16)), (W (w32 s 20)), (W 0#32), (.int .u32 0), (.int .i64 0), (.int .i64 0), (.int .u32 0), (.int .i64 0), (.int .i64 0), (.int .u32 0), (.int .u32 0), (.string ByteArray.empty), (.string ByteArray.empty)]], 16, 35, true⟩)) rfl rfl rfl (r_store rfl rfl rfl rfl rfl rfl rfl (get_there (by omega) get_here) rfl rfl (Nat.le_of_ble_eq_true rfl) rfl) (by omega) ?_
       refine OA.pure (dst := (some 32)) (v := (Pt n7 0 6)) rfl rfl rfl rfl ?_
       refine OA.op1 (dst := none) (v := (.tuple #[])) (n1 := n53) (w := (n7, some ⟨[(xCk212 s)], 16, 35, true⟩)) rfl rfl rfl (r_store rfl rfl rfl rfl rfl rfl rfl get_here rfl rfl (Nat.le_of_ble_eq_true rfl) rfl) (by omega) ?_
       refine OA.pure (dst := (some 33)) (v := (Pt n7 0 7)) rfl rfl rfl rfl ?_
       refine OA.op1 (dst := none) (v := (.tuple #[])) (n1 := n53) (w := (n7, some ⟨[(xCk212 s)], 16, 35, true⟩)) rfl rfl rfl (r_store rfl rfl rfl rfl rfl rfl rfl get_here rfl rfl (Nat.le_of_ble_eq_true rfl) rfl) (by omega) ?_
       refine OA.pure (dst := (some 34)) (v := (Pt n7 0 8)) rfl rfl rfl rfl ?_
       refine OA.op1 (dst := none) (v := (.tuple #[])) (n1 := n53) (w := (n7, some ⟨[(xCk212 s)], 16, 35, true⟩)) rfl rfl rfl (r_store rfl rfl rfl rfl rfl rfl rfl get_here rfl rfl (Nat.le_of_ble_eq_true rfl) rfl) (by omega) ?_
       refine OA.pure (dst := (some 35)) (v := (Pt n7 0 9)) rfl rfl rfl rfl ?_
       refine OA.op1 (dst := none) (v := (.tuple #[])) (n1 := n53) (w := (n7, some ⟨[[(.int .i64 (IntKind.wrap .i64 ((at_ s 0 8 : Nat) : Int))), (W (w32 s 8)), (W (w32 s 12)), (W (w32 s 16)), (W (w32 s 20)), (W 0#32), (W 0#32), (.int .i64 0), (.int .i64 0), (W 0#32), (.int .i64 0), (.int .i64 0), (.int .u32 0), (.int .u32 0), (.string ByteArray.empty), (.string ByteArray.empty)]], 16, 35, true⟩)) rfl rfl rfl (r_store rfl rfl rfl rfl rfl rfl rfl get_here rfl rfl (Nat.le_of_ble_eq_true rfl) rfl) (by omega) ?_
       refine OA.nil ?_
       intro _
       obtain rfl := h1 (by omega)
       refine RA.weaken (D' := [(n, some ⟨[xCk216], 16, 35, true⟩), (q1, some ⟨[[(.string (s.extract 24 s.size)), (.int .i64 2)]], 2, 106, true⟩), (n7, some ⟨[[(.int .i64 (IntKind.wrap .i64 ((at_ s 0 8 : Nat) : Int))), (W (w32 s 8)), (W (w32 s 12)), (W (w32 s 16)), (W (w32 s 20)), (W 0#32), (W 0#32), (.int .i64 0), (.int .i64 0), (W 0#32), (.int .i64 0), (.int .i64 0), (.int .u32 0), (.int .u32 0), (.string ByteArray.empty), (.string ByteArray.empty)]], 16, 35, true⟩)]) hd (Less.of (fac (mm (fun _ => get_here) (fun _ => (get_there (by omega) (get_there (by omega) (get_there (by omega) (get_there (by omega) (get_there (by omega) (get_there (by omega) (get_there (by omega) (get_there (by omega) get_here)))))))))) (fac (mm (fun _ => (get_there (by omega) get_here)) (fun _ => (get_there (by omega) (get_there (by omega) (get_there (by omega) (get_there (by omega) (get_there (by omega) get_here))))))) (fac (mm (fun _ => (get_there (by omega) (get_there (by omega) get_here))) (fun _ => get_here)) fan))) (gone_of (by simp only [goneP, memP, List.cons_append, List.nil_append, true_or, or_true, true_and, and_true, or_false] <;> omega))) ?_
       refine RA.rebase [(2, (Pt n 0 0)), (3, (.int .i64 0)), (4, (Pt q1 0 0)), (5, (Pt n7 0 0))] ⟨rfl, rfl, rfl, rfl, trivial⟩ (fun τr => ?_)
       exact sd4 hd n q1 n7 (s.extract 24 s.size) (.int .i64 (IntKind.wrap .i64 ((at_ s 0 8 : Nat) : Int))) (W (w32 s 8)) (W (w32 s 12)) (W (w32 s 16)) (W (w32 s 20)) (W 0#32) (W 0#32) (.int .i64 0) (.int .i64 0) (W 0#32) (.int .i64 0) (.int .i64 0) (.int .u32 0) (.int .u32 0) (.string ByteArray.empty) (.string ByteArray.empty) (by omega) (by omega) (by omega) n53 (by omega) τr
     ·
      refine OA.call (dst := (some 19)) (all := [(Pt q1 0 0)]) rfl rfl rfl rfl rfl rfl rfl rfl (CQ.imp (rU32S (hd.of (by omega) (kb6 (by omega))) q1 s 20 (by omega) (by omega) get_here) ?_)
      rintro _ n54 _ ⟨rfl, rfl⟩ hn54
      refine OA.app1 ?_
      refine OA.pure (dst := (some 20)) (v := (.agg ⟨(xCk211 s)⟩)) rfl rfl rfl (by kernel_rfl) ?_
      refine OA.op1 (dst := (some 5)) (v := (Pt n54 0 0)) (n1 := (n54 + 1)) (w := (n54, some ⟨[xCk216], 16, 35, true⟩)) rfl rfl rfl rfl (by omega) ?_
      refine OA.op1 (dst := none) (v := (.tuple #[])) (n1 := (n54 + 1)) (w := (n54, some ⟨[(xCk211 s)], 16, 35, true⟩)) rfl rfl rfl (r_store rfl rfl rfl rfl rfl rfl rfl get_here rfl rfl (Nat.le_of_ble_eq_true rfl) rfl) (by omega) ?_
      refine OA.nil ?_
      intro _
      obtain rfl := h1 (by omega)
      refine RA.weaken (D' := [(n, some ⟨[xCk216], 16, 35, true⟩), (q1, some ⟨[[(.string (s.extract 20 s.size)), (.int .i64 2)]], 2, 106, true⟩), (n54, some ⟨[(xCk211 s)], 16, 35, true⟩)]) hd (Less.of (fac (mm (fun _ => get_here) (fun _ => (get_there (by omega) (get_there (by omega) (get_there (by omega) (get_there (by omega) (get_there (by omega) (get_there (by omega) (get_there (by omega) (get_there (by omega) get_here)))))))))) (fac (mm (fun _ => (get_there (by omega) get_here)) (fun _ => (get_there (by omega) (get_there (by omega) get_here)))) (fac (mm (fun _ => (get_there (by omega) (get_there (by omega) get_here))) (fun _ => get_here)) fan))) (gone_of (by simp only [goneP, memP, List.cons_append, List.nil_append, true_or, or_true, true_and, and_true, or_false] <;> omega))) ?_
      refine RA.rebase [(2, (Pt n 0 0)), (3, (.int .i64 0)), (4, (Pt q1 0 0)), (5, (Pt n54 0 0))] ⟨rfl, rfl, rfl, rfl, trivial⟩ (fun τr => ?_)
      exact sd3 hd n q1 n54 (s.extract 20 s.size) (.int .i64 (IntKind.wrap .i64 ((at_ s 0 8 : Nat) : Int))) (W (w32 s 8)) (W (w32 s 12)) (W (w32 s 16)) (W 0#32) (.int .u32 0) (.int .u32 0) (.int .i64 0) (.int .i64 0) (.int .u32 0) (.int .i64 0) (.int .i64 0) (.int .u32 0) (.int .u32 0) (.string ByteArray.empty) (.string ByteArray.empty) (by omega) (by omega) (by omega) (n54 + 1) (by omega) τr
    ·
     refine OA.call (dst := (some 17)) (all := [(Pt q1 0 0)]) rfl rfl rfl rfl rfl rfl rfl rfl (CQ.imp (rU32S (hd.of (by omega) (kb5 (by omega))) q1 s 16 (by omega) (by omega) get_here) ?_)
     rintro _ n55 _ ⟨rfl, rfl⟩ hn55
     refine OA.app1 ?_
     refine OA.pure (dst := (some 18)) (v := (Pt q1 0 0)) rfl rfl rfl rfl ?_
     refine OA.call (dst := (some 19)) (all := [(Pt q1 0 0)]) rfl rfl rfl rfl rfl rfl rfl rfl (CQ.imp (rU32D (hd.of (by omega) (kb6 (by omega))) q1 _ 0 get_here) ?_)
     rintro _ n56 _ ⟨rfl, rfl⟩ hn56
     refine OA.app0 ?_
     refine OA.pure (dst := (some 20)) (v := (.agg ⟨(xCk213 s)⟩)) rfl rfl rfl (by kernel_rfl) ?_
     refine OA.op1 (dst := (some 5)) (v := (Pt n56 0 0)) (n1 := (n56 + 1)) (w := (n56, some ⟨[xCk216], 16, 35, true⟩)) rfl rfl rfl rfl (by omega) ?_
     refine OA.op1 (dst := none) (v := (.tuple #[])) (n1 := (n56 + 1)) (w := (n56, some ⟨[(xCk213 s)], 16, 35, true⟩)) rfl rfl rfl (r_store rfl rfl rfl rfl rfl rfl rfl get_here rfl rfl (Nat.le_of_ble_eq_true rfl) rfl) (by omega) ?_
     refine OA.nil ?_
     intro _
     obtain rfl := h1 (by omega)
     refine RA.weaken (D' := [(n, some ⟨[xCk216], 16, 35, true⟩), (q1, some ⟨[[(.string (s.extract 16 s.size)), (.int .i64 2)]], 2, 106, true⟩), (n56, some ⟨[(xCk213 s)], 16, 35, true⟩)]) hd (Less.of (fac (mm (fun _ => get_here) (fun _ => (get_there (by omega) (get_there (by omega) (get_there (by omega) (get_there (by omega) (get_there (by omega) (get_there (by omega) (get_there (by omega) get_here))))))))) (fac (mm (fun _ => (get_there (by omega) get_here)) (fun _ => (get_there (by omega) (get_there (by omega) get_here)))) (fac (mm (fun _ => (get_there (by omega) (get_there (by omega) get_here))) (fun _ => get_here)) fan))) (gone_of (by simp only [goneP, memP, List.cons_append, List.nil_append, true_or, or_true, true_and, and_true, or_false] <;> omega))) ?_
     refine RA.rebase [(2, (Pt n 0 0)), (3, (.int .i64 0)), (4, (Pt q1 0 0)), (5, (Pt n56 0 0))] ⟨rfl, rfl, rfl, rfl, trivial⟩ (fun τr => ?_)
     exact sd3 hd n q1 n56 (s.extract 16 s.size) (.int .i64 (IntKind.wrap .i64 ((at_ s 0 8 : Nat) : Int))) (W (w32 s 8)) (W (w32 s 12)) (W 0#32) (W 0#32) (.int .u32 0) (.int .u32 0) (.int .i64 0) (.int .i64 0) (.int .u32 0) (.int .i64 0) (.int .i64 0) (.int .u32 0) (.int .u32 0) (.string ByteArray.empty) (.string ByteArray.empty) (by omega) (by omega) (by omega) (n56 + 1) (by omega) τr
   ·
    refine OA.call (dst := (some 15)) (all := [(Pt q1 0 0)]) rfl rfl rfl rfl rfl rfl rfl rfl (CQ.imp (rU32S (hd.of (by omega) (kb4 (by omega))) q1 s 12 (by omega) (by omega) get_here) ?_)
    rintro _ n57 _ ⟨rfl, rfl⟩ hn57
    refine OA.app1 ?_
    refine OA.pure (dst := (some 16)) (v := (Pt q1 0 0)) rfl rfl rfl rfl ?_
    refine OA.call (dst := (some 17)) (all := [(Pt q1 0 0)]) rfl rfl rfl rfl rfl rfl rfl rfl (CQ.imp (rU32D (hd.of (by omega) (kb5 (by omega))) q1 _ 0 get_here) ?_)
    rintro _ n58 _ ⟨rfl, rfl⟩ hn58
    refine OA.app0 ?_
    refine OA.pure (dst := (some 18)) (v := (Pt q1 0 0)) rfl rfl rfl rfl ?_
    refine OA.call (dst := (some 19)) (all := [(Pt q1 0 0)]) rfl rfl rfl rfl rfl rfl rfl rfl (CQ.imp (rU32D (hd.of (by omega) (kb5 (by omega))) q1 _ 0 get_here) ?_)
    rintro _ n59 _ ⟨rfl, rfl⟩ hn59
    refine OA.app0 ?_
    refine OA.pure (dst := (some 20)) (v := (.agg ⟨(xCk214 s)⟩)) rfl rfl rfl (by kernel_rfl) ?_
    refine OA.op1 (dst := (some 5)) (v := (Pt n59 0 0)) (n1 := (n59 + 1)) (w := (n59, some ⟨[xCk216], 16, 35, true⟩)) rfl rfl rfl rfl (by omega) ?_
    refine OA.op1 (dst := none) (v := (.tuple #[])) (n1 := (n59 + 1)) (w := (n59, some ⟨[(xCk214 s)], 16, 35, true⟩)) rfl rfl rfl (r_store rfl rfl rfl rfl rfl rfl rfl get_here rfl rfl (Nat.le_of_ble_eq_true rfl) rfl) (by omega) ?_
    refine OA.nil ?_
    intro _
    obtain rfl := h1 (by omega)
    refine RA.weaken (D' := [(n, some ⟨[xCk216], 16, 35, true⟩), (q1, some ⟨[[(.string (s.extract 12 s.size)), (.int .i64 2)]], 2, 106, true⟩), (n59, some ⟨[(xCk214 s)], 16, 35, true⟩)]) hd (Less.of (fac (mm (fun _ => get_here) (fun _ => (get_there (by omega) (get_there (by omega) (get_there (by omega) (get_there (by omega) (get_there (by omega) (get_there (by omega) get_here)))))))) (fac (mm (fun _ => (get_there (by omega) get_here)) (fun _ => (get_there (by omega) (get_there (by omega) get_here)))) (fac (mm (fun _ => (get_there (by omega) (get_there (by omega) get_here))) (fun _ => get_here)) fan))) (gone_of (by simp only [goneP, memP, List.cons_append, List.nil_append, true_or, or_true, true_and, and_true, or_false] <;> omega))) ?_
    refine RA.rebase [(2, (Pt n 0 0)), (3, (.int .i64 0)), (4, (Pt q1 0 0)), (5, (Pt n59 0 0))] ⟨rfl, rfl, rfl, rfl, trivial⟩ (fun τr => ?_)
    exact sd3 hd n q1 n59 (s.extract 12 s.size) (.int .i64 (IntKind.wrap .i64 ((at_ s 0 8 : Nat) : Int))) (W (w32 s 8)) (W 0#32) (W 0#32) (W 0#32) (.int .u32 0) (.int .u32 0) (.int .i64 0) (.int .i64 0) (.int .u32 0) (.int .i64 0) (.int .i64 0) (.int .u32 0) (.int .u32 0) (.string ByteArray.empty) (.string ByteArray.empty) (by omega) (by omega) (by omega) (n59 + 1) (by omega) τr
  ·
   refine OA.call (dst := (some 13)) (all := [(Pt q1 0 0)]) rfl rfl rfl rfl rfl rfl rfl rfl (CQ.imp (rU32S (hd.of (by omega) (kb3 (by omega))) q1 s 8 (by omega) (by omega) get_here) ?_)
   rintro _ n60 _ ⟨rfl, rfl⟩ hn60
   refine OA.app1 ?_
   refine OA.pure (dst := (some 14)) (v := (Pt q1 0 0)) rfl rfl rfl rfl ?_
   refine OA.call (dst := (some 15)) (all := [(Pt q1 0 0)]) rfl rfl rfl rfl rfl rfl rfl rfl (CQ.imp (rU32D (hd.of (by omega) (kb4 (by omega))) q1 _ 0 get_here) ?_)
   rintro _ n61 _ ⟨rfl, rfl⟩ hn61
   refine OA.app0 ?_
   refine OA.pure (dst := (some 16)) (v := (Pt q1 0 0)) rfl rfl rfl rfl ?_
   refine OA.call (dst := (some 17)) (all := [(Pt q1 0 0)]) rfl rfl rfl rfl rfl rfl rfl rfl (CQ.imp (rU32D (hd.of (by omega) (kb4 (by omega))) q1 _ 0 get_here) ?_)
   rintro _ n62 _ ⟨rfl, rfl⟩ hn62
   refine OA.app0 ?_
   refine OA.pure (dst := (some 18)) (v := (Pt q1 0 0)) rfl rfl rfl rfl ?_
   refine OA.call (dst := (some 19)) (all := [(Pt q1 0 0)]) rfl rfl rfl rfl rfl rfl rfl rfl (CQ.imp (rU32D (hd.of (by omega) (kb4 (by omega))) q1 _ 0 get_here) ?_)
   rintro _ n63 _ ⟨rfl, rfl⟩ hn63
   refine OA.app0 ?_
   refine OA.pure (dst := (some 20)) (v := (.agg ⟨(xCk215 s)⟩)) rfl rfl rfl (by kernel_rfl) ?_
   refine OA.op1 (dst := (some 5)) (v := (Pt n63 0 0)) (n1 := (n63 + 1)) (w := (n63, some ⟨[xCk216], 16, 35, true⟩)) rfl rfl rfl rfl (by omega) ?_
   refine OA.op1 (dst := none) (v := (.tuple #[])) (n1 := (n63 + 1)) (w := (n63, some ⟨[(xCk215 s)], 16, 35, true⟩)) rfl rfl rfl (r_store rfl rfl rfl rfl rfl rfl rfl get_here rfl rfl (Nat.le_of_ble_eq_true rfl) rfl) (by omega) ?_
   refine OA.nil ?_
   intro _
   obtain rfl := h1 (by omega)
   refine RA.weaken (D' := [(n, some ⟨[xCk216], 16, 35, true⟩), (q1, some ⟨[[(.string (s.extract 8 s.size)), (.int .i64 2)]], 2, 106, true⟩), (n63, some ⟨[(xCk215 s)], 16, 35, true⟩)]) hd (Less.of (fac (mm (fun _ => get_here) (fun _ => (get_there (by omega) (get_there (by omega) (get_there (by omega) (get_there (by omega) (get_there (by omega) get_here))))))) (fac (mm (fun _ => (get_there (by omega) get_here)) (fun _ => (get_there (by omega) (get_there (by omega) get_here)))) (fac (mm (fun _ => (get_there (by omega) (get_there (by omega) get_here))) (fun _ => get_here)) fan))) (gone_of (by simp only [goneP, memP, List.cons_append, List.nil_append, true_or, or_true, true_and, and_true, or_false] <;> omega))) ?_
   refine RA.rebase [(2, (Pt n 0 0)), (3, (.int .i64 0)), (4, (Pt q1 0 0)), (5, (Pt n63 0 0))] ⟨rfl, rfl, rfl, rfl, trivial⟩ (fun τr => ?_)
   exact sd3 hd n q1 n63 (s.extract 8 s.size) (.int .i64 (IntKind.wrap .i64 ((at_ s 0 8 : Nat) : Int))) (W 0#32) (W 0#32) (W 0#32) (W 0#32) (.int .u32 0) (.int .u32 0) (.int .i64 0) (.int .i64 0) (.int .u32 0) (.int .i64 0) (.int .i64 0) (.int .u32 0) (.int .u32 0) (.string ByteArray.empty) (.string ByteArray.empty) (by omega) (by omega) (by omega) (n63 + 1) (by omega) τr
 ·
  refine OA.call (dst := (some 10)) (all := [(Pt q1 0 0)]) rfl rfl rfl rfl rfl rfl rfl rfl (CQ.imp (rU64S (hd.of (by omega) (kb2 (by omega))) q1 s 0 (by omega) (by omega) get_here) ?_)
  rintro _ n64 _ ⟨rfl, rfl⟩ hn64
  refine OA.app1 ?_
  refine OA.pure (dst := (some 11)) (v := (.int .i64 0)) rfl rfl rfl rfl ?_
  refine OA.pure (dst := (some 12)) (v := (Pt q1 0 0)) rfl rfl rfl rfl ?_
  refine OA.call (dst := (some 13)) (all := [(Pt q1 0 0)]) rfl rfl rfl rfl rfl rfl rfl rfl (CQ.imp (rU32D (hd.of (by omega) (kb3 (by omega))) q1 _ 0 get_here) ?_)
  rintro _ n65 _ ⟨rfl, rfl⟩ hn65
  refine OA.app0 ?_
  refine OA.pure (dst := (some 14)) (v := (Pt q1 0 0)) rfl rfl rfl rfl ?_
  refine OA.call (dst := (some 15)) (all := [(Pt q1 0 0)]) rfl rfl rfl rfl rfl rfl rfl rfl (CQ.imp (rU32D (hd.of (by omega) (kb3 (by omega))) q1 _ 0 get_here) ?_)
  rintro _ n66 _ ⟨rfl, rfl⟩ hn66
  refine OA.app0 ?_
  refine OA.pure (dst := (some 16)) (v := (Pt q1 0 0)) rfl rfl rfl rfl ?_
  refine OA.call (dst := (some 17)) (all := [(Pt q1 0 0)]) rfl rfl rfl rfl rfl rfl rfl rfl (CQ.imp (rU32D (hd.of (by omega) (kb3 (by omega))) q1 _ 0 get_here) ?_)
  rintro _ n67 _ ⟨rfl, rfl⟩ hn67
  refine OA.app0 ?_
  refine OA.pure (dst := (some 18)) (v := (Pt q1 0 0)) rfl rfl rfl rfl ?_
  refine OA.call (dst := (some 19)) (all := [(Pt q1 0 0)]) rfl rfl rfl rfl rfl rfl rfl rfl (CQ.imp (rU32D (hd.of (by omega) (kb3 (by omega))) q1 _ 0 get_here) ?_)
  rintro _ n68 _ ⟨rfl, rfl⟩ hn68
  refine OA.app0 ?_
  refine OA.pure (dst := (some 20)) (v := (.agg ⟨xCk217⟩)) rfl rfl rfl (by kernel_rfl) ?_
  refine OA.op1 (dst := (some 5)) (v := (Pt n68 0 0)) (n1 := (n68 + 1)) (w := (n68, some ⟨[xCk216], 16, 35, true⟩)) rfl rfl rfl rfl (by omega) ?_
  refine OA.op1 (dst := none) (v := (.tuple #[])) (n1 := (n68 + 1)) (w := (n68, some ⟨[xCk217], 16, 35, true⟩)) rfl rfl rfl (r_store rfl rfl rfl rfl rfl rfl rfl get_here rfl rfl (Nat.le_of_ble_eq_true rfl) rfl) (by omega) ?_
  refine OA.nil ?_
  intro _
  obtain rfl := h1 (by omega)
  refine RA.weaken (D' := [(n, some ⟨[xCk216], 16, 35, true⟩), (q1, some ⟨[[(.string (s.extract 0 s.size)), (.int .i64 2)]], 2, 106, true⟩), (n68, some ⟨[xCk217], 16, 35, true⟩)]) hd (Less.of (fac (mm (fun _ => get_here) (fun _ => (get_there (by omega) (get_there (by omega) (get_there (by omega) (get_there (by omega) get_here)))))) (fac (mm (fun _ => (get_there (by omega) get_here)) (fun _ => (get_there (by omega) (get_there (by omega) get_here)))) (fac (mm (fun _ => (get_there (by omega) (get_there (by omega) get_here))) (fun _ => get_here)) fan))) (gone_of (by simp only [goneP, memP, List.cons_append, List.nil_append, true_or, or_true, true_and, and_true, or_false] <;> omega))) ?_
  refine RA.rebase [(2, (Pt n 0 0)), (3, (.int .i64 0)), (4, (Pt q1 0 0)), (5, (Pt n68 0 0))] ⟨rfl, rfl, rfl, rfl, trivial⟩ (fun τr => ?_)
  exact sd3 hd n q1 n68 (s.extract 0 s.size) (.int .i64 0) (W 0#32) (W 0#32) (W 0#32) (W 0#32) (.int .u32 0) (.int .u32 0) (.int .i64 0) (.int .i64 0) (.int .u32 0) (.int .i64 0) (.int .i64 0) (.int .u32 0) (.int .u32 0) (.string ByteArray.empty) (.string ByteArray.empty) (by omega) (by omega) (by omega) (n68 + 1) (by omega) τr

theorem s47Z {σ : Store} (s : ByteArray) (hs : s.size < 4294967296) (hz : s.size = 84) (h : ¬ MayI (ckOf s)) : PS Try.prog noDen 47 [(.string s)] σ (.tuple #[(.agg ⟨xCk216⟩), .int .i64 3]) := s47A s hs _ (by omega) (by omega) (fun _ _ => rfl) (fun _ q => absurd q h)

theorem s47E2 {σ : Store} (s : ByteArray) (hs : s.size < 4294967296) (hz : s.size < 84) : PS Try.prog noDen 47 [(.string s)] σ (.tuple #[(.agg ⟨xCk216⟩), .int .i64 2]) := s47A s hs _ (fun _ => rfl) (by omega) (by omega) (by omega)

theorem s47E3 {σ : Store} (s : ByteArray) (hs : s.size < 4294967296) (hz : 84 < s.size) : PS Try.prog noDen 47 [(.string s)] σ (.tuple #[(.agg ⟨xCk216⟩), .int .i64 3]) := s47A s hs _ (by omega) (fun _ => rfl) (by omega) (by omega)

theorem s47 {σ : Store} (s : ByteArray) (hs : s.size < 4294967296) (hz : s.size = 84) (h : MayI (ckOf s)) : PS Try.prog noDen 47 [(.string s)] σ (.tuple #[(.agg ⟨[(.int .i64 (ckOf s).made), (W (ckOf s).mine), (W (ckOf s).yours), (W (ckOf s).mt), (W (ckOf s).yt), (W (ckOf s).peer), (W (ckOf s).loc), (.int .i64 (ckOf s).pp), (.int .i64 (ckOf s).mp), (W (ckOf s).rwnd), (.int .i64 (ckOf s).ou), (.int .i64 (ckOf s).inn), (W (ckOf s).tm), (W (ckOf s).ty), (.string (ckOf s).mr), (.string (ckOf s).rn)]⟩), .int .i64 0]) := s47A s hs _ (by omega) (by omega) (fun _ q => absurd h q) (fun _ _ => rfl)
end Go.Proofs.Ytdnkhdkflemkeaa.Vt
