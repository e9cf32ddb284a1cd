/- Tr2: walks through functions of the program, by the calculus; written by a program of this workplace. -/
import Derived.Test.YtgajcmanompmcaaTr1
import Derived.Test.YtgajcmanompmcaaVm5
namespace Go.Proofs.Ytgajcmanompmcaa.Vt
open Go Go.Proofs Go.Proofs.YtgajcmanompmcaaV
set_option maxRecDepth 100000
set_option linter.unusedVariables false
set_option linter.unusedSimpArgs false
def vld (s : ByteArray) (p : Nat) : Prop := p + 31 ≤ s.size ∧ p + 31 + at_ s (p + 29) 2 ≤ s.size
instance (s : ByteArray) (p : Nat) : Decidable (vld s p) := by unfold vld; infer_instance
def nx (s : ByteArray) (p : Nat) : Nat := p + 31 + at_ s (p + 29) 2
def rdA (s : ByteArray) (p : Nat) : Act := ⟨((at_ s p 1 : Nat) : Int), (w32 s (p + 1)).toInt, (w32 s (p + 5)).toInt, (w32 s (p + 9)).toInt, (w32 s (p + 13)).toInt, (w32 s (p + 17)).toInt, (w32 s (p + 21)).toInt, (w32 s (p + 25)).toInt, s.extract (p + 31) (nx s p)⟩
def trN (s : ByteArray) : Nat → Nat → Option (List Act)
  | 0, p => if p = s.size then some [] else none
  | k + 1, p => if p = s.size then some [] else if vld s p then (trN s k (nx s p)).map (rdA s p :: ·) else none
theorem tr_end {s : ByteArray} {K : Nat} {r : Option (List Act)} (h : trN s K s.size = r) : r = some [] := by
  subst h; cases K <;> simp [trN]
theorem tr_step {s : ByteArray} {K p : Nat} {rest : List Act} (h : trN s K p = some rest) (hp : p < s.size) : vld s p ∧ ∃ K' r', rest = rdA s p :: r' ∧ trN s K' (nx s p) = some r' := by
  cases K with
  | zero => rw [trN, if_neg (by omega)] at h; cases h
  | succ K =>
    rw [trN, if_neg (by omega)] at h
    by_cases hv : vld s p
    · rw [if_pos hv] at h
      cases h2 : trN s K (nx s p) with
      | none => rw [h2] at h; cases h
      | some r' => rw [h2] at h; simp at h; exact ⟨hv, K, r', h.symm, h2⟩
    · rw [if_neg hv] at h; cases h
theorem tr_none {s : ByteArray} {K p : Nat} (h : trN s K p = none) (hp : p < s.size) (hK : s.size ≤ K + p) (hv : vld s p) : ∃ K', trN s K' (nx s p) = none ∧ s.size ≤ K' + nx s p := by
  cases K with
  | zero => omega
  | succ K =>
    rw [trN, if_neg (by omega), if_pos hv] at h
    cases h2 : trN s K (nx s p) with
    | none => exact ⟨K, h2, by unfold nx; omega⟩
    | some r' => rw [h2] at h; cases h
abbrev xTr21 (s : ByteArray) (p : Nat) : List Value := [(.int .i64 (((at_ s p 1) : Nat) : Int)), (.int .i64 (w32 s (p + 1)).toInt), (.int .i64 (w32 s (p + 5)).toInt), (.int .i64 (w32 s (p + 9)).toInt), (.int .i64 (w32 s (p + 13)).toInt), (.int .i64 (w32 s (p + 17)).toInt), (.int .i64 (w32 s (p + 21)).toInt), (.int .i64 (w32 s (p + 25)).toInt), (.string (s.extract (p + 31) (nx s p)))]
abbrev xTr22 (s : ByteArray) (p : Nat) : List Value := [(.int .i64 (((at_ s p 1) : Nat) : Int)), (.int .i64 (w32 s (p + 1)).toInt), (.int .i64 (w32 s (p + 5)).toInt), (.int .i64 (w32 s (p + 9)).toInt), (.int .i64 (w32 s (p + 13)).toInt), (.int .i64 (w32 s (p + 17)).toInt), (.int .i64 (w32 s (p + 21)).toInt), (.int .i64 (w32 s (p + 25)).toInt), (.string (ByteArray.mk #[]))]
abbrev xTr23 (s : ByteArray) (p : Nat) : List Value := [(.int .i64 (((at_ s p 1) : Nat) : Int)), (.int .i64 (w32 s (p + 1)).toInt), (.int .i64 (w32 s (p + 5)).toInt), (.int .i64 (w32 s (p + 9)).toInt), (.int .i64 (w32 s (p + 13)).toInt), (.int .i64 (w32 s (p + 17)).toInt), (.int .i64 (w32 s (p + 21)).toInt), (.int .i64 (w32 s (p + 25)).toInt), (.string ByteArray.empty)]
abbrev xTr24 (s : ByteArray) (p : Nat) : List Value := [(.int .i64 (((at_ s p 1) : Nat) : Int)), (.int .i64 (w32 s (p + 1)).toInt), (.int .i64 (w32 s (p + 5)).toInt), (.int .i64 (w32 s (p + 9)).toInt), (.int .i64 (w32 s (p + 13)).toInt), (.int .i64 (w32 s (p + 17)).toInt), (.int .i64 (w32 s (p + 21)).toInt), (.int .i64 0), (.string (ByteArray.mk #[]))]
abbrev xTr25 (s : ByteArray) (p : Nat) : List Value := [(.int .i64 (((at_ s p 1) : Nat) : Int)), (.int .i64 (w32 s (p + 1)).toInt), (.int .i64 (w32 s (p + 5)).toInt), (.int .i64 (w32 s (p + 9)).toInt), (.int .i64 (w32 s (p + 13)).toInt), (.int .i64 (w32 s (p + 17)).toInt), (.int .i64 (w32 s (p + 21)).toInt), (.int .i64 0), (.string ByteArray.empty)]
abbrev xTr26 (s : ByteArray) (p : Nat) : List Value := [(.int .i64 (((at_ s p 1) : Nat) : Int)), (.int .i64 (w32 s (p + 1)).toInt), (.int .i64 (w32 s (p + 5)).toInt), (.int .i64 (w32 s (p + 9)).toInt), (.int .i64 (w32 s (p + 13)).toInt), (.int .i64 (w32 s (p + 17)).toInt), (.int .i64 0), (.int .i64 0), (.string (ByteArray.mk #[]))]
abbrev xTr27 (s : ByteArray) (p : Nat) : List Value := [(.int .i64 (((at_ s p 1) : Nat) : Int)), (.int .i64 (w32 s (p + 1)).toInt), (.int .i64 (w32 s (p + 5)).toInt), (.int .i64 (w32 s (p + 9)).toInt), (.int .i64 (w32 s (p + 13)).toInt), (.int .i64 (w32 s (p + 17)).toInt), (.int .i64 0), (.int .i64 0), (.string ByteArray.empty)]
abbrev xTr28 (s : ByteArray) (p : Nat) : List Value := [(.int .i64 (((at_ s p 1) : Nat) : Int)), (.int .i64 (w32 s (p + 1)).toInt), (.int .i64 (w32 s (p + 5)).toInt), (.int .i64 (w32 s (p + 9)).toInt), (.int .i64 (w32 s (p + 13)).toInt), (.int .i64 0), (.int .i64 0), (.int .i64 0), (.string (ByteArray.mk #[]))]
abbrev xTr29 (s : ByteArray) (p : Nat) : List Value := [(.int .i64 (((at_ s p 1) : Nat) : Int)), (.int .i64 (w32 s (p + 1)).toInt), (.int .i64 (w32 s (p + 5)).toInt), (.int .i64 (w32 s (p + 9)).toInt), (.int .i64 (w32 s (p + 13)).toInt), (.int .i64 0), (.int .i64 0), (.int .i64 0), (.string ByteArray.empty)]
abbrev xTr210 (s : ByteArray) (p : Nat) : List Value := [(.int .i64 (((at_ s p 1) : Nat) : Int)), (.int .i64 (w32 s (p + 1)).toInt), (.int .i64 (w32 s (p + 5)).toInt), (.int .i64 (w32 s (p + 9)).toInt), (.int .i64 0), (.int .i64 0), (.int .i64 0), (.int .i64 0), (.string (ByteArray.mk #[]))]
abbrev xTr211 (s : ByteArray) (p : Nat) : List Value := [(.int .i64 (((at_ s p 1) : Nat) : Int)), (.int .i64 (w32 s (p + 1)).toInt), (.int .i64 (w32 s (p + 5)).toInt), (.int .i64 (w32 s (p + 9)).toInt), (.int .i64 0), (.int .i64 0), (.int .i64 0), (.int .i64 0), (.string ByteArray.empty)]
abbrev xTr212 (s : ByteArray) (p : Nat) : List Value := [(.int .i64 (((at_ s p 1) : Nat) : Int)), (.int .i64 (w32 s (p + 1)).toInt), (.int .i64 (w32 s (p + 5)).toInt), (.int .i64 0), (.int .i64 0), (.int .i64 0), (.int .i64 0), (.int .i64 0), (.string (ByteArray.mk #[]))]
abbrev xTr213 (s : ByteArray) (p : Nat) : List Value := [(.int .i64 (((at_ s p 1) : Nat) : Int)), (.int .i64 (w32 s (p + 1)).toInt), (.int .i64 (w32 s (p + 5)).toInt), (.int .i64 0), (.int .i64 0), (.int .i64 0), (.int .i64 0), (.int .i64 0), (.string ByteArray.empty)]
abbrev xTr214 (s : ByteArray) (p : Nat) : List Value := [(.int .i64 (((at_ s p 1) : Nat) : Int)), (.int .i64 (w32 s (p + 1)).toInt), (.int .i64 0), (.int .i64 0), (.int .i64 0), (.int .i64 0), (.int .i64 0), (.int .i64 0), (.string (ByteArray.mk #[]))]
abbrev xTr215 (s : ByteArray) (p : Nat) : List Value := [(.int .i64 (((at_ s p 1) : Nat) : Int)), (.int .i64 (w32 s (p + 1)).toInt), (.int .i64 0), (.int .i64 0), (.int .i64 0), (.int .i64 0), (.int .i64 0), (.int .i64 0), (.string ByteArray.empty)]
abbrev xTr216 (s : ByteArray) (p : Nat) : List Value := [(.int .i64 (((at_ s p 1) : Nat) : Int)), (.int .i64 0), (.int .i64 0), (.int .i64 0), (.int .i64 0), (.int .i64 0), (.int .i64 0), (.int .i64 0), (.string (ByteArray.mk #[]))]
abbrev xTr217 (s : ByteArray) (p : Nat) : List Value := [(.int .i64 (((at_ s p 1) : Nat) : Int)), (.int .i64 0), (.int .i64 0), (.int .i64 0), (.int .i64 0), (.int .i64 0), (.int .i64 0), (.int .i64 0), (.string ByteArray.empty)]
abbrev xTr218 : List Value := [(.int .i64 0), (.int .i64 0), (.int .i64 0), (.int .i64 0), (.int .i64 0), (.int .i64 0), (.int .i64 0), (.int .i64 0), (.string (ByteArray.mk #[]))]
abbrev xTr219 : List Value := [(.int .i64 0), (.int .i64 0), (.int .i64 0), (.int .i64 0), (.int .i64 0), (.int .i64 0), (.int .i64 0), (.int .i64 0), (.string ByteArray.empty)]
theorem tNumQ {n : Nat} {σ : Store} (hd : Dom n σ) (b r : Nat) (s : ByteArray) (p q : Nat) (hq : q = p + 4) (hk : q ≤ s.size) (hs : s.size < 4294967296) (hbr : b ≠ r) (hb : σ b = some ⟨[[(Pt r 0 0)]], 1, 85, true⟩) (hr : σ r = some ⟨[[(.string (s.extract p s.size)), (.int .i64 0)]], 2, 121, true⟩)  : CQ Try.prog noDen 92 [(Pt b 0 0)] n σ (fun v n' d => v = (.int .i64 (w32 s p).toInt) ∧ d = [(r, some ⟨[[(.string (s.extract q s.size)), (.int .i64 0)]], 2, 121, true⟩)]) := by
 have lhb := hd.lt hb
 have lhr := hd.lt hr
 refine CQ.body (E := env) env_ok hd rfl rfl (by show _ ≤ _; exact of_decide_eq_true (by kernel_rfl)) ?_
 refine RA.seq hd ?_
 refine RA.region env_ok ?_
 refine OA.p (some 1) (.int .i64 0) rfl rfl rfl rfl ?_
 refine OA.nil ?_
 intro _
 refine RA.seq hd ?_
 refine RA.region env_ok ?_
 refine OA.p (some 2) (Pt r 0 0) rfl rfl rfl (r_load1 rfl rfl rfl rfl rfl hb rfl rfl) ?_
 refine OA.call (dst := (some 3)) (all := [(Pt r 0 0)]) rfl rfl rfl rfl rfl rfl rfl rfl (CQ.imp (rU32Q (hd.up (by omega)) r s p q hq hk hs hr) ?_)
 rintro _ n1 _ ⟨rfl, rfl⟩ hn1
 refine OA.app1 ?_
 refine OA.p (some 4) (.int .i32 (w32 s p).toInt) rfl rfl rfl (r_cvt rfl rfl rfl rfl rfl ⟨_, rfl⟩ (wrap_i32W _)) ?_
 refine OA.p (some 5) (.int .i64 (w32 s p).toInt) rfl rfl rfl (r_cvt rfl rfl rfl rfl rfl ⟨_, rfl⟩ (wrap_i64s _)) ?_
 refine OA.p (some 1) (.int .i64 (w32 s p).toInt) rfl rfl rfl rfl ?_
 refine OA.nil ?_
 intro _
 refine RA.ret env_ok ?_
 refine ⟨.inr rfl, [(.int .i64 (w32 s p).toInt)], (resL_cons rfl resL_nil), [(r, some ⟨[[(.string (s.extract q s.size)), (.int .i64 0)]], 2, 121, true⟩)], (Less.refl _ _ _), ⟨rfl, rfl⟩⟩

theorem tNumS {n : Nat} {σ : Store} (hd : Dom n σ) (b r : Nat) (s : ByteArray) (p q : Nat) (hp : p ≤ s.size) (hk : ¬ p + 4 ≤ s.size) (hbr : b ≠ r) (hb : σ b = some ⟨[[(Pt r 0 0)]], 1, 85, true⟩) (hr : σ r = some ⟨[[(.string (s.extract p s.size)), (.int .i64 0)]], 2, 121, true⟩)  : CQ Try.prog noDen 92 [(Pt b 0 0)] n σ (fun v n' d => v = (.int .i64 0) ∧ d = [(r, some ⟨[[(.string (s.extract p s.size)), (.int .i64 2)]], 2, 121, true⟩)]) := by
 have lhb := hd.lt hb
 have lhr := hd.lt hr
 refine CQ.body (E := env) env_ok hd rfl rfl (by show _ ≤ _; exact of_decide_eq_true (by kernel_rfl)) ?_
 refine RA.seq hd ?_
 refine RA.region env_ok ?_
 refine OA.p (some 1) (.int .i64 0) rfl rfl rfl rfl ?_
 refine OA.nil ?_
 intro _
 refine RA.seq hd ?_
 refine RA.region env_ok ?_
 refine OA.p (some 2) (Pt r 0 0) rfl rfl rfl (r_load1 rfl rfl rfl rfl rfl hb rfl rfl) ?_
 refine OA.call (dst := (some 3)) (all := [(Pt r 0 0)]) rfl rfl rfl rfl rfl rfl rfl rfl (CQ.imp (rU32S (hd.up (by omega)) r s p hp hk hr) ?_)
 rintro _ n1 _ ⟨rfl, rfl⟩ hn1
 refine OA.app1 ?_
 refine OA.p (some 4) (.int .i32 (0#32).toInt) rfl rfl rfl (r_cvt rfl rfl rfl rfl rfl ⟨_, rfl⟩ (wrap_i32W _)) ?_
 refine OA.p (some 5) (.int .i64 (0#32).toInt) rfl rfl rfl (r_cvt rfl rfl rfl rfl rfl ⟨_, rfl⟩ (wrap_i64s _)) ?_
 refine OA.p (some 1) (.int .i64 (0#32).toInt) rfl rfl rfl rfl ?_
 refine OA.nil ?_
 intro _
 refine RA.ret env_ok ?_
 refine ⟨.inr rfl, [(.int .i64 (0#32).toInt)], (resL_cons rfl resL_nil), [(r, some ⟨[[(.string (s.extract p s.size)), (.int .i64 2)]], 2, 121, true⟩)], (Less.refl _ _ _), ⟨rfl, rfl⟩⟩

theorem tNumD {n : Nat} {σ : Store} (hd : Dom n σ) (b r : Nat) (s : ByteArray) (p q : Nat)  (hbr : b ≠ r) (hb : σ b = some ⟨[[(Pt r 0 0)]], 1, 85, true⟩) (hr : σ r = some ⟨[[(.string s), (.int .i64 2)]], 2, 121, true⟩)  : CQ Try.prog noDen 92 [(Pt b 0 0)] n σ (fun v n' d => v = (.int .i64 0) ∧ d = []) := by
 have lhb := hd.lt hb
 have lhr := hd.lt hr
 refine CQ.body (E := env) env_ok hd rfl rfl (by show _ ≤ _; exact of_decide_eq_true (by kernel_rfl)) ?_
 refine RA.seq hd ?_
 refine RA.region env_ok ?_
 refine OA.p (some 1) (.int .i64 0) rfl rfl rfl rfl ?_
 refine OA.nil ?_
 intro _
 refine RA.seq hd ?_
 refine RA.region env_ok ?_
 refine OA.p (some 2) (Pt r 0 0) rfl rfl rfl (r_load1 rfl rfl rfl rfl rfl hb rfl rfl) ?_
 refine OA.call (dst := (some 3)) (all := [(Pt r 0 0)]) rfl rfl rfl rfl rfl rfl rfl rfl (CQ.imp (rU32D (hd.up (by omega)) r s p hr) ?_)
 rintro _ n1 _ ⟨rfl, rfl⟩ hn1
 refine OA.app0 ?_
 refine OA.p (some 4) (.int .i32 (0#32).toInt) rfl rfl rfl (r_cvt rfl rfl rfl rfl rfl ⟨_, rfl⟩ (wrap_i32W _)) ?_
 refine OA.p (some 5) (.int .i64 (0#32).toInt) rfl rfl rfl (r_cvt rfl rfl rfl rfl rfl ⟨_, rfl⟩ (wrap_i64s _)) ?_
 refine OA.p (some 1) (.int .i64 (0#32).toInt) rfl rfl rfl rfl ?_
 refine OA.nil ?_
 intro _
 refine RA.ret env_ok ?_
 refine ⟨.inr rfl, [(.int .i64 (0#32).toInt)], (resL_cons rfl resL_nil), [], (Less.refl _ _ _), ⟨rfl, rfl⟩⟩

theorem tTake {n : Nat} {σ : Store} (hd : Dom n σ) (r : Nat) (s : ByteArray) (p : Nat) (hv : vld s p) (hs : s.size < 4294967296) (hr : σ r = some ⟨[[(.string (s.extract p s.size)), (.int .i64 0)]], 2, 121, true⟩)  : CQ Try.prog noDen 58 [(Pt r 0 0)] n σ (fun v n' d => v = .agg ⟨cAct (rdA s p)⟩ ∧ d = [(r, some ⟨[[(.string (s.extract (nx s p) s.size)), (.int .i64 0)]], 2, 121, true⟩)]) := by
 have lhr := hd.lt hr
 obtain ⟨hv1, hv2⟩ := id hv
 refine CQ.body (E := env) env_ok hd rfl rfl (by show _ ≤ _; exact of_decide_eq_true (by kernel_rfl)) ?_
 refine RA.seq hd ?_
 refine RA.region env_ok ?_
 refine OA.op1 (dst := (some 1)) (v := (Pt n 0 0)) (n1 := (n + 1)) (w := (n, some ⟨[[(Pt r 0 0)]], 1, 85, true⟩)) rfl rfl rfl rfl (by omega) ?_
 refine OA.op1 (dst := (some 2)) (v := (.pointer (some ⟨(n + 1), 0, some 0⟩))) (n1 := (n + 2)) (w := ((n + 1), some ⟨[xTr219], 9, 24, true⟩)) rfl rfl rfl rfl (by omega) ?_
 refine OA.nil ?_
 intro _
 refine RA.seq hd ?_
 refine RA.region env_ok ?_
 refine OA.p (some 5) (.func (.func 92) ⟨[]⟩ ⟨[(Pt n 0 0)]⟩) rfl rfl rfl rfl ?_
 refine OA.p (some 3) (.func (.func 92) ⟨[]⟩ ⟨[(Pt n 0 0)]⟩) rfl rfl rfl rfl ?_
 refine OA.nil ?_
 intro _
 refine RA.seq hd ?_
 refine RA.region env_ok ?_
 refine OA.p (some 6) (Pt r 0 0) rfl rfl rfl (r_load1 rfl rfl rfl rfl rfl (get_there (by omega) get_here) rfl rfl) ?_
 refine OA.call (dst := (some 7)) (all := [(Pt r 0 0)]) rfl rfl rfl rfl rfl rfl rfl rfl (CQ.imp (rU8Q (hd.of (by omega) (kb2 (by omega))) r s p (p + 1) rfl (by omega) hs (gt2 (by omega) hr)) ?_)
 rintro _ n1 _ ⟨rfl, rfl⟩ hn1
 refine OA.app1 ?_
 refine OA.p (some 8) (.func (.func 92) ⟨[]⟩ ⟨[(Pt n 0 0)]⟩) rfl rfl rfl rfl ?_
 refine OA.call (dst := (some 9)) (all := [(Pt n 0 0)]) rfl rfl rfl rfl rfl rfl rfl rfl (CQ.imp (tNumQ (hd.of (by omega) (kb3 (by omega))) n r s (p + 1) (p + 5) rfl (by omega) hs (by omega) (gt2 (by omega) get_here) get_here) ?_)
 rintro _ n2 _ ⟨rfl, rfl⟩ hn2
 refine OA.app1 ?_
 refine OA.p (some 10) (.func (.func 92) ⟨[]⟩ ⟨[(Pt n 0 0)]⟩) rfl rfl rfl rfl ?_
 refine OA.call (dst := (some 11)) (all := [(Pt n 0 0)]) rfl rfl rfl rfl rfl rfl rfl rfl (CQ.imp (tNumQ (hd.of (by omega) (kb4 (by omega))) n r s (p + 5) (p + 9) rfl (by omega) hs (by omega) (gt3 (by omega) get_here) get_here) ?_)
 rintro _ n3 _ ⟨rfl, rfl⟩ hn3
 refine OA.app1 ?_
 refine OA.p (some 12) (.func (.func 92) ⟨[]⟩ ⟨[(Pt n 0 0)]⟩) rfl rfl rfl rfl ?_
 refine OA.call (dst := (some 13)) (all := [(Pt n 0 0)]) rfl rfl rfl rfl rfl rfl rfl rfl (CQ.imp (tNumQ (hd.of (by omega) (kb5 (by omega))) n r s (p + 9) (p + 13) rfl (by omega) hs (by omega) (gt4 (by omega) get_here) get_here) ?_)
 rintro _ n4 _ ⟨rfl, rfl⟩ hn4
 refine OA.app1 ?_
 refine OA.p (some 14) (.func (.func 92) ⟨[]⟩ ⟨[(Pt n 0 0)]⟩) rfl rfl rfl rfl ?_
 refine OA.call (dst := (some 15)) (all := [(Pt n 0 0)]) rfl rfl rfl rfl rfl rfl rfl rfl (CQ.imp (tNumQ (hd.of (by omega) (kb6 (by omega))) n r s (p + 13) (p + 17) rfl (by omega) hs (by omega) (gt5 (by omega) get_here) get_here) ?_)
 rintro _ n5 _ ⟨rfl, rfl⟩ hn5
 refine OA.app1 ?_
 refine OA.p (some 16) (.func (.func 92) ⟨[]⟩ ⟨[(Pt n 0 0)]⟩) rfl rfl rfl rfl ?_
 refine OA.call (dst := (some 17)) (all := [(Pt n 0 0)]) rfl rfl rfl rfl rfl rfl rfl rfl (CQ.imp (tNumQ (hd.of (by omega) (kb7 (by omega))) n r s (p + 17) (p + 21) rfl (by omega) hs (by omega) (gt6 (by omega) get_here) get_here) ?_)
 rintro _ n6 _ ⟨rfl, rfl⟩ hn6
 refine OA.app1 ?_
 refine OA.p (some 18) (.func (.func 92) ⟨[]⟩ ⟨[(Pt n 0 0)]⟩) rfl rfl rfl rfl ?_
 refine OA.call (dst := (some 19)) (all := [(Pt n 0 0)]) rfl rfl rfl rfl rfl rfl rfl rfl (CQ.imp (tNumQ (hd.of (by omega) (kb8 (by omega))) n r s (p + 21) (p + 25) rfl (by omega) hs (by omega) (gt7 (by omega) get_here) get_here) ?_)
 rintro _ n7 _ ⟨rfl, rfl⟩ hn7
 refine OA.app1 ?_
 refine OA.p (some 20) (.func (.func 92) ⟨[]⟩ ⟨[(Pt n 0 0)]⟩) rfl rfl rfl rfl ?_
 refine OA.call (dst := (some 21)) (all := [(Pt n 0 0)]) rfl rfl rfl rfl rfl rfl rfl rfl (CQ.imp (tNumQ (hd.of (by omega) (kb9 (by omega))) n r s (p + 25) (p + 29) rfl (by omega) hs (by omega) (gt8 (by omega) get_here) get_here) ?_)
 rintro _ n8 _ ⟨rfl, rfl⟩ hn8
 refine OA.app1 ?_
 refine OA.p (some 22) (.agg ⟨(xTr23 s p)⟩) rfl rfl rfl (by kernel_rfl) ?_
 refine OA.op1 (dst := (some 4)) (v := (Pt n8 0 0)) (n1 := (n8 + 1)) (w := (n8, some ⟨[xTr219], 9, 24, true⟩)) rfl rfl rfl rfl (by omega) ?_
 refine OA.op1 (dst := none) (v := (.tuple #[])) (n1 := (n8 + 1)) (w := (n8, some ⟨[(xTr23 s p)], 9, 24, true⟩)) rfl rfl rfl (r_store rfl rfl rfl rfl rfl rfl rfl get_here rfl rfl (Nat.le_of_ble_eq_true rfl) rfl) (by omega) ?_
 refine OA.nil ?_
 intro _
 refine RA.weaken (D' := [(n8, some ⟨[(xTr23 s p)], 9, 24, true⟩), (r, some ⟨[[(.string (s.extract (p + 29) s.size)), (.int .i64 0)]], 2, 121, true⟩), ((n + 1), some ⟨[xTr219], 9, 24, true⟩), (n, some ⟨[[(Pt r 0 0)]], 1, 85, true⟩)]) hd (Less.of (fac (mm (fun _ => get_here) (fun _ => get_here)) (fac (mm (fun _ => (get_there (by omega) get_here)) (fun _ => (gt2 (by omega) get_here))) (fac (mm (fun _ => (gt2 (by omega) get_here)) (fun _ => (gt10 (by omega) get_here))) (fac (mm (fun _ => (gt3 (by omega) get_here)) (fun _ => (gt11 (by omega) get_here))) fan)))) (gone_of (by simp only [goneP, memP, List.cons_append, List.nil_append, true_or, or_true, true_and, and_true, or_false] <;> omega))) ?_
 refine RA.seq hd ?_
 refine RA.par (md := [some [n], some [n], none, none, some [], none]) env_ok (hd.of (by omega) (kb4 (by omega))) (by kernel_rfl) ?_
 refine PQ.pure (dst := (some 23)) (v := (Pt r 0 0)) rfl rfl rfl (app [(n, some ⟨[[(Pt r 0 0)]], 1, 85, true⟩)] noStore) (seen_one (V := []) (D := [(n8, some ⟨[(xTr23 s p)], 9, 24, true⟩), (r, some ⟨[[(.string (s.extract (p + 29) s.size)), (.int .i64 0)]], 2, 121, true⟩), ((n + 1), some ⟨[xTr219], 9, 24, true⟩), (n, some ⟨[[(Pt r 0 0)]], 1, 85, true⟩)]) (by kernel_rfl) (gt3 (by omega) get_here)) (r_load1 rfl rfl rfl rfl rfl get_here rfl rfl) ?_
 refine PQ.pure (dst := (some 24)) (v := (Pt r 0 0)) rfl rfl rfl (app [(n, some ⟨[[(Pt r 0 0)]], 1, 85, true⟩)] noStore) (seen_one (V := []) (D := [(n8, some ⟨[(xTr23 s p)], 9, 24, true⟩), (r, some ⟨[[(.string (s.extract (p + 29) s.size)), (.int .i64 0)]], 2, 121, true⟩), ((n + 1), some ⟨[xTr219], 9, 24, true⟩), (n, some ⟨[[(Pt r 0 0)]], 1, 85, true⟩)]) (by kernel_rfl) (gt3 (by omega) get_here)) (r_load1 rfl rfl rfl rfl rfl get_here rfl rfl) ?_
 refine PQ.call (dst := (some 25)) (all := [(Pt r 0 0)]) rfl rfl rfl rfl rfl rfl rfl rfl _ (seen_any (V := []) (D := [(n8, some ⟨[(xTr23 s p)], 9, 24, true⟩), (r, some ⟨[[(.string (s.extract (p + 29) s.size)), (.int .i64 0)]], 2, 121, true⟩), ((n + 1), some ⟨[xTr219], 9, 24, true⟩), (n, some ⟨[[(Pt r 0 0)]], 1, 85, true⟩)]) (by kernel_rfl)) (CQ.imp (CQ.keys (rU16Q (hd.of (by omega) (kb4 (by omega))) r s (p + 29) (p + 31) rfl (by omega) hs (get_there (by omega) get_here))) ?_)
 rintro _ n9 _ ⟨hkn9, ⟨rfl, rfl⟩⟩
 have hn9 := hkn9.1
 refine ⟨hn9, (kp1 (by first | exact wr_new (by omega) (by omega) | exact wr_old [0] (by kernel_rfl) (by omega) (by omega) (fac (lo1 rfl (by omega)) fan))), ?_⟩
 refine PQ.call (dst := (some 26)) (all := [(Pt r 0 0), (.int .i64 (((at_ s (p + 29) 2) : Nat) : Int))]) rfl rfl rfl rfl rfl rfl rfl rfl _ (seen_any (V := [(r, some ⟨[[(.string (s.extract (p + 31) s.size)), (.int .i64 0)]], 2, 121, true⟩)]) (D := [(n8, some ⟨[(xTr23 s p)], 9, 24, true⟩), (r, some ⟨[[(.string (s.extract (p + 29) s.size)), (.int .i64 0)]], 2, 121, true⟩), ((n + 1), some ⟨[xTr219], 9, 24, true⟩), (n, some ⟨[[(Pt r 0 0)]], 1, 85, true⟩)]) (by kernel_rfl)) (CQ.imp (CQ.keys (rTakeQ (hd.of (by omega) (kb5 (by omega))) r s (p + 31) (at_ s (p + 29) 2) (nx s p) rfl (by first | omega | (unfold nx; omega)) hs get_here)) ?_)
 rintro _ n10 _ ⟨hkn10, ⟨rfl, rfl⟩⟩
 have hn10 := hkn10.1
 refine ⟨hn10, (kp1 (by first | exact wr_new (by omega) (by omega) | exact wr_tight (by kernel_rfl) (by omega))), ?_⟩
 refine PQ.pure (dst := (some 27)) (v := (Pt n8 0 8)) rfl rfl rfl noStore (none_ok _ _) rfl ?_
 refine PQ.op (dst := none) (v := (.tuple #[])) (n1 := n10) (d1 := [(n8, some ⟨[(xTr21 s p)], 9, 24, true⟩)]) rfl rfl rfl _ (seen_any (V := [(r, some ⟨[[(.string (s.extract (nx s p) s.size)), (.int .i64 0)]], 2, 121, true⟩), (r, some ⟨[[(.string (s.extract (p + 31) s.size)), (.int .i64 0)]], 2, 121, true⟩)]) (D := [(n8, some ⟨[(xTr23 s p)], 9, 24, true⟩), (r, some ⟨[[(.string (s.extract (p + 29) s.size)), (.int .i64 0)]], 2, 121, true⟩), ((n + 1), some ⟨[xTr219], 9, 24, true⟩), (n, some ⟨[[(Pt r 0 0)]], 1, 85, true⟩)]) (by kernel_rfl)) (r_store rfl rfl rfl rfl rfl rfl rfl (gt2 (by omega) get_here) rfl rfl (Nat.le_of_ble_eq_true rfl) rfl) (by omega) (kp1 (wr_tight (by kernel_rfl) (by omega))) ?_
 refine PQ.done (d := [(n8, some ⟨[(xTr21 s p)], 9, 24, true⟩), (r, some ⟨[[(.string (s.extract (nx s p) s.size)), (.int .i64 0)]], 2, 121, true⟩), (r, some ⟨[[(.string (s.extract (p + 31) s.size)), (.int .i64 0)]], 2, 121, true⟩)]) (by kernel_rfl) ?_
 intro _
 refine RA.weaken (D' := [(n8, some ⟨[(xTr21 s p)], 9, 24, true⟩), (r, some ⟨[[(.string (s.extract (nx s p) s.size)), (.int .i64 0)]], 2, 121, true⟩), ((n + 1), some ⟨[xTr219], 9, 24, true⟩), (n, some ⟨[[(Pt r 0 0)]], 1, 85, true⟩)]) hd (Less.of (fac (mm (fun _ => get_here) (fun _ => get_here)) (fac (mm (fun _ => (get_there (by omega) get_here)) (fun _ => (get_there (by omega) get_here))) (fac (mm (fun _ => (gt2 (by omega) get_here)) (fun _ => (gt5 (by omega) get_here))) (fac (mm (fun _ => (gt3 (by omega) get_here)) (fun _ => (gt6 (by omega) get_here))) fan)))) (gone_of (by simp only [goneP, memP, List.cons_append, List.nil_append, true_or, or_true, true_and, and_true, or_false] <;> omega))) ?_
 refine RA.rebase [(0, (Pt r 0 0)), (1, (Pt n 0 0)), (2, (.pointer (some ⟨(n + 1), 0, some 0⟩))), (3, (.func (.func 92) ⟨[]⟩ ⟨[(Pt n 0 0)]⟩)), (4, (Pt n8 0 0))] ⟨rfl, rfl, rfl, rfl, rfl, trivial⟩ (fun τr11 => ?_)
 refine RA.seq hd ?_
 refine RA.region env_ok ?_
 refine OA.p (some 28) (.agg ⟨(xTr21 s p)⟩) rfl rfl rfl (r_loadA rfl rfl rfl rfl get_here rfl rfl rfl) ?_
 refine OA.op1 (dst := none) (v := (.tuple #[])) (n1 := n10) (w := ((n + 1), some ⟨[(xTr21 s p)], 9, 24, true⟩)) rfl rfl rfl (r_store rfl rfl rfl rfl rfl rfl rfl (gt2 (by omega) get_here) rfl rfl (Nat.le_of_ble_eq_true rfl) rfl) (by omega) ?_
 refine OA.nil ?_
 intro _
 refine RA.weaken (D' := [((n + 1), some ⟨[(xTr21 s p)], 9, 24, true⟩), (n8, some ⟨[(xTr21 s p)], 9, 24, true⟩), (r, some ⟨[[(.string (s.extract (nx s p) s.size)), (.int .i64 0)]], 2, 121, true⟩), (n, some ⟨[[(Pt r 0 0)]], 1, 85, true⟩)]) hd (Less.of (fac (mm (fun _ => get_here) (fun _ => get_here)) (fac (mm (fun _ => (get_there (by omega) get_here)) (fun _ => (get_there (by omega) get_here))) (fac (mm (fun _ => (gt2 (by omega) get_here)) (fun _ => (gt2 (by omega) get_here))) (fac (mm (fun _ => (gt3 (by omega) get_here)) (fun _ => (gt4 (by omega) get_here))) fan)))) (gone_of (by simp only [goneP, memP, List.cons_append, List.nil_append, true_or, or_true, true_and, and_true, or_false] <;> omega))) ?_
 refine RA.ret env_ok ?_
 refine ⟨.inr rfl, [(.agg ⟨(xTr21 s p)⟩)], (resL_cons (res_cellA rfl rfl rfl get_here rfl rfl rfl) resL_nil), [(r, some ⟨[[(.string (s.extract (nx s p) s.size)), (.int .i64 0)]], 2, 121, true⟩)], (Less.of (fac (mm (fun _ => get_here) (fun _ => (gt2 (by omega) get_here))) fan) (gone_of (by simp only [goneP, memP, List.cons_append, List.nil_append, true_or, or_true, true_and, and_true, or_false] <;> omega))), ⟨rfl, rfl⟩⟩

theorem tTakeS {n : Nat} {σ : Store} (hd : Dom n σ) (r : Nat) (s : ByteArray) (p : Nat) (hp : p ≤ s.size) (hv : ¬ vld s p) (hs : s.size < 4294967296) (hr : σ r = some ⟨[[(.string (s.extract p s.size)), (.int .i64 0)]], 2, 121, true⟩)  : CQ Try.prog noDen 58 [(Pt r 0 0)] n σ (fun v n' d => ∃ x s', v = .agg ⟨cAct x⟩ ∧ d = [(r, some ⟨[[(.string s'), (.int .i64 2)]], 2, 121, true⟩)]) := by
 have lhr := hd.lt hr
 refine CQ.body (E := env) env_ok hd rfl rfl (by show _ ≤ _; exact of_decide_eq_true (by kernel_rfl)) ?_
 refine RA.seq hd ?_
 refine RA.region env_ok ?_
 refine OA.op1 (dst := (some 1)) (v := (Pt n 0 0)) (n1 := (n + 1)) (w := (n, some ⟨[[(Pt r 0 0)]], 1, 85, true⟩)) rfl rfl rfl rfl (by omega) ?_
 refine OA.op1 (dst := (some 2)) (v := (.pointer (some ⟨(n + 1), 0, some 0⟩))) (n1 := (n + 2)) (w := ((n + 1), some ⟨[xTr219], 9, 24, true⟩)) rfl rfl rfl rfl (by omega) ?_
 refine OA.nil ?_
 intro _
 refine RA.seq hd ?_
 refine RA.region env_ok ?_
 refine OA.p (some 5) (.func (.func 92) ⟨[]⟩ ⟨[(Pt n 0 0)]⟩) rfl rfl rfl rfl ?_
 refine OA.p (some 3) (.func (.func 92) ⟨[]⟩ ⟨[(Pt n 0 0)]⟩) rfl rfl rfl rfl ?_
 refine OA.nil ?_
 intro _
 refine RA.seq hd ?_
 refine RA.region env_ok ?_
 refine OA.p (some 6) (Pt r 0 0) rfl rfl rfl (r_load1 rfl rfl rfl rfl rfl (get_there (by omega) get_here) rfl rfl) ?_
 by_cases hc1 : (p + 1) ≤ s.size
 ·
  refine OA.call (dst := (some 7)) (all := [(Pt r 0 0)]) rfl rfl rfl rfl rfl rfl rfl rfl (CQ.imp (rU8Q (hd.of (by omega) (kb2 (by omega))) r s p (p + 1) rfl (by omega) hs (gt2 (by omega) hr)) ?_)
  rintro _ n1 _ ⟨rfl, rfl⟩ hn1
  refine OA.app1 ?_
  refine OA.p (some 8) (.func (.func 92) ⟨[]⟩ ⟨[(Pt n 0 0)]⟩) rfl rfl rfl rfl ?_
  by_cases hc2 : (p + 5) ≤ s.size
  ·
   refine OA.call (dst := (some 9)) (all := [(Pt n 0 0)]) rfl rfl rfl rfl rfl rfl rfl rfl (CQ.imp (tNumQ (hd.of (by omega) (kb3 (by omega))) n r s (p + 1) (p + 5) rfl (by omega) hs (by omega) (gt2 (by omega) get_here) get_here) ?_)
   rintro _ n2 _ ⟨rfl, rfl⟩ hn2
   refine OA.app1 ?_
   refine OA.p (some 10) (.func (.func 92) ⟨[]⟩ ⟨[(Pt n 0 0)]⟩) rfl rfl rfl rfl ?_
   by_cases hc3 : (p + 9) ≤ s.size
   ·
    refine OA.call (dst := (some 11)) (all := [(Pt n 0 0)]) rfl rfl rfl rfl rfl rfl rfl rfl (CQ.imp (tNumQ (hd.of (by omega) (kb4 (by omega))) n r s (p + 5) (p + 9) rfl (by omega) hs (by omega) (gt3 (by omega) get_here) get_here) ?_)
    rintro _ n3 _ ⟨rfl, rfl⟩ hn3
    refine OA.app1 ?_
    refine OA.p (some 12) (.func (.func 92) ⟨[]⟩ ⟨[(Pt n 0 0)]⟩) rfl rfl rfl rfl ?_
    by_cases hc4 : (p + 13) ≤ s.size
    ·
     refine OA.call (dst := (some 13)) (all := [(Pt n 0 0)]) rfl rfl rfl rfl rfl rfl rfl rfl (CQ.imp (tNumQ (hd.of (by omega) (kb5 (by omega))) n r s (p + 9) (p + 13) rfl (by omega) hs (by omega) (gt4 (by omega) get_here) get_here) ?_)
     rintro _ n4 _ ⟨rfl, rfl⟩ hn4
     refine OA.app1 ?_
     refine OA.p (some 14) (.func (.func 92) ⟨[]⟩ ⟨[(Pt n 0 0)]⟩) rfl rfl rfl rfl ?_
     by_cases hc5 : (p + 17) ≤ s.size
     ·
      refine OA.call (dst := (some 15)) (all := [(Pt n 0 0)]) rfl rfl rfl rfl rfl rfl rfl rfl (CQ.imp (tNumQ (hd.of (by omega) (kb6 (by omega))) n r s (p + 13) (p + 17) rfl (by omega) hs (by omega) (gt5 (by omega) get_here) get_here) ?_)
      rintro _ n5 _ ⟨rfl, rfl⟩ hn5
      refine OA.app1 ?_
      refine OA.p (some 16) (.func (.func 92) ⟨[]⟩ ⟨[(Pt n 0 0)]⟩) rfl rfl rfl rfl ?_
      by_cases hc6 : (p + 21) ≤ s.size
      ·
       refine OA.call (dst := (some 17)) (all := [(Pt n 0 0)]) rfl rfl rfl rfl rfl rfl rfl rfl (CQ.imp (tNumQ (hd.of (by omega) (kb7 (by omega))) n r s (p + 17) (p + 21) rfl (by omega) hs (by omega) (gt6 (by omega) get_here) get_here) ?_)
       rintro _ n6 _ ⟨rfl, rfl⟩ hn6
       refine OA.app1 ?_
       refine OA.p (some 18) (.func (.func 92) ⟨[]⟩ ⟨[(Pt n 0 0)]⟩) rfl rfl rfl rfl ?_
       by_cases hc7 : (p + 25) ≤ s.size
       ·
        refine OA.call (dst := (some 19)) (all := [(Pt n 0 0)]) rfl rfl rfl rfl rfl rfl rfl rfl (CQ.imp (tNumQ (hd.of (by omega) (kb8 (by omega))) n r s (p + 21) (p + 25) rfl (by omega) hs (by omega) (gt7 (by omega) get_here) get_here) ?_)
        rintro _ n7 _ ⟨rfl, rfl⟩ hn7
        refine OA.app1 ?_
        refine OA.p (some 20) (.func (.func 92) ⟨[]⟩ ⟨[(Pt n 0 0)]⟩) rfl rfl rfl rfl ?_
        by_cases hc8 : (p + 29) ≤ s.size
        ·
         refine OA.call (dst := (some 21)) (all := [(Pt n 0 0)]) rfl rfl rfl rfl rfl rfl rfl rfl (CQ.imp (tNumQ (hd.of (by omega) (kb9 (by omega))) n r s (p + 25) (p + 29) rfl (by omega) hs (by omega) (gt8 (by omega) get_here) get_here) ?_)
         rintro _ n8 _ ⟨rfl, rfl⟩ hn8
         refine OA.app1 ?_
         refine OA.p (some 22) (.agg ⟨(xTr23 s p)⟩) rfl rfl rfl (by kernel_rfl) ?_
         refine OA.op1 (dst := (some 4)) (v := (Pt n8 0 0)) (n1 := (n8 + 1)) (w := (n8, some ⟨[xTr219], 9, 24, true⟩)) rfl rfl rfl rfl (by omega) ?_
         refine OA.op1 (dst := none) (v := (.tuple #[])) (n1 := (n8 + 1)) (w := (n8, some ⟨[(xTr23 s p)], 9, 24, true⟩)) rfl rfl rfl (r_store rfl rfl rfl rfl rfl rfl rfl get_here rfl rfl (Nat.le_of_ble_eq_true rfl) rfl) (by omega) ?_
         refine OA.nil ?_
         intro _
         refine RA.weaken (D' := [(n8, some ⟨[(xTr23 s p)], 9, 24, true⟩), (r, some ⟨[[(.string (s.extract (p + 29) s.size)), (.int .i64 0)]], 2, 121, true⟩), ((n + 1), some ⟨[xTr219], 9, 24, true⟩), (n, some ⟨[[(Pt r 0 0)]], 1, 85, true⟩)]) hd (Less.of (fac (mm (fun _ => get_here) (fun _ => get_here)) (fac (mm (fun _ => (get_there (by omega) get_here)) (fun _ => (gt2 (by omega) get_here))) (fac (mm (fun _ => (gt2 (by omega) get_here)) (fun _ => (gt10 (by omega) get_here))) (fac (mm (fun _ => (gt3 (by omega) get_here)) (fun _ => (gt11 (by omega) get_here))) fan)))) (gone_of (by simp only [goneP, memP, List.cons_append, List.nil_append, true_or, or_true, true_and, and_true, or_false] <;> omega))) ?_
         refine RA.seq hd ?_
         refine RA.par (md := [some [n], some [n], none, none, some [], none]) env_ok (hd.of (by omega) (kb4 (by omega))) (by kernel_rfl) ?_
         refine PQ.pure (dst := (some 23)) (v := (Pt r 0 0)) rfl rfl rfl (app [(n, some ⟨[[(Pt r 0 0)]], 1, 85, true⟩)] noStore) (seen_one (V := []) (D := [(n8, some ⟨[(xTr23 s p)], 9, 24, true⟩), (r, some ⟨[[(.string (s.extract (p + 29) s.size)), (.int .i64 0)]], 2, 121, true⟩), ((n + 1), some ⟨[xTr219], 9, 24, true⟩), (n, some ⟨[[(Pt r 0 0)]], 1, 85, true⟩)]) (by kernel_rfl) (gt3 (by omega) get_here)) (r_load1 rfl rfl rfl rfl rfl get_here rfl rfl) ?_
         refine PQ.pure (dst := (some 24)) (v := (Pt r 0 0)) rfl rfl rfl (app [(n, some ⟨[[(Pt r 0 0)]], 1, 85, true⟩)] noStore) (seen_one (V := []) (D := [(n8, some ⟨[(xTr23 s p)], 9, 24, true⟩), (r, some ⟨[[(.string (s.extract (p + 29) s.size)), (.int .i64 0)]], 2, 121, true⟩), ((n + 1), some ⟨[xTr219], 9, 24, true⟩), (n, some ⟨[[(Pt r 0 0)]], 1, 85, true⟩)]) (by kernel_rfl) (gt3 (by omega) get_here)) (r_load1 rfl rfl rfl rfl rfl get_here rfl rfl) ?_
         by_cases hc9 : (p + 31) ≤ s.size
         ·
          refine PQ.call (dst := (some 25)) (all := [(Pt r 0 0)]) rfl rfl rfl rfl rfl rfl rfl rfl _ (seen_any (V := []) (D := [(n8, some ⟨[(xTr23 s p)], 9, 24, true⟩), (r, some ⟨[[(.string (s.extract (p + 29) s.size)), (.int .i64 0)]], 2, 121, true⟩), ((n + 1), some ⟨[xTr219], 9, 24, true⟩), (n, some ⟨[[(Pt r 0 0)]], 1, 85, true⟩)]) (by kernel_rfl)) (CQ.imp (CQ.keys (rU16Q (hd.of (by omega) (kb4 (by omega))) r s (p + 29) (p + 31) rfl (by omega) hs (get_there (by omega) get_here))) ?_)
          rintro _ n9 _ ⟨hkn9, ⟨rfl, rfl⟩⟩
          have hn9 := hkn9.1
          refine ⟨hn9, (kp1 (by first | exact wr_new (by omega) (by omega) | exact wr_old [0] (by kernel_rfl) (by omega) (by omega) (fac (lo1 rfl (by omega)) fan))), ?_⟩
          by_cases hc10 : (nx s p) ≤ s.size
          · exfalso; first | omega | (exact hv ⟨by omega, hc10⟩) | (unfold nx at *; exact hv ⟨by omega, by omega⟩)
          ·
           refine PQ.call (dst := (some 26)) (all := [(Pt r 0 0), (.int .i64 (((at_ s (p + 29) 2) : Nat) : Int))]) rfl rfl rfl rfl rfl rfl rfl rfl _ (seen_any (V := [(r, some ⟨[[(.string (s.extract (p + 31) s.size)), (.int .i64 0)]], 2, 121, true⟩)]) (D := [(n8, some ⟨[(xTr23 s p)], 9, 24, true⟩), (r, some ⟨[[(.string (s.extract (p + 29) s.size)), (.int .i64 0)]], 2, 121, true⟩), ((n + 1), some ⟨[xTr219], 9, 24, true⟩), (n, some ⟨[[(Pt r 0 0)]], 1, 85, true⟩)]) (by kernel_rfl)) (CQ.imp (CQ.keys (rTakeS (hd.of (by omega) (kb5 (by omega))) r _ (at_ s (p + 29) 2) (by rw [size_cut _ _ _ (Nat.le_refl _)]; unfold nx at *; omega) get_here)) ?_)
           rintro _ n10 _ ⟨hkn10, ⟨rfl, rfl⟩⟩
           have hn10 := hkn10.1
           refine ⟨hn10, (kp1 (by first | exact wr_new (by omega) (by omega) | exact wr_tight (by kernel_rfl) (by omega))), ?_⟩
           refine PQ.pure (dst := (some 27)) (v := (Pt n8 0 8)) rfl rfl rfl noStore (none_ok _ _) rfl ?_
           refine PQ.op (dst := none) (v := (.tuple #[])) (n1 := n10) (d1 := [(n8, some ⟨[(xTr22 s p)], 9, 24, true⟩)]) rfl rfl rfl _ (seen_any (V := [(r, some ⟨[[(.string (s.extract (p + 31) s.size)), (.int .i64 2)]], 2, 121, true⟩), (r, some ⟨[[(.string (s.extract (p + 31) s.size)), (.int .i64 0)]], 2, 121, true⟩)]) (D := [(n8, some ⟨[(xTr23 s p)], 9, 24, true⟩), (r, some ⟨[[(.string (s.extract (p + 29) s.size)), (.int .i64 0)]], 2, 121, true⟩), ((n + 1), some ⟨[xTr219], 9, 24, true⟩), (n, some ⟨[[(Pt r 0 0)]], 1, 85, true⟩)]) (by kernel_rfl)) (r_store rfl rfl rfl rfl rfl rfl rfl (gt2 (by omega) get_here) rfl rfl (Nat.le_of_ble_eq_true rfl) rfl) (by omega) (kp1 (wr_tight (by kernel_rfl) (by omega))) ?_
           refine PQ.done (d := [(n8, some ⟨[(xTr22 s p)], 9, 24, true⟩), (r, some ⟨[[(.string (s.extract (p + 31) s.size)), (.int .i64 2)]], 2, 121, true⟩), (r, some ⟨[[(.string (s.extract (p + 31) s.size)), (.int .i64 0)]], 2, 121, true⟩)]) (by kernel_rfl) ?_
           intro _
           refine RA.weaken (D' := [(n8, some ⟨[(xTr22 s p)], 9, 24, true⟩), (r, some ⟨[[(.string (s.extract (p + 31) s.size)), (.int .i64 2)]], 2, 121, true⟩), ((n + 1), some ⟨[xTr219], 9, 24, true⟩), (n, some ⟨[[(Pt r 0 0)]], 1, 85, true⟩)]) hd (Less.of (fac (mm (fun _ => get_here) (fun _ => get_here)) (fac (mm (fun _ => (get_there (by omega) get_here)) (fun _ => (get_there (by omega) get_here))) (fac (mm (fun _ => (gt2 (by omega) get_here)) (fun _ => (gt5 (by omega) get_here))) (fac (mm (fun _ => (gt3 (by omega) get_here)) (fun _ => (gt6 (by omega) get_here))) fan)))) (gone_of (by simp only [goneP, memP, List.cons_append, List.nil_append, true_or, or_true, true_and, and_true, or_false] <;> omega))) ?_
           refine RA.rebase [(0, (Pt r 0 0)), (1, (Pt n 0 0)), (2, (.pointer (some ⟨(n + 1), 0, some 0⟩))), (3, (.func (.func 92) ⟨[]⟩ ⟨[(Pt n 0 0)]⟩)), (4, (Pt n8 0 0))] ⟨rfl, rfl, rfl, rfl, rfl, trivial⟩ (fun τr11 => ?_)
           refine RA.seq hd ?_
           refine RA.region env_ok ?_
           refine OA.p (some 28) (.agg ⟨(xTr22 s p)⟩) rfl rfl rfl (r_loadA rfl rfl rfl rfl get_here rfl rfl rfl) ?_
           refine OA.op1 (dst := none) (v := (.tuple #[])) (n1 := n10) (w := ((n + 1), some ⟨[(xTr22 s p)], 9, 24, true⟩)) rfl rfl rfl (r_store rfl rfl rfl rfl rfl rfl rfl (gt2 (by omega) get_here) rfl rfl (Nat.le_of_ble_eq_true rfl) rfl) (by omega) ?_
           refine OA.nil ?_
           intro _
           refine RA.weaken (D' := [((n + 1), some ⟨[(xTr22 s p)], 9, 24, true⟩), (n8, some ⟨[(xTr22 s p)], 9, 24, true⟩), (r, some ⟨[[(.string (s.extract (p + 31) s.size)), (.int .i64 2)]], 2, 121, true⟩), (n, some ⟨[[(Pt r 0 0)]], 1, 85, true⟩)]) hd (Less.of (fac (mm (fun _ => get_here) (fun _ => get_here)) (fac (mm (fun _ => (get_there (by omega) get_here)) (fun _ => (get_there (by omega) get_here))) (fac (mm (fun _ => (gt2 (by omega) get_here)) (fun _ => (gt2 (by omega) get_here))) (fac (mm (fun _ => (gt3 (by omega) get_here)) (fun _ => (gt4 (by omega) get_here))) fan)))) (gone_of (by simp only [goneP, memP, List.cons_append, List.nil_append, true_or, or_true, true_and, and_true, or_false] <;> omega))) ?_
           refine RA.ret env_ok ?_
           refine ⟨.inr rfl, [(.agg ⟨(xTr22 s p)⟩)], (resL_cons (res_cellA rfl rfl rfl get_here rfl rfl rfl) resL_nil), [(r, some ⟨[[(.string (s.extract (p + 31) s.size)), (.int .i64 2)]], 2, 121, true⟩)], (Less.of (fac (mm (fun _ => get_here) (fun _ => (gt2 (by omega) get_here))) fan) (gone_of (by simp only [goneP, memP, List.cons_append, List.nil_append, true_or, or_true, true_and, and_true, or_false] <;> omega))), ⟨(Act.mk (((at_ s p 1) : Nat) : Int) ((w32 s (p + 1)).toInt) ((w32 s (p + 5)).toInt) ((w32 s (p + 9)).toInt) ((w32 s (p + 13)).toInt) ((w32 s (p + 17)).toInt) ((w32 s (p + 21)).toInt) ((w32 s (p + 25)).toInt) (ByteArray.mk #[])), (s.extract (p + 31) s.size), rfl, rfl⟩⟩
         ·
          refine PQ.call (dst := (some 25)) (all := [(Pt r 0 0)]) rfl rfl rfl rfl rfl rfl rfl rfl _ (seen_any (V := []) (D := [(n8, some ⟨[(xTr23 s p)], 9, 24, true⟩), (r, some ⟨[[(.string (s.extract (p + 29) s.size)), (.int .i64 0)]], 2, 121, true⟩), ((n + 1), some ⟨[xTr219], 9, 24, true⟩), (n, some ⟨[[(Pt r 0 0)]], 1, 85, true⟩)]) (by kernel_rfl)) (CQ.imp (CQ.keys (rU16S (hd.of (by omega) (kb4 (by omega))) r s (p + 29) (by omega) (by omega) (get_there (by omega) get_here))) ?_)
          rintro _ n12 _ ⟨hkn12, ⟨rfl, rfl⟩⟩
          have hn12 := hkn12.1
          refine ⟨hn12, (kp1 (by first | exact wr_new (by omega) (by omega) | exact wr_old [0] (by kernel_rfl) (by omega) (by omega) (fac (lo1 rfl (by omega)) fan))), ?_⟩
          refine PQ.call (dst := (some 26)) (all := [(Pt r 0 0), (.int .i64 0)]) rfl rfl rfl rfl rfl rfl rfl rfl _ (seen_any (V := [(r, some ⟨[[(.string (s.extract (p + 29) s.size)), (.int .i64 2)]], 2, 121, true⟩)]) (D := [(n8, some ⟨[(xTr23 s p)], 9, 24, true⟩), (r, some ⟨[[(.string (s.extract (p + 29) s.size)), (.int .i64 0)]], 2, 121, true⟩), ((n + 1), some ⟨[xTr219], 9, 24, true⟩), (n, some ⟨[[(Pt r 0 0)]], 1, 85, true⟩)]) (by kernel_rfl)) (CQ.imp (CQ.keys (rTakeD (hd.of (by omega) (kb5 (by omega))) r (s.extract (p + 29) s.size) 0 get_here)) ?_)
          rintro _ n13 _ ⟨hkn13, ⟨rfl, rfl⟩⟩
          have hn13 := hkn13.1
          refine ⟨hn13, (fun x hx => by simp [keys] at hx), ?_⟩
          refine PQ.pure (dst := (some 27)) (v := (Pt n8 0 8)) rfl rfl rfl noStore (none_ok _ _) rfl ?_
          refine PQ.op (dst := none) (v := (.tuple #[])) (n1 := n13) (d1 := [(n8, some ⟨[(xTr22 s p)], 9, 24, true⟩)]) rfl rfl rfl _ (seen_any (V := [(r, some ⟨[[(.string (s.extract (p + 29) s.size)), (.int .i64 2)]], 2, 121, true⟩)]) (D := [(n8, some ⟨[(xTr23 s p)], 9, 24, true⟩), (r, some ⟨[[(.string (s.extract (p + 29) s.size)), (.int .i64 0)]], 2, 121, true⟩), ((n + 1), some ⟨[xTr219], 9, 24, true⟩), (n, some ⟨[[(Pt r 0 0)]], 1, 85, true⟩)]) (by kernel_rfl)) (r_store rfl rfl rfl rfl rfl rfl rfl (get_there (by omega) get_here) rfl rfl (Nat.le_of_ble_eq_true rfl) rfl) (by omega) (kp1 (wr_tight (by kernel_rfl) (by omega))) ?_
          refine PQ.done (d := [(n8, some ⟨[(xTr22 s p)], 9, 24, true⟩), (r, some ⟨[[(.string (s.extract (p + 29) s.size)), (.int .i64 2)]], 2, 121, true⟩)]) (by kernel_rfl) ?_
          intro _
          refine RA.weaken (D' := [(n8, some ⟨[(xTr22 s p)], 9, 24, true⟩), (r, some ⟨[[(.string (s.extract (p + 29) s.size)), (.int .i64 2)]], 2, 121, true⟩), ((n + 1), some ⟨[xTr219], 9, 24, true⟩), (n, some ⟨[[(Pt r 0 0)]], 1, 85, true⟩)]) hd (Less.of (fac (mm (fun _ => get_here) (fun _ => get_here)) (fac (mm (fun _ => (get_there (by omega) get_here)) (fun _ => (get_there (by omega) get_here))) (fac (mm (fun _ => (gt2 (by omega) get_here)) (fun _ => (gt4 (by omega) get_here))) (fac (mm (fun _ => (gt3 (by omega) get_here)) (fun _ => (gt5 (by omega) get_here))) fan)))) (gone_of (by simp only [goneP, memP, List.cons_append, List.nil_append, true_or, or_true, true_and, and_true, or_false] <;> omega))) ?_
          refine RA.rebase [(0, (Pt r 0 0)), (1, (Pt n 0 0)), (2, (.pointer (some ⟨(n + 1), 0, some 0⟩))), (3, (.func (.func 92) ⟨[]⟩ ⟨[(Pt n 0 0)]⟩)), (4, (Pt n8 0 0))] ⟨rfl, rfl, rfl, rfl, rfl, trivial⟩ (fun τr14 => ?_)
          refine RA.seq hd ?_
          refine RA.region env_ok ?_
          refine OA.p (some 28) (.agg ⟨(xTr22 s p)⟩) rfl rfl rfl (r_loadA rfl rfl rfl rfl get_here rfl rfl rfl) ?_
          refine OA.op1 (dst := none) (v := (.tuple #[])) (n1 := n13) (w := ((n + 1), some ⟨[(xTr22 s p)], 9, 24, true⟩)) rfl rfl rfl (r_store rfl rfl rfl rfl rfl rfl rfl (gt2 (by omega) get_here) rfl rfl (Nat.le_of_ble_eq_true rfl) rfl) (by omega) ?_
          refine OA.nil ?_
          intro _
          refine RA.weaken (D' := [((n + 1), some ⟨[(xTr22 s p)], 9, 24, true⟩), (n8, some ⟨[(xTr22 s p)], 9, 24, true⟩), (r, some ⟨[[(.string (s.extract (p + 29) s.size)), (.int .i64 2)]], 2, 121, true⟩), (n, some ⟨[[(Pt r 0 0)]], 1, 85, true⟩)]) hd (Less.of (fac (mm (fun _ => get_here) (fun _ => get_here)) (fac (mm (fun _ => (get_there (by omega) get_here)) (fun _ => (get_there (by omega) get_here))) (fac (mm (fun _ => (gt2 (by omega) get_here)) (fun _ => (gt2 (by omega) get_here))) (fac (mm (fun _ => (gt3 (by omega) get_here)) (fun _ => (gt4 (by omega) get_here))) fan)))) (gone_of (by simp only [goneP, memP, List.cons_append, List.nil_append, true_or, or_true, true_and, and_true, or_false] <;> omega))) ?_
          refine RA.ret env_ok ?_
          refine ⟨.inr rfl, [(.agg ⟨(xTr22 s p)⟩)], (resL_cons (res_cellA rfl rfl rfl get_here rfl rfl rfl) resL_nil), [(r, some ⟨[[(.string (s.extract (p + 29) s.size)), (.int .i64 2)]], 2, 121, true⟩)], (Less.of (fac (mm (fun _ => get_here) (fun _ => (gt2 (by omega) get_here))) fan) (gone_of (by simp only [goneP, memP, List.cons_append, List.nil_append, true_or, or_true, true_and, and_true, or_false] <;> omega))), ⟨(Act.mk (((at_ s p 1) : Nat) : Int) ((w32 s (p + 1)).toInt) ((w32 s (p + 5)).toInt) ((w32 s (p + 9)).toInt) ((w32 s (p + 13)).toInt) ((w32 s (p + 17)).toInt) ((w32 s (p + 21)).toInt) ((w32 s (p + 25)).toInt) (ByteArray.mk #[])), (s.extract (p + 29) s.size), rfl, rfl⟩⟩
        ·
         refine OA.call (dst := (some 21)) (all := [(Pt n 0 0)]) rfl rfl rfl rfl rfl rfl rfl rfl (CQ.imp (tNumS (hd.of (by omega) (kb9 (by omega))) n r s (p + 25) 0 (by omega) (by omega) (by omega) (gt8 (by omega) get_here) get_here) ?_)
         rintro _ n15 _ ⟨rfl, rfl⟩ hn15
         refine OA.app1 ?_
         refine OA.p (some 22) (.agg ⟨(xTr25 s p)⟩) rfl rfl rfl (by kernel_rfl) ?_
         refine OA.op1 (dst := (some 4)) (v := (Pt n15 0 0)) (n1 := (n15 + 1)) (w := (n15, some ⟨[xTr219], 9, 24, true⟩)) rfl rfl rfl rfl (by omega) ?_
         refine OA.op1 (dst := none) (v := (.tuple #[])) (n1 := (n15 + 1)) (w := (n15, some ⟨[(xTr25 s p)], 9, 24, true⟩)) rfl rfl rfl (r_store rfl rfl rfl rfl rfl rfl rfl get_here rfl rfl (Nat.le_of_ble_eq_true rfl) rfl) (by omega) ?_
         refine OA.nil ?_
         intro _
         refine RA.weaken (D' := [(n15, some ⟨[(xTr25 s p)], 9, 24, true⟩), (r, some ⟨[[(.string (s.extract (p + 25) s.size)), (.int .i64 2)]], 2, 121, true⟩), ((n + 1), some ⟨[xTr219], 9, 24, true⟩), (n, some ⟨[[(Pt r 0 0)]], 1, 85, true⟩)]) hd (Less.of (fac (mm (fun _ => get_here) (fun _ => get_here)) (fac (mm (fun _ => (get_there (by omega) get_here)) (fun _ => (gt2 (by omega) get_here))) (fac (mm (fun _ => (gt2 (by omega) get_here)) (fun _ => (gt10 (by omega) get_here))) (fac (mm (fun _ => (gt3 (by omega) get_here)) (fun _ => (gt11 (by omega) get_here))) fan)))) (gone_of (by simp only [goneP, memP, List.cons_append, List.nil_append, true_or, or_true, true_and, and_true, or_false] <;> omega))) ?_
         refine RA.seq hd ?_
         refine RA.par (md := [some [n], some [n], none, none, some [], none]) env_ok (hd.of (by omega) (kb4 (by omega))) (by kernel_rfl) ?_
         refine PQ.pure (dst := (some 23)) (v := (Pt r 0 0)) rfl rfl rfl (app [(n, some ⟨[[(Pt r 0 0)]], 1, 85, true⟩)] noStore) (seen_one (V := []) (D := [(n15, some ⟨[(xTr25 s p)], 9, 24, true⟩), (r, some ⟨[[(.string (s.extract (p + 25) s.size)), (.int .i64 2)]], 2, 121, true⟩), ((n + 1), some ⟨[xTr219], 9, 24, true⟩), (n, some ⟨[[(Pt r 0 0)]], 1, 85, true⟩)]) (by kernel_rfl) (gt3 (by omega) get_here)) (r_load1 rfl rfl rfl rfl rfl get_here rfl rfl) ?_
         refine PQ.pure (dst := (some 24)) (v := (Pt r 0 0)) rfl rfl rfl (app [(n, some ⟨[[(Pt r 0 0)]], 1, 85, true⟩)] noStore) (seen_one (V := []) (D := [(n15, some ⟨[(xTr25 s p)], 9, 24, true⟩), (r, some ⟨[[(.string (s.extract (p + 25) s.size)), (.int .i64 2)]], 2, 121, true⟩), ((n + 1), some ⟨[xTr219], 9, 24, true⟩), (n, some ⟨[[(Pt r 0 0)]], 1, 85, true⟩)]) (by kernel_rfl) (gt3 (by omega) get_here)) (r_load1 rfl rfl rfl rfl rfl get_here rfl rfl) ?_
         refine PQ.call (dst := (some 25)) (all := [(Pt r 0 0)]) rfl rfl rfl rfl rfl rfl rfl rfl _ (seen_any (V := []) (D := [(n15, some ⟨[(xTr25 s p)], 9, 24, true⟩), (r, some ⟨[[(.string (s.extract (p + 25) s.size)), (.int .i64 2)]], 2, 121, true⟩), ((n + 1), some ⟨[xTr219], 9, 24, true⟩), (n, some ⟨[[(Pt r 0 0)]], 1, 85, true⟩)]) (by kernel_rfl)) (CQ.imp (CQ.keys (rU16D (hd.of (by omega) (kb4 (by omega))) r (s.extract (p + 25) s.size) 0 (get_there (by omega) get_here))) ?_)
         rintro _ n16 _ ⟨hkn16, ⟨rfl, rfl⟩⟩
         have hn16 := hkn16.1
         refine ⟨hn16, (fun x hx => by simp [keys] at hx), ?_⟩
         refine PQ.call (dst := (some 26)) (all := [(Pt r 0 0), (.int .i64 0)]) rfl rfl rfl rfl rfl rfl rfl rfl _ (seen_any (V := []) (D := [(n15, some ⟨[(xTr25 s p)], 9, 24, true⟩), (r, some ⟨[[(.string (s.extract (p + 25) s.size)), (.int .i64 2)]], 2, 121, true⟩), ((n + 1), some ⟨[xTr219], 9, 24, true⟩), (n, some ⟨[[(Pt r 0 0)]], 1, 85, true⟩)]) (by kernel_rfl)) (CQ.imp (CQ.keys (rTakeD (hd.of (by omega) (kb4 (by omega))) r (s.extract (p + 25) s.size) 0 (get_there (by omega) get_here))) ?_)
         rintro _ n17 _ ⟨hkn17, ⟨rfl, rfl⟩⟩
         have hn17 := hkn17.1
         refine ⟨hn17, (fun x hx => by simp [keys] at hx), ?_⟩
         refine PQ.pure (dst := (some 27)) (v := (Pt n15 0 8)) rfl rfl rfl noStore (none_ok _ _) rfl ?_
         refine PQ.op (dst := none) (v := (.tuple #[])) (n1 := n17) (d1 := [(n15, some ⟨[(xTr24 s p)], 9, 24, true⟩)]) rfl rfl rfl _ (seen_any (V := []) (D := [(n15, some ⟨[(xTr25 s p)], 9, 24, true⟩), (r, some ⟨[[(.string (s.extract (p + 25) s.size)), (.int .i64 2)]], 2, 121, true⟩), ((n + 1), some ⟨[xTr219], 9, 24, true⟩), (n, some ⟨[[(Pt r 0 0)]], 1, 85, true⟩)]) (by kernel_rfl)) (r_store rfl rfl rfl rfl rfl rfl rfl get_here rfl rfl (Nat.le_of_ble_eq_true rfl) rfl) (by omega) (kp1 (wr_tight (by kernel_rfl) (by omega))) ?_
         refine PQ.done (d := [(n15, some ⟨[(xTr24 s p)], 9, 24, true⟩)]) (by kernel_rfl) ?_
         intro _
         refine RA.weaken (D' := [(n15, some ⟨[(xTr24 s p)], 9, 24, true⟩), (r, some ⟨[[(.string (s.extract (p + 25) s.size)), (.int .i64 2)]], 2, 121, true⟩), ((n + 1), some ⟨[xTr219], 9, 24, true⟩), (n, some ⟨[[(Pt r 0 0)]], 1, 85, true⟩)]) hd (Less.of (fac (mm (fun _ => get_here) (fun _ => get_here)) (fac (mm (fun _ => (get_there (by omega) get_here)) (fun _ => (gt2 (by omega) get_here))) (fac (mm (fun _ => (gt2 (by omega) get_here)) (fun _ => (gt3 (by omega) get_here))) (fac (mm (fun _ => (gt3 (by omega) get_here)) (fun _ => (gt4 (by omega) get_here))) fan)))) (gone_of (by simp only [goneP, memP, List.cons_append, List.nil_append, true_or, or_true, true_and, and_true, or_false] <;> omega))) ?_
         refine RA.rebase [(0, (Pt r 0 0)), (1, (Pt n 0 0)), (2, (.pointer (some ⟨(n + 1), 0, some 0⟩))), (3, (.func (.func 92) ⟨[]⟩ ⟨[(Pt n 0 0)]⟩)), (4, (Pt n15 0 0))] ⟨rfl, rfl, rfl, rfl, rfl, trivial⟩ (fun τr18 => ?_)
         refine RA.seq hd ?_
         refine RA.region env_ok ?_
         refine OA.p (some 28) (.agg ⟨(xTr24 s p)⟩) rfl rfl rfl (r_loadA rfl rfl rfl rfl get_here rfl rfl rfl) ?_
         refine OA.op1 (dst := none) (v := (.tuple #[])) (n1 := n17) (w := ((n + 1), some ⟨[(xTr24 s p)], 9, 24, true⟩)) rfl rfl rfl (r_store rfl rfl rfl rfl rfl rfl rfl (gt2 (by omega) get_here) rfl rfl (Nat.le_of_ble_eq_true rfl) rfl) (by omega) ?_
         refine OA.nil ?_
         intro _
         refine RA.weaken (D' := [((n + 1), some ⟨[(xTr24 s p)], 9, 24, true⟩), (n15, some ⟨[(xTr24 s p)], 9, 24, true⟩), (r, some ⟨[[(.string (s.extract (p + 25) s.size)), (.int .i64 2)]], 2, 121, true⟩), (n, some ⟨[[(Pt r 0 0)]], 1, 85, true⟩)]) hd (Less.of (fac (mm (fun _ => get_here) (fun _ => get_here)) (fac (mm (fun _ => (get_there (by omega) get_here)) (fun _ => (get_there (by omega) get_here))) (fac (mm (fun _ => (gt2 (by omega) get_here)) (fun _ => (gt2 (by omega) get_here))) (fac (mm (fun _ => (gt3 (by omega) get_here)) (fun _ => (gt4 (by omega) get_here))) fan)))) (gone_of (by simp only [goneP, memP, List.cons_append, List.nil_append, true_or, or_true, true_and, and_true, or_false] <;> omega))) ?_
         refine RA.ret env_ok ?_
         refine ⟨.inr rfl, [(.agg ⟨(xTr24 s p)⟩)], (resL_cons (res_cellA rfl rfl rfl get_here rfl rfl rfl) resL_nil), [(r, some ⟨[[(.string (s.extract (p + 25) s.size)), (.int .i64 2)]], 2, 121, true⟩)], (Less.of (fac (mm (fun _ => get_here) (fun _ => (gt2 (by omega) get_here))) fan) (gone_of (by simp only [goneP, memP, List.cons_append, List.nil_append, true_or, or_true, true_and, and_true, or_false] <;> omega))), ⟨(Act.mk (((at_ s p 1) : Nat) : Int) ((w32 s (p + 1)).toInt) ((w32 s (p + 5)).toInt) ((w32 s (p + 9)).toInt) ((w32 s (p + 13)).toInt) ((w32 s (p + 17)).toInt) ((w32 s (p + 21)).toInt) 0 (ByteArray.mk #[])), (s.extract (p + 25) s.size), rfl, rfl⟩⟩
       ·
        refine OA.call (dst := (some 19)) (all := [(Pt n 0 0)]) rfl rfl rfl rfl rfl rfl rfl rfl (CQ.imp (tNumS (hd.of (by omega) (kb8 (by omega))) n r s (p + 21) 0 (by omega) (by omega) (by omega) (gt7 (by omega) get_here) get_here) ?_)
        rintro _ n19 _ ⟨rfl, rfl⟩ hn19
        refine OA.app1 ?_
        refine OA.p (some 20) (.func (.func 92) ⟨[]⟩ ⟨[(Pt n 0 0)]⟩) rfl rfl rfl rfl ?_
        refine OA.call (dst := (some 21)) (all := [(Pt n 0 0)]) rfl rfl rfl rfl rfl rfl rfl rfl (CQ.imp (tNumD (hd.of (by omega) (kb9 (by omega))) n r (s.extract (p + 21) s.size) 0 0 (by omega) (gt8 (by omega) get_here) get_here) ?_)
        rintro _ n20 _ ⟨rfl, rfl⟩ hn20
        refine OA.app0 ?_
        refine OA.p (some 22) (.agg ⟨(xTr27 s p)⟩) rfl rfl rfl (by kernel_rfl) ?_
        refine OA.op1 (dst := (some 4)) (v := (Pt n20 0 0)) (n1 := (n20 + 1)) (w := (n20, some ⟨[xTr219], 9, 24, true⟩)) rfl rfl rfl rfl (by omega) ?_
        refine OA.op1 (dst := none) (v := (.tuple #[])) (n1 := (n20 + 1)) (w := (n20, some ⟨[(xTr27 s p)], 9, 24, true⟩)) rfl rfl rfl (r_store rfl rfl rfl rfl rfl rfl rfl get_here rfl rfl (Nat.le_of_ble_eq_true rfl) rfl) (by omega) ?_
        refine OA.nil ?_
        intro _
        refine RA.weaken (D' := [(n20, some ⟨[(xTr27 s p)], 9, 24, true⟩), (r, some ⟨[[(.string (s.extract (p + 21) s.size)), (.int .i64 2)]], 2, 121, true⟩), ((n + 1), some ⟨[xTr219], 9, 24, true⟩), (n, some ⟨[[(Pt r 0 0)]], 1, 85, true⟩)]) hd (Less.of (fac (mm (fun _ => get_here) (fun _ => get_here)) (fac (mm (fun _ => (get_there (by omega) get_here)) (fun _ => (gt2 (by omega) get_here))) (fac (mm (fun _ => (gt2 (by omega) get_here)) (fun _ => (gt9 (by omega) get_here))) (fac (mm (fun _ => (gt3 (by omega) get_here)) (fun _ => (gt10 (by omega) get_here))) fan)))) (gone_of (by simp only [goneP, memP, List.cons_append, List.nil_append, true_or, or_true, true_and, and_true, or_false] <;> omega))) ?_
        refine RA.seq hd ?_
        refine RA.par (md := [some [n], some [n], none, none, some [], none]) env_ok (hd.of (by omega) (kb4 (by omega))) (by kernel_rfl) ?_
        refine PQ.pure (dst := (some 23)) (v := (Pt r 0 0)) rfl rfl rfl (app [(n, some ⟨[[(Pt r 0 0)]], 1, 85, true⟩)] noStore) (seen_one (V := []) (D := [(n20, some ⟨[(xTr27 s p)], 9, 24, true⟩), (r, some ⟨[[(.string (s.extract (p + 21) s.size)), (.int .i64 2)]], 2, 121, true⟩), ((n + 1), some ⟨[xTr219], 9, 24, true⟩), (n, some ⟨[[(Pt r 0 0)]], 1, 85, true⟩)]) (by kernel_rfl) (gt3 (by omega) get_here)) (r_load1 rfl rfl rfl rfl rfl get_here rfl rfl) ?_
        refine PQ.pure (dst := (some 24)) (v := (Pt r 0 0)) rfl rfl rfl (app [(n, some ⟨[[(Pt r 0 0)]], 1, 85, true⟩)] noStore) (seen_one (V := []) (D := [(n20, some ⟨[(xTr27 s p)], 9, 24, true⟩), (r, some ⟨[[(.string (s.extract (p + 21) s.size)), (.int .i64 2)]], 2, 121, true⟩), ((n + 1), some ⟨[xTr219], 9, 24, true⟩), (n, some ⟨[[(Pt r 0 0)]], 1, 85, true⟩)]) (by kernel_rfl) (gt3 (by omega) get_here)) (r_load1 rfl rfl rfl rfl rfl get_here rfl rfl) ?_
        refine PQ.call (dst := (some 25)) (all := [(Pt r 0 0)]) rfl rfl rfl rfl rfl rfl rfl rfl _ (seen_any (V := []) (D := [(n20, some ⟨[(xTr27 s p)], 9, 24, true⟩), (r, some ⟨[[(.string (s.extract (p + 21) s.size)), (.int .i64 2)]], 2, 121, true⟩), ((n + 1), some ⟨[xTr219], 9, 24, true⟩), (n, some ⟨[[(Pt r 0 0)]], 1, 85, true⟩)]) (by kernel_rfl)) (CQ.imp (CQ.keys (rU16D (hd.of (by omega) (kb4 (by omega))) r (s.extract (p + 21) s.size) 0 (get_there (by omega) get_here))) ?_)
        rintro _ n21 _ ⟨hkn21, ⟨rfl, rfl⟩⟩
        have hn21 := hkn21.1
        refine ⟨hn21, (fun x hx => by simp [keys] at hx), ?_⟩
        refine PQ.call (dst := (some 26)) (all := [(Pt r 0 0), (.int .i64 0)]) rfl rfl rfl rfl rfl rfl rfl rfl _ (seen_any (V := []) (D := [(n20, some ⟨[(xTr27 s p)], 9, 24, true⟩), (r, some ⟨[[(.string (s.extract (p + 21) s.size)), (.int .i64 2)]], 2, 121, true⟩), ((n + 1), some ⟨[xTr219], 9, 24, true⟩), (n, some ⟨[[(Pt r 0 0)]], 1, 85, true⟩)]) (by kernel_rfl)) (CQ.imp (CQ.keys (rTakeD (hd.of (by omega) (kb4 (by omega))) r (s.extract (p + 21) s.size) 0 (get_there (by omega) get_here))) ?_)
        rintro _ n22 _ ⟨hkn22, ⟨rfl, rfl⟩⟩
        have hn22 := hkn22.1
        refine ⟨hn22, (fun x hx => by simp [keys] at hx), ?_⟩
        refine PQ.pure (dst := (some 27)) (v := (Pt n20 0 8)) rfl rfl rfl noStore (none_ok _ _) rfl ?_
        refine PQ.op (dst := none) (v := (.tuple #[])) (n1 := n22) (d1 := [(n20, some ⟨[(xTr26 s p)], 9, 24, true⟩)]) rfl rfl rfl _ (seen_any (V := []) (D := [(n20, some ⟨[(xTr27 s p)], 9, 24, true⟩), (r, some ⟨[[(.string (s.extract (p + 21) s.size)), (.int .i64 2)]], 2, 121, true⟩), ((n + 1), some ⟨[xTr219], 9, 24, true⟩), (n, some ⟨[[(Pt r 0 0)]], 1, 85, true⟩)]) (by kernel_rfl)) (r_store rfl rfl rfl rfl rfl rfl rfl get_here rfl rfl (Nat.le_of_ble_eq_true rfl) rfl) (by omega) (kp1 (wr_tight (by kernel_rfl) (by omega))) ?_
        refine PQ.done (d := [(n20, some ⟨[(xTr26 s p)], 9, 24, true⟩)]) (by kernel_rfl) ?_
        intro _
        refine RA.weaken (D' := [(n20, some ⟨[(xTr26 s p)], 9, 24, true⟩), (r, some ⟨[[(.string (s.extract (p + 21) s.size)), (.int .i64 2)]], 2, 121, true⟩), ((n + 1), some ⟨[xTr219], 9, 24, true⟩), (n, some ⟨[[(Pt r 0 0)]], 1, 85, true⟩)]) hd (Less.of (fac (mm (fun _ => get_here) (fun _ => get_here)) (fac (mm (fun _ => (get_there (by omega) get_here)) (fun _ => (gt2 (by omega) get_here))) (fac (mm (fun _ => (gt2 (by omega) get_here)) (fun _ => (gt3 (by omega) get_here))) (fac (mm (fun _ => (gt3 (by omega) get_here)) (fun _ => (gt4 (by omega) get_here))) fan)))) (gone_of (by simp only [goneP, memP, List.cons_append, List.nil_append, true_or, or_true, true_and, and_true, or_false] <;> omega))) ?_
        refine RA.rebase [(0, (Pt r 0 0)), (1, (Pt n 0 0)), (2, (.pointer (some ⟨(n + 1), 0, some 0⟩))), (3, (.func (.func 92) ⟨[]⟩ ⟨[(Pt n 0 0)]⟩)), (4, (Pt n20 0 0))] ⟨rfl, rfl, rfl, rfl, rfl, trivial⟩ (fun τr23 => ?_)
        refine RA.seq hd ?_
        refine RA.region env_ok ?_
        refine OA.p (some 28) (.agg ⟨(xTr26 s p)⟩) rfl rfl rfl (r_loadA rfl rfl rfl rfl get_here rfl rfl rfl) ?_
        refine OA.op1 (dst := none) (v := (.tuple #[])) (n1 := n22) (w := ((n + 1), some ⟨[(xTr26 s p)], 9, 24, true⟩)) rfl rfl rfl (r_store rfl rfl rfl rfl rfl rfl rfl (gt2 (by omega) get_here) rfl rfl (Nat.le_of_ble_eq_true rfl) rfl) (by omega) ?_
        refine OA.nil ?_
        intro _
        refine RA.weaken (D' := [((n + 1), some ⟨[(xTr26 s p)], 9, 24, true⟩), (n20, some ⟨[(xTr26 s p)], 9, 24, true⟩), (r, some ⟨[[(.string (s.extract (p + 21) s.size)), (.int .i64 2)]], 2, 121, true⟩), (n, some ⟨[[(Pt r 0 0)]], 1, 85, true⟩)]) hd (Less.of (fac (mm (fun _ => get_here) (fun _ => get_here)) (fac (mm (fun _ => (get_there (by omega) get_here)) (fun _ => (get_there (by omega) get_here))) (fac (mm (fun _ => (gt2 (by omega) get_here)) (fun _ => (gt2 (by omega) get_here))) (fac (mm (fun _ => (gt3 (by omega) get_here)) (fun _ => (gt4 (by omega) get_here))) fan)))) (gone_of (by simp only [goneP, memP, List.cons_append, List.nil_append, true_or, or_true, true_and, and_true, or_false] <;> omega))) ?_
        refine RA.ret env_ok ?_
        refine ⟨.inr rfl, [(.agg ⟨(xTr26 s p)⟩)], (resL_cons (res_cellA rfl rfl rfl get_here rfl rfl rfl) resL_nil), [(r, some ⟨[[(.string (s.extract (p + 21) s.size)), (.int .i64 2)]], 2, 121, true⟩)], (Less.of (fac (mm (fun _ => get_here) (fun _ => (gt2 (by omega) get_here))) fan) (gone_of (by simp only [goneP, memP, List.cons_append, List.nil_append, true_or, or_true, true_and, and_true, or_false] <;> omega))), ⟨(Act.mk (((at_ s p 1) : Nat) : Int) ((w32 s (p + 1)).toInt) ((w32 s (p + 5)).toInt) ((w32 s (p + 9)).toInt) ((w32 s (p + 13)).toInt) ((w32 s (p + 17)).toInt) 0 0 (ByteArray.mk #[])), (s.extract (p + 21) s.size), rfl, rfl⟩⟩
      ·
       refine OA.call (dst := (some 17)) (all := [(Pt n 0 0)]) rfl rfl rfl rfl rfl rfl rfl rfl (CQ.imp (tNumS (hd.of (by omega) (kb7 (by omega))) n r s (p + 17) 0 (by omega) (by omega) (by omega) (gt6 (by omega) get_here) get_here) ?_)
       rintro _ n24 _ ⟨rfl, rfl⟩ hn24
       refine OA.app1 ?_
       refine OA.p (some 18) (.func (.func 92) ⟨[]⟩ ⟨[(Pt n 0 0)]⟩) rfl rfl rfl rfl ?_
       refine OA.call (dst := (some 19)) (all := [(Pt n 0 0)]) rfl rfl rfl rfl rfl rfl rfl rfl (CQ.imp (tNumD (hd.of (by omega) (kb8 (by omega))) n r (s.extract (p + 17) s.size) 0 0 (by omega) (gt7 (by omega) get_here) get_here) ?_)
       rintro _ n25 _ ⟨rfl, rfl⟩ hn25
       refine OA.app0 ?_
       refine OA.p (some 20) (.func (.func 92) ⟨[]⟩ ⟨[(Pt n 0 0)]⟩) rfl rfl rfl rfl ?_
       refine OA.call (dst := (some 21)) (all := [(Pt n 0 0)]) rfl rfl rfl rfl rfl rfl rfl rfl (CQ.imp (tNumD (hd.of (by omega) (kb8 (by omega))) n r (s.extract (p + 17) s.size) 0 0 (by omega) (gt7 (by omega) get_here) get_here) ?_)
       rintro _ n26 _ ⟨rfl, rfl⟩ hn26
       refine OA.app0 ?_
       refine OA.p (some 22) (.agg ⟨(xTr29 s p)⟩) rfl rfl rfl (by kernel_rfl) ?_
       refine OA.op1 (dst := (some 4)) (v := (Pt n26 0 0)) (n1 := (n26 + 1)) (w := (n26, some ⟨[xTr219], 9, 24, true⟩)) rfl rfl rfl rfl (by omega) ?_
       refine OA.op1 (dst := none) (v := (.tuple #[])) (n1 := (n26 + 1)) (w := (n26, some ⟨[(xTr29 s p)], 9, 24, true⟩)) rfl rfl rfl (r_store rfl rfl rfl rfl rfl rfl rfl get_here rfl rfl (Nat.le_of_ble_eq_true rfl) rfl) (by omega) ?_
       refine OA.nil ?_
       intro _
       refine RA.weaken (D' := [(n26, some ⟨[(xTr29 s p)], 9, 24, true⟩), (r, some ⟨[[(.string (s.extract (p + 17) s.size)), (.int .i64 2)]], 2, 121, true⟩), ((n + 1), some ⟨[xTr219], 9, 24, true⟩), (n, some ⟨[[(Pt r 0 0)]], 1, 85, true⟩)]) hd (Less.of (fac (mm (fun _ => get_here) (fun _ => get_here)) (fac (mm (fun _ => (get_there (by omega) get_here)) (fun _ => (gt2 (by omega) get_here))) (fac (mm (fun _ => (gt2 (by omega) get_here)) (fun _ => (gt8 (by omega) get_here))) (fac (mm (fun _ => (gt3 (by omega) get_here)) (fun _ => (gt9 (by omega) get_here))) fan)))) (gone_of (by simp only [goneP, memP, List.cons_append, List.nil_append, true_or, or_true, true_and, and_true, or_false] <;> omega))) ?_
       refine RA.seq hd ?_
       refine RA.par (md := [some [n], some [n], none, none, some [], none]) env_ok (hd.of (by omega) (kb4 (by omega))) (by kernel_rfl) ?_
       refine PQ.pure (dst := (some 23)) (v := (Pt r 0 0)) rfl rfl rfl (app [(n, some ⟨[[(Pt r 0 0)]], 1, 85, true⟩)] noStore) (seen_one (V := []) (D := [(n26, some ⟨[(xTr29 s p)], 9, 24, true⟩), (r, some ⟨[[(.string (s.extract (p + 17) s.size)), (.int .i64 2)]], 2, 121, true⟩), ((n + 1), some ⟨[xTr219], 9, 24, true⟩), (n, some ⟨[[(Pt r 0 0)]], 1, 85, true⟩)]) (by kernel_rfl) (gt3 (by omega) get_here)) (r_load1 rfl rfl rfl rfl rfl get_here rfl rfl) ?_
       refine PQ.pure (dst := (some 24)) (v := (Pt r 0 0)) rfl rfl rfl (app [(n, some ⟨[[(Pt r 0 0)]], 1, 85, true⟩)] noStore) (seen_one (V := []) (D := [(n26, some ⟨[(xTr29 s p)], 9, 24, true⟩), (r, some ⟨[[(.string (s.extract (p + 17) s.size)), (.int .i64 2)]], 2, 121, true⟩), ((n + 1), some ⟨[xTr219], 9, 24, true⟩), (n, some ⟨[[(Pt r 0 0)]], 1, 85, true⟩)]) (by kernel_rfl) (gt3 (by omega) get_here)) (r_load1 rfl rfl rfl rfl rfl get_here rfl rfl) ?_
       refine PQ.call (dst := (some 25)) (all := [(Pt r 0 0)]) rfl rfl rfl rfl rfl rfl rfl rfl _ (seen_any (V := []) (D := [(n26, some ⟨[(xTr29 s p)], 9, 24, true⟩), (r, some ⟨[[(.string (s.extract (p + 17) s.size)), (.int .i64 2)]], 2, 121, true⟩), ((n + 1), some ⟨[xTr219], 9, 24, true⟩), (n, some ⟨[[(Pt r 0 0)]], 1, 85, true⟩)]) (by kernel_rfl)) (CQ.imp (CQ.keys (rU16D (hd.of (by omega) (kb4 (by omega))) r (s.extract (p + 17) s.size) 0 (get_there (by omega) get_here))) ?_)
       rintro _ n27 _ ⟨hkn27, ⟨rfl, rfl⟩⟩
       have hn27 := hkn27.1
       refine ⟨hn27, (fun x hx => by simp [keys] at hx), ?_⟩
       refine PQ.call (dst := (some 26)) (all := [(Pt r 0 0), (.int .i64 0)]) rfl rfl rfl rfl rfl rfl rfl rfl _ (seen_any (V := []) (D := [(n26, some ⟨[(xTr29 s p)], 9, 24, true⟩), (r, some ⟨[[(.string (s.extract (p + 17) s.size)), (.int .i64 2)]], 2, 121, true⟩), ((n + 1), some ⟨[xTr219], 9, 24, true⟩), (n, some ⟨[[(Pt r 0 0)]], 1, 85, true⟩)]) (by kernel_rfl)) (CQ.imp (CQ.keys (rTakeD (hd.of (by omega) (kb4 (by omega))) r (s.extract (p + 17) s.size) 0 (get_there (by omega) get_here))) ?_)
       rintro _ n28 _ ⟨hkn28, ⟨rfl, rfl⟩⟩
       have hn28 := hkn28.1
       refine ⟨hn28, (fun x hx => by simp [keys] at hx), ?_⟩
       refine PQ.pure (dst := (some 27)) (v := (Pt n26 0 8)) rfl rfl rfl noStore (none_ok _ _) rfl ?_
       refine PQ.op (dst := none) (v := (.tuple #[])) (n1 := n28) (d1 := [(n26, some ⟨[(xTr28 s p)], 9, 24, true⟩)]) rfl rfl rfl _ (seen_any (V := []) (D := [(n26, some ⟨[(xTr29 s p)], 9, 24, true⟩), (r, some ⟨[[(.string (s.extract (p + 17) s.size)), (.int .i64 2)]], 2, 121, true⟩), ((n + 1), some ⟨[xTr219], 9, 24, true⟩), (n, some ⟨[[(Pt r 0 0)]], 1, 85, true⟩)]) (by kernel_rfl)) (r_store rfl rfl rfl rfl rfl rfl rfl get_here rfl rfl (Nat.le_of_ble_eq_true rfl) rfl) (by omega) (kp1 (wr_tight (by kernel_rfl) (by omega))) ?_
       refine PQ.done (d := [(n26, some ⟨[(xTr28 s p)], 9, 24, true⟩)]) (by kernel_rfl) ?_
       intro _
       refine RA.weaken (D' := [(n26, some ⟨[(xTr28 s p)], 9, 24, true⟩), (r, some ⟨[[(.string (s.extract (p + 17) s.size)), (.int .i64 2)]], 2, 121, true⟩), ((n + 1), some ⟨[xTr219], 9, 24, true⟩), (n, some ⟨[[(Pt r 0 0)]], 1, 85, true⟩)]) hd (Less.of (fac (mm (fun _ => get_here) (fun _ => get_here)) (fac (mm (fun _ => (get_there (by omega) get_here)) (fun _ => (gt2 (by omega) get_here))) (fac (mm (fun _ => (gt2 (by omega) get_here)) (fun _ => (gt3 (by omega) get_here))) (fac (mm (fun _ => (gt3 (by omega) get_here)) (fun _ => (gt4 (by omega) get_here))) fan)))) (gone_of (by simp only [goneP, memP, List.cons_append, List.nil_append, true_or, or_true, true_and, and_true, or_false] <;> omega))) ?_
       refine RA.rebase [(0, (Pt r 0 0)), (1, (Pt n 0 0)), (2, (.pointer (some ⟨(n + 1), 0, some 0⟩))), (3, (.func (.func 92) ⟨[]⟩ ⟨[(Pt n 0 0)]⟩)), (4, (Pt n26 0 0))] ⟨rfl, rfl, rfl, rfl, rfl, trivial⟩ (fun τr29 => ?_)
       refine RA.seq hd ?_
       refine RA.region env_ok ?_
       refine OA.p (some 28) (.agg ⟨(xTr28 s p)⟩) rfl rfl rfl (r_loadA rfl rfl rfl rfl get_here rfl rfl rfl) ?_
       refine OA.op1 (dst := none) (v := (.tuple #[])) (n1 := n28) (w := ((n + 1), some ⟨[(xTr28 s p)], 9, 24, true⟩)) rfl rfl rfl (r_store rfl rfl rfl rfl rfl rfl rfl (gt2 (by omega) get_here) rfl rfl (Nat.le_of_ble_eq_true rfl) rfl) (by omega) ?_
       refine OA.nil ?_
       intro _
       refine RA.weaken (D' := [((n + 1), some ⟨[(xTr28 s p)], 9, 24, true⟩), (n26, some ⟨[(xTr28 s p)], 9, 24, true⟩), (r, some ⟨[[(.string (s.extract (p + 17) s.size)), (.int .i64 2)]], 2, 121, true⟩), (n, some ⟨[[(Pt r 0 0)]], 1, 85, true⟩)]) hd (Less.of (fac (mm (fun _ => get_here) (fun _ => get_here)) (fac (mm (fun _ => (get_there (by omega) get_here)) (fun _ => (get_there (by omega) get_here))) (fac (mm (fun _ => (gt2 (by omega) get_here)) (fun _ => (gt2 (by omega) get_here))) (fac (mm (fun _ => (gt3 (by omega) get_here)) (fun _ => (gt4 (by omega) get_here))) fan)))) (gone_of (by simp only [goneP, memP, List.cons_append, List.nil_append, true_or, or_true, true_and, and_true, or_false] <;> omega))) ?_
       refine RA.ret env_ok ?_
       refine ⟨.inr rfl, [(.agg ⟨(xTr28 s p)⟩)], (resL_cons (res_cellA rfl rfl rfl get_here rfl rfl rfl) resL_nil), [(r, some ⟨[[(.string (s.extract (p + 17) s.size)), (.int .i64 2)]], 2, 121, true⟩)], (Less.of (fac (mm (fun _ => get_here) (fun _ => (gt2 (by omega) get_here))) fan) (gone_of (by simp only [goneP, memP, List.cons_append, List.nil_append, true_or, or_true, true_and, and_true, or_false] <;> omega))), ⟨(Act.mk (((at_ s p 1) : Nat) : Int) ((w32 s (p + 1)).toInt) ((w32 s (p + 5)).toInt) ((w32 s (p + 9)).toInt) ((w32 s (p + 13)).toInt) 0 0 0 (ByteArray.mk #[])), (s.extract (p + 17) s.size), rfl, rfl⟩⟩
     ·
      refine OA.call (dst := (some 15)) (all := [(Pt n 0 0)]) rfl rfl rfl rfl rfl rfl rfl rfl (CQ.imp (tNumS (hd.of (by omega) (kb6 (by omega))) n r s (p + 13) 0 (by omega) (by omega) (by omega) (gt5 (by omega) get_here) get_here) ?_)
      rintro _ n30 _ ⟨rfl, rfl⟩ hn30
      refine OA.app1 ?_
      refine OA.p (some 16) (.func (.func 92) ⟨[]⟩ ⟨[(Pt n 0 0)]⟩) rfl rfl rfl rfl ?_
      refine OA.call (dst := (some 17)) (all := [(Pt n 0 0)]) rfl rfl rfl rfl rfl rfl rfl rfl (CQ.imp (tNumD (hd.of (by omega) (kb7 (by omega))) n r (s.extract (p + 13) s.size) 0 0 (by omega) (gt6 (by omega) get_here) get_here) ?_)
      rintro _ n31 _ ⟨rfl, rfl⟩ hn31
      refine OA.app0 ?_
      refine OA.p (some 18) (.func (.func 92) ⟨[]⟩ ⟨[(Pt n 0 0)]⟩) rfl rfl rfl rfl ?_
      refine OA.call (dst := (some 19)) (all := [(Pt n 0 0)]) rfl rfl rfl rfl rfl rfl rfl rfl (CQ.imp (tNumD (hd.of (by omega) (kb7 (by omega))) n r (s.extract (p + 13) s.size) 0 0 (by omega) (gt6 (by omega) get_here) get_here) ?_)
      rintro _ n32 _ ⟨rfl, rfl⟩ hn32
      refine OA.app0 ?_
      refine OA.p (some 20) (.func (.func 92) ⟨[]⟩ ⟨[(Pt n 0 0)]⟩) rfl rfl rfl rfl ?_
      refine OA.call (dst := (some 21)) (all := [(Pt n 0 0)]) rfl rfl rfl rfl rfl rfl rfl rfl (CQ.imp (tNumD (hd.of (by omega) (kb7 (by omega))) n r (s.extract (p + 13) s.size) 0 0 (by omega) (gt6 (by omega) get_here) get_here) ?_)
      rintro _ n33 _ ⟨rfl, rfl⟩ hn33
      refine OA.app0 ?_
      refine OA.p (some 22) (.agg ⟨(xTr211 s p)⟩) rfl rfl rfl (by kernel_rfl) ?_
      refine OA.op1 (dst := (some 4)) (v := (Pt n33 0 0)) (n1 := (n33 + 1)) (w := (n33, some ⟨[xTr219], 9, 24, true⟩)) rfl rfl rfl rfl (by omega) ?_
      refine OA.op1 (dst := none) (v := (.tuple #[])) (n1 := (n33 + 1)) (w := (n33, some ⟨[(xTr211 s p)], 9, 24, true⟩)) rfl rfl rfl (r_store rfl rfl rfl rfl rfl rfl rfl get_here rfl rfl (Nat.le_of_ble_eq_true rfl) rfl) (by omega) ?_
      refine OA.nil ?_
      intro _
      refine RA.weaken (D' := [(n33, some ⟨[(xTr211 s p)], 9, 24, true⟩), (r, some ⟨[[(.string (s.extract (p + 13) s.size)), (.int .i64 2)]], 2, 121, true⟩), ((n + 1), some ⟨[xTr219], 9, 24, true⟩), (n, some ⟨[[(Pt r 0 0)]], 1, 85, true⟩)]) hd (Less.of (fac (mm (fun _ => get_here) (fun _ => get_here)) (fac (mm (fun _ => (get_there (by omega) get_here)) (fun _ => (gt2 (by omega) get_here))) (fac (mm (fun _ => (gt2 (by omega) get_here)) (fun _ => (gt7 (by omega) get_here))) (fac (mm (fun _ => (gt3 (by omega) get_here)) (fun _ => (gt8 (by omega) get_here))) fan)))) (gone_of (by simp only [goneP, memP, List.cons_append, List.nil_append, true_or, or_true, true_and, and_true, or_false] <;> omega))) ?_
      refine RA.seq hd ?_
      refine RA.par (md := [some [n], some [n], none, none, some [], none]) env_ok (hd.of (by omega) (kb4 (by omega))) (by kernel_rfl) ?_
      refine PQ.pure (dst := (some 23)) (v := (Pt r 0 0)) rfl rfl rfl (app [(n, some ⟨[[(Pt r 0 0)]], 1, 85, true⟩)] noStore) (seen_one (V := []) (D := [(n33, some ⟨[(xTr211 s p)], 9, 24, true⟩), (r, some ⟨[[(.string (s.extract (p + 13) s.size)), (.int .i64 2)]], 2, 121, true⟩), ((n + 1), some ⟨[xTr219], 9, 24, true⟩), (n, some ⟨[[(Pt r 0 0)]], 1, 85, true⟩)]) (by kernel_rfl) (gt3 (by omega) get_here)) (r_load1 rfl rfl rfl rfl rfl get_here rfl rfl) ?_
      refine PQ.pure (dst := (some 24)) (v := (Pt r 0 0)) rfl rfl rfl (app [(n, some ⟨[[(Pt r 0 0)]], 1, 85, true⟩)] noStore) (seen_one (V := []) (D := [(n33, some ⟨[(xTr211 s p)], 9, 24, true⟩), (r, some ⟨[[(.string (s.extract (p + 13) s.size)), (.int .i64 2)]], 2, 121, true⟩), ((n + 1), some ⟨[xTr219], 9, 24, true⟩), (n, some ⟨[[(Pt r 0 0)]], 1, 85, true⟩)]) (by kernel_rfl) (gt3 (by omega) get_here)) (r_load1 rfl rfl rfl rfl rfl get_here rfl rfl) ?_
      refine PQ.call (dst := (some 25)) (all := [(Pt r 0 0)]) rfl rfl rfl rfl rfl rfl rfl rfl _ (seen_any (V := []) (D := [(n33, some ⟨[(xTr211 s p)], 9, 24, true⟩), (r, some ⟨[[(.string (s.extract (p + 13) s.size)), (.int .i64 2)]], 2, 121, true⟩), ((n + 1), some ⟨[xTr219], 9, 24, true⟩), (n, some ⟨[[(Pt r 0 0)]], 1, 85, true⟩)]) (by kernel_rfl)) (CQ.imp (CQ.keys (rU16D (hd.of (by omega) (kb4 (by omega))) r (s.extract (p + 13) s.size) 0 (get_there (by omega) get_here))) ?_)
      rintro _ n34 _ ⟨hkn34, ⟨rfl, rfl⟩⟩
      have hn34 := hkn34.1
      refine ⟨hn34, (fun x hx => by simp [keys] at hx), ?_⟩
      refine PQ.call (dst := (some 26)) (all := [(Pt r 0 0), (.int .i64 0)]) rfl rfl rfl rfl rfl rfl rfl rfl _ (seen_any (V := []) (D := [(n33, some ⟨[(xTr211 s p)], 9, 24, true⟩), (r, some ⟨[[(.string (s.extract (p + 13) s.size)), (.int .i64 2)]], 2, 121, true⟩), ((n + 1), some ⟨[xTr219], 9, 24, true⟩), (n, some ⟨[[(Pt r 0 0)]], 1, 85, true⟩)]) (by kernel_rfl)) (CQ.imp (CQ.keys (rTakeD (hd.of (by omega) (kb4 (by omega))) r (s.extract (p + 13) s.size) 0 (get_there (by omega) get_here))) ?_)
      rintro _ n35 _ ⟨hkn35, ⟨rfl, rfl⟩⟩
      have hn35 := hkn35.1
      refine ⟨hn35, (fun x hx => by simp [keys] at hx), ?_⟩
      refine PQ.pure (dst := (some 27)) (v := (Pt n33 0 8)) rfl rfl rfl noStore (none_ok _ _) rfl ?_
      refine PQ.op (dst := none) (v := (.tuple #[])) (n1 := n35) (d1 := [(n33, some ⟨[(xTr210 s p)], 9, 24, true⟩)]) rfl rfl rfl _ (seen_any (V := []) (D := [(n33, some ⟨[(xTr211 s p)], 9, 24, true⟩), (r, some ⟨[[(.string (s.extract (p + 13) s.size)), (.int .i64 2)]], 2, 121, true⟩), ((n + 1), some ⟨[xTr219], 9, 24, true⟩), (n, some ⟨[[(Pt r 0 0)]], 1, 85, true⟩)]) (by kernel_rfl)) (r_store rfl rfl rfl rfl rfl rfl rfl get_here rfl rfl (Nat.le_of_ble_eq_true rfl) rfl) (by omega) (kp1 (wr_tight (by kernel_rfl) (by omega))) ?_
      refine PQ.done (d := [(n33, some ⟨[(xTr210 s p)], 9, 24, true⟩)]) (by kernel_rfl) ?_
      intro _
      refine RA.weaken (D' := [(n33, some ⟨[(xTr210 s p)], 9, 24, true⟩), (r, some ⟨[[(.string (s.extract (p + 13) s.size)), (.int .i64 2)]], 2, 121, true⟩), ((n + 1), some ⟨[xTr219], 9, 24, true⟩), (n, some ⟨[[(Pt r 0 0)]], 1, 85, true⟩)]) hd (Less.of (fac (mm (fun _ => get_here) (fun _ => get_here)) (fac (mm (fun _ => (get_there (by omega) get_here)) (fun _ => (gt2 (by omega) get_here))) (fac (mm (fun _ => (gt2 (by omega) get_here)) (fun _ => (gt3 (by omega) get_here))) (fac (mm (fun _ => (gt3 (by omega) get_here)) (fun _ => (gt4 (by omega) get_here))) fan)))) (gone_of (by simp only [goneP, memP, List.cons_append, List.nil_append, true_or, or_true, true_and, and_true, or_false] <;> omega))) ?_
      refine RA.rebase [(0, (Pt r 0 0)), (1, (Pt n 0 0)), (2, (.pointer (some ⟨(n + 1), 0, some 0⟩))), (3, (.func (.func 92) ⟨[]⟩ ⟨[(Pt n 0 0)]⟩)), (4, (Pt n33 0 0))] ⟨rfl, rfl, rfl, rfl, rfl, trivial⟩ (fun τr36 => ?_)
      refine RA.seq hd ?_
      refine RA.region env_ok ?_
      refine OA.p (some 28) (.agg ⟨(xTr210 s p)⟩) rfl rfl rfl (r_loadA rfl rfl rfl rfl get_here rfl rfl rfl) ?_
      refine OA.op1 (dst := none) (v := (.tuple #[])) (n1 := n35) (w := ((n + 1), some ⟨[(xTr210 s p)], 9, 24, true⟩)) rfl rfl rfl (r_store rfl rfl rfl rfl rfl rfl rfl (gt2 (by omega) get_here) rfl rfl (Nat.le_of_ble_eq_true rfl) rfl) (by omega) ?_
      refine OA.nil ?_
      intro _
      refine RA.weaken (D' := [((n + 1), some ⟨[(xTr210 s p)], 9, 24, true⟩), (n33, some ⟨[(xTr210 s p)], 9, 24, true⟩), (r, some ⟨[[(.string (s.extract (p + 13) s.size)), (.int .i64 2)]], 2, 121, true⟩), (n, some ⟨[[(Pt r 0 0)]], 1, 85, true⟩)]) hd (Less.of (fac (mm (fun _ => get_here) (fun _ => get_here)) (fac (mm (fun _ => (get_there (by omega) get_here)) (fun _ => (get_there (by omega) get_here))) (fac (mm (fun _ => (gt2 (by omega) get_here)) (fun _ => (gt2 (by omega) get_here))) (fac (mm (fun _ => (gt3 (by omega) get_here)) (fun _ => (gt4 (by omega) get_here))) fan)))) (gone_of (by simp only [goneP, memP, List.cons_append, List.nil_append, true_or, or_true, true_and, and_true, or_false] <;> omega))) ?_
      refine RA.ret env_ok ?_
      refine ⟨.inr rfl, [(.agg ⟨(xTr210 s p)⟩)], (resL_cons (res_cellA rfl rfl rfl get_here rfl rfl rfl) resL_nil), [(r, some ⟨[[(.string (s.extract (p + 13) s.size)), (.int .i64 2)]], 2, 121, true⟩)], (Less.of (fac (mm (fun _ => get_here) (fun _ => (gt2 (by omega) get_here))) fan) (gone_of (by simp only [goneP, memP, List.cons_append, List.nil_append, true_or, or_true, true_and, and_true, or_false] <;> omega))), ⟨(Act.mk (((at_ s p 1) : Nat) : Int) ((w32 s (p + 1)).toInt) ((w32 s (p + 5)).toInt) ((w32 s (p + 9)).toInt) 0 0 0 0 (ByteArray.mk #[])), (s.extract (p + 13) s.size), rfl, rfl⟩⟩
    ·
     refine OA.call (dst := (some 13)) (all := [(Pt n 0 0)]) rfl rfl rfl rfl rfl rfl rfl rfl (CQ.imp (tNumS (hd.of (by omega) (kb5 (by omega))) n r s (p + 9) 0 (by omega) (by omega) (by omega) (gt4 (by omega) get_here) get_here) ?_)
     rintro _ n37 _ ⟨rfl, rfl⟩ hn37
     refine OA.app1 ?_
     refine OA.p (some 14) (.func (.func 92) ⟨[]⟩ ⟨[(Pt n 0 0)]⟩) rfl rfl rfl rfl ?_
     refine OA.call (dst := (some 15)) (all := [(Pt n 0 0)]) rfl rfl rfl rfl rfl rfl rfl rfl (CQ.imp (tNumD (hd.of (by omega) (kb6 (by omega))) n r (s.extract (p + 9) s.size) 0 0 (by omega) (gt5 (by omega) get_here) get_here) ?_)
     rintro _ n38 _ ⟨rfl, rfl⟩ hn38
     refine OA.app0 ?_
     refine OA.p (some 16) (.func (.func 92) ⟨[]⟩ ⟨[(Pt n 0 0)]⟩) rfl rfl rfl rfl ?_
     refine OA.call (dst := (some 17)) (all := [(Pt n 0 0)]) rfl rfl rfl rfl rfl rfl rfl rfl (CQ.imp (tNumD (hd.of (by omega) (kb6 (by omega))) n r (s.extract (p + 9) s.size) 0 0 (by omega) (gt5 (by omega) get_here) get_here) ?_)
     rintro _ n39 _ ⟨rfl, rfl⟩ hn39
     refine OA.app0 ?_
     refine OA.p (some 18) (.func (.func 92) ⟨[]⟩ ⟨[(Pt n 0 0)]⟩) rfl rfl rfl rfl ?_
     refine OA.call (dst := (some 19)) (all := [(Pt n 0 0)]) rfl rfl rfl rfl rfl rfl rfl rfl (CQ.imp (tNumD (hd.of (by omega) (kb6 (by omega))) n r (s.extract (p + 9) s.size) 0 0 (by omega) (gt5 (by omega) get_here) get_here) ?_)
     rintro _ n40 _ ⟨rfl, rfl⟩ hn40
     refine OA.app0 ?_
     refine OA.p (some 20) (.func (.func 92) ⟨[]⟩ ⟨[(Pt n 0 0)]⟩) rfl rfl rfl rfl ?_
     refine OA.call (dst := (some 21)) (all := [(Pt n 0 0)]) rfl rfl rfl rfl rfl rfl rfl rfl (CQ.imp (tNumD (hd.of (by omega) (kb6 (by omega))) n r (s.extract (p + 9) s.size) 0 0 (by omega) (gt5 (by omega) get_here) get_here) ?_)
     rintro _ n41 _ ⟨rfl, rfl⟩ hn41
     refine OA.app0 ?_
     refine OA.p (some 22) (.agg ⟨(xTr213 s p)⟩) rfl rfl rfl (by kernel_rfl) ?_
     refine OA.op1 (dst := (some 4)) (v := (Pt n41 0 0)) (n1 := (n41 + 1)) (w := (n41, some ⟨[xTr219], 9, 24, true⟩)) rfl rfl rfl rfl (by omega) ?_
     refine OA.op1 (dst := none) (v := (.tuple #[])) (n1 := (n41 + 1)) (w := (n41, some ⟨[(xTr213 s p)], 9, 24, true⟩)) rfl rfl rfl (r_store rfl rfl rfl rfl rfl rfl rfl get_here rfl rfl (Nat.le_of_ble_eq_true rfl) rfl) (by omega) ?_
     refine OA.nil ?_
     intro _
     refine RA.weaken (D' := [(n41, some ⟨[(xTr213 s p)], 9, 24, true⟩), (r, some ⟨[[(.string (s.extract (p + 9) s.size)), (.int .i64 2)]], 2, 121, true⟩), ((n + 1), some ⟨[xTr219], 9, 24, true⟩), (n, some ⟨[[(Pt r 0 0)]], 1, 85, true⟩)]) hd (Less.of (fac (mm (fun _ => get_here) (fun _ => get_here)) (fac (mm (fun _ => (get_there (by omega) get_here)) (fun _ => (gt2 (by omega) get_here))) (fac (mm (fun _ => (gt2 (by omega) get_here)) (fun _ => (gt6 (by omega) get_here))) (fac (mm (fun _ => (gt3 (by omega) get_here)) (fun _ => (gt7 (by omega) get_here))) fan)))) (gone_of (by simp only [goneP, memP, List.cons_append, List.nil_append, true_or, or_true, true_and, and_true, or_false] <;> omega))) ?_
     refine RA.seq hd ?_
     refine RA.par (md := [some [n], some [n], none, none, some [], none]) env_ok (hd.of (by omega) (kb4 (by omega))) (by kernel_rfl) ?_
     refine PQ.pure (dst := (some 23)) (v := (Pt r 0 0)) rfl rfl rfl (app [(n, some ⟨[[(Pt r 0 0)]], 1, 85, true⟩)] noStore) (seen_one (V := []) (D := [(n41, some ⟨[(xTr213 s p)], 9, 24, true⟩), (r, some ⟨[[(.string (s.extract (p + 9) s.size)), (.int .i64 2)]], 2, 121, true⟩), ((n + 1), some ⟨[xTr219], 9, 24, true⟩), (n, some ⟨[[(Pt r 0 0)]], 1, 85, true⟩)]) (by kernel_rfl) (gt3 (by omega) get_here)) (r_load1 rfl rfl rfl rfl rfl get_here rfl rfl) ?_
     refine PQ.pure (dst := (some 24)) (v := (Pt r 0 0)) rfl rfl rfl (app [(n, some ⟨[[(Pt r 0 0)]], 1, 85, true⟩)] noStore) (seen_one (V := []) (D := [(n41, some ⟨[(xTr213 s p)], 9, 24, true⟩), (r, some ⟨[[(.string (s.extract (p + 9) s.size)), (.int .i64 2)]], 2, 121, true⟩), ((n + 1), some ⟨[xTr219], 9, 24, true⟩), (n, some ⟨[[(Pt r 0 0)]], 1, 85, true⟩)]) (by kernel_rfl) (gt3 (by omega) get_here)) (r_load1 rfl rfl rfl rfl rfl get_here rfl rfl) ?_
     refine PQ.call (dst := (some 25)) (all := [(Pt r 0 0)]) rfl rfl rfl rfl rfl rfl rfl rfl _ (seen_any (V := []) (D := [(n41, some ⟨[(xTr213 s p)], 9, 24, true⟩), (r, some ⟨[[(.string (s.extract (p + 9) s.size)), (.int .i64 2)]], 2, 121, true⟩), ((n + 1), some ⟨[xTr219], 9, 24, true⟩), (n, some ⟨[[(Pt r 0 0)]], 1, 85, true⟩)]) (by kernel_rfl)) (CQ.imp (CQ.keys (rU16D (hd.of (by omega) (kb4 (by omega))) r (s.extract (p + 9) s.size) 0 (get_there (by omega) get_here))) ?_)
     rintro _ n42 _ ⟨hkn42, ⟨rfl, rfl⟩⟩
     have hn42 := hkn42.1
     refine ⟨hn42, (fun x hx => by simp [keys] at hx), ?_⟩
     refine PQ.call (dst := (some 26)) (all := [(Pt r 0 0), (.int .i64 0)]) rfl rfl rfl rfl rfl rfl rfl rfl _ (seen_any (V := []) (D := [(n41, some ⟨[(xTr213 s p)], 9, 24, true⟩), (r, some ⟨[[(.string (s.extract (p + 9) s.size)), (.int .i64 2)]], 2, 121, true⟩), ((n + 1), some ⟨[xTr219], 9, 24, true⟩), (n, some ⟨[[(Pt r 0 0)]], 1, 85, true⟩)]) (by kernel_rfl)) (CQ.imp (CQ.keys (rTakeD (hd.of (by omega) (kb4 (by omega))) r (s.extract (p + 9) s.size) 0 (get_there (by omega) get_here))) ?_)
     rintro _ n43 _ ⟨hkn43, ⟨rfl, rfl⟩⟩
     have hn43 := hkn43.1
     refine ⟨hn43, (fun x hx => by simp [keys] at hx), ?_⟩
     refine PQ.pure (dst := (some 27)) (v := (Pt n41 0 8)) rfl rfl rfl noStore (none_ok _ _) rfl ?_
     refine PQ.op (dst := none) (v := (.tuple #[])) (n1 := n43) (d1 := [(n41, some ⟨[(xTr212 s p)], 9, 24, true⟩)]) rfl rfl rfl _ (seen_any (V := []) (D := [(n41, some ⟨[(xTr213 s p)], 9, 24, true⟩), (r, some ⟨[[(.string (s.extract (p + 9) s.size)), (.int .i64 2)]], 2, 121, true⟩), ((n + 1), some ⟨[xTr219], 9, 24, true⟩), (n, some ⟨[[(Pt r 0 0)]], 1, 85, true⟩)]) (by kernel_rfl)) (r_store rfl rfl rfl rfl rfl rfl rfl get_here rfl rfl (Nat.le_of_ble_eq_true rfl) rfl) (by omega) (kp1 (wr_tight (by kernel_rfl) (by omega))) ?_
     refine PQ.done (d := [(n41, some ⟨[(xTr212 s p)], 9, 24, true⟩)]) (by kernel_rfl) ?_
     intro _
     refine RA.weaken (D' := [(n41, some ⟨[(xTr212 s p)], 9, 24, true⟩), (r, some ⟨[[(.string (s.extract (p + 9) s.size)), (.int .i64 2)]], 2, 121, true⟩), ((n + 1), some ⟨[xTr219], 9, 24, true⟩), (n, some ⟨[[(Pt r 0 0)]], 1, 85, true⟩)]) hd (Less.of (fac (mm (fun _ => get_here) (fun _ => get_here)) (fac (mm (fun _ => (get_there (by omega) get_here)) (fun _ => (gt2 (by omega) get_here))) (fac (mm (fun _ => (gt2 (by omega) get_here)) (fun _ => (gt3 (by omega) get_here))) (fac (mm (fun _ => (gt3 (by omega) get_here)) (fun _ => (gt4 (by omega) get_here))) fan)))) (gone_of (by simp only [goneP, memP, List.cons_append, List.nil_append, true_or, or_true, true_and, and_true, or_false] <;> omega))) ?_
     refine RA.rebase [(0, (Pt r 0 0)), (1, (Pt n 0 0)), (2, (.pointer (some ⟨(n + 1), 0, some 0⟩))), (3, (.func (.func 92) ⟨[]⟩ ⟨[(Pt n 0 0)]⟩)), (4, (Pt n41 0 0))] ⟨rfl, rfl, rfl, rfl, rfl, trivial⟩ (fun τr44 => ?_)
     refine RA.seq hd ?_
     refine RA.region env_ok ?_
     refine OA.p (some 28) (.agg ⟨(xTr212 s p)⟩) rfl rfl rfl (r_loadA rfl rfl rfl rfl get_here rfl rfl rfl) ?_
     refine OA.op1 (dst := none) (v := (.tuple #[])) (n1 := n43) (w := ((n + 1), some ⟨[(xTr212 s p)], 9, 24, true⟩)) rfl rfl rfl (r_store rfl rfl rfl rfl rfl rfl rfl (gt2 (by omega) get_here) rfl rfl (Nat.le_of_ble_eq_true rfl) rfl) (by omega) ?_
     refine OA.nil ?_
     intro _
     refine RA.weaken (D' := [((n + 1), some ⟨[(xTr212 s p)], 9, 24, true⟩), (n41, some ⟨[(xTr212 s p)], 9, 24, true⟩), (r, some ⟨[[(.string (s.extract (p + 9) s.size)), (.int .i64 2)]], 2, 121, true⟩), (n, some ⟨[[(Pt r 0 0)]], 1, 85, true⟩)]) hd (Less.of (fac (mm (fun _ => get_here) (fun _ => get_here)) (fac (mm (fun _ => (get_there (by omega) get_here)) (fun _ => (get_there (by omega) get_here))) (fac (mm (fun _ => (gt2 (by omega) get_here)) (fun _ => (gt2 (by omega) get_here))) (fac (mm (fun _ => (gt3 (by omega) get_here)) (fun _ => (gt4 (by omega) get_here))) fan)))) (gone_of (by simp only [goneP, memP, List.cons_append, List.nil_append, true_or, or_true, true_and, and_true, or_false] <;> omega))) ?_
     refine RA.ret env_ok ?_
     refine ⟨.inr rfl, [(.agg ⟨(xTr212 s p)⟩)], (resL_cons (res_cellA rfl rfl rfl get_here rfl rfl rfl) resL_nil), [(r, some ⟨[[(.string (s.extract (p + 9) s.size)), (.int .i64 2)]], 2, 121, true⟩)], (Less.of (fac (mm (fun _ => get_here) (fun _ => (gt2 (by omega) get_here))) fan) (gone_of (by simp only [goneP, memP, List.cons_append, List.nil_append, true_or, or_true, true_and, and_true, or_false] <;> omega))), ⟨(Act.mk (((at_ s p 1) : Nat) : Int) ((w32 s (p + 1)).toInt) ((w32 s (p + 5)).toInt) 0 0 0 0 0 (ByteArray.mk #[])), (s.extract (p + 9) s.size), rfl, rfl⟩⟩
   ·
    refine OA.call (dst := (some 11)) (all := [(Pt n 0 0)]) rfl rfl rfl rfl rfl rfl rfl rfl (CQ.imp (tNumS (hd.of (by omega) (kb4 (by omega))) n r s (p + 5) 0 (by omega) (by omega) (by omega) (gt3 (by omega) get_here) get_here) ?_)
    rintro _ n45 _ ⟨rfl, rfl⟩ hn45
    refine OA.app1 ?_
    refine OA.p (some 12) (.func (.func 92) ⟨[]⟩ ⟨[(Pt n 0 0)]⟩) rfl rfl rfl rfl ?_
    refine OA.call (dst := (some 13)) (all := [(Pt n 0 0)]) rfl rfl rfl rfl rfl rfl rfl rfl (CQ.imp (tNumD (hd.of (by omega) (kb5 (by omega))) n r (s.extract (p + 5) s.size) 0 0 (by omega) (gt4 (by omega) get_here) get_here) ?_)
    rintro _ n46 _ ⟨rfl, rfl⟩ hn46
    refine OA.app0 ?_
    refine OA.p (some 14) (.func (.func 92) ⟨[]⟩ ⟨[(Pt n 0 0)]⟩) rfl rfl rfl rfl ?_
    refine OA.call (dst := (some 15)) (all := [(Pt n 0 0)]) rfl rfl rfl rfl rfl rfl rfl rfl (CQ.imp (tNumD (hd.of (by omega) (kb5 (by omega))) n r (s.extract (p + 5) s.size) 0 0 (by omega) (gt4 (by omega) get_here) get_here) ?_)
    rintro _ n47 _ ⟨rfl, rfl⟩ hn47
    refine OA.app0 ?_
    refine OA.p (some 16) (.func (.func 92) ⟨[]⟩ ⟨[(Pt n 0 0)]⟩) rfl rfl rfl rfl ?_
    refine OA.call (dst := (some 17)) (all := [(Pt n 0 0)]) rfl rfl rfl rfl rfl rfl rfl rfl (CQ.imp (tNumD (hd.of (by omega) (kb5 (by omega))) n r (s.extract (p + 5) s.size) 0 0 (by omega) (gt4 (by omega) get_here) get_here) ?_)
    rintro _ n48 _ ⟨rfl, rfl⟩ hn48
    refine OA.app0 ?_
    refine OA.p (some 18) (.func (.func 92) ⟨[]⟩ ⟨[(Pt n 0 0)]⟩) rfl rfl rfl rfl ?_
    refine OA.call (dst := (some 19)) (all := [(Pt n 0 0)]) rfl rfl rfl rfl rfl rfl rfl rfl (CQ.imp (tNumD (hd.of (by omega) (kb5 (by omega))) n r (s.extract (p + 5) s.size) 0 0 (by omega) (gt4 (by omega) get_here) get_here) ?_)
    rintro _ n49 _ ⟨rfl, rfl⟩ hn49
    refine OA.app0 ?_
    refine OA.p (some 20) (.func (.func 92) ⟨[]⟩ ⟨[(Pt n 0 0)]⟩) rfl rfl rfl rfl ?_
    refine OA.call (dst := (some 21)) (all := [(Pt n 0 0)]) rfl rfl rfl rfl rfl rfl rfl rfl (CQ.imp (tNumD (hd.of (by omega) (kb5 (by omega))) n r (s.extract (p + 5) s.size) 0 0 (by omega) (gt4 (by omega) get_here) get_here) ?_)
    rintro _ n50 _ ⟨rfl, rfl⟩ hn50
    refine OA.app0 ?_
    refine OA.p (some 22) (.agg ⟨(xTr215 s p)⟩) rfl rfl rfl (by kernel_rfl) ?_
    refine OA.op1 (dst := (some 4)) (v := (Pt n50 0 0)) (n1 := (n50 + 1)) (w := (n50, some ⟨[xTr219], 9, 24, true⟩)) rfl rfl rfl rfl (by omega) ?_
    refine OA.op1 (dst := none) (v := (.tuple #[])) (n1 := (n50 + 1)) (w := (n50, some ⟨[(xTr215 s p)], 9, 24, true⟩)) rfl rfl rfl (r_store rfl rfl rfl rfl rfl rfl rfl get_here rfl rfl (Nat.le_of_ble_eq_true rfl) rfl) (by omega) ?_
    refine OA.nil ?_
    intro _
    refine RA.weaken (D' := [(n50, some ⟨[(xTr215 s p)], 9, 24, true⟩), (r, some ⟨[[(.string (s.extract (p + 5) s.size)), (.int .i64 2)]], 2, 121, true⟩), ((n + 1), some ⟨[xTr219], 9, 24, true⟩), (n, some ⟨[[(Pt r 0 0)]], 1, 85, true⟩)]) hd (Less.of (fac (mm (fun _ => get_here) (fun _ => get_here)) (fac (mm (fun _ => (get_there (by omega) get_here)) (fun _ => (gt2 (by omega) get_here))) (fac (mm (fun _ => (gt2 (by omega) get_here)) (fun _ => (gt5 (by omega) get_here))) (fac (mm (fun _ => (gt3 (by omega) get_here)) (fun _ => (gt6 (by omega) get_here))) fan)))) (gone_of (by simp only [goneP, memP, List.cons_append, List.nil_append, true_or, or_true, true_and, and_true, or_false] <;> omega))) ?_
    refine RA.seq hd ?_
    refine RA.par (md := [some [n], some [n], none, none, some [], none]) env_ok (hd.of (by omega) (kb4 (by omega))) (by kernel_rfl) ?_
    refine PQ.pure (dst := (some 23)) (v := (Pt r 0 0)) rfl rfl rfl (app [(n, some ⟨[[(Pt r 0 0)]], 1, 85, true⟩)] noStore) (seen_one (V := []) (D := [(n50, some ⟨[(xTr215 s p)], 9, 24, true⟩), (r, some ⟨[[(.string (s.extract (p + 5) s.size)), (.int .i64 2)]], 2, 121, true⟩), ((n + 1), some ⟨[xTr219], 9, 24, true⟩), (n, some ⟨[[(Pt r 0 0)]], 1, 85, true⟩)]) (by kernel_rfl) (gt3 (by omega) get_here)) (r_load1 rfl rfl rfl rfl rfl get_here rfl rfl) ?_
    refine PQ.pure (dst := (some 24)) (v := (Pt r 0 0)) rfl rfl rfl (app [(n, some ⟨[[(Pt r 0 0)]], 1, 85, true⟩)] noStore) (seen_one (V := []) (D := [(n50, some ⟨[(xTr215 s p)], 9, 24, true⟩), (r, some ⟨[[(.string (s.extract (p + 5) s.size)), (.int .i64 2)]], 2, 121, true⟩), ((n + 1), some ⟨[xTr219], 9, 24, true⟩), (n, some ⟨[[(Pt r 0 0)]], 1, 85, true⟩)]) (by kernel_rfl) (gt3 (by omega) get_here)) (r_load1 rfl rfl rfl rfl rfl get_here rfl rfl) ?_
    refine PQ.call (dst := (some 25)) (all := [(Pt r 0 0)]) rfl rfl rfl rfl rfl rfl rfl rfl _ (seen_any (V := []) (D := [(n50, some ⟨[(xTr215 s p)], 9, 24, true⟩), (r, some ⟨[[(.string (s.extract (p + 5) s.size)), (.int .i64 2)]], 2, 121, true⟩), ((n + 1), some ⟨[xTr219], 9, 24, true⟩), (n, some ⟨[[(Pt r 0 0)]], 1, 85, true⟩)]) (by kernel_rfl)) (CQ.imp (CQ.keys (rU16D (hd.of (by omega) (kb4 (by omega))) r (s.extract (p + 5) s.size) 0 (get_there (by omega) get_here))) ?_)
    rintro _ n51 _ ⟨hkn51, ⟨rfl, rfl⟩⟩
    have hn51 := hkn51.1
    refine ⟨hn51, (fun x hx => by simp [keys] at hx), ?_⟩
    refine PQ.call (dst := (some 26)) (all := [(Pt r 0 0), (.int .i64 0)]) rfl rfl rfl rfl rfl rfl rfl rfl _ (seen_any (V := []) (D := [(n50, some ⟨[(xTr215 s p)], 9, 24, true⟩), (r, some ⟨[[(.string (s.extract (p + 5) s.size)), (.int .i64 2)]], 2, 121, true⟩), ((n + 1), some ⟨[xTr219], 9, 24, true⟩), (n, some ⟨[[(Pt r 0 0)]], 1, 85, true⟩)]) (by kernel_rfl)) (CQ.imp (CQ.keys (rTakeD (hd.of (by omega) (kb4 (by omega))) r (s.extract (p + 5) s.size) 0 (get_there (by omega) get_here))) ?_)
    rintro _ n52 _ ⟨hkn52, ⟨rfl, rfl⟩⟩
    have hn52 := hkn52.1
    refine ⟨hn52, (fun x hx => by simp [keys] at hx), ?_⟩
    refine PQ.pure (dst := (some 27)) (v := (Pt n50 0 8)) rfl rfl rfl noStore (none_ok _ _) rfl ?_
    refine PQ.op (dst := none) (v := (.tuple #[])) (n1 := n52) (d1 := [(n50, some ⟨[(xTr214 s p)], 9, 24, true⟩)]) rfl rfl rfl _ (seen_any (V := []) (D := [(n50, some ⟨[(xTr215 s p)], 9, 24, true⟩), (r, some ⟨[[(.string (s.extract (p + 5) s.size)), (.int .i64 2)]], 2, 121, true⟩), ((n + 1), some ⟨[xTr219], 9, 24, true⟩), (n, some ⟨[[(Pt r 0 0)]], 1, 85, true⟩)]) (by kernel_rfl)) (r_store rfl rfl rfl rfl rfl rfl rfl get_here rfl rfl (Nat.le_of_ble_eq_true rfl) rfl) (by omega) (kp1 (wr_tight (by kernel_rfl) (by omega))) ?_
    refine PQ.done (d := [(n50, some ⟨[(xTr214 s p)], 9, 24, true⟩)]) (by kernel_rfl) ?_
    intro _
    refine RA.weaken (D' := [(n50, some ⟨[(xTr214 s p)], 9, 24, true⟩), (r, some ⟨[[(.string (s.extract (p + 5) s.size)), (.int .i64 2)]], 2, 121, true⟩), ((n + 1), some ⟨[xTr219], 9, 24, true⟩), (n, some ⟨[[(Pt r 0 0)]], 1, 85, true⟩)]) hd (Less.of (fac (mm (fun _ => get_here) (fun _ => get_here)) (fac (mm (fun _ => (get_there (by omega) get_here)) (fun _ => (gt2 (by omega) get_here))) (fac (mm (fun _ => (gt2 (by omega) get_here)) (fun _ => (gt3 (by omega) get_here))) (fac (mm (fun _ => (gt3 (by omega) get_here)) (fun _ => (gt4 (by omega) get_here))) fan)))) (gone_of (by simp only [goneP, memP, List.cons_append, List.nil_append, true_or, or_true, true_and, and_true, or_false] <;> omega))) ?_
    refine RA.rebase [(0, (Pt r 0 0)), (1, (Pt n 0 0)), (2, (.pointer (some ⟨(n + 1), 0, some 0⟩))), (3, (.func (.func 92) ⟨[]⟩ ⟨[(Pt n 0 0)]⟩)), (4, (Pt n50 0 0))] ⟨rfl, rfl, rfl, rfl, rfl, trivial⟩ (fun τr53 => ?_)
    refine RA.seq hd ?_
    refine RA.region env_ok ?_
    refine OA.p (some 28) (.agg ⟨(xTr214 s p)⟩) rfl rfl rfl (r_loadA rfl rfl rfl rfl get_here rfl rfl rfl) ?_
    refine OA.op1 (dst := none) (v := (.tuple #[])) (n1 := n52) (w := ((n + 1), some ⟨[(xTr214 s p)], 9, 24, true⟩)) rfl rfl rfl (r_store rfl rfl rfl rfl rfl rfl rfl (gt2 (by omega) get_here) rfl rfl (Nat.le_of_ble_eq_true rfl) rfl) (by omega) ?_
    refine OA.nil ?_
    intro _
    refine RA.weaken (D' := [((n + 1), some ⟨[(xTr214 s p)], 9, 24, true⟩), (n50, some ⟨[(xTr214 s p)], 9, 24, true⟩), (r, some ⟨[[(.string (s.extract (p + 5) s.size)), (.int .i64 2)]], 2, 121, true⟩), (n, some ⟨[[(Pt r 0 0)]], 1, 85, true⟩)]) hd (Less.of (fac (mm (fun _ => get_here) (fun _ => get_here)) (fac (mm (fun _ => (get_there (by omega) get_here)) (fun _ => (get_there (by omega) get_here))) (fac (mm (fun _ => (gt2 (by omega) get_here)) (fun _ => (gt2 (by omega) get_here))) (fac (mm (fun _ => (gt3 (by omega) get_here)) (fun _ => (gt4 (by omega) get_here))) fan)))) (gone_of (by simp only [goneP, memP, List.cons_append, List.nil_append, true_or, or_true, true_and, and_true, or_false] <;> omega))) ?_
    refine RA.ret env_ok ?_
    refine ⟨.inr rfl, [(.agg ⟨(xTr214 s p)⟩)], (resL_cons (res_cellA rfl rfl rfl get_here rfl rfl rfl) resL_nil), [(r, some ⟨[[(.string (s.extract (p + 5) s.size)), (.int .i64 2)]], 2, 121, true⟩)], (Less.of (fac (mm (fun _ => get_here) (fun _ => (gt2 (by omega) get_here))) fan) (gone_of (by simp only [goneP, memP, List.cons_append, List.nil_append, true_or, or_true, true_and, and_true, or_false] <;> omega))), ⟨(Act.mk (((at_ s p 1) : Nat) : Int) ((w32 s (p + 1)).toInt) 0 0 0 0 0 0 (ByteArray.mk #[])), (s.extract (p + 5) s.size), rfl, rfl⟩⟩
  ·
   refine OA.call (dst := (some 9)) (all := [(Pt n 0 0)]) rfl rfl rfl rfl rfl rfl rfl rfl (CQ.imp (tNumS (hd.of (by omega) (kb3 (by omega))) n r s (p + 1) 0 (by omega) (by omega) (by omega) (gt2 (by omega) get_here) get_here) ?_)
   rintro _ n54 _ ⟨rfl, rfl⟩ hn54
   refine OA.app1 ?_
   refine OA.p (some 10) (.func (.func 92) ⟨[]⟩ ⟨[(Pt n 0 0)]⟩) rfl rfl rfl rfl ?_
   refine OA.call (dst := (some 11)) (all := [(Pt n 0 0)]) rfl rfl rfl rfl rfl rfl rfl rfl (CQ.imp (tNumD (hd.of (by omega) (kb4 (by omega))) n r (s.extract (p + 1) s.size) 0 0 (by omega) (gt3 (by omega) get_here) get_here) ?_)
   rintro _ n55 _ ⟨rfl, rfl⟩ hn55
   refine OA.app0 ?_
   refine OA.p (some 12) (.func (.func 92) ⟨[]⟩ ⟨[(Pt n 0 0)]⟩) rfl rfl rfl rfl ?_
   refine OA.call (dst := (some 13)) (all := [(Pt n 0 0)]) rfl rfl rfl rfl rfl rfl rfl rfl (CQ.imp (tNumD (hd.of (by omega) (kb4 (by omega))) n r (s.extract (p + 1) s.size) 0 0 (by omega) (gt3 (by omega) get_here) get_here) ?_)
   rintro _ n56 _ ⟨rfl, rfl⟩ hn56
   refine OA.app0 ?_
   refine OA.p (some 14) (.func (.func 92) ⟨[]⟩ ⟨[(Pt n 0 0)]⟩) rfl rfl rfl rfl ?_
   refine OA.call (dst := (some 15)) (all := [(Pt n 0 0)]) rfl rfl rfl rfl rfl rfl rfl rfl (CQ.imp (tNumD (hd.of (by omega) (kb4 (by omega))) n r (s.extract (p + 1) s.size) 0 0 (by omega) (gt3 (by omega) get_here) get_here) ?_)
   rintro _ n57 _ ⟨rfl, rfl⟩ hn57
   refine OA.app0 ?_
   refine OA.p (some 16) (.func (.func 92) ⟨[]⟩ ⟨[(Pt n 0 0)]⟩) rfl rfl rfl rfl ?_
   refine OA.call (dst := (some 17)) (all := [(Pt n 0 0)]) rfl rfl rfl rfl rfl rfl rfl rfl (CQ.imp (tNumD (hd.of (by omega) (kb4 (by omega))) n r (s.extract (p + 1) s.size) 0 0 (by omega) (gt3 (by omega) get_here) get_here) ?_)
   rintro _ n58 _ ⟨rfl, rfl⟩ hn58
   refine OA.app0 ?_
   refine OA.p (some 18) (.func (.func 92) ⟨[]⟩ ⟨[(Pt n 0 0)]⟩) rfl rfl rfl rfl ?_
   refine OA.call (dst := (some 19)) (all := [(Pt n 0 0)]) rfl rfl rfl rfl rfl rfl rfl rfl (CQ.imp (tNumD (hd.of (by omega) (kb4 (by omega))) n r (s.extract (p + 1) s.size) 0 0 (by omega) (gt3 (by omega) get_here) get_here) ?_)
   rintro _ n59 _ ⟨rfl, rfl⟩ hn59
   refine OA.app0 ?_
   refine OA.p (some 20) (.func (.func 92) ⟨[]⟩ ⟨[(Pt n 0 0)]⟩) rfl rfl rfl rfl ?_
   refine OA.call (dst := (some 21)) (all := [(Pt n 0 0)]) rfl rfl rfl rfl rfl rfl rfl rfl (CQ.imp (tNumD (hd.of (by omega) (kb4 (by omega))) n r (s.extract (p + 1) s.size) 0 0 (by omega) (gt3 (by omega) get_here) get_here) ?_)
   rintro _ n60 _ ⟨rfl, rfl⟩ hn60
   refine OA.app0 ?_
   refine OA.p (some 22) (.agg ⟨(xTr217 s p)⟩) rfl rfl rfl (by kernel_rfl) ?_
   refine OA.op1 (dst := (some 4)) (v := (Pt n60 0 0)) (n1 := (n60 + 1)) (w := (n60, some ⟨[xTr219], 9, 24, true⟩)) rfl rfl rfl rfl (by omega) ?_
   refine OA.op1 (dst := none) (v := (.tuple #[])) (n1 := (n60 + 1)) (w := (n60, some ⟨[(xTr217 s p)], 9, 24, true⟩)) rfl rfl rfl (r_store rfl rfl rfl rfl rfl rfl rfl get_here rfl rfl (Nat.le_of_ble_eq_true rfl) rfl) (by omega) ?_
   refine OA.nil ?_
   intro _
   refine RA.weaken (D' := [(n60, some ⟨[(xTr217 s p)], 9, 24, true⟩), (r, some ⟨[[(.string (s.extract (p + 1) s.size)), (.int .i64 2)]], 2, 121, true⟩), ((n + 1), some ⟨[xTr219], 9, 24, true⟩), (n, some ⟨[[(Pt r 0 0)]], 1, 85, true⟩)]) hd (Less.of (fac (mm (fun _ => get_here) (fun _ => get_here)) (fac (mm (fun _ => (get_there (by omega) get_here)) (fun _ => (gt2 (by omega) get_here))) (fac (mm (fun _ => (gt2 (by omega) get_here)) (fun _ => (gt4 (by omega) get_here))) (fac (mm (fun _ => (gt3 (by omega) get_here)) (fun _ => (gt5 (by omega) get_here))) fan)))) (gone_of (by simp only [goneP, memP, List.cons_append, List.nil_append, true_or, or_true, true_and, and_true, or_false] <;> omega))) ?_
   refine RA.seq hd ?_
   refine RA.par (md := [some [n], some [n], none, none, some [], none]) env_ok (hd.of (by omega) (kb4 (by omega))) (by kernel_rfl) ?_
   refine PQ.pure (dst := (some 23)) (v := (Pt r 0 0)) rfl rfl rfl (app [(n, some ⟨[[(Pt r 0 0)]], 1, 85, true⟩)] noStore) (seen_one (V := []) (D := [(n60, some ⟨[(xTr217 s p)], 9, 24, true⟩), (r, some ⟨[[(.string (s.extract (p + 1) s.size)), (.int .i64 2)]], 2, 121, true⟩), ((n + 1), some ⟨[xTr219], 9, 24, true⟩), (n, some ⟨[[(Pt r 0 0)]], 1, 85, true⟩)]) (by kernel_rfl) (gt3 (by omega) get_here)) (r_load1 rfl rfl rfl rfl rfl get_here rfl rfl) ?_
   refine PQ.pure (dst := (some 24)) (v := (Pt r 0 0)) rfl rfl rfl (app [(n, some ⟨[[(Pt r 0 0)]], 1, 85, true⟩)] noStore) (seen_one (V := []) (D := [(n60, some ⟨[(xTr217 s p)], 9, 24, true⟩), (r, some ⟨[[(.string (s.extract (p + 1) s.size)), (.int .i64 2)]], 2, 121, true⟩), ((n + 1), some ⟨[xTr219], 9, 24, true⟩), (n, some ⟨[[(Pt r 0 0)]], 1, 85, true⟩)]) (by kernel_rfl) (gt3 (by omega) get_here)) (r_load1 rfl rfl rfl rfl rfl get_here rfl rfl) ?_
   refine PQ.call (dst := (some 25)) (all := [(Pt r 0 0)]) rfl rfl rfl rfl rfl rfl rfl rfl _ (seen_any (V := []) (D := [(n60, some ⟨[(xTr217 s p)], 9, 24, true⟩), (r, some ⟨[[(.string (s.extract (p + 1) s.size)), (.int .i64 2)]], 2, 121, true⟩), ((n + 1), some ⟨[xTr219], 9, 24, true⟩), (n, some ⟨[[(Pt r 0 0)]], 1, 85, true⟩)]) (by kernel_rfl)) (CQ.imp (CQ.keys (rU16D (hd.of (by omega) (kb4 (by omega))) r (s.extract (p + 1) s.size) 0 (get_there (by omega) get_here))) ?_)
   rintro _ n61 _ ⟨hkn61, ⟨rfl, rfl⟩⟩
   have hn61 := hkn61.1
   refine ⟨hn61, (fun x hx => by simp [keys] at hx), ?_⟩
   refine PQ.call (dst := (some 26)) (all := [(Pt r 0 0), (.int .i64 0)]) rfl rfl rfl rfl rfl rfl rfl rfl _ (seen_any (V := []) (D := [(n60, some ⟨[(xTr217 s p)], 9, 24, true⟩), (r, some ⟨[[(.string (s.extract (p + 1) s.size)), (.int .i64 2)]], 2, 121, true⟩), ((n + 1), some ⟨[xTr219], 9, 24, true⟩), (n, some ⟨[[(Pt r 0 0)]], 1, 85, true⟩)]) (by kernel_rfl)) (CQ.imp (CQ.keys (rTakeD (hd.of (by omega) (kb4 (by omega))) r (s.extract (p + 1) s.size) 0 (get_there (by omega) get_here))) ?_)
   rintro _ n62 _ ⟨hkn62, ⟨rfl, rfl⟩⟩
   have hn62 := hkn62.1
   refine ⟨hn62, (fun x hx => by simp [keys] at hx), ?_⟩
   refine PQ.pure (dst := (some 27)) (v := (Pt n60 0 8)) rfl rfl rfl noStore (none_ok _ _) rfl ?_
   refine PQ.op (dst := none) (v := (.tuple #[])) (n1 := n62) (d1 := [(n60, some ⟨[(xTr216 s p)], 9, 24, true⟩)]) rfl rfl rfl _ (seen_any (V := []) (D := [(n60, some ⟨[(xTr217 s p)], 9, 24, true⟩), (r, some ⟨[[(.string (s.extract (p + 1) s.size)), (.int .i64 2)]], 2, 121, true⟩), ((n + 1), some ⟨[xTr219], 9, 24, true⟩), (n, some ⟨[[(Pt r 0 0)]], 1, 85, true⟩)]) (by kernel_rfl)) (r_store rfl rfl rfl rfl rfl rfl rfl get_here rfl rfl (Nat.le_of_ble_eq_true rfl) rfl) (by omega) (kp1 (wr_tight (by kernel_rfl) (by omega))) ?_
   refine PQ.done (d := [(n60, some ⟨[(xTr216 s p)], 9, 24, true⟩)]) (by kernel_rfl) ?_
   intro _
   refine RA.weaken (D' := [(n60, some ⟨[(xTr216 s p)], 9, 24, true⟩), (r, some ⟨[[(.string (s.extract (p + 1) s.size)), (.int .i64 2)]], 2, 121, true⟩), ((n + 1), some ⟨[xTr219], 9, 24, true⟩), (n, some ⟨[[(Pt r 0 0)]], 1, 85, true⟩)]) hd (Less.of (fac (mm (fun _ => get_here) (fun _ => get_here)) (fac (mm (fun _ => (get_there (by omega) get_here)) (fun _ => (gt2 (by omega) get_here))) (fac (mm (fun _ => (gt2 (by omega) get_here)) (fun _ => (gt3 (by omega) get_here))) (fac (mm (fun _ => (gt3 (by omega) get_here)) (fun _ => (gt4 (by omega) get_here))) fan)))) (gone_of (by simp only [goneP, memP, List.cons_append, List.nil_append, true_or, or_true, true_and, and_true, or_false] <;> omega))) ?_
   refine RA.rebase [(0, (Pt r 0 0)), (1, (Pt n 0 0)), (2, (.pointer (some ⟨(n + 1), 0, some 0⟩))), (3, (.func (.func 92) ⟨[]⟩ ⟨[(Pt n 0 0)]⟩)), (4, (Pt n60 0 0))] ⟨rfl, rfl, rfl, rfl, rfl, trivial⟩ (fun τr63 => ?_)
   refine RA.seq hd ?_
   refine RA.region env_ok ?_
   refine OA.p (some 28) (.agg ⟨(xTr216 s p)⟩) rfl rfl rfl (r_loadA rfl rfl rfl rfl get_here rfl rfl rfl) ?_
   refine OA.op1 (dst := none) (v := (.tuple #[])) (n1 := n62) (w := ((n + 1), some ⟨[(xTr216 s p)], 9, 24, true⟩)) rfl rfl rfl (r_store rfl rfl rfl rfl rfl rfl rfl (gt2 (by omega) get_here) rfl rfl (Nat.le_of_ble_eq_true rfl) rfl) (by omega) ?_
   refine OA.nil ?_
   intro _
   refine RA.weaken (D' := [((n + 1), some ⟨[(xTr216 s p)], 9, 24, true⟩), (n60, some ⟨[(xTr216 s p)], 9, 24, true⟩), (r, some ⟨[[(.string (s.extract (p + 1) s.size)), (.int .i64 2)]], 2, 121, true⟩), (n, some ⟨[[(Pt r 0 0)]], 1, 85, true⟩)]) hd (Less.of (fac (mm (fun _ => get_here) (fun _ => get_here)) (fac (mm (fun _ => (get_there (by omega) get_here)) (fun _ => (get_there (by omega) get_here))) (fac (mm (fun _ => (gt2 (by omega) get_here)) (fun _ => (gt2 (by omega) get_here))) (fac (mm (fun _ => (gt3 (by omega) get_here)) (fun _ => (gt4 (by omega) get_here))) fan)))) (gone_of (by simp only [goneP, memP, List.cons_append, List.nil_append, true_or, or_true, true_and, and_true, or_false] <;> omega))) ?_
   refine RA.ret env_ok ?_
   refine ⟨.inr rfl, [(.agg ⟨(xTr216 s p)⟩)], (resL_cons (res_cellA rfl rfl rfl get_here rfl rfl rfl) resL_nil), [(r, some ⟨[[(.string (s.extract (p + 1) s.size)), (.int .i64 2)]], 2, 121, true⟩)], (Less.of (fac (mm (fun _ => get_here) (fun _ => (gt2 (by omega) get_here))) fan) (gone_of (by simp only [goneP, memP, List.cons_append, List.nil_append, true_or, or_true, true_and, and_true, or_false] <;> omega))), ⟨(Act.mk (((at_ s p 1) : Nat) : Int) 0 0 0 0 0 0 0 (ByteArray.mk #[])), (s.extract (p + 1) s.size), rfl, rfl⟩⟩
 ·
  refine OA.call (dst := (some 7)) (all := [(Pt r 0 0)]) rfl rfl rfl rfl rfl rfl rfl rfl (CQ.imp (rU8S (hd.of (by omega) (kb2 (by omega))) r s p (by omega) (by omega) (gt2 (by omega) hr)) ?_)
  rintro _ n64 _ ⟨rfl, rfl⟩ hn64
  refine OA.app1 ?_
  refine OA.p (some 8) (.func (.func 92) ⟨[]⟩ ⟨[(Pt n 0 0)]⟩) rfl rfl rfl rfl ?_
  refine OA.call (dst := (some 9)) (all := [(Pt n 0 0)]) rfl rfl rfl rfl rfl rfl rfl rfl (CQ.imp (tNumD (hd.of (by omega) (kb3 (by omega))) n r (s.extract p s.size) 0 0 (by omega) (gt2 (by omega) get_here) get_here) ?_)
  rintro _ n65 _ ⟨rfl, rfl⟩ hn65
  refine OA.app0 ?_
  refine OA.p (some 10) (.func (.func 92) ⟨[]⟩ ⟨[(Pt n 0 0)]⟩) rfl rfl rfl rfl ?_
  refine OA.call (dst := (some 11)) (all := [(Pt n 0 0)]) rfl rfl rfl rfl rfl rfl rfl rfl (CQ.imp (tNumD (hd.of (by omega) (kb3 (by omega))) n r (s.extract p s.size) 0 0 (by omega) (gt2 (by omega) get_here) get_here) ?_)
  rintro _ n66 _ ⟨rfl, rfl⟩ hn66
  refine OA.app0 ?_
  refine OA.p (some 12) (.func (.func 92) ⟨[]⟩ ⟨[(Pt n 0 0)]⟩) rfl rfl rfl rfl ?_
  refine OA.call (dst := (some 13)) (all := [(Pt n 0 0)]) rfl rfl rfl rfl rfl rfl rfl rfl (CQ.imp (tNumD (hd.of (by omega) (kb3 (by omega))) n r (s.extract p s.size) 0 0 (by omega) (gt2 (by omega) get_here) get_here) ?_)
  rintro _ n67 _ ⟨rfl, rfl⟩ hn67
  refine OA.app0 ?_
  refine OA.p (some 14) (.func (.func 92) ⟨[]⟩ ⟨[(Pt n 0 0)]⟩) rfl rfl rfl rfl ?_
  refine OA.call (dst := (some 15)) (all := [(Pt n 0 0)]) rfl rfl rfl rfl rfl rfl rfl rfl (CQ.imp (tNumD (hd.of (by omega) (kb3 (by omega))) n r (s.extract p s.size) 0 0 (by omega) (gt2 (by omega) get_here) get_here) ?_)
  rintro _ n68 _ ⟨rfl, rfl⟩ hn68
  refine OA.app0 ?_
  refine OA.p (some 16) (.func (.func 92) ⟨[]⟩ ⟨[(Pt n 0 0)]⟩) rfl rfl rfl rfl ?_
  refine OA.call (dst := (some 17)) (all := [(Pt n 0 0)]) rfl rfl rfl rfl rfl rfl rfl rfl (CQ.imp (tNumD (hd.of (by omega) (kb3 (by omega))) n r (s.extract p s.size) 0 0 (by omega) (gt2 (by omega) get_here) get_here) ?_)
  rintro _ n69 _ ⟨rfl, rfl⟩ hn69
  refine OA.app0 ?_
  refine OA.p (some 18) (.func (.func 92) ⟨[]⟩ ⟨[(Pt n 0 0)]⟩) rfl rfl rfl rfl ?_
  refine OA.call (dst := (some 19)) (all := [(Pt n 0 0)]) rfl rfl rfl rfl rfl rfl rfl rfl (CQ.imp (tNumD (hd.of (by omega) (kb3 (by omega))) n r (s.extract p s.size) 0 0 (by omega) (gt2 (by omega) get_here) get_here) ?_)
  rintro _ n70 _ ⟨rfl, rfl⟩ hn70
  refine OA.app0 ?_
  refine OA.p (some 20) (.func (.func 92) ⟨[]⟩ ⟨[(Pt n 0 0)]⟩) rfl rfl rfl rfl ?_
  refine OA.call (dst := (some 21)) (all := [(Pt n 0 0)]) rfl rfl rfl rfl rfl rfl rfl rfl (CQ.imp (tNumD (hd.of (by omega) (kb3 (by omega))) n r (s.extract p s.size) 0 0 (by omega) (gt2 (by omega) get_here) get_here) ?_)
  rintro _ n71 _ ⟨rfl, rfl⟩ hn71
  refine OA.app0 ?_
  refine OA.p (some 22) (.agg ⟨xTr219⟩) rfl rfl rfl (by kernel_rfl) ?_
  refine OA.op1 (dst := (some 4)) (v := (Pt n71 0 0)) (n1 := (n71 + 1)) (w := (n71, some ⟨[xTr219], 9, 24, true⟩)) rfl rfl rfl rfl (by omega) ?_
  refine OA.op1 (dst := none) (v := (.tuple #[])) (n1 := (n71 + 1)) (w := (n71, some ⟨[xTr219], 9, 24, true⟩)) rfl rfl rfl (r_store rfl rfl rfl rfl rfl rfl rfl get_here rfl rfl (Nat.le_of_ble_eq_true rfl) rfl) (by omega) ?_
  refine OA.nil ?_
  intro _
  refine RA.weaken (D' := [(n71, some ⟨[xTr219], 9, 24, true⟩), (r, some ⟨[[(.string (s.extract p s.size)), (.int .i64 2)]], 2, 121, true⟩), ((n + 1), some ⟨[xTr219], 9, 24, true⟩), (n, some ⟨[[(Pt r 0 0)]], 1, 85, true⟩)]) hd (Less.of (fac (mm (fun _ => get_here) (fun _ => get_here)) (fac (mm (fun _ => (get_there (by omega) get_here)) (fun _ => (gt2 (by omega) get_here))) (fac (mm (fun _ => (gt2 (by omega) get_here)) (fun _ => (gt3 (by omega) get_here))) (fac (mm (fun _ => (gt3 (by omega) get_here)) (fun _ => (gt4 (by omega) get_here))) fan)))) (gone_of (by simp only [goneP, memP, List.cons_append, List.nil_append, true_or, or_true, true_and, and_true, or_false] <;> omega))) ?_
  refine RA.seq hd ?_
  refine RA.par (md := [some [n], some [n], none, none, some [], none]) env_ok (hd.of (by omega) (kb4 (by omega))) (by kernel_rfl) ?_
  refine PQ.pure (dst := (some 23)) (v := (Pt r 0 0)) rfl rfl rfl (app [(n, some ⟨[[(Pt r 0 0)]], 1, 85, true⟩)] noStore) (seen_one (V := []) (D := [(n71, some ⟨[xTr219], 9, 24, true⟩), (r, some ⟨[[(.string (s.extract p s.size)), (.int .i64 2)]], 2, 121, true⟩), ((n + 1), some ⟨[xTr219], 9, 24, true⟩), (n, some ⟨[[(Pt r 0 0)]], 1, 85, true⟩)]) (by kernel_rfl) (gt3 (by omega) get_here)) (r_load1 rfl rfl rfl rfl rfl get_here rfl rfl) ?_
  refine PQ.pure (dst := (some 24)) (v := (Pt r 0 0)) rfl rfl rfl (app [(n, some ⟨[[(Pt r 0 0)]], 1, 85, true⟩)] noStore) (seen_one (V := []) (D := [(n71, some ⟨[xTr219], 9, 24, true⟩), (r, some ⟨[[(.string (s.extract p s.size)), (.int .i64 2)]], 2, 121, true⟩), ((n + 1), some ⟨[xTr219], 9, 24, true⟩), (n, some ⟨[[(Pt r 0 0)]], 1, 85, true⟩)]) (by kernel_rfl) (gt3 (by omega) get_here)) (r_load1 rfl rfl rfl rfl rfl get_here rfl rfl) ?_
  refine PQ.call (dst := (some 25)) (all := [(Pt r 0 0)]) rfl rfl rfl rfl rfl rfl rfl rfl _ (seen_any (V := []) (D := [(n71, some ⟨[xTr219], 9, 24, true⟩), (r, some ⟨[[(.string (s.extract p s.size)), (.int .i64 2)]], 2, 121, true⟩), ((n + 1), some ⟨[xTr219], 9, 24, true⟩), (n, some ⟨[[(Pt r 0 0)]], 1, 85, true⟩)]) (by kernel_rfl)) (CQ.imp (CQ.keys (rU16D (hd.of (by omega) (kb4 (by omega))) r (s.extract p s.size) 0 (get_there (by omega) get_here))) ?_)
  rintro _ n72 _ ⟨hkn72, ⟨rfl, rfl⟩⟩
  have hn72 := hkn72.1
  refine ⟨hn72, (fun x hx => by simp [keys] at hx), ?_⟩
  refine PQ.call (dst := (some 26)) (all := [(Pt r 0 0), (.int .i64 0)]) rfl rfl rfl rfl rfl rfl rfl rfl _ (seen_any (V := []) (D := [(n71, some ⟨[xTr219], 9, 24, true⟩), (r, some ⟨[[(.string (s.extract p s.size)), (.int .i64 2)]], 2, 121, true⟩), ((n + 1), some ⟨[xTr219], 9, 24, true⟩), (n, some ⟨[[(Pt r 0 0)]], 1, 85, true⟩)]) (by kernel_rfl)) (CQ.imp (CQ.keys (rTakeD (hd.of (by omega) (kb4 (by omega))) r (s.extract p s.size) 0 (get_there (by omega) get_here))) ?_)
  rintro _ n73 _ ⟨hkn73, ⟨rfl, rfl⟩⟩
  have hn73 := hkn73.1
  refine ⟨hn73, (fun x hx => by simp [keys] at hx), ?_⟩
  refine PQ.pure (dst := (some 27)) (v := (Pt n71 0 8)) rfl rfl rfl noStore (none_ok _ _) rfl ?_
  refine PQ.op (dst := none) (v := (.tuple #[])) (n1 := n73) (d1 := [(n71, some ⟨[xTr218], 9, 24, true⟩)]) rfl rfl rfl _ (seen_any (V := []) (D := [(n71, some ⟨[xTr219], 9, 24, true⟩), (r, some ⟨[[(.string (s.extract p s.size)), (.int .i64 2)]], 2, 121, true⟩), ((n + 1), some ⟨[xTr219], 9, 24, true⟩), (n, some ⟨[[(Pt r 0 0)]], 1, 85, true⟩)]) (by kernel_rfl)) (r_store rfl rfl rfl rfl rfl rfl rfl get_here rfl rfl (Nat.le_of_ble_eq_true rfl) rfl) (by omega) (kp1 (wr_tight (by kernel_rfl) (by omega))) ?_
  refine PQ.done (d := [(n71, some ⟨[xTr218], 9, 24, true⟩)]) (by kernel_rfl) ?_
  intro _
  refine RA.weaken (D' := [(n71, some ⟨[xTr218], 9, 24, true⟩), (r, some ⟨[[(.string (s.extract p s.size)), (.int .i64 2)]], 2, 121, true⟩), ((n + 1), some ⟨[xTr219], 9, 24, true⟩), (n, some ⟨[[(Pt r 0 0)]], 1, 85, true⟩)]) hd (Less.of (fac (mm (fun _ => get_here) (fun _ => get_here)) (fac (mm (fun _ => (get_there (by omega) get_here)) (fun _ => (gt2 (by omega) get_here))) (fac (mm (fun _ => (gt2 (by omega) get_here)) (fun _ => (gt3 (by omega) get_here))) (fac (mm (fun _ => (gt3 (by omega) get_here)) (fun _ => (gt4 (by omega) get_here))) fan)))) (gone_of (by simp only [goneP, memP, List.cons_append, List.nil_append, true_or, or_true, true_and, and_true, or_false] <;> omega))) ?_
  refine RA.rebase [(0, (Pt r 0 0)), (1, (Pt n 0 0)), (2, (.pointer (some ⟨(n + 1), 0, some 0⟩))), (3, (.func (.func 92) ⟨[]⟩ ⟨[(Pt n 0 0)]⟩)), (4, (Pt n71 0 0))] ⟨rfl, rfl, rfl, rfl, rfl, trivial⟩ (fun τr74 => ?_)
  refine RA.seq hd ?_
  refine RA.region env_ok ?_
  refine OA.p (some 28) (.agg ⟨xTr218⟩) rfl rfl rfl (r_loadA rfl rfl rfl rfl get_here rfl rfl rfl) ?_
  refine OA.op1 (dst := none) (v := (.tuple #[])) (n1 := n73) (w := ((n + 1), some ⟨[xTr218], 9, 24, true⟩)) rfl rfl rfl (r_store rfl rfl rfl rfl rfl rfl rfl (gt2 (by omega) get_here) rfl rfl (Nat.le_of_ble_eq_true rfl) rfl) (by omega) ?_
  refine OA.nil ?_
  intro _
  refine RA.weaken (D' := [((n + 1), some ⟨[xTr218], 9, 24, true⟩), (n71, some ⟨[xTr218], 9, 24, true⟩), (r, some ⟨[[(.string (s.extract p s.size)), (.int .i64 2)]], 2, 121, true⟩), (n, some ⟨[[(Pt r 0 0)]], 1, 85, true⟩)]) hd (Less.of (fac (mm (fun _ => get_here) (fun _ => get_here)) (fac (mm (fun _ => (get_there (by omega) get_here)) (fun _ => (get_there (by omega) get_here))) (fac (mm (fun _ => (gt2 (by omega) get_here)) (fun _ => (gt2 (by omega) get_here))) (fac (mm (fun _ => (gt3 (by omega) get_here)) (fun _ => (gt4 (by omega) get_here))) fan)))) (gone_of (by simp only [goneP, memP, List.cons_append, List.nil_append, true_or, or_true, true_and, and_true, or_false] <;> omega))) ?_
  refine RA.ret env_ok ?_
  refine ⟨.inr rfl, [(.agg ⟨xTr218⟩)], (resL_cons (res_cellA rfl rfl rfl get_here rfl rfl rfl) resL_nil), [(r, some ⟨[[(.string (s.extract p s.size)), (.int .i64 2)]], 2, 121, true⟩)], (Less.of (fac (mm (fun _ => get_here) (fun _ => (gt2 (by omega) get_here))) fan) (gone_of (by simp only [goneP, memP, List.cons_append, List.nil_append, true_or, or_true, true_and, and_true, or_false] <;> omega))), ⟨(Act.mk 0 0 0 0 0 0 0 0 (ByteArray.mk #[])), (s.extract p s.size), rfl, rfl⟩⟩

theorem tLeft {σ : Store} (r : Nat) (s : ByteArray) (p : Nat) (hr : σ r = some ⟨[[(.string (s.extract p s.size)), (.int .i64 0)]], 2, 121, true⟩)  : PS Try.prog noDen 57 [(Pt r 0 0)] σ (.int .i64 ((s.size - p : Nat) : Int)) := by
 refine PS.body (E := env) env_ok rfl rfl (by show _ ≤ _; exact of_decide_eq_true (by kernel_rfl)) (fun n hd => ?_)
 have lhr := hd.lt hr
 refine RA.seq hd ?_
 refine RA.region env_ok ?_
 refine OA.p (some 2) (.int .i64 0) rfl rfl rfl rfl ?_
 refine OA.nil ?_
 intro _
 refine RA.seq hd ?_
 refine RA.seq hd ?_
 refine RA.region env_ok ?_
 refine OA.p (some 3) (Pt r 0 0) rfl rfl rfl rfl ?_
 refine OA.callP (dst := (some 4)) (all := [(Pt r 0 0)]) (v := (.int .i64 0)) (hd.up (by omega)) rfl rfl rfl rfl rfl rfl rfl rfl (rErr r _ 0 hr) ?_
 intro n1 hn1
 refine OA.p (some 5) (.bool false) rfl rfl rfl (r_bin rfl rfl rfl (b_neq rfl)) ?_
 refine OA.nil ?_
 intro _
 refine RA.condF rfl ?_
 refine RA.skip env_ok ?_
 intro _
 refine RA.seq hd ?_
 refine RA.region env_ok ?_
 refine OA.p (some 6) (Pt r 0 0) rfl rfl rfl rfl ?_
 refine OA.p (some 7) (Pt r 0 0) rfl rfl rfl rfl ?_
 refine OA.p (some 8) (Pt r 0 0) rfl rfl rfl rfl ?_
 refine OA.p (some 9) (.string (s.extract p s.size)) rfl rfl rfl (r_load1 rfl rfl rfl rfl rfl hr rfl rfl) ?_
 refine OA.p (some 10) (.int .i64 (((s.extract p s.size).size : Nat) : Int)) rfl rfl rfl rfl ?_
 refine OA.p (some 2) (.int .i64 (((s.extract p s.size).size : Nat) : Int)) rfl rfl rfl rfl ?_
 refine OA.nil ?_
 intro _
 refine RA.ret env_ok ?_
 refine ⟨.inr rfl, [(.int .i64 (((s.extract p s.size).size : Nat) : Int))], (resL_cons rfl resL_nil), (by show Value.int _ _ = Value.int _ _; rw [size_cut _ _ _ (Nat.le_refl _)]), (fun i hi => by cases hi)⟩

theorem tLeftD {σ : Store} (r : Nat) (s : ByteArray) (hr : σ r = some ⟨[[(.string s), (.int .i64 2)]], 2, 121, true⟩)  : PS Try.prog noDen 57 [(Pt r 0 0)] σ (.int .i64 0) := by
 refine PS.body (E := env) env_ok rfl rfl (by show _ ≤ _; exact of_decide_eq_true (by kernel_rfl)) (fun n hd => ?_)
 have lhr := hd.lt hr
 refine RA.seq hd ?_
 refine RA.region env_ok ?_
 refine OA.p (some 2) (.int .i64 0) rfl rfl rfl rfl ?_
 refine OA.nil ?_
 intro _
 refine RA.seq hd ?_
 refine RA.seq hd ?_
 refine RA.region env_ok ?_
 refine OA.p (some 3) (Pt r 0 0) rfl rfl rfl rfl ?_
 refine OA.callP (dst := (some 4)) (all := [(Pt r 0 0)]) (v := (.int .i64 2)) (hd.up (by omega)) rfl rfl rfl rfl rfl rfl rfl rfl (rErr r _ 2 hr) ?_
 intro n1 hn1
 refine OA.p (some 5) (.bool true) rfl rfl rfl (r_bin rfl rfl rfl (b_neq rfl)) ?_
 refine OA.nil ?_
 intro _
 refine RA.condT rfl ?_
 refine RA.seq hd ?_
 refine RA.region env_ok ?_
 refine OA.p (some 2) (.int .i64 0) rfl rfl rfl rfl ?_
 refine OA.nil ?_
 intro _
 refine RA.ret env_ok ?_
 refine ⟨.inr rfl, [(.int .i64 0)], (resL_cons rfl resL_nil), rfl, (fun i hi => by cases hi)⟩
end Go.Proofs.Ytgajcmanompmcaa.Vt
