/- Tr4: walks through functions of the program, by the calculus; written by a program of this workplace. -/
import Derived.Test.YtgajcmanompmcaaTr3
import Derived.Test.YtgajcmanompmcaaVm5
namespace Go.Proofs.Ytgajcmanompmcaa.Vt
open Go Go.Proofs Go.Proofs.YtgajcmanompmcaaV
set_option maxRecDepth 100000
set_option linter.unusedVariables false
set_option linter.unusedSimpArgs false
theorem awake {σ : Store} : PS Try.prog noDen 16 [] σ (.bool true) := PS.closed env_ok rfl (F := 200) (k := 60) (by kernel_rfl) rfl rfl
theorem beN_inj : ∀ (k : Nat) (l m : List UInt8), l.length = k → m.length = k → beN l = beN m → l = m := by
  intro k
  induction k with
  | zero => intro l m h1 h2 _; rw [List.length_eq_zero_iff.1 h1, List.length_eq_zero_iff.1 h2]
  | succ k ih =>
    intro l m h1 h2 h
    have hl : l ≠ [] := fun e => by rw [e] at h1; cases h1
    have hm : m ≠ [] := fun e => by rw [e] at h2; cases h2
    rw [← List.dropLast_concat_getLast hl, ← List.dropLast_concat_getLast hm] at h ⊢
    rw [beN_snoc, beN_snoc] at h
    have a1 := UInt8.toNat_lt (l.getLast hl)
    have a2 := UInt8.toNat_lt (m.getLast hm)
    have e1 : (l.getLast hl).toNat = (m.getLast hm).toNat := by omega
    have e2 : beN l.dropLast = beN m.dropLast := by omega
    rw [ih _ _ (by simp; omega) (by simp; omega) e2, UInt8.toNat_inj.1 e1]
theorem pc_len {s : ByteArray} {q k : Nat} (h : q + k ≤ s.size) : (((L s).drop q).take k).length = k := by rw [List.length_take, List.length_drop, L_len]; omega
theorem be4_at {s : ByteArray} {q : Nat} (h : q + 4 ≤ s.size) : be4 (w32 s q) = ((L s).drop q).take 4 := by
  refine beN_inj 4 _ _ rfl (pc_len h) ?_
  rw [beN_be4, w32, BitVec.toNat_ofNat]
  exact Nat.mod_eq_of_lt (at_lt s q 4)
theorem be2_at {s : ByteArray} {q : Nat} (h : q + 2 ≤ s.size) : be2 (at_ s q 2) = ((L s).drop q).take 2 := by
  refine beN_inj 2 _ _ rfl (pc_len h) ?_
  rw [beN_be2 _ (at_lt s q 2)]; rfl
theorem be1_at {s : ByteArray} {q : Nat} (h : q + 1 ≤ s.size) : [UInt8.ofNat (at_ s q 1)] = ((L s).drop q).take 1 := by
  refine beN_inj 1 _ _ rfl (pc_len h) ?_
  have := at_lt s q 1
  show 0 * 256 + (UInt8.ofNat (at_ s q 1)).toNat = at_ s q 1
  rw [UInt8.toNat_ofNat']; omega
theorem pc_app {l : List UInt8} {p a q b c : Nat} (h : q = p + a) (hc : c = a + b) : (l.drop p).take a ++ (l.drop q).take b = (l.drop p).take c := by subst h; subst hc; rw [List.take_add, List.drop_drop]
theorem sm_toInt (x : BitVec 32) : sm x.toInt := by unfold sm; rw [BitVec.ofInt_toInt]
theorem rd_size {s : ByteArray} {p : Nat} (h : vld s p) : (rdA s p).s.size = at_ s (p + 29) 2 := by
  unfold rdA; simp only; rw [ByteArray.size_extract]; have := h.2; unfold nx; omega
theorem rd_may {s : ByteArray} {p : Nat} (h : vld s p) : MayA (rdA s p) := by
  have h1 := at_lt s p 1
  have h2 := at_lt s (p + 29) 2
  have h3 := rd_size h
  exact ⟨sm_toInt _, sm_toInt _, sm_toInt _, sm_toInt _, sm_toInt _, sm_toInt _, sm_toInt _, by show (0 : Int) ≤ ((at_ s p 1 : Nat) : Int); omega, by show ((at_ s p 1 : Nat) : Int) < 256; omega, by rw [h3]; omega⟩
theorem rd_bytes {s : ByteArray} {p : Nat} (h : vld s p) : L (actF (rdA s p)) = ((L s).drop p).take (31 + at_ s (p + 29) 2) := by
  obtain ⟨h1, h2⟩ := id h
  rw [actF_t (rd_may h), L_bstr, actL, rd_size h]
  simp only [rdA, BitVec.ofInt_toInt, Int.toNat_natCast]
  rw [be1_at (by omega), be4_at (by omega), be4_at (by omega), be4_at (by omega), be4_at (by omega), be4_at (by omega), be4_at (by omega), be4_at (by omega), be2_at (by omega), L_extract]
  rw [pc_app (c := 5) (by omega) (by omega), pc_app (c := 9) (by omega) (by omega), pc_app (c := 13) (by omega) (by omega), pc_app (c := 17) (by omega) (by omega), pc_app (c := 21) (by omega) (by omega), pc_app (c := 25) (by omega) (by omega), pc_app (c := 29) (by omega) (by omega), pc_app (c := 31) (by omega) (by omega)]
  exact pc_app (by omega) (by unfold nx; omega)
theorem puts_tr {s : ByteArray} : ∀ (K p : Nat) (r : List Act), trN s K p = some r → p ≤ s.size → putsL r = (L s).drop p
  | 0, p, r, h, hp => by
    rw [trN] at h
    split at h
    · rename_i e; cases h; subst e; rw [List.drop_of_length_le (by rw [L_len]; omega)]; rfl
    · cases h
  | K + 1, p, r, h, hp => by
    rcases Nat.lt_or_ge p s.size with h1 | h1
    · obtain ⟨hv, K', r', rfl, h2⟩ := tr_step h h1
      rw [trN, if_neg (by omega), if_pos hv] at h
      cases h3 : trN s K (nx s p) with
      | none => rw [h3] at h; cases h
      | some r2 =>
        rw [h3] at h
        simp at h
        subst h
        have ih := puts_tr K (nx s p) r2 h3 (by have := hv.2; unfold nx; omega)
        show L (actF (rdA s p)) ++ putsL r2 = _
        rw [ih, rd_bytes hv]
        have e : (L s).drop (nx s p) = ((L s).drop p).drop (31 + at_ s (p + 29) 2) := by rw [List.drop_drop]; congr 1; unfold nx; omega
        rw [e, List.take_append_drop]
    · have e : p = s.size := by omega
      subst e
      have := Option.some.inj (tr_end h)
      subst this
      rw [List.drop_of_length_le (by rw [L_len]; omega)]; rfl
theorem puts_all {s : ByteArray} {T : List Act} (h : trN s s.size 0 = some T) : bstr (putsL T) = s := by
  apply L_ext; rw [L_bstr, puts_tr _ _ _ h (Nat.zero_le _), List.drop_zero]
theorem tr_len {s : ByteArray} : ∀ (K p : Nat) (r : List Act), trN s K p = some r → p ≤ s.size → 31 * r.length + p ≤ s.size
  | 0, p, r, h, hp => by
    rw [trN] at h
    split at h
    · cases h; simp; omega
    · cases h
  | K + 1, p, r, h, hp => by
    rcases Nat.lt_or_ge p s.size with h1 | h1
    · rw [trN, if_neg (by omega)] at h
      by_cases hv : vld s p
      · rw [if_pos hv] at h
        cases h3 : trN s K (nx s p) with
        | none => rw [h3] at h; cases h
        | some r2 =>
          rw [h3] at h
          simp at h
          subst h
          have hb := hv.2
          have ih := tr_len K (nx s p) r2 h3 (by unfold nx; omega)
          rw [List.length_cons]; unfold nx at ih; omega
      · rw [if_neg hv] at h; cases h
    · have e : p = s.size := by omega
      subst e
      have := Option.some.inj (tr_end h)
      subst this
      simp
theorem emp {s : ByteArray} (h : s.size = 0) : ByteArray.mk #[] = s := by
  apply L_ext
  have : (L s).length = 0 := by rw [L_len]; exact h
  rw [List.length_eq_zero_iff.1 this]
theorem tReads {σ : Store} (u : ByteArray)   : PS Try.prog noDen 4 [(.string u)] σ (.bool true) := by
 refine PS.body (E := env) env_ok rfl rfl (by show _ ≤ _; exact of_decide_eq_true (by kernel_rfl)) (fun n hd => ?_)
 have h300 : (u.extract 0 (min u.size 300)).size ≤ 300 := by simp only [ByteArray.size_extract]; omega
 refine RA.seq hd ?_
 refine RA.region env_ok ?_
 refine OA.p (some 2) (.bool false) rfl rfl rfl rfl ?_
 refine OA.nil ?_
 intro _
 refine RA.seq hd ?_
 refine RA.region env_ok ?_
 refine OA.p (some 6) (.string u) rfl rfl rfl rfl ?_
 refine OA.p (some 7) (.string u) rfl rfl rfl rfl ?_
 refine OA.p (some 8) (.int .i64 ((u.size : Nat) : Int)) rfl rfl rfl rfl ?_
 refine OA.p (some 9) (.int .i64 (((min u.size 300) : Nat) : Int)) rfl rfl rfl (r_min (a := u.size) (b := 300) rfl rfl rfl) ?_
 refine OA.p (some 10) (.string (u.extract 0 (min u.size 300))) rfl rfl rfl (r_cut (a := 0) (b := (min u.size 300)) rfl rfl (fun _ => rfl) (fun _ => rfl) rfl rfl rfl bound_nat (by omega) (by omega) rfl) ?_
 refine OA.p (some 3) (.string (u.extract 0 (min u.size 300))) rfl rfl rfl rfl ?_
 refine OA.nil ?_
 intro _
 refine RA.seq hd ?_
 refine RA.region env_ok ?_
 refine OA.p (some 12) (.string (u.extract 0 (min u.size 300))) rfl rfl rfl rfl ?_
 by_cases hc1 : (u.extract 0 (min u.size 300)).size = 0
 ·
  have hEQ := emp hc1
  refine OA.call (dst := (some 13)) (all := [(.string (u.extract 0 (min u.size 300)))]) rfl rfl rfl rfl rfl rfl rfl rfl (CQ.imp (tGet0 (hd.up (by omega)) (u.extract 0 (min u.size 300)) hc1) ?_)
  rintro _ n1 _ ⟨rfl, rfl⟩ hn1
  refine OA.app0 ?_
  refine OA.p (some 11) (.tuple ⟨[(.slice none 0 0), (.int .i64 0)]⟩) rfl rfl rfl rfl ?_
  refine OA.p (some 14) (.slice none 0 0) rfl rfl rfl rfl ?_
  refine OA.p (some 15) (.int .i64 0) rfl rfl rfl rfl ?_
  refine OA.p (some 4) (.slice none 0 0) rfl rfl rfl rfl ?_
  refine OA.p (some 5) (.int .i64 0) rfl rfl rfl rfl ?_
  refine OA.nil ?_
  intro _
  refine RA.seq hd ?_
  refine RA.seq hd ?_
  refine RA.region env_ok ?_
  refine OA.p (some 16) (.int .i64 0) rfl rfl rfl rfl ?_
  refine OA.p (some 17) (.bool false) rfl rfl rfl (r_bin rfl rfl rfl (b_neq rfl)) ?_
  refine OA.nil ?_
  intro _
  refine RA.condF rfl ?_
  refine RA.skip env_ok ?_
  intro _
  refine RA.seq hd ?_
  refine RA.region env_ok ?_
  refine OA.callP (dst := (some 28)) (all := []) (v := (.bool true)) (hd.up (by omega)) rfl rfl rfl rfl rfl rfl rfl rfl awake ?_
  intro n2 hn2
  refine OA.p (some 29) (.bool true) rfl rfl rfl rfl ?_
  refine OA.p (some 30) (.slice none 0 0) rfl rfl rfl rfl ?_
  refine OA.callP (dst := (some 31)) (all := [(.slice none 0 0)]) (v := (.string (ByteArray.mk #[]))) (hd.up (by omega)) rfl rfl rfl rfl rfl rfl rfl rfl tPut0 ?_
  intro n3 hn3
  refine OA.p (some 32) (.string (u.extract 0 (min u.size 300))) rfl rfl rfl rfl ?_
  refine OA.p (some 33) (.bool true) rfl rfl rfl (Eq.trans (r_eqlS rfl rfl rfl) (by rw [decide_eq_true hEQ] <;> rfl)) ?_
  refine OA.p (some 34) (.bool true) rfl rfl rfl rfl ?_
  refine OA.p (some 2) (.bool true) rfl rfl rfl rfl ?_
  refine OA.nil ?_
  intro _
  refine RA.ret env_ok ?_
  refine ⟨.inr rfl, [(.bool true)], (resL_cons rfl resL_nil), rfl, (fun i hi => by cases hi)⟩
 ·
  by_cases hc2 : (trN (u.extract 0 (min u.size 300)) (u.extract 0 (min u.size 300)).size 0).isSome = true
  ·
   obtain ⟨T, hT⟩ := Option.isSome_iff_exists.1 hc2
   have hEQ := puts_all hT
   have hTl := tr_len _ _ _ hT (Nat.zero_le _)
   refine OA.call (dst := (some 13)) (all := [(.string (u.extract 0 (min u.size 300)))]) rfl rfl rfl rfl rfl rfl rfl rfl (CQ.imp (tGet (hd.up (by omega)) (u.extract 0 (min u.size 300)) T hT hc1 (by omega)) ?_)
   rintro _ n4 _ ⟨in4, hin4a, hin4b, rfl, rfl⟩ hn4
   refine OA.app1 ?_
   refine OA.p (some 11) (.tuple ⟨[(.slice (some ⟨in4, 0, none⟩) T.length 0), (.int .i64 0)]⟩) rfl rfl rfl rfl ?_
   refine OA.p (some 14) (.slice (some ⟨in4, 0, none⟩) T.length 0) rfl rfl rfl rfl ?_
   refine OA.p (some 15) (.int .i64 0) rfl rfl rfl rfl ?_
   refine OA.p (some 4) (.slice (some ⟨in4, 0, none⟩) T.length 0) rfl rfl rfl rfl ?_
   refine OA.p (some 5) (.int .i64 0) rfl rfl rfl rfl ?_
   refine OA.nil ?_
   intro _
   refine RA.seq hd ?_
   refine RA.seq hd ?_
   refine RA.region env_ok ?_
   refine OA.p (some 16) (.int .i64 0) rfl rfl rfl rfl ?_
   refine OA.p (some 17) (.bool false) rfl rfl rfl (r_bin rfl rfl rfl (b_neq rfl)) ?_
   refine OA.nil ?_
   intro _
   refine RA.condF rfl ?_
   refine RA.skip env_ok ?_
   intro _
   refine RA.seq hd ?_
   refine RA.region env_ok ?_
   refine OA.callP (dst := (some 28)) (all := []) (v := (.bool true)) (hd.of (by omega) (kb1 (by omega))) rfl rfl rfl rfl rfl rfl rfl rfl awake ?_
   intro n5 hn5
   refine OA.p (some 29) (.bool true) rfl rfl rfl rfl ?_
   refine OA.p (some 30) (.slice (some ⟨in4, 0, none⟩) T.length 0) rfl rfl rfl rfl ?_
   refine OA.callP (dst := (some 31)) (all := [(.slice (some ⟨in4, 0, none⟩) T.length 0)]) (v := (.string (bstr (putsL T)))) (hd.of (by omega) (kb1 (by omega))) rfl rfl rfl rfl rfl rfl rfl rfl (tPut in4 T.length T rfl (by omega) get_here) ?_
   intro n6 hn6
   refine OA.p (some 32) (.string (u.extract 0 (min u.size 300))) rfl rfl rfl rfl ?_
   refine OA.p (some 33) (.bool true) rfl rfl rfl (Eq.trans (r_eqlS rfl rfl rfl) (by rw [decide_eq_true hEQ] <;> rfl)) ?_
   refine OA.p (some 34) (.bool true) rfl rfl rfl rfl ?_
   refine OA.p (some 2) (.bool true) rfl rfl rfl rfl ?_
   refine OA.nil ?_
   intro _
   refine RA.ret env_ok ?_
   refine ⟨.inr rfl, [(.bool true)], (resL_cons rfl resL_nil), rfl, (kc1 (by omega))⟩
  ·
   have hT : trN (u.extract 0 (min u.size 300)) (u.extract 0 (min u.size 300)).size 0 = none := by rw [← Option.not_isSome_iff_eq_none]; exact hc2
   refine OA.call (dst := (some 13)) (all := [(.string (u.extract 0 (min u.size 300)))]) rfl rfl rfl rfl rfl rfl rfl rfl (CQ.imp (tGetN (hd.up (by omega)) (u.extract 0 (min u.size 300)) hT hc1 (by omega)) ?_)
   rintro _ n7 _ ⟨rfl, rfl⟩ hn7
   refine OA.app0 ?_
   refine OA.p (some 11) (.tuple ⟨[(.slice none 0 0), (.int .i64 2)]⟩) rfl rfl rfl rfl ?_
   refine OA.p (some 14) (.slice none 0 0) rfl rfl rfl rfl ?_
   refine OA.p (some 15) (.int .i64 2) rfl rfl rfl rfl ?_
   refine OA.p (some 4) (.slice none 0 0) rfl rfl rfl rfl ?_
   refine OA.p (some 5) (.int .i64 2) rfl rfl rfl rfl ?_
   refine OA.nil ?_
   intro _
   refine RA.seq hd ?_
   refine RA.seq hd ?_
   refine RA.region env_ok ?_
   refine OA.p (some 16) (.int .i64 2) rfl rfl rfl rfl ?_
   refine OA.p (some 17) (.bool true) rfl rfl rfl (r_bin rfl rfl rfl (b_neq rfl)) ?_
   refine OA.nil ?_
   intro _
   refine RA.condT rfl ?_
   refine RA.seq hd ?_
   refine RA.region env_ok ?_
   refine OA.callP (dst := (some 18)) (all := []) (v := (.bool true)) (hd.up (by omega)) rfl rfl rfl rfl rfl rfl rfl rfl awake ?_
   intro n8 hn8
   refine OA.p (some 19) (.bool true) rfl rfl rfl rfl ?_
   refine OA.p (some 20) (.int .i64 2) rfl rfl rfl rfl ?_
   refine OA.p (some 21) (.bool true) rfl rfl rfl (r_bin rfl rfl rfl (b_eql rfl)) ?_
   refine OA.p (some 22) (.bool true) rfl rfl rfl rfl ?_
   refine OA.p (some 23) (.bool true) rfl rfl rfl rfl ?_
   refine OA.p (some 24) (.slice none 0 0) rfl rfl rfl rfl ?_
   refine OA.p (some 25) (.int .i64 0) rfl rfl rfl rfl ?_
   refine OA.p (some 26) (.bool true) rfl rfl rfl (r_bin rfl rfl rfl (b_eql rfl)) ?_
   refine OA.p (some 27) (.bool true) rfl rfl rfl rfl ?_
   refine OA.p (some 2) (.bool true) rfl rfl rfl rfl ?_
   refine OA.nil ?_
   intro _
   refine RA.rebase [(0, (.string u)), (2, (.bool true)), (3, (.string (u.extract 0 (min u.size 300)))), (4, (.slice none 0 0)), (5, (.int .i64 2)), (17, (.bool true))] ⟨rfl, rfl, rfl, rfl, rfl, rfl, trivial⟩ (fun τr9 => ?_)
   refine RA.ret env_ok ?_
   refine ⟨.inr rfl, [(.bool true)], (resL_cons rfl resL_nil), rfl, (fun i hi => by cases hi)⟩
end Go.Proofs.Ytgajcmanompmcaa.Vt
