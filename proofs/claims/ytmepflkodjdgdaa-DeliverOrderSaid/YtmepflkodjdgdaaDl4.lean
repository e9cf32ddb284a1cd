/- Dl4: walks through functions of the program, by the calculus; written by a program of this workplace. -/
import Derived.Test.YtmepflkodjdgdaaDl3
import Derived.Test.YtmepflkodjdgdaaVm5
namespace Go.Proofs.Ytmepflkodjdgdaa.Vt
open Go Go.Proofs Go.Proofs.YtmepflkodjdgdaaV
set_option maxRecDepth 100000
set_option linter.unusedVariables false
set_option linter.unusedSimpArgs false
theorem awakeD {σ : Store} : PS Try.prog noDen 16 [] σ (.bool true) := PS.closed env_ok rfl (F := 200) (k := 60) (by kernel_rfl) rfl rfl
def mM (n : Nat) : Msg := Msg.mk ((0 : Nat) : Int) ((n : Nat) : Int) false 0#32 ByteArray.empty
def form (ws : List Msg) : Prop := ∀ x ∈ ws, ∃ a, a < 64 ∧ x = mM a
theorem u16_small {a : Nat} (h : a < 65536) : u16N ((a : Nat) : Int) = a := by unfold u16N; omega
theorem qm {a b : Nat} (hb : b < 64) : qq ((0 : Nat) : Int) a (mM b) = true ↔ b = a := by
  unfold qq
  rw [decide_eq_true_eq]
  show (((0 : Nat) : Int) = ((0 : Nat) : Int) ∧ ((u16N ((b : Nat) : Int) : Nat) : Int) = ((a : Nat) : Int)) ↔ _
  rw [u16_small (by omega)]
  constructor
  · intro h; omega
  · intro h; exact ⟨rfl, by omega⟩
theorem mem_erase_ne {l : List Msg} {i : Nat} {y : Msg} (hi : i < l.length) (hy : y ∈ l) (hn : y ≠ l.getD i dMsg) : y ∈ l.eraseIdx i := by
  have e : l.getD i dMsg = l[i] := by rw [List.getD_eq_getElem?_getD, List.getElem?_eq_getElem hi]; rfl
  rw [List.eraseIdx_eq_take_drop_succ]
  rw [← List.take_append_drop i l, List.drop_eq_getElem_cons hi] at hy
  rw [e] at hn
  rcases List.mem_append.1 hy with h | h
  · exact List.mem_append.2 (.inl h)
  · rcases List.mem_cons.1 h with h | h
    · exact absurd h hn
    · exact List.mem_append.2 (.inr h)
theorem find_q {ws : List Msg} {a : Nat} (hf : form ws) (h : ws.findIdx (qq ((0 : Nat) : Int) a) < ws.length) : ws.getD (ws.findIdx (qq ((0 : Nat) : Int) a)) dMsg = mM a ∧ a < 64 := by
  have e : ws.getD (ws.findIdx (qq ((0 : Nat) : Int) a)) dMsg = ws[ws.findIdx (qq ((0 : Nat) : Int) a)] := by rw [List.getD_eq_getElem?_getD, List.getElem?_eq_getElem h]; rfl
  have h1 := List.findIdx_getElem (w := h)
  rw [← e] at h1
  have h2 : ws.getD (ws.findIdx (qq ((0 : Nat) : Int) a)) dMsg ∈ ws := getD_mem h
  obtain ⟨b, hb, hx⟩ := hf _ h2
  rw [hx] at h1 ⊢
  have := (qm hb).1 h1
  subst this
  exact ⟨rfl, hb⟩
theorem find_n {ws : List Msg} {a : Nat} (h : ¬ ws.findIdx (qq ((0 : Nat) : Int) a) < ws.length) (ha : a < 64) : mM a ∉ ws := fun hm => h (List.findIdx_lt_length_of_exists ⟨mM a, hm, (qm ha).2 rfl⟩)
theorem find_n' {ws : List Msg} {a : Nat} (hf : form ws) (h : ¬ ws.findIdx (qq ((0 : Nat) : Int) a) < ws.length) : mM a ∉ ws := fun hm => by
  obtain ⟨b, hb, hx⟩ := hf _ hm
  exact h (List.findIdx_lt_length_of_exists ⟨mM b, hx ▸ hm, (qm hb).2 (by have := congrArg Msg.ssn hx; simp only [mM] at this; omega)⟩)
theorem range_snoc (a : Nat) : (List.range (a + 1)).map mM = (List.range a).map mM ++ [mM a] := by rw [List.range_succ, List.map_append]; rfl
theorem goInv : ∀ (f a : Nat) (ws : List Msg) (R : Nat × List Msg × List Msg), form ws → a ≤ 64 → ws.length ≤ f → goS ((0 : Nat) : Int) f a ws ((List.range a).map mM) = R → a ≤ R.1 ∧ R.1 ≤ 64 ∧ R.2.2 = (List.range R.1).map mM ∧ form R.2.1 ∧ R.2.1.length ≤ ws.length ∧ mM R.1 ∉ R.2.1 ∧ ∀ m, (m < R.1 ∨ mM m ∈ R.2.1) ↔ (m < a ∨ mM m ∈ ws)
  | 0, a, ws, R, hf, ha, hl, hR => by
    have : ws = [] := List.length_eq_zero_iff.1 (by omega)
    subst this; subst hR
    exact ⟨Nat.le_refl _, ha, rfl, hf, Nat.le_refl _, by simp [goS], fun m => Iff.rfl⟩
  | f + 1, a, ws, R, hf, ha, hl, hR => by
    rw [goS] at hR
    split at hR
    · rename_i h
      obtain ⟨h1, h2⟩ := find_q hf h
      have hu : u16N (((a : Nat) : Int) + 1) = a + 1 := by unfold u16N; omega
      rw [h1, hu, ← range_snoc] at hR
      have hlen := List.length_eraseIdx_of_lt h
      obtain ⟨r1, r2, r3, r4, r5, r6, r7⟩ := goInv f (a + 1) _ R (fun x hx => hf x (List.mem_of_mem_eraseIdx hx)) (by omega) (by omega) hR
      refine ⟨by omega, r2, r3, r4, by omega, r6, fun m => (r7 m).trans ⟨fun hh => ?_, fun hh => ?_⟩⟩
      · rcases hh with hh | hh
        · rcases Nat.lt_or_ge m a with h3 | h3
          · exact .inl h3
          · have : m = a := by omega
            subst this
            exact .inr (h1 ▸ getD_mem h)
        · exact .inr (List.mem_of_mem_eraseIdx hh)
      · rcases hh with hh | hh
        · exact .inl (by omega)
        · rcases Nat.decEq m a with h3 | h3
          · refine .inr (mem_erase_ne h hh ?_)
            rw [h1]
            intro e
            have := congrArg Msg.ssn e
            simp only [mM] at this
            omega
          · exact .inl (by omega)
    · rename_i h
      subst hR
      exact ⟨Nat.le_refl _, ha, rfl, hf, Nat.le_refl _, find_n' hf h, fun m => Iff.rfl⟩
def DI (k : Nat) (ws : List Msg) (cm : List Bo) : Prop := k ≤ 64 ∧ form ws ∧ mM k ∉ ws ∧ cm.length = 70 ∧ ∀ m, m < 70 → ((cm.getD m dBo).z = true ↔ (m < k ∨ mM m ∈ ws))
theorem DI0 : DI 0 [] (List.replicate 70 dBo) := by
  refine ⟨by decide, ?_, ?_, ?_, ?_⟩
  · intro x hx; cases hx
  · intro hx; cases hx
  · rw [List.length_replicate]
  intro m hm
  have : (List.replicate 70 dBo).getD m dBo = dBo := by rw [List.getD_eq_getElem?_getD, List.getElem?_replicate, if_pos hm]; rfl
  rw [this]
  simp [dBo]
theorem cm_set {cm : List Bo} {n m : Nat} (hn : n < cm.length) : ((cm.set n (Bo.mk true)).getD m dBo).z = true ↔ (m = n ∨ (cm.getD m dBo).z = true) := by
  rw [List.getD_eq_getElem?_getD, List.getElem?_set, List.getD_eq_getElem?_getD]
  by_cases h : n = m
  · subst h; simp [hn]
  · rw [if_neg h]
    constructor
    · exact fun h2 => .inr h2
    · rintro (h2 | h2)
      · omega
      · exact h2
theorem DI_rej {k n : Nat} {ws : List Msg} {cm : List Bo} (h : DI k ws cm) (hn : n < 64) (hc : (cm.getD n dBo).z = true) : DI k ws (cm.set n (Bo.mk true)) := by
  obtain ⟨h1, h2, h3, h4, h5⟩ := h
  refine ⟨h1, h2, h3, by rw [List.length_set]; exact h4, fun m hm => (cm_set (by omega)).trans ?_⟩
  rw [← h5 m hm]
  constructor
  · rintro (rfl | h6)
    · exact hc
    · exact h6
  · exact .inr
theorem less_iff {k n : Nat} (hn : n < 64) (hk : k ≤ 64) : less16 (u16N ((n : Nat) : Int)) k ↔ n < k := by
  unfold less16 sub16
  rw [u16_small (by omega)]
  unfold u16N
  omega
theorem rej_any {k n : Nat} {ws : List Msg} {cm : List Bo} (h : DI k ws cm) (hn : n < 64) (hc : (cm.getD n dBo).z = true) (hl : ¬ less16 (u16N ((n : Nat) : Int)) k) : ws.any (qq ((0 : Nat) : Int) (u16N ((n : Nat) : Int))) = true := by
  obtain ⟨h1, h2, h3, h4, h5⟩ := h
  rw [less_iff hn h1] at hl
  have := ((h5 n (by omega)).1 hc).resolve_left hl
  rw [List.any_eq_true, u16_small (by omega)]
  exact ⟨_, this, (qm hn).2 rfl⟩
theorem acc_l {k n : Nat} {ws : List Msg} {cm : List Bo} (h : DI k ws cm) (hn : n < 64) (hc : ¬ (cm.getD n dBo).z = true) : ¬ less16 (u16N ((n : Nat) : Int)) k := by
  obtain ⟨h1, h2, h3, h4, h5⟩ := h
  rw [less_iff hn h1]
  exact fun hh => hc ((h5 n (by omega)).2 (.inl hh))
theorem acc_c {k n : Nat} {ws : List Msg} {cm : List Bo} (h : DI k ws cm) (hn : n < 64) (hc : ¬ (cm.getD n dBo).z = true) : ws.any (qq ((0 : Nat) : Int) (u16N ((n : Nat) : Int))) = false := by
  obtain ⟨h1, h2, h3, h4, h5⟩ := h
  rw [Bool.eq_false_iff]
  intro hh
  rw [List.any_eq_true, u16_small (by omega)] at hh
  obtain ⟨x, hx, hq⟩ := hh
  obtain ⟨b, hb, rfl⟩ := h2 x hx
  have := (qm hb).1 hq
  subst this
  exact hc ((h5 b (by omega)).2 (.inr hx))
theorem form_snoc {ws : List Msg} {n : Nat} (h : form ws) (hn : n < 64) : form (ws ++ [mM n]) := by
  intro x hx
  rcases List.mem_append.1 hx with h1 | h1
  · exact h x h1
  · exact ⟨n, hn, List.mem_singleton.1 h1⟩
theorem mem_snoc {ws : List Msg} {n m : Nat} : mM m ∈ ws ++ [mM n] ↔ (mM m ∈ ws ∨ m = n) := by
  rw [List.mem_append, List.mem_singleton]
  constructor
  · rintro (h | h)
    · exact .inl h
    · have := congrArg Msg.ssn h
      simp only [mM] at this
      exact .inr (by omega)
  · rintro (h | h)
    · exact .inl h
    · exact .inr (by rw [h])
theorem acc_R {k n : Nat} {ws : List Msg} {cm : List Bo} (h : DI k ws cm) (hn : n < 64) {f : Nat} {R : Nat × List Msg × List Msg} (hf : (ws ++ [mM n]).length ≤ f) (hR : goS ((0 : Nat) : Int) f k (ws ++ [mM n]) ((List.range k).map mM) = R) : DI R.1 R.2.1 (cm.set n (Bo.mk true)) ∧ R.2.2 = (List.range R.1).map mM ∧ R.2.1.length ≤ ws.length + 1 := by
  obtain ⟨h1, h2, h3, h4, h5⟩ := h
  obtain ⟨r1, r2, r3, r4, r5, r6, r7⟩ := goInv f k _ R (form_snoc h2 hn) h1 hf hR
  refine ⟨⟨r2, r4, r6, by rw [List.length_set]; exact h4, fun m hm => (cm_set (by omega)).trans ?_⟩, r3, by rw [List.length_append] at r5; exact r5⟩
  rw [r7 m, mem_snoc, h5 m hm]
  constructor
  · rintro (h6 | h6 | h6)
    · exact .inr (.inr h6)
    · exact .inl h6
    · exact .inr (.inl h6)
  · rintro (h6 | h6 | h6)
    · exact .inr (.inl h6)
    · exact .inr (.inr h6)
    · exact .inl h6
theorem acc_N {k n : Nat} {ws : List Msg} {cm : List Bo} (h : DI k ws cm) (hn : n < 64) (hmv : ¬ (ws ++ [mM n]).findIdx (qq ((0 : Nat) : Int) k) < (ws ++ [mM n]).length) : DI k (ws ++ [mM n]) (cm.set n (Bo.mk true)) := by
  have h2 := (acc_R h hn (Nat.le_refl _) (goS_stop hmv)).1
  exact h2
theorem rd_ssn {k r : Nat} (h : r < k) : (((List.range k).map mM).getD r dMsg).ssn = ((r : Nat) : Int) := by
  rw [List.getD_eq_getElem?_getD, List.getElem?_map, List.getElem?_range h]; rfl
theorem end_t {k r : Nat} {ws : List Msg} {cm : List Bo} (h : DI k ws cm) (hr : r ≤ k) (hc : (cm.getD r dBo).z = true) : r < k := by
  obtain ⟨h1, h2, h3, h4, h5⟩ := h
  rcases (h5 r (by omega)).1 hc with h6 | h6
  · exact h6
  · rcases Nat.lt_or_ge r k with h7 | h7
    · exact h7
    · have : r = k := by omega
      subst this
      exact absurd h6 h3
theorem end_f {k r : Nat} {ws : List Msg} {cm : List Bo} (h : DI k ws cm) (hr : r ≤ k) (hc : ¬ (cm.getD r dBo).z = true) : r = k := by
  obtain ⟨h1, h2, h3, h4, h5⟩ := h
  rcases Nat.lt_or_ge r k with h7 | h7
  · exact absurd ((h5 r (by omega)).2 (.inl h7)) hc
  · omega
abbrev xDl41 (s : Nat) (l : List By) (i : Nat) : List Value := [(.pointer (some ⟨s, 0, some 0⟩)), (.agg ⟨[(.int .i64 0), (.int .i64 ((((l.getD i dBy).z % 64) : Nat) : Int)), (.bool false), (.int .u32 0), (.string ByteArray.empty)]⟩)]
abbrev xDl42 (l : List By) (i : Nat) : List Value := [(.int .i64 0), (.int .i64 ((((l.getD i dBy).z % 64) : Nat) : Int)), (.bool false), (.int .u32 0), (.string ByteArray.empty)]
abbrev xDl43 (jn : Nat) (jw : Nat) (K : Nat) (jo : Nat) (r : Nat) (k : Nat) : List Value := [(.slice (some ⟨jn, 0, none⟩) 1 0), (.slice (some ⟨jw, 0, none⟩) K 0), (.slice (some ⟨jo, (r + 1), none⟩) ((k - r) - 1) 0)]
abbrev xDl44 (jn : Nat) (jw2 : Nat) (R : Nat × List Msg × List Msg) (jo2 : Nat) (M2 : Nat) : List Value := [(.slice (some ⟨jn, 0, none⟩) 1 0), (.slice (some ⟨jw2, 0, none⟩) R.2.1.length 0), (.slice (some ⟨jo2, 0, none⟩) M2 0)]
abbrev xDl45 (jn : Nat) (jw : Nat) (K : Nat) (jo : Nat) (k : Nat) : List Value := [(.slice (some ⟨jn, 0, none⟩) 1 0), (.slice (some ⟨jw, 0, none⟩) K 0), (.slice (some ⟨jo, 0, none⟩) k 0)]
abbrev xDl46 (l : List By) (i : Nat) : Msg := (Msg.mk ((0 : Nat) : Int) (((((l.getD i dBy).z % 64)) : Nat) : Int) false 0#32 ByteArray.empty)
theorem dNew1 {n : Nat} {σ : Store} (hd : Dom n σ)    : CQ Try.prog noDen 13 [(.int .i64 1)] n σ (fun v n' d => ∃ i j, n ≤ i ∧ i < n' ∧ n ≤ j ∧ j < n' ∧ i ≠ j ∧ v = .pointer (some ⟨i, 0, some 0⟩) ∧ d = [(i, some ⟨[[(.slice (some ⟨j, 0, none⟩) 1 0), (.slice none 0 0), (.slice none 0 0)]], 3, 101, true⟩), (j, some (oUx [Ux.mk 0]))]) := by
 refine CQ.body (E := env) env_ok hd rfl rfl (by show _ ≤ _; exact of_decide_eq_true (by kernel_rfl)) ?_
 refine RA.seq hd ?_
 refine RA.region env_ok ?_
 refine OA.p (some 2) (.pointer none) rfl rfl rfl rfl ?_
 refine OA.nil ?_
 intro _
 refine RA.seq hd ?_
 refine RA.region env_ok ?_
 refine OA.p (some 3) (.int .i64 1) rfl rfl rfl rfl ?_
 refine OA.p (some 4) (.int .i64 1) rfl rfl rfl (by kernel_rfl) ?_
 refine OA.p (some 5) (.int .i64 1) rfl rfl rfl (by kernel_rfl) ?_
 refine OA.op1 (dst := (some 6)) (v := (.slice (some ⟨n, 0, none⟩) 1 0)) (n1 := (n + 1)) (w := (n, some (oUx (List.replicate 1 dUx)))) rfl rfl rfl (by kernel_rfl) (by omega) ?_
 refine OA.p (some 7) (.agg ⟨[(.slice (some ⟨n, 0, none⟩) 1 0), (.slice none 0 0), (.slice none 0 0)]⟩) rfl rfl rfl (by kernel_rfl) ?_
 refine OA.op1 (dst := (some 8)) (v := (.pointer (some ⟨(n + 1), 0, some 0⟩))) (n1 := (n + 2)) (w := ((n + 1), some ⟨[[(.slice (some ⟨n, 0, none⟩) 1 0), (.slice none 0 0), (.slice none 0 0)]], 3, 101, true⟩)) rfl rfl rfl rfl (by omega) ?_
 refine OA.p (some 2) (.pointer (some ⟨(n + 1), 0, some 0⟩)) rfl rfl rfl rfl ?_
 refine OA.nil ?_
 intro _
 refine RA.ret env_ok ?_
 refine ⟨.inr rfl, [(.pointer (some ⟨(n + 1), 0, some 0⟩))], (resL_cons rfl resL_nil), [((n + 1), some ⟨[[(.slice (some ⟨n, 0, none⟩) 1 0), (.slice none 0 0), (.slice none 0 0)]], 3, 101, true⟩), (n, some (oUx (List.replicate 1 dUx)))], (Less.refl _ _ _), ⟨(n + 1), n, by omega, by omega, by omega, by omega, by omega, rfl, rfl⟩⟩

set_option maxHeartbeats 4000000 in
theorem dOrder {n : Nat} {σ : Store} (hd : Dom n σ) (hn0 : 0 < n) (v : Value) (l : List By) (hv : RowP σ 5 1 v (l.map cBy)) (hby : ∀ b ∈ l, b.z < 256)   : CQ Try.prog noDen 3 [v] n σ (fun v n' d => v = .bool true) := by
 have rlv := hv.lt hd hn0
 refine CQ.body (E := env) env_ok hd rfl rfl (by show _ ≤ _; exact of_decide_eq_true (by kernel_rfl)) ?_
 refine RA.seq hd ?_
 refine RA.region env_ok ?_
 refine OA.p (some 2) (.bool false) rfl rfl rfl rfl ?_
 refine OA.nil ?_
 intro _
 refine RA.seq hd ?_
 refine RA.region env_ok ?_
 refine OA.call (dst := (some 12)) (all := [(.int .i64 1)]) rfl rfl rfl rfl rfl rfl rfl rfl (CQ.imp (dNew1 (hd.up (by omega))) ?_)
 rintro _ n1 _ ⟨s, jn, hs1, hs2, hs3, hs4, hs5, rfl, rfl⟩ hn1
 refine OA.app2 ?_
 refine OA.p (some 3) (Pt s 0 0) rfl rfl rfl rfl ?_
 refine OA.nil ?_
 intro _
 refine RA.seq hd ?_
 refine RA.region env_ok ?_
 refine OA.op1 (dst := (some 13)) (v := (.slice (some ⟨n1, 0, none⟩) 70 0)) (n1 := (n1 + 1)) (w := (n1, some (oBo (List.replicate 70 dBo)))) rfl rfl rfl (by kernel_rfl) (by omega) ?_
 refine OA.p (some 4) (.slice (some ⟨n1, 0, none⟩) 70 0) rfl rfl rfl rfl ?_
 refine OA.nil ?_
 intro _
 refine RA.seq hd ?_
 refine RA.seq hd ?_
 refine RA.region env_ok ?_
 refine OA.p (some 5) (.int .i64 0) rfl rfl rfl rfl ?_
 refine OA.nil ?_
 intro _
 refine RA.block ?_
 refine RA.weaken (D' := [(s, some ⟨[[(.slice (some ⟨jn, 0, none⟩) 1 0), (.slice none 0 0), (.slice none 0 0)]], 3, 101, true⟩), (jn, some (oUx [Ux.mk 0])), (n1, some (oBo (List.replicate 70 dBo)))]) hd (Less.of (fac (mm (fun _ => get_here) (fun _ => (get_there (by omega) get_here))) (fac (mm (fun _ => (get_there (by omega) get_here)) (fun _ => (gt2 (by omega) get_here))) (fac (mm (fun _ => (gt2 (by omega) get_here)) (fun _ => get_here)) fan))) (gone_of (by simp only [goneP, memP, List.cons_append, List.nil_append, true_or, or_true, true_and, and_true, or_false] <;> omega))) ?_
 refine RA.loop hd (fun kk_ τ n' D => (∃ i : Nat, ∃ jc : Nat, ∃ cm : List Bo, kk_ = (200 - i) ∧ (n1 + 1) ≤ n' ∧ Has τ [(0, v), (3, (Pt s 0 0)), (4, (.slice (some ⟨jc, 0, none⟩) 70 0)), (5, (.int .i64 ((i : Nat) : Int)))] ∧ D = [(s, some ⟨[[(.slice (some ⟨jn, 0, none⟩) 1 0), (.slice none 0 0), (.slice none 0 0)]], 3, 101, true⟩), (jn, some (oUx [Ux.mk 0])), (jc, some (oBo cm))] ∧ (∀ i ∈ keys D, i < n') ∧ i ≤ l.length ∧ i ≤ 200 ∧ n ≤ jc ∧ s ≠ jc ∧ jn ≠ jc ∧ DI 0 [] cm) ∨ (∃ i : Nat, ∃ jc : Nat, ∃ cm : List Bo, ∃ jw : Nat, ∃ K : Nat, ∃ ws : List Msg, kk_ = (200 - i) ∧ (n1 + 1) ≤ n' ∧ Has τ [(0, v), (3, (Pt s 0 0)), (4, (.slice (some ⟨jc, 0, none⟩) 70 0)), (5, (.int .i64 ((i : Nat) : Int)))] ∧ D = [(s, some ⟨[[(.slice (some ⟨jn, 0, none⟩) 1 0), (.slice (some ⟨jw, 0, none⟩) K 0), (.slice none 0 0)]], 3, 101, true⟩), (jn, some (oUx [Ux.mk 0])), (jc, some (oBo cm)), (jw, some (oMsg ws))] ∧ (∀ i ∈ keys D, i < n') ∧ i ≤ l.length ∧ i ≤ 200 ∧ n ≤ jc ∧ s ≠ jc ∧ jn ≠ jc ∧ ws.length = K ∧ K ≤ i ∧ (n ≤ jw ∧ s ≠ jw ∧ jn ≠ jw ∧ jc ≠ jw) ∧ DI 0 ws cm) ∨ (∃ i : Nat, ∃ jc : Nat, ∃ cm : List Bo, ∃ jw : Nat, ∃ K : Nat, ∃ ws : List Msg, ∃ jo : Nat, ∃ k : Nat, kk_ = (200 - i) ∧ (n1 + 1) ≤ n' ∧ Has τ [(0, v), (3, (Pt s 0 0)), (4, (.slice (some ⟨jc, 0, none⟩) 70 0)), (5, (.int .i64 ((i : Nat) : Int)))] ∧ D = [(s, some ⟨[(xDl45 jn jw K jo k)], 3, 101, true⟩), (jn, some (oUx [Ux.mk k])), (jc, some (oBo cm)), (jw, some (oMsg ws)), (jo, some (oMsg ((List.range k).map mM)))] ∧ (∀ i ∈ keys D, i < n') ∧ i ≤ l.length ∧ i ≤ 200 ∧ n ≤ jc ∧ s ≠ jc ∧ jn ≠ jc ∧ ws.length = K ∧ K ≤ i ∧ (n ≤ jw ∧ s ≠ jw ∧ jn ≠ jw ∧ jc ≠ jw) ∧ n ≤ jo ∧ s ≠ jo ∧ (jn ≠ jo ∧ jc ≠ jo) ∧ jw ≠ jo ∧ DI k ws cm)) ((200 - 0)) (.inl (⟨0, n1, (List.replicate 70 dBo), rfl, by omega, ⟨rfl, rfl, rfl, rfl, trivial⟩, rfl, (kb3 (by omega)), ⟨by omega, by omega, by omega, by omega, by omega, DI0⟩⟩)) ?_
 rintro kn2 τ2 n2 Dn2 hSn2
 rcases hSn2 with ⟨i, jc, cm, rfl, hn2, hHn2, rfl, hKn2, hIn2⟩ | ⟨i, jc, cm, jw, K, ws, rfl, hn2, hHn2, rfl, hKn2, hIn2⟩ | ⟨i, jc, cm, jw, K, ws, jo, k, rfl, hn2, hHn2, rfl, hKn2, hIn2⟩
 ·
  rw [Has.eq hHn2]
  have hKn2_0 : s < n2 := hKn2 _ (by simp only [keys, List.map_cons, List.map_nil, List.mem_cons, true_or, or_true])
  have hKn2_1 : jn < n2 := hKn2 _ (by simp only [keys, List.map_cons, List.map_nil, List.mem_cons, true_or, or_true])
  have hKn2_2 : jc < n2 := hKn2 _ (by simp only [keys, List.map_cons, List.map_nil, List.mem_cons, true_or, or_true])
  clear hKn2
  obtain ⟨hi1, hi2, hc1_, hc2_, hc3_, hDI⟩ := hIn2
  obtain ⟨hk64, hform, hnot, hcm, hcI⟩ := id hDI
  refine RA.seq hd ?_
  refine RA.seq hd ?_
  refine RA.region env_ok ?_
  refine OA.p (some 14) (.int .i64 ((i : Nat) : Int)) rfl rfl rfl rfl ?_
  refine OA.p (some 15) v rfl rfl rfl rfl ?_
  refine OA.p (some 16) (.int .i64 ((l.length : Nat) : Int)) rfl rfl rfl (r_lenP (c := cBy) rfl rfl rfl rfl rfl rfl hv rfl) ?_
  by_cases hc1 : ((i : Nat) : Int) < ((l.length : Nat) : Int)
  ·
   obtain ⟨rest, hat⟩ := hv.get (m := i) (by omega)
   have lathat := hd.lt hat
   refine OA.p (some 17) (.bool true) rfl rfl rfl (Eq.trans (r_bin rfl rfl rfl (b_lss rfl)) (dT hc1)) ?_
   refine OA.p (some 18) (.bool true) rfl rfl rfl rfl ?_
   refine OA.p (some 19) (.int .i64 ((i : Nat) : Int)) rfl rfl rfl rfl ?_
   by_cases hc2 : ((i : Nat) : Int) < 200
   ·
    refine OA.p (some 20) (.bool true) rfl rfl rfl (Eq.trans (r_bin rfl rfl rfl (b_lss rfl)) (dT hc2)) ?_
    refine OA.p (some 21) (.bool true) rfl rfl rfl rfl ?_
    refine OA.nil ?_
    intro _
    refine RA.condT rfl ?_
    refine RA.skip env_ok ?_
    intro _
    refine RA.seq hd ?_
    refine RA.block ?_
    refine RA.seq hd ?_
    refine RA.region env_ok ?_
    refine OA.p (some 24) v rfl rfl rfl rfl ?_
    refine OA.p (some 25) (.int .i64 ((i : Nat) : Int)) rfl rfl rfl rfl ?_
    refine OA.p (some 26) (.pointer (some ⟨(rk v), i, some 0⟩)) rfl rfl rfl (r_iaP (c := cBy) (m := i) rfl rfl rfl rfl rfl rfl hv rfl (by omega) (gt3 (by omega) hat) rfl) ?_
    refine OA.p (some 27) (.int .u8 (((l.getD i dBy).z : Nat) : Int)) rfl rfl rfl (r_load1 (e := cBy (l.getD i dBy)) rfl rfl rfl rfl rfl (gt3 (by omega) hat) (mp_getA (by omega)) rfl) ?_
    refine OA.p (some 28) (.int .i64 (((l.getD i dBy).z : Nat) : Int)) rfl rfl rfl (r_cvt rfl rfl rfl rfl rfl ⟨_, rfl⟩ (i64_eq (by have := (hby _ (getD_mem (l := l) (d := dBy) (i := i) (by omega))); omega))) ?_
    refine OA.p (some 29) (.int .i64 ((((l.getD i dBy).z % 64) : Nat) : Int)) rfl rfl rfl (r_bin rfl rfl rfl (b_remN (a := (l.getD i dBy).z) (c := 64) (by decide))) ?_
    refine OA.p (some 6) (.int .i64 ((((l.getD i dBy).z % 64) : Nat) : Int)) rfl rfl rfl rfl ?_
    refine OA.nil ?_
    intro _
    refine RA.seq hd ?_
    refine RA.seq hd ?_
    refine RA.par (md := [some [], some [], some [], none, some [], some [], some [jc], some [jc], some []]) env_ok (hd.of (by omega) (kb3 (by omega))) (by kernel_rfl) ?_
    refine PQ.pure (dst := (some 30)) (v := (Pt s 0 0)) rfl rfl rfl noStore (none_ok _ _) rfl ?_
    refine PQ.pure (dst := (some 31)) (v := (.int .i64 ((((l.getD i dBy).z % 64) : Nat) : Int))) rfl rfl rfl noStore (none_ok _ _) rfl ?_
    refine PQ.pure (dst := (some 32)) (v := (.agg ⟨(xDl42 l i)⟩)) rfl rfl rfl noStore (none_ok _ _) (by kernel_rfl) ?_
    by_cases hc3 : (cm.getD ((l.getD i dBy).z % 64) dBo).z = true
    · exfalso; first | omega | (have hx1 := end_t hDI (by omega) hc3; omega) | exact hc3 (rd_ssn (by omega)) | (rcases (hDI.2.2.2.2 _ (by omega)).1 hc3 with hx1 | hx1; omega; cases hx1)
    ·
     have hn64 : ((l.getD i dBy).z % 64) < 64 := by omega
     have hal := acc_l hDI hn64 hc3
     have hac := acc_c hDI hn64 hc3
     by_cases hc4 : [(xDl46 l i)].findIdx (qq ((0 : Nat) : Int) ([Ux.mk 0].getD 0 dUx).z) < [(xDl46 l i)].length
     ·
      obtain ⟨R, hR⟩ : ∃ R, (goS ((0 : Nat) : Int) 1 ([Ux.mk 0].getD 0 dUx).z [(xDl46 l i)] ([] : List Msg)) = R := ⟨_, rfl⟩
      refine PQ.call (dst := (some 33)) (all := (xDl41 s l i)) rfl rfl rfl rfl rfl rfl rfl rfl _ (seen_any (V := []) (D := [(s, some ⟨[[(.slice (some ⟨jn, 0, none⟩) 1 0), (.slice none 0 0), (.slice none 0 0)]], 3, 101, true⟩), (jn, some (oUx [Ux.mk 0])), (jc, some (oBo cm))]) (by kernel_rfl)) (CQ.imp (CQ.keys (dPutNAM (hd.of (by omega) (kb3 (by omega))) s jn 0 1 [Ux.mk 0] rfl (by decide) (by omega)  0 rfl (((((l.getD i dBy).z % 64)) : Nat) : Int) 0#32 ByteArray.empty hal R hR hc4 get_here (get_there (by omega) get_here))) ?_)
      rintro _ n3 _ ⟨hkn3, ⟨jw2, jo2, M2, L3, hp1, hp2, hp3, hp4, hp5, hL3, hp6, hL5, rfl, rfl⟩⟩
      have hn3 := hkn3.1
      refine ⟨hn3, (kp4 (by first | exact wr_new (by omega) (by omega) | exact wr_old [4, 5, 6, 7] (by kernel_rfl) (by omega) (by omega) (fac (lo0 rfl) (fac (lo0 rfl) (fac (lo1 rfl (by omega)) (fac (lo1 rfl (by omega)) fan))))) (by first | exact wr_new (by omega) (by omega) | exact wr_old [4, 5, 6, 7] (by kernel_rfl) (by omega) (by omega) (fac (lo0 rfl) (fac (lo0 rfl) (fac (lo1 rfl (by omega)) (fac (lo1 rfl (by omega)) fan))))) (by first | exact wr_new (by omega) (by omega) | exact wr_old [4, 5, 6, 7] (by kernel_rfl) (by omega) (by omega) (fac (lo0 rfl) (fac (lo0 rfl) (fac (lo1 rfl (by omega)) (fac (lo1 rfl (by omega)) fan))))) (by first | exact wr_new (by omega) (by omega) | exact wr_old [4, 5, 6, 7] (by kernel_rfl) (by omega) (by omega) (fac (lo0 rfl) (fac (lo0 rfl) (fac (lo1 rfl (by omega)) (fac (lo1 rfl (by omega)) fan)))))), ?_⟩
      refine PQ.pure (dst := (some 34)) (v := (.slice (some ⟨jc, 0, none⟩) 70 0)) rfl rfl rfl noStore (none_ok _ _) rfl ?_
      refine PQ.pure (dst := (some 35)) (v := (.int .i64 ((((l.getD i dBy).z % 64) : Nat) : Int))) rfl rfl rfl noStore (none_ok _ _) rfl ?_
      refine PQ.pure (dst := (some 36)) (v := (.pointer (some ⟨jc, ((l.getD i dBy).z % 64), some 0⟩))) rfl rfl rfl (app [(jc, some (oBo cm))] noStore) (seen_one (V := []) (D := [(s, some ⟨[[(.slice (some ⟨jn, 0, none⟩) 1 0), (.slice none 0 0), (.slice none 0 0)]], 3, 101, true⟩), (jn, some (oUx [Ux.mk 0])), (jc, some (oBo cm))]) (by kernel_rfl) (gt2 (by omega) get_here)) (r_iaS (l := ((l.getD i dBy).z % 64)) rfl rfl rfl rfl rfl rfl (by omega) (by omega) get_here rfl (by omega)) ?_
      refine PQ.pure (dst := (some 37)) (v := (.bool false)) rfl rfl rfl (app [(jc, some (oBo cm))] noStore) (seen_one (V := []) (D := [(s, some ⟨[[(.slice (some ⟨jn, 0, none⟩) 1 0), (.slice none 0 0), (.slice none 0 0)]], 3, 101, true⟩), (jn, some (oUx [Ux.mk 0])), (jc, some (oBo cm))]) (by kernel_rfl) (gt2 (by omega) get_here)) (Eq.trans (r_loadF (c := cBo) dBo rfl rfl rfl rfl rfl get_here (by rw [hcm]; omega) rfl) (bF hc3)) ?_
      refine PQ.pure (dst := (some 38)) (v := (.bool false)) rfl rfl rfl noStore (none_ok _ _) rfl ?_
      refine PQ.done (d := [(s, some ⟨[(xDl44 jn jw2 R jo2 M2)], 3, 101, true⟩), (jn, some (oUx ([Ux.mk 0].set 0 (Ux.mk R.1)))), (jw2, some (oMsg R.2.1)), (jo2, some (oMsg L3))]) (by kernel_rfl) ?_
      intro _
      refine RA.condF rfl ?_
      refine RA.skip env_ok ?_
      intro _
      refine RA.region env_ok ?_
      refine OA.p (some 39) (.slice (some ⟨jc, 0, none⟩) 70 0) rfl rfl rfl rfl ?_
      refine OA.p (some 40) (.int .i64 ((((l.getD i dBy).z % 64) : Nat) : Int)) rfl rfl rfl rfl ?_
      refine OA.p (some 41) (.pointer (some ⟨jc, ((l.getD i dBy).z % 64), some 0⟩)) rfl rfl rfl (r_iaS (l := ((l.getD i dBy).z % 64)) rfl rfl rfl rfl rfl rfl (by omega) (by omega) (gt6 (by omega) get_here) rfl (by omega)) ?_
      refine OA.op1 (dst := none) (v := (.tuple #[])) (n1 := n3) (w := (jc, some (oBo (cm.set ((l.getD i dBy).z % 64) (Bo.mk true))))) rfl rfl rfl (r_storeR (c := cBo) dBo (Bo.mk true) rfl rfl rfl rfl rfl rfl rfl (gt6 (by omega) get_here) (by rw [hcm]; omega) (Nat.le_of_ble_eq_true rfl) rfl) (by omega) ?_
      refine OA.nil ?_
      intro _
      refine RA.rebase [(0, v), (3, (Pt s 0 0)), (4, (.slice (some ⟨jc, 0, none⟩) 70 0)), (5, (.int .i64 ((i : Nat) : Int))), (6, (.int .i64 ((((l.getD i dBy).z % 64) : Nat) : Int))), (21, (.bool true)), (38, (.bool false))] ⟨rfl, rfl, rfl, rfl, rfl, rfl, rfl, trivial⟩ (fun τr4 => ?_)
      refine RA.region env_ok ?_
      refine OA.p (some 22) (.int .i64 ((i : Nat) : Int)) rfl rfl rfl rfl ?_
      refine OA.p (some 23) (.int .i64 (((i + 1) : Nat) : Int)) rfl rfl rfl (r_bin rfl rfl rfl (b_add (i64_eq (by omega)))) ?_
      refine OA.p (some 5) (.int .i64 (((i + 1) : Nat) : Int)) rfl rfl rfl rfl ?_
      refine OA.nil ?_
      refine ⟨(200 - (i + 1)), by omega, [(s, some ⟨[(xDl44 jn jw2 R jo2 M2)], 3, 101, true⟩), (jn, some (oUx ([Ux.mk 0].set 0 (Ux.mk R.1)))), (jc, some (oBo (cm.set ((l.getD i dBy).z % 64) (Bo.mk true)))), (jw2, some (oMsg R.2.1)), (jo2, some (oMsg L3))], (Less.of (fac (mm (fun _ => get_here) (fun _ => (get_there (by omega) get_here))) (fac (mm (fun _ => (get_there (by omega) get_here)) (fun _ => (gt2 (by omega) get_here))) (fac (mm (fun _ => (gt2 (by omega) get_here)) (fun _ => get_here)) (fac (mm (fun _ => (gt3 (by omega) get_here)) (fun _ => (gt3 (by omega) get_here))) (fac (mm (fun _ => (gt4 (by omega) get_here)) (fun _ => (gt4 (by omega) get_here))) fan))))) (gone_of (by simp only [goneP, memP, List.cons_append, List.nil_append, true_or, or_true, true_and, and_true, or_false] <;> omega))), .inr (.inr (⟨(i + 1), jc, (cm.set ((l.getD i dBy).z % 64) (Bo.mk true)), jw2, R.2.1.length, R.2.1, jo2, R.1, rfl, by omega, ⟨rfl, rfl, rfl, rfl, trivial⟩, (by rw [hL5, (acc_R hDI hn64 (by simp) hR).2.1, show M2 = R.1 from by rw [← hL3, hL5, (acc_R hDI hn64 (by simp) hR).2.1, List.length_map, List.length_range]]; rfl), (kb5 (by omega)), ⟨by omega, by omega, by omega, by omega, by omega, rfl, by have hh := (acc_R hDI hn64 (by simp) hR).2.2; simp at hh; omega, by omega, by omega, by omega, by omega, by omega, (acc_R hDI hn64 (by simp) hR).1⟩⟩))⟩
     ·
      refine PQ.call (dst := (some 33)) (all := (xDl41 s l i)) rfl rfl rfl rfl rfl rfl rfl rfl _ (seen_any (V := []) (D := [(s, some ⟨[[(.slice (some ⟨jn, 0, none⟩) 1 0), (.slice none 0 0), (.slice none 0 0)]], 3, 101, true⟩), (jn, some (oUx [Ux.mk 0])), (jc, some (oBo cm))]) (by kernel_rfl)) (CQ.imp (CQ.keys (dPutNAN (hd.of (by omega) (kb3 (by omega))) s jn 0 1 [Ux.mk 0] rfl (by decide) (by omega)  0 rfl (((((l.getD i dBy).z % 64)) : Nat) : Int) 0#32 ByteArray.empty hal hc4 get_here (get_there (by omega) get_here))) ?_)
      rintro _ n5 _ ⟨hkn5, ⟨jw2, hp1, hp2, rfl, rfl⟩⟩
      have hn5 := hkn5.1
      refine ⟨hn5, (kp2 (by first | exact wr_new (by omega) (by omega) | exact wr_old [4, 5, 6, 7] (by kernel_rfl) (by omega) (by omega) (fac (lo0 rfl) (fac (lo0 rfl) (fac (lo1 rfl (by omega)) (fac (lo1 rfl (by omega)) fan))))) (by first | exact wr_new (by omega) (by omega) | exact wr_old [4, 5, 6, 7] (by kernel_rfl) (by omega) (by omega) (fac (lo0 rfl) (fac (lo0 rfl) (fac (lo1 rfl (by omega)) (fac (lo1 rfl (by omega)) fan)))))), ?_⟩
      refine PQ.pure (dst := (some 34)) (v := (.slice (some ⟨jc, 0, none⟩) 70 0)) rfl rfl rfl noStore (none_ok _ _) rfl ?_
      refine PQ.pure (dst := (some 35)) (v := (.int .i64 ((((l.getD i dBy).z % 64) : Nat) : Int))) rfl rfl rfl noStore (none_ok _ _) rfl ?_
      refine PQ.pure (dst := (some 36)) (v := (.pointer (some ⟨jc, ((l.getD i dBy).z % 64), some 0⟩))) rfl rfl rfl (app [(jc, some (oBo cm))] noStore) (seen_one (V := []) (D := [(s, some ⟨[[(.slice (some ⟨jn, 0, none⟩) 1 0), (.slice none 0 0), (.slice none 0 0)]], 3, 101, true⟩), (jn, some (oUx [Ux.mk 0])), (jc, some (oBo cm))]) (by kernel_rfl) (gt2 (by omega) get_here)) (r_iaS (l := ((l.getD i dBy).z % 64)) rfl rfl rfl rfl rfl rfl (by omega) (by omega) get_here rfl (by omega)) ?_
      refine PQ.pure (dst := (some 37)) (v := (.bool false)) rfl rfl rfl (app [(jc, some (oBo cm))] noStore) (seen_one (V := []) (D := [(s, some ⟨[[(.slice (some ⟨jn, 0, none⟩) 1 0), (.slice none 0 0), (.slice none 0 0)]], 3, 101, true⟩), (jn, some (oUx [Ux.mk 0])), (jc, some (oBo cm))]) (by kernel_rfl) (gt2 (by omega) get_here)) (Eq.trans (r_loadF (c := cBo) dBo rfl rfl rfl rfl rfl get_here (by rw [hcm]; omega) rfl) (bF hc3)) ?_
      refine PQ.pure (dst := (some 38)) (v := (.bool false)) rfl rfl rfl noStore (none_ok _ _) rfl ?_
      refine PQ.done (d := [(s, some ⟨[[(.slice (some ⟨jn, 0, none⟩) 1 0), (.slice (some ⟨jw2, 0, none⟩) 1 0), (.slice none 0 0)]], 3, 101, true⟩), (jw2, some (oMsg [(xDl46 l i)]))]) (by kernel_rfl) ?_
      intro _
      refine RA.condF rfl ?_
      refine RA.skip env_ok ?_
      intro _
      refine RA.region env_ok ?_
      refine OA.p (some 39) (.slice (some ⟨jc, 0, none⟩) 70 0) rfl rfl rfl rfl ?_
      refine OA.p (some 40) (.int .i64 ((((l.getD i dBy).z % 64) : Nat) : Int)) rfl rfl rfl rfl ?_
      refine OA.p (some 41) (.pointer (some ⟨jc, ((l.getD i dBy).z % 64), some 0⟩)) rfl rfl rfl (r_iaS (l := ((l.getD i dBy).z % 64)) rfl rfl rfl rfl rfl rfl (by omega) (by omega) (gt4 (by omega) get_here) rfl (by omega)) ?_
      refine OA.op1 (dst := none) (v := (.tuple #[])) (n1 := n5) (w := (jc, some (oBo (cm.set ((l.getD i dBy).z % 64) (Bo.mk true))))) rfl rfl rfl (r_storeR (c := cBo) dBo (Bo.mk true) rfl rfl rfl rfl rfl rfl rfl (gt4 (by omega) get_here) (by rw [hcm]; omega) (Nat.le_of_ble_eq_true rfl) rfl) (by omega) ?_
      refine OA.nil ?_
      intro _
      refine RA.rebase [(0, v), (3, (Pt s 0 0)), (4, (.slice (some ⟨jc, 0, none⟩) 70 0)), (5, (.int .i64 ((i : Nat) : Int))), (6, (.int .i64 ((((l.getD i dBy).z % 64) : Nat) : Int))), (21, (.bool true)), (38, (.bool false))] ⟨rfl, rfl, rfl, rfl, rfl, rfl, rfl, trivial⟩ (fun τr6 => ?_)
      refine RA.region env_ok ?_
      refine OA.p (some 22) (.int .i64 ((i : Nat) : Int)) rfl rfl rfl rfl ?_
      refine OA.p (some 23) (.int .i64 (((i + 1) : Nat) : Int)) rfl rfl rfl (r_bin rfl rfl rfl (b_add (i64_eq (by omega)))) ?_
      refine OA.p (some 5) (.int .i64 (((i + 1) : Nat) : Int)) rfl rfl rfl rfl ?_
      refine OA.nil ?_
      refine ⟨(200 - (i + 1)), by omega, [(s, some ⟨[[(.slice (some ⟨jn, 0, none⟩) 1 0), (.slice (some ⟨jw2, 0, none⟩) 1 0), (.slice none 0 0)]], 3, 101, true⟩), (jn, some (oUx [Ux.mk 0])), (jc, some (oBo (cm.set ((l.getD i dBy).z % 64) (Bo.mk true)))), (jw2, some (oMsg [(xDl46 l i)]))], (Less.of (fac (mm (fun _ => get_here) (fun _ => (get_there (by omega) get_here))) (fac (mm (fun _ => (get_there (by omega) get_here)) (fun _ => (gt4 (by omega) get_here))) (fac (mm (fun _ => (gt2 (by omega) get_here)) (fun _ => get_here)) (fac (mm (fun _ => (gt3 (by omega) get_here)) (fun _ => (gt2 (by omega) get_here))) fan)))) (gone_of (by simp only [goneP, memP, List.cons_append, List.nil_append, true_or, or_true, true_and, and_true, or_false] <;> omega))), .inr (.inl (⟨(i + 1), jc, (cm.set ((l.getD i dBy).z % 64) (Bo.mk true)), jw2, 1, [(xDl46 l i)], rfl, by omega, ⟨rfl, rfl, rfl, rfl, trivial⟩, rfl, (kb4 (by omega)), ⟨by omega, by omega, by omega, by omega, by omega, by simp, by omega, by omega, acc_N hDI hn64 hc4⟩⟩))⟩
   ·
    refine OA.p (some 20) (.bool false) rfl rfl rfl (Eq.trans (r_bin rfl rfl rfl (b_lss rfl)) (dF hc2)) ?_
    refine OA.p (some 21) (.bool false) rfl rfl rfl rfl ?_
    refine OA.nil ?_
    intro _
    refine RA.condF rfl ?_
    refine RA.exit env_ok ?_
    intro _
    refine RA.seq hd ?_
    refine RA.seq hd ?_
    refine RA.region env_ok ?_
    refine OA.p (some 7) (.int .i64 0) rfl rfl rfl rfl ?_
    refine OA.nil ?_
    intro _
    refine RA.block ?_
    refine RA.unroll hd ?_
    refine RA.seq hd ?_
    refine RA.seq hd ?_
    refine RA.region env_ok ?_
    refine OA.p (some 42) (.slice (some ⟨jc, 0, none⟩) 70 0) rfl rfl rfl rfl ?_
    refine OA.p (some 43) (.int .i64 0) rfl rfl rfl rfl ?_
    refine OA.p (some 44) (Pt jc 0 0) rfl rfl rfl (r_iaS (l := 0) rfl rfl rfl rfl rfl rfl (by omega) (by omega) (gt2 (by omega) get_here) rfl (by omega)) ?_
    have hc5 : ¬ ((cm.getD 0 dBo).z = true) := fun hdd => by exfalso; first | omega | (have hx1 := end_t hDI (by omega) hdd; omega) | exact hdd (rd_ssn (by omega)) | (rcases (hDI.2.2.2.2 _ (by omega)).1 hdd with hx1 | hx1; omega; cases hx1)
    refine OA.p (some 45) (.bool false) rfl rfl rfl (Eq.trans (r_loadF (c := cBo) dBo rfl rfl rfl rfl rfl (gt2 (by omega) get_here) (by rw [hcm]; omega) rfl) (bF hc5)) ?_
    refine OA.nil ?_
    intro _
    refine RA.condF rfl ?_
    refine RA.exit env_ok ?_
    intro _
    refine RA.seq hd ?_
    refine RA.region env_ok ?_
    refine OA.p (some 62) (Pt s 0 0) rfl rfl rfl rfl ?_
    refine OA.call (dst := (some 63)) (all := [(Pt s 0 0)]) rfl rfl rfl rfl rfl rfl rfl rfl (CQ.imp (dReadA (hd.of (by omega) (kb3 (by omega))) s jn 1 (.slice none 0 0) rfl get_here) ?_)
    rintro _ n7 _ ⟨rfl, rfl⟩ hn7
    refine OA.app0 ?_
    refine OA.p (some 61) (.tuple ⟨[(.agg ⟨(cMsg dMsg)⟩), (.bool false)]⟩) rfl rfl rfl rfl ?_
    refine OA.p (some 64) (.agg ⟨(cMsg dMsg)⟩) rfl rfl rfl rfl ?_
    refine OA.p (some 65) (.bool false) rfl rfl rfl rfl ?_
    refine OA.op1 (dst := (some 10)) (v := (Pt n7 0 0)) (n1 := (n7 + 1)) (w := (n7, some ⟨[[(.int .i64 0), (.int .i64 0), (.bool false), (.int .u32 0), (.string ByteArray.empty)]], 5, 29, true⟩)) rfl rfl rfl rfl (by omega) ?_
    refine OA.op1 (dst := none) (v := (.tuple #[])) (n1 := (n7 + 1)) (w := (n7, some ⟨[(cMsg dMsg)], 5, 29, true⟩)) rfl rfl rfl (r_store rfl rfl rfl rfl rfl rfl rfl get_here rfl rfl (Nat.le_of_ble_eq_true rfl) rfl) (by omega) ?_
    refine OA.p (some 11) (.bool false) rfl rfl rfl rfl ?_
    refine OA.nil ?_
    intro _
    refine RA.seq hd ?_
    refine RA.region env_ok ?_
    refine OA.callP (dst := (some 66)) (all := []) (v := (.bool true)) (hd.of (by omega) (kb5 (by omega))) rfl rfl rfl rfl rfl rfl rfl rfl awakeD ?_
    intro n8 hn8
    refine OA.p (some 67) (.bool true) rfl rfl rfl rfl ?_
    refine OA.p (some 68) (.bool false) rfl rfl rfl rfl ?_
    refine OA.p (some 69) (.bool true) rfl rfl rfl rfl ?_
    refine OA.p (some 70) (.bool true) rfl rfl rfl rfl ?_
    refine OA.p (some 2) (.bool true) rfl rfl rfl rfl ?_
    refine OA.nil ?_
    intro _
    refine RA.rebase [(0, v), (2, (.bool true)), (3, (Pt s 0 0)), (4, (.slice (some ⟨jc, 0, none⟩) 70 0)), (5, (.int .i64 ((i : Nat) : Int))), (7, (.int .i64 0)), (11, (.bool false)), (21, (.bool false)), (45, (.bool false))] ⟨rfl, rfl, rfl, rfl, rfl, rfl, rfl, rfl, rfl, trivial⟩ (fun τr9 => ?_)
    refine RA.ret env_ok ?_
    refine ⟨.inr rfl, [(.bool true)], (resL_cons rfl resL_nil), [], (Less.of (fun p hp => by simp at hp) (gone_of (by simp only [goneP, memP, List.cons_append, List.nil_append, true_or, or_true, true_and, and_true, or_false] <;> omega))), rfl⟩
  ·
   refine OA.p (some 17) (.bool false) rfl rfl rfl (Eq.trans (r_bin rfl rfl rfl (b_lss rfl)) (dF hc1)) ?_
   refine OA.p (some 18) (.bool false) rfl rfl rfl rfl ?_
   refine OA.off (dst := (some 19)) rfl rfl rfl ?_
   refine OA.off (dst := (some 20)) rfl rfl rfl ?_
   refine OA.p (some 21) (.bool false) rfl rfl rfl rfl ?_
   refine OA.nil ?_
   intro _
   refine RA.condF rfl ?_
   refine RA.exit env_ok ?_
   intro _
   refine RA.seq hd ?_
   refine RA.seq hd ?_
   refine RA.region env_ok ?_
   refine OA.p (some 7) (.int .i64 0) rfl rfl rfl rfl ?_
   refine OA.nil ?_
   intro _
   refine RA.block ?_
   refine RA.unroll hd ?_
   refine RA.seq hd ?_
   refine RA.seq hd ?_
   refine RA.region env_ok ?_
   refine OA.p (some 42) (.slice (some ⟨jc, 0, none⟩) 70 0) rfl rfl rfl rfl ?_
   refine OA.p (some 43) (.int .i64 0) rfl rfl rfl rfl ?_
   refine OA.p (some 44) (Pt jc 0 0) rfl rfl rfl (r_iaS (l := 0) rfl rfl rfl rfl rfl rfl (by omega) (by omega) (gt2 (by omega) get_here) rfl (by omega)) ?_
   have hc6 : ¬ ((cm.getD 0 dBo).z = true) := fun hdd => by exfalso; first | omega | (have hx1 := end_t hDI (by omega) hdd; omega) | exact hdd (rd_ssn (by omega)) | (rcases (hDI.2.2.2.2 _ (by omega)).1 hdd with hx1 | hx1; omega; cases hx1)
   refine OA.p (some 45) (.bool false) rfl rfl rfl (Eq.trans (r_loadF (c := cBo) dBo rfl rfl rfl rfl rfl (gt2 (by omega) get_here) (by rw [hcm]; omega) rfl) (bF hc6)) ?_
   refine OA.nil ?_
   intro _
   refine RA.condF rfl ?_
   refine RA.exit env_ok ?_
   intro _
   refine RA.seq hd ?_
   refine RA.region env_ok ?_
   refine OA.p (some 62) (Pt s 0 0) rfl rfl rfl rfl ?_
   refine OA.call (dst := (some 63)) (all := [(Pt s 0 0)]) rfl rfl rfl rfl rfl rfl rfl rfl (CQ.imp (dReadA (hd.of (by omega) (kb3 (by omega))) s jn 1 (.slice none 0 0) rfl get_here) ?_)
   rintro _ n10 _ ⟨rfl, rfl⟩ hn10
   refine OA.app0 ?_
   refine OA.p (some 61) (.tuple ⟨[(.agg ⟨(cMsg dMsg)⟩), (.bool false)]⟩) rfl rfl rfl rfl ?_
   refine OA.p (some 64) (.agg ⟨(cMsg dMsg)⟩) rfl rfl rfl rfl ?_
   refine OA.p (some 65) (.bool false) rfl rfl rfl rfl ?_
   refine OA.op1 (dst := (some 10)) (v := (Pt n10 0 0)) (n1 := (n10 + 1)) (w := (n10, some ⟨[[(.int .i64 0), (.int .i64 0), (.bool false), (.int .u32 0), (.string ByteArray.empty)]], 5, 29, true⟩)) rfl rfl rfl rfl (by omega) ?_
   refine OA.op1 (dst := none) (v := (.tuple #[])) (n1 := (n10 + 1)) (w := (n10, some ⟨[(cMsg dMsg)], 5, 29, true⟩)) rfl rfl rfl (r_store rfl rfl rfl rfl rfl rfl rfl get_here rfl rfl (Nat.le_of_ble_eq_true rfl) rfl) (by omega) ?_
   refine OA.p (some 11) (.bool false) rfl rfl rfl rfl ?_
   refine OA.nil ?_
   intro _
   refine RA.seq hd ?_
   refine RA.region env_ok ?_
   refine OA.callP (dst := (some 66)) (all := []) (v := (.bool true)) (hd.of (by omega) (kb5 (by omega))) rfl rfl rfl rfl rfl rfl rfl rfl awakeD ?_
   intro n11 hn11
   refine OA.p (some 67) (.bool true) rfl rfl rfl rfl ?_
   refine OA.p (some 68) (.bool false) rfl rfl rfl rfl ?_
   refine OA.p (some 69) (.bool true) rfl rfl rfl rfl ?_
   refine OA.p (some 70) (.bool true) rfl rfl rfl rfl ?_
   refine OA.p (some 2) (.bool true) rfl rfl rfl rfl ?_
   refine OA.nil ?_
   intro _
   refine RA.rebase [(0, v), (2, (.bool true)), (3, (Pt s 0 0)), (4, (.slice (some ⟨jc, 0, none⟩) 70 0)), (5, (.int .i64 ((i : Nat) : Int))), (7, (.int .i64 0)), (11, (.bool false)), (21, (.bool false)), (45, (.bool false))] ⟨rfl, rfl, rfl, rfl, rfl, rfl, rfl, rfl, rfl, trivial⟩ (fun τr12 => ?_)
   refine RA.ret env_ok ?_
   refine ⟨.inr rfl, [(.bool true)], (resL_cons rfl resL_nil), [], (Less.of (fun p hp => by simp at hp) (gone_of (by simp only [goneP, memP, List.cons_append, List.nil_append, true_or, or_true, true_and, and_true, or_false] <;> omega))), rfl⟩
 ·
  rw [Has.eq hHn2]
  have hKn2_0 : s < n2 := hKn2 _ (by simp only [keys, List.map_cons, List.map_nil, List.mem_cons, true_or, or_true])
  have hKn2_1 : jn < n2 := hKn2 _ (by simp only [keys, List.map_cons, List.map_nil, List.mem_cons, true_or, or_true])
  have hKn2_2 : jc < n2 := hKn2 _ (by simp only [keys, List.map_cons, List.map_nil, List.mem_cons, true_or, or_true])
  have hKn2_3 : jw < n2 := hKn2 _ (by simp only [keys, List.map_cons, List.map_nil, List.mem_cons, true_or, or_true])
  clear hKn2
  obtain ⟨hi1, hi2, hc1_, hc2_, hc3_, hws, hKi, ⟨hw1, hw2, hw3, hw4⟩, hDI⟩ := hIn2
  obtain ⟨hk64, hform, hnot, hcm, hcI⟩ := id hDI
  refine RA.seq hd ?_
  refine RA.seq hd ?_
  refine RA.region env_ok ?_
  refine OA.p (some 14) (.int .i64 ((i : Nat) : Int)) rfl rfl rfl rfl ?_
  refine OA.p (some 15) v rfl rfl rfl rfl ?_
  refine OA.p (some 16) (.int .i64 ((l.length : Nat) : Int)) rfl rfl rfl (r_lenP (c := cBy) rfl rfl rfl rfl rfl rfl hv rfl) ?_
  by_cases hc7 : ((i : Nat) : Int) < ((l.length : Nat) : Int)
  ·
   obtain ⟨rest, hat⟩ := hv.get (m := i) (by omega)
   have lathat := hd.lt hat
   refine OA.p (some 17) (.bool true) rfl rfl rfl (Eq.trans (r_bin rfl rfl rfl (b_lss rfl)) (dT hc7)) ?_
   refine OA.p (some 18) (.bool true) rfl rfl rfl rfl ?_
   refine OA.p (some 19) (.int .i64 ((i : Nat) : Int)) rfl rfl rfl rfl ?_
   by_cases hc8 : ((i : Nat) : Int) < 200
   ·
    refine OA.p (some 20) (.bool true) rfl rfl rfl (Eq.trans (r_bin rfl rfl rfl (b_lss rfl)) (dT hc8)) ?_
    refine OA.p (some 21) (.bool true) rfl rfl rfl rfl ?_
    refine OA.nil ?_
    intro _
    refine RA.condT rfl ?_
    refine RA.skip env_ok ?_
    intro _
    refine RA.seq hd ?_
    refine RA.block ?_
    refine RA.seq hd ?_
    refine RA.region env_ok ?_
    refine OA.p (some 24) v rfl rfl rfl rfl ?_
    refine OA.p (some 25) (.int .i64 ((i : Nat) : Int)) rfl rfl rfl rfl ?_
    refine OA.p (some 26) (.pointer (some ⟨(rk v), i, some 0⟩)) rfl rfl rfl (r_iaP (c := cBy) (m := i) rfl rfl rfl rfl rfl rfl hv rfl (by omega) (gt4 (by omega) hat) rfl) ?_
    refine OA.p (some 27) (.int .u8 (((l.getD i dBy).z : Nat) : Int)) rfl rfl rfl (r_load1 (e := cBy (l.getD i dBy)) rfl rfl rfl rfl rfl (gt4 (by omega) hat) (mp_getA (by omega)) rfl) ?_
    refine OA.p (some 28) (.int .i64 (((l.getD i dBy).z : Nat) : Int)) rfl rfl rfl (r_cvt rfl rfl rfl rfl rfl ⟨_, rfl⟩ (i64_eq (by have := (hby _ (getD_mem (l := l) (d := dBy) (i := i) (by omega))); omega))) ?_
    refine OA.p (some 29) (.int .i64 ((((l.getD i dBy).z % 64) : Nat) : Int)) rfl rfl rfl (r_bin rfl rfl rfl (b_remN (a := (l.getD i dBy).z) (c := 64) (by decide))) ?_
    refine OA.p (some 6) (.int .i64 ((((l.getD i dBy).z % 64) : Nat) : Int)) rfl rfl rfl rfl ?_
    refine OA.nil ?_
    intro _
    refine RA.seq hd ?_
    refine RA.seq hd ?_
    refine RA.par (md := [some [], some [], some [], none, some [], some [], some [jc], some [jc], some []]) env_ok (hd.of (by omega) (kb4 (by omega))) (by kernel_rfl) ?_
    refine PQ.pure (dst := (some 30)) (v := (Pt s 0 0)) rfl rfl rfl noStore (none_ok _ _) rfl ?_
    refine PQ.pure (dst := (some 31)) (v := (.int .i64 ((((l.getD i dBy).z % 64) : Nat) : Int))) rfl rfl rfl noStore (none_ok _ _) rfl ?_
    refine PQ.pure (dst := (some 32)) (v := (.agg ⟨(xDl42 l i)⟩)) rfl rfl rfl noStore (none_ok _ _) (by kernel_rfl) ?_
    by_cases hc9 : (cm.getD ((l.getD i dBy).z % 64) dBo).z = true
    ·
     have hn64 : ((l.getD i dBy).z % 64) < 64 := by omega
     by_cases hc10 : less16 (u16N (((((l.getD i dBy).z % 64)) : Nat) : Int)) ([Ux.mk 0].getD 0 dUx).z
     ·
      refine PQ.call (dst := (some 33)) (all := (xDl41 s l i)) rfl rfl rfl rfl rfl rfl rfl rfl _ (seen_any (V := []) (D := [(s, some ⟨[[(.slice (some ⟨jn, 0, none⟩) 1 0), (.slice (some ⟨jw, 0, none⟩) K 0), (.slice none 0 0)]], 3, 101, true⟩), (jn, some (oUx [Ux.mk 0])), (jc, some (oBo cm)), (jw, some (oMsg ws))]) (by kernel_rfl)) (CQ.imp (CQ.keys (dPutRRa (hd.of (by omega) (kb4 (by omega))) s jn 0 1 [Ux.mk 0] rfl (by decide) (.slice none 0 0) rfl jw K ws hws (by omega) (by omega) (by omega) (((((l.getD i dBy).z % 64)) : Nat) : Int) 0#32 ByteArray.empty hc10 get_here (get_there (by omega) get_here) (gt3 (by omega) get_here))) ?_)
      rintro _ n13 _ ⟨hkn13, ⟨rfl, rfl⟩⟩
      have hn13 := hkn13.1
      refine ⟨hn13, (fun x hx => by simp [keys] at hx), ?_⟩
      refine PQ.pure (dst := (some 34)) (v := (.slice (some ⟨jc, 0, none⟩) 70 0)) rfl rfl rfl noStore (none_ok _ _) rfl ?_
      refine PQ.pure (dst := (some 35)) (v := (.int .i64 ((((l.getD i dBy).z % 64) : Nat) : Int))) rfl rfl rfl noStore (none_ok _ _) rfl ?_
      refine PQ.pure (dst := (some 36)) (v := (.pointer (some ⟨jc, ((l.getD i dBy).z % 64), some 0⟩))) rfl rfl rfl (app [(jc, some (oBo cm))] noStore) (seen_one (V := []) (D := [(s, some ⟨[[(.slice (some ⟨jn, 0, none⟩) 1 0), (.slice (some ⟨jw, 0, none⟩) K 0), (.slice none 0 0)]], 3, 101, true⟩), (jn, some (oUx [Ux.mk 0])), (jc, some (oBo cm)), (jw, some (oMsg ws))]) (by kernel_rfl) (gt2 (by omega) get_here)) (r_iaS (l := ((l.getD i dBy).z % 64)) rfl rfl rfl rfl rfl rfl (by omega) (by omega) get_here rfl (by omega)) ?_
      refine PQ.pure (dst := (some 37)) (v := (.bool true)) rfl rfl rfl (app [(jc, some (oBo cm))] noStore) (seen_one (V := []) (D := [(s, some ⟨[[(.slice (some ⟨jn, 0, none⟩) 1 0), (.slice (some ⟨jw, 0, none⟩) K 0), (.slice none 0 0)]], 3, 101, true⟩), (jn, some (oUx [Ux.mk 0])), (jc, some (oBo cm)), (jw, some (oMsg ws))]) (by kernel_rfl) (gt2 (by omega) get_here)) (Eq.trans (r_loadF (c := cBo) dBo rfl rfl rfl rfl rfl get_here (by rw [hcm]; omega) rfl) (bT hc9)) ?_
      refine PQ.pure (dst := (some 38)) (v := (.bool false)) rfl rfl rfl noStore (none_ok _ _) rfl ?_
      refine PQ.done (d := []) (by kernel_rfl) ?_
      intro _
      refine RA.condF rfl ?_
      refine RA.skip env_ok ?_
      intro _
      refine RA.region env_ok ?_
      refine OA.p (some 39) (.slice (some ⟨jc, 0, none⟩) 70 0) rfl rfl rfl rfl ?_
      refine OA.p (some 40) (.int .i64 ((((l.getD i dBy).z % 64) : Nat) : Int)) rfl rfl rfl rfl ?_
      refine OA.p (some 41) (.pointer (some ⟨jc, ((l.getD i dBy).z % 64), some 0⟩)) rfl rfl rfl (r_iaS (l := ((l.getD i dBy).z % 64)) rfl rfl rfl rfl rfl rfl (by omega) (by omega) (gt2 (by omega) get_here) rfl (by omega)) ?_
      refine OA.op1 (dst := none) (v := (.tuple #[])) (n1 := n13) (w := (jc, some (oBo (cm.set ((l.getD i dBy).z % 64) (Bo.mk true))))) rfl rfl rfl (r_storeR (c := cBo) dBo (Bo.mk true) rfl rfl rfl rfl rfl rfl rfl (gt2 (by omega) get_here) (by rw [hcm]; omega) (Nat.le_of_ble_eq_true rfl) rfl) (by omega) ?_
      refine OA.nil ?_
      intro _
      refine RA.rebase [(0, v), (3, (Pt s 0 0)), (4, (.slice (some ⟨jc, 0, none⟩) 70 0)), (5, (.int .i64 ((i : Nat) : Int))), (6, (.int .i64 ((((l.getD i dBy).z % 64) : Nat) : Int))), (21, (.bool true)), (38, (.bool false))] ⟨rfl, rfl, rfl, rfl, rfl, rfl, rfl, trivial⟩ (fun τr14 => ?_)
      refine RA.region env_ok ?_
      refine OA.p (some 22) (.int .i64 ((i : Nat) : Int)) rfl rfl rfl rfl ?_
      refine OA.p (some 23) (.int .i64 (((i + 1) : Nat) : Int)) rfl rfl rfl (r_bin rfl rfl rfl (b_add (i64_eq (by omega)))) ?_
      refine OA.p (some 5) (.int .i64 (((i + 1) : Nat) : Int)) rfl rfl rfl rfl ?_
      refine OA.nil ?_
      refine ⟨(200 - (i + 1)), by omega, [(s, some ⟨[[(.slice (some ⟨jn, 0, none⟩) 1 0), (.slice (some ⟨jw, 0, none⟩) K 0), (.slice none 0 0)]], 3, 101, true⟩), (jn, some (oUx [Ux.mk 0])), (jc, some (oBo (cm.set ((l.getD i dBy).z % 64) (Bo.mk true)))), (jw, some (oMsg ws))], (Less.of (fac (mm (fun _ => get_here) (fun _ => (get_there (by omega) get_here))) (fac (mm (fun _ => (get_there (by omega) get_here)) (fun _ => (gt2 (by omega) get_here))) (fac (mm (fun _ => (gt2 (by omega) get_here)) (fun _ => get_here)) (fac (mm (fun _ => (gt3 (by omega) get_here)) (fun _ => (gt4 (by omega) get_here))) fan)))) (gone_of (by simp only [goneP, memP, List.cons_append, List.nil_append, true_or, or_true, true_and, and_true, or_false] <;> omega))), .inr (.inl (⟨(i + 1), jc, (cm.set ((l.getD i dBy).z % 64) (Bo.mk true)), jw, K, ws, rfl, by omega, ⟨rfl, rfl, rfl, rfl, trivial⟩, rfl, (kb4 (by omega)), ⟨by omega, by omega, by omega, by omega, by omega, hws, by omega, by omega, DI_rej hDI hn64 hc9⟩⟩))⟩
     ·
      have hra := rej_any hDI hn64 hc9 hc10
      refine PQ.call (dst := (some 33)) (all := (xDl41 s l i)) rfl rfl rfl rfl rfl rfl rfl rfl _ (seen_any (V := []) (D := [(s, some ⟨[[(.slice (some ⟨jn, 0, none⟩) 1 0), (.slice (some ⟨jw, 0, none⟩) K 0), (.slice none 0 0)]], 3, 101, true⟩), (jn, some (oUx [Ux.mk 0])), (jc, some (oBo cm)), (jw, some (oMsg ws))]) (by kernel_rfl)) (CQ.imp (CQ.keys (dPutRRb (hd.of (by omega) (kb4 (by omega))) s jn 0 1 [Ux.mk 0] rfl (by decide) (.slice none 0 0) rfl jw K ws hws (by omega) (by omega) (by omega) (((((l.getD i dBy).z % 64)) : Nat) : Int) 0#32 ByteArray.empty hc10 hra get_here (get_there (by omega) get_here) (gt3 (by omega) get_here))) ?_)
      rintro _ n15 _ ⟨hkn15, ⟨rfl, rfl⟩⟩
      have hn15 := hkn15.1
      refine ⟨hn15, (fun x hx => by simp [keys] at hx), ?_⟩
      refine PQ.pure (dst := (some 34)) (v := (.slice (some ⟨jc, 0, none⟩) 70 0)) rfl rfl rfl noStore (none_ok _ _) rfl ?_
      refine PQ.pure (dst := (some 35)) (v := (.int .i64 ((((l.getD i dBy).z % 64) : Nat) : Int))) rfl rfl rfl noStore (none_ok _ _) rfl ?_
      refine PQ.pure (dst := (some 36)) (v := (.pointer (some ⟨jc, ((l.getD i dBy).z % 64), some 0⟩))) rfl rfl rfl (app [(jc, some (oBo cm))] noStore) (seen_one (V := []) (D := [(s, some ⟨[[(.slice (some ⟨jn, 0, none⟩) 1 0), (.slice (some ⟨jw, 0, none⟩) K 0), (.slice none 0 0)]], 3, 101, true⟩), (jn, some (oUx [Ux.mk 0])), (jc, some (oBo cm)), (jw, some (oMsg ws))]) (by kernel_rfl) (gt2 (by omega) get_here)) (r_iaS (l := ((l.getD i dBy).z % 64)) rfl rfl rfl rfl rfl rfl (by omega) (by omega) get_here rfl (by omega)) ?_
      refine PQ.pure (dst := (some 37)) (v := (.bool true)) rfl rfl rfl (app [(jc, some (oBo cm))] noStore) (seen_one (V := []) (D := [(s, some ⟨[[(.slice (some ⟨jn, 0, none⟩) 1 0), (.slice (some ⟨jw, 0, none⟩) K 0), (.slice none 0 0)]], 3, 101, true⟩), (jn, some (oUx [Ux.mk 0])), (jc, some (oBo cm)), (jw, some (oMsg ws))]) (by kernel_rfl) (gt2 (by omega) get_here)) (Eq.trans (r_loadF (c := cBo) dBo rfl rfl rfl rfl rfl get_here (by rw [hcm]; omega) rfl) (bT hc9)) ?_
      refine PQ.pure (dst := (some 38)) (v := (.bool false)) rfl rfl rfl noStore (none_ok _ _) rfl ?_
      refine PQ.done (d := []) (by kernel_rfl) ?_
      intro _
      refine RA.condF rfl ?_
      refine RA.skip env_ok ?_
      intro _
      refine RA.region env_ok ?_
      refine OA.p (some 39) (.slice (some ⟨jc, 0, none⟩) 70 0) rfl rfl rfl rfl ?_
      refine OA.p (some 40) (.int .i64 ((((l.getD i dBy).z % 64) : Nat) : Int)) rfl rfl rfl rfl ?_
      refine OA.p (some 41) (.pointer (some ⟨jc, ((l.getD i dBy).z % 64), some 0⟩)) rfl rfl rfl (r_iaS (l := ((l.getD i dBy).z % 64)) rfl rfl rfl rfl rfl rfl (by omega) (by omega) (gt2 (by omega) get_here) rfl (by omega)) ?_
      refine OA.op1 (dst := none) (v := (.tuple #[])) (n1 := n15) (w := (jc, some (oBo (cm.set ((l.getD i dBy).z % 64) (Bo.mk true))))) rfl rfl rfl (r_storeR (c := cBo) dBo (Bo.mk true) rfl rfl rfl rfl rfl rfl rfl (gt2 (by omega) get_here) (by rw [hcm]; omega) (Nat.le_of_ble_eq_true rfl) rfl) (by omega) ?_
      refine OA.nil ?_
      intro _
      refine RA.rebase [(0, v), (3, (Pt s 0 0)), (4, (.slice (some ⟨jc, 0, none⟩) 70 0)), (5, (.int .i64 ((i : Nat) : Int))), (6, (.int .i64 ((((l.getD i dBy).z % 64) : Nat) : Int))), (21, (.bool true)), (38, (.bool false))] ⟨rfl, rfl, rfl, rfl, rfl, rfl, rfl, trivial⟩ (fun τr16 => ?_)
      refine RA.region env_ok ?_
      refine OA.p (some 22) (.int .i64 ((i : Nat) : Int)) rfl rfl rfl rfl ?_
      refine OA.p (some 23) (.int .i64 (((i + 1) : Nat) : Int)) rfl rfl rfl (r_bin rfl rfl rfl (b_add (i64_eq (by omega)))) ?_
      refine OA.p (some 5) (.int .i64 (((i + 1) : Nat) : Int)) rfl rfl rfl rfl ?_
      refine OA.nil ?_
      refine ⟨(200 - (i + 1)), by omega, [(s, some ⟨[[(.slice (some ⟨jn, 0, none⟩) 1 0), (.slice (some ⟨jw, 0, none⟩) K 0), (.slice none 0 0)]], 3, 101, true⟩), (jn, some (oUx [Ux.mk 0])), (jc, some (oBo (cm.set ((l.getD i dBy).z % 64) (Bo.mk true)))), (jw, some (oMsg ws))], (Less.of (fac (mm (fun _ => get_here) (fun _ => (get_there (by omega) get_here))) (fac (mm (fun _ => (get_there (by omega) get_here)) (fun _ => (gt2 (by omega) get_here))) (fac (mm (fun _ => (gt2 (by omega) get_here)) (fun _ => get_here)) (fac (mm (fun _ => (gt3 (by omega) get_here)) (fun _ => (gt4 (by omega) get_here))) fan)))) (gone_of (by simp only [goneP, memP, List.cons_append, List.nil_append, true_or, or_true, true_and, and_true, or_false] <;> omega))), .inr (.inl (⟨(i + 1), jc, (cm.set ((l.getD i dBy).z % 64) (Bo.mk true)), jw, K, ws, rfl, by omega, ⟨rfl, rfl, rfl, rfl, trivial⟩, rfl, (kb4 (by omega)), ⟨by omega, by omega, by omega, by omega, by omega, hws, by omega, by omega, DI_rej hDI hn64 hc9⟩⟩))⟩
    ·
     have hn64 : ((l.getD i dBy).z % 64) < 64 := by omega
     have hal := acc_l hDI hn64 hc9
     have hac := acc_c hDI hn64 hc9
     by_cases hc11 : (ws ++ [(xDl46 l i)]).findIdx (qq ((0 : Nat) : Int) ([Ux.mk 0].getD 0 dUx).z) < (ws ++ [(xDl46 l i)]).length
     ·
      obtain ⟨R, hR⟩ : ∃ R, (goS ((0 : Nat) : Int) (K + 1) ([Ux.mk 0].getD 0 dUx).z (ws ++ [(xDl46 l i)]) ([] : List Msg)) = R := ⟨_, rfl⟩
      refine PQ.call (dst := (some 33)) (all := (xDl41 s l i)) rfl rfl rfl rfl rfl rfl rfl rfl _ (seen_any (V := []) (D := [(s, some ⟨[[(.slice (some ⟨jn, 0, none⟩) 1 0), (.slice (some ⟨jw, 0, none⟩) K 0), (.slice none 0 0)]], 3, 101, true⟩), (jn, some (oUx [Ux.mk 0])), (jc, some (oBo cm)), (jw, some (oMsg ws))]) (by kernel_rfl)) (CQ.imp (CQ.keys (dPutRAM (hd.of (by omega) (kb4 (by omega))) s jn 0 1 [Ux.mk 0] rfl (by decide) (by omega) jw K ws hws (by omega) (by omega) (by omega) 0 rfl (((((l.getD i dBy).z % 64)) : Nat) : Int) 0#32 ByteArray.empty hal hac R hR hc11 get_here (get_there (by omega) get_here) (gt3 (by omega) get_here))) ?_)
      rintro _ n17 _ ⟨hkn17, ⟨jw2, jo2, M2, L3, hp1, hp2, hp3, hp4, hp5, hL3, hp6, hL5, rfl, rfl⟩⟩
      have hn17 := hkn17.1
      refine ⟨hn17, (kp5 (by first | exact wr_new (by omega) (by omega) | exact wr_old [4, 5, 6, 7] (by kernel_rfl) (by omega) (by omega) (fac (lo0 rfl) (fac (lo0 rfl) (fac (lo1 rfl (by omega)) (fac (lo1 rfl (by omega)) fan))))) (by first | exact wr_new (by omega) (by omega) | exact wr_old [4, 5, 6, 7] (by kernel_rfl) (by omega) (by omega) (fac (lo0 rfl) (fac (lo0 rfl) (fac (lo1 rfl (by omega)) (fac (lo1 rfl (by omega)) fan))))) (by first | exact wr_new (by omega) (by omega) | exact wr_old [4, 5, 6, 7] (by kernel_rfl) (by omega) (by omega) (fac (lo0 rfl) (fac (lo0 rfl) (fac (lo1 rfl (by omega)) (fac (lo1 rfl (by omega)) fan))))) (by first | exact wr_new (by omega) (by omega) | exact wr_old [4, 5, 6, 7] (by kernel_rfl) (by omega) (by omega) (fac (lo0 rfl) (fac (lo0 rfl) (fac (lo1 rfl (by omega)) (fac (lo1 rfl (by omega)) fan))))) (by first | exact wr_new (by omega) (by omega) | exact wr_old [4, 5, 6, 7] (by kernel_rfl) (by omega) (by omega) (fac (lo0 rfl) (fac (lo0 rfl) (fac (lo1 rfl (by omega)) (fac (lo1 rfl (by omega)) fan)))))), ?_⟩
      refine PQ.pure (dst := (some 34)) (v := (.slice (some ⟨jc, 0, none⟩) 70 0)) rfl rfl rfl noStore (none_ok _ _) rfl ?_
      refine PQ.pure (dst := (some 35)) (v := (.int .i64 ((((l.getD i dBy).z % 64) : Nat) : Int))) rfl rfl rfl noStore (none_ok _ _) rfl ?_
      refine PQ.pure (dst := (some 36)) (v := (.pointer (some ⟨jc, ((l.getD i dBy).z % 64), some 0⟩))) rfl rfl rfl (app [(jc, some (oBo cm))] noStore) (seen_one (V := []) (D := [(s, some ⟨[[(.slice (some ⟨jn, 0, none⟩) 1 0), (.slice (some ⟨jw, 0, none⟩) K 0), (.slice none 0 0)]], 3, 101, true⟩), (jn, some (oUx [Ux.mk 0])), (jc, some (oBo cm)), (jw, some (oMsg ws))]) (by kernel_rfl) (gt2 (by omega) get_here)) (r_iaS (l := ((l.getD i dBy).z % 64)) rfl rfl rfl rfl rfl rfl (by omega) (by omega) get_here rfl (by omega)) ?_
      refine PQ.pure (dst := (some 37)) (v := (.bool false)) rfl rfl rfl (app [(jc, some (oBo cm))] noStore) (seen_one (V := []) (D := [(s, some ⟨[[(.slice (some ⟨jn, 0, none⟩) 1 0), (.slice (some ⟨jw, 0, none⟩) K 0), (.slice none 0 0)]], 3, 101, true⟩), (jn, some (oUx [Ux.mk 0])), (jc, some (oBo cm)), (jw, some (oMsg ws))]) (by kernel_rfl) (gt2 (by omega) get_here)) (Eq.trans (r_loadF (c := cBo) dBo rfl rfl rfl rfl rfl get_here (by rw [hcm]; omega) rfl) (bF hc9)) ?_
      refine PQ.pure (dst := (some 38)) (v := (.bool false)) rfl rfl rfl noStore (none_ok _ _) rfl ?_
      refine PQ.done (d := [(s, some ⟨[(xDl44 jn jw2 R jo2 M2)], 3, 101, true⟩), (jn, some (oUx ([Ux.mk 0].set 0 (Ux.mk R.1)))), (jw2, some (oMsg R.2.1)), (jo2, some (oMsg L3)), (jw, none)]) (by kernel_rfl) ?_
      intro _
      refine RA.condF rfl ?_
      refine RA.skip env_ok ?_
      intro _
      refine RA.region env_ok ?_
      refine OA.p (some 39) (.slice (some ⟨jc, 0, none⟩) 70 0) rfl rfl rfl rfl ?_
      refine OA.p (some 40) (.int .i64 ((((l.getD i dBy).z % 64) : Nat) : Int)) rfl rfl rfl rfl ?_
      refine OA.p (some 41) (.pointer (some ⟨jc, ((l.getD i dBy).z % 64), some 0⟩)) rfl rfl rfl (r_iaS (l := ((l.getD i dBy).z % 64)) rfl rfl rfl rfl rfl rfl (by omega) (by omega) (gt7 (by omega) get_here) rfl (by omega)) ?_
      refine OA.op1 (dst := none) (v := (.tuple #[])) (n1 := n17) (w := (jc, some (oBo (cm.set ((l.getD i dBy).z % 64) (Bo.mk true))))) rfl rfl rfl (r_storeR (c := cBo) dBo (Bo.mk true) rfl rfl rfl rfl rfl rfl rfl (gt7 (by omega) get_here) (by rw [hcm]; omega) (Nat.le_of_ble_eq_true rfl) rfl) (by omega) ?_
      refine OA.nil ?_
      intro _
      refine RA.rebase [(0, v), (3, (Pt s 0 0)), (4, (.slice (some ⟨jc, 0, none⟩) 70 0)), (5, (.int .i64 ((i : Nat) : Int))), (6, (.int .i64 ((((l.getD i dBy).z % 64) : Nat) : Int))), (21, (.bool true)), (38, (.bool false))] ⟨rfl, rfl, rfl, rfl, rfl, rfl, rfl, trivial⟩ (fun τr18 => ?_)
      refine RA.region env_ok ?_
      refine OA.p (some 22) (.int .i64 ((i : Nat) : Int)) rfl rfl rfl rfl ?_
      refine OA.p (some 23) (.int .i64 (((i + 1) : Nat) : Int)) rfl rfl rfl (r_bin rfl rfl rfl (b_add (i64_eq (by omega)))) ?_
      refine OA.p (some 5) (.int .i64 (((i + 1) : Nat) : Int)) rfl rfl rfl rfl ?_
      refine OA.nil ?_
      refine ⟨(200 - (i + 1)), by omega, [(s, some ⟨[(xDl44 jn jw2 R jo2 M2)], 3, 101, true⟩), (jn, some (oUx ([Ux.mk 0].set 0 (Ux.mk R.1)))), (jc, some (oBo (cm.set ((l.getD i dBy).z % 64) (Bo.mk true)))), (jw2, some (oMsg R.2.1)), (jo2, some (oMsg L3))], (Less.of (fac (mm (fun _ => get_here) (fun _ => (get_there (by omega) get_here))) (fac (mm (fun _ => (get_there (by omega) get_here)) (fun _ => (gt2 (by omega) get_here))) (fac (mm (fun _ => (gt2 (by omega) get_here)) (fun _ => get_here)) (fac (mm (fun _ => (gt3 (by omega) get_here)) (fun _ => (gt3 (by omega) get_here))) (fac (mm (fun _ => (gt4 (by omega) get_here)) (fun _ => (gt4 (by omega) get_here))) fan))))) (gone_of (by simp only [goneP, memP, List.cons_append, List.nil_append, true_or, or_true, true_and, and_true, or_false] <;> omega))), .inr (.inr (⟨(i + 1), jc, (cm.set ((l.getD i dBy).z % 64) (Bo.mk true)), jw2, R.2.1.length, R.2.1, jo2, R.1, rfl, by omega, ⟨rfl, rfl, rfl, rfl, trivial⟩, (by rw [hL5, (acc_R hDI hn64 (by simp [hws]) hR).2.1, show M2 = R.1 from by rw [← hL3, hL5, (acc_R hDI hn64 (by simp [hws]) hR).2.1, List.length_map, List.length_range]]; rfl), (kb5 (by omega)), ⟨by omega, by omega, by omega, by omega, by omega, rfl, by have hh := (acc_R hDI hn64 (by simp [hws]) hR).2.2; omega, by omega, by omega, by omega, by omega, by omega, (acc_R hDI hn64 (by simp[hws]) hR).1⟩⟩))⟩
     ·
      refine PQ.call (dst := (some 33)) (all := (xDl41 s l i)) rfl rfl rfl rfl rfl rfl rfl rfl _ (seen_any (V := []) (D := [(s, some ⟨[[(.slice (some ⟨jn, 0, none⟩) 1 0), (.slice (some ⟨jw, 0, none⟩) K 0), (.slice none 0 0)]], 3, 101, true⟩), (jn, some (oUx [Ux.mk 0])), (jc, some (oBo cm)), (jw, some (oMsg ws))]) (by kernel_rfl)) (CQ.imp (CQ.keys (dPutRAN (hd.of (by omega) (kb4 (by omega))) s jn 0 1 [Ux.mk 0] rfl (by decide) (by omega) jw K ws hws (by omega) (by omega) (by omega) 0 rfl (((((l.getD i dBy).z % 64)) : Nat) : Int) 0#32 ByteArray.empty hal hac hc11 get_here (get_there (by omega) get_here) (gt3 (by omega) get_here))) ?_)
      rintro _ n19 _ ⟨hkn19, ⟨jw2, hp1, hp2, rfl, rfl⟩⟩
      have hn19 := hkn19.1
      refine ⟨hn19, (kp3 (by first | exact wr_new (by omega) (by omega) | exact wr_old [4, 5, 6, 7] (by kernel_rfl) (by omega) (by omega) (fac (lo0 rfl) (fac (lo0 rfl) (fac (lo1 rfl (by omega)) (fac (lo1 rfl (by omega)) fan))))) (by first | exact wr_new (by omega) (by omega) | exact wr_old [4, 5, 6, 7] (by kernel_rfl) (by omega) (by omega) (fac (lo0 rfl) (fac (lo0 rfl) (fac (lo1 rfl (by omega)) (fac (lo1 rfl (by omega)) fan))))) (by first | exact wr_new (by omega) (by omega) | exact wr_old [4, 5, 6, 7] (by kernel_rfl) (by omega) (by omega) (fac (lo0 rfl) (fac (lo0 rfl) (fac (lo1 rfl (by omega)) (fac (lo1 rfl (by omega)) fan)))))), ?_⟩
      refine PQ.pure (dst := (some 34)) (v := (.slice (some ⟨jc, 0, none⟩) 70 0)) rfl rfl rfl noStore (none_ok _ _) rfl ?_
      refine PQ.pure (dst := (some 35)) (v := (.int .i64 ((((l.getD i dBy).z % 64) : Nat) : Int))) rfl rfl rfl noStore (none_ok _ _) rfl ?_
      refine PQ.pure (dst := (some 36)) (v := (.pointer (some ⟨jc, ((l.getD i dBy).z % 64), some 0⟩))) rfl rfl rfl (app [(jc, some (oBo cm))] noStore) (seen_one (V := []) (D := [(s, some ⟨[[(.slice (some ⟨jn, 0, none⟩) 1 0), (.slice (some ⟨jw, 0, none⟩) K 0), (.slice none 0 0)]], 3, 101, true⟩), (jn, some (oUx [Ux.mk 0])), (jc, some (oBo cm)), (jw, some (oMsg ws))]) (by kernel_rfl) (gt2 (by omega) get_here)) (r_iaS (l := ((l.getD i dBy).z % 64)) rfl rfl rfl rfl rfl rfl (by omega) (by omega) get_here rfl (by omega)) ?_
      refine PQ.pure (dst := (some 37)) (v := (.bool false)) rfl rfl rfl (app [(jc, some (oBo cm))] noStore) (seen_one (V := []) (D := [(s, some ⟨[[(.slice (some ⟨jn, 0, none⟩) 1 0), (.slice (some ⟨jw, 0, none⟩) K 0), (.slice none 0 0)]], 3, 101, true⟩), (jn, some (oUx [Ux.mk 0])), (jc, some (oBo cm)), (jw, some (oMsg ws))]) (by kernel_rfl) (gt2 (by omega) get_here)) (Eq.trans (r_loadF (c := cBo) dBo rfl rfl rfl rfl rfl get_here (by rw [hcm]; omega) rfl) (bF hc9)) ?_
      refine PQ.pure (dst := (some 38)) (v := (.bool false)) rfl rfl rfl noStore (none_ok _ _) rfl ?_
      refine PQ.done (d := [(s, some ⟨[[(.slice (some ⟨jn, 0, none⟩) 1 0), (.slice (some ⟨jw2, 0, none⟩) (K + 1) 0), (.slice none 0 0)]], 3, 101, true⟩), (jw2, some (oMsg (ws ++ [(xDl46 l i)]))), (jw, none)]) (by kernel_rfl) ?_
      intro _
      refine RA.condF rfl ?_
      refine RA.skip env_ok ?_
      intro _
      refine RA.region env_ok ?_
      refine OA.p (some 39) (.slice (some ⟨jc, 0, none⟩) 70 0) rfl rfl rfl rfl ?_
      refine OA.p (some 40) (.int .i64 ((((l.getD i dBy).z % 64) : Nat) : Int)) rfl rfl rfl rfl ?_
      refine OA.p (some 41) (.pointer (some ⟨jc, ((l.getD i dBy).z % 64), some 0⟩)) rfl rfl rfl (r_iaS (l := ((l.getD i dBy).z % 64)) rfl rfl rfl rfl rfl rfl (by omega) (by omega) (gt5 (by omega) get_here) rfl (by omega)) ?_
      refine OA.op1 (dst := none) (v := (.tuple #[])) (n1 := n19) (w := (jc, some (oBo (cm.set ((l.getD i dBy).z % 64) (Bo.mk true))))) rfl rfl rfl (r_storeR (c := cBo) dBo (Bo.mk true) rfl rfl rfl rfl rfl rfl rfl (gt5 (by omega) get_here) (by rw [hcm]; omega) (Nat.le_of_ble_eq_true rfl) rfl) (by omega) ?_
      refine OA.nil ?_
      intro _
      refine RA.rebase [(0, v), (3, (Pt s 0 0)), (4, (.slice (some ⟨jc, 0, none⟩) 70 0)), (5, (.int .i64 ((i : Nat) : Int))), (6, (.int .i64 ((((l.getD i dBy).z % 64) : Nat) : Int))), (21, (.bool true)), (38, (.bool false))] ⟨rfl, rfl, rfl, rfl, rfl, rfl, rfl, trivial⟩ (fun τr20 => ?_)
      refine RA.region env_ok ?_
      refine OA.p (some 22) (.int .i64 ((i : Nat) : Int)) rfl rfl rfl rfl ?_
      refine OA.p (some 23) (.int .i64 (((i + 1) : Nat) : Int)) rfl rfl rfl (r_bin rfl rfl rfl (b_add (i64_eq (by omega)))) ?_
      refine OA.p (some 5) (.int .i64 (((i + 1) : Nat) : Int)) rfl rfl rfl rfl ?_
      refine OA.nil ?_
      refine ⟨(200 - (i + 1)), by omega, [(s, some ⟨[[(.slice (some ⟨jn, 0, none⟩) 1 0), (.slice (some ⟨jw2, 0, none⟩) (K + 1) 0), (.slice none 0 0)]], 3, 101, true⟩), (jn, some (oUx [Ux.mk 0])), (jc, some (oBo (cm.set ((l.getD i dBy).z % 64) (Bo.mk true)))), (jw2, some (oMsg (ws ++ [(xDl46 l i)])))], (Less.of (fac (mm (fun _ => get_here) (fun _ => (get_there (by omega) get_here))) (fac (mm (fun _ => (get_there (by omega) get_here)) (fun _ => (gt5 (by omega) get_here))) (fac (mm (fun _ => (gt2 (by omega) get_here)) (fun _ => get_here)) (fac (mm (fun _ => (gt3 (by omega) get_here)) (fun _ => (gt2 (by omega) get_here))) fan)))) (gone_of (by simp only [goneP, memP, List.cons_append, List.nil_append, true_or, or_true, true_and, and_true, or_false] <;> omega))), .inr (.inl (⟨(i + 1), jc, (cm.set ((l.getD i dBy).z % 64) (Bo.mk true)), jw2, (K + 1), (ws ++ [(xDl46 l i)]), rfl, by omega, ⟨rfl, rfl, rfl, rfl, trivial⟩, rfl, (kb4 (by omega)), ⟨by omega, by omega, by omega, by omega, by omega, by simp [hws], by omega, by omega, acc_N hDI hn64 hc11⟩⟩))⟩
   ·
    refine OA.p (some 20) (.bool false) rfl rfl rfl (Eq.trans (r_bin rfl rfl rfl (b_lss rfl)) (dF hc8)) ?_
    refine OA.p (some 21) (.bool false) rfl rfl rfl rfl ?_
    refine OA.nil ?_
    intro _
    refine RA.condF rfl ?_
    refine RA.exit env_ok ?_
    intro _
    refine RA.seq hd ?_
    refine RA.seq hd ?_
    refine RA.region env_ok ?_
    refine OA.p (some 7) (.int .i64 0) rfl rfl rfl rfl ?_
    refine OA.nil ?_
    intro _
    refine RA.block ?_
    refine RA.unroll hd ?_
    refine RA.seq hd ?_
    refine RA.seq hd ?_
    refine RA.region env_ok ?_
    refine OA.p (some 42) (.slice (some ⟨jc, 0, none⟩) 70 0) rfl rfl rfl rfl ?_
    refine OA.p (some 43) (.int .i64 0) rfl rfl rfl rfl ?_
    refine OA.p (some 44) (Pt jc 0 0) rfl rfl rfl (r_iaS (l := 0) rfl rfl rfl rfl rfl rfl (by omega) (by omega) (gt2 (by omega) get_here) rfl (by omega)) ?_
    have hc12 : ¬ ((cm.getD 0 dBo).z = true) := fun hdd => by exfalso; first | omega | (have hx1 := end_t hDI (by omega) hdd; omega) | exact hdd (rd_ssn (by omega)) | (rcases (hDI.2.2.2.2 _ (by omega)).1 hdd with hx1 | hx1; omega; cases hx1)
    refine OA.p (some 45) (.bool false) rfl rfl rfl (Eq.trans (r_loadF (c := cBo) dBo rfl rfl rfl rfl rfl (gt2 (by omega) get_here) (by rw [hcm]; omega) rfl) (bF hc12)) ?_
    refine OA.nil ?_
    intro _
    refine RA.condF rfl ?_
    refine RA.exit env_ok ?_
    intro _
    refine RA.seq hd ?_
    refine RA.region env_ok ?_
    refine OA.p (some 62) (Pt s 0 0) rfl rfl rfl rfl ?_
    refine OA.call (dst := (some 63)) (all := [(Pt s 0 0)]) rfl rfl rfl rfl rfl rfl rfl rfl (CQ.imp (dReadA (hd.of (by omega) (kb4 (by omega))) s jn 1 (.slice (some ⟨jw, 0, none⟩) K 0) rfl get_here) ?_)
    rintro _ n21 _ ⟨rfl, rfl⟩ hn21
    refine OA.app0 ?_
    refine OA.p (some 61) (.tuple ⟨[(.agg ⟨(cMsg dMsg)⟩), (.bool false)]⟩) rfl rfl rfl rfl ?_
    refine OA.p (some 64) (.agg ⟨(cMsg dMsg)⟩) rfl rfl rfl rfl ?_
    refine OA.p (some 65) (.bool false) rfl rfl rfl rfl ?_
    refine OA.op1 (dst := (some 10)) (v := (Pt n21 0 0)) (n1 := (n21 + 1)) (w := (n21, some ⟨[[(.int .i64 0), (.int .i64 0), (.bool false), (.int .u32 0), (.string ByteArray.empty)]], 5, 29, true⟩)) rfl rfl rfl rfl (by omega) ?_
    refine OA.op1 (dst := none) (v := (.tuple #[])) (n1 := (n21 + 1)) (w := (n21, some ⟨[(cMsg dMsg)], 5, 29, true⟩)) rfl rfl rfl (r_store rfl rfl rfl rfl rfl rfl rfl get_here rfl rfl (Nat.le_of_ble_eq_true rfl) rfl) (by omega) ?_
    refine OA.p (some 11) (.bool false) rfl rfl rfl rfl ?_
    refine OA.nil ?_
    intro _
    refine RA.seq hd ?_
    refine RA.region env_ok ?_
    refine OA.callP (dst := (some 66)) (all := []) (v := (.bool true)) (hd.of (by omega) (kb6 (by omega))) rfl rfl rfl rfl rfl rfl rfl rfl awakeD ?_
    intro n22 hn22
    refine OA.p (some 67) (.bool true) rfl rfl rfl rfl ?_
    refine OA.p (some 68) (.bool false) rfl rfl rfl rfl ?_
    refine OA.p (some 69) (.bool true) rfl rfl rfl rfl ?_
    refine OA.p (some 70) (.bool true) rfl rfl rfl rfl ?_
    refine OA.p (some 2) (.bool true) rfl rfl rfl rfl ?_
    refine OA.nil ?_
    intro _
    refine RA.rebase [(0, v), (2, (.bool true)), (3, (Pt s 0 0)), (4, (.slice (some ⟨jc, 0, none⟩) 70 0)), (5, (.int .i64 ((i : Nat) : Int))), (7, (.int .i64 0)), (11, (.bool false)), (21, (.bool false)), (45, (.bool false))] ⟨rfl, rfl, rfl, rfl, rfl, rfl, rfl, rfl, rfl, trivial⟩ (fun τr23 => ?_)
    refine RA.ret env_ok ?_
    refine ⟨.inr rfl, [(.bool true)], (resL_cons rfl resL_nil), [], (Less.of (fun p hp => by simp at hp) (gone_of (by simp only [goneP, memP, List.cons_append, List.nil_append, true_or, or_true, true_and, and_true, or_false] <;> omega))), rfl⟩
  ·
   refine OA.p (some 17) (.bool false) rfl rfl rfl (Eq.trans (r_bin rfl rfl rfl (b_lss rfl)) (dF hc7)) ?_
   refine OA.p (some 18) (.bool false) rfl rfl rfl rfl ?_
   refine OA.off (dst := (some 19)) rfl rfl rfl ?_
   refine OA.off (dst := (some 20)) rfl rfl rfl ?_
   refine OA.p (some 21) (.bool false) rfl rfl rfl rfl ?_
   refine OA.nil ?_
   intro _
   refine RA.condF rfl ?_
   refine RA.exit env_ok ?_
   intro _
   refine RA.seq hd ?_
   refine RA.seq hd ?_
   refine RA.region env_ok ?_
   refine OA.p (some 7) (.int .i64 0) rfl rfl rfl rfl ?_
   refine OA.nil ?_
   intro _
   refine RA.block ?_
   refine RA.unroll hd ?_
   refine RA.seq hd ?_
   refine RA.seq hd ?_
   refine RA.region env_ok ?_
   refine OA.p (some 42) (.slice (some ⟨jc, 0, none⟩) 70 0) rfl rfl rfl rfl ?_
   refine OA.p (some 43) (.int .i64 0) rfl rfl rfl rfl ?_
   refine OA.p (some 44) (Pt jc 0 0) rfl rfl rfl (r_iaS (l := 0) rfl rfl rfl rfl rfl rfl (by omega) (by omega) (gt2 (by omega) get_here) rfl (by omega)) ?_
   have hc13 : ¬ ((cm.getD 0 dBo).z = true) := fun hdd => by exfalso; first | omega | (have hx1 := end_t hDI (by omega) hdd; omega) | exact hdd (rd_ssn (by omega)) | (rcases (hDI.2.2.2.2 _ (by omega)).1 hdd with hx1 | hx1; omega; cases hx1)
   refine OA.p (some 45) (.bool false) rfl rfl rfl (Eq.trans (r_loadF (c := cBo) dBo rfl rfl rfl rfl rfl (gt2 (by omega) get_here) (by rw [hcm]; omega) rfl) (bF hc13)) ?_
   refine OA.nil ?_
   intro _
   refine RA.condF rfl ?_
   refine RA.exit env_ok ?_
   intro _
   refine RA.seq hd ?_
   refine RA.region env_ok ?_
   refine OA.p (some 62) (Pt s 0 0) rfl rfl rfl rfl ?_
   refine OA.call (dst := (some 63)) (all := [(Pt s 0 0)]) rfl rfl rfl rfl rfl rfl rfl rfl (CQ.imp (dReadA (hd.of (by omega) (kb4 (by omega))) s jn 1 (.slice (some ⟨jw, 0, none⟩) K 0) rfl get_here) ?_)
   rintro _ n24 _ ⟨rfl, rfl⟩ hn24
   refine OA.app0 ?_
   refine OA.p (some 61) (.tuple ⟨[(.agg ⟨(cMsg dMsg)⟩), (.bool false)]⟩) rfl rfl rfl rfl ?_
   refine OA.p (some 64) (.agg ⟨(cMsg dMsg)⟩) rfl rfl rfl rfl ?_
   refine OA.p (some 65) (.bool false) rfl rfl rfl rfl ?_
   refine OA.op1 (dst := (some 10)) (v := (Pt n24 0 0)) (n1 := (n24 + 1)) (w := (n24, some ⟨[[(.int .i64 0), (.int .i64 0), (.bool false), (.int .u32 0), (.string ByteArray.empty)]], 5, 29, true⟩)) rfl rfl rfl rfl (by omega) ?_
   refine OA.op1 (dst := none) (v := (.tuple #[])) (n1 := (n24 + 1)) (w := (n24, some ⟨[(cMsg dMsg)], 5, 29, true⟩)) rfl rfl rfl (r_store rfl rfl rfl rfl rfl rfl rfl get_here rfl rfl (Nat.le_of_ble_eq_true rfl) rfl) (by omega) ?_
   refine OA.p (some 11) (.bool false) rfl rfl rfl rfl ?_
   refine OA.nil ?_
   intro _
   refine RA.seq hd ?_
   refine RA.region env_ok ?_
   refine OA.callP (dst := (some 66)) (all := []) (v := (.bool true)) (hd.of (by omega) (kb6 (by omega))) rfl rfl rfl rfl rfl rfl rfl rfl awakeD ?_
   intro n25 hn25
   refine OA.p (some 67) (.bool true) rfl rfl rfl rfl ?_
   refine OA.p (some 68) (.bool false) rfl rfl rfl rfl ?_
   refine OA.p (some 69) (.bool true) rfl rfl rfl rfl ?_
   refine OA.p (some 70) (.bool true) rfl rfl rfl rfl ?_
   refine OA.p (some 2) (.bool true) rfl rfl rfl rfl ?_
   refine OA.nil ?_
   intro _
   refine RA.rebase [(0, v), (2, (.bool true)), (3, (Pt s 0 0)), (4, (.slice (some ⟨jc, 0, none⟩) 70 0)), (5, (.int .i64 ((i : Nat) : Int))), (7, (.int .i64 0)), (11, (.bool false)), (21, (.bool false)), (45, (.bool false))] ⟨rfl, rfl, rfl, rfl, rfl, rfl, rfl, rfl, rfl, trivial⟩ (fun τr26 => ?_)
   refine RA.ret env_ok ?_
   refine ⟨.inr rfl, [(.bool true)], (resL_cons rfl resL_nil), [], (Less.of (fun p hp => by simp at hp) (gone_of (by simp only [goneP, memP, List.cons_append, List.nil_append, true_or, or_true, true_and, and_true, or_false] <;> omega))), rfl⟩
 ·
  rw [Has.eq hHn2]
  have hKn2_0 : s < n2 := hKn2 _ (by simp only [keys, List.map_cons, List.map_nil, List.mem_cons, true_or, or_true])
  have hKn2_1 : jn < n2 := hKn2 _ (by simp only [keys, List.map_cons, List.map_nil, List.mem_cons, true_or, or_true])
  have hKn2_2 : jc < n2 := hKn2 _ (by simp only [keys, List.map_cons, List.map_nil, List.mem_cons, true_or, or_true])
  have hKn2_3 : jw < n2 := hKn2 _ (by simp only [keys, List.map_cons, List.map_nil, List.mem_cons, true_or, or_true])
  have hKn2_4 : jo < n2 := hKn2 _ (by simp only [keys, List.map_cons, List.map_nil, List.mem_cons, true_or, or_true])
  clear hKn2
  obtain ⟨hi1, hi2, hc1_, hc2_, hc3_, hws, hKi, ⟨hw1, hw2, hw3, hw4⟩, ho1, ho2, ⟨ho3, ho4⟩, ho5, hDI⟩ := hIn2
  obtain ⟨hk64, hform, hnot, hcm, hcI⟩ := id hDI
  refine RA.seq hd ?_
  refine RA.seq hd ?_
  refine RA.region env_ok ?_
  refine OA.p (some 14) (.int .i64 ((i : Nat) : Int)) rfl rfl rfl rfl ?_
  refine OA.p (some 15) v rfl rfl rfl rfl ?_
  refine OA.p (some 16) (.int .i64 ((l.length : Nat) : Int)) rfl rfl rfl (r_lenP (c := cBy) rfl rfl rfl rfl rfl rfl hv rfl) ?_
  by_cases hc14 : ((i : Nat) : Int) < ((l.length : Nat) : Int)
  ·
   obtain ⟨rest, hat⟩ := hv.get (m := i) (by omega)
   have lathat := hd.lt hat
   refine OA.p (some 17) (.bool true) rfl rfl rfl (Eq.trans (r_bin rfl rfl rfl (b_lss rfl)) (dT hc14)) ?_
   refine OA.p (some 18) (.bool true) rfl rfl rfl rfl ?_
   refine OA.p (some 19) (.int .i64 ((i : Nat) : Int)) rfl rfl rfl rfl ?_
   by_cases hc15 : ((i : Nat) : Int) < 200
   ·
    refine OA.p (some 20) (.bool true) rfl rfl rfl (Eq.trans (r_bin rfl rfl rfl (b_lss rfl)) (dT hc15)) ?_
    refine OA.p (some 21) (.bool true) rfl rfl rfl rfl ?_
    refine OA.nil ?_
    intro _
    refine RA.condT rfl ?_
    refine RA.skip env_ok ?_
    intro _
    refine RA.seq hd ?_
    refine RA.block ?_
    refine RA.seq hd ?_
    refine RA.region env_ok ?_
    refine OA.p (some 24) v rfl rfl rfl rfl ?_
    refine OA.p (some 25) (.int .i64 ((i : Nat) : Int)) rfl rfl rfl rfl ?_
    refine OA.p (some 26) (.pointer (some ⟨(rk v), i, some 0⟩)) rfl rfl rfl (r_iaP (c := cBy) (m := i) rfl rfl rfl rfl rfl rfl hv rfl (by omega) (gt5 (by omega) hat) rfl) ?_
    refine OA.p (some 27) (.int .u8 (((l.getD i dBy).z : Nat) : Int)) rfl rfl rfl (r_load1 (e := cBy (l.getD i dBy)) rfl rfl rfl rfl rfl (gt5 (by omega) hat) (mp_getA (by omega)) rfl) ?_
    refine OA.p (some 28) (.int .i64 (((l.getD i dBy).z : Nat) : Int)) rfl rfl rfl (r_cvt rfl rfl rfl rfl rfl ⟨_, rfl⟩ (i64_eq (by have := (hby _ (getD_mem (l := l) (d := dBy) (i := i) (by omega))); omega))) ?_
    refine OA.p (some 29) (.int .i64 ((((l.getD i dBy).z % 64) : Nat) : Int)) rfl rfl rfl (r_bin rfl rfl rfl (b_remN (a := (l.getD i dBy).z) (c := 64) (by decide))) ?_
    refine OA.p (some 6) (.int .i64 ((((l.getD i dBy).z % 64) : Nat) : Int)) rfl rfl rfl rfl ?_
    refine OA.nil ?_
    intro _
    refine RA.seq hd ?_
    refine RA.seq hd ?_
    refine RA.par (md := [some [], some [], some [], none, some [], some [], some [jc], some [jc], some []]) env_ok (hd.of (by omega) (kb5 (by omega))) (by kernel_rfl) ?_
    refine PQ.pure (dst := (some 30)) (v := (Pt s 0 0)) rfl rfl rfl noStore (none_ok _ _) rfl ?_
    refine PQ.pure (dst := (some 31)) (v := (.int .i64 ((((l.getD i dBy).z % 64) : Nat) : Int))) rfl rfl rfl noStore (none_ok _ _) rfl ?_
    refine PQ.pure (dst := (some 32)) (v := (.agg ⟨(xDl42 l i)⟩)) rfl rfl rfl noStore (none_ok _ _) (by kernel_rfl) ?_
    by_cases hc16 : (cm.getD ((l.getD i dBy).z % 64) dBo).z = true
    ·
     have hn64 : ((l.getD i dBy).z % 64) < 64 := by omega
     by_cases hc17 : less16 (u16N (((((l.getD i dBy).z % 64)) : Nat) : Int)) ([Ux.mk k].getD 0 dUx).z
     ·
      refine PQ.call (dst := (some 33)) (all := (xDl41 s l i)) rfl rfl rfl rfl rfl rfl rfl rfl _ (seen_any (V := []) (D := [(s, some ⟨[(xDl45 jn jw K jo k)], 3, 101, true⟩), (jn, some (oUx [Ux.mk k])), (jc, some (oBo cm)), (jw, some (oMsg ws)), (jo, some (oMsg ((List.range k).map mM)))]) (by kernel_rfl)) (CQ.imp (CQ.keys (dPutRRa (hd.of (by omega) (kb5 (by omega))) s jn 0 1 [Ux.mk k] rfl (by decide) (.slice (some ⟨jo, 0, none⟩) k 0) rfl jw K ws hws (by omega) (by omega) (by omega) (((((l.getD i dBy).z % 64)) : Nat) : Int) 0#32 ByteArray.empty hc17 get_here (get_there (by omega) get_here) (gt3 (by omega) get_here))) ?_)
      rintro _ n27 _ ⟨hkn27, ⟨rfl, rfl⟩⟩
      have hn27 := hkn27.1
      refine ⟨hn27, (fun x hx => by simp [keys] at hx), ?_⟩
      refine PQ.pure (dst := (some 34)) (v := (.slice (some ⟨jc, 0, none⟩) 70 0)) rfl rfl rfl noStore (none_ok _ _) rfl ?_
      refine PQ.pure (dst := (some 35)) (v := (.int .i64 ((((l.getD i dBy).z % 64) : Nat) : Int))) rfl rfl rfl noStore (none_ok _ _) rfl ?_
      refine PQ.pure (dst := (some 36)) (v := (.pointer (some ⟨jc, ((l.getD i dBy).z % 64), some 0⟩))) rfl rfl rfl (app [(jc, some (oBo cm))] noStore) (seen_one (V := []) (D := [(s, some ⟨[(xDl45 jn jw K jo k)], 3, 101, true⟩), (jn, some (oUx [Ux.mk k])), (jc, some (oBo cm)), (jw, some (oMsg ws)), (jo, some (oMsg ((List.range k).map mM)))]) (by kernel_rfl) (gt2 (by omega) get_here)) (r_iaS (l := ((l.getD i dBy).z % 64)) rfl rfl rfl rfl rfl rfl (by omega) (by omega) get_here rfl (by omega)) ?_
      refine PQ.pure (dst := (some 37)) (v := (.bool true)) rfl rfl rfl (app [(jc, some (oBo cm))] noStore) (seen_one (V := []) (D := [(s, some ⟨[(xDl45 jn jw K jo k)], 3, 101, true⟩), (jn, some (oUx [Ux.mk k])), (jc, some (oBo cm)), (jw, some (oMsg ws)), (jo, some (oMsg ((List.range k).map mM)))]) (by kernel_rfl) (gt2 (by omega) get_here)) (Eq.trans (r_loadF (c := cBo) dBo rfl rfl rfl rfl rfl get_here (by rw [hcm]; omega) rfl) (bT hc16)) ?_
      refine PQ.pure (dst := (some 38)) (v := (.bool false)) rfl rfl rfl noStore (none_ok _ _) rfl ?_
      refine PQ.done (d := []) (by kernel_rfl) ?_
      intro _
      refine RA.condF rfl ?_
      refine RA.skip env_ok ?_
      intro _
      refine RA.region env_ok ?_
      refine OA.p (some 39) (.slice (some ⟨jc, 0, none⟩) 70 0) rfl rfl rfl rfl ?_
      refine OA.p (some 40) (.int .i64 ((((l.getD i dBy).z % 64) : Nat) : Int)) rfl rfl rfl rfl ?_
      refine OA.p (some 41) (.pointer (some ⟨jc, ((l.getD i dBy).z % 64), some 0⟩)) rfl rfl rfl (r_iaS (l := ((l.getD i dBy).z % 64)) rfl rfl rfl rfl rfl rfl (by omega) (by omega) (gt2 (by omega) get_here) rfl (by omega)) ?_
      refine OA.op1 (dst := none) (v := (.tuple #[])) (n1 := n27) (w := (jc, some (oBo (cm.set ((l.getD i dBy).z % 64) (Bo.mk true))))) rfl rfl rfl (r_storeR (c := cBo) dBo (Bo.mk true) rfl rfl rfl rfl rfl rfl rfl (gt2 (by omega) get_here) (by rw [hcm]; omega) (Nat.le_of_ble_eq_true rfl) rfl) (by omega) ?_
      refine OA.nil ?_
      intro _
      refine RA.rebase [(0, v), (3, (Pt s 0 0)), (4, (.slice (some ⟨jc, 0, none⟩) 70 0)), (5, (.int .i64 ((i : Nat) : Int))), (6, (.int .i64 ((((l.getD i dBy).z % 64) : Nat) : Int))), (21, (.bool true)), (38, (.bool false))] ⟨rfl, rfl, rfl, rfl, rfl, rfl, rfl, trivial⟩ (fun τr28 => ?_)
      refine RA.region env_ok ?_
      refine OA.p (some 22) (.int .i64 ((i : Nat) : Int)) rfl rfl rfl rfl ?_
      refine OA.p (some 23) (.int .i64 (((i + 1) : Nat) : Int)) rfl rfl rfl (r_bin rfl rfl rfl (b_add (i64_eq (by omega)))) ?_
      refine OA.p (some 5) (.int .i64 (((i + 1) : Nat) : Int)) rfl rfl rfl rfl ?_
      refine OA.nil ?_
      refine ⟨(200 - (i + 1)), by omega, [(s, some ⟨[(xDl45 jn jw K jo k)], 3, 101, true⟩), (jn, some (oUx [Ux.mk k])), (jc, some (oBo (cm.set ((l.getD i dBy).z % 64) (Bo.mk true)))), (jw, some (oMsg ws)), (jo, some (oMsg ((List.range k).map mM)))], (Less.of (fac (mm (fun _ => get_here) (fun _ => (get_there (by omega) get_here))) (fac (mm (fun _ => (get_there (by omega) get_here)) (fun _ => (gt2 (by omega) get_here))) (fac (mm (fun _ => (gt2 (by omega) get_here)) (fun _ => get_here)) (fac (mm (fun _ => (gt3 (by omega) get_here)) (fun _ => (gt4 (by omega) get_here))) (fac (mm (fun _ => (gt4 (by omega) get_here)) (fun _ => (gt5 (by omega) get_here))) fan))))) (gone_of (by simp only [goneP, memP, List.cons_append, List.nil_append, true_or, or_true, true_and, and_true, or_false] <;> omega))), .inr (.inr (⟨(i + 1), jc, (cm.set ((l.getD i dBy).z % 64) (Bo.mk true)), jw, K, ws, jo, k, rfl, by omega, ⟨rfl, rfl, rfl, rfl, trivial⟩, rfl, (kb5 (by omega)), ⟨by omega, by omega, by omega, by omega, by omega, hws, by omega, by omega, by omega, by omega, by omega, by omega, DI_rej hDI hn64 hc16⟩⟩))⟩
     ·
      have hra := rej_any hDI hn64 hc16 hc17
      refine PQ.call (dst := (some 33)) (all := (xDl41 s l i)) rfl rfl rfl rfl rfl rfl rfl rfl _ (seen_any (V := []) (D := [(s, some ⟨[(xDl45 jn jw K jo k)], 3, 101, true⟩), (jn, some (oUx [Ux.mk k])), (jc, some (oBo cm)), (jw, some (oMsg ws)), (jo, some (oMsg ((List.range k).map mM)))]) (by kernel_rfl)) (CQ.imp (CQ.keys (dPutRRb (hd.of (by omega) (kb5 (by omega))) s jn 0 1 [Ux.mk k] rfl (by decide) (.slice (some ⟨jo, 0, none⟩) k 0) rfl jw K ws hws (by omega) (by omega) (by omega) (((((l.getD i dBy).z % 64)) : Nat) : Int) 0#32 ByteArray.empty hc17 hra get_here (get_there (by omega) get_here) (gt3 (by omega) get_here))) ?_)
      rintro _ n29 _ ⟨hkn29, ⟨rfl, rfl⟩⟩
      have hn29 := hkn29.1
      refine ⟨hn29, (fun x hx => by simp [keys] at hx), ?_⟩
      refine PQ.pure (dst := (some 34)) (v := (.slice (some ⟨jc, 0, none⟩) 70 0)) rfl rfl rfl noStore (none_ok _ _) rfl ?_
      refine PQ.pure (dst := (some 35)) (v := (.int .i64 ((((l.getD i dBy).z % 64) : Nat) : Int))) rfl rfl rfl noStore (none_ok _ _) rfl ?_
      refine PQ.pure (dst := (some 36)) (v := (.pointer (some ⟨jc, ((l.getD i dBy).z % 64), some 0⟩))) rfl rfl rfl (app [(jc, some (oBo cm))] noStore) (seen_one (V := []) (D := [(s, some ⟨[(xDl45 jn jw K jo k)], 3, 101, true⟩), (jn, some (oUx [Ux.mk k])), (jc, some (oBo cm)), (jw, some (oMsg ws)), (jo, some (oMsg ((List.range k).map mM)))]) (by kernel_rfl) (gt2 (by omega) get_here)) (r_iaS (l := ((l.getD i dBy).z % 64)) rfl rfl rfl rfl rfl rfl (by omega) (by omega) get_here rfl (by omega)) ?_
      refine PQ.pure (dst := (some 37)) (v := (.bool true)) rfl rfl rfl (app [(jc, some (oBo cm))] noStore) (seen_one (V := []) (D := [(s, some ⟨[(xDl45 jn jw K jo k)], 3, 101, true⟩), (jn, some (oUx [Ux.mk k])), (jc, some (oBo cm)), (jw, some (oMsg ws)), (jo, some (oMsg ((List.range k).map mM)))]) (by kernel_rfl) (gt2 (by omega) get_here)) (Eq.trans (r_loadF (c := cBo) dBo rfl rfl rfl rfl rfl get_here (by rw [hcm]; omega) rfl) (bT hc16)) ?_
      refine PQ.pure (dst := (some 38)) (v := (.bool false)) rfl rfl rfl noStore (none_ok _ _) rfl ?_
      refine PQ.done (d := []) (by kernel_rfl) ?_
      intro _
      refine RA.condF rfl ?_
      refine RA.skip env_ok ?_
      intro _
      refine RA.region env_ok ?_
      refine OA.p (some 39) (.slice (some ⟨jc, 0, none⟩) 70 0) rfl rfl rfl rfl ?_
      refine OA.p (some 40) (.int .i64 ((((l.getD i dBy).z % 64) : Nat) : Int)) rfl rfl rfl rfl ?_
      refine OA.p (some 41) (.pointer (some ⟨jc, ((l.getD i dBy).z % 64), some 0⟩)) rfl rfl rfl (r_iaS (l := ((l.getD i dBy).z % 64)) rfl rfl rfl rfl rfl rfl (by omega) (by omega) (gt2 (by omega) get_here) rfl (by omega)) ?_
      refine OA.op1 (dst := none) (v := (.tuple #[])) (n1 := n29) (w := (jc, some (oBo (cm.set ((l.getD i dBy).z % 64) (Bo.mk true))))) rfl rfl rfl (r_storeR (c := cBo) dBo (Bo.mk true) rfl rfl rfl rfl rfl rfl rfl (gt2 (by omega) get_here) (by rw [hcm]; omega) (Nat.le_of_ble_eq_true rfl) rfl) (by omega) ?_
      refine OA.nil ?_
      intro _
      refine RA.rebase [(0, v), (3, (Pt s 0 0)), (4, (.slice (some ⟨jc, 0, none⟩) 70 0)), (5, (.int .i64 ((i : Nat) : Int))), (6, (.int .i64 ((((l.getD i dBy).z % 64) : Nat) : Int))), (21, (.bool true)), (38, (.bool false))] ⟨rfl, rfl, rfl, rfl, rfl, rfl, rfl, trivial⟩ (fun τr30 => ?_)
      refine RA.region env_ok ?_
      refine OA.p (some 22) (.int .i64 ((i : Nat) : Int)) rfl rfl rfl rfl ?_
      refine OA.p (some 23) (.int .i64 (((i + 1) : Nat) : Int)) rfl rfl rfl (r_bin rfl rfl rfl (b_add (i64_eq (by omega)))) ?_
      refine OA.p (some 5) (.int .i64 (((i + 1) : Nat) : Int)) rfl rfl rfl rfl ?_
      refine OA.nil ?_
      refine ⟨(200 - (i + 1)), by omega, [(s, some ⟨[(xDl45 jn jw K jo k)], 3, 101, true⟩), (jn, some (oUx [Ux.mk k])), (jc, some (oBo (cm.set ((l.getD i dBy).z % 64) (Bo.mk true)))), (jw, some (oMsg ws)), (jo, some (oMsg ((List.range k).map mM)))], (Less.of (fac (mm (fun _ => get_here) (fun _ => (get_there (by omega) get_here))) (fac (mm (fun _ => (get_there (by omega) get_here)) (fun _ => (gt2 (by omega) get_here))) (fac (mm (fun _ => (gt2 (by omega) get_here)) (fun _ => get_here)) (fac (mm (fun _ => (gt3 (by omega) get_here)) (fun _ => (gt4 (by omega) get_here))) (fac (mm (fun _ => (gt4 (by omega) get_here)) (fun _ => (gt5 (by omega) get_here))) fan))))) (gone_of (by simp only [goneP, memP, List.cons_append, List.nil_append, true_or, or_true, true_and, and_true, or_false] <;> omega))), .inr (.inr (⟨(i + 1), jc, (cm.set ((l.getD i dBy).z % 64) (Bo.mk true)), jw, K, ws, jo, k, rfl, by omega, ⟨rfl, rfl, rfl, rfl, trivial⟩, rfl, (kb5 (by omega)), ⟨by omega, by omega, by omega, by omega, by omega, hws, by omega, by omega, by omega, by omega, by omega, by omega, DI_rej hDI hn64 hc16⟩⟩))⟩
    ·
     have hn64 : ((l.getD i dBy).z % 64) < 64 := by omega
     have hal := acc_l hDI hn64 hc16
     have hac := acc_c hDI hn64 hc16
     by_cases hc18 : (ws ++ [(xDl46 l i)]).findIdx (qq ((0 : Nat) : Int) ([Ux.mk k].getD 0 dUx).z) < (ws ++ [(xDl46 l i)]).length
     ·
      obtain ⟨R, hR⟩ : ∃ R, (goS ((0 : Nat) : Int) (K + 1) ([Ux.mk k].getD 0 dUx).z (ws ++ [(xDl46 l i)]) (((List.range k).map mM).drop 0)) = R := ⟨_, rfl⟩
      refine PQ.call (dst := (some 33)) (all := (xDl41 s l i)) rfl rfl rfl rfl rfl rfl rfl rfl _ (seen_any (V := []) (D := [(s, some ⟨[(xDl45 jn jw K jo k)], 3, 101, true⟩), (jn, some (oUx [Ux.mk k])), (jc, some (oBo cm)), (jw, some (oMsg ws)), (jo, some (oMsg ((List.range k).map mM)))]) (by kernel_rfl)) (CQ.imp (CQ.keys (dPutRBM (hd.of (by omega) (kb5 (by omega))) s jn 0 1 [Ux.mk k] rfl (by decide) (by omega) jw K ws hws (by omega) (by omega) (by omega) jo 0 k ((List.range k).map mM) (by rw [List.length_map, List.length_range]; omega) (by omega) (by omega) (by omega) (by omega) (((((l.getD i dBy).z % 64)) : Nat) : Int) 0#32 ByteArray.empty hal hac R hR hc18 get_here (get_there (by omega) get_here) (gt3 (by omega) get_here) (gt4 (by omega) get_here))) ?_)
      rintro _ n31 _ ⟨hkn31, ⟨jw2, jo2, M2, L3, hp1, hp2, hp3, hp4, hp5, hL3, hp6, hL5, rfl, rfl⟩⟩
      have hn31 := hkn31.1
      refine ⟨hn31, (kp6 (by first | exact wr_new (by omega) (by omega) | exact wr_old [4, 5, 6, 7] (by kernel_rfl) (by omega) (by omega) (fac (lo0 rfl) (fac (lo0 rfl) (fac (lo1 rfl (by omega)) (fac (lo1 rfl (by omega)) fan))))) (by first | exact wr_new (by omega) (by omega) | exact wr_old [4, 5, 6, 7] (by kernel_rfl) (by omega) (by omega) (fac (lo0 rfl) (fac (lo0 rfl) (fac (lo1 rfl (by omega)) (fac (lo1 rfl (by omega)) fan))))) (by first | exact wr_new (by omega) (by omega) | exact wr_old [4, 5, 6, 7] (by kernel_rfl) (by omega) (by omega) (fac (lo0 rfl) (fac (lo0 rfl) (fac (lo1 rfl (by omega)) (fac (lo1 rfl (by omega)) fan))))) (by first | exact wr_new (by omega) (by omega) | exact wr_old [4, 5, 6, 7] (by kernel_rfl) (by omega) (by omega) (fac (lo0 rfl) (fac (lo0 rfl) (fac (lo1 rfl (by omega)) (fac (lo1 rfl (by omega)) fan))))) (by first | exact wr_new (by omega) (by omega) | exact wr_old [4, 5, 6, 7] (by kernel_rfl) (by omega) (by omega) (fac (lo0 rfl) (fac (lo0 rfl) (fac (lo1 rfl (by omega)) (fac (lo1 rfl (by omega)) fan))))) (by first | exact wr_new (by omega) (by omega) | exact wr_old [4, 5, 6, 7] (by kernel_rfl) (by omega) (by omega) (fac (lo0 rfl) (fac (lo0 rfl) (fac (lo1 rfl (by omega)) (fac (lo1 rfl (by omega)) fan)))))), ?_⟩
      refine PQ.pure (dst := (some 34)) (v := (.slice (some ⟨jc, 0, none⟩) 70 0)) rfl rfl rfl noStore (none_ok _ _) rfl ?_
      refine PQ.pure (dst := (some 35)) (v := (.int .i64 ((((l.getD i dBy).z % 64) : Nat) : Int))) rfl rfl rfl noStore (none_ok _ _) rfl ?_
      refine PQ.pure (dst := (some 36)) (v := (.pointer (some ⟨jc, ((l.getD i dBy).z % 64), some 0⟩))) rfl rfl rfl (app [(jc, some (oBo cm))] noStore) (seen_one (V := []) (D := [(s, some ⟨[(xDl45 jn jw K jo k)], 3, 101, true⟩), (jn, some (oUx [Ux.mk k])), (jc, some (oBo cm)), (jw, some (oMsg ws)), (jo, some (oMsg ((List.range k).map mM)))]) (by kernel_rfl) (gt2 (by omega) get_here)) (r_iaS (l := ((l.getD i dBy).z % 64)) rfl rfl rfl rfl rfl rfl (by omega) (by omega) get_here rfl (by omega)) ?_
      refine PQ.pure (dst := (some 37)) (v := (.bool false)) rfl rfl rfl (app [(jc, some (oBo cm))] noStore) (seen_one (V := []) (D := [(s, some ⟨[(xDl45 jn jw K jo k)], 3, 101, true⟩), (jn, some (oUx [Ux.mk k])), (jc, some (oBo cm)), (jw, some (oMsg ws)), (jo, some (oMsg ((List.range k).map mM)))]) (by kernel_rfl) (gt2 (by omega) get_here)) (Eq.trans (r_loadF (c := cBo) dBo rfl rfl rfl rfl rfl get_here (by rw [hcm]; omega) rfl) (bF hc16)) ?_
      refine PQ.pure (dst := (some 38)) (v := (.bool false)) rfl rfl rfl noStore (none_ok _ _) rfl ?_
      refine PQ.done (d := [(s, some ⟨[(xDl44 jn jw2 R jo2 M2)], 3, 101, true⟩), (jn, some (oUx ([Ux.mk k].set 0 (Ux.mk R.1)))), (jw2, some (oMsg R.2.1)), (jo2, some (oMsg L3)), (jw, none), (jo, none)]) (by kernel_rfl) ?_
      intro _
      refine RA.condF rfl ?_
      refine RA.skip env_ok ?_
      intro _
      refine RA.region env_ok ?_
      refine OA.p (some 39) (.slice (some ⟨jc, 0, none⟩) 70 0) rfl rfl rfl rfl ?_
      refine OA.p (some 40) (.int .i64 ((((l.getD i dBy).z % 64) : Nat) : Int)) rfl rfl rfl rfl ?_
      refine OA.p (some 41) (.pointer (some ⟨jc, ((l.getD i dBy).z % 64), some 0⟩)) rfl rfl rfl (r_iaS (l := ((l.getD i dBy).z % 64)) rfl rfl rfl rfl rfl rfl (by omega) (by omega) (gt8 (by omega) get_here) rfl (by omega)) ?_
      refine OA.op1 (dst := none) (v := (.tuple #[])) (n1 := n31) (w := (jc, some (oBo (cm.set ((l.getD i dBy).z % 64) (Bo.mk true))))) rfl rfl rfl (r_storeR (c := cBo) dBo (Bo.mk true) rfl rfl rfl rfl rfl rfl rfl (gt8 (by omega) get_here) (by rw [hcm]; omega) (Nat.le_of_ble_eq_true rfl) rfl) (by omega) ?_
      refine OA.nil ?_
      intro _
      refine RA.rebase [(0, v), (3, (Pt s 0 0)), (4, (.slice (some ⟨jc, 0, none⟩) 70 0)), (5, (.int .i64 ((i : Nat) : Int))), (6, (.int .i64 ((((l.getD i dBy).z % 64) : Nat) : Int))), (21, (.bool true)), (38, (.bool false))] ⟨rfl, rfl, rfl, rfl, rfl, rfl, rfl, trivial⟩ (fun τr32 => ?_)
      refine RA.region env_ok ?_
      refine OA.p (some 22) (.int .i64 ((i : Nat) : Int)) rfl rfl rfl rfl ?_
      refine OA.p (some 23) (.int .i64 (((i + 1) : Nat) : Int)) rfl rfl rfl (r_bin rfl rfl rfl (b_add (i64_eq (by omega)))) ?_
      refine OA.p (some 5) (.int .i64 (((i + 1) : Nat) : Int)) rfl rfl rfl rfl ?_
      refine OA.nil ?_
      refine ⟨(200 - (i + 1)), by omega, [(s, some ⟨[(xDl44 jn jw2 R jo2 M2)], 3, 101, true⟩), (jn, some (oUx ([Ux.mk k].set 0 (Ux.mk R.1)))), (jc, some (oBo (cm.set ((l.getD i dBy).z % 64) (Bo.mk true)))), (jw2, some (oMsg R.2.1)), (jo2, some (oMsg L3))], (Less.of (fac (mm (fun _ => get_here) (fun _ => (get_there (by omega) get_here))) (fac (mm (fun _ => (get_there (by omega) get_here)) (fun _ => (gt2 (by omega) get_here))) (fac (mm (fun _ => (gt2 (by omega) get_here)) (fun _ => get_here)) (fac (mm (fun _ => (gt3 (by omega) get_here)) (fun _ => (gt3 (by omega) get_here))) (fac (mm (fun _ => (gt4 (by omega) get_here)) (fun _ => (gt4 (by omega) get_here))) fan))))) (gone_of (by simp only [goneP, memP, List.cons_append, List.nil_append, true_or, or_true, true_and, and_true, or_false] <;> omega))), .inr (.inr (⟨(i + 1), jc, (cm.set ((l.getD i dBy).z % 64) (Bo.mk true)), jw2, R.2.1.length, R.2.1, jo2, R.1, rfl, by omega, ⟨rfl, rfl, rfl, rfl, trivial⟩, (by rw [hL5, (acc_R hDI hn64 (by simp [hws]) hR).2.1, show M2 = R.1 from by rw [← hL3, hL5, (acc_R hDI hn64 (by simp [hws]) hR).2.1, List.length_map, List.length_range]]; rfl), (kb5 (by omega)), ⟨by omega, by omega, by omega, by omega, by omega, rfl, by have hh := (acc_R hDI hn64 (by simp [hws]) hR).2.2; omega, by omega, by omega, by omega, by omega, by omega, (acc_R hDI hn64 (by simp[hws]) hR).1⟩⟩))⟩
     ·
      refine PQ.call (dst := (some 33)) (all := (xDl41 s l i)) rfl rfl rfl rfl rfl rfl rfl rfl _ (seen_any (V := []) (D := [(s, some ⟨[(xDl45 jn jw K jo k)], 3, 101, true⟩), (jn, some (oUx [Ux.mk k])), (jc, some (oBo cm)), (jw, some (oMsg ws)), (jo, some (oMsg ((List.range k).map mM)))]) (by kernel_rfl)) (CQ.imp (CQ.keys (dPutRBN (hd.of (by omega) (kb5 (by omega))) s jn 0 1 [Ux.mk k] rfl (by decide) (by omega) jw K ws hws (by omega) (by omega) (by omega) jo 0 k ((List.range k).map mM) (by rw [List.length_map, List.length_range]; omega) (by omega) (by omega) (by omega) (by omega) (((((l.getD i dBy).z % 64)) : Nat) : Int) 0#32 ByteArray.empty hal hac hc18 get_here (get_there (by omega) get_here) (gt3 (by omega) get_here) (gt4 (by omega) get_here))) ?_)
      rintro _ n33 _ ⟨hkn33, ⟨jw2, hp1, hp2, rfl, rfl⟩⟩
      have hn33 := hkn33.1
      refine ⟨hn33, (kp3 (by first | exact wr_new (by omega) (by omega) | exact wr_old [4, 5, 6, 7] (by kernel_rfl) (by omega) (by omega) (fac (lo0 rfl) (fac (lo0 rfl) (fac (lo1 rfl (by omega)) (fac (lo1 rfl (by omega)) fan))))) (by first | exact wr_new (by omega) (by omega) | exact wr_old [4, 5, 6, 7] (by kernel_rfl) (by omega) (by omega) (fac (lo0 rfl) (fac (lo0 rfl) (fac (lo1 rfl (by omega)) (fac (lo1 rfl (by omega)) fan))))) (by first | exact wr_new (by omega) (by omega) | exact wr_old [4, 5, 6, 7] (by kernel_rfl) (by omega) (by omega) (fac (lo0 rfl) (fac (lo0 rfl) (fac (lo1 rfl (by omega)) (fac (lo1 rfl (by omega)) fan)))))), ?_⟩
      refine PQ.pure (dst := (some 34)) (v := (.slice (some ⟨jc, 0, none⟩) 70 0)) rfl rfl rfl noStore (none_ok _ _) rfl ?_
      refine PQ.pure (dst := (some 35)) (v := (.int .i64 ((((l.getD i dBy).z % 64) : Nat) : Int))) rfl rfl rfl noStore (none_ok _ _) rfl ?_
      refine PQ.pure (dst := (some 36)) (v := (.pointer (some ⟨jc, ((l.getD i dBy).z % 64), some 0⟩))) rfl rfl rfl (app [(jc, some (oBo cm))] noStore) (seen_one (V := []) (D := [(s, some ⟨[(xDl45 jn jw K jo k)], 3, 101, true⟩), (jn, some (oUx [Ux.mk k])), (jc, some (oBo cm)), (jw, some (oMsg ws)), (jo, some (oMsg ((List.range k).map mM)))]) (by kernel_rfl) (gt2 (by omega) get_here)) (r_iaS (l := ((l.getD i dBy).z % 64)) rfl rfl rfl rfl rfl rfl (by omega) (by omega) get_here rfl (by omega)) ?_
      refine PQ.pure (dst := (some 37)) (v := (.bool false)) rfl rfl rfl (app [(jc, some (oBo cm))] noStore) (seen_one (V := []) (D := [(s, some ⟨[(xDl45 jn jw K jo k)], 3, 101, true⟩), (jn, some (oUx [Ux.mk k])), (jc, some (oBo cm)), (jw, some (oMsg ws)), (jo, some (oMsg ((List.range k).map mM)))]) (by kernel_rfl) (gt2 (by omega) get_here)) (Eq.trans (r_loadF (c := cBo) dBo rfl rfl rfl rfl rfl get_here (by rw [hcm]; omega) rfl) (bF hc16)) ?_
      refine PQ.pure (dst := (some 38)) (v := (.bool false)) rfl rfl rfl noStore (none_ok _ _) rfl ?_
      refine PQ.done (d := [(s, some ⟨[[(.slice (some ⟨jn, 0, none⟩) 1 0), (.slice (some ⟨jw2, 0, none⟩) (K + 1) 0), (.slice (some ⟨jo, 0, none⟩) k 0)]], 3, 101, true⟩), (jw2, some (oMsg (ws ++ [(xDl46 l i)]))), (jw, none)]) (by kernel_rfl) ?_
      intro _
      refine RA.condF rfl ?_
      refine RA.skip env_ok ?_
      intro _
      refine RA.region env_ok ?_
      refine OA.p (some 39) (.slice (some ⟨jc, 0, none⟩) 70 0) rfl rfl rfl rfl ?_
      refine OA.p (some 40) (.int .i64 ((((l.getD i dBy).z % 64) : Nat) : Int)) rfl rfl rfl rfl ?_
      refine OA.p (some 41) (.pointer (some ⟨jc, ((l.getD i dBy).z % 64), some 0⟩)) rfl rfl rfl (r_iaS (l := ((l.getD i dBy).z % 64)) rfl rfl rfl rfl rfl rfl (by omega) (by omega) (gt5 (by omega) get_here) rfl (by omega)) ?_
      refine OA.op1 (dst := none) (v := (.tuple #[])) (n1 := n33) (w := (jc, some (oBo (cm.set ((l.getD i dBy).z % 64) (Bo.mk true))))) rfl rfl rfl (r_storeR (c := cBo) dBo (Bo.mk true) rfl rfl rfl rfl rfl rfl rfl (gt5 (by omega) get_here) (by rw [hcm]; omega) (Nat.le_of_ble_eq_true rfl) rfl) (by omega) ?_
      refine OA.nil ?_
      intro _
      refine RA.rebase [(0, v), (3, (Pt s 0 0)), (4, (.slice (some ⟨jc, 0, none⟩) 70 0)), (5, (.int .i64 ((i : Nat) : Int))), (6, (.int .i64 ((((l.getD i dBy).z % 64) : Nat) : Int))), (21, (.bool true)), (38, (.bool false))] ⟨rfl, rfl, rfl, rfl, rfl, rfl, rfl, trivial⟩ (fun τr34 => ?_)
      refine RA.region env_ok ?_
      refine OA.p (some 22) (.int .i64 ((i : Nat) : Int)) rfl rfl rfl rfl ?_
      refine OA.p (some 23) (.int .i64 (((i + 1) : Nat) : Int)) rfl rfl rfl (r_bin rfl rfl rfl (b_add (i64_eq (by omega)))) ?_
      refine OA.p (some 5) (.int .i64 (((i + 1) : Nat) : Int)) rfl rfl rfl rfl ?_
      refine OA.nil ?_
      refine ⟨(200 - (i + 1)), by omega, [(s, some ⟨[[(.slice (some ⟨jn, 0, none⟩) 1 0), (.slice (some ⟨jw2, 0, none⟩) (K + 1) 0), (.slice (some ⟨jo, 0, none⟩) k 0)]], 3, 101, true⟩), (jn, some (oUx [Ux.mk k])), (jc, some (oBo (cm.set ((l.getD i dBy).z % 64) (Bo.mk true)))), (jw2, some (oMsg (ws ++ [(xDl46 l i)]))), (jo, some (oMsg ((List.range k).map mM)))], (Less.of (fac (mm (fun _ => get_here) (fun _ => (get_there (by omega) get_here))) (fac (mm (fun _ => (get_there (by omega) get_here)) (fun _ => (gt5 (by omega) get_here))) (fac (mm (fun _ => (gt2 (by omega) get_here)) (fun _ => get_here)) (fac (mm (fun _ => (gt3 (by omega) get_here)) (fun _ => (gt2 (by omega) get_here))) (fac (mm (fun _ => (gt4 (by omega) get_here)) (fun _ => (gt8 (by omega) get_here))) fan))))) (gone_of (by simp only [goneP, memP, List.cons_append, List.nil_append, true_or, or_true, true_and, and_true, or_false] <;> omega))), .inr (.inr (⟨(i + 1), jc, (cm.set ((l.getD i dBy).z % 64) (Bo.mk true)), jw2, (K + 1), (ws ++ [(xDl46 l i)]), jo, k, rfl, by omega, ⟨rfl, rfl, rfl, rfl, trivial⟩, rfl, (kb5 (by omega)), ⟨by omega, by omega, by omega, by omega, by omega, by simp [hws], by omega, by omega, by omega, by omega, by omega, by omega, acc_N hDI hn64 hc18⟩⟩))⟩
   ·
    refine OA.p (some 20) (.bool false) rfl rfl rfl (Eq.trans (r_bin rfl rfl rfl (b_lss rfl)) (dF hc15)) ?_
    refine OA.p (some 21) (.bool false) rfl rfl rfl rfl ?_
    refine OA.nil ?_
    intro _
    refine RA.condF rfl ?_
    refine RA.exit env_ok ?_
    intro _
    refine RA.seq hd ?_
    refine RA.seq hd ?_
    refine RA.region env_ok ?_
    refine OA.p (some 7) (.int .i64 0) rfl rfl rfl rfl ?_
    refine OA.nil ?_
    intro _
    refine RA.block ?_
    refine RA.loop hd (fun kk_ τ n' D => (∃ r : Nat, kk_ = (k - r) ∧ n2 ≤ n' ∧ Has τ [(3, (Pt s 0 0)), (4, (.slice (some ⟨jc, 0, none⟩) 70 0)), (7, (.int .i64 ((r : Nat) : Int)))] ∧ D = [(s, some ⟨[[(.slice (some ⟨jn, 0, none⟩) 1 0), (.slice (some ⟨jw, 0, none⟩) K 0), (.slice (some ⟨jo, r, none⟩) (k - r) 0)]], 3, 101, true⟩), (jn, some (oUx [Ux.mk k])), (jc, some (oBo cm)), (jw, some (oMsg ws)), (jo, some (oMsg ((List.range k).map mM)))] ∧ (∀ i ∈ keys D, i < n') ∧ r ≤ k)) ((k - 0)) (⟨0, rfl, by omega, ⟨rfl, rfl, rfl, trivial⟩, rfl, (kb5 (by omega)), by omega⟩) ?_
    rintro kn35 τ35 n35 _ ⟨r, rfl, hn35, hHn35, rfl, hKn35, hIn35⟩
    rw [Has.eq hHn35]
    have hKn35_0 : s < n35 := hKn35 _ (by simp only [keys, List.map_cons, List.map_nil, List.mem_cons, true_or, or_true])
    have hKn35_1 : jn < n35 := hKn35 _ (by simp only [keys, List.map_cons, List.map_nil, List.mem_cons, true_or, or_true])
    have hKn35_2 : jc < n35 := hKn35 _ (by simp only [keys, List.map_cons, List.map_nil, List.mem_cons, true_or, or_true])
    have hKn35_3 : jw < n35 := hKn35 _ (by simp only [keys, List.map_cons, List.map_nil, List.mem_cons, true_or, or_true])
    have hKn35_4 : jo < n35 := hKn35 _ (by simp only [keys, List.map_cons, List.map_nil, List.mem_cons, true_or, or_true])
    clear hKn35
    refine RA.seq hd ?_
    refine RA.seq hd ?_
    refine RA.region env_ok ?_
    refine OA.p (some 42) (.slice (some ⟨jc, 0, none⟩) 70 0) rfl rfl rfl rfl ?_
    refine OA.p (some 43) (.int .i64 ((r : Nat) : Int)) rfl rfl rfl rfl ?_
    refine OA.p (some 44) (Pt jc r 0) rfl rfl rfl (r_iaS (l := r) rfl rfl rfl rfl rfl rfl (by omega) (by omega) (gt2 (by omega) get_here) rfl (by omega)) ?_
    by_cases hc19 : (cm.getD r dBo).z = true
    ·
     have hrk := end_t hDI (by omega) hc19
     refine OA.p (some 45) (.bool true) rfl rfl rfl (Eq.trans (r_loadF (c := cBo) dBo rfl rfl rfl rfl rfl (gt2 (by omega) get_here) (by rw [hcm]; omega) rfl) (bT hc19)) ?_
     refine OA.nil ?_
     intro _
     refine RA.condT rfl ?_
     refine RA.skip env_ok ?_
     intro _
     refine RA.seq hd ?_
     refine RA.block ?_
     refine RA.seq hd ?_
     refine RA.region env_ok ?_
     refine OA.p (some 49) (Pt s 0 0) rfl rfl rfl rfl ?_
     refine OA.call (dst := (some 50)) (all := [(Pt s 0 0)]) rfl rfl rfl rfl rfl rfl rfl rfl (CQ.imp (dRead (hd.of (by omega) (kb5 (by omega))) s jn 1 jo r (k - r) ((List.range k).map mM) (by rw [List.length_map, List.length_range]; omega) (by omega) (.slice (some ⟨jw, 0, none⟩) K 0) rfl get_here (gt4 (by omega) get_here)) ?_)
     rintro _ n36 _ ⟨rfl, rfl⟩ hn36
     refine OA.app1 ?_
     refine OA.p (some 48) (.tuple ⟨[(.agg ⟨(cMsg (((List.range k).map mM).getD r dMsg))⟩), (.bool true)]⟩) rfl rfl rfl rfl ?_
     refine OA.p (some 51) (.agg ⟨(cMsg (((List.range k).map mM).getD r dMsg))⟩) rfl rfl rfl rfl ?_
     refine OA.p (some 52) (.bool true) rfl rfl rfl rfl ?_
     refine OA.op1 (dst := (some 8)) (v := (Pt n36 0 0)) (n1 := (n36 + 1)) (w := (n36, some ⟨[[(.int .i64 0), (.int .i64 0), (.bool false), (.int .u32 0), (.string ByteArray.empty)]], 5, 29, true⟩)) rfl rfl rfl rfl (by omega) ?_
     refine OA.op1 (dst := none) (v := (.tuple #[])) (n1 := (n36 + 1)) (w := (n36, some ⟨[(cMsg (((List.range k).map mM).getD r dMsg))], 5, 29, true⟩)) rfl rfl rfl (r_store rfl rfl rfl rfl rfl rfl rfl get_here rfl rfl (Nat.le_of_ble_eq_true rfl) rfl) (by omega) ?_
     refine OA.p (some 9) (.bool true) rfl rfl rfl rfl ?_
     refine OA.nil ?_
     intro _
     refine RA.weaken (D' := [(n36, some ⟨[(cMsg (((List.range k).map mM).getD r dMsg))], 5, 29, true⟩), (s, some ⟨[(xDl43 jn jw K jo r k)], 3, 101, true⟩), (jn, some (oUx [Ux.mk k])), (jc, some (oBo cm)), (jw, some (oMsg ws)), (jo, some (oMsg ((List.range k).map mM)))]) hd (Less.of (fac (mm (fun _ => get_here) (fun _ => get_here)) (fac (mm (fun _ => (get_there (by omega) get_here)) (fun _ => (gt2 (by omega) get_here))) (fac (mm (fun _ => (gt2 (by omega) get_here)) (fun _ => (gt4 (by omega) get_here))) (fac (mm (fun _ => (gt3 (by omega) get_here)) (fun _ => (gt5 (by omega) get_here))) (fac (mm (fun _ => (gt4 (by omega) get_here)) (fun _ => (gt6 (by omega) get_here))) (fac (mm (fun _ => (gt5 (by omega) get_here)) (fun _ => (gt7 (by omega) get_here))) fan)))))) (gone_of (by simp only [goneP, memP, List.cons_append, List.nil_append, true_or, or_true, true_and, and_true, or_false] <;> omega))) ?_
     refine RA.seq hd ?_
     refine RA.region env_ok ?_
     refine OA.p (some 53) (.bool true) rfl rfl rfl rfl ?_
     refine OA.p (some 54) (.bool false) rfl rfl rfl rfl ?_
     refine OA.p (some 55) (.bool false) rfl rfl rfl rfl ?_
     refine OA.p (some 56) (Pt n36 0 1) rfl rfl rfl rfl ?_
     refine OA.p (some 57) (.int .i64 (((List.range k).map mM).getD r dMsg).ssn) rfl rfl rfl (r_load1 rfl rfl rfl rfl rfl get_here rfl rfl) ?_
     refine OA.p (some 58) (.int .i64 ((r : Nat) : Int)) rfl rfl rfl rfl ?_
     have hc20 : ¬ ((((List.range k).map mM).getD r dMsg).ssn ≠ ((r : Nat) : Int)) := fun hdd => by exfalso; first | omega | (have hx1 := end_t hDI (by omega) hdd; omega) | exact hdd (rd_ssn (by omega)) | (rcases (hDI.2.2.2.2 _ (by omega)).1 hdd with hx1 | hx1; omega; cases hx1)
     refine OA.p (some 59) (.bool false) rfl rfl rfl (Eq.trans (r_bin rfl rfl rfl (b_neq rfl)) (dF hc20)) ?_
     refine OA.p (some 60) (.bool false) rfl rfl rfl rfl ?_
     refine OA.nil ?_
     intro _
     refine RA.condF rfl ?_
     refine RA.skip env_ok ?_
     intro _
     refine RA.region env_ok ?_
     refine OA.p (some 46) (.int .i64 ((r : Nat) : Int)) rfl rfl rfl rfl ?_
     refine OA.p (some 47) (.int .i64 (((r + 1) : Nat) : Int)) rfl rfl rfl (r_bin rfl rfl rfl (b_add (i64_eq (by omega)))) ?_
     refine OA.p (some 7) (.int .i64 (((r + 1) : Nat) : Int)) rfl rfl rfl rfl ?_
     refine OA.nil ?_
     refine ⟨(k - (r + 1)), by omega, [(s, some ⟨[(xDl43 jn jw K jo r k)], 3, 101, true⟩), (jn, some (oUx [Ux.mk k])), (jc, some (oBo cm)), (jw, some (oMsg ws)), (jo, some (oMsg ((List.range k).map mM)))], (Less.of (fac (mm (fun _ => get_here) (fun _ => (get_there (by omega) get_here))) (fac (mm (fun _ => (get_there (by omega) get_here)) (fun _ => (gt2 (by omega) get_here))) (fac (mm (fun _ => (gt2 (by omega) get_here)) (fun _ => (gt3 (by omega) get_here))) (fac (mm (fun _ => (gt3 (by omega) get_here)) (fun _ => (gt4 (by omega) get_here))) (fac (mm (fun _ => (gt4 (by omega) get_here)) (fun _ => (gt5 (by omega) get_here))) fan))))) (gone_of (by simp only [goneP, memP, List.cons_append, List.nil_append, true_or, or_true, true_and, and_true, or_false] <;> omega))), ⟨(r + 1), rfl, by omega, ⟨rfl, rfl, rfl, trivial⟩, (by rw [show k - (r + 1) = k - r - 1 from by omega]), (kb5 (by omega)), by omega⟩⟩
    ·
     have hrk := end_f hDI (by omega) hc19
     refine OA.p (some 45) (.bool false) rfl rfl rfl (Eq.trans (r_loadF (c := cBo) dBo rfl rfl rfl rfl rfl (gt2 (by omega) get_here) (by rw [hcm]; omega) rfl) (bF hc19)) ?_
     refine OA.nil ?_
     intro _
     refine RA.condF rfl ?_
     refine RA.exit env_ok ?_
     intro _
     refine RA.seq hd ?_
     refine RA.region env_ok ?_
     refine OA.p (some 62) (Pt s 0 0) rfl rfl rfl rfl ?_
     refine OA.call (dst := (some 63)) (all := [(Pt s 0 0)]) rfl rfl rfl rfl rfl rfl rfl rfl (CQ.imp (dReadZ (hd.of (by omega) (kb5 (by omega))) s jn 1 jo r (k - r) (by omega) (.slice (some ⟨jw, 0, none⟩) K 0) rfl get_here) ?_)
     rintro _ n37 _ ⟨rfl, rfl⟩ hn37
     refine OA.app0 ?_
     refine OA.p (some 61) (.tuple ⟨[(.agg ⟨(cMsg dMsg)⟩), (.bool false)]⟩) rfl rfl rfl rfl ?_
     refine OA.p (some 64) (.agg ⟨(cMsg dMsg)⟩) rfl rfl rfl rfl ?_
     refine OA.p (some 65) (.bool false) rfl rfl rfl rfl ?_
     refine OA.op1 (dst := (some 10)) (v := (Pt n37 0 0)) (n1 := (n37 + 1)) (w := (n37, some ⟨[[(.int .i64 0), (.int .i64 0), (.bool false), (.int .u32 0), (.string ByteArray.empty)]], 5, 29, true⟩)) rfl rfl rfl rfl (by omega) ?_
     refine OA.op1 (dst := none) (v := (.tuple #[])) (n1 := (n37 + 1)) (w := (n37, some ⟨[(cMsg dMsg)], 5, 29, true⟩)) rfl rfl rfl (r_store rfl rfl rfl rfl rfl rfl rfl get_here rfl rfl (Nat.le_of_ble_eq_true rfl) rfl) (by omega) ?_
     refine OA.p (some 11) (.bool false) rfl rfl rfl rfl ?_
     refine OA.nil ?_
     intro _
     refine RA.seq hd ?_
     refine RA.region env_ok ?_
     refine OA.callP (dst := (some 66)) (all := []) (v := (.bool true)) (hd.of (by omega) (kb7 (by omega))) rfl rfl rfl rfl rfl rfl rfl rfl awakeD ?_
     intro n38 hn38
     refine OA.p (some 67) (.bool true) rfl rfl rfl rfl ?_
     refine OA.p (some 68) (.bool false) rfl rfl rfl rfl ?_
     refine OA.p (some 69) (.bool true) rfl rfl rfl rfl ?_
     refine OA.p (some 70) (.bool true) rfl rfl rfl rfl ?_
     refine OA.p (some 2) (.bool true) rfl rfl rfl rfl ?_
     refine OA.nil ?_
     intro _
     refine RA.ret env_ok ?_
     refine ⟨.inr rfl, [(.bool true)], (resL_cons rfl resL_nil), [], (Less.of (fun p hp => by simp at hp) (gone_of (by simp only [goneP, memP, List.cons_append, List.nil_append, true_or, or_true, true_and, and_true, or_false] <;> omega))), rfl⟩
  ·
   refine OA.p (some 17) (.bool false) rfl rfl rfl (Eq.trans (r_bin rfl rfl rfl (b_lss rfl)) (dF hc14)) ?_
   refine OA.p (some 18) (.bool false) rfl rfl rfl rfl ?_
   refine OA.off (dst := (some 19)) rfl rfl rfl ?_
   refine OA.off (dst := (some 20)) rfl rfl rfl ?_
   refine OA.p (some 21) (.bool false) rfl rfl rfl rfl ?_
   refine OA.nil ?_
   intro _
   refine RA.condF rfl ?_
   refine RA.exit env_ok ?_
   intro _
   refine RA.seq hd ?_
   refine RA.seq hd ?_
   refine RA.region env_ok ?_
   refine OA.p (some 7) (.int .i64 0) rfl rfl rfl rfl ?_
   refine OA.nil ?_
   intro _
   refine RA.block ?_
   refine RA.loop hd (fun kk_ τ n' D => (∃ r : Nat, kk_ = (k - r) ∧ n2 ≤ n' ∧ Has τ [(3, (Pt s 0 0)), (4, (.slice (some ⟨jc, 0, none⟩) 70 0)), (7, (.int .i64 ((r : Nat) : Int)))] ∧ D = [(s, some ⟨[[(.slice (some ⟨jn, 0, none⟩) 1 0), (.slice (some ⟨jw, 0, none⟩) K 0), (.slice (some ⟨jo, r, none⟩) (k - r) 0)]], 3, 101, true⟩), (jn, some (oUx [Ux.mk k])), (jc, some (oBo cm)), (jw, some (oMsg ws)), (jo, some (oMsg ((List.range k).map mM)))] ∧ (∀ i ∈ keys D, i < n') ∧ r ≤ k)) ((k - 0)) (⟨0, rfl, by omega, ⟨rfl, rfl, rfl, trivial⟩, rfl, (kb5 (by omega)), by omega⟩) ?_
   rintro kn39 τ39 n39 _ ⟨r, rfl, hn39, hHn39, rfl, hKn39, hIn39⟩
   rw [Has.eq hHn39]
   have hKn39_0 : s < n39 := hKn39 _ (by simp only [keys, List.map_cons, List.map_nil, List.mem_cons, true_or, or_true])
   have hKn39_1 : jn < n39 := hKn39 _ (by simp only [keys, List.map_cons, List.map_nil, List.mem_cons, true_or, or_true])
   have hKn39_2 : jc < n39 := hKn39 _ (by simp only [keys, List.map_cons, List.map_nil, List.mem_cons, true_or, or_true])
   have hKn39_3 : jw < n39 := hKn39 _ (by simp only [keys, List.map_cons, List.map_nil, List.mem_cons, true_or, or_true])
   have hKn39_4 : jo < n39 := hKn39 _ (by simp only [keys, List.map_cons, List.map_nil, List.mem_cons, true_or, or_true])
   clear hKn39
   refine RA.seq hd ?_
   refine RA.seq hd ?_
   refine RA.region env_ok ?_
   refine OA.p (some 42) (.slice (some ⟨jc, 0, none⟩) 70 0) rfl rfl rfl rfl ?_
   refine OA.p (some 43) (.int .i64 ((r : Nat) : Int)) rfl rfl rfl rfl ?_
   refine OA.p (some 44) (Pt jc r 0) rfl rfl rfl (r_iaS (l := r) rfl rfl rfl rfl rfl rfl (by omega) (by omega) (gt2 (by omega) get_here) rfl (by omega)) ?_
   by_cases hc21 : (cm.getD r dBo).z = true
   ·
    have hrk := end_t hDI (by omega) hc21
    refine OA.p (some 45) (.bool true) rfl rfl rfl (Eq.trans (r_loadF (c := cBo) dBo rfl rfl rfl rfl rfl (gt2 (by omega) get_here) (by rw [hcm]; omega) rfl) (bT hc21)) ?_
    refine OA.nil ?_
    intro _
    refine RA.condT rfl ?_
    refine RA.skip env_ok ?_
    intro _
    refine RA.seq hd ?_
    refine RA.block ?_
    refine RA.seq hd ?_
    refine RA.region env_ok ?_
    refine OA.p (some 49) (Pt s 0 0) rfl rfl rfl rfl ?_
    refine OA.call (dst := (some 50)) (all := [(Pt s 0 0)]) rfl rfl rfl rfl rfl rfl rfl rfl (CQ.imp (dRead (hd.of (by omega) (kb5 (by omega))) s jn 1 jo r (k - r) ((List.range k).map mM) (by rw [List.length_map, List.length_range]; omega) (by omega) (.slice (some ⟨jw, 0, none⟩) K 0) rfl get_here (gt4 (by omega) get_here)) ?_)
    rintro _ n40 _ ⟨rfl, rfl⟩ hn40
    refine OA.app1 ?_
    refine OA.p (some 48) (.tuple ⟨[(.agg ⟨(cMsg (((List.range k).map mM).getD r dMsg))⟩), (.bool true)]⟩) rfl rfl rfl rfl ?_
    refine OA.p (some 51) (.agg ⟨(cMsg (((List.range k).map mM).getD r dMsg))⟩) rfl rfl rfl rfl ?_
    refine OA.p (some 52) (.bool true) rfl rfl rfl rfl ?_
    refine OA.op1 (dst := (some 8)) (v := (Pt n40 0 0)) (n1 := (n40 + 1)) (w := (n40, some ⟨[[(.int .i64 0), (.int .i64 0), (.bool false), (.int .u32 0), (.string ByteArray.empty)]], 5, 29, true⟩)) rfl rfl rfl rfl (by omega) ?_
    refine OA.op1 (dst := none) (v := (.tuple #[])) (n1 := (n40 + 1)) (w := (n40, some ⟨[(cMsg (((List.range k).map mM).getD r dMsg))], 5, 29, true⟩)) rfl rfl rfl (r_store rfl rfl rfl rfl rfl rfl rfl get_here rfl rfl (Nat.le_of_ble_eq_true rfl) rfl) (by omega) ?_
    refine OA.p (some 9) (.bool true) rfl rfl rfl rfl ?_
    refine OA.nil ?_
    intro _
    refine RA.weaken (D' := [(n40, some ⟨[(cMsg (((List.range k).map mM).getD r dMsg))], 5, 29, true⟩), (s, some ⟨[(xDl43 jn jw K jo r k)], 3, 101, true⟩), (jn, some (oUx [Ux.mk k])), (jc, some (oBo cm)), (jw, some (oMsg ws)), (jo, some (oMsg ((List.range k).map mM)))]) hd (Less.of (fac (mm (fun _ => get_here) (fun _ => get_here)) (fac (mm (fun _ => (get_there (by omega) get_here)) (fun _ => (gt2 (by omega) get_here))) (fac (mm (fun _ => (gt2 (by omega) get_here)) (fun _ => (gt4 (by omega) get_here))) (fac (mm (fun _ => (gt3 (by omega) get_here)) (fun _ => (gt5 (by omega) get_here))) (fac (mm (fun _ => (gt4 (by omega) get_here)) (fun _ => (gt6 (by omega) get_here))) (fac (mm (fun _ => (gt5 (by omega) get_here)) (fun _ => (gt7 (by omega) get_here))) fan)))))) (gone_of (by simp only [goneP, memP, List.cons_append, List.nil_append, true_or, or_true, true_and, and_true, or_false] <;> omega))) ?_
    refine RA.seq hd ?_
    refine RA.region env_ok ?_
    refine OA.p (some 53) (.bool true) rfl rfl rfl rfl ?_
    refine OA.p (some 54) (.bool false) rfl rfl rfl rfl ?_
    refine OA.p (some 55) (.bool false) rfl rfl rfl rfl ?_
    refine OA.p (some 56) (Pt n40 0 1) rfl rfl rfl rfl ?_
    refine OA.p (some 57) (.int .i64 (((List.range k).map mM).getD r dMsg).ssn) rfl rfl rfl (r_load1 rfl rfl rfl rfl rfl get_here rfl rfl) ?_
    refine OA.p (some 58) (.int .i64 ((r : Nat) : Int)) rfl rfl rfl rfl ?_
    have hc22 : ¬ ((((List.range k).map mM).getD r dMsg).ssn ≠ ((r : Nat) : Int)) := fun hdd => by exfalso; first | omega | (have hx1 := end_t hDI (by omega) hdd; omega) | exact hdd (rd_ssn (by omega)) | (rcases (hDI.2.2.2.2 _ (by omega)).1 hdd with hx1 | hx1; omega; cases hx1)
    refine OA.p (some 59) (.bool false) rfl rfl rfl (Eq.trans (r_bin rfl rfl rfl (b_neq rfl)) (dF hc22)) ?_
    refine OA.p (some 60) (.bool false) rfl rfl rfl rfl ?_
    refine OA.nil ?_
    intro _
    refine RA.condF rfl ?_
    refine RA.skip env_ok ?_
    intro _
    refine RA.region env_ok ?_
    refine OA.p (some 46) (.int .i64 ((r : Nat) : Int)) rfl rfl rfl rfl ?_
    refine OA.p (some 47) (.int .i64 (((r + 1) : Nat) : Int)) rfl rfl rfl (r_bin rfl rfl rfl (b_add (i64_eq (by omega)))) ?_
    refine OA.p (some 7) (.int .i64 (((r + 1) : Nat) : Int)) rfl rfl rfl rfl ?_
    refine OA.nil ?_
    refine ⟨(k - (r + 1)), by omega, [(s, some ⟨[(xDl43 jn jw K jo r k)], 3, 101, true⟩), (jn, some (oUx [Ux.mk k])), (jc, some (oBo cm)), (jw, some (oMsg ws)), (jo, some (oMsg ((List.range k).map mM)))], (Less.of (fac (mm (fun _ => get_here) (fun _ => (get_there (by omega) get_here))) (fac (mm (fun _ => (get_there (by omega) get_here)) (fun _ => (gt2 (by omega) get_here))) (fac (mm (fun _ => (gt2 (by omega) get_here)) (fun _ => (gt3 (by omega) get_here))) (fac (mm (fun _ => (gt3 (by omega) get_here)) (fun _ => (gt4 (by omega) get_here))) (fac (mm (fun _ => (gt4 (by omega) get_here)) (fun _ => (gt5 (by omega) get_here))) fan))))) (gone_of (by simp only [goneP, memP, List.cons_append, List.nil_append, true_or, or_true, true_and, and_true, or_false] <;> omega))), ⟨(r + 1), rfl, by omega, ⟨rfl, rfl, rfl, trivial⟩, (by rw [show k - (r + 1) = k - r - 1 from by omega]), (kb5 (by omega)), by omega⟩⟩
   ·
    have hrk := end_f hDI (by omega) hc21
    refine OA.p (some 45) (.bool false) rfl rfl rfl (Eq.trans (r_loadF (c := cBo) dBo rfl rfl rfl rfl rfl (gt2 (by omega) get_here) (by rw [hcm]; omega) rfl) (bF hc21)) ?_
    refine OA.nil ?_
    intro _
    refine RA.condF rfl ?_
    refine RA.exit env_ok ?_
    intro _
    refine RA.seq hd ?_
    refine RA.region env_ok ?_
    refine OA.p (some 62) (Pt s 0 0) rfl rfl rfl rfl ?_
    refine OA.call (dst := (some 63)) (all := [(Pt s 0 0)]) rfl rfl rfl rfl rfl rfl rfl rfl (CQ.imp (dReadZ (hd.of (by omega) (kb5 (by omega))) s jn 1 jo r (k - r) (by omega) (.slice (some ⟨jw, 0, none⟩) K 0) rfl get_here) ?_)
    rintro _ n41 _ ⟨rfl, rfl⟩ hn41
    refine OA.app0 ?_
    refine OA.p (some 61) (.tuple ⟨[(.agg ⟨(cMsg dMsg)⟩), (.bool false)]⟩) rfl rfl rfl rfl ?_
    refine OA.p (some 64) (.agg ⟨(cMsg dMsg)⟩) rfl rfl rfl rfl ?_
    refine OA.p (some 65) (.bool false) rfl rfl rfl rfl ?_
    refine OA.op1 (dst := (some 10)) (v := (Pt n41 0 0)) (n1 := (n41 + 1)) (w := (n41, some ⟨[[(.int .i64 0), (.int .i64 0), (.bool false), (.int .u32 0), (.string ByteArray.empty)]], 5, 29, true⟩)) rfl rfl rfl rfl (by omega) ?_
    refine OA.op1 (dst := none) (v := (.tuple #[])) (n1 := (n41 + 1)) (w := (n41, some ⟨[(cMsg dMsg)], 5, 29, true⟩)) rfl rfl rfl (r_store rfl rfl rfl rfl rfl rfl rfl get_here rfl rfl (Nat.le_of_ble_eq_true rfl) rfl) (by omega) ?_
    refine OA.p (some 11) (.bool false) rfl rfl rfl rfl ?_
    refine OA.nil ?_
    intro _
    refine RA.seq hd ?_
    refine RA.region env_ok ?_
    refine OA.callP (dst := (some 66)) (all := []) (v := (.bool true)) (hd.of (by omega) (kb7 (by omega))) rfl rfl rfl rfl rfl rfl rfl rfl awakeD ?_
    intro n42 hn42
    refine OA.p (some 67) (.bool true) rfl rfl rfl rfl ?_
    refine OA.p (some 68) (.bool false) rfl rfl rfl rfl ?_
    refine OA.p (some 69) (.bool true) rfl rfl rfl rfl ?_
    refine OA.p (some 70) (.bool true) rfl rfl rfl rfl ?_
    refine OA.p (some 2) (.bool true) rfl rfl rfl rfl ?_
    refine OA.nil ?_
    intro _
    refine RA.ret env_ok ?_
    refine ⟨.inr rfl, [(.bool true)], (resL_cons rfl resL_nil), [], (Less.of (fun p hp => by simp at hp) (gone_of (by simp only [goneP, memP, List.cons_append, List.nil_append, true_or, or_true, true_and, and_true, or_false] <;> omega))), rfl⟩
end Go.Proofs.Ytmepflkodjdgdaa.Vt
