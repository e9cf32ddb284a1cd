/- Parts of numbers that came, told as lists: what 'put' and 'settle' make of them; such a list is known by its numbers. -/
import Derived.Test.YtmepflkodjdgdaaGp3
namespace Go.Proofs.Ytmepflkodjdgdaa.Vt
open Go Go.Proofs Go.Proofs.YtmepflkodjdgdaaV
set_option linter.unusedVariables false
set_option linter.unusedSimpArgs false
theorem ilt_or_ge (a b : Int) : a < b ∨ b ≤ a := by omega
abbrev mem (x : Int) (ps : List Gap) : Prop := ps.any (inGb x) = true
theorem mem_nil {x : Int} : ¬ mem x [] := by simp [mem]
theorem mem_cons {x : Int} {p : Gap} {ps : List Gap} : mem x (p :: ps) ↔ (p.fr ≤ x ∧ x ≤ p.to) ∨ mem x ps := by
  unfold mem
  rw [List.any_cons, Bool.or_eq_true]
  unfold inGb
  rw [decide_eq_true_eq]
  rfl
theorem mem_app {x : Int} {a b : List Gap} : mem x (a ++ b) ↔ mem x a ∨ mem x b := by
  unfold mem
  rw [List.any_append, Bool.or_eq_true]
def canon : Int → List Gap → Prop
  | _, [] => True
  | lo, p :: ps => lo ≤ p.fr ∧ p.fr ≤ p.to ∧ canon (p.to + 2) ps
theorem canon_mono {lo lo' : Int} : ∀ {ps : List Gap}, lo' ≤ lo → canon lo ps → canon lo' ps
  | [], _, _ => trivial
  | p :: ps, h, ⟨h1, h2, h3⟩ => ⟨by omega, h2, h3⟩
theorem mem_lo : ∀ {ps : List Gap} {lo x : Int}, canon lo ps → mem x ps → lo ≤ x
  | [], _, _, _, h => absurd h mem_nil
  | p :: ps, lo, x, ⟨h1, h2, h3⟩, h => by
    rcases mem_cons.1 h with h | h
    · omega
    · have := mem_lo h3 h; omega
theorem canon_eq : ∀ {ps qs : List Gap} {lo lo' : Int}, canon lo ps → canon lo' qs → (∀ x, mem x ps ↔ mem x qs) → ps = qs
  | [], [], _, _, _, _, _ => rfl
  | [], q :: qs, _, _, _, ⟨h1, h2, h3⟩, h => absurd ((h q.fr).2 (mem_cons.2 (.inl ⟨Int.le_refl _, h2⟩))) mem_nil
  | p :: ps, [], _, _, ⟨h1, h2, h3⟩, _, h => absurd ((h p.fr).1 (mem_cons.2 (.inl ⟨Int.le_refl _, h2⟩))) mem_nil
  | p :: ps, q :: qs, lo, lo', ⟨h1, h2, h3⟩, ⟨k1, k2, k3⟩, h => by
    have a1 := mem_lo (lo := q.fr) (ps := q :: qs) ⟨Int.le_refl _, k2, k3⟩ ((h p.fr).1 (mem_cons.2 (.inl ⟨Int.le_refl _, h2⟩)))
    have a2 := mem_lo (lo := p.fr) (ps := p :: ps) ⟨Int.le_refl _, h2, h3⟩ ((h q.fr).2 (mem_cons.2 (.inl ⟨Int.le_refl _, k2⟩)))
    have a3 : p.fr = q.fr := by omega
    have a4 : ¬ p.to < q.to := fun hh => by
      rcases mem_cons.1 ((h (p.to + 1)).2 (mem_cons.2 (.inl ⟨by omega, by omega⟩))) with g | g
      · omega
      · have := mem_lo h3 g; omega
    have a5 : ¬ q.to < p.to := fun hh => by
      rcases mem_cons.1 ((h (q.to + 1)).1 (mem_cons.2 (.inl ⟨by omega, by omega⟩))) with g | g
      · omega
      · have := mem_lo k3 g; omega
    have a6 : p.to = q.to := by omega
    have e : p = q := by
      obtain ⟨a, b⟩ := p
      obtain ⟨c, d⟩ := q
      simp at a3 a6
      rw [a3, a6]
    subst e
    rw [canon_eq h3 k3 (fun x => ⟨fun g => ?_, fun g => ?_⟩)]
    · have := mem_lo h3 g
      rcases mem_cons.1 ((h x).1 (mem_cons.2 (.inr g))) with g | g
      · omega
      · exact g
    · have := mem_lo k3 g
      rcases mem_cons.1 ((h x).2 (mem_cons.2 (.inr g))) with g | g
      · omega
      · exact g
theorem canon_app : ∀ {a : List Gap} {lo : Int} {q : Gap} {b : List Gap}, canon lo (a ++ q :: b) ↔ (canon lo a ∧ (∀ p ∈ a, p.to + 2 ≤ q.fr) ∧ lo ≤ q.fr ∧ q.fr ≤ q.to ∧ canon (q.to + 2) b)
  | [], lo, q, b => ⟨fun ⟨h1, h2, h3⟩ => ⟨trivial, fun p hp => (by cases hp), h1, h2, h3⟩, fun ⟨_, _, h1, h2, h3⟩ => ⟨h1, h2, h3⟩⟩
  | p :: a, lo, q, b => by
    constructor
    · rintro ⟨h1, h2, h3⟩
      obtain ⟨g1, g2, g3, g4, g5⟩ := canon_app.1 h3
      exact ⟨⟨h1, h2, g1⟩, fun x hx => (List.mem_cons.1 hx).elim (fun e => by rw [e]; exact g3) (g2 x), by omega, g4, g5⟩
    · rintro ⟨⟨h1, h2, g1⟩, g2, g3, g4, g5⟩
      exact ⟨h1, h2, canon_app.2 ⟨g1, fun x hx => g2 x (List.mem_cons_of_mem _ hx), g2 p (List.mem_cons_self ..), g4, g5⟩⟩
theorem canon_all : ∀ {ps : List Gap} {lo : Int}, canon lo ps → ∀ p ∈ ps, lo ≤ p.fr ∧ p.fr ≤ p.to
  | [], _, _, p, hp => by cases hp
  | q :: ps, lo, ⟨h1, h2, h3⟩, p, hp => by
    rcases List.mem_cons.1 hp with rfl | hp
    · exact ⟨h1, h2⟩
    · have := canon_all h3 p hp
      exact ⟨by omega, this.2⟩
theorem getD_app_r {a b : List Gap} {i : Nat} (h : a.length ≤ i) : (a ++ b).getD i dGap = b.getD (i - a.length) dGap := by
  rw [List.getD_eq_getElem?_getD, List.getElem?_append_right h, List.getD_eq_getElem?_getD]
theorem getD_app_l {a b : List Gap} {i : Nat} (h : i < a.length) : (a ++ b).getD i dGap = a.getD i dGap := by
  rw [List.getD_eq_getElem?_getD, List.getElem?_append_left h, List.getD_eq_getElem?_getD]
theorem mrg1_app {a b : List Gap} {x : Gap} {far : Int} : mrg1 (a ++ x :: b) a.length far = match b with
    | [] => a ++ [x]
    | y :: b' => if y.fr = far + 1 then a ++ Gap.mk x.fr y.to :: b' else a ++ x :: y :: b' := by
  unfold mrg1
  cases b with
  | nil => rw [if_neg (by rw [List.length_append, List.length_singleton]; omega)]
  | cons y b' =>
    have e1 : (a ++ x :: y :: b').getD (a.length + 1) dGap = y := by rw [getD_app_r (by omega)]; rw [show a.length + 1 - a.length = 1 by omega]; rfl
    have e0 : (a ++ x :: y :: b').getD a.length dGap = x := by rw [getD_app_r (by omega), Nat.sub_self]; rfl
    rw [e1, e0]
    by_cases h : y.fr = far + 1
    · rw [if_pos ⟨by rw [List.length_append, List.length_cons, List.length_cons]; omega, h⟩]
      simp only [if_pos h]
      rw [List.set_append_right _ _ (by omega), Nat.sub_self, List.set_cons_zero, List.eraseIdx_append_of_length_le (by omega), show a.length + 1 - a.length = 1 by omega]
      rfl
    · rw [if_neg (fun g => h g.2)]
      simp only [if_neg h]
theorem mrg2_app {a b : List Gap} {x y : Gap} {far : Int} : mrg2 (a ++ y :: x :: b) (a.length + 1) far = if y.to = far - 1 then a ++ Gap.mk y.fr x.to :: b else a ++ y :: x :: b := by
  unfold mrg2
  have e1 : (a ++ y :: x :: b).getD (a.length + 1) dGap = x := by rw [getD_app_r (by omega)]; rw [show a.length + 1 - a.length = 1 by omega]; rfl
  have e0 : (a ++ y :: x :: b).getD a.length dGap = y := by rw [getD_app_r (by omega), Nat.sub_self]; rfl
  rw [Nat.add_sub_cancel, e1, e0]
  by_cases h : y.to = far - 1
  · rw [if_pos ⟨by omega, h⟩, if_pos h]
    rw [List.set_append_right _ _ (by omega), Nat.sub_self, List.set_cons_zero, List.eraseIdx_append_of_length_le (by omega), show a.length + 1 - a.length = 1 by omega]
    rfl
  · rw [if_neg (fun g => h g.2), if_neg h]
theorem mrg2_0 {l : List Gap} {far : Int} : mrg2 l 0 far = l := by
  unfold mrg2; rw [if_neg (by omega)]
/-- A number that did not come yet is put among those that came. -/
theorem put_law {ps : List Gap} {lo far : Int} (hc : canon lo ps) (hlo : lo ≤ far) (hn : ¬ mem far ps) : canon lo (putL ps far) ∧ ∀ x, mem x (putL ps far) ↔ x = far ∨ mem x ps := by
  have hIle : ps.findIdx (gtb far) ≤ ps.length := fi_le
  obtain ⟨a, b, hps, hal, ha, hb⟩ : ∃ a b, ps = a ++ b ∧ a.length = ps.findIdx (gtb far) ∧ (∀ p ∈ a, p.fr ≤ far) ∧ (∀ y b', b = y :: b' → far < y.fr) := by
    refine ⟨ps.take (ps.findIdx (gtb far)), ps.drop (ps.findIdx (gtb far)), (List.take_append_drop _ _).symm, by rw [List.length_take]; omega, fun p hp => ?_, fun y b' hy => ?_⟩
    · obtain ⟨i, hi, he⟩ := List.getElem_of_mem hp
      rw [List.length_take] at hi
      have h1 := List.not_of_lt_findIdx (p := gtb far) (xs := ps) (i := i) (by omega)
      rw [List.getElem_take] at he
      rw [he] at h1
      unfold gtb at h1
      simp at h1
      exact h1
    · have hlt : ps.findIdx (gtb far) < ps.length := by
        have := congrArg List.length hy
        rw [List.length_drop, List.length_cons] at this
        omega
      have h1 := List.findIdx_getElem (w := hlt)
      rw [List.drop_eq_getElem_cons hlt] at hy
      injection hy with h2 h3
      rw [h2] at h1
      unfold gtb at h1
      simpa using h1
  have hput : putL ps far = mrg2 (mrg1 (a ++ Gap.mk far far :: b) a.length far) a.length far := by
    unfold putL insG insL
    rw [← hal, hps, List.take_left' rfl, List.drop_left' rfl, List.append_assoc]
    rfl
  have ha2 : ∀ p ∈ a, p.to < far := fun p hp => by
    rcases ilt_or_ge p.to far with h | h
    · exact h
    · exfalso; apply hn; rw [hps, mem_app]; left
      unfold mem; rw [List.any_eq_true]
      exact ⟨p, hp, by unfold inGb; rw [decide_eq_true_eq]; exact ⟨ha p hp, h⟩⟩
  -- behind the first merge
  obtain ⟨x1, b1, hm1, hx1, hx2, hb1, hmem1⟩ : ∃ x1 b1, mrg1 (a ++ Gap.mk far far :: b) a.length far = a ++ x1 :: b1 ∧ x1.fr = far ∧ far ≤ x1.to ∧ canon (x1.to + 2) b1 ∧ ∀ x, ((x1.fr ≤ x ∧ x ≤ x1.to) ∨ mem x b1) ↔ (x = far ∨ mem x b) := by
    rw [mrg1_app]
    cases b with
    | nil => exact ⟨Gap.mk far far, [], rfl, rfl, Int.le_refl _, trivial, fun x => ⟨fun h => h.imp (fun g => by have g1 : far ≤ x := g.1; have g2 : x ≤ far := g.2; omega) (fun g => g), fun h => h.imp (fun g => ⟨by show far ≤ x; omega, by show x ≤ far; omega⟩) (fun g => g)⟩⟩
    | cons y b' =>
      have hy := hb y b' rfl
      rw [hps] at hc
      obtain ⟨g1, g2, g3, g4, g5⟩ := canon_app.1 hc
      by_cases h : y.fr = far + 1
      · simp only [if_pos h]
        refine ⟨_, b', rfl, rfl, by show far ≤ y.to; omega, g5, fun x => ?_⟩
        rw [mem_cons]
        constructor
        · rintro (g | g)
          · have k1 : far ≤ x := g.1
            have k2 : x ≤ y.to := g.2
            by_cases hxf : x = far
            · exact .inl hxf
            · exact .inr (.inl ⟨by omega, k2⟩)
          · exact .inr (.inr g)
        · rintro (g | g | g)
          · exact .inl ⟨by show far ≤ x; omega, by show x ≤ y.to; omega⟩
          · exact .inl ⟨by show far ≤ x; omega, g.2⟩
          · exact .inr g
      · simp only [if_neg h]
        refine ⟨_, y :: b', rfl, rfl, Int.le_refl _, ⟨by show far + 2 ≤ y.fr; omega, g4, g5⟩, fun x => ⟨fun k => k.imp (fun g => by have g1 : far ≤ x := g.1; have g2 : x ≤ far := g.2; omega) (fun g => g), fun k => k.imp (fun g => ⟨by show far ≤ x; omega, by show x ≤ far; omega⟩) (fun g => g)⟩⟩
  rw [hput, hm1]
  have hca : canon lo a := by
    rw [hps] at hc
    cases b with
    | nil => rw [List.append_nil] at hc; exact hc
    | cons y b' => exact (canon_app.1 hc).1
  rcases List.eq_nil_or_concat a with h | ⟨a', y, h⟩
  · subst h
    show canon lo (mrg2 _ 0 far) ∧ _
    rw [show ([] : List Gap).length = 0 from rfl, mrg2_0, List.nil_append]
    rw [List.nil_append] at hps
    refine ⟨⟨by omega, by omega, hb1⟩, fun x => ?_⟩
    rw [mem_cons, hmem1, hps]
  · rw [List.concat_eq_append] at h
    subst h
    have hyt := ha2 y (List.mem_append.2 (.inr (List.mem_singleton.2 rfl)))
    obtain ⟨g1, g2, g3, g4, _⟩ := canon_app.1 hca
    have el : (a' ++ [y]).length = a'.length + 1 := by rw [List.length_append]; rfl
    have ea : a' ++ [y] ++ x1 :: b1 = a' ++ y :: x1 :: b1 := by rw [List.append_assoc]; rfl
    rw [el, ea, mrg2_app, hps]
    by_cases h : y.to = far - 1
    · rw [if_pos h]
      refine ⟨canon_app.2 ⟨g1, g2, g3, by show y.fr ≤ x1.to; omega, hb1⟩, fun x => ?_⟩
      rw [mem_app, mem_cons, mem_app, mem_app, mem_cons]
      have := hmem1 x
      constructor
      · rintro (k | k | k)
        · exact .inr (.inl (.inl k))
        · have k1 : y.fr ≤ x := k.1
          have k2 : x ≤ x1.to := k.2
          by_cases hx : x ≤ y.to
          · exact .inr (.inl (.inr (.inl ⟨k1, hx⟩)))
          · rcases this.1 (.inl ⟨by omega, k2⟩) with k | k
            · exact .inl k
            · exact .inr (.inr k)
        · rcases this.1 (.inr k) with k | k
          · exact .inl k
          · exact .inr (.inr k)
      · rintro (k | (k | (k | k)) | k)
        · exact .inr (.inl ⟨by show y.fr ≤ x; omega, by show x ≤ x1.to; omega⟩)
        · exact .inl k
        · exact .inr (.inl ⟨k.1, by have := k.2; show x ≤ x1.to; omega⟩)
        · exact absurd k mem_nil
        · rcases this.2 (.inr k) with k | k
          · exact .inr (.inl ⟨by have := k.1; show y.fr ≤ x; omega, k.2⟩)
          · exact .inr (.inr k)
    · rw [if_neg h]
      refine ⟨canon_app.2 ⟨g1, g2, g3, g4, ⟨by omega, by omega, hb1⟩⟩, fun x => ?_⟩
      rw [mem_app, mem_cons, mem_cons, mem_app, mem_app, mem_cons]
      have := hmem1 x
      constructor
      · rintro (k | k | k)
        · exact .inr (.inl (.inl k))
        · exact .inr (.inl (.inr (.inl k)))
        · exact (this.1 k).imp (fun k => k) .inr
      · rintro (k | (k | (k | k)) | k)
        · exact .inr (.inr (this.2 (.inl k)))
        · exact .inl k
        · exact .inr (.inl k)
        · exact absurd k mem_nil
        · exact .inr (.inr (this.2 (.inr k)))
theorem canon_sh {b : Int} : ∀ {ps : List Gap} {lo : Int}, canon lo ps → canon (lo - b) (ps.map (sh b))
  | [], _, _ => trivial
  | p :: ps, lo, ⟨h1, h2, h3⟩ => by
    have := canon_sh (b := b) h3
    exact ⟨by show lo - b ≤ p.fr - b; omega, by show p.fr - b ≤ p.to - b; omega, by rw [show (sh b p).to + 2 = p.to + 2 - b by show p.to - b + 2 = _; omega]; exact this⟩
theorem mem_sh {b x : Int} : ∀ {ps : List Gap}, mem x (ps.map (sh b)) ↔ mem (x + b) ps
  | [] => Iff.rfl
  | p :: ps => by
    rw [List.map_cons, mem_cons, mem_cons, mem_sh]
    have e1 : (sh b p).fr = p.fr - b := rfl
    have e2 : (sh b p).to = p.to - b := rfl
    rw [e1, e2]
    constructor
    · exact fun h => h.imp (fun g => ⟨by omega, by omega⟩) (fun g => g)
    · exact fun h => h.imp (fun g => ⟨by omega, by omega⟩) (fun g => g)
/-- What came without a gap counts as that. -/
theorem set_law {cum : BitVec 32} {ps : List Gap} (hc : canon 1 ps) : ∃ b : Nat, (setl cum ps).1 = cum + BitVec.ofNat 32 b ∧ canon 2 (setl cum ps).2 ∧ (∀ x : Int, 1 ≤ x → x ≤ b → mem x ps) ∧ ¬ mem ((b : Int) + 1) ps ∧ ∀ x : Int, 1 ≤ x → (mem x (setl cum ps).2 ↔ mem (x + b) ps) := by
  unfold setl
  cases ps with
  | nil => exact ⟨0, by simp, trivial, fun x h1 h2 => by omega, mem_nil, fun x _ => ⟨fun h => absurd h mem_nil, fun h => absurd h mem_nil⟩⟩
  | cons p ps =>
    obtain ⟨h1, h2, h3⟩ := hc
    have e0 : (p :: ps).getD 0 dGap = p := rfl
    rw [e0]
    by_cases h : p.fr = 1
    · rw [if_pos ⟨by simp, h⟩]
      have hb : ((p.to.toNat : Nat) : Int) = p.to := by omega
      refine ⟨p.to.toNat, ?_, ?_, fun x k1 k2 => mem_cons.2 (.inl ⟨by omega, by omega⟩), fun k => ?_, fun x hx => ?_⟩
      · show cum + BitVec.ofInt 32 p.to = _
        congr 1
        rw [← hb]; exact BitVec.ofInt_natCast ..
      · have := canon_sh (b := p.to) h3
        rw [show p.to + 2 - p.to = 2 by omega] at this
        exact this
      · rcases mem_cons.1 k with g | g
        · omega
        · have := mem_lo h3 g; omega
      · show mem x (ps.map (sh p.to)) ↔ _
        rw [mem_sh, mem_cons, hb]
        exact ⟨.inr, fun k => k.resolve_left (fun g => by omega)⟩
    · rw [if_neg (fun g => h g.2)]
      refine ⟨0, by simp, ⟨by omega, h2, h3⟩, fun x k1 k2 => by omega, fun k => ?_, fun x _ => by simp⟩
      have := mem_lo (lo := 2) (ps := p :: ps) ⟨by omega, h2, h3⟩ k
      omega
theorem canon_len {B : Int} : ∀ {ps : List Gap} {lo : Int}, canon lo ps → (∀ p ∈ ps, p.to ≤ B) → ps.length = 0 ∨ lo + 2 * (ps.length : Int) ≤ B + 2
  | [], _, _, _ => .inl rfl
  | p :: ps, lo, ⟨h1, h2, h3⟩, h => by
    have := canon_len h3 (fun q hq => h q (List.mem_cons_of_mem _ hq))
    have h4 := h p (List.mem_cons_self ..)
    right
    rw [List.length_cons]
    rcases this with g | g
    · rw [g]; omega
    · omega
theorem mem_of {ps : List Gap} {lo : Int} (hc : canon lo ps) {p : Gap} (hp : p ∈ ps) : mem p.fr ps ∧ mem p.to ps := by
  have := (canon_all hc p hp).2
  unfold mem
  rw [List.any_eq_true, List.any_eq_true]
  exact ⟨⟨p, hp, by unfold inGb; rw [decide_eq_true_eq]; exact ⟨Int.le_refl _, this⟩⟩, ⟨p, hp, by unfold inGb; rw [decide_eq_true_eq]; exact ⟨this, Int.le_refl _⟩⟩⟩
theorem bnd_of {ps : List Gap} {lo B : Int} (hc : canon lo ps) (hB : ∀ x, mem x ps → x ≤ B) : ∀ p ∈ ps, lo ≤ p.fr ∧ p.fr ≤ p.to ∧ p.to ≤ B := fun p hp => by
  have h1 := canon_all hc p hp
  exact ⟨h1.1, h1.2, hB _ (mem_of hc hp).2⟩
/-- What stands behind the first number, of the numbers T that came. -/
def GI (T : Int → Prop) (cum0 cum : BitVec 32) (ps : List Gap) : Prop := ∃ c : Nat, cum = cum0 + BitVec.ofNat 32 c ∧ c ≤ 256 ∧ (∀ x : Int, 1 ≤ x → x ≤ c → T x) ∧ ¬ T ((c : Int) + 1) ∧ canon 2 ps ∧ ∀ x : Int, 1 ≤ x → (mem x ps ↔ T (x + c))
theorem GI_eq {T T' : Int → Prop} {cum0 cum cum' : BitVec 32} {ps ps' : List Gap} (h : GI T cum0 cum ps) (h' : GI T' cum0 cum' ps') (hT : ∀ x, T x ↔ T' x) : cum = cum' ∧ ps = ps' := by
  obtain ⟨c, h1, h2, h3, h4, h5, h6⟩ := h
  obtain ⟨d, k1, k2, k3, k4, k5, k6⟩ := h'
  have e : c = d := by
    rcases Nat.lt_trichotomy c d with g | g | g
    · exact absurd ((hT _).2 (k3 ((c : Int) + 1) (by omega) (by omega))) h4
    · exact g
    · exact absurd ((hT _).1 (h3 ((d : Int) + 1) (by omega) (by omega))) k4
  subst e
  refine ⟨by rw [h1, k1], canon_eq h5 k5 fun x => ?_⟩
  rcases ilt_or_ge x 1 with g | g
  · exact ⟨fun m => by have := mem_lo h5 m; omega, fun m => by have := mem_lo k5 m; omega⟩
  · rw [h6 x g, k6 x g, hT]
theorem GI_0 {cum0 : BitVec 32} {T : Int → Prop} (hT : ∀ x, ¬ T x) : GI T cum0 cum0 [] := ⟨0, by simp, by omega, fun x h1 h2 => by omega, hT _, trivial, fun x _ => ⟨fun h => absurd h mem_nil, fun h => absurd h (hT _)⟩⟩
theorem GI_bnd {T : Int → Prop} {cum0 cum : BitVec 32} {ps : List Gap} (h : GI T cum0 cum ps) (hT : ∀ x, T x → 1 ≤ x ∧ x ≤ 256) : ps.length ≤ 200 ∧ okG ps := by
  obtain ⟨c, h1, h2, h3, h4, h5, h6⟩ := h
  have hb := bnd_of h5 (B := 256) (fun x hx => by have h7 := mem_lo h5 hx; have := (hT _ ((h6 x (by omega)).1 hx)).2; omega)
  refine ⟨?_, fun p hp => by have := hb p hp; exact ⟨by omega, by omega, by omega, by omega⟩⟩
  have := canon_len h5 (B := 256) (fun p hp => (hb p hp).2.2)
  omega
theorem diff_k {cum0 : BitVec 32} {k c : Nat} (hk : k < 256) (hc : c ≤ 256) : diffW (cum0 + 1#32 + BitVec.ofNat 32 k) (cum0 + BitVec.ofNat 32 c) = ((k : Int) + 1) - c := by
  have hm := cum0.isLt
  unfold diffW lessW
  simp only [BitVec.toNat_sub, BitVec.toNat_add, BitVec.toNat_ofNat]
  split <;> omega
/-- One more number comes. -/
theorem GI_add {T : Int → Prop} {cum0 cum : BitVec 32} {ps : List Gap} {ds : List Wx} {k : Nat} (h : GI T cum0 cum ps) (hT : ∀ x, T x → 1 ≤ x ∧ x ≤ 256) (hk : k < 256) : GI (fun x => T x ∨ x = (k : Int) + 1) cum0 (addS cum ps ds (cum0 + 1#32 + BitVec.ofNat 32 k)).1 (addS cum ps ds (cum0 + 1#32 + BitVec.ofNat 32 k)).2.1 := by
  obtain ⟨c, h1, h2, h3, h4, h5, h6⟩ := h
  have hd : diffW (cum0 + 1#32 + BitVec.ofNat 32 k) cum = ((k : Int) + 1) - c := by rw [h1]; exact diff_k hk h2
  generalize htsn : cum0 + 1#32 + BitVec.ofNat 32 k = tsn at *
  have same : (((k : Int) + 1 ≤ c) ∨ mem (((k : Int) + 1) - c) ps) → GI (fun x => T x ∨ x = (k : Int) + 1) cum0 cum ps := fun hh => by
    have hTk : T ((k : Int) + 1) := by
      rcases hh with g | g
      · exact h3 _ (by omega) g
      · have := mem_lo h5 g
        have := (h6 _ (by omega)).1 g
        rw [show ((k : Int) + 1) - c + c = (k : Int) + 1 by omega] at this
        exact this
    refine ⟨c, h1, h2, fun x a b => .inl (h3 x a b), fun g => ?_, h5, fun x hx => ?_⟩
    · rcases g with g | g
      · exact h4 g
      · rw [g] at h4; exact h4 hTk
    · rw [h6 x hx]
      exact ⟨.inl, fun g => g.elim (fun g => g) (fun g => by rw [g]; exact hTk)⟩
  unfold addS
  by_cases hlo : diffW tsn cum ≤ 0
  · have hl : lookZ cum ps tsn = 2 := if_pos hlo
    rw [if_pos hl]
    exact same (.inl (by omega))
  · by_cases hm : ps.any (inGb (diffW tsn cum)) = true
    · have hl : lookZ cum ps tsn = 2 := (if_neg hlo).trans (if_pos hm)
      rw [if_pos hl]
      rw [hd] at hm
      exact same (.inr hm)
    · have hl : lookZ cum ps tsn = 1 := (if_neg hlo).trans ((if_neg hm).trans (if_neg (by omega)))
      rw [if_neg (by omega), if_pos hl]
      obtain ⟨p1, p2⟩ := put_law (lo := 1) (far := diffW tsn cum) (canon_mono (by omega) h5) (by omega) hm
      obtain ⟨b, s1, s2, s3, s4, s5⟩ := set_law (cum := cum) p1
      have hin : ∀ x : Int, 1 ≤ x → (mem x (putL ps (diffW tsn cum)) ↔ (T (x + c) ∨ x + c = (k : Int) + 1)) := fun x hx => by
        rw [p2, h6 x hx, hd]
        constructor
        · rintro (g | g)
          · right; omega
          · exact .inl g
        · rintro (g | g)
          · exact .inr g
          · left; omega
      refine ⟨c + b, ?_, ?_, fun x x1 x2 => ?_, fun g => ?_, s2, fun x hx => ?_⟩
      · show (setl cum _).1 = _
        rw [s1, h1, BitVec.add_assoc, ← BitVec.ofNat_add]
      · rcases Nat.eq_zero_or_pos b with g | g
        · omega
        · have := (hin b (by omega)).1 (s3 b (by omega) (Int.le_refl _))
          rcases this with g | g
          · have := (hT _ g).2; omega
          · omega
      · rcases ilt_or_ge (c : Int) x with g | g
        · have := (hin (x - c) (by omega)).1 (s3 (x - c) (by omega) (by omega))
          rw [show x - c + c = x by omega] at this
          exact this
        · exact .inl (h3 x x1 g)
      · apply s4
        rw [hin _ (by omega)]
        rw [show (((c + b : Nat) : Int)) + 1 = (b : Int) + 1 + c by omega] at g
        exact g
      · show mem x (setl cum _).2 ↔ _
        rw [s5 x hx, hin _ (by omega)]
        rw [show x + (b : Int) + c = x + ((c + b : Nat) : Int) by omega]
end Go.Proofs.Ytmepflkodjdgdaa.Vt
