/- The abstract machine: slices of slices, conversions. -/
import Derived.Test.YtgajcmanompmcaaVmI
import Derived.Laws.BytesString
set_option linter.unusedVariables false
set_option linter.unusedSimpArgs false
namespace Go.Proofs.YtgajcmanompmcaaV
open Go.RowKit
section
variable {P : Program} {E : Env} {τ : Nat → Value} {a : Act} {ι : Inj} {σ : Store} {N n n' : Nat} {w0 w : World} {v : Value} {d : Delta}

inductive OR (ι : Inj) : Option Value → Option Value → Prop
  | none : OR ι none none
  | some {v v' : Value} (h : VR ι v v') : OR ι (some v) (some v')
theorem evO_run' (hτ : TR ι τ a) {x : Option Operand} {k : Option Value → T} {r : Value × Nat × Delta} (h : (evO τ x k).run n σ = some r) : ∃ v, OR ι v (x.map a.eval) ∧ (k v).run n σ = some r := by
  rcases evO_run hτ h with ⟨rfl, h⟩ | ⟨y, v, rfl, hv, h⟩
  · exact ⟨none, .none, h⟩
  · exact ⟨some v, .some hv, h⟩
theorem bound_some {l : Option Value} {l' : Option Value} (hl : OR ι l l') {dflt q : Nat} (h : bound l dflt = some q) : (l = none ∧ l' = none ∧ q = dflt) ∨ ∃ k i, l = some (.int k i) ∧ l' = some (.int k i) ∧ 0 ≤ i ∧ q = i.toNat := by
  unfold bound at h
  split at h
  · cases hl; cases h; exact .inl ⟨rfl, rfl, rfl⟩
  · rename_i k i
    cases hl with
    | some hv =>
      cases hv
      split at h
      · cases h; exact .inr ⟨k, i, rfl, rfl, ‹_›, rfl⟩
      · cases h
  · cases h
theorem sliceBound_run {k : IntKind} {i : Int} {y : Nat} {code : BoundsCode} (h0 : 0 ≤ i) (h : i.toNat ≤ y) : (Instr.sliceBound (.int k i) y code).run P w = .ok i.toNat w := by
  unfold Instr.sliceBound
  simp only [asIntOf, Sem.run_bind, Sem.run_pure, Result.andThen_ok]
  rw [if_pos ⟨h0, by omega⟩]
  rfl
theorem bounds_run {lo hi lo' hi' : Option Value} (hl : OR ι lo lo') (hh : OR ι hi hi') {isS : Bool} {len cap l h : Nat} (h1 : bound lo 0 = some l) (h2 : bound hi len = some h) (h3 : l ≤ h) (h4 : h ≤ cap) :
    (Instr.sliceBounds isS len cap lo' hi' none).run P w = .ok (l, h, cap) w := by
  unfold Instr.sliceBounds
  rcases bound_some hl h1 with ⟨rfl, rfl, rfl⟩ | ⟨k, i, rfl, rfl, h0, rfl⟩ <;> rcases bound_some hh h2 with ⟨rfl, rfl, rfl⟩ | ⟨k2, i2, rfl, rfl, h02, rfl⟩
  · simp only [Sem.run_bind, Sem.run_pure, Result.andThen_ok]
  · simp only [Sem.run_bind, Sem.run_pure, Result.andThen_ok, sliceBound_run h02 h4]
  · simp only [Sem.run_bind, Sem.run_pure, Result.andThen_ok, sliceBound_run h0 h3]
  · simp only [Sem.run_bind, Sem.run_pure, Result.andThen_ok, sliceBound_run h02 h4, sliceBound_run h0 h3]
theorem bounds3_run {lo hi lo' hi' : Option Value} (hl : OR ι lo lo') (hh : OR ι hi hi') {isS : Bool} {len cap l h : Nat} {k : IntKind} (h1 : bound lo 0 = some l) (h2 : bound hi len = some h) (h3 : l ≤ h) (h4 : h ≤ cap) (h5 : hi.isSome = true) :
    (Instr.sliceBounds isS len cap lo' hi' (some (.int k (h : Int)))).run P w = .ok (l, h, h) w := by
  have hm : ∀ code, (Instr.sliceBound (.int k (h : Int)) cap code).run P w = .ok h w := fun code => by
    have := sliceBound_run (P := P) (w := w) (k := k) (i := (h : Int)) (y := cap) (code := code) (by omega) (by simpa using h4)
    simpa using this
  unfold Instr.sliceBounds
  rcases bound_some hh h2 with ⟨rfl, rfl, rfl⟩ | ⟨k2, i2, rfl, rfl, h02, rfl⟩
  · cases h5
  · rcases bound_some hl h1 with ⟨rfl, rfl, rfl⟩ | ⟨k, i, rfl, rfl, h0, rfl⟩
    · simp only [Sem.run_bind, Sem.run_pure, Result.andThen_ok, hm, sliceBound_run h02 (Nat.le_refl _)]
    · simp only [Sem.run_bind, Sem.run_pure, Result.andThen_ok, hm, sliceBound_run h02 (Nat.le_refl _), sliceBound_run h0 h3]

/-- A slice without room, or nil. -/
theorem slice_zero (hE : EnvOk P E) {t elem : Nat} {ti ei : TI} (hti : E.ty t = some ti) (hd : ti.d = .slice elem) (hei : E.ty elem = some ei) {lo' hi' mx' : Option Value} {base : Option Addr} {cp m : Nat}
    (hb : (Instr.sliceBounds true 0 cp lo' hi' mx').run P w = .ok (0, 0, m) w) (hbase : base = none → m = 0) : (Instr.sliceAt t (.slice base 0 cp) lo' hi' mx').run P w = .ok (.slice base 0 m) w := by
  have hu := und_run hE w hti
  unfold Instr.sliceAt
  simp only [Sem.run_bind, hu, hd, Result.andThen_ok]
  unfold Instr.slice
  simp only [Sem.run_bind, hu, hd, Result.andThen_ok, hb, size_run hE w hei, Sem.run_pure, Nat.zero_mul, Nat.sub_zero]
  split
  · rfl
  · cases base with
    | none => have := hbase rfl; omega
    | some ad =>
      obtain ⟨b, o, s⟩ := ad
      simp [Addr.add]
theorem slice23_run (hE : EnvOk P E) (hR : Rel E.den N w0 ι σ w) {t elem i o len c l q : Nat} {ti ei : TI} (hti : E.ty t = some ti) (hd : ti.d = .slice elem) (hei : E.ty elem = some ei) {x' : Value} {lo hi mx lo' hi' mx' : Option Value} (hx : VR ι (.slice (some ⟨i, o, none⟩) len c) x') (hl : OR ι lo lo') (hh : OR ι hi hi') (hm : OR ι mx mx') (h1 : bound lo 0 = some l) (h2 : bound hi len = some q) (h : (aslice23 ei i o len c l q hi mx).run n σ = some (v, n', d)) :
    d = [] ∧ n' = n ∧ ∃ v', (Instr.sliceAt t x' lo' hi' mx').run P w = .ok v' w ∧ VR ι v v' := by
  unfold aslice23 at h
  split at h
  · rename_i hc
    subst hc
    split at h
    · rename_i hz
      obtain ⟨rfl, rfl, rfl, rfl⟩ := hz
      obtain ⟨rfl, rfl, rfl⟩ := ret_run h
      cases hm
      cases hx with
      | sliceE => exact ⟨rfl, rfl, _, slice_zero hE hti hd hei (bounds_run hl hh h1 h2 (Nat.le_refl _) (Nat.le_refl _)) (fun _ => rfl), .sliceE⟩
      | sliceE1 => exact ⟨rfl, rfl, _, slice_zero hE hti hd hei (bounds_run hl hh h1 h2 (Nat.le_refl _) (Nat.le_refl _)) (fun _ => rfl), .sliceE1⟩
    · exact (fail_run h).elim
  · split at h
    · rename_i hc
      subst hc
      split at h
      · obtain ⟨ob, ho, h⟩ := get_run h
        obtain ⟨p, g1, g2, g3⟩ := hR.obj _ _ ho
        split at h
        · rename_i hz
          obtain ⟨hsz, hlq, hql, hroom⟩ := hz
          obtain ⟨rfl, rfl, rfl⟩ := ret_run h
          cases hm
          have hcap := g3.cap
          have hps : p.sz = ei.size := g3.sz.trans hsz
          have hu := und_run hE w hti
          cases hx with
          | sliceM hp hcp =>
            rw [g1] at hp; cases hp
            have hrun : (Instr.sliceAt t (.slice (some ⟨p.b, p.off + o * p.sz, none⟩) len (p.cap - o)) lo' hi' none).run P w = .ok (.slice (if p.cap - o = l then some ⟨p.b, p.off + o * p.sz, none⟩ else some (Addr.add ⟨p.b, p.off + o * p.sz, none⟩ (l * ei.size))) (q - l) (p.cap - o - l)) w := by
              unfold Instr.sliceAt
              simp only [Sem.run_bind, hu, hd, Result.andThen_ok]
              unfold Instr.slice
              simp only [Sem.run_bind, hu, hd, Result.andThen_ok, bounds_run hl hh h1 h2 hlq (show q ≤ p.cap - o by omega), size_run hE w hei, Sem.run_pure]
              split <;> rfl
            refine ⟨rfl, rfl, _, hrun, ?_⟩
            split
            · rename_i hcl
              have e1 : q - l = 0 := by omega
              rw [e1, show p.cap - o - l = 0 by omega]
              exact .sliceMZ g1 (by omega)
            · rw [addr_add]
              have := VR.sliceM (ι := ι) (o := o + l) (n := q - l) g1 (by omega)
              rw [Nat.add_mul, hps] at this
              rw [hps, Nat.add_assoc, show p.cap - o - l = p.cap - (o + l) by omega]
              exact this
          | sliceMZ hp hc0 =>
            rw [g1] at hp; cases hp
            have hl0 : l = 0 := by omega
            have hq0 : q = 0 := by omega
            subst hl0 hq0
            exact ⟨rfl, rfl, _, slice_zero hE hti hd hei (bounds_run hl hh h1 h2 (Nat.le_refl _) (Nat.le_refl _)) (fun _ => rfl), .sliceMZ g1 hc0⟩
          | sliceMN =>
            have hl0 : l = 0 := by omega
            have hq0 : q = 0 := by omega
            subst hl0 hq0
            exact ⟨rfl, rfl, _, slice_zero hE hti hd hei (bounds_run hl hh h1 h2 (Nat.le_refl _) (Nat.le_refl _)) (fun _ => rfl), .sliceMN⟩
        · exact (fail_run h).elim
      · rename_i k m
        split at h
        · rename_i hz
          obtain ⟨rfl, rfl, rfl, hhi⟩ := hz
          obtain ⟨ob, ho, h⟩ := get_run h
          split at h
          · rename_i hsz
            obtain ⟨rfl, rfl, rfl⟩ := ret_run h
            cases hm with | some hm' =>
            cases hm'
            have hb3 : ∀ cp, (Instr.sliceBounds true len cp lo' hi' (some (.int k 0))).run P w = .ok (0, 0, 0) w := fun cp => by
              have := bounds3_run (P := P) (w := w) (isS := true) (cap := cp) (k := k) hl hh h1 h2 (Nat.le_refl _) (Nat.zero_le _) hhi
              simpa using this
            have hu := und_run hE w hti
            have hrun : ∀ base cp, (Instr.sliceAt t (.slice base len cp) lo' hi' (some (.int k 0))).run P w = .ok (.slice base 0 0) w := fun base cp => by
              unfold Instr.sliceAt
              simp only [Sem.run_bind, hu, hd, Result.andThen_ok]
              unfold Instr.slice
              simp only [Sem.run_bind, hu, hd, Result.andThen_ok, hb3, size_run hE w hei, Sem.run_pure]
              rfl
            have hxs : ∃ base cp, x' = .slice base len cp := by cases hx <;> exact ⟨_, _, rfl⟩
            obtain ⟨base, cp, rfl⟩ := hxs
            refine ⟨rfl, rfl, _, hrun _ _, ?_⟩
            cases base with
            | none => exact .sliceE
            | some a => exact .sliceE1
          · exact (fail_run h).elim
        · exact (fail_run h).elim
      · exact (fail_run h).elim
    · exact (fail_run h).elim
theorem slice_run (hE : EnvOk P E) (hR : Rel E.den N w0 ι σ w) {t : Nat} {x x' : Value} {lo hi mx lo' hi' mx' : Option Value} (hx : VR ι x x') (hl : OR ι lo lo') (hh : OR ι hi hi') (hm : OR ι mx mx') (h : (aslice E t x lo hi mx).run n σ = some (v, n', d)) :
    d = [] ∧ n' = n ∧ ∃ v', (Instr.sliceAt t x' lo' hi' mx').run P w = .ok v' w ∧ VR ι v v' := by
  unfold aslice at h
  split at h
  · exact (fail_run h).elim
  · rename_i ti hti
    have hu := und_run hE w hti
    split at h
    · rename_i s hd
      split at h
      · exact (fail_run h).elim
      · rename_i hmx
        split at h
        · rename_i l q h1 h2
          split at h
          · rename_i hc
            simp only [Bool.and_eq_true, decide_eq_true_eq] at hc
            obtain ⟨rfl, rfl, rfl⟩ := ret_run h
            cases hx
            cases hm with
            | some _ => simp at hmx
            | none =>
              refine ⟨rfl, rfl, _, ?_, .str _⟩
              unfold Instr.sliceAt
              simp only [Sem.run_bind, hu, hd, Result.andThen_ok]
              unfold Instr.slice
              simp only [Sem.run_bind, hu, hd, Result.andThen_ok, Option.isSome_none, Bool.false_eq_true, if_false, bounds_run hl hh h1 h2 hc.1 hc.2, Sem.run_pure]
          · exact (fail_run h).elim
        · exact (fail_run h).elim
    · rename_i elem hd
      split at h
      · rename_i ei hei h1 h2 h3
        split at h
        · exact (fail_run h).elim
        · rename_i hc
          obtain ⟨rfl, rfl, rfl⟩ := ret_run h
          cases hx
          refine ⟨rfl, rfl, .slice none 0 0, ?_, .sliceNil⟩
          have hb : (Instr.sliceBounds true 0 0 lo' hi' mx').run P w = .ok (0, 0, 0) w := by
            cases hm with
            | none => exact bounds_run hl hh h1 h2 (Nat.le_refl _) (Nat.le_refl _)
            | @some m m' hm =>
              unfold bound at h3
              split at h3
              · rename_i hsm; cases hsm
              · rename_i k i hki
                cases hki
                cases hm
                split at h3
                · rename_i hi0
                  have h3' := Option.some.inj h3
                  have : i = ((0 : Nat) : Int) := by omega
                  subst this
                  exact bounds3_run hl hh h1 h2 (Nat.le_refl _) (Nat.le_refl _) (by cases hi <;> simp_all)
                · cases h3
              · cases h3
          unfold Instr.sliceAt
          simp only [Sem.run_bind, hu, hd, Result.andThen_ok]
          unfold Instr.slice
          simp only [Sem.run_bind, hu, hd, Result.andThen_ok, hb, size_run hE w hei, Sem.run_pure, if_true, Nat.sub_self]
      · exact (fail_run h).elim
    · rename_i elem i o len c hd
      split at h
      · rename_i ei l q hei h1 h2
        split at h
        · exact slice23_run hE hR hti hd hei hx hl hh hm h1 h2 h
        rename_i hc2
        split at h
        · rename_i hz
          obtain ⟨rfl, rfl, rfl⟩ := ret_run h
          simp only [Bool.and_eq_true, beq_iff_eq, Option.isNone_iff_eq_none] at hz
          obtain ⟨⟨⟨⟨rfl, rfl⟩, rfl⟩, rfl⟩, rfl⟩ := hz
          cases hm
          have hx2 : ∃ ad, x' = .slice (some ad) 0 0 := by cases hx <;> first | exact ⟨_, rfl⟩ | omega
          obtain ⟨ad, rfl⟩ := hx2
          refine ⟨rfl, rfl, .slice (some ad) 0 0, ?_, .sliceZ1⟩
          unfold Instr.sliceAt
          simp only [Sem.run_bind, hu, hd, Result.andThen_ok]
          unfold Instr.slice
          simp only [Sem.run_bind, hu, hd, Result.andThen_ok, bounds_run hl hh h1 h2 (Nat.le_refl _) (Nat.le_refl _), size_run hE w hei, Sem.run_pure]
          rfl
        obtain ⟨ob, ho, h⟩ := get_run h
        obtain ⟨p, g1, g2, g3⟩ := hR.obj _ _ ho
        split at h
        · exact (fail_run h).elim
        · rename_i hc
          simp only [Bool.or_eq_true, decide_eq_true_eq, not_or, Decidable.not_not, Bool.not_eq_true', decide_eq_false_iff_not] at hc
          obtain ⟨⟨⟨hsz, hlq⟩, hql⟩, hroom⟩ := hc
          have hsz' : ob.sz = ei.size := by simpa using hsz
          have hql2 : q ≤ len ∨ c = 0 ∧ o + q ≤ ob.es.length := by
            by_cases h1 : q ≤ len
            · exact .inl h1
            · exact .inr (Decidable.byContradiction fun h2 => by simp_all)
          clear hql
          have hql := hql2
          clear hql2
          have hcap := g3.cap
          have hps : p.sz = ei.size := g3.sz.trans hsz'
          -- what the model's slice comes to
          have run1 : ∀ (ad : Addr) (m c' : Nat), q ≤ c' → mx' = none → (Instr.sliceAt t (.slice (some ad) len c') lo' hi' mx').run P w = .ok (.slice (if c' = l then some ad else some (ad.add (l * ei.size))) (q - l) (c' - l)) w := by
            intro ad m c' hq hmx
            subst hmx
            unfold Instr.sliceAt
            simp only [Sem.run_bind, hu, hd, Result.andThen_ok]
            unfold Instr.slice
            simp only [Sem.run_bind, hu, hd, Result.andThen_ok, bounds_run hl hh h1 h2 hlq hq, size_run hE w hei, Sem.run_pure]
            split <;> rfl
          have run3 : ∀ (ad : Addr) (m c' : Nat) (k : IntKind), q ≤ c' → mx' = some (.int k (q : Int)) → hi.isSome = true → (Instr.sliceAt t (.slice (some ad) len c') lo' hi' mx').run P w = .ok (.slice (if q = l then some ad else some (ad.add (l * ei.size))) (q - l) (q - l)) w := by
            intro ad m c' k hq hmx hhi
            subst hmx
            unfold Instr.sliceAt
            simp only [Sem.run_bind, hu, hd, Result.andThen_ok]
            unfold Instr.slice
            simp only [Sem.run_bind, hu, hd, Result.andThen_ok, bounds3_run hl hh h1 h2 hlq hq hhi, size_run hE w hei, Sem.run_pure]
            split <;> rfl
          have hS := slice_cases (o := ob) hx
          -- how much room there is
          have room : ∀ {ad : Addr} {c' : Nat}, x' = .slice (some ad) len c' → q ≤ c' ∧ (0 < len ∨ 0 < q ∨ True) := by
            intro ad c' hx'
            subst hx'
            cases hS with
            | at_ hp hc hcc e0 e1 =>
              rw [g1] at hp; cases hp
              rcases hql with h | ⟨h, h'⟩
              · exact ⟨by omega, .inr (.inr trivial)⟩
              · have := e0 h; exact ⟨by omega, .inr (.inr trivial)⟩
            | zero e0 ez e1 =>
              rcases hql with h | ⟨h, h'⟩
              · exact ⟨by omega, .inr (.inr trivial)⟩
              · obtain ⟨p', hp', hz'⟩ := ez h
                rw [g1] at hp'; cases hp'
                exact ⟨by omega, .inr (.inr trivial)⟩
          split at h
          · -- no third bound
            cases hm
            split at h
            · rename_i hc0
              obtain ⟨rfl, rfl, rfl⟩ := ret_run h
              subst hc0
              cases hS with
              | @at_ p' c' hp hcp hcc e0 e1 =>
                rw [g1] at hp; cases hp
                have hcq := (room rfl).1
                have e0' := e0 rfl
                refine ⟨rfl, rfl, _, run1 _ 0 c' hcq rfl, ?_⟩
                split
                · rename_i hcl
                  have : q - l = 0 := by omega
                  rw [this, show c' - l = 0 by omega]
                  exact .sliceZ g1 (by omega)
                · rw [addr_add]
                  exact VR_slice g1 (by omega) rfl (by rw [Nat.add_mul, hps]; omega) (by omega)
              | nil _ h23 => omega
              | zero e0 ez e1 =>
                obtain ⟨p', hp', hz'⟩ := ez rfl
                rw [g1] at hp'; cases hp'
                subst e0
                have hcq := (room rfl).1
                refine ⟨rfl, rfl, _, run1 _ 0 0 hcq rfl, ?_⟩
                have hl0 : l = 0 := by omega
                have hq0 : q = 0 := by omega
                subst hl0 hq0
                simp only [if_true, Nat.sub_self, Nat.add_zero]
                exact .sliceZ g1 hz'
            · split at h
              · rename_i hc0 hc1
                obtain ⟨rfl, rfl, rfl⟩ := ret_run h
                obtain ⟨hcone, hqlen⟩ := hc1
                subst hcone
                cases hS with
                | @at_ p' c' hp hcp hcc e0 e1 =>
                  rw [g1] at hp; cases hp
                  have e1' := e1 rfl
                  have e2' : c' = q := by omega
                  subst e2'
                  clear e1' e1
                  subst hqlen
                  refine ⟨rfl, rfl, _, run1 _ 0 _ (Nat.le_refl _) rfl, ?_⟩
                  split
                  · rename_i hcl
                    subst hcl
                    rw [Nat.sub_self]
                    exact .sliceZ1
                  · rw [addr_add]
                    have := VR.sliceC (ι := ι) (o := o + l) (n := c' - l) g1 (by omega)
                    rw [Nat.add_mul, hps] at this
                    rw [hps, Nat.add_assoc]
                    exact this
                | nil _ h23 => omega
                | zero e0 ez e1 =>
                  subst e0
                  subst hqlen
                  refine ⟨rfl, rfl, _, run1 _ 0 0 (Nat.le_refl _) rfl, ?_⟩
                  have hl0 : l = 0 := by omega
                  subst hl0
                  simp only [if_true, Nat.sub_self, Nat.add_zero]
                  exact .sliceZ1
              · exact (fail_run h).elim
          · -- a third bound
            rename_i k m
            cases hm with | some hm' =>
            cases hm'
            split at h
            · rename_i hc3
              simp only [Bool.and_eq_true, decide_eq_true_eq] at hc3
              obtain ⟨hmq, hhi⟩ := hc3
              subst hmq
              obtain ⟨rfl, rfl, rfl⟩ := ret_run h
              cases hS with
              | @at_ p' c' hp hcp hcc e0 e1 =>
                rw [g1] at hp; cases hp
                have hcq := (room rfl).1
                refine ⟨rfl, rfl, _, run3 _ 0 c' _ hcq rfl hhi, ?_⟩
                split
                · rename_i hcl
                  subst hcl
                  rw [Nat.sub_self]
                  exact .sliceZ1
                · rw [addr_add]
                  have := VR.sliceC (ι := ι) (o := o + l) (n := q - l) g1 (by
                    rcases hql with h | ⟨h, h'⟩ <;> omega)
                  rw [Nat.add_mul, hps] at this
                  rw [hps, Nat.add_assoc]
                  exact this
              | nil _ h23 => omega
              | zero e0 ez e1 =>
                subst e0
                have hcq := (room rfl).1
                refine ⟨rfl, rfl, _, run3 _ 0 0 _ hcq rfl hhi, ?_⟩
                have hl0 : l = 0 := by omega
                have hq0 : q = 0 := by omega
                subst hl0 hq0
                simp only [if_true, Nat.sub_self, Nat.add_zero]
                exact .sliceZ1
            · exact (fail_run h).elim
          · exact (fail_run h).elim
      · exact (fail_run h).elim
    · exact (fail_run h).elim

theorem bounds4_run {lo hi lo' hi' : Option Value} (hl : OR ι lo lo') (hh : OR ι hi hi') {isS : Bool} {len cap l h : Nat} {k : IntKind} {m : Int} (h1 : bound lo 0 = some l) (h2 : bound hi len = some h) (h3 : l ≤ h) (hm0 : 0 ≤ m) (h4 : h ≤ m.toNat) (hm : m.toNat ≤ cap) (h5 : hi.isSome = true) :
    (Instr.sliceBounds isS len cap lo' hi' (some (.int k m))).run P w = .ok (l, h, m.toNat) w := by
  unfold Instr.sliceBounds
  rcases bound_some hh h2 with ⟨rfl, rfl, rfl⟩ | ⟨k2, i2, rfl, rfl, h02, rfl⟩
  · cases h5
  · rcases bound_some hl h1 with ⟨rfl, rfl, rfl⟩ | ⟨k, i, rfl, rfl, h0, rfl⟩
    · simp only [Sem.run_bind, Sem.run_pure, Result.andThen_ok, sliceBound_run hm0 hm, sliceBound_run h02 h4]
    · simp only [Sem.run_bind, Sem.run_pure, Result.andThen_ok, sliceBound_run hm0 hm, sliceBound_run h02 h4, sliceBound_run h0 h3]
theorem rel_ghost {D : Den} (hR : Rel D N w0 ι σ w) (hn : ι n = none) (p : Place) : Rel D N w0 (ι.set n p) σ w := by
  have hle := Inj.set_le hn p
  have key : ∀ i o q, σ i = some o → ι.set n p i = some q → ι i = some q := fun i o q e h => by
    obtain ⟨q', h1, _⟩ := hR.obj i o e
    rw [hle i q' h1] at h; rw [h1]; exact h
  exact ⟨hR.below, hR.size, fun i o e => by
    obtain ⟨q, h1, h2, h3⟩ := hR.obj i o e
    exact ⟨q, hle i q h1, h2, h3.keep hle (.inr rfl)⟩, fun i j o o' q q' e1 e2 f1 f2 hij hw => hR.sep i j o o' q q' e1 e2 (key i o q e1 f1) (key j o' q' e2 f2) hij hw, fun c v e => by
    obtain ⟨q, h1, h2⟩ := hR.den c v e
    exact ⟨q, hle c q h1, h2⟩⟩
theorem op_slice (hE : EnvOk P E) (hR : Rel E.den N w0 ι σ w) (hτ : TR ι τ a) (hn : ∀ i, n ≤ i → i < n' → ι i = none) {t : Nat} {x : Operand} {lo hi mx : Option Operand} (h : (ev τ x fun v => evO τ lo fun l => evO τ hi fun h => evO τ mx fun m => aslice2 E t v l h m).run n σ = some (v, n', d)) :
    Good E.den N w0 ι σ n n' v d ((do pure (Next.value (← Instr.sliceAt t (a.eval x) (lo.map a.eval) (hi.map a.eval) (mx.map a.eval))) : Sem Next).run P w) := by
  obtain ⟨u, hu, h⟩ := ev_run hτ h
  obtain ⟨l, hl, h⟩ := evO_run' hτ h
  obtain ⟨q, hq, h⟩ := evO_run' hτ h
  obtain ⟨m, hm, h⟩ := evO_run' hτ h
  unfold aslice2 at h
  split at h
  · rename_i i o len l0 h0 sz hg
    obtain ⟨rfl, rfl, rfl⟩ := ret_run (fresh_run h)
    have hfr := hn n (Nat.le_refl _) (by omega)
    generalize a.eval x = x' at hu
    generalize lo.map a.eval = lo' at hl
    generalize hi.map a.eval = hi' at hq
    generalize mx.map a.eval = mx' at hm
    unfold ghostOk at hg
    split at hg
    · rename_i k m0 i' o' len' cg hh1 hh2
      split at hg
      · rename_i ti hti
        split at hg
        · rename_i elem l1 h1 hd e1 e2
          split at hg
          · rename_i ei hei
            split at hg
            · rename_i hc
              simp only [Bool.and_eq_true, decide_eq_true_eq] at hc
              obtain ⟨⟨⟨⟨c1, c2⟩, c3⟩, c4⟩, c5⟩ := hc
              simp only [Option.some.injEq, Prod.mk.injEq] at hg
              obtain ⟨rfl, rfl, rfl, rfl, rfl, rfl⟩ := hg
              cases hm with | some hm' =>
              cases hm'
              have hu0 := und_run hE w hti
              have main : ∀ {p : Place}, ι i' = some p → o' + len' ≤ p.cap → x' = .slice (some ⟨p.b, p.off + o' * p.sz, none⟩) len' (p.cap - o') → Good E.den N w0 ι σ n (n + 1) (.slice (some ⟨n, 0, none⟩) (h1 - l1) 0) [] ((do pure (Next.value (← Instr.sliceAt t x' lo' hi' (some (.int k m0)))) : Sem Next).run P w) := by
                intro p hp hcap hx'
                subst hx'
                have hrun : (Instr.sliceAt t (.slice (some ⟨p.b, p.off + o' * p.sz, none⟩) len' (p.cap - o')) lo' hi' (some (.int k m0))).run P w = .ok (.slice (some (Addr.add ⟨p.b, p.off + o' * p.sz, none⟩ (l1 * ei.size))) (h1 - l1) (m0.toNat - l1)) w := by
                  unfold Instr.sliceAt
                  simp only [Sem.run_bind, hu0, hd, Result.andThen_ok]
                  unfold Instr.slice
                  simp only [Sem.run_bind, hu0, hd, Result.andThen_ok, bounds4_run (m := m0) (k := k) (cap := p.cap - o') hl hq e1 e2 c1 (by omega) (by omega) (by omega) c4, size_run hE w hei, Sem.run_pure]
                  rw [if_neg (by omega)]
                  rfl
                refine ⟨.value (.slice (some (Addr.add ⟨p.b, p.off + o' * p.sz, none⟩ (l1 * ei.size))) (h1 - l1) (m0.toNat - l1)), w, (.slice (some (Addr.add ⟨p.b, p.off + o' * p.sz, none⟩ (l1 * ei.size))) (h1 - l1) (m0.toNat - l1)), ι.set n ⟨p.b, p.off + o' * p.sz + l1 * ei.size, 1, m0.toNat - l1, none⟩, ?_, .inl rfl, Inj.set_le hfr _, fun i => Inj.set_only i, rel_ghost hR hfr _, ?_⟩
                · simp only [Sem.run_bind, hrun, Result.andThen_ok, Sem.run_pure]
                · rw [addr_add]
                  exact VR.slice (o := 0) (Inj.set_self _ _ _) (by show 0 + (h1 - l1) ≤ m0.toNat - l1; omega)
              cases hu with
              | slice hp hcap => exact main hp hcap rfl
              | sliceM hp hcap => exact main hp hcap rfl
              | sliceC hp hcap => exact absurd c5 (by decide)
              | _ => exfalso; omega
            · cases hg
          · cases hg
        · cases hg
      · cases hg
    · cases hg
  · obtain ⟨rfl, rfl, v', h1, h2⟩ := slice_run hE hR hu hl hq hm h
    exact good_of hR h2 h1

theorem bytes_fold : ∀ {xs : List (List Value)} {cs : List Value} {s r : ByteArray}, VRs ι xs.flatten cs → bytesOfL xs s = some r → ∃ ns : List Int, cs = ns.map (Value.int .u8) ∧ ns.foldl (fun r n => r.push (UInt8.ofNat n.toNat)) s = r
  | [], cs, s, r, hc, h => by
    simp at hc; cases hc
    simp [bytesOfL] at h; exact ⟨[], rfl, h⟩
  | e :: xs, cs, s, r, hc, h => by
    cases e with
    | nil => simp [bytesOfL] at h
    | cons v e' =>
      cases e' with
      | cons _ _ => cases v with
        | int k q => cases k <;> simp [bytesOfL] at h
        | _ => simp [bytesOfL] at h
      | nil =>
        cases v with
        | int k q =>
          cases k with
          | u8 =>
            simp only [bytesOfL] at h
            simp only [List.flatten_cons, List.singleton_append] at hc
            cases hc with
            | cons hv hs =>
              cases hv
              obtain ⟨ns, h1, h2⟩ := bytes_fold hs h
              exact ⟨q :: ns, by simp [h1], h2⟩
          | _ => simp [bytesOfL] at h
        | _ => simp [bytesOfL] at h

theorem astr_run (hR : Rel E.den N w0 ι σ w) {x x' : Value} (hx : VR ι x x') (h : (astr x).run n σ = some (v, n', d)) : d = [] ∧ n' = n ∧ ∃ s, v = .string s ∧ (Conv.bytesToString x').run P w = .ok (.string s) w := by
  unfold astr at h
  split at h
  · obtain ⟨rfl, rfl, rfl⟩ := ret_run h
    cases hx
    exact ⟨rfl, rfl, _, rfl, rfl⟩
  · rename_i i o m c
    split at h
    · rename_i h0
      subst h0
      obtain ⟨rfl, rfl, rfl⟩ := ret_run h
      refine ⟨rfl, rfl, _, rfl, ?_⟩
      cases hx <;> simp [Conv.bytesToString, loadCells, loadCellsFrom]
    · rename_i h0
      obtain ⟨ob, ho, h⟩ := get_run h
      split at h
      · rename_i hc
        split at h
        · rename_i s hs
          obtain ⟨rfl, rfl, rfl⟩ := ret_run h
          obtain ⟨p, g1, g2, g3⟩ := hR.obj _ _ ho
          obtain ⟨cs, h1, h2⟩ := row_of g3 o m
          have hel : ∀ e ∈ (ob.es.drop o).take m, e.length = 1 := fun e he => (elems_len g3 e he).trans hc.1
          have hcl : cs.length = m := by rw [← h1.length, flat_length hel, hc.2, Nat.mul_one]
          obtain ⟨ns, e1, e2⟩ := bytes_fold h1 hs
          have hload := run_loadCells_list (P := P) w ⟨p.b, p.off + o * p.sz, none⟩ cs h2
          rw [hcl] at hload
          have fin : ∀ c', (Conv.bytesToString (.slice (some ⟨p.b, p.off + o * p.sz, none⟩) m c')).run P w = .ok (.string s) w := by
            intro c'
            simp only [Conv.bytesToString, Sem.run_bind, hload, Result.andThen_ok]
            rw [← Array.forIn_toList]
            simp only [e1]
            rw [run_forIn_bytes _ (by intro n r; simp [Sem.run_pure])]
            simp only [Result.andThen_ok, Sem.run_pure, e2]
          refine ⟨rfl, rfl, s, rfl, ?_⟩
          cases hx with
          | slice hp _ => rw [hp] at g1; cases g1; exact fin _
          | sliceC hp _ => rw [hp] at g1; cases g1; exact fin _
          | sliceM hp _ => rw [hp] at g1; cases g1; exact fin _
          | _ => exact absurd rfl h0
        · exact (fail_run h).elim
      · exact (fail_run h).elim
  · exact (fail_run h).elim
end
end Go.Proofs.YtgajcmanompmcaaV
