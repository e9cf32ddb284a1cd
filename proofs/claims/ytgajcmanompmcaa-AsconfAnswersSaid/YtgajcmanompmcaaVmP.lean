/- The abstract machine: a region whose order is drawn is what its text says. -/
import Derived.Test.YtgajcmanompmcaaVmO
set_option linter.unusedVariables false
set_option linter.unusedSimpArgs false
namespace Go.Proofs.YtgajcmanompmcaaV
open Go.RowKit
section
variable {P : Program} {E : Env} {C : CallRel} {N : Nat} {w0 : World}

theorem getD_setB {l : Array Bool} {i j : Nat} (hi : i < l.size) : (l.setIfInBounds i true).getD j false = pick (fun k => l.getD k false) i j := by
  unfold pick
  by_cases h : j = i
  · subst h; simp [hi]
  · rw [if_neg h]; simp [Array.getElem?_setIfInBounds_ne (fun e => h e.symm)]

theorem looks_operand {ops : Array Oper} {o : Oper} {t : Nat} (h : Operand.tmp t ∈ o.op.operands) : t ∈ o.looksAt ops := by
  unfold Oper.looksAt
  exact List.mem_append_left _ (List.mem_filterMap.2 ⟨.tmp t, by simpa using h, rfl⟩)
theorem looks_guard {ops : Array Oper} {o : Oper} {g : Nat} {u : Bool} {t : Nat} (h : o.guard = some (g, u)) (hd : (ops[g]?).bind (·.dst) = some t) : t ∈ o.looksAt ops := by
  unfold Oper.looksAt
  refine List.mem_append_right _ ?_
  rw [h]
  simp only
  rw [hd]
  simp

theorem par_any (hE : EnvOk P E) (hC : CallOk P E.den C) {ops : Array Oper} {m n : Nat} {τ : Tm} {σ σ2 : Store} {ι : Inj} {vs : Nat → Value} {ns : Nat → Nat} {Ds : Nat → Delta} {K : Nat → List Nat} (hp : ParOk ops n σ ns Ds K) (h0 : ns 0 = n) (hsub : Sub σ σ2)
    (hst : ∀ j o, ops[j]? = some o → dstOk m o = true ∧ (if wantA ops (selT ops τ vs allB j) o = true then Step E C (selT ops τ vs allB j) o (ns j) (restr ops K Ds σ j) (vs j) (ns (j + 1)) (Ds j) else vs j = undef ∧ ns (j + 1) = ns j ∧ Ds j = []))
    {Q : Exit → Act → World → Prop}
    (hQ : ∀ κ w' a', End E.den N w0 ι σ2 n (ns ops.size) (selD Ds allB ops.size) κ w' → TR κ (selT ops τ vs allB ops.size) a' → a'.tmps.size = m → a'.defers = [] → Q .normal a' w') :
    ∀ (fuel : Nat) (l : Array Bool) (κ : Inj) (a : Act) (w : World), l.size = ops.size → ((List.range ops.size).filter fun i => !l.getD i false).length ≤ fuel →
      (∀ j o, ops[j]? = some o → l.getD j false = true → ∀ e ∈ o.after, Region.binds .any e = true → l.getD e.on false = true) →
      ι.le κ → (∀ i, κ i ≠ ι i → n ≤ i ∧ i < ns ops.size) → Rel E.den N w0 κ (app (selD Ds (fun k => l.getD k false) ops.size) σ2) w → TR κ (selT ops τ vs (fun k => l.getD k false) ops.size) a → a.tmps.size = m → a.defers = [] →
      (∀ j, j < ops.size → l.getD j false = false → Fresh κ (ns j) (ns (j + 1))) → wpAny P .any ops Q fuel l a w := by
  -- what is closed under the edges is closed under what waits
  have closed : ∀ (l : Array Bool), (∀ j o, ops[j]? = some o → l.getD j false = true → ∀ e ∈ o.after, Region.binds .any e = true → l.getD e.on false = true) → ∀ (j : Nat) (o : Oper), ops[j]? = some o → (∀ e ∈ o.after, Region.binds .any e = true → l.getD e.on false = true) → ∀ i ∈ B ops j, l.getD i false = true := by
    intro l hl j
    induction j using Nat.strongRecOn with
    | _ j ih =>
      intro o hj he i hi
      obtain ⟨e, hem, hb, hor⟩ := B_spec hj hi
      have h1 := he e hem hb
      rcases hor with rfl | ⟨hlt, h2⟩
      · exact h1
      · have hes : e.on < ops.size := by have := (Array.getElem?_eq_some_iff.1 hj).1; omega
        have hg := Array.getElem?_eq_getElem hes
        exact ih e.on hlt _ hg (hl _ _ hg h1) i h2
  -- where nothing is ready all has come up
  have allUp : ∀ (l : Array Bool), l.size = ops.size → Region.ready .any ops l = [] → ∀ j, j < ops.size → l.getD j false = true := by
    intro l hsz hr j
    induction j using Nat.strongRecOn with
    | _ j ih =>
      intro hj
      cases hv : l.getD j false with
      | true => rfl
      | false =>
        have hg := Array.getElem?_eq_getElem hj
        have : j ∈ Region.ready .any ops l := mem_ready.2 ⟨by
          have hjl : j < l.size := by omega
          simp [hjl] at hv ⊢; exact hv, _, hg, fun e he hb => ih e.on (parOk_edges hp.ok hg e he hb) (by have := parOk_edges hp.ok hg e he hb; omega)⟩
        rw [hr] at this; cases this
  have fin : ∀ (l : Array Bool) (κ : Inj) (a : Act) (w : World), l.size = ops.size → Region.ready .any ops l = [] → ι.le κ → (∀ i, κ i ≠ ι i → n ≤ i ∧ i < ns ops.size) → Rel E.den N w0 κ (app (selD Ds (fun k => l.getD k false) ops.size) σ2) w → TR κ (selT ops τ vs (fun k => l.getD k false) ops.size) a → a.tmps.size = m → a.defers = [] → Q .normal a w := by
    intro l κ a w hsz hr hle honly hR hT hm hdf
    have hall := allUp l hsz hr
    have e1 : selT ops τ vs (fun k => l.getD k false) ops.size = selT ops τ vs allB ops.size := by
      funext t
      exact selT_congr _ fun i hi _ => hall i hi
    have e2 : app (selD Ds (fun k => l.getD k false) ops.size) σ2 = app (selD Ds allB ops.size) σ2 := by
      funext x
      exact selD_congr _ fun i hi _ => hall i hi
    rw [e1] at hT
    rw [e2] at hR
    exact hQ κ w a ⟨hle, honly, hR⟩ hT hm hdf
  intro fuel
  induction fuel with
  | zero =>
    intro l κ a w hsz hc hcl hle honly hR hT hm hdf hfr
    have hr : Region.ready .any ops l = [] := by
      have hnil : ((List.range ops.size).filter fun i => !l.getD i false) = [] := List.eq_nil_of_length_eq_zero (by omega)
      refine List.eq_nil_iff_forall_not_mem.2 fun j hj => ?_
      obtain ⟨hun, o, ho, _⟩ := mem_ready.1 hj
      have hlt : j < ops.size := (Array.getElem?_eq_some_iff.1 ho).1
      have : j ∈ (List.range ops.size).filter fun i => !l.getD i false := List.mem_filter.2 ⟨List.mem_range.2 hlt, by
        have hjl : j < l.size := by omega
        simp [hjl] at hun ⊢; exact hun⟩
      rw [hnil] at this; cases this
    exact ⟨hr, fin l κ a w hsz hr hle honly hR hT hm hdf⟩
  | succ fuel ih =>
    intro l κ a w hsz hc hcl hle honly hR hT hm hdf hfr
    refine ⟨fun hr => fin l κ a w hsz hr hle honly hR hT hm hdf, fun j hj => ?_⟩
    obtain ⟨hun, o, ho, hedge⟩ := mem_ready.1 hj
    have hlt : j < ops.size := (Array.getElem?_eq_some_iff.1 ho).1
    have hjl : j < l.size := by omega
    have hlj : l.getD j false = false := by simp [hjl] at hun ⊢; exact hun
    have hBj := closed l hcl j o ho hedge
    -- what has come up and isn't waited for is loose
    have hloose : ∀ i, i < ops.size → i ≠ j → l.getD i false = true → i ∉ B ops j → loose ops i j = true := by
      intro i hi hij hli hni
      simp only [loose, Bool.and_eq_true, bne_iff_ne, Bool.not_eq_true', List.contains_eq_mem, decide_eq_false_iff_not]
      refine ⟨⟨hij, hni⟩, fun hji => ?_⟩
      have hg := Array.getElem?_eq_getElem hi
      have := closed l hcl i _ hg (hcl i _ hg hli) j hji
      rw [hlj] at this; cases this
    have hapart : ∀ i (oi : Oper), ops[i]? = some oi → loose ops i j = true → (∀ d, oi.dst = some d → d ∉ o.looksAt ops) ∧ (∀ d, oi.dst = some d → o.dst ≠ some d) := by
      intro i oi hoi hl
      simp only [loose, Bool.and_eq_true, bne_iff_ne, Bool.not_eq_true', List.contains_eq_mem, decide_eq_false_iff_not] at hl
      rcases Nat.lt_or_gt_of_ne hl.1.1 with h | h
      · have := Oper.apart_spec (parOk_apart hp.ok hoi ho h hl.1.2)
        exact ⟨this.1, this.2.1⟩
      · have := Oper.apart_spec (parOk_apart hp.ok ho hoi h hl.2)
        exact ⟨this.2.2, fun d hd ho' => this.2.1 d ho' hd⟩
    -- who writes what this operation looks at
    have hsame : ∀ t, t ∈ o.looksAt ops → selT ops τ vs allB j t = selT ops τ vs (fun k => l.getD k false) ops.size t := by
      intro t ht
      have e1 : selT ops τ vs allB j t = selT ops τ vs (fun k => decide (k < j)) ops.size t := by
        have hj' : ∀ M, j ≤ M → M ≤ ops.size → selT ops τ vs (fun k => decide (k < j)) M = selT ops τ vs (fun k => decide (k < j)) j := by
          intro M hM
          induction hM with
          | refl => intro _; rfl
          | @step M hM ihM =>
            intro hM2
            show (if decide (M < j) = true then _ else _) = _
            rw [if_neg (by simp at hM ⊢; omega)]
            exact ihM (by omega)
        rw [hj' ops.size (by omega) (Nat.le_refl _)]
        exact selT_congr j fun i hi _ => by simp [allB, hi]
      rw [e1]
      refine selT_congr _ fun i hi hd => ?_
      have hg := Array.getElem?_eq_getElem hi
      by_cases hij : i = j
      · subst hij
        rw [hlj]; simp
      · by_cases hb : i ∈ B ops j
        · have := B_lt hp.ok j ho i hb
          simp [this, hBj i hb]
        · cases hli : l.getD i false with
          | true =>
            have := (hapart i _ hg (hloose i hi hij hli hb)).1 t (by rw [hg] at hd; simpa using hd)
            exact absurd ht this
          | false =>
            by_cases hlt2 : i < j
            · have hl2 : loose ops i j = true := by
                simp only [loose, Bool.and_eq_true, bne_iff_ne, Bool.not_eq_true', List.contains_eq_mem, decide_eq_false_iff_not]
                exact ⟨⟨hij, hb⟩, fun h => by have := B_lt hp.ok i hg j h; omega⟩
              have := (hapart i _ hg hl2).1 t (by rw [hg] at hd; simpa using hd)
              exact absurd ht this
            · simp [hlt2]
    obtain ⟨hd, hs⟩ := hst j o ho
    -- the next part
    have next : ∀ (κ' : Inj) (w' : World) (v' : Value), κ.le κ' → (∀ i, κ' i ≠ κ i → ns j ≤ i ∧ i < ns (j + 1)) → Rel E.den N w0 κ' (app (Ds j) (app (selD Ds (fun k => l.getD k false) ops.size) σ2)) w' → VR κ' (vs j) v' → wpAny P .any ops Q fuel (l.setIfInBounds j true) (a.put o.dst v') w' := by
      intro κ' w' v' hle' honly' hR' hv'
      have hsetf : (fun k => (l.setIfInBounds j true).getD k false) = pick (fun k => l.getD k false) j := by
        funext k; exact getD_setB hjl
      have n1 := hp.le (i := 0) (j := j) (Nat.zero_le _) (by omega)
      have n2 := hp.le (i := j + 1) (j := ops.size) hlt (Nat.le_refl _)
      refine ih _ κ' _ w' (by simpa using hsz) ?_ ?_ (Inj.le_trans hle hle') (fun i hi => ?_) ?_ ?_ (by rw [put_size]; exact hm) (by rw [put_defers]; exact hdf) ?_
      · -- one less is left
        have hnd : (List.range ops.size).Nodup := List.nodup_range
        have hcount : ∀ (L : List Nat), L.Nodup → j ∈ L → (L.filter fun i => !(l.setIfInBounds j true).getD i false).length < (L.filter fun i => !l.getD i false).length := by
          intro L
          induction L with
          | nil => intro _ h; cases h
          | cons x L ihL =>
            intro hn hm
            rw [List.nodup_cons] at hn
            by_cases hx : x = j
            · subst hx
              have e : (L.filter fun i => !(l.setIfInBounds x true).getD i false) = L.filter fun i => !l.getD i false := by
                refine List.filter_congr fun i hi => ?_
                have : i ≠ x := fun e => hn.1 (e ▸ hi)
                rw [getD_setB hjl]
                simp [pick, this]
              rw [List.filter_cons_of_neg (by rw [getD_setB hjl]; simp [pick]), List.filter_cons_of_pos (by rw [hlj]; rfl), e]
              simp
            · have hmL : j ∈ L := (List.mem_cons.1 hm).resolve_left fun e => hx e.symm
              have := ihL hn.2 hmL
              have e : (l.setIfInBounds j true).getD x false = l.getD x false := by rw [getD_setB hjl]; simp [pick, hx]
              by_cases hb : l.getD x false = true
              · rw [List.filter_cons_of_neg (by rw [e, hb]; simp), List.filter_cons_of_neg (by rw [hb]; simp)]; exact this
              · have hb' : l.getD x false = false := by simpa using hb
                rw [List.filter_cons_of_pos (by rw [e, hb']; rfl), List.filter_cons_of_pos (by rw [hb']; rfl), List.length_cons, List.length_cons]
                omega
        have := hcount _ hnd (List.mem_range.2 hlt)
        omega
      · intro k ok hk hlk e he hb
        rw [getD_setB hjl] at hlk ⊢
        unfold pick at hlk ⊢
        split
        · rfl
        · split at hlk
          · rename_i hkj
            subst hkj
            rw [ho] at hk; cases hk
            exact hedge e he hb
          · exact hcl k ok hk hlk e he hb
      · by_cases hk : κ' i = κ i
        · rw [hk] at hi; exact honly i hi
        · have := honly' i hk; omega
      · rw [hsetf, selD_pick ops.size hlt hlj (fun i hi hji hSi x hx => hp.apart hi hlt (hloose i hi (by omega) hSi (fun hb => by have := B_lt hp.ok j ho i hb; omega)) hx)]
        exact hR'
      · rw [hsetf, selT_pick ops.size hlt hlj (fun i hi hji hSi d hdi => by
          have hg := Array.getElem?_eq_getElem hi
          have := (hapart i _ hg (hloose i hi (by omega) hSi (fun hb => by have := B_lt hp.ok j ho i hb; omega))).2 d (by rw [hg] at hdi; simpa using hdi)
          rw [ho]; simpa using this)]
        rw [ho]
        exact TR_upd (hT.mono hle') hv' o.dst hm (dstOk_lt hd)
      · intro k hk hlk
        rw [getD_setB hjl] at hlk
        unfold pick at hlk
        split at hlk
        · cases hlk
        · rename_i hkj
          intro i hi1 hi2
          by_cases hki : κ' i = κ i
          · rw [hki]; exact hfr k hk hlk i hi1 hi2
          · have := honly' i hki
            rcases Nat.lt_or_gt_of_ne hkj with h | h
            · have := hp.le (i := k + 1) (j := j) h (by omega); omega
            · have := hp.le (i := j + 1) (j := k) h (by omega); omega
    unfold wpOp
    rw [ho]
    simp only
    have hwant : wantA ops (selT ops τ vs allB j) o = wantA ops (selT ops τ vs (fun k => l.getD k false) ops.size) o := want_congr fun g u t hg hd => hsame t (looks_guard hg hd)
    rw [want_run hT ops o, ← hwant]
    split
    · rename_i hw
      rw [if_pos hw] at hs
      left
      have hs' := hs.congr (τ' := selT ops τ vs (fun k => l.getD k false) ops.size) fun x hx => by
        cases x with
        | tmp t => simp only [args1]; rw [hsame t (looks_operand hx)]
        | _ => rfl
      refine hs'.sound hE hC (fun x o' hx => ?_) hR hT (hfr j hlt hlj) fun κ' w' v' hend hv => next κ' w' v' hend.1 hend.2.1 hend.2.2 hv
      -- the restricted store lies in what stands
      unfold restr at hx
      split at hx
      · cases hx
      · rename_i hany
        have hno : ∀ i, i < ops.size → loose ops i j = true → x ∉ keys (Ds i) := by
          intro i hi hl hk
          exact hany (List.any_eq_true.2 ⟨i, List.mem_range.2 hi, by simp [hl, hp.inK i x hk]⟩)
        have e1 : app (selD Ds (fun i => (B ops j).contains i) j) σ2 x = some o' := hsub.app _ x o' hx
        have e2 : app (selD Ds (fun i => (B ops j).contains i) j) σ2 x = app (selD Ds (fun i => (B ops j).contains i) ops.size) σ2 x := by
          have hj' : ∀ M, j ≤ M → M ≤ ops.size → selD Ds (fun i => (B ops j).contains i) M = selD Ds (fun i => (B ops j).contains i) j := by
            intro M hM
            induction hM with
            | refl => intro _; rfl
            | @step M hM ihM =>
              intro hM2
              show (if (B ops j).contains M = true then _ else _) = _
              rw [if_neg (by
                simp only [List.contains_iff_mem]
                intro hb
                have := B_lt hp.ok j ho M hb
                simp at hM; omega)]
              exact ihM (by omega)
          rw [hj' ops.size (by omega) (Nat.le_refl _)]
        rw [← e1, e2]
        refine selD_congr _ fun i hi hk => ?_
        by_cases hij : i = j
        · subst hij
          rw [hlj]
          symm
          simp only [List.contains_eq_mem, decide_eq_false_iff_not]
          intro hb
          have := B_lt hp.ok i ho i hb; omega
        · by_cases hb : i ∈ B ops j
          · simp [hb, hBj i hb]
          · cases hli : l.getD i false with
            | true => exact absurd hk (hno i hi (hloose i hi hij hli hb))
            | false => simp [hb]
    · rename_i hw
      rw [if_neg hw] at hs
      obtain ⟨h1, h2, h3⟩ := hs
      have hR' : Rel E.den N w0 κ (app (Ds j) (app (selD Ds (fun k => l.getD k false) ops.size) σ2)) w := by rw [h3]; exact hR
      exact next κ w undef (Inj.le_refl _) (fun i hi => absurd rfl hi) hR' (by rw [h1]; exact undef_VR _)

/-- A region whose order is drawn. -/
theorem Par.sound (hE : EnvOk P E) (hC : CallOk P E.den C) {ops : Array Oper} {m n n' : Nat} {τ τ' : Tm} {σ σ2 : Store} {d : Delta} (h : Par E C ops m τ n σ τ' n' d) :
    KeysOk n n' σ d ∧ ∀ (ι : Inj) (w : World) (a : Act) (id : Nat) (Q : Exit → Act → World → Prop), Sub σ σ2 → Rel E.den N w0 ι σ2 w → TR ι τ a → a.tmps.size = m → a.defers = [] → Fresh ι n n' →
      (∀ κ w' a', End E.den N w0 ι σ2 n n' d κ w' → TR κ τ' a' → a'.tmps.size = m → a'.defers = [] → Q .normal a' w') → (Code.region id ops true).wp P Q a w := by
  cases h with
  | mk vs ns Ds K h0 hok hK hst =>
    have hp : ParOk ops n σ ns Ds K := by
      have keysStep : ∀ j, j < ops.size → KeysOk (ns j) (ns (j + 1)) (restr ops K Ds σ j) (Ds j) := by
        intro j hj
        obtain ⟨_, hs⟩ := hst j _ (Array.getElem?_eq_getElem hj)
        split at hs
        · exact hs.keysOk hC
        · rw [hs.2.1, hs.2.2]
          exact ⟨Nat.le_refl _, fun i hi => by simp [keys] at hi⟩
      exact ⟨hok, hK, fun j hj => (keysStep j hj).1, fun j hj => (keysStep j hj).2⟩
    refine ⟨⟨by rw [← h0]; exact hp.le (Nat.zero_le _) (Nat.le_refl _), fun i hi => ?_⟩, fun ι w a id Q hsub hR hT hm hdf hfr hQ' => ?_⟩
    · obtain ⟨j, hj, _, hx⟩ := selD_keys hi
      exact hp.old h0 j hj i hx
    · refine wp_region_any hE.mixed ?_
      have hz : ∀ k, (Array.replicate ops.size false).getD k false = false := fun k => by
        by_cases hk : k < ops.size <;> simp [hk]
      have e1 : selT ops τ vs (fun k => (Array.replicate ops.size false).getD k false) ops.size = τ := by
        have : ∀ L, selT ops τ vs (fun k => (Array.replicate ops.size false).getD k false) L = τ := by
          intro L
          induction L with
          | zero => rfl
          | succ L ih => unfold selT; rw [hz L, if_neg (by simp)]; exact ih
        exact this _
      have e2 : selD Ds (fun k => (Array.replicate ops.size false).getD k false) ops.size = [] := by
        have : ∀ L, selD Ds (fun k => (Array.replicate ops.size false).getD k false) L = [] := by
          intro L
          induction L with
          | zero => rfl
          | succ L ih => unfold selD; rw [hz L, if_neg (by simp)]; exact ih
        exact this _
      refine par_any hE hC hp h0 hsub hst hQ' ops.size _ ι a _ (by simp) ?_ (fun j o hj hl => by rw [hz j] at hl; cases hl) (Inj.le_refl _) (fun i hi => absurd rfl hi) ?_ (by rw [e1]; exact hT) hm hdf (fun j hj _ i hi1 hi2 => hfr i ?_ ?_)
      · exact Nat.le_trans (List.length_filter_le _ _) (by simp)
      · rw [e2]; exact hR.same rfl rfl rfl rfl
      · have := hp.le (i := 0) (j := j) (Nat.zero_le _) (by omega); omega
      · have := hp.le (i := j + 1) (j := ops.size) hj (Nat.le_refl _); omega
end
end Go.Proofs.YtgajcmanompmcaaV
