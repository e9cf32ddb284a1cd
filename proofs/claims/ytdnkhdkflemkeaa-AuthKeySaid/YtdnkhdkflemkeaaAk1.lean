/- Ak1: walks through functions of the program, by the calculus; written by a program of this workplace. -/
import Derived.Test.YtdnkhdkflemkeaaDm2
import Derived.Test.YtdnkhdkflemkeaaVm5
namespace Go.Proofs.Ytdnkhdkflemkeaa.Vt
open Go Go.Proofs Go.Proofs.YtdnkhdkflemkeaaV
set_option maxRecDepth 100000
set_option linter.unusedVariables false
set_option linter.unusedSimpArgs false
def flat0 : Value → Bool
  | .int _ _ | .bool _ | .string _ => true
  | .slice none 0 0 => true
  | _ => false
def flatA : Value → Bool
  | .agg ⟨l⟩ => l.all flat0
  | v => flat0 v
theorem flat0_eq {ι : Inj} {v v' : Value} (h : VR ι v v') (hf : flat0 v = true) : v' = v := by
  cases h <;> first | rfl | (simp [flat0] at hf)
theorem flat0_VR {v : Value} (ι : Inj) (hf : flat0 v = true) : VR ι v v := by
  unfold flat0 at hf
  split at hf <;> first | (exact .int _ _) | (exact .bool _) | (exact .str _) | (exact .sliceNil) | (simp at hf)
theorem flat0s_eq {ι : Inj} : ∀ {l l' : List Value}, VRs ι l l' → l.all flat0 = true → l' = l
  | _, _, .nil, _ => rfl
  | _, _, .cons h hs, hf => by
    simp only [List.all_cons, Bool.and_eq_true] at hf
    rw [flat0_eq h hf.1, flat0s_eq hs hf.2]
theorem flat0s_VR (ι : Inj) : ∀ {l : List Value}, l.all flat0 = true → VRs ι l l
  | [], _ => .nil
  | v :: l, hf => by
    simp only [List.all_cons, Bool.and_eq_true] at hf
    exact .cons (flat0_VR ι hf.1) (flat0s_VR ι hf.2)
theorem flatA_eq {ι : Inj} {v v' : Value} (h : VR ι v v') (hf : flatA v = true) : v' = v := by
  cases h with
  | agg h => rw [flat0s_eq h hf]
  | _ => first | rfl | exact flat0_eq (by first | assumption | constructor <;> assumption) hf | (simp [flatA, flat0] at hf)
theorem flatA_VR {v : Value} (ι : Inj) (hf : flatA v = true) : VR ι v v := by
  unfold flatA at hf
  split at hf
  · exact .agg (flat0s_VR ι hf)
  · exact flat0_VR ι hf
theorem flatAs_eq {ι : Inj} : ∀ {l l' : List Value}, VRs ι l l' → l.all flatA = true → l' = l
  | _, _, .nil, _ => rfl
  | _, _, .cons h hs, hf => by
    simp only [List.all_cons, Bool.and_eq_true] at hf
    rw [flatA_eq h hf.1, flatAs_eq hs hf.2]
theorem flatAs_VR (ι : Inj) : ∀ {l : List Value}, l.all flatA = true → VRs ι l l
  | [], _ => .nil
  | v :: l, hf => by
    simp only [List.all_cons, Bool.and_eq_true] at hf
    exact .cons (flatA_VR ι hf.1) (flatAs_VR ι hf.2)
theorem SC.anywhereA {P : Program} {f : Nat} {args : List Value} {n0 n' : Nat} {v : Value} {d : Delta} (h : SC P noDen f args n0 noStore v n' d) (ha : args.all flatA = true) (hv : flatA v = true) (n : Nat) (σ : Store) : SC P noDen f args n σ v n [] := by
  refine ⟨h.1, ⟨Nat.le_refl _, fun i hi => by simp [keys] at hi⟩, fun N w0 σ2 ι w args' R hs hR hargs hf hK => ?_⟩
  have e := flatAs_eq hargs ha
  subst e
  refine h.2.2 w.heap.size w noStore noIds w args' R (Sub.refl _) (rel_none w) (flatAs_VR _ ha) (fun _ _ _ => rfl) fun κ w' v' hend hv' => ?_
  have e2 := flatA_eq hv' hv
  subst e2
  have hb := hend.2.2.below
  refine hK ι w' v' ⟨Inj.le_refl _, fun i hi => absurd rfl hi, ?_⟩ (flatA_VR _ hv)
  have hsz := hb.size
  have h1 := hR.below
  have h2 := hR.size
  refine ⟨⟨hb.os.trans h1.os, hb.tape.trans h1.tape, hb.output.trans h1.output, Nat.le_trans h1.size hsz, fun k hk => ?_⟩, Nat.le_trans h2 hsz, fun i o e => ?_, hR.sep, hR.den⟩
  · rw [hb.block k (Nat.lt_of_lt_of_le hk h2)]; exact h1.block k hk
  · obtain ⟨p, g1, g2, g3⟩ := hR.obj i o e
    exact ⟨p, g1, Nat.lt_of_lt_of_le g2 hsz, g3.keep (Inj.le_refl _) (hb.block _ g2)⟩
theorem PS.closedA {P : Program} {E : Env} (hE : EnvOk P E) (hd : E.den = noDen) {F k f : Nat} {args : List Value} {v : Value} {σ : Store} (h : (xcall E F k f args 0 noStore).map (·.1) = some v) (ha : args.all flatA = true) (hv : flatA v = true) : PS P noDen f args σ v := by
  intro n _
  cases hx : xcall E F k f args 0 noStore with
  | none => rw [hx] at h; cases h
  | some r =>
    obtain ⟨v', n', d⟩ := r
    rw [hx] at h
    simp at h
    subst h
    have := SC.of_callK hE (xcall_sound k hx)
    rw [hd] at this
    exact ⟨n, Nat.le_refl _, SC.anywhereA this ha hv n σ⟩
def bl (a b : ByteArray) : Bool := Op.bytesLess a.toList b.toList
theorem bl_not : ∀ {a b : List UInt8}, Op.bytesLess a b = true → Op.bytesLess b a = false
  | _, [], h => by simp [Op.bytesLess] at h
  | [], b :: y, _ => rfl
  | a :: x, b :: y, h => by
    simp only [Op.bytesLess, Bool.or_eq_true, Bool.and_eq_true, decide_eq_true_eq, beq_iff_eq] at h
    simp only [Op.bytesLess, Bool.or_eq_false_iff, Bool.and_eq_false_iff, decide_eq_false_iff_not, beq_eq_false_iff_ne]
    have e1 : ∀ u v : UInt8, u < v ↔ u.toNat < v.toNat := fun u v => UInt8.lt_iff_toNat_lt
    rw [e1] at h ⊢
    rcases h with h | ⟨h, h2⟩
    · exact ⟨by omega, .inl (fun e => by rw [e] at h; omega)⟩
    · exact ⟨by rw [h]; omega, .inr (bl_not h2)⟩
theorem bl_eq : ∀ {a b : List UInt8}, Op.bytesLess a b = false → Op.bytesLess b a = false → a = b
  | [], [], _, _ => rfl
  | [], b :: y, h, _ => by simp [Op.bytesLess] at h
  | a :: x, [], _, h => by simp [Op.bytesLess] at h
  | a :: x, b :: y, h, h2 => by
    simp only [Op.bytesLess, Bool.or_eq_false_iff, Bool.and_eq_false_iff, decide_eq_false_iff_not, beq_eq_false_iff_ne] at h h2
    have e1 : ∀ u v : UInt8, u < v ↔ u.toNat < v.toNat := fun u v => UInt8.lt_iff_toNat_lt
    rw [e1] at h h2
    have e : a = b := UInt8.toNat_inj.1 (by omega)
    subst e
    rw [bl_eq (h.2.resolve_left (fun z => z rfl)) (h2.2.resolve_left (fun z => z rfl))]
theorem bl_ext {a b : ByteArray} (h : bl a b = false) (h2 : bl b a = false) : a = b := by
  have := bl_eq h h2
  rw [ByteArray.toList_eq, ByteArray.toList_eq] at this
  exact ByteArray.ext (Array.ext' this)
theorem r_lssS {E : Env} [hP : Plain E] {τ : Tm} {o : Oper} {n : Nat} {σ : Store} {t u : Nat} {x y : Operand} {s1 s2 : ByteArray} (ho : o.op = .binOp .lss t x y u) (hx : args1 τ x = some (.string s1)) (hy : args1 τ y = some (.string s2)) : (aop E τ o).run n σ = some (.bool (bl s1 s2), n, []) := r_binS ho hx hy rfl
def keyF (a b : ByteArray) : ByteArray := if bl b a = true then b ++ a else a ++ b
theorem keyT {a b : ByteArray} (h : bl b a = true) : keyF a b = b ++ a := if_pos h
theorem keyN {a b : ByteArray} (h : ¬ bl b a = true) : keyF a b = a ++ b := if_neg h
theorem keyF_comm (a b : ByteArray) : keyF a b = keyF b a := by
  unfold keyF
  by_cases h : bl b a = true
  · rw [if_pos h, if_neg (by rw [show bl a b = false from bl_not h]; decide)]
  · rw [if_neg h]
    by_cases h2 : bl a b = true
    · rw [if_pos h2]
    · rw [if_neg h2, bl_ext (Bool.eq_false_iff.2 h) (Bool.eq_false_iff.2 h2)]
theorem kKey {σ : Store} (a b : ByteArray) (ha : a.size ≤ 20) (hb : b.size ≤ 20)   : PS Try.prog noDen 36 [(.string a), (.string b)] σ (.string (keyF a b)) := by
 refine PS.body (E := env) env_ok rfl rfl (by show _ ≤ _; exact of_decide_eq_true (by kernel_rfl)) (fun n hd => ?_)
 refine RA.seq hd ?_
 refine RA.region env_ok ?_
 refine OA.p (some 4) (.string (ByteArray.mk #[])) rfl rfl rfl rfl ?_
 refine OA.nil ?_
 intro _
 refine RA.seq hd ?_
 refine RA.seq hd ?_
 refine RA.region env_ok ?_
 refine OA.p (some 5) (.string b) rfl rfl rfl rfl ?_
 refine OA.p (some 6) (.string a) rfl rfl rfl rfl ?_
 by_cases hc1 : (bl b a) = true
 ·
  refine OA.p (some 7) (.bool true) rfl rfl rfl (Eq.trans (r_lssS rfl rfl rfl) (bT hc1)) ?_
  refine OA.nil ?_
  intro _
  refine RA.condT rfl ?_
  refine RA.region env_ok ?_
  refine OA.p (some 8) (.string b) rfl rfl rfl rfl ?_
  refine OA.p (some 9) (.string a) rfl rfl rfl rfl ?_
  refine OA.p (some 0) (.string b) rfl rfl rfl rfl ?_
  refine OA.p (some 1) (.string a) rfl rfl rfl rfl ?_
  refine OA.nil ?_
  intro _
  refine RA.seq hd ?_
  refine RA.region env_ok ?_
  refine OA.p (some 10) (.string b) rfl rfl rfl rfl ?_
  refine OA.p (some 11) (.string a) rfl rfl rfl rfl ?_
  refine OA.p (some 12) (.string (b ++ a)) rfl rfl rfl (r_cat rfl rfl rfl (by (try simp only [ByteArray.size_append, bstr_size, size_lit, List.size_toArray, List.length_cons, List.length_nil, List.length_take, List.length_drop, List.length_replicate]); try omega)) ?_
  refine OA.p (some 4) (.string (b ++ a)) rfl rfl rfl rfl ?_
  refine OA.nil ?_
  intro _
  refine RA.ret env_ok ?_
  refine ⟨.inr rfl, [(.string (b ++ a))], (resL_cons rfl resL_nil), (congrArg Value.string (by unfold keyF; first | (rw [if_pos hc1]; done) | (rw [if_neg hc1]; done))), (fun i hi => by cases hi)⟩
 ·
  refine OA.p (some 7) (.bool false) rfl rfl rfl (Eq.trans (r_lssS rfl rfl rfl) (bF hc1)) ?_
  refine OA.nil ?_
  intro _
  refine RA.condF rfl ?_
  refine RA.skip env_ok ?_
  intro _
  refine RA.seq hd ?_
  refine RA.region env_ok ?_
  refine OA.p (some 10) (.string a) rfl rfl rfl rfl ?_
  refine OA.p (some 11) (.string b) rfl rfl rfl rfl ?_
  refine OA.p (some 12) (.string (a ++ b)) rfl rfl rfl (r_cat rfl rfl rfl (by (try simp only [ByteArray.size_append, bstr_size, size_lit, List.size_toArray, List.length_cons, List.length_nil, List.length_take, List.length_drop, List.length_replicate]); try omega)) ?_
  refine OA.p (some 4) (.string (a ++ b)) rfl rfl rfl rfl ?_
  refine OA.nil ?_
  intro _
  refine RA.ret env_ok ?_
  refine ⟨.inr rfl, [(.string (a ++ b))], (resL_cons rfl resL_nil), (congrArg Value.string (by unfold keyF; first | (rw [if_pos hc1]; done) | (rw [if_neg hc1]; done))), (fun i hi => by cases hi)⟩

theorem pBlank {σ : Store} : PS Try.prog noDen 67 [(.agg ⟨[(.int .i64 15), (.int .i64 0), (.int .u32 0), (.int .i64 0), (.int .i64 1), (.int .u32 0), (.string (ByteArray.mk #[0, 0, 0, 0, 0, 0, 0, 0, 0, 0, 0, 0, 0, 0, 0, 0, 0, 0, 0, 0])), (.int .u32 0), (.int .u32 0), (.int .i64 0), (.int .i64 0), (.slice none 0 0), (.slice none 0 0), (.slice none 0 0), (.slice none 0 0)]⟩)] σ (.string (ByteArray.mk #[15, 0, 0, 28, 0, 0, 0, 1, 0, 0, 0, 0, 0, 0, 0, 0, 0, 0, 0, 0, 0, 0, 0, 0, 0, 0, 0, 0])) := PS.closedA env_ok rfl (F := 100) (k := 60) (by kernel_rfl) rfl rfl

theorem pConf {σ : Store} : PS Try.prog noDen 67 [(.agg ⟨[(.int .i64 193), (.int .i64 0), (.int .u32 5), (.int .i64 0), (.int .i64 0), (.int .u32 0), (.string ByteArray.empty), (.int .u32 0), (.int .u32 0), (.int .i64 0), (.int .i64 0), (.slice none 0 0), (.slice none 0 0), (.slice none 0 0), (.slice none 0 0)]⟩)] σ (.string (ByteArray.mk #[193, 0, 0, 8, 0, 0, 0, 5])) := PS.closedA env_ok rfl (F := 100) (k := 60) (by kernel_rfl) rfl rfl
end Go.Proofs.Ytdnkhdkflemkeaa.Vt
