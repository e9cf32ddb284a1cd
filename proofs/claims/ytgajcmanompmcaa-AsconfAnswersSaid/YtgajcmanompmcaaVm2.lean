/- The abstract machine: a closed call, wherever it is made; sealed laws. -/
import Derived.Test.YtgajcmanompmcaaVm1
set_option linter.unusedVariables false
set_option linter.unusedSimpArgs false
namespace Go.Proofs.YtgajcmanompmcaaV
open Go Go.RowKit
def flat : Value → Bool
  | .int _ _ | .bool _ | .string _ => true
  | _ => false
theorem flat_eq {ι : Inj} {v v' : Value} (h : VR ι v v') (hf : flat v = true) : v' = v := by
  cases h <;> first | rfl | (simp [flat] at hf)
theorem flat_VR {v : Value} (ι : Inj) (hf : flat v = true) : VR ι v v := by
  cases v <;> first | (exact .int _ _) | (exact .bool _) | (exact .str _) | (simp [flat] at hf)
theorem flats_eq {ι : Inj} : ∀ {l l' : List Value}, VRs ι l l' → l.all flat = true → l' = l
  | _, _, .nil, _ => rfl
  | _, _, .cons h hs, hf => by
    simp only [List.all_cons, Bool.and_eq_true] at hf
    rw [flat_eq h hf.1, flats_eq hs hf.2]
theorem flats_VR (ι : Inj) : ∀ {l : List Value}, l.all flat = true → VRs ι l l
  | [], _ => .nil
  | v :: l, hf => by
    simp only [List.all_cons, Bool.and_eq_true] at hf
    exact .cons (flat_VR ι hf.1) (flats_VR ι hf.2)
theorem SC.anywhere {P : Program} {f : Nat} {args : List Value} {n0 n' : Nat} {v : Value} {d : Delta} (h : SC P noDen f args n0 noStore v n' d) (ha : args.all flat = true) (hv : flat v = true) (n : Nat) (σ : Store) : SC P noDen f args n σ v n [] := by
  refine ⟨h.1, ⟨Nat.le_refl _, fun i hi => by simp [keys] at hi⟩, fun N w0 σ2 ι w args' R hs hR hargs hf hK => ?_⟩
  have e := flats_eq hargs ha
  subst e
  refine h.2.2 w.heap.size w noStore noIds w args' R (Sub.refl _) (rel_none w) (flats_VR _ ha) (fun _ _ _ => rfl) fun κ w' v' hend hv' => ?_
  have e2 := flat_eq hv' hv
  subst e2
  have hb := hend.2.2.below
  refine hK ι w' v' ⟨Inj.le_refl _, fun i hi => absurd rfl hi, ?_⟩ (flat_VR _ hv)
  have hsz := hb.size
  have h1 := hR.below
  have h2 := hR.size
  refine ⟨⟨hb.os.trans h1.os, hb.tape.trans h1.tape, hb.output.trans h1.output, Nat.le_trans h1.size hsz, fun k hk => ?_⟩, Nat.le_trans h2 hsz, fun i o e => ?_, hR.sep, hR.den⟩
  · rw [hb.block k (Nat.lt_of_lt_of_le hk h2)]; exact h1.block k hk
  · obtain ⟨p, g1, g2, g3⟩ := hR.obj i o e
    exact ⟨p, g1, g2.imp (fun h => h) (fun h => Nat.lt_of_lt_of_le h hsz), g3.keep (Inj.le_refl _) (g2.imp (fun h => h) (hb.block _))⟩
theorem PS.closed {P : Program} {E : Env} (hE : EnvOk P E) (hd : E.den = noDen) {F k f : Nat} {args : List Value} {v : Value} {σ : Store} (h : (xcall E F k f args 0 noStore).map (·.1) = some v) (ha : args.all flat = true) (hv : flat v = true) : PS P noDen f args σ v := by
  intro n _
  cases hx : xcall E F k f args 0 noStore with
  | none => rw [hx] at h; cases h
  | some r =>
    obtain ⟨v', n', d⟩ := r
    rw [hx] at h
    simp at h
    subst h
    have := SC.of_callK hE (xcall_sound k hx)
    rw [hd] at this
    exact ⟨n, Nat.le_refl _, SC.anywhere this ha hv n σ⟩
def right : Nat → Code → Code
  | 0, c => c
  | k + 1, .seq _ b => right k b
  | _ + 1, c => c
theorem PS.to {P : Program} {D : Den} {f : Nat} {args : List Value} {σ : Store} {v w : Value} (h : PS P D f args σ v) (e : v = w) : PS P D f args σ w := e ▸ h
section
variable {E : Env} [hP : Plain E] {τ : Tm} {o : Oper} {n : Nat} {σ : Store} {t u : Nat} {k k' : IntKind} {p : Int}
theorem r_min {cl : Call} {a b : Nat} (ho : o.op = .call cl) (hc : cl.callee = .builtin .min) (ha : evL τ cl.args.toList = some [.int k ((a : Nat) : Int), .int k' ((b : Nat) : Int)]) : (aop E τ o).run n σ = some (.int k ((min a b : Nat) : Int), n, []) := by
  rw [aop_plain]
  unfold aop0
  have h : amin .lss [.int k ((a : Nat) : Int), .int k' ((b : Nat) : Int)] = some (.int k ((min a b : Nat) : Int)) := by
    unfold amin
    simp only [amin.go, if_true, decide_eq_true_eq]
    split
    · rw [Nat.min_eq_right (by omega)]
    · rw [Nat.min_eq_left (by omega)]
  simp only [ho, hc, ha, abuiltin, h, orFail, T.run]
theorem seen1 {m c' sz ty' : Nat} {w' : Bool} {cs : List Value} {K : List (List Value) → T} (hm : σ m = some ⟨[cs], sz, ty', w'⟩) : (seen sz (.slice (some ⟨m, 0, none⟩) 1 c') K).run n σ = (K [cs]).run n σ := by
  simp only [seen, Nat.one_ne_zero, if_false, T.run, hm]
  rw [if_pos (by exact ⟨trivial, rfl⟩)]
  rfl
theorem r_append {cl : Call} {r : List Nat} {ti ui ei : TI} {elem j m N M c' ty' sz : Nat} {w' : Bool} {l : List (List Value)} {cs : List Value} (ho : o.op = .call cl) (hc : cl.callee = .builtin .append) (hat : cl.argTypes.toList = t :: u :: r) (ha : evL τ cl.args.toList = some [.slice (some ⟨j, 0, none⟩) N 0, .slice (some ⟨m, 0, none⟩) 1 c']) (ht : E.ty t = some ti) (hu : E.ty u = some ui) (hd : ti.d = .slice elem) (hud : ui.d = .slice elem) (he : E.ty elem = some ei) (hsz : ei.size = sz) (hz : 0 < sz) (hj : σ j = some ⟨l, sz, elem, true⟩) (hm : σ m = some ⟨[cs], sz, ty', w'⟩) (hN : l.length = N) (hs : N + 1 ≤ 1073741824) (hb : ei.bytes ≤ 65536) (hM : N + 1 = M) :
    (aop E τ o).run n σ = some (.slice (some ⟨n, 0, none⟩) M 0, n + 1, [(n, some ⟨l ++ [cs], sz, elem, true⟩), (j, none)]) := by
  rw [aop_plain]
  unfold aop0
  subst hN
  subst hM
  simp only [ho, hc, ha, hat, abuiltin, ht, hu, hd, hud, he, hsz]
  rw [if_neg (by omega), seen1 hm]
  unfold aappend
  dsimp only
  rw [if_neg (show ¬ (2 : Nat) ≤ 0 by decide)]
  simp only [List.isEmpty_cons, Bool.false_eq_true, if_false, T.run, hj, hsz, List.drop_zero, List.take_length, List.length_singleton]
  have h1 : (decide (sz ≠ sz) || decide (l.length ≠ l.length) || decide (elem ≠ elem) || !small (l.length + 1) ei.bytes || !decide (0 < sz)) = false := by
    simp [small, hs, hb, hz]
  rw [if_neg (by rw [h1]; simp), if_neg (by decide), if_neg (by simp), if_neg (by omega)]
  simp only [newRowT, T.run, List.length_append, List.length_singleton]
theorem r_append0 {cl : Call} {r : List Nat} {ti ui ei : TI} {elem m c' ty' sz : Nat} {w' : Bool} {cs : List Value} (ho : o.op = .call cl) (hc : cl.callee = .builtin .append) (hat : cl.argTypes.toList = t :: u :: r) (ha : evL τ cl.args.toList = some [.slice none 0 0, .slice (some ⟨m, 0, none⟩) 1 c']) (ht : E.ty t = some ti) (hu : E.ty u = some ui) (hd : ti.d = .slice elem) (hud : ui.d = .slice elem) (he : E.ty elem = some ei) (hsz : ei.size = sz) (hz : 0 < sz) (hm : σ m = some ⟨[cs], sz, ty', w'⟩) (hb : ei.bytes ≤ 65536) :
    (aop E τ o).run n σ = some (.slice (some ⟨n, 0, none⟩) 1 0, n + 1, [(n, some ⟨[cs], sz, elem, true⟩)]) := by
  rw [aop_plain]
  unfold aop0
  simp only [ho, hc, ha, hat, abuiltin, ht, hu, hd, hud, he, hsz]
  rw [if_neg (by omega), seen1 hm]
  unfold aappend
  simp only [List.isEmpty_cons, Bool.false_eq_true, if_false, List.length_singleton, hsz]
  rw [if_pos (by simp [small, hb, hz])]
  simp only [newRowT, T.run, List.length_singleton]
theorem r_eqlB {ti : TI} {x y : Operand} {p q : Bool} (ho : o.op = .binOp .eql t x y u) (hx : args1 τ x = some (.bool p)) (hy : args1 τ y = some (.bool q)) (ht : E.ty t = some ti) (hd : ti.d = .bool) : (aop E τ o).run n σ = some (.bool (p == q), n, []) := by
  rw [aop_plain]
  unfold aop0
  simp only [ho, ev, hx, hy, guardOk, if_true, abin, coded, Bool.or_false, Bool.false_eq_true, if_false, abin0]
  have : aeq E Op.maxDepth t (.bool p) (.bool q) = some (p == q) := by
    show (match E.ty t with | none => none | some i => _) = _
    rw [ht]
    simp only [hd]
  rw [this]
  rfl
theorem r_neqB {ti : TI} {x y : Operand} {p q : Bool} (ho : o.op = .binOp .neq t x y u) (hx : args1 τ x = some (.bool p)) (hy : args1 τ y = some (.bool q)) (ht : E.ty t = some ti) (hd : ti.d = .bool) : (aop E τ o).run n σ = some (.bool (!(p == q)), n, []) := by
  rw [aop_plain]
  unfold aop0
  simp only [ho, ev, hx, hy, guardOk, if_true, abin, coded, Bool.or_false, Bool.false_eq_true, if_false, abin0]
  have : aeq E Op.maxDepth t (.bool p) (.bool q) = some (p == q) := by
    show (match E.ty t with | none => none | some i => _) = _
    rw [ht]
    simp only [hd]
  rw [this]
  rfl
theorem copy_len (l : List UInt8) (s : ByteArray) (h : s.size ≤ l.length) : (L s ++ l.drop s.size).length = l.length := by
  rw [List.length_append, L_len, List.length_drop]; omega
theorem bc_L (s : ByteArray) : (s.data.toList.map fun b => [Value.int .u8 b.toNat]) = bc (L s) := rfl
theorem r_copyS {cl : Call} {r : List Nat} {ti ei : TI} {elem i N : Nat} {s : ByteArray} {lb : List UInt8} {ty : Nat} (ho : o.op = .call cl) (hc : cl.callee = .builtin .copy) (hat : cl.argTypes.toList = t :: r) (ha : evL τ cl.args.toList = some [.slice (some ⟨i, 0, none⟩) N 0, .string s]) (ht : E.ty t = some ti) (hd : ti.d = .slice elem) (he : E.ty elem = some ei) (hz : ei.size = 1) (hσ : σ i = some ⟨bc lb, 1, ty, true⟩) (hN : N = lb.length) (hs : s.size ≤ N) (h0 : s.size ≠ 0) :
    (aop E τ o).run n σ = some (.int .i64 ((s.size : Nat) : Int), n, [(i, some ⟨bc (L s ++ lb.drop s.size), 1, ty, true⟩)]) := by
  rw [aop_plain]
  unfold aop0
  subst hN
  simp only [ho, hc, ha, hat, abuiltin, ht, hd, he, hz]
  have e1 : (List.take (min s.size lb.length) (bc (L s))) = bc (L s) := List.take_of_length_le (by rw [bc_len, L_len]; omega)
  simp only [Nat.one_ne_zero, if_false, seen, if_true, bc_L]
  unfold acopy
  simp only [e1]
  have e2 : (bc (L s)).isEmpty = false := by
    cases hL : L s with
    | nil => exfalso; apply h0; rw [← L_len, hL]; rfl
    | cons a b => rfl
  simp only [e2, Bool.false_eq_true, if_false, T.run, hσ, bc_len, L_len, Nat.zero_add]
  have e3 : min s.size lb.length = s.size := by omega
  rw [e3]
  simp only [ne_eq, not_true_eq_false, decide_false, Bool.not_true, Bool.or_false, Bool.false_or, Nat.lt_irrefl, Bool.false_eq_true, if_false, T.run]
  have e4 : ov (bc lb) 0 (bc (L s)) = bc (L s ++ lb.drop s.size) := by
    unfold ov
    rw [List.take_zero, List.nil_append, Nat.zero_add, bc_len, L_len]
    simp only [bc, List.map_append, List.map_drop]
  rw [e4]
theorem r_copyS0 {cl : Call} {r : List Nat} {ti ei : TI} {elem i N : Nat} {s : ByteArray} (ho : o.op = .call cl) (hc : cl.callee = .builtin .copy) (hat : cl.argTypes.toList = t :: r) (ha : evL τ cl.args.toList = some [.slice (some ⟨i, 0, none⟩) N 0, .string s]) (ht : E.ty t = some ti) (hd : ti.d = .slice elem) (he : E.ty elem = some ei) (hz : ei.size = 1) (h0 : s.size = 0) :
    (aop E τ o).run n σ = some (.int .i64 0, n, []) := by
  rw [aop_plain]
  unfold aop0
  simp only [ho, hc, ha, hat, abuiltin, ht, hd, he, hz]
  simp only [Nat.one_ne_zero, if_false, seen, if_true]
  unfold acopy
  simp only [h0, Nat.zero_min, List.take_zero, List.isEmpty_nil, if_true, T.run]
  rfl
theorem r_max {cl : Call} {a b : Nat} (ho : o.op = .call cl) (hc : cl.callee = .builtin .max) (ha : evL τ cl.args.toList = some [.int k ((a : Nat) : Int), .int k' ((b : Nat) : Int)]) : (aop E τ o).run n σ = some (.int k ((max a b : Nat) : Int), n, []) := by
  rw [aop_plain]
  unfold aop0
  have h : amin .gtr [.int k ((a : Nat) : Int), .int k' ((b : Nat) : Int)] = some (.int k ((max a b : Nat) : Int)) := by
    unfold amin
    simp only [amin.go, reduceCtorEq, if_false, decide_eq_true_eq]
    split
    · rw [Nat.max_eq_right (by omega)]
    · rw [Nat.max_eq_left (by omega)]
  simp only [ho, hc, ha, abuiltin, h, orFail, T.run]
def andN (n : Int) (M : Nat) : Nat := (BitVec.ofInt 64 n &&& BitVec.ofInt 64 (M : Int)).toNat
theorem andN_le (n : Int) (M : Nat) (hM : M < 2147483648) : andN n M ≤ M := by
  unfold andN
  have h1 : (BitVec.ofInt 64 (M : Int)).toNat = M := by simp; omega
  rw [BitVec.toNat_and, h1]
  exact Nat.and_le_right
omit hP in
theorem b_andN (n : Int) (M : Nat) (hM : M < 2147483648) : abin0 E .and t (.int .i64 n) (.int .i64 (M : Int)) = .ret (.int .i64 ((andN n M : Nat) : Int)) [] := by
  unfold abin0; simp only [ne_eq, not_true_eq_false, if_false, Op.intBits]
  have h2 := andN_le n M hM
  exact congrArg (fun z => T.ret (.int .i64 z) []) (show IntKind.wrap .i64 ((andN n M : Nat) : Int) = _ from i64_of (by omega) (by omega))
omit hP in
theorem b_add8 (X Y : UInt8) : abin0 E .add t (.int .u8 ((X.toNat : Nat) : Int)) (.int .u8 ((Y.toNat : Nat) : Int)) = .ret (.int .u8 (((X + Y).toNat : Nat) : Int)) [] := b_add (by
  rw [IntKind.wrap_u8, UInt8.toNat_add]; have := UInt8.toNat_lt X; have := UInt8.toNat_lt Y; omega)
end
end Go.Proofs.YtgajcmanompmcaaV
