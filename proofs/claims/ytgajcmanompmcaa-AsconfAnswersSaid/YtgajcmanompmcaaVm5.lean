/- The abstract machine: operations on slices of records. -/
import Derived.Test.YtgajcmanompmcaaVm4
set_option linter.unusedVariables false
set_option linter.unusedSimpArgs false
namespace Go.Proofs.YtgajcmanompmcaaV
open Go Go.RowKit
section
variable {E : Env} [hP : Plain E] {τ : Tm} {o : Oper} {n : Nat} {σ : Store} {t u : Nat} {x y a : Operand} {k k' : IntKind} {v : Value} {ti ei ui : TI}
variable {α : Type} {c : α → List Value} {d0 : α}
theorem r_cutG {lo hi : Option Operand} {vlo vhi : Option Value} {a b i off N elem q r : Nat} {ob : AObj} (ho : o.op = .slice t x lo hi none) (hx : args1 τ x = some (.slice (some ⟨i, off, none⟩) N 0)) (hlo : ∀ k, evO τ lo k = k vlo) (hhi : ∀ k, evO τ hi k = k vhi) (ht : E.ty t = some ti) (hd : ti.d = .slice elem) (he : E.ty elem = some ei) (h1 : bound vlo 0 = some a) (h2 : bound vhi N = some b) (hσ : σ i = some ob) (hs : ob.sz = ei.size) (h3 : a ≤ b) (h5 : (b ≤ N ∨ off + b ≤ ob.es.length) ∧ off + N ≤ ob.es.length) (hq : off + a = q) (hr : b - a = r) : (aop E τ o).run n σ = some (.slice (some ⟨i, q, none⟩) r 0, n, []) := by
  subst hq; subst hr
  rw [aop_plain]
  unfold aop0
  have hno : ∀ k, evO τ none k = k none := fun _ => rfl
  simp only [ho, ev, hx, hlo, hhi, hno]
  simp only [aslice2, ghostOk]
  unfold aslice
  simp only [ht, hd, h1, h2, he]
  rw [if_neg (by decide), if_neg (by simp)]
  refine run_get hσ ?_
  rw [if_neg (by
    simp only [Bool.or_eq_true, decide_eq_true_eq, Bool.not_eq_true', decide_eq_false_iff_not, not_or, Decidable.not_not, true_and]
    exact ⟨⟨⟨hs, h3⟩, fun q => h5.1.elim q.1 q.2⟩, h5.2⟩)]
  rfl
theorem seenG {m off K sz c' ty' : Nat} {w' : Bool} {l : List (List Value)} {F : List (List Value) → T} (hK : 0 < K) (hm : σ m = some ⟨l, sz, ty', w'⟩) (hl : off + K ≤ l.length) : (seen sz (.slice (some ⟨m, off, none⟩) K c') F).run n σ = (F ((l.drop off).take K)).run n σ := by
  simp only [seen, show K ≠ 0 by omega, if_false, T.run, hm]
  rw [if_pos (by refine ⟨trivial, ?_⟩; rw [List.length_take, List.length_drop]; omega)]
  try rfl
theorem seenZ {m off sz c' : Nat} {F : List (List Value) → T} : (seen sz (.slice (some ⟨m, off, none⟩) 0 c') F).run n σ = (F []).run n σ := by
  simp only [seen, if_true]
theorem r_appendR {cl : Call} {r : List Nat} {elem j m N M c' ty' sz : Nat} {w' : Bool} {l l' : List α} {cs : List Value} (ho : o.op = .call cl) (hc : cl.callee = .builtin .append) (hat : cl.argTypes.toList = t :: u :: r) (ha : evL τ cl.args.toList = some [.slice (some ⟨j, 0, none⟩) N 0, .slice (some ⟨m, 0, none⟩) 1 c']) (ht : E.ty t = some ti) (hu : E.ty u = some ui) (hd : ti.d = .slice elem) (hud : ui.d = .slice elem) (he : E.ty elem = some ei) (hsz : ei.size = sz) (hz : 0 < sz) (hj : σ j = some ⟨l.map c, sz, elem, true⟩) (hm : σ m = some ⟨[cs], sz, ty', w'⟩) (hN : l.length = N) (hl : l.map c ++ [cs] = l'.map c) (hs : N + 1 ≤ 1073741824) (hb : ei.bytes ≤ 65536) (hM : N + 1 = M) :
    (aop E τ o).run n σ = some (.slice (some ⟨n, 0, none⟩) M 0, n + 1, [(n, some ⟨l'.map c, sz, elem, true⟩), (j, none)]) := by
  rw [← hl]
  exact r_append ho hc hat ha ht hu hd hud he hsz hz hj hm (by rw [List.length_map]; exact hN) hs hb hM
theorem r_append0R {cl : Call} {r : List Nat} {elem m c' ty' sz : Nat} {w' : Bool} {x : α} (ho : o.op = .call cl) (hc : cl.callee = .builtin .append) (hat : cl.argTypes.toList = t :: u :: r) (ha : evL τ cl.args.toList = some [.slice none 0 0, .slice (some ⟨m, 0, none⟩) 1 c']) (ht : E.ty t = some ti) (hu : E.ty u = some ui) (hd : ti.d = .slice elem) (hud : ui.d = .slice elem) (he : E.ty elem = some ei) (hsz : ei.size = sz) (hz : 0 < sz) (hm : σ m = some ⟨[c x], sz, ty', w'⟩) (hb : ei.bytes ≤ 65536) :
    (aop E τ o).run n σ = some (.slice (some ⟨n, 0, none⟩) 1 0, n + 1, [(n, some ⟨[x].map c, sz, elem, true⟩)]) := r_append0 ho hc hat ha ht hu hd hud he hsz hz hm hb
/-- 'append(a, b...)': some of another row behind a whole one: a new row. -/
theorem r_appendL {cl : Call} {r : List Nat} {elem j m N M off K c' ty' sz : Nat} {w' : Bool} {l l2 l' : List α} (ho : o.op = .call cl) (hc : cl.callee = .builtin .append) (hat : cl.argTypes.toList = t :: u :: r) (ha : evL τ cl.args.toList = some [.slice (some ⟨j, 0, none⟩) N 0, .slice (some ⟨m, off, none⟩) K c']) (ht : E.ty t = some ti) (hu : E.ty u = some ui) (hd : ti.d = .slice elem) (hud : ui.d = .slice elem) (he : E.ty elem = some ei) (hsz : ei.size = sz) (hz : 0 < sz) (hj : σ j = some ⟨l.map c, sz, elem, true⟩) (hm : σ m = some ⟨l2.map c, sz, ty', w'⟩) (hN : l.length = N) (hK : 0 < K) (h2 : off + K ≤ l2.length) (hl : l ++ (l2.drop off).take K = l') (hs : N + K ≤ 1073741824) (hb : ei.bytes ≤ 65536) (hM : N + K = M) :
    (aop E τ o).run n σ = some (.slice (some ⟨n, 0, none⟩) M 0, n + 1, [(n, some ⟨l'.map c, sz, elem, true⟩), (j, none)]) := by
  rw [aop_plain]
  unfold aop0
  subst hN
  subst hM
  subst hl
  have hxl : (((l2.map c).drop off).take K).length = K := by rw [List.length_take, List.length_drop, List.length_map]; omega
  have hx0 : (((l2.map c).drop off).take K).isEmpty = false := by
    cases h : ((l2.map c).drop off).take K with
    | nil => rw [h] at hxl; simp at hxl; omega
    | cons a b => rfl
  simp only [ho, hc, ha, hat, abuiltin, ht, hu, hd, hud, he, hsz]
  rw [if_neg (by omega), seenG hK hm (by rw [List.length_map]; exact h2)]
  unfold aappend
  dsimp only
  rw [if_neg (show ¬ (2 : Nat) ≤ 0 by decide)]
  simp only [hx0, Bool.false_eq_true, if_false, T.run, hj, hsz, List.drop_zero, hxl]
  have h1 : (decide (sz ≠ sz) || decide ((List.take l.length (l.map c)).length ≠ l.length) || decide (elem ≠ elem) || !small (l.length + K) ei.bytes || !decide (0 < sz)) = false := by
    simp [small, hs, hb, hz]
  rw [if_neg (by rw [h1]; simp), if_neg (by decide), if_neg (by simp), if_neg (by rw [List.length_map]; omega)]
  have e1 : List.take l.length (l.map c) ++ ((l2.map c).drop off).take K = (l ++ (l2.drop off).take K).map c := by
    rw [List.take_of_length_le (by rw [List.length_map]; exact Nat.le_refl _), List.map_append, List.map_take, List.map_drop]
  rw [e1]
  simp only [newRowT, T.run, List.length_map, List.length_append, List.length_take, List.length_drop]
  rw [show min K (l2.length - off) = K by omega]
/-- .. of a nil slice. -/
theorem r_appendL0 {cl : Call} {r : List Nat} {elem m off K c' ty' sz : Nat} {w' : Bool} {l2 l' : List α} (ho : o.op = .call cl) (hc : cl.callee = .builtin .append) (hat : cl.argTypes.toList = t :: u :: r) (ha : evL τ cl.args.toList = some [.slice none 0 0, .slice (some ⟨m, off, none⟩) K c']) (ht : E.ty t = some ti) (hu : E.ty u = some ui) (hd : ti.d = .slice elem) (hud : ui.d = .slice elem) (he : E.ty elem = some ei) (hsz : ei.size = sz) (hz : 0 < sz) (hm : σ m = some ⟨l2.map c, sz, ty', w'⟩) (hK : 0 < K) (h2 : off + K ≤ l2.length) (hl : (l2.drop off).take K = l') (hs : K ≤ 1073741824) (hb : ei.bytes ≤ 65536) :
    (aop E τ o).run n σ = some (.slice (some ⟨n, 0, none⟩) K 0, n + 1, [(n, some ⟨l'.map c, sz, elem, true⟩)]) := by
  rw [aop_plain]
  unfold aop0
  subst hl
  have hxl : (((l2.map c).drop off).take K).length = K := by rw [List.length_take, List.length_drop, List.length_map]; omega
  have hx0 : (((l2.map c).drop off).take K).isEmpty = false := by
    cases h : ((l2.map c).drop off).take K with
    | nil => rw [h] at hxl; simp at hxl; omega
    | cons a b => rfl
  simp only [ho, hc, ha, hat, abuiltin, ht, hu, hd, hud, he, hsz]
  rw [if_neg (by omega), seenG hK hm (by rw [List.length_map]; exact h2)]
  unfold aappend
  simp only [hx0, Bool.false_eq_true, if_false, hxl, hsz]
  rw [if_pos (by simp [small, hs, hb, hz])]
  have e1 : ((l2.map c).drop off).take K = ((l2.drop off).take K).map c := by rw [List.map_take, List.map_drop]
  rw [e1]
  simp only [newRowT, T.run, List.length_map, List.length_take, List.length_drop]
  rw [show min K (l2.length - off) = K by omega]
/-- .. of nothing. -/
theorem r_appendZ {cl : Call} {r : List Nat} {elem m off c' K : Nat} (ho : o.op = .call cl) (hc : cl.callee = .builtin .append) (hat : cl.argTypes.toList = t :: u :: r) (ha : evL τ cl.args.toList = some [v, .slice (some ⟨m, off, none⟩) K c']) (hv : (∃ j N c0, v = .slice (some ⟨j, 0, none⟩) N c0 ∧ c0 < 2) ∨ v = .slice none 0 0) (ht : E.ty t = some ti) (hu : E.ty u = some ui) (hd : ti.d = .slice elem) (hud : ui.d = .slice elem) (he : E.ty elem = some ei) (hz : 0 < ei.size) (hK : K = 0) :
    (aop E τ o).run n σ = some (v, n, []) := by
  subst hK
  rw [aop_plain]
  unfold aop0
  simp only [ho, hc, ha, hat, abuiltin, ht, hu, hd, hud, he]
  rw [if_neg (by omega), seenZ]
  unfold aappend
  rcases hv with ⟨j, N, c0, rfl, hc0⟩ | rfl
  · dsimp only
    rw [if_neg (by omega)]
    simp [T.run]
  · simp [T.run]
theorem r_appendN {cl : Call} {r : List Nat} {elem : Nat} (ho : o.op = .call cl) (hc : cl.callee = .builtin .append) (hat : cl.argTypes.toList = t :: u :: r) (ha : evL τ cl.args.toList = some [v, .slice none 0 0]) (hv : (∃ j N c0, v = .slice (some ⟨j, 0, none⟩) N c0 ∧ c0 < 2) ∨ v = .slice none 0 0) (ht : E.ty t = some ti) (hu : E.ty u = some ui) (hd : ti.d = .slice elem) (hud : ui.d = .slice elem) (he : E.ty elem = some ei) (hz : 0 < ei.size) :
    (aop E τ o).run n σ = some (v, n, []) := by
  rw [aop_plain]
  unfold aop0
  simp only [ho, hc, ha, hat, abuiltin, ht, hu, hd, hud, he]
  rw [if_neg (by omega)]
  simp only [seen]
  unfold aappend
  rcases hv with ⟨j, N, c0, rfl, hc0⟩ | rfl
  · dsimp only
    rw [if_neg (by omega)]
    simp [T.run]
  · simp [T.run]
theorem ov_map {l m : List α} {j : Nat} : ov (l.map c) j (m.map c) = (l.take j ++ m ++ l.drop (j + m.length)).map c := by
  unfold ov
  rw [List.length_map, List.map_append, List.map_append, List.map_take, List.map_drop]
/-- .. within one row. -/
theorem r_appendIn {cl : Call} {r : List Nat} {elem j i off K M c' sz : Nat} {l l' : List α} (ho : o.op = .call cl) (hc : cl.callee = .builtin .append) (hat : cl.argTypes.toList = t :: u :: r) (ha : evL τ cl.args.toList = some [.slice (some ⟨j, 0, none⟩) i 0, .slice (some ⟨j, off, none⟩) K c']) (ht : E.ty t = some ti) (hu : E.ty u = some ui) (hd : ti.d = .slice elem) (hud : ui.d = .slice elem) (he : E.ty elem = some ei) (hsz : ei.size = sz) (hz : 0 < sz) (hj : σ j = some ⟨l.map c, sz, elem, true⟩) (hK : 0 < K) (h2 : off + K ≤ l.length) (h3 : i + K ≤ l.length) (hl : l.take i ++ (l.drop off).take K ++ l.drop (i + K) = l') (hs : i + K ≤ 1073741824) (hb : ei.bytes ≤ 65536) (hM : i + K = M) :
    (aop E τ o).run n σ = some (.slice (some ⟨j, 0, none⟩) M 0, n, [(j, some ⟨l'.map c, sz, elem, true⟩)]) := by
  rw [aop_plain]
  unfold aop0
  subst hM
  subst hl
  have hxl : (((l.map c).drop off).take K).length = K := by rw [List.length_take, List.length_drop, List.length_map]; omega
  have hx0 : (((l.map c).drop off).take K).isEmpty = false := by
    cases h : ((l.map c).drop off).take K with
    | nil => rw [h] at hxl; simp at hxl; omega
    | cons a b => rfl
  simp only [ho, hc, ha, hat, abuiltin, ht, hu, hd, hud, he, hsz]
  rw [if_neg (by omega), seenG hK hj (by rw [List.length_map]; exact h2)]
  unfold aappend
  dsimp only
  rw [if_neg (show ¬ (2 : Nat) ≤ 0 by decide)]
  simp only [hx0, Bool.false_eq_true, if_false, T.run, hj, hsz, List.drop_zero, hxl]
  have h1 : (decide (sz ≠ sz) || decide ((List.take i (l.map c)).length ≠ i) || decide (elem ≠ elem) || !small (i + K) ei.bytes || !decide (0 < sz)) = false := by
    simp [small, hs, hb, hz]
    omega
  rw [if_neg (by rw [h1]; simp), if_neg (by decide), if_neg (by simp), if_pos (by rw [List.length_map]; omega)]
  simp only [T.run]
  have e1 : ov (l.map c) (0 + i) (((l.map c).drop off).take K) = (l.take i ++ (l.drop off).take K ++ l.drop (i + K)).map c := by
    rw [Nat.zero_add, show ((l.map c).drop off).take K = ((l.drop off).take K).map c by rw [List.map_take, List.map_drop], ov_map]
    rw [show i + ((l.drop off).take K).length = i + K by rw [List.length_take, List.length_drop]; omega]
  rw [e1]
theorem r_clearR {cl : Call} {r : List Nat} {elem j off K c' sz : Nat} {l l' : List α} {z : α} (ho : o.op = .call cl) (hc : cl.callee = .builtin .clear) (hat : cl.argTypes.toList = t :: r) (ha : evL τ cl.args.toList = some [.slice (some ⟨j, off, none⟩) K c']) (ht : E.ty t = some ti) (hd : ti.d = .slice elem) (he : E.ty elem = some ei) (hsz : ei.size = sz) (hzero : cellsL ei.zero = c z) (hj : σ j = some ⟨l.map c, sz, elem, true⟩) (hK : 0 < K) (h2 : off + K ≤ l.length) (hl : l.take off ++ List.replicate K z ++ l.drop (off + K) = l') :
    (aop E τ o).run n σ = some (.tuple #[], n, [(j, some ⟨l'.map c, sz, elem, true⟩)]) := by
  rw [aop_plain]
  unfold aop0
  subst hl
  simp only [ho, hc, ha, hat, abuiltin, ht, hd, he]
  unfold aclear
  simp only [show K ≠ 0 by omega, if_false, T.run, hj, hsz, hzero]
  rw [if_neg (by simp [List.length_map]; omega)]
  simp only [T.run]
  have e1 : ov (l.map c) off (List.replicate K (c z)) = (l.take off ++ List.replicate K z ++ l.drop (off + K)).map c := by
    rw [show List.replicate K (c z) = (List.replicate K z).map c by rw [List.map_replicate], ov_map, List.length_replicate]
  rw [e1]
/-! slices that came in -/
inductive RowP (σ : Store) (e sz : Nat) : Value → List (List Value) → Prop
  | nil : RowP σ e sz (.slice none 0 0) []
  | zero : RowP σ e sz (.slice (some ⟨0, 0, none⟩) 0 1) []
  | obj {i : Nat} {es rest : List (List Value)} (h : σ i = some ⟨es ++ rest, sz, e, false⟩) : RowP σ e sz (.slice (some ⟨i, 0, none⟩) es.length 0) es
theorem RowAt.P {σ : Store} {e sz : Nat} {v : Value} {es : List (List Value)} (h : RowAt σ e sz v es) : RowP σ e sz v es := by
  cases h with
  | nil => exact .nil
  | zero => exact .zero
  | obj h => exact .obj (rest := []) (by rw [List.append_nil]; exact h)
theorem RowP.mono {σ σ' : Store} (hs : Sub σ σ') {e sz : Nat} {v : Value} {es : List (List Value)} : RowP σ e sz v es → RowP σ' e sz v es
  | .nil => .nil
  | .zero => .zero
  | .obj h => .obj (hs _ _ h)
def rk : Value → Nat
  | .slice (some ⟨i, _, _⟩) _ _ => i
  | _ => 0
def cutV (v : Value) (k : Nat) : Value := match v with
  | .slice none _ _ => .slice none 0 0
  | .slice (some a) _ c => .slice (some a) k c
  | v => v
theorem RowP.at {σ : Store} {e sz : Nat} {v : Value} {es : List (List Value)} (h : RowP σ e sz v es) (h0 : 0 < es.length) : v = .slice (some ⟨rk v, 0, none⟩) es.length 0 ∧ ∃ rest, σ (rk v) = some ⟨es ++ rest, sz, e, false⟩ := by
  cases h with
  | nil => simp at h0
  | zero => simp at h0
  | obj h => exact ⟨rfl, _, h⟩
theorem RowP.lt {n : Nat} {σ : Store} {e sz : Nat} {v : Value} {es : List (List Value)} (h : RowP σ e sz v es) (hd : Dom n σ) (h0 : 0 < n) : rk v < n := by
  cases h with
  | nil => exact h0
  | zero => exact h0
  | obj h => exact hd.lt h
theorem RowP.cut {σ : Store} {e sz : Nat} {v : Value} {es : List (List Value)} (h : RowP σ e sz v es) (k : Nat) (hk : k ≤ es.length) : RowP σ e sz (cutV v k) (es.take k) := by
  cases h with
  | nil => simp [cutV]; exact .nil
  | zero =>
    have : k = 0 := by simpa using hk
    subst this
    simp [cutV]; exact .zero
  | @obj i es rest h =>
    have h1 : (es.take k).length = k := by rw [List.length_take]; omega
    have h2 : RowP σ e sz (.slice (some ⟨i, 0, none⟩) (es.take k).length 0) (es.take k) := .obj (rest := es.drop k ++ rest) (by rw [← List.append_assoc, List.take_append_drop]; exact h)
    rw [h1] at h2
    exact h2
theorem RowP.get {σ : Store} {e sz m : Nat} {v : Value} {l : List α} (h : RowP σ e sz v (l.map c)) (hm : m < l.length) : ∃ rest, σ (rk v) = some ⟨l.map c ++ rest, sz, e, false⟩ := (h.at (by rw [List.length_map]; omega)).2
theorem mp_getA {l : List α} {rest : List (List Value)} {j : Nat} (h : j < l.length) : (l.map c ++ rest)[j]? = some (c (l.getD j d0)) := by
  rw [List.getElem?_append_left (by rw [List.length_map]; exact h)]
  exact mp_get h
theorem r_lenP {cl : Call} {σ0 : Store} {e sz N elem : Nat} {l : List α} {r : List Nat} (ho : o.op = .call cl) (hc : cl.callee = .builtin .len) (hat : cl.argTypes.toList = t :: r) (ha : evL τ cl.args.toList = some [v]) (ht : E.ty t = some ti) (hd : ti.d = .slice elem) (hr : RowP σ0 e sz v (l.map c)) (hN : l.length = N) : (aop E τ o).run n σ = some (.int .i64 ((N : Nat) : Int), n, []) := by
  rw [aop_plain]
  unfold aop0
  subst hN
  have hl : (l.map c).length = l.length := List.length_map ..
  generalize hes : l.map c = es at hr hl
  cases hr with
  | nil => simp only [ho, hc, ha, hat, abuiltin, ht, hd, T.run]; rw [← hl]; rfl
  | zero => simp only [ho, hc, ha, hat, abuiltin, ht, hd, T.run]; rw [← hl]; rfl
  | obj h => simp only [ho, hc, ha, hat, abuiltin, ht, hd, T.run]; rw [hl]
theorem r_iaP {σ0 : Store} {elem e sz m : Nat} {z : Int} {ob : AObj} {l : List α} (ho : o.op = .indexAddr t x y) (hx : args1 τ x = some v) (hy : args1 τ y = some (.int k z)) (ht : E.ty t = some ti) (hd : ti.d = .slice elem) (he : E.ty elem = some ei) (hr : RowP σ0 e sz v (l.map c)) (hz : z = (m : Nat)) (hm : m < l.length) (hσ : σ (rk v) = some ob) (hs : ob.sz = ei.size) : (aop E τ o).run n σ = some (.pointer (some ⟨rk v, m, some 0⟩), n, []) := by
  have h1 := (hr.at (by rw [List.length_map]; omega)).1
  rw [List.length_map] at h1
  exact r_iaS (E := E) (l := m) (o := o) (n := n) ho (hx.trans (congrArg some h1)) hy ht hd he hz hm hσ hs (Nat.zero_add m).symm
theorem r_cutP {σ0 : Store} {hi : Operand} {elem e sz q : Nat} {l : List α} (ho : o.op = .slice t x none (some hi) none) (hx : args1 τ x = some v) (hh : args1 τ hi = some (.int k ((q : Nat) : Int))) (ht : E.ty t = some ti) (hd : ti.d = .slice elem) (he : E.ty elem = some ei) (hr : RowP σ0 e sz v (l.map c)) (hσ : Sub σ0 σ ∨ ∀ rest, σ0 (rk v) = some ⟨l.map c ++ rest, sz, e, false⟩ → σ (rk v) = σ0 (rk v)) (hs : sz = ei.size) (hq : q ≤ l.length) : (aop E τ o).run n σ = some (cutV v q, n, []) := by
  rw [aop_plain]
  unfold aop0
  have hl : (l.map c).length = l.length := List.length_map ..
  simp only [ho, ev, evO, hx, hh]
  generalize hes : l.map c = es at hr hl hσ
  cases hr with
  | nil =>
    have : q = 0 := by simp at hl; omega
    subst this
    simp only [aslice2, ghostOk]
    unfold aslice
    simp only [ht, hd, he]
    rfl
  | zero =>
    have : q = 0 := by simp at hl; omega
    subst this
    simp only [aslice2, ghostOk]
    unfold aslice
    simp only [ht, hd, he]
    rfl
  | @obj i es rest h =>
    simp only [aslice2, ghostOk]
    unfold aslice
    have hb : bound (some (.int k ((q : Nat) : Int))) es.length = some q := bound_nat
    have hσ' : σ i = some ⟨es ++ rest, sz, e, false⟩ := by
      rcases hσ with hσ | hσ
      · exact hσ _ _ h
      · have := hσ rest h
        rw [show rk (.slice (some ⟨i, 0, none⟩) es.length 0) = i from rfl] at this
        rw [this]; exact h
    simp only [ht, hd]
    rw [he, hb]
    simp only [bound]
    rw [if_neg (show ¬ (2 : Nat) ≤ 0 by decide), if_neg (by simp)]
    refine run_get hσ' ?_
    rw [if_neg (by simp [hs]; omega)]
    simp only [cutV]
    rfl
end
section
variable {E : Env} [hP : Plain E] {τ : Tm} {o : Oper} {n : Nat} {σ : Store} {t u : Nat} {x y a : Operand} {k k' : IntKind} {ti ei : TI} {v : Value}
theorem r_cut3 {lo hi mx : Operand} {k1 k2 k3 : IntKind} {a b m i off N elem q : Nat} (ho : o.op = .slice t x (some lo) (some hi) (some mx)) (hx : args1 τ x = some (.slice (some ⟨i, off, none⟩) N 0)) (hlo : args1 τ lo = some (.int k1 ((a : Nat) : Int))) (hhi : args1 τ hi = some (.int k2 ((b : Nat) : Int))) (hmx : args1 τ mx = some (.int k3 ((m : Nat) : Int))) (ht : E.ty t = some ti) (hd : ti.d = .slice elem) (he : E.ty elem = some ei) (h3 : a ≤ b ∧ b < m ∧ m ≤ N) (hq : b - a = q) : (aop E τ o).run n σ = some (.slice (some ⟨n, 0, none⟩) q 0, n + 1, []) := by
  subst hq
  rw [aop_plain]
  unfold aop0
  have h1 : bound (some (.int k1 ((a : Nat) : Int))) 0 = some a := bound_nat
  have h2 : bound (some (.int k2 ((b : Nat) : Int))) N = some b := bound_nat
  simp only [ho, ev, evO, hx, hlo, hhi, hmx]
  unfold aslice2 ghostOk
  simp only [ht, hd, h1, h2, he, Option.isSome_some, Bool.and_true]
  rw [if_pos (by simp; omega)]
  rfl
omit hP in
theorem b_shl1 {K : Nat} (h : K < 8) : abin0 E .shl t (.int .u8 1) (.int k' ((K : Nat) : Int)) = .ret (.int .u8 (((UInt8.ofNat (2 ^ K)).toNat : Nat) : Int)) [] := b_shl (by omega) (by
  rw [Int.toNat_natCast, show min K IntKind.u8.bits = K from Nat.min_eq_left (by show K ≤ 8; omega), IntKind.wrap_u8]
  have h2 : 2 ^ K < 256 := Nat.lt_of_lt_of_le (Nat.pow_lt_pow_right (by decide) h) (by decide)
  rw [UInt8.toNat_ofNat', Nat.mod_eq_of_lt h2]
  have : ((1 : Int) * 2 ^ K) = ((2 ^ K : Nat) : Int) := by rw [Int.one_mul]; push_cast; rfl
  rw [this]
  exact Int.emod_eq_of_lt (Int.natCast_nonneg _) (by have h5 := Int.ofNat_lt.2 h2; exact h5))
end
theorem erase_take {α : Type} {l : List α} {i : Nat} (h : i < l.length) : l.take i ++ l.drop (i + 1) = l.eraseIdx i := by rw [List.eraseIdx_eq_take_drop_succ]
theorem del_last {α : Type} {l : List α} {z : α} {i N : Nat} (hl : l.length = N) (hN : i + 1 = N) : (l.take i ++ List.replicate 1 z ++ l.drop (i + 1)).take (N - 1) = l.eraseIdx i := by
  subst hN
  rw [List.eraseIdx_eq_take_drop_succ, List.drop_of_length_le (Nat.le_of_eq hl), List.append_nil, List.append_nil, Nat.add_sub_cancel, List.take_append_of_le_length (by rw [List.length_take]; omega), List.take_take, Nat.min_self]
theorem del_mid {α : Type} {l : List α} {z : α} {i N K M : Nat} (hl : l.length = N) (hi : i + 1 < N) (hK : K = N - (i + 1)) (hM : M = N - 1) : ((l.take i ++ (l.drop (i + 1)).take K ++ l.drop (i + K)).take M ++ List.replicate 1 z ++ (l.take i ++ (l.drop (i + 1)).take K ++ l.drop (i + K)).drop (M + 1)).take (N - 1) = l.eraseIdx i := by
  subst hK; subst hM
  have h1 : (l.drop (i + 1)).take (N - (i + 1)) = l.drop (i + 1) := List.take_of_length_le (by rw [List.length_drop]; omega)
  have h2 : (l.take i ++ l.drop (i + 1)).length = N - 1 := by rw [List.length_append, List.length_take, List.length_drop]; omega
  have h3 : ∀ x : List α, (l.take i ++ l.drop (i + 1) ++ x).take (N - 1) = l.take i ++ l.drop (i + 1) := fun x => by
    rw [List.take_append_of_le_length (by omega), List.take_of_length_le (by omega)]
  rw [h1, h3, List.append_assoc, h3, List.eraseIdx_eq_take_drop_succ]
section
variable {E : Env} [hP : Plain E] {τ : Tm} {o : Oper} {n : Nat} {σ : Store} {t u : Nat} {x y a : Operand} {k k' : IntKind} {ti ei : TI} {v : Value}
theorem r_cut3e {lo hi mx : Operand} {k1 k2 k3 : IntKind} {a b m i off N elem q r : Nat} {ob : AObj} (ho : o.op = .slice t x (some lo) (some hi) (some mx)) (hx : args1 τ x = some (.slice (some ⟨i, off, none⟩) N 0)) (hlo : args1 τ lo = some (.int k1 ((a : Nat) : Int))) (hhi : args1 τ hi = some (.int k2 ((b : Nat) : Int))) (hmx : args1 τ mx = some (.int k3 ((m : Nat) : Int))) (ht : E.ty t = some ti) (hd : ti.d = .slice elem) (he : E.ty elem = some ei) (hσ : σ i = some ob) (hs : ob.sz = ei.size) (h3 : a ≤ b ∧ b = m ∧ m ≤ N) (h4 : off + N ≤ ob.es.length) (hq : b - a = q) (hr : off + a = r) : (aop E τ o).run n σ = some (.slice (some ⟨i, r, none⟩) q 1, n, []) := by
  subst hq; subst hr
  rw [aop_plain]
  unfold aop0
  have h1 : bound (some (.int k1 ((a : Nat) : Int))) 0 = some a := bound_nat
  have h2 : bound (some (.int k2 ((b : Nat) : Int))) N = some b := bound_nat
  simp only [ho, ev, evO, hx, hlo, hhi, hmx]
  unfold aslice2 ghostOk
  simp only [ht, hd, h1, h2, he, Option.isSome_some, Bool.and_true]
  rw [if_neg (by simp; omega)]
  simp only
  unfold aslice
  simp only [ht, hd, h1, h2, he]
  rw [if_neg (show ¬ (2 : Nat) ≤ 0 by decide), if_neg (by simp)]
  refine run_get hσ ?_
  rw [if_neg (by simp [hs]; omega)]
  simp only [Option.isSome_some, Bool.and_true, decide_eq_true_eq]
  rw [if_pos (by omega)]
  rfl
end
theorem bound_int {k : IntKind} {z : Int} {a d : Nat} (h : z = ((a : Nat) : Int)) : bound (some (.int k z)) d = some a := by subst h; exact bound_nat
theorem gt2 {σ : Store} {j a0 a1 : Nat} {x0 x1 : Option AObj} {d : Delta} {r : Option AObj} (hn : j ≠ a0 ∧ j ≠ a1) (h : app d σ j = r) : app ((a0, x0) :: (a1, x1) :: d) σ j = r := by
  obtain ⟨h0, h1⟩ := hn
  simp only [app, if_neg h0, if_neg h1]
  exact h
theorem gt3 {σ : Store} {j a0 a1 a2 : Nat} {x0 x1 x2 : Option AObj} {d : Delta} {r : Option AObj} (hn : j ≠ a0 ∧ j ≠ a1 ∧ j ≠ a2) (h : app d σ j = r) : app ((a0, x0) :: (a1, x1) :: (a2, x2) :: d) σ j = r := by
  obtain ⟨h0, h1, h2⟩ := hn
  simp only [app, if_neg h0, if_neg h1, if_neg h2]
  exact h
theorem gt4 {σ : Store} {j a0 a1 a2 a3 : Nat} {x0 x1 x2 x3 : Option AObj} {d : Delta} {r : Option AObj} (hn : j ≠ a0 ∧ j ≠ a1 ∧ j ≠ a2 ∧ j ≠ a3) (h : app d σ j = r) : app ((a0, x0) :: (a1, x1) :: (a2, x2) :: (a3, x3) :: d) σ j = r := by
  obtain ⟨h0, h1, h2, h3⟩ := hn
  simp only [app, if_neg h0, if_neg h1, if_neg h2, if_neg h3]
  exact h
theorem gt5 {σ : Store} {j a0 a1 a2 a3 a4 : Nat} {x0 x1 x2 x3 x4 : Option AObj} {d : Delta} {r : Option AObj} (hn : j ≠ a0 ∧ j ≠ a1 ∧ j ≠ a2 ∧ j ≠ a3 ∧ j ≠ a4) (h : app d σ j = r) : app ((a0, x0) :: (a1, x1) :: (a2, x2) :: (a3, x3) :: (a4, x4) :: d) σ j = r := by
  obtain ⟨h0, h1, h2, h3, h4⟩ := hn
  simp only [app, if_neg h0, if_neg h1, if_neg h2, if_neg h3, if_neg h4]
  exact h
theorem gt6 {σ : Store} {j a0 a1 a2 a3 a4 a5 : Nat} {x0 x1 x2 x3 x4 x5 : Option AObj} {d : Delta} {r : Option AObj} (hn : j ≠ a0 ∧ j ≠ a1 ∧ j ≠ a2 ∧ j ≠ a3 ∧ j ≠ a4 ∧ j ≠ a5) (h : app d σ j = r) : app ((a0, x0) :: (a1, x1) :: (a2, x2) :: (a3, x3) :: (a4, x4) :: (a5, x5) :: d) σ j = r := by
  obtain ⟨h0, h1, h2, h3, h4, h5⟩ := hn
  simp only [app, if_neg h0, if_neg h1, if_neg h2, if_neg h3, if_neg h4, if_neg h5]
  exact h
theorem gt7 {σ : Store} {j a0 a1 a2 a3 a4 a5 a6 : Nat} {x0 x1 x2 x3 x4 x5 x6 : Option AObj} {d : Delta} {r : Option AObj} (hn : j ≠ a0 ∧ j ≠ a1 ∧ j ≠ a2 ∧ j ≠ a3 ∧ j ≠ a4 ∧ j ≠ a5 ∧ j ≠ a6) (h : app d σ j = r) : app ((a0, x0) :: (a1, x1) :: (a2, x2) :: (a3, x3) :: (a4, x4) :: (a5, x5) :: (a6, x6) :: d) σ j = r := by
  obtain ⟨h0, h1, h2, h3, h4, h5, h6⟩ := hn
  simp only [app, if_neg h0, if_neg h1, if_neg h2, if_neg h3, if_neg h4, if_neg h5, if_neg h6]
  exact h
theorem gt8 {σ : Store} {j a0 a1 a2 a3 a4 a5 a6 a7 : Nat} {x0 x1 x2 x3 x4 x5 x6 x7 : Option AObj} {d : Delta} {r : Option AObj} (hn : j ≠ a0 ∧ j ≠ a1 ∧ j ≠ a2 ∧ j ≠ a3 ∧ j ≠ a4 ∧ j ≠ a5 ∧ j ≠ a6 ∧ j ≠ a7) (h : app d σ j = r) : app ((a0, x0) :: (a1, x1) :: (a2, x2) :: (a3, x3) :: (a4, x4) :: (a5, x5) :: (a6, x6) :: (a7, x7) :: d) σ j = r := by
  obtain ⟨h0, h1, h2, h3, h4, h5, h6, h7⟩ := hn
  simp only [app, if_neg h0, if_neg h1, if_neg h2, if_neg h3, if_neg h4, if_neg h5, if_neg h6, if_neg h7]
  exact h
theorem gt9 {σ : Store} {j a0 a1 a2 a3 a4 a5 a6 a7 a8 : Nat} {x0 x1 x2 x3 x4 x5 x6 x7 x8 : Option AObj} {d : Delta} {r : Option AObj} (hn : j ≠ a0 ∧ j ≠ a1 ∧ j ≠ a2 ∧ j ≠ a3 ∧ j ≠ a4 ∧ j ≠ a5 ∧ j ≠ a6 ∧ j ≠ a7 ∧ j ≠ a8) (h : app d σ j = r) : app ((a0, x0) :: (a1, x1) :: (a2, x2) :: (a3, x3) :: (a4, x4) :: (a5, x5) :: (a6, x6) :: (a7, x7) :: (a8, x8) :: d) σ j = r := by
  obtain ⟨h0, h1, h2, h3, h4, h5, h6, h7, h8⟩ := hn
  simp only [app, if_neg h0, if_neg h1, if_neg h2, if_neg h3, if_neg h4, if_neg h5, if_neg h6, if_neg h7, if_neg h8]
  exact h
theorem gt10 {σ : Store} {j a0 a1 a2 a3 a4 a5 a6 a7 a8 a9 : Nat} {x0 x1 x2 x3 x4 x5 x6 x7 x8 x9 : Option AObj} {d : Delta} {r : Option AObj} (hn : j ≠ a0 ∧ j ≠ a1 ∧ j ≠ a2 ∧ j ≠ a3 ∧ j ≠ a4 ∧ j ≠ a5 ∧ j ≠ a6 ∧ j ≠ a7 ∧ j ≠ a8 ∧ j ≠ a9) (h : app d σ j = r) : app ((a0, x0) :: (a1, x1) :: (a2, x2) :: (a3, x3) :: (a4, x4) :: (a5, x5) :: (a6, x6) :: (a7, x7) :: (a8, x8) :: (a9, x9) :: d) σ j = r := by
  obtain ⟨h0, h1, h2, h3, h4, h5, h6, h7, h8, h9⟩ := hn
  simp only [app, if_neg h0, if_neg h1, if_neg h2, if_neg h3, if_neg h4, if_neg h5, if_neg h6, if_neg h7, if_neg h8, if_neg h9]
  exact h
theorem gt11 {σ : Store} {j a0 a1 a2 a3 a4 a5 a6 a7 a8 a9 a10 : Nat} {x0 x1 x2 x3 x4 x5 x6 x7 x8 x9 x10 : Option AObj} {d : Delta} {r : Option AObj} (hn : j ≠ a0 ∧ j ≠ a1 ∧ j ≠ a2 ∧ j ≠ a3 ∧ j ≠ a4 ∧ j ≠ a5 ∧ j ≠ a6 ∧ j ≠ a7 ∧ j ≠ a8 ∧ j ≠ a9 ∧ j ≠ a10) (h : app d σ j = r) : app ((a0, x0) :: (a1, x1) :: (a2, x2) :: (a3, x3) :: (a4, x4) :: (a5, x5) :: (a6, x6) :: (a7, x7) :: (a8, x8) :: (a9, x9) :: (a10, x10) :: d) σ j = r := by
  obtain ⟨h0, h1, h2, h3, h4, h5, h6, h7, h8, h9, h10⟩ := hn
  simp only [app, if_neg h0, if_neg h1, if_neg h2, if_neg h3, if_neg h4, if_neg h5, if_neg h6, if_neg h7, if_neg h8, if_neg h9, if_neg h10]
  exact h
theorem gt12 {σ : Store} {j a0 a1 a2 a3 a4 a5 a6 a7 a8 a9 a10 a11 : Nat} {x0 x1 x2 x3 x4 x5 x6 x7 x8 x9 x10 x11 : Option AObj} {d : Delta} {r : Option AObj} (hn : j ≠ a0 ∧ j ≠ a1 ∧ j ≠ a2 ∧ j ≠ a3 ∧ j ≠ a4 ∧ j ≠ a5 ∧ j ≠ a6 ∧ j ≠ a7 ∧ j ≠ a8 ∧ j ≠ a9 ∧ j ≠ a10 ∧ j ≠ a11) (h : app d σ j = r) : app ((a0, x0) :: (a1, x1) :: (a2, x2) :: (a3, x3) :: (a4, x4) :: (a5, x5) :: (a6, x6) :: (a7, x7) :: (a8, x8) :: (a9, x9) :: (a10, x10) :: (a11, x11) :: d) σ j = r := by
  obtain ⟨h0, h1, h2, h3, h4, h5, h6, h7, h8, h9, h10, h11⟩ := hn
  simp only [app, if_neg h0, if_neg h1, if_neg h2, if_neg h3, if_neg h4, if_neg h5, if_neg h6, if_neg h7, if_neg h8, if_neg h9, if_neg h10, if_neg h11]
  exact h
theorem gt13 {σ : Store} {j a0 a1 a2 a3 a4 a5 a6 a7 a8 a9 a10 a11 a12 : Nat} {x0 x1 x2 x3 x4 x5 x6 x7 x8 x9 x10 x11 x12 : Option AObj} {d : Delta} {r : Option AObj} (hn : j ≠ a0 ∧ j ≠ a1 ∧ j ≠ a2 ∧ j ≠ a3 ∧ j ≠ a4 ∧ j ≠ a5 ∧ j ≠ a6 ∧ j ≠ a7 ∧ j ≠ a8 ∧ j ≠ a9 ∧ j ≠ a10 ∧ j ≠ a11 ∧ j ≠ a12) (h : app d σ j = r) : app ((a0, x0) :: (a1, x1) :: (a2, x2) :: (a3, x3) :: (a4, x4) :: (a5, x5) :: (a6, x6) :: (a7, x7) :: (a8, x8) :: (a9, x9) :: (a10, x10) :: (a11, x11) :: (a12, x12) :: d) σ j = r := by
  obtain ⟨h0, h1, h2, h3, h4, h5, h6, h7, h8, h9, h10, h11, h12⟩ := hn
  simp only [app, if_neg h0, if_neg h1, if_neg h2, if_neg h3, if_neg h4, if_neg h5, if_neg h6, if_neg h7, if_neg h8, if_neg h9, if_neg h10, if_neg h11, if_neg h12]
  exact h
theorem gt14 {σ : Store} {j a0 a1 a2 a3 a4 a5 a6 a7 a8 a9 a10 a11 a12 a13 : Nat} {x0 x1 x2 x3 x4 x5 x6 x7 x8 x9 x10 x11 x12 x13 : Option AObj} {d : Delta} {r : Option AObj} (hn : j ≠ a0 ∧ j ≠ a1 ∧ j ≠ a2 ∧ j ≠ a3 ∧ j ≠ a4 ∧ j ≠ a5 ∧ j ≠ a6 ∧ j ≠ a7 ∧ j ≠ a8 ∧ j ≠ a9 ∧ j ≠ a10 ∧ j ≠ a11 ∧ j ≠ a12 ∧ j ≠ a13) (h : app d σ j = r) : app ((a0, x0) :: (a1, x1) :: (a2, x2) :: (a3, x3) :: (a4, x4) :: (a5, x5) :: (a6, x6) :: (a7, x7) :: (a8, x8) :: (a9, x9) :: (a10, x10) :: (a11, x11) :: (a12, x12) :: (a13, x13) :: d) σ j = r := by
  obtain ⟨h0, h1, h2, h3, h4, h5, h6, h7, h8, h9, h10, h11, h12, h13⟩ := hn
  simp only [app, if_neg h0, if_neg h1, if_neg h2, if_neg h3, if_neg h4, if_neg h5, if_neg h6, if_neg h7, if_neg h8, if_neg h9, if_neg h10, if_neg h11, if_neg h12, if_neg h13]
  exact h
theorem gt15 {σ : Store} {j a0 a1 a2 a3 a4 a5 a6 a7 a8 a9 a10 a11 a12 a13 a14 : Nat} {x0 x1 x2 x3 x4 x5 x6 x7 x8 x9 x10 x11 x12 x13 x14 : Option AObj} {d : Delta} {r : Option AObj} (hn : j ≠ a0 ∧ j ≠ a1 ∧ j ≠ a2 ∧ j ≠ a3 ∧ j ≠ a4 ∧ j ≠ a5 ∧ j ≠ a6 ∧ j ≠ a7 ∧ j ≠ a8 ∧ j ≠ a9 ∧ j ≠ a10 ∧ j ≠ a11 ∧ j ≠ a12 ∧ j ≠ a13 ∧ j ≠ a14) (h : app d σ j = r) : app ((a0, x0) :: (a1, x1) :: (a2, x2) :: (a3, x3) :: (a4, x4) :: (a5, x5) :: (a6, x6) :: (a7, x7) :: (a8, x8) :: (a9, x9) :: (a10, x10) :: (a11, x11) :: (a12, x12) :: (a13, x13) :: (a14, x14) :: d) σ j = r := by
  obtain ⟨h0, h1, h2, h3, h4, h5, h6, h7, h8, h9, h10, h11, h12, h13, h14⟩ := hn
  simp only [app, if_neg h0, if_neg h1, if_neg h2, if_neg h3, if_neg h4, if_neg h5, if_neg h6, if_neg h7, if_neg h8, if_neg h9, if_neg h10, if_neg h11, if_neg h12, if_neg h13, if_neg h14]
  exact h
theorem gt16 {σ : Store} {j a0 a1 a2 a3 a4 a5 a6 a7 a8 a9 a10 a11 a12 a13 a14 a15 : Nat} {x0 x1 x2 x3 x4 x5 x6 x7 x8 x9 x10 x11 x12 x13 x14 x15 : Option AObj} {d : Delta} {r : Option AObj} (hn : j ≠ a0 ∧ j ≠ a1 ∧ j ≠ a2 ∧ j ≠ a3 ∧ j ≠ a4 ∧ j ≠ a5 ∧ j ≠ a6 ∧ j ≠ a7 ∧ j ≠ a8 ∧ j ≠ a9 ∧ j ≠ a10 ∧ j ≠ a11 ∧ j ≠ a12 ∧ j ≠ a13 ∧ j ≠ a14 ∧ j ≠ a15) (h : app d σ j = r) : app ((a0, x0) :: (a1, x1) :: (a2, x2) :: (a3, x3) :: (a4, x4) :: (a5, x5) :: (a6, x6) :: (a7, x7) :: (a8, x8) :: (a9, x9) :: (a10, x10) :: (a11, x11) :: (a12, x12) :: (a13, x13) :: (a14, x14) :: (a15, x15) :: d) σ j = r := by
  obtain ⟨h0, h1, h2, h3, h4, h5, h6, h7, h8, h9, h10, h11, h12, h13, h14, h15⟩ := hn
  simp only [app, if_neg h0, if_neg h1, if_neg h2, if_neg h3, if_neg h4, if_neg h5, if_neg h6, if_neg h7, if_neg h8, if_neg h9, if_neg h10, if_neg h11, if_neg h12, if_neg h13, if_neg h14, if_neg h15]
  exact h
theorem gt17 {σ : Store} {j a0 a1 a2 a3 a4 a5 a6 a7 a8 a9 a10 a11 a12 a13 a14 a15 a16 : Nat} {x0 x1 x2 x3 x4 x5 x6 x7 x8 x9 x10 x11 x12 x13 x14 x15 x16 : Option AObj} {d : Delta} {r : Option AObj} (hn : j ≠ a0 ∧ j ≠ a1 ∧ j ≠ a2 ∧ j ≠ a3 ∧ j ≠ a4 ∧ j ≠ a5 ∧ j ≠ a6 ∧ j ≠ a7 ∧ j ≠ a8 ∧ j ≠ a9 ∧ j ≠ a10 ∧ j ≠ a11 ∧ j ≠ a12 ∧ j ≠ a13 ∧ j ≠ a14 ∧ j ≠ a15 ∧ j ≠ a16) (h : app d σ j = r) : app ((a0, x0) :: (a1, x1) :: (a2, x2) :: (a3, x3) :: (a4, x4) :: (a5, x5) :: (a6, x6) :: (a7, x7) :: (a8, x8) :: (a9, x9) :: (a10, x10) :: (a11, x11) :: (a12, x12) :: (a13, x13) :: (a14, x14) :: (a15, x15) :: (a16, x16) :: d) σ j = r := by
  obtain ⟨h0, h1, h2, h3, h4, h5, h6, h7, h8, h9, h10, h11, h12, h13, h14, h15, h16⟩ := hn
  simp only [app, if_neg h0, if_neg h1, if_neg h2, if_neg h3, if_neg h4, if_neg h5, if_neg h6, if_neg h7, if_neg h8, if_neg h9, if_neg h10, if_neg h11, if_neg h12, if_neg h13, if_neg h14, if_neg h15, if_neg h16]
  exact h
theorem gt18 {σ : Store} {j a0 a1 a2 a3 a4 a5 a6 a7 a8 a9 a10 a11 a12 a13 a14 a15 a16 a17 : Nat} {x0 x1 x2 x3 x4 x5 x6 x7 x8 x9 x10 x11 x12 x13 x14 x15 x16 x17 : Option AObj} {d : Delta} {r : Option AObj} (hn : j ≠ a0 ∧ j ≠ a1 ∧ j ≠ a2 ∧ j ≠ a3 ∧ j ≠ a4 ∧ j ≠ a5 ∧ j ≠ a6 ∧ j ≠ a7 ∧ j ≠ a8 ∧ j ≠ a9 ∧ j ≠ a10 ∧ j ≠ a11 ∧ j ≠ a12 ∧ j ≠ a13 ∧ j ≠ a14 ∧ j ≠ a15 ∧ j ≠ a16 ∧ j ≠ a17) (h : app d σ j = r) : app ((a0, x0) :: (a1, x1) :: (a2, x2) :: (a3, x3) :: (a4, x4) :: (a5, x5) :: (a6, x6) :: (a7, x7) :: (a8, x8) :: (a9, x9) :: (a10, x10) :: (a11, x11) :: (a12, x12) :: (a13, x13) :: (a14, x14) :: (a15, x15) :: (a16, x16) :: (a17, x17) :: d) σ j = r := by
  obtain ⟨h0, h1, h2, h3, h4, h5, h6, h7, h8, h9, h10, h11, h12, h13, h14, h15, h16, h17⟩ := hn
  simp only [app, if_neg h0, if_neg h1, if_neg h2, if_neg h3, if_neg h4, if_neg h5, if_neg h6, if_neg h7, if_neg h8, if_neg h9, if_neg h10, if_neg h11, if_neg h12, if_neg h13, if_neg h14, if_neg h15, if_neg h16, if_neg h17]
  exact h
theorem gt19 {σ : Store} {j a0 a1 a2 a3 a4 a5 a6 a7 a8 a9 a10 a11 a12 a13 a14 a15 a16 a17 a18 : Nat} {x0 x1 x2 x3 x4 x5 x6 x7 x8 x9 x10 x11 x12 x13 x14 x15 x16 x17 x18 : Option AObj} {d : Delta} {r : Option AObj} (hn : j ≠ a0 ∧ j ≠ a1 ∧ j ≠ a2 ∧ j ≠ a3 ∧ j ≠ a4 ∧ j ≠ a5 ∧ j ≠ a6 ∧ j ≠ a7 ∧ j ≠ a8 ∧ j ≠ a9 ∧ j ≠ a10 ∧ j ≠ a11 ∧ j ≠ a12 ∧ j ≠ a13 ∧ j ≠ a14 ∧ j ≠ a15 ∧ j ≠ a16 ∧ j ≠ a17 ∧ j ≠ a18) (h : app d σ j = r) : app ((a0, x0) :: (a1, x1) :: (a2, x2) :: (a3, x3) :: (a4, x4) :: (a5, x5) :: (a6, x6) :: (a7, x7) :: (a8, x8) :: (a9, x9) :: (a10, x10) :: (a11, x11) :: (a12, x12) :: (a13, x13) :: (a14, x14) :: (a15, x15) :: (a16, x16) :: (a17, x17) :: (a18, x18) :: d) σ j = r := by
  obtain ⟨h0, h1, h2, h3, h4, h5, h6, h7, h8, h9, h10, h11, h12, h13, h14, h15, h16, h17, h18⟩ := hn
  simp only [app, if_neg h0, if_neg h1, if_neg h2, if_neg h3, if_neg h4, if_neg h5, if_neg h6, if_neg h7, if_neg h8, if_neg h9, if_neg h10, if_neg h11, if_neg h12, if_neg h13, if_neg h14, if_neg h15, if_neg h16, if_neg h17, if_neg h18]
  exact h
theorem gt20 {σ : Store} {j a0 a1 a2 a3 a4 a5 a6 a7 a8 a9 a10 a11 a12 a13 a14 a15 a16 a17 a18 a19 : Nat} {x0 x1 x2 x3 x4 x5 x6 x7 x8 x9 x10 x11 x12 x13 x14 x15 x16 x17 x18 x19 : Option AObj} {d : Delta} {r : Option AObj} (hn : j ≠ a0 ∧ j ≠ a1 ∧ j ≠ a2 ∧ j ≠ a3 ∧ j ≠ a4 ∧ j ≠ a5 ∧ j ≠ a6 ∧ j ≠ a7 ∧ j ≠ a8 ∧ j ≠ a9 ∧ j ≠ a10 ∧ j ≠ a11 ∧ j ≠ a12 ∧ j ≠ a13 ∧ j ≠ a14 ∧ j ≠ a15 ∧ j ≠ a16 ∧ j ≠ a17 ∧ j ≠ a18 ∧ j ≠ a19) (h : app d σ j = r) : app ((a0, x0) :: (a1, x1) :: (a2, x2) :: (a3, x3) :: (a4, x4) :: (a5, x5) :: (a6, x6) :: (a7, x7) :: (a8, x8) :: (a9, x9) :: (a10, x10) :: (a11, x11) :: (a12, x12) :: (a13, x13) :: (a14, x14) :: (a15, x15) :: (a16, x16) :: (a17, x17) :: (a18, x18) :: (a19, x19) :: d) σ j = r := by
  obtain ⟨h0, h1, h2, h3, h4, h5, h6, h7, h8, h9, h10, h11, h12, h13, h14, h15, h16, h17, h18, h19⟩ := hn
  simp only [app, if_neg h0, if_neg h1, if_neg h2, if_neg h3, if_neg h4, if_neg h5, if_neg h6, if_neg h7, if_neg h8, if_neg h9, if_neg h10, if_neg h11, if_neg h12, if_neg h13, if_neg h14, if_neg h15, if_neg h16, if_neg h17, if_neg h18, if_neg h19]
  exact h
theorem RA.condT {P : Program} {E : Env} {b : Nat} {σ : Store} {m : Nat} {τ : Tm} {n : Nat} {D : Delta} {Q : Post} {c c' : Code} {o : Operand} (hc : args1 τ o = some (.bool true)) (h : RA P E b σ m c τ n D Q) : RA P E b σ m (.cond o c c') τ n D Q := RA.cond hc (fun _ => h) (fun h => by cases h)
theorem RA.condF {P : Program} {E : Env} {b : Nat} {σ : Store} {m : Nat} {τ : Tm} {n : Nat} {D : Delta} {Q : Post} {c c' : Code} {o : Operand} (hc : args1 τ o = some (.bool false)) (h : RA P E b σ m c' τ n D Q) : RA P E b σ m (.cond o c c') τ n D Q := RA.cond hc (fun h => by cases h) (fun _ => h)
theorem OA.p {P : Program} {E : Env} {σ : Store} {m : Nat} {τ : Tm} {n : Nat} {D : Delta} {ops : Array Oper} {o : Oper} {r : List Oper} {K : Tm → Nat → Delta → Prop} (dst : Option Nat) (v : Value) (hw : wantA ops τ o = true) (hd : dstOk m o = true) (hdst : o.dst = dst) (hs : (aop E τ o).run n (app D σ) = some (v, n, [])) (h : OA P E m ops σ r (upd τ dst v) n D K) : OA P E m ops σ (o :: r) τ n D K := OA.pure hw hd hdst hs h
theorem kp1 {P : Nat → Prop} {a0 : Nat} {x0 : Option AObj} (h0 : P a0) : ∀ x ∈ keys [(a0, x0)], P x := by
  intro x hx
  simp only [keys, List.map_cons, List.map_nil, List.mem_cons, List.not_mem_nil, or_false] at hx
  subst hx; exact h0
theorem kp2 {P : Nat → Prop} {a0 a1 : Nat} {x0 x1 : Option AObj} (h0 : P a0) (h1 : P a1) : ∀ x ∈ keys [(a0, x0), (a1, x1)], P x := by
  intro x hx
  simp only [keys, List.map_cons, List.map_nil, List.mem_cons, List.not_mem_nil, or_false] at hx
  rcases hx with rfl | rfl
  · exact h0
  · exact h1
theorem kp3 {P : Nat → Prop} {a0 a1 a2 : Nat} {x0 x1 x2 : Option AObj} (h0 : P a0) (h1 : P a1) (h2 : P a2) : ∀ x ∈ keys [(a0, x0), (a1, x1), (a2, x2)], P x := by
  intro x hx
  simp only [keys, List.map_cons, List.map_nil, List.mem_cons, List.not_mem_nil, or_false] at hx
  rcases hx with rfl | rfl | rfl
  · exact h0
  · exact h1
  · exact h2
theorem kp4 {P : Nat → Prop} {a0 a1 a2 a3 : Nat} {x0 x1 x2 x3 : Option AObj} (h0 : P a0) (h1 : P a1) (h2 : P a2) (h3 : P a3) : ∀ x ∈ keys [(a0, x0), (a1, x1), (a2, x2), (a3, x3)], P x := by
  intro x hx
  simp only [keys, List.map_cons, List.map_nil, List.mem_cons, List.not_mem_nil, or_false] at hx
  rcases hx with rfl | rfl | rfl | rfl
  · exact h0
  · exact h1
  · exact h2
  · exact h3
theorem kp5 {P : Nat → Prop} {a0 a1 a2 a3 a4 : Nat} {x0 x1 x2 x3 x4 : Option AObj} (h0 : P a0) (h1 : P a1) (h2 : P a2) (h3 : P a3) (h4 : P a4) : ∀ x ∈ keys [(a0, x0), (a1, x1), (a2, x2), (a3, x3), (a4, x4)], P x := by
  intro x hx
  simp only [keys, List.map_cons, List.map_nil, List.mem_cons, List.not_mem_nil, or_false] at hx
  rcases hx with rfl | rfl | rfl | rfl | rfl
  · exact h0
  · exact h1
  · exact h2
  · exact h3
  · exact h4
theorem kp6 {P : Nat → Prop} {a0 a1 a2 a3 a4 a5 : Nat} {x0 x1 x2 x3 x4 x5 : Option AObj} (h0 : P a0) (h1 : P a1) (h2 : P a2) (h3 : P a3) (h4 : P a4) (h5 : P a5) : ∀ x ∈ keys [(a0, x0), (a1, x1), (a2, x2), (a3, x3), (a4, x4), (a5, x5)], P x := by
  intro x hx
  simp only [keys, List.map_cons, List.map_nil, List.mem_cons, List.not_mem_nil, or_false] at hx
  rcases hx with rfl | rfl | rfl | rfl | rfl | rfl
  · exact h0
  · exact h1
  · exact h2
  · exact h3
  · exact h4
  · exact h5
theorem lo0 {md : List (Option (List Nat))} {i x : Nat} (h : md.getD i none = some []) : ∃ R, md.getD i none = some R ∧ x ∉ R := ⟨_, h, List.not_mem_nil⟩
theorem lo1 {md : List (Option (List Nat))} {i x k : Nat} (h : md.getD i none = some [k]) (hn : x ≠ k) : ∃ R, md.getD i none = some R ∧ x ∉ R := ⟨_, h, by rw [List.mem_singleton]; exact hn⟩
theorem dT {p : Prop} [Decidable p] {n : Nat} (h : p) : some (Value.bool (decide p), n, ([] : Delta)) = some (.bool true, n, []) := by rw [decide_eq_true h]
theorem dF {p : Prop} [Decidable p] {n : Nat} (h : ¬ p) : some (Value.bool (decide p), n, ([] : Delta)) = some (.bool false, n, []) := by rw [decide_eq_false h]
theorem ndT {p : Prop} [Decidable p] {n : Nat} (h : p) : some (Value.bool (!(decide p)), n, ([] : Delta)) = some (.bool false, n, []) := by rw [decide_eq_true h]; rfl
theorem ndF {p : Prop} [Decidable p] {n : Nat} (h : ¬ p) : some (Value.bool (!(decide p)), n, ([] : Delta)) = some (.bool true, n, []) := by rw [decide_eq_false h]; rfl
theorem bT {b : Bool} {n : Nat} (h : b = true) : some (Value.bool b, n, ([] : Delta)) = some (.bool true, n, []) := by rw [h]
theorem bF {b : Bool} {n : Nat} (h : ¬ b = true) : some (Value.bool b, n, ([] : Delta)) = some (.bool false, n, []) := by rw [eq_false_of_ne_true h]
theorem nbT {b : Bool} {n : Nat} (h : b = true) : some (Value.bool (!b), n, ([] : Delta)) = some (.bool false, n, []) := by rw [h]; rfl
theorem nbF {b : Bool} {n : Nat} (h : ¬ b = true) : some (Value.bool (!b), n, ([] : Delta)) = some (.bool true, n, []) := by rw [eq_false_of_ne_true h]; rfl
theorem RowP.cutR {α : Type} {c : α → List Value} {σ : Store} {e sz : Nat} {v : Value} {l : List α} (h : RowP σ e sz v (l.map c)) (k : Nat) (hk : k ≤ l.length) : RowP σ e sz (cutV v k) ((l.take k).map c) := by
  rw [List.map_take]
  exact h.cut k (by rw [List.length_map]; exact hk)
theorem getD_mem {α : Type} {d : α} {l : List α} {i : Nat} (h : i < l.length) : l.getD i d ∈ l := by
  rw [List.getD_eq_getElem?_getD, List.getElem?_eq_getElem h]
  exact List.getElem_mem h
theorem take_end {α : Type} {l : List α} {i k : Nat} (h : i = min l.length k) : l.take i = l.take k := by
  subst h
  rw [← List.take_take, List.take_of_length_le (l := l.take k) (by rw [List.length_take]; omega)] <;> rfl
theorem RowP.one {σ : Store} {e sz : Nat} {v : Value} {es : List (List Value)} (h : RowP σ e sz v es) : oneB v = true := by cases h <;> rfl
theorem r_box {E : Env} [hP : Plain E] {τ : Tm} {o : Oper} {n : Nat} {σ : Store} {t : Nat} {x : Operand} {v : Value} {cs : List Value} (ho : o.op = .box t x) (hx : args1 τ x = some v) (hc : cellsL v = cs) (h0 : 0 < cs.length) (h1 : cs.all oneB = true) : (aop E τ o).run n σ = some (.pointer (some ⟨n, 0, some 0⟩), n + 1, [(n, some ⟨[cs], cs.length, t, true⟩)]) := by
  rw [aop_plain]
  unfold aop0
  subst hc
  simp only [ho, ev, hx]
  rw [if_pos (by simp [h0, h1])]
  rfl
theorem r_bs1 {E : Env} [hP : Plain E] {τ : Tm} {o : Oper} {n : Nat} {σ : Store} {t : Nat} {x : Operand} {cs : List Value} {ti ei : TI} {elem sz : Nat} (ho : o.op = .buildSlice t 1 #[(0, x)]) (hx : args1 τ x = some (.agg ⟨cs⟩)) (ht : E.ty t = some ti) (hd : ti.d = .slice elem) (he : E.ty elem = some ei) (hsz : ei.size = sz) (hc : cs.length = sz) (h0 : 0 < sz) (hle : sz ≤ 65536) (hz : (cellsL ei.zero).length = sz) (h1 : cs.all oneB = true) : (aop E τ o).run n σ = some (.slice (some ⟨n, 0, none⟩) 1 0, n + 1, [(n, some ⟨[cs], sz, elem, true⟩)]) := by
  rw [aop_plain]
  unfold aop0
  subst hsz
  simp only [ho, evP, hx, ht, hd, he]
  have h2 : (Value.agg ⟨cs⟩).cells.size = ei.size := hc
  have h3 : cellsL (Value.agg ⟨cs⟩) = cs := rfl
  rw [if_pos (by simp [h0, hle, hz])]
  simp only [aparts, h2, h3, h1]
  rw [if_neg (by simp)]
  rfl
theorem RowP.cells {σ : Store} {e sz : Nat} {v : Value} {es : List (List Value)} (h : RowP σ e sz v es) : cellsL v = [v] := by cases h <;> rfl
def only (k : Nat) (σ : Store) : Store := fun i => if i = k then σ i else none
theorem only_self (k : Nat) (σ : Store) : only k σ k = σ k := by simp [only]
theorem seen_key {ops : Array Oper} {Ds : List Delta} {D V : Delta} {σ : Store} {k : Nat} (h : selD (fun i => Ds.getD i []) (fun i => (B ops Ds.length).contains i) Ds.length = V) : Sub (only k (app (V ++ D) σ)) (seenBy ops Ds (app D σ)) ∧ ∀ R', some [k] = some R' → ∀ y q, only k (app (V ++ D) σ) y = some q → y ∈ R' := by
  refine ⟨fun i q hi => ?_, fun R' hR y q hy => ?_⟩
  · refine seen_sub h i q ?_
    simp only [only] at hi
    split at hi
    · exact hi
    · cases hi
  · cases hR
    simp only [only] at hy
    split at hy
    · rename_i e; subst e; simp
    · cases hy
end Go.Proofs.YtgajcmanompmcaaV
