/- The abstract machine: its values' and objects' relation to the model's worlds. -/
import Derived.Calls
import Derived.Orders
import Derived.Below
import Derived.KernelRfl
set_option linter.unusedVariables false
set_option linter.unusedSimpArgs false
namespace Go.Proofs.YtgajcmanompmcaaV
open Go.RowKit

/-- An object of the abstract store: its elements, each a list of cells. -/
structure AObj where
  es : List (List Value)
  sz : Nat
  t : TypeId
  w : Bool
deriving Inhabited
abbrev Store := Nat → Option AObj
abbrev Delta := List (Nat × Option AObj)
def app : Delta → Store → Store
  | [], σ => σ
  | (i, o) :: d, σ => fun j => if j = i then o else app d σ j
theorem app_append (d e : Delta) (σ : Store) : app (d ++ e) σ = app d (app e σ) := by
  induction d with
  | nil => rfl
  | cons x d ih => obtain ⟨i, o⟩ := x; funext j; simp [app, ih]
def keys (d : Delta) : List Nat := d.map (·.1)
theorem app_off {d : Delta} {σ : Store} {i : Nat} (h : i ∉ keys d) : app d σ i = σ i := by
  induction d with
  | nil => rfl
  | cons x d ih =>
    obtain ⟨k, o⟩ := x
    simp [keys] at h ⊢
    simp only [app]
    rw [if_neg h.1]
    exact ih (by simpa [keys] using h.2)
theorem app_on {d : Delta} {σ τ : Store} {i : Nat} (h : i ∈ keys d) : app d σ i = app d τ i := by
  induction d with
  | nil => simp [keys] at h
  | cons x d ih =>
    obtain ⟨k, o⟩ := x
    simp only [app]
    by_cases hk : i = k
    · rw [if_pos hk, if_pos hk]
    · rw [if_neg hk, if_neg hk]
      exact ih (by simp [keys] at h ⊢; exact h.resolve_left hk)

/-- Where an object lies: block, first cell, cells of an element, elements that have room. -/
structure Place where
  b : Nat
  off : Nat
  sz : Nat
  cap : Nat
  val : Option Value := none
abbrev Inj := Nat → Option Place
def Inj.le (ι κ : Inj) : Prop := ∀ i p, ι i = some p → κ i = some p
theorem Inj.le_refl (ι : Inj) : ι.le ι := fun _ _ h => h
theorem Inj.le_trans {ι κ μ : Inj} (h : ι.le κ) (k : κ.le μ) : ι.le μ := fun i p e => k i p (h i p e)

mutual
inductive VR (ι : Inj) : Value → Value → Prop
  | bool (b : Bool) : VR ι (.bool b) (.bool b)
  | int (k : IntKind) (n : Int) : VR ι (.int k n) (.int k n)
  | str (s : ByteArray) : VR ι (.string s) (.string s)
  | ptrNil : VR ι (.pointer none) (.pointer none)
  | ptr {i k j : Nat} {p : Place} (h : ι i = some p) : VR ι (.pointer (some ⟨i, k, some j⟩)) (.pointer (some ⟨p.b, p.off + k * p.sz + j, none⟩))
  | sliceNil : VR ι (.slice none 0 0) (.slice none 0 0)
  | slice {i o n : Nat} {p : Place} (h : ι i = some p) (hc : o + n ≤ p.cap) : VR ι (.slice (some ⟨i, o, none⟩) n 0) (.slice (some ⟨p.b, p.off + o * p.sz, none⟩) n (p.cap - o))
  | sliceZ {i o : Nat} {p : Place} {a : Addr} (h : ι i = some p) (hc : p.cap ≤ o) : VR ι (.slice (some ⟨i, o, none⟩) 0 0) (.slice (some a) 0 0)
  | sliceZ1 {i o : Nat} {a : Addr} : VR ι (.slice (some ⟨i, o, none⟩) 0 1) (.slice (some a) 0 0)
  | sliceC {i o n : Nat} {p : Place} (h : ι i = some p) (hc : o + n ≤ p.cap) : VR ι (.slice (some ⟨i, o, none⟩) n 1) (.slice (some ⟨p.b, p.off + o * p.sz, none⟩) n n)
  | sliceM {i o n : Nat} {p : Place} (h : ι i = some p) (hc : o + n ≤ p.cap) : VR ι (.slice (some ⟨i, o, none⟩) n 2) (.slice (some ⟨p.b, p.off + o * p.sz, none⟩) n (p.cap - o))
  | sliceMZ {i o : Nat} {p : Place} {a : Addr} (h : ι i = some p) (hc : p.cap ≤ o) : VR ι (.slice (some ⟨i, o, none⟩) 0 2) (.slice (some a) 0 0)
  | sliceMN {i o : Nat} : VR ι (.slice (some ⟨i, o, none⟩) 0 2) (.slice none 0 0)
  | sliceE {i o : Nat} : VR ι (.slice (some ⟨i, o, none⟩) 0 3) (.slice none 0 0)
  | sliceE1 {i o : Nat} {a : Addr} : VR ι (.slice (some ⟨i, o, none⟩) 0 3) (.slice (some a) 0 0)
  | mapNil : VR ι (.map none) (.map none)
  | sym {c : Nat} {p : Place} {k : IntKind} {n : Int} (h : ι c = some p) (hv : p.val = some (.int k n)) : VR ι (.chan (some c)) (.int k n)
  | symS {c : Nat} {p : Place} {s : ByteArray} (h : ι c = some p) (hv : p.val = some (.string s)) : VR ι (.chan (some c)) (.string s)
  | nilFunc : VR ι .nilFunc .nilFunc
  | nilIface : VR ι .nilIface .nilIface
  | func {fn : Fn} {a a' b b' : List Value} (ha : VRs ι a a') (hb : VRs ι b b') : VR ι (.func fn ⟨a⟩ ⟨b⟩) (.func fn ⟨a'⟩ ⟨b'⟩)
  | iface {t : TypeId} {v v' : Value} (h : VR ι v v') : VR ι (.iface t v) (.iface t v')
  | agg {a a' : List Value} (h : VRs ι a a') : VR ι (.agg ⟨a⟩) (.agg ⟨a'⟩)
  | tuple {a a' : List Value} (h : VRs ι a a') : VR ι (.tuple ⟨a⟩) (.tuple ⟨a'⟩)
inductive VRs (ι : Inj) : List Value → List Value → Prop
  | nil : VRs ι [] []
  | cons {v v' : Value} {l l' : List Value} (h : VR ι v v') (hs : VRs ι l l') : VRs ι (v :: l) (v' :: l')
end

mutual
theorem VR.mono {ι κ : Inj} (hk : ι.le κ) : ∀ {v v' : Value}, VR ι v v' → VR κ v v'
  | _, _, .bool b => .bool b
  | _, _, .int k n => .int k n
  | _, _, .str s => .str s
  | _, _, .ptrNil => .ptrNil
  | _, _, .ptr h => .ptr (hk _ _ h)
  | _, _, .sliceNil => .sliceNil
  | _, _, .slice h hc => .slice (hk _ _ h) hc
  | _, _, .sliceZ h hc => .sliceZ (hk _ _ h) hc
  | _, _, .sliceZ1 => .sliceZ1
  | _, _, .sliceC h hc => .sliceC (hk _ _ h) hc
  | _, _, .sliceM h hc => .sliceM (hk _ _ h) hc
  | _, _, .sliceMZ h hc => .sliceMZ (hk _ _ h) hc
  | _, _, .sliceMN => .sliceMN
  | _, _, .sliceE => .sliceE
  | _, _, .sliceE1 => .sliceE1
  | _, _, .mapNil => .mapNil
  | _, _, .sym h hv => .sym (hk _ _ h) hv
  | _, _, .symS h hv => .symS (hk _ _ h) hv
  | _, _, .nilFunc => .nilFunc
  | _, _, .nilIface => .nilIface
  | _, _, .func ha hb => .func (VRs.mono hk ha) (VRs.mono hk hb)
  | _, _, .iface h => .iface (VR.mono hk h)
  | _, _, .agg h => .agg (VRs.mono hk h)
  | _, _, .tuple h => .tuple (VRs.mono hk h)
theorem VRs.mono {ι κ : Inj} (hk : ι.le κ) : ∀ {l l' : List Value}, VRs ι l l' → VRs κ l l'
  | _, _, .nil => .nil
  | _, _, .cons h hs => .cons (VR.mono hk h) (VRs.mono hk hs)
end
theorem VRs.length {ι : Inj} : ∀ {l l' : List Value}, VRs ι l l' → l.length = l'.length
  | _, _, .nil => rfl
  | _, _, .cons _ hs => by simp [VRs.length hs]
theorem VRs.get {ι : Inj} : ∀ {l l' : List Value}, VRs ι l l' → ∀ (j : Nat) (v : Value), l[j]? = some v → ∃ v', l'[j]? = some v' ∧ VR ι v v'
  | _, _, .nil, j, v, h => by simp at h
  | _, _, .cons h hs, 0, v, e => by simp at e; subst e; exact ⟨_, rfl, h⟩
  | _, _, .cons h hs, j + 1, v, e => by simp at e ⊢; exact VRs.get hs j v e
theorem VRs.get' {ι : Inj} : ∀ {l l' : List Value}, VRs ι l l' → ∀ (j : Nat) (v' : Value), l'[j]? = some v' → ∃ v, l[j]? = some v ∧ VR ι v v'
  | _, _, .nil, j, v, h => by simp at h
  | _, _, .cons h hs, 0, v, e => by simp at e; subst e; exact ⟨_, rfl, h⟩
  | _, _, .cons h hs, j + 1, v, e => by simp at e ⊢; exact VRs.get' hs j v e
theorem VRs.append {ι : Inj} : ∀ {l l' m m' : List Value}, VRs ι l l' → VRs ι m m' → VRs ι (l ++ m) (l' ++ m')
  | _, _, _, _, .nil, k => k
  | _, _, _, _, .cons h hs, k => .cons h (VRs.append hs k)
theorem VRs.take {ι : Inj} : ∀ (n : Nat) {l l' : List Value}, VRs ι l l' → VRs ι (l.take n) (l'.take n)
  | 0, _, _, _ => by simp; exact .nil
  | n + 1, _, _, .nil => by simp; exact .nil
  | n + 1, _, _, .cons h hs => by simp; exact .cons h (VRs.take n hs)
theorem VRs.drop {ι : Inj} : ∀ (n : Nat) {l l' : List Value}, VRs ι l l' → VRs ι (l.drop n) (l'.drop n)
  | 0, _, _, h => by simpa using h
  | n + 1, _, _, .nil => by simp; exact .nil
  | n + 1, _, _, .cons h hs => by simp; exact VRs.drop n hs
theorem VRs.of_get {ι : Inj} : ∀ {l l' : List Value}, l.length = l'.length → (∀ (j : Nat) (v : Value), l[j]? = some v → ∃ v', l'[j]? = some v' ∧ VR ι v v') → VRs ι l l'
  | [], [], _, _ => .nil
  | [], _ :: _, h, _ => by simp at h
  | _ :: _, [], h, _ => by simp at h
  | a :: l, b :: l', h, k => by
    refine .cons ?_ (VRs.of_get (by simpa using h) fun j v e => ?_)
    · obtain ⟨v', e, hv⟩ := k 0 a rfl
      simp at e; subst e; exact hv
    · obtain ⟨v', e', hv⟩ := k (j + 1) v (by simpa using e)
      exact ⟨v', by simpa using e', hv⟩

/-- The value of one cell. -/
def oneB : Value → Bool
  | .agg _ | .tuple _ => false
  | _ => true
theorem VR.oneB {ι : Inj} {v v' : Value} (h : VR ι v v') : oneB v' = oneB v := by cases h <;> rfl
theorem VR.cells {ι : Inj} {v v' : Value} (h : VR ι v v') : VRs ι v.cells.toList v'.cells.toList := by
  cases h <;> simp only [Value.cells] <;> first | assumption | (refine .cons ?_ .nil; constructor <;> assumption) | (exact .cons (by constructor) .nil)

/-! ### Worlds -/
theorem addr_add (b o n : Nat) : (⟨b, o, none⟩ : Addr).add n = ⟨b, o + n, none⟩ := by
  unfold Addr.add; split <;> simp_all

/-- Nothing of a block is held fast; where elements have more than one cell there is no mark behind it. -/
def FzOk (sz size : Nat) (fz : Nat × Nat) : Prop := (∀ k, k < size → ¬ (fz.1 ≤ k ∧ k < fz.2)) ∧ (1 < sz → fz = (0, 0))
theorem FzOk.zero (sz size : Nat) : FzOk sz size (0, 0) := ⟨fun k _ h => by have := h.2; simp at this, fun _ => rfl⟩
/-- An object that lies nowhere yet: it has no elements and no room. -/
def Ph (o : AObj) (p : Place) : Prop := o.es = [] ∧ p.cap = 0
structure ObjR (N : Nat) (ι : Inj) (o : AObj) (p : Place) (w : World) : Prop where
  sz : p.sz = o.sz
  pos : 0 < o.sz
  cap : o.es.length ≤ p.cap
  len : ∀ (k : Nat) (e : List Value), o.es[k]? = some e → e.length = o.sz
  cell : ∀ (k : Nat) (e : List Value), o.es[k]? = some e → ∀ (j : Nat) (v : Value), e[j]? = some v → ∃ v', w.cell? ⟨p.b, p.off + k * p.sz + j, none⟩ = some v' ∧ VR ι v v' ∧ oneB v = true
  own' : o.w = true → Ph o p ∨ N ≤ p.b ∧ ∃ arr fz, w.heap[p.b]? = some (.cells arr o.t fz) ∧ p.off + p.cap * p.sz ≤ arr.size ∧ FzOk o.sz arr.size fz

theorem ObjR.own {N : Nat} {ι : Inj} {o : AObj} {p : Place} {w : World} (h : ObjR N ι o p w) (hw : o.w = true) (hc : 0 < p.cap) : N ≤ p.b ∧ ∃ arr fz, w.heap[p.b]? = some (.cells arr o.t fz) ∧ p.off + p.cap * p.sz ≤ arr.size ∧ FzOk o.sz arr.size fz :=
  (h.own' hw).resolve_left fun g => by have := g.2; omega
/-- What the codes of numbers stand for. -/
abbrev Den := Nat → Option Value
structure Rel (D : Den) (N : Nat) (w0 : World) (ι : Inj) (σ : Store) (w : World) : Prop where
  below : Below N w0 w
  size : N ≤ w.heap.size
  obj : ∀ i o, σ i = some o → ∃ p, ι i = some p ∧ (Ph o p ∨ p.b < w.heap.size) ∧ ObjR N ι o p w
  sep : ∀ i j o o' p p', σ i = some o → σ j = some o' → ι i = some p → ι j = some p' → i ≠ j → o.w = true → Ph o p ∨ Ph o' p' ∨ p.b ≠ p'.b
  den : ∀ c v, D c = some v → ∃ p, ι c = some p ∧ p.val = some v

theorem cell_block {w w' : World} {b o : Nat} (h : w'.heap[b]? = w.heap[b]?) : w'.cell? ⟨b, o, none⟩ = w.cell? ⟨b, o, none⟩ := by
  unfold World.cell?; rw [h]
theorem ObjR.keep {N : Nat} {ι κ : Inj} {o : AObj} {p : Place} {w w' : World} (h : ObjR N ι o p w) (hk : ι.le κ) (hb : Ph o p ∨ w'.heap[p.b]? = w.heap[p.b]?) : ObjR N κ o p w' where
  sz := h.sz
  pos := h.pos
  cap := h.cap
  len := h.len
  cell := fun k e he j v hv => by
    obtain ⟨v', h1, h2, h3⟩ := h.cell k e he j v hv
    rcases hb with hb | hb
    · rw [hb.1] at he; simp at he
    · exact ⟨v', (cell_block hb).trans h1, h2.mono hk, h3⟩
  own' := fun hw => by
    rcases hb with hb | hb
    · exact .inl hb
    · rcases h.own' hw with h0 | ⟨h1, arr, fz, h2, h3⟩
      · exact .inl h0
      · exact .inr ⟨h1, arr, fz, by rw [hb]; exact h2, h3⟩

/-- Worlds whose blocks are the same. -/
theorem Rel.same {D : Den} {N : Nat} {w0 : World} {ι : Inj} {σ : Store} {w w' : World} (h : Rel D N w0 ι σ w) (hh : w'.heap = w.heap) (ho : w'.os = w.os) (ht : w'.tape = w.tape) (hp : w'.output = w.output) : Rel D N w0 ι σ w' where
  below := ⟨ho.trans h.below.os, ht.trans h.below.tape, hp.trans h.below.output, by rw [hh]; exact h.below.size, fun k hk => by rw [hh]; exact h.below.block k hk⟩
  size := by rw [hh]; exact h.size
  obj := fun i o e => by
    obtain ⟨p, h1, h2, h3⟩ := h.obj i o e
    exact ⟨p, h1, by rw [hh]; exact h2, h3.keep (Inj.le_refl _) (.inr (by rw [hh]))⟩
  sep := h.sep
  den := h.den

/-- Fewer objects. -/
theorem Rel.less {D : Den} {N : Nat} {w0 : World} {ι : Inj} {σ τ : Store} {w : World} (h : Rel D N w0 ι σ w) (hs : ∀ i o, τ i = some o → σ i = some o) : Rel D N w0 ι τ w where
  below := h.below
  size := h.size
  obj := fun i o e => h.obj i o (hs i o e)
  sep := fun i j o o' p p' h1 h2 => h.sep i j o o' p p' (hs _ _ h1) (hs _ _ h2)
  den := h.den

/-- A new object in a new block. -/
theorem Rel.new {D : Den} {N : Nat} {w0 : World} {ι : Inj} {σ : Store} {w : World} (h : Rel D N w0 ι σ w) (n : Nat) (hn : ι n = none) (o : AObj) (p : Place) (arr : Array Value) (fz : Nat × Nat)
    (hb : p.b = w.heap.size) (hsz : p.sz = o.sz) (hpos : 0 < o.sz) (hcap : o.es.length ≤ p.cap) (hlen : ∀ (k : Nat) (e : List Value), o.es[k]? = some e → e.length = o.sz)
    (hcell : ∀ (k : Nat) (e : List Value), o.es[k]? = some e → ∀ (j : Nat) (v : Value), e[j]? = some v → ∃ v', arr[p.off + k * p.sz + j]? = some v' ∧ VR ι v v' ∧ oneB v = true)
    (hroom : p.off + p.cap * p.sz ≤ arr.size) (hfz : FzOk o.sz arr.size fz) (w' : World)
    (hh : w'.heap = w.heap.push (.cells arr o.t fz)) (ho : w'.os = w.os) (ht : w'.tape = w.tape) (hp : w'.output = w.output) :
    Rel D N w0 (fun i => if i = n then some p else ι i) (app [(n, some o)] σ) w' := by
  have hle : ι.le (fun i => if i = n then some p else ι i) := fun i q e => by
    show (if i = n then some p else ι i) = some q
    rw [if_neg (fun hi => by rw [hi, hn] at e; cases e)]; exact e
  have hold : ∀ k, k < w.heap.size → w'.heap[k]? = w.heap[k]? := fun k hk => by rw [hh, Array.getElem?_push, if_neg (by omega)]
  have hnew : w'.heap[p.b]? = some (.cells arr o.t fz) := by rw [hh, hb, Array.getElem?_push, if_pos rfl]
  have hsize : w'.heap.size = w.heap.size + 1 := by rw [hh]; simp
  refine ⟨⟨ho.trans h.below.os, ht.trans h.below.tape, hp.trans h.below.output, by rw [hsize]; have := h.below.size; omega, fun k hk => ?_⟩, by rw [hsize]; have := h.size; omega, fun i q e => ?_, fun i j q q' r r' e1 e2 f1 f2 hij hw => ?_, fun c v e => by obtain ⟨q, h1, h2⟩ := h.den c v e; exact ⟨q, hle _ _ h1, h2⟩⟩
  · rw [hold k (by have := h.size; omega)]; exact h.below.block k hk
  · simp only [app] at e
    by_cases hi : i = n
    · rw [if_pos hi] at e
      cases e
      refine ⟨p, by show (if i = n then _ else _) = _; rw [if_pos hi], .inr (by omega), hsz, hpos, hcap, hlen, fun k e he j v hv => ?_, fun _ => .inr ⟨by rw [hb]; exact h.size, arr, fz, hnew, hroom, hfz⟩⟩
      obtain ⟨v', h1, h2, h3⟩ := hcell k e he j v hv
      refine ⟨v', ?_, h2.mono hle, h3⟩
      unfold World.cell?
      simp only [hnew, Option.isSome_none, Bool.false_eq_true, if_false]
      exact h1
    · rw [if_neg hi] at e
      obtain ⟨r, h1, h2, h3⟩ := h.obj i q e
      exact ⟨r, hle _ _ h1, h2.imp (fun h => h) (fun h => by omega), h3.keep hle (h2.imp (fun h => h) (hold _))⟩
  · simp only [app] at e1 e2
    by_cases hi : i = n <;> by_cases hj : j = n
    · exact absurd (hi.trans hj.symm) hij
    · rw [if_neg hj] at e2
      simp only [if_pos hi, if_neg hj] at f1 f2
      cases f1
      obtain ⟨s, g1, g2, _⟩ := h.obj j q' e2
      rw [g1] at f2; cases f2
      exact .inr (g2.imp (fun h => h) (fun g => by omega))
    · rw [if_neg hi] at e1
      simp only [if_pos hj, if_neg hi] at f1 f2
      cases f2
      obtain ⟨s, g1, g2, _⟩ := h.obj i q e1
      rw [g1] at f1; cases f1
      exact g2.imp (fun h => h) (fun g => .inr (by omega))
    · rw [if_neg hi] at e1; rw [if_neg hj] at e2
      simp only [if_neg hi, if_neg hj] at f1 f2
      exact h.sep i j q q' r r' e1 e2 f1 f2 hij hw

/-- The cells of one object's block are written. -/
theorem Rel.put {D : Den} {N : Nat} {w0 : World} {ι : Inj} {σ : Store} {w : World} (h : Rel D N w0 ι σ w) {i : Nat} {o o' : AObj} {p : Place} (hi : σ i = some o) (hw : o.w = true) (hp : ι i = some p) (hcp : 0 < p.cap)
    (ht : o'.t = o.t) (hs : o'.sz = o.sz) (hw' : o'.w = true) (hlen : ∀ (k : Nat) (e : List Value), o'.es[k]? = some e → e.length = o.sz) (hcap : o'.es.length ≤ p.cap) {arr : Array Value} {fz : Nat × Nat} (arr' : Array Value) (hblk : w.heap[p.b]? = some (.cells arr o.t fz)) (hsz : arr'.size = arr.size)
    (hcell : ∀ (k : Nat) (e : List Value), o'.es[k]? = some e → ∀ (j : Nat) (v : Value), e[j]? = some v → ∃ v', arr'[p.off + k * p.sz + j]? = some v' ∧ VR ι v v' ∧ oneB v = true) (w' : World)
    (hold : ∀ k, k ≠ p.b → w'.heap[k]? = w.heap[k]?) (hnew : w'.heap[p.b]? = some (.cells arr' o.t fz)) (hsize : w'.heap.size = w.heap.size) (ho : w'.os = w.os) (hta : w'.tape = w.tape) (hou : w'.output = w.output) :
    Rel D N w0 ι (app [(i, some o')] σ) w' := by
  obtain ⟨q, g1, g2, g3⟩ := h.obj i o hi
  rw [hp] at g1; cases g1
  obtain ⟨hN, arr1, fz1, hb1, hr1, hf1⟩ := g3.own hw hcp
  rw [hblk] at hb1; cases hb1
  have hnp : ∀ x : AObj, ¬ Ph x p := fun x g => by have := g.2; omega
  have hlt : p.b < w.heap.size := (Array.getElem?_eq_some_iff.1 hblk).1
  refine ⟨⟨ho.trans h.below.os, hta.trans h.below.tape, hou.trans h.below.output, by rw [hsize]; exact h.below.size, fun k hk => ?_⟩, by rw [hsize]; exact h.size, fun j q e => ?_, fun j k q q' r r' e1 e2 f1 f2 hjk hwq => ?_, h.den⟩
  · rw [hold k (by omega)]; exact h.below.block k hk
  · simp only [app] at e
    by_cases hj : j = i
    · rw [if_pos hj] at e; cases e
      subst hj
      refine ⟨p, hp, .inr (by omega), by rw [g3.sz, hs], by rw [hs]; exact g3.pos, hcap, by rw [hs]; exact hlen, fun k e he j v hv => ?_, fun _ => .inr ⟨hN, arr', fz, by rw [ht]; exact hnew, by omega, by rw [hs, hsz]; exact hf1⟩⟩
      obtain ⟨v', h1, h2, h3⟩ := hcell k e he j v hv
      refine ⟨v', ?_, h2, h3⟩
      unfold World.cell?
      simp only [hnew, Option.isSome_none, Bool.false_eq_true, if_false]
      exact h1
    · rw [if_neg hj] at e
      obtain ⟨r, h1, h2, h3⟩ := h.obj j q e
      refine ⟨r, h1, by rw [hsize]; exact h2, h3.keep (Inj.le_refl _) ?_⟩
      rcases h.sep i j o q p r hi e hp h1 (fun x => hj x.symm) hw with g | g | g
      · exact absurd g (hnp _)
      · exact .inl g
      · exact .inr (hold _ fun e' => g e'.symm)
  · simp only [app] at e1 e2
    by_cases hj : j = i <;> by_cases hk : k = i
    · exact absurd (hj.trans hk.symm) hjk
    · rw [if_pos hj] at e1; rw [if_neg hk] at e2; subst hj
      rw [hp] at f1; cases f1
      exact (h.sep j k o q' p r' hi e2 hp f2 hjk hw).imp (fun g => absurd g (hnp _)) (fun g => g)
    · rw [if_neg hj] at e1; rw [if_pos hk] at e2; subst hk; cases e2
      rw [hp] at f2; cases f2
      rcases h.sep k j o q p r hi e1 hp f1 (fun x => hjk x.symm) hw with g | g | g
      · exact absurd g (hnp _)
      · exact .inl g
      · exact .inr (.inr fun e' => g e'.symm)
    · rw [if_neg hj] at e1; rw [if_neg hk] at e2
      exact h.sep j k q q' r r' e1 e2 f1 f2 hjk hwq
end Go.Proofs.YtgajcmanompmcaaV
