/- Part 1 of the texts that prove FilerReads: the abstract machine, its calculus, and walks through functions; joined by a program of this workplace. -/
import Derived.Calls
import Derived.Orders
import Derived.Below
import Derived.KernelRfl
import Derived.Laws.Cells
import Derived.Laws.CopyRow
import Derived.IntWalk
import Derived.Laws.IdiomRangeMap
import Derived.Laws.BytesString
/- The abstract machine: its values' and objects' relation to the model's worlds. -/
set_option linter.unusedVariables false
set_option linter.unusedSimpArgs false
namespace Go.Proofs.YtdiofapingdlmaaV
open Go.RowKit
/-- What is not cells: a map with whole numbers to texts, and one that steps through it (the map, the entries that were seen, how many there were). -/
inductive MC where
  | map (l : List (Nat × ByteArray))
  | it (j : Nat) (seen : List Nat) (len : Nat)
deriving DecidableEq
/-- What an object is of: cells of a type, or what is not cells. -/
inductive TK where
  | ty (t : TypeId)
  | mc (m : MC)
deriving DecidableEq
instance : Coe TypeId TK := ⟨.ty⟩
instance (n : Nat) : OfNat TK n := ⟨.ty n⟩
instance : Inhabited TK := ⟨.ty 0⟩
def TK.n : TK → TypeId
  | .ty t => t
  | .mc _ => 0
/-- An object of the abstract store: its elements, each a list of cells. -/
structure AObj where
  es : List (List Value)
  sz : Nat
  t : TK
  w : Bool
deriving Inhabited
abbrev Store := Nat → Option AObj
abbrev Delta := List (Nat × Option AObj)
def app : Delta → Store → Store
  | [], σ => σ
  | (i, o) :: d, σ => fun j => if j = i then o else app d σ j
theorem app_append (d e : Delta) (σ : Store) : app (d ++ e) σ = app d (app e σ) := by
  induction d with
  | nil => rfl
  | cons x d ih => obtain ⟨i, o⟩ := x; funext j; simp [app, ih]
def keys (d : Delta) : List Nat := d.map (·.1)
theorem app_off {d : Delta} {σ : Store} {i : Nat} (h : i ∉ keys d) : app d σ i = σ i := by
  induction d with
  | nil => rfl
  | cons x d ih =>
    obtain ⟨k, o⟩ := x
    simp [keys] at h ⊢
    simp only [app]
    rw [if_neg h.1]
    exact ih (by simpa [keys] using h.2)
theorem app_on {d : Delta} {σ τ : Store} {i : Nat} (h : i ∈ keys d) : app d σ i = app d τ i := by
  induction d with
  | nil => simp [keys] at h
  | cons x d ih =>
    obtain ⟨k, o⟩ := x
    simp only [app]
    by_cases hk : i = k
    · rw [if_pos hk, if_pos hk]
    · rw [if_neg hk, if_neg hk]
      exact ih (by simp [keys] at h ⊢; exact h.resolve_left hk)
/-- Where an object lies: block, first cell, cells of an element, elements that have room. -/
structure Place where
  b : Nat
  off : Nat
  sz : Nat
  cap : Nat
  val : Option Value := none
abbrev Inj := Nat → Option Place
def Inj.le (ι κ : Inj) : Prop := ∀ i p, ι i = some p → κ i = some p
theorem Inj.le_refl (ι : Inj) : ι.le ι := fun _ _ h => h
theorem Inj.le_trans {ι κ μ : Inj} (h : ι.le κ) (k : κ.le μ) : ι.le μ := fun i p e => k i p (h i p e)
mutual
inductive VR (ι : Inj) : Value → Value → Prop
  | bool (b : Bool) : VR ι (.bool b) (.bool b)
  | int (k : IntKind) (n : Int) : VR ι (.int k n) (.int k n)
  | str (s : ByteArray) : VR ι (.string s) (.string s)
  | ptrNil : VR ι (.pointer none) (.pointer none)
  | ptr {i k j : Nat} {p : Place} (h : ι i = some p) : VR ι (.pointer (some ⟨i, k, some j⟩)) (.pointer (some ⟨p.b, p.off + k * p.sz + j, none⟩))
  | sliceNil : VR ι (.slice none 0 0) (.slice none 0 0)
  | slice {i o n : Nat} {p : Place} (h : ι i = some p) (hc : o + n ≤ p.cap) : VR ι (.slice (some ⟨i, o, none⟩) n 0) (.slice (some ⟨p.b, p.off + o * p.sz, none⟩) n (p.cap - o))
  | sliceZ {i o : Nat} {p : Place} {a : Addr} (h : ι i = some p) (hc : p.cap ≤ o) : VR ι (.slice (some ⟨i, o, none⟩) 0 0) (.slice (some a) 0 0)
  | sliceZ1 {i o : Nat} {a : Addr} : VR ι (.slice (some ⟨i, o, none⟩) 0 1) (.slice (some a) 0 0)
  | sliceC {i o n : Nat} {p : Place} (h : ι i = some p) (hc : o + n ≤ p.cap) : VR ι (.slice (some ⟨i, o, none⟩) n 1) (.slice (some ⟨p.b, p.off + o * p.sz, none⟩) n n)
  | sliceM {i o n : Nat} {p : Place} (h : ι i = some p) (hc : o + n ≤ p.cap) : VR ι (.slice (some ⟨i, o, none⟩) n 2) (.slice (some ⟨p.b, p.off + o * p.sz, none⟩) n (p.cap - o))
  | sliceMZ {i o : Nat} {p : Place} {a : Addr} (h : ι i = some p) (hc : p.cap ≤ o) : VR ι (.slice (some ⟨i, o, none⟩) 0 2) (.slice (some a) 0 0)
  | sliceMN {i o : Nat} : VR ι (.slice (some ⟨i, o, none⟩) 0 2) (.slice none 0 0)
  | sliceE {i o : Nat} : VR ι (.slice (some ⟨i, o, none⟩) 0 3) (.slice none 0 0)
  | sliceE1 {i o : Nat} {a : Addr} : VR ι (.slice (some ⟨i, o, none⟩) 0 3) (.slice (some a) 0 0)
  | mapNil : VR ι (.map none) (.map none)
  | map {i : Nat} {p : Place} (h : ι i = some p) : VR ι (.map (some i)) (.map (some p.b))
  | iter {i : Nat} {p : Place} (h : ι i = some p) : VR ι (.pointer (some ⟨i, 0, none⟩)) (.pointer (some ⟨p.b, 0, none⟩))
  | sym {c : Nat} {p : Place} {k : IntKind} {n : Int} (h : ι c = some p) (hv : p.val = some (.int k n)) : VR ι (.chan (some c)) (.int k n)
  | symS {c : Nat} {p : Place} {s : ByteArray} (h : ι c = some p) (hv : p.val = some (.string s)) : VR ι (.chan (some c)) (.string s)
  | nilFunc : VR ι .nilFunc .nilFunc
  | nilIface : VR ι .nilIface .nilIface
  | func {fn : Fn} {a a' b b' : List Value} (ha : VRs ι a a') (hb : VRs ι b b') : VR ι (.func fn ⟨a⟩ ⟨b⟩) (.func fn ⟨a'⟩ ⟨b'⟩)
  | iface {t : TypeId} {v v' : Value} (h : VR ι v v') : VR ι (.iface t v) (.iface t v')
  | agg {a a' : List Value} (h : VRs ι a a') : VR ι (.agg ⟨a⟩) (.agg ⟨a'⟩)
  | tuple {a a' : List Value} (h : VRs ι a a') : VR ι (.tuple ⟨a⟩) (.tuple ⟨a'⟩)
inductive VRs (ι : Inj) : List Value → List Value → Prop
  | nil : VRs ι [] []
  | cons {v v' : Value} {l l' : List Value} (h : VR ι v v') (hs : VRs ι l l') : VRs ι (v :: l) (v' :: l')
end
mutual
theorem VR.mono {ι κ : Inj} (hk : ι.le κ) : ∀ {v v' : Value}, VR ι v v' → VR κ v v'
  | _, _, .bool b => .bool b
  | _, _, .int k n => .int k n
  | _, _, .str s => .str s
  | _, _, .ptrNil => .ptrNil
  | _, _, .ptr h => .ptr (hk _ _ h)
  | _, _, .sliceNil => .sliceNil
  | _, _, .slice h hc => .slice (hk _ _ h) hc
  | _, _, .sliceZ h hc => .sliceZ (hk _ _ h) hc
  | _, _, .sliceZ1 => .sliceZ1
  | _, _, .sliceC h hc => .sliceC (hk _ _ h) hc
  | _, _, .sliceM h hc => .sliceM (hk _ _ h) hc
  | _, _, .sliceMZ h hc => .sliceMZ (hk _ _ h) hc
  | _, _, .sliceMN => .sliceMN
  | _, _, .sliceE => .sliceE
  | _, _, .sliceE1 => .sliceE1
  | _, _, .mapNil => .mapNil
  | _, _, .map h => .map (hk _ _ h)
  | _, _, .iter h => .iter (hk _ _ h)
  | _, _, .sym h hv => .sym (hk _ _ h) hv
  | _, _, .symS h hv => .symS (hk _ _ h) hv
  | _, _, .nilFunc => .nilFunc
  | _, _, .nilIface => .nilIface
  | _, _, .func ha hb => .func (VRs.mono hk ha) (VRs.mono hk hb)
  | _, _, .iface h => .iface (VR.mono hk h)
  | _, _, .agg h => .agg (VRs.mono hk h)
  | _, _, .tuple h => .tuple (VRs.mono hk h)
theorem VRs.mono {ι κ : Inj} (hk : ι.le κ) : ∀ {l l' : List Value}, VRs ι l l' → VRs κ l l'
  | _, _, .nil => .nil
  | _, _, .cons h hs => .cons (VR.mono hk h) (VRs.mono hk hs)
end
theorem VRs.length {ι : Inj} : ∀ {l l' : List Value}, VRs ι l l' → l.length = l'.length
  | _, _, .nil => rfl
  | _, _, .cons _ hs => by simp [VRs.length hs]
theorem VRs.get {ι : Inj} : ∀ {l l' : List Value}, VRs ι l l' → ∀ (j : Nat) (v : Value), l[j]? = some v → ∃ v', l'[j]? = some v' ∧ VR ι v v'
  | _, _, .nil, j, v, h => by simp at h
  | _, _, .cons h hs, 0, v, e => by simp at e; subst e; exact ⟨_, rfl, h⟩
  | _, _, .cons h hs, j + 1, v, e => by simp at e ⊢; exact VRs.get hs j v e
theorem VRs.get' {ι : Inj} : ∀ {l l' : List Value}, VRs ι l l' → ∀ (j : Nat) (v' : Value), l'[j]? = some v' → ∃ v, l[j]? = some v ∧ VR ι v v'
  | _, _, .nil, j, v, h => by simp at h
  | _, _, .cons h hs, 0, v, e => by simp at e; subst e; exact ⟨_, rfl, h⟩
  | _, _, .cons h hs, j + 1, v, e => by simp at e ⊢; exact VRs.get' hs j v e
theorem VRs.append {ι : Inj} : ∀ {l l' m m' : List Value}, VRs ι l l' → VRs ι m m' → VRs ι (l ++ m) (l' ++ m')
  | _, _, _, _, .nil, k => k
  | _, _, _, _, .cons h hs, k => .cons h (VRs.append hs k)
theorem VRs.take {ι : Inj} : ∀ (n : Nat) {l l' : List Value}, VRs ι l l' → VRs ι (l.take n) (l'.take n)
  | 0, _, _, _ => by simp; exact .nil
  | n + 1, _, _, .nil => by simp; exact .nil
  | n + 1, _, _, .cons h hs => by simp; exact .cons h (VRs.take n hs)
theorem VRs.drop {ι : Inj} : ∀ (n : Nat) {l l' : List Value}, VRs ι l l' → VRs ι (l.drop n) (l'.drop n)
  | 0, _, _, h => by simpa using h
  | n + 1, _, _, .nil => by simp; exact .nil
  | n + 1, _, _, .cons h hs => by simp; exact VRs.drop n hs
theorem VRs.of_get {ι : Inj} : ∀ {l l' : List Value}, l.length = l'.length → (∀ (j : Nat) (v : Value), l[j]? = some v → ∃ v', l'[j]? = some v' ∧ VR ι v v') → VRs ι l l'
  | [], [], _, _ => .nil
  | [], _ :: _, h, _ => by simp at h
  | _ :: _, [], h, _ => by simp at h
  | a :: l, b :: l', h, k => by
    refine .cons ?_ (VRs.of_get (by simpa using h) fun j v e => ?_)
    · obtain ⟨v', e, hv⟩ := k 0 a rfl
      simp at e; subst e; exact hv
    · obtain ⟨v', e', hv⟩ := k (j + 1) v (by simpa using e)
      exact ⟨v', by simpa using e', hv⟩
/-- The value of one cell. -/
def oneB : Value → Bool
  | .agg _ | .tuple _ => false
  | _ => true
theorem VR.oneB {ι : Inj} {v v' : Value} (h : VR ι v v') : oneB v' = oneB v := by cases h <;> rfl
theorem VR.cells {ι : Inj} {v v' : Value} (h : VR ι v v') : VRs ι v.cells.toList v'.cells.toList := by
  cases h <;> simp only [Value.cells] <;> first | assumption | (refine .cons ?_ .nil; constructor <;> assumption) | (exact .cons (by constructor) .nil)
/-! ### Worlds -/
theorem addr_add (b o n : Nat) : (⟨b, o, none⟩ : Addr).add n = ⟨b, o + n, none⟩ := by
  unfold Addr.add; split <;> simp_all
/-- Nothing of a block is held fast; where elements have more than one cell there is no mark behind it. -/
def FzOk (sz size : Nat) (fz : Nat × Nat) : Prop := (∀ k, k < size → ¬ (fz.1 ≤ k ∧ k < fz.2)) ∧ (1 < sz → fz = (0, 0))
theorem FzOk.zero (sz size : Nat) : FzOk sz size (0, 0) := ⟨fun k _ h => by have := h.2; simp at this, fun _ => rfl⟩
/-- An object that lies nowhere yet: it has no elements and no room. -/
def Ph (o : AObj) (p : Place) : Prop := o.es = [] ∧ p.cap = 0
/-- The entries of a map. -/
def entA (l : List (Nat × ByteArray)) (c : Nat) : List MapEntry := match l with
  | [] => []
  | (k, s) :: l => { key := .int .i64 k, val := .string s, born := c } :: entA l (c + 1)
def MapR (ι : Inj) : MC → Obj → Prop
  | .map l, b => b = .map (entA l 0).toArray l.length
  | .it j seen len, b => ∃ q, ι j = some q ∧ b = .mapIter (some q.b) len seen.toArray len
theorem MapR.mono {ι κ : Inj} {m : MC} {b : Obj} (h : MapR ι m b) (hk : ι.le κ) : MapR κ m b := by
  cases m with
  | map l => exact h
  | it j seen len => obtain ⟨q, h1, h2⟩ := h; exact ⟨q, hk _ _ h1, h2⟩
/-- An object whose block is of no other one. -/
def AObj.own (o : AObj) : Prop := o.w = true ∨ ∃ m, o.t = .mc m
structure ObjR (N : Nat) (ι : Inj) (o : AObj) (p : Place) (w : World) : Prop where
  sz : p.sz = o.sz
  pos : 0 < o.sz
  cap : o.es.length ≤ p.cap
  len : ∀ (k : Nat) (e : List Value), o.es[k]? = some e → e.length = o.sz
  cell : ∀ (k : Nat) (e : List Value), o.es[k]? = some e → ∀ (j : Nat) (v : Value), e[j]? = some v → ∃ v', w.cell? ⟨p.b, p.off + k * p.sz + j, none⟩ = some v' ∧ VR ι v v' ∧ oneB v = true
  own' : o.w = true → Ph o p ∨ N ≤ p.b ∧ ∃ arr fz, w.heap[p.b]? = some (.cells arr o.t.n fz) ∧ p.off + p.cap * p.sz ≤ arr.size ∧ FzOk o.sz arr.size fz
  mp : o.w = false → ∀ m, o.t = .mc m → N ≤ p.b ∧ 0 < p.cap ∧ ∃ b, w.heap[p.b]? = some b ∧ MapR ι m b
theorem ObjR.own {N : Nat} {ι : Inj} {o : AObj} {p : Place} {w : World} (h : ObjR N ι o p w) (hw : o.w = true) (hc : 0 < p.cap) : N ≤ p.b ∧ ∃ arr fz, w.heap[p.b]? = some (.cells arr o.t.n fz) ∧ p.off + p.cap * p.sz ≤ arr.size ∧ FzOk o.sz arr.size fz :=
  (h.own' hw).resolve_left fun g => by have := g.2; omega
/-- What the codes of numbers stand for. -/
abbrev Den := Nat → Option Value
structure Rel (D : Den) (N : Nat) (w0 : World) (ι : Inj) (σ : Store) (w : World) : Prop where
  below : Below N w0 w
  size : N ≤ w.heap.size
  obj : ∀ i o, σ i = some o → ∃ p, ι i = some p ∧ (Ph o p ∨ p.b < w.heap.size) ∧ ObjR N ι o p w
  sep : ∀ i j o o' p p', σ i = some o → σ j = some o' → ι i = some p → ι j = some p' → i ≠ j → o.own → Ph o p ∨ Ph o' p' ∨ p.b ≠ p'.b
  den : ∀ c v, D c = some v → ∃ p, ι c = some p ∧ p.val = some v
theorem cell_block {w w' : World} {b o : Nat} (h : w'.heap[b]? = w.heap[b]?) : w'.cell? ⟨b, o, none⟩ = w.cell? ⟨b, o, none⟩ := by
  unfold World.cell?; rw [h]
theorem ObjR.keep {N : Nat} {ι κ : Inj} {o : AObj} {p : Place} {w w' : World} (h : ObjR N ι o p w) (hk : ι.le κ) (hb : Ph o p ∨ w'.heap[p.b]? = w.heap[p.b]?) : ObjR N κ o p w' where
  sz := h.sz
  pos := h.pos
  cap := h.cap
  len := h.len
  cell := fun k e he j v hv => by
    obtain ⟨v', h1, h2, h3⟩ := h.cell k e he j v hv
    rcases hb with hb | hb
    · rw [hb.1] at he; simp at he
    · exact ⟨v', (cell_block hb).trans h1, h2.mono hk, h3⟩
  own' := fun hw => by
    rcases hb with hb | hb
    · exact .inl hb
    · rcases h.own' hw with h0 | ⟨h1, arr, fz, h2, h3⟩
      · exact .inl h0
      · exact .inr ⟨h1, arr, fz, by rw [hb]; exact h2, h3⟩
  mp := fun hw m hm => by
    obtain ⟨h1, h2, b, h3, h4⟩ := h.mp hw m hm
    refine ⟨h1, h2, b, ?_, h4.mono hk⟩
    rcases hb with hb | hb
    · exact absurd hb.2 (by omega)
    · rw [hb]; exact h3
/-- Worlds whose blocks are the same. -/
theorem Rel.same {D : Den} {N : Nat} {w0 : World} {ι : Inj} {σ : Store} {w w' : World} (h : Rel D N w0 ι σ w) (hh : w'.heap = w.heap) (ho : w'.os = w.os) (ht : w'.tape = w.tape) (hp : w'.output = w.output) : Rel D N w0 ι σ w' where
  below := ⟨ho.trans h.below.os, ht.trans h.below.tape, hp.trans h.below.output, by rw [hh]; exact h.below.size, fun k hk => by rw [hh]; exact h.below.block k hk⟩
  size := by rw [hh]; exact h.size
  obj := fun i o e => by
    obtain ⟨p, h1, h2, h3⟩ := h.obj i o e
    exact ⟨p, h1, by rw [hh]; exact h2, h3.keep (Inj.le_refl _) (.inr (by rw [hh]))⟩
  sep := h.sep
  den := h.den
/-- Fewer objects. -/
theorem Rel.less {D : Den} {N : Nat} {w0 : World} {ι : Inj} {σ τ : Store} {w : World} (h : Rel D N w0 ι σ w) (hs : ∀ i o, τ i = some o → σ i = some o) : Rel D N w0 ι τ w where
  below := h.below
  size := h.size
  obj := fun i o e => h.obj i o (hs i o e)
  sep := fun i j o o' p p' h1 h2 => h.sep i j o o' p p' (hs _ _ h1) (hs _ _ h2)
  den := h.den
/-- A new object in a new block. -/
theorem Rel.new {D : Den} {N : Nat} {w0 : World} {ι : Inj} {σ : Store} {w : World} (h : Rel D N w0 ι σ w) (n : Nat) (hn : ι n = none) (o : AObj) (p : Place) (arr : Array Value) (fz : Nat × Nat)
    (hb : p.b = w.heap.size) (hsz : p.sz = o.sz) (hpos : 0 < o.sz) (hcap : o.es.length ≤ p.cap) (hlen : ∀ (k : Nat) (e : List Value), o.es[k]? = some e → e.length = o.sz)
    (hcell : ∀ (k : Nat) (e : List Value), o.es[k]? = some e → ∀ (j : Nat) (v : Value), e[j]? = some v → ∃ v', arr[p.off + k * p.sz + j]? = some v' ∧ VR ι v v' ∧ oneB v = true)
    (hroom : p.off + p.cap * p.sz ≤ arr.size) (hfz : FzOk o.sz arr.size fz) (w' : World)
    (hh : w'.heap = w.heap.push (.cells arr o.t.n fz)) (ho : w'.os = w.os) (ht : w'.tape = w.tape) (hp : w'.output = w.output) (hwt : o.w = true := by rfl) :
    Rel D N w0 (fun i => if i = n then some p else ι i) (app [(n, some o)] σ) w' := by
  have hle : ι.le (fun i => if i = n then some p else ι i) := fun i q e => by
    show (if i = n then some p else ι i) = some q
    rw [if_neg (fun hi => by rw [hi, hn] at e; cases e)]; exact e
  have hold : ∀ k, k < w.heap.size → w'.heap[k]? = w.heap[k]? := fun k hk => by rw [hh, Array.getElem?_push, if_neg (by omega)]
  have hnew : w'.heap[p.b]? = some (.cells arr o.t.n fz) := by rw [hh, hb, Array.getElem?_push, if_pos rfl]
  have hsize : w'.heap.size = w.heap.size + 1 := by rw [hh]; simp
  refine ⟨⟨ho.trans h.below.os, ht.trans h.below.tape, hp.trans h.below.output, by rw [hsize]; have := h.below.size; omega, fun k hk => ?_⟩, by rw [hsize]; have := h.size; omega, fun i q e => ?_, fun i j q q' r r' e1 e2 f1 f2 hij hw => ?_, fun c v e => by obtain ⟨q, h1, h2⟩ := h.den c v e; exact ⟨q, hle _ _ h1, h2⟩⟩
  · rw [hold k (by have := h.size; omega)]; exact h.below.block k hk
  · simp only [app] at e
    by_cases hi : i = n
    · rw [if_pos hi] at e
      cases e
      refine ⟨p, by show (if i = n then _ else _) = _; rw [if_pos hi], .inr (by omega), hsz, hpos, hcap, hlen, fun k e he j v hv => ?_, fun _ => .inr ⟨by rw [hb]; exact h.size, arr, fz, hnew, hroom, hfz⟩, fun hw => by rw [hwt] at hw; cases hw⟩
      obtain ⟨v', h1, h2, h3⟩ := hcell k e he j v hv
      refine ⟨v', ?_, h2.mono hle, h3⟩
      unfold World.cell?
      simp only [hnew, Option.isSome_none, Bool.false_eq_true, if_false]
      exact h1
    · rw [if_neg hi] at e
      obtain ⟨r, h1, h2, h3⟩ := h.obj i q e
      exact ⟨r, hle _ _ h1, h2.imp (fun h => h) (fun h => by omega), h3.keep hle (h2.imp (fun h => h) (hold _))⟩
  · simp only [app] at e1 e2
    by_cases hi : i = n <;> by_cases hj : j = n
    · exact absurd (hi.trans hj.symm) hij
    · rw [if_neg hj] at e2
      simp only [if_pos hi, if_neg hj] at f1 f2
      cases f1
      obtain ⟨s, g1, g2, _⟩ := h.obj j q' e2
      rw [g1] at f2; cases f2
      exact .inr (g2.imp (fun h => h) (fun g => by omega))
    · rw [if_neg hi] at e1
      simp only [if_pos hj, if_neg hi] at f1 f2
      cases f2
      obtain ⟨s, g1, g2, _⟩ := h.obj i q e1
      rw [g1] at f1; cases f1
      exact g2.imp (fun h => h) (fun g => .inr (by omega))
    · rw [if_neg hi] at e1; rw [if_neg hj] at e2
      simp only [if_neg hi, if_neg hj] at f1 f2
      exact h.sep i j q q' r r' e1 e2 f1 f2 hij hw
/-- The cells of one object's block are written. -/
theorem Rel.put {D : Den} {N : Nat} {w0 : World} {ι : Inj} {σ : Store} {w : World} (h : Rel D N w0 ι σ w) {i : Nat} {o o' : AObj} {p : Place} (hi : σ i = some o) (hw : o.w = true) (hp : ι i = some p) (hcp : 0 < p.cap)
    (ht : o'.t = o.t) (hs : o'.sz = o.sz) (hw' : o'.w = true) (hlen : ∀ (k : Nat) (e : List Value), o'.es[k]? = some e → e.length = o.sz) (hcap : o'.es.length ≤ p.cap) {arr : Array Value} {fz : Nat × Nat} (arr' : Array Value) (hblk : w.heap[p.b]? = some (.cells arr o.t.n fz)) (hsz : arr'.size = arr.size)
    (hcell : ∀ (k : Nat) (e : List Value), o'.es[k]? = some e → ∀ (j : Nat) (v : Value), e[j]? = some v → ∃ v', arr'[p.off + k * p.sz + j]? = some v' ∧ VR ι v v' ∧ oneB v = true) (w' : World)
    (hold : ∀ k, k ≠ p.b → w'.heap[k]? = w.heap[k]?) (hnew : w'.heap[p.b]? = some (.cells arr' o.t.n fz)) (hsize : w'.heap.size = w.heap.size) (ho : w'.os = w.os) (hta : w'.tape = w.tape) (hou : w'.output = w.output) :
    Rel D N w0 ι (app [(i, some o')] σ) w' := by
  obtain ⟨q, g1, g2, g3⟩ := h.obj i o hi
  rw [hp] at g1; cases g1
  obtain ⟨hN, arr1, fz1, hb1, hr1, hf1⟩ := g3.own hw hcp
  rw [hblk] at hb1; cases hb1
  have hnp : ∀ x : AObj, ¬ Ph x p := fun x g => by have := g.2; omega
  have hlt : p.b < w.heap.size := (Array.getElem?_eq_some_iff.1 hblk).1
  refine ⟨⟨ho.trans h.below.os, hta.trans h.below.tape, hou.trans h.below.output, by rw [hsize]; exact h.below.size, fun k hk => ?_⟩, by rw [hsize]; exact h.size, fun j q e => ?_, fun j k q q' r r' e1 e2 f1 f2 hjk hwq => ?_, h.den⟩
  · rw [hold k (by omega)]; exact h.below.block k hk
  · simp only [app] at e
    by_cases hj : j = i
    · rw [if_pos hj] at e; cases e
      subst hj
      refine ⟨p, hp, .inr (by omega), by rw [g3.sz, hs], by rw [hs]; exact g3.pos, hcap, by rw [hs]; exact hlen, fun k e he j v hv => ?_, fun _ => .inr ⟨hN, arr', fz, by rw [ht]; exact hnew, by omega, by rw [hs, hsz]; exact hf1⟩, fun hw2 => by rw [hw'] at hw2; cases hw2⟩
      obtain ⟨v', h1, h2, h3⟩ := hcell k e he j v hv
      refine ⟨v', ?_, h2, h3⟩
      unfold World.cell?
      simp only [hnew, Option.isSome_none, Bool.false_eq_true, if_false]
      exact h1
    · rw [if_neg hj] at e
      obtain ⟨r, h1, h2, h3⟩ := h.obj j q e
      refine ⟨r, h1, by rw [hsize]; exact h2, h3.keep (Inj.le_refl _) ?_⟩
      rcases h.sep i j o q p r hi e hp h1 (fun x => hj x.symm) (.inl hw) with g | g | g
      · exact absurd g (hnp _)
      · exact .inl g
      · exact .inr (hold _ fun e' => g e'.symm)
  · simp only [app] at e1 e2
    by_cases hj : j = i <;> by_cases hk : k = i
    · exact absurd (hj.trans hk.symm) hjk
    · rw [if_pos hj] at e1; rw [if_neg hk] at e2; subst hj
      rw [hp] at f1; cases f1
      exact (h.sep j k o q' p r' hi e2 hp f2 hjk (.inl hw)).imp (fun g => absurd g (hnp _)) (fun g => g)
    · rw [if_neg hj] at e1; rw [if_pos hk] at e2; subst hk; cases e2
      rw [hp] at f2; cases f2
      rcases h.sep k j o q p r hi e1 hp f1 (fun x => hjk x.symm) (.inl hw) with g | g | g
      · exact absurd g (hnp _)
      · exact .inl g
      · exact .inr (.inr fun e' => g e'.symm)
    · rw [if_neg hj] at e1; rw [if_neg hk] at e2
      exact h.sep j k q q' r r' e1 e2 f1 f2 hjk hwq
/-- A new map, or one that steps through it, in a new block. -/
theorem Rel.newM {D : Den} {N : Nat} {w0 : World} {ι : Inj} {σ : Store} {w : World} (h : Rel D N w0 ι σ w) (n : Nat) (hn : ι n = none) (m : MC) (b : Obj) (p : Place)
    (hb : p.b = w.heap.size) (hsz : p.sz = 1) (hcap : 0 < p.cap) (hm : MapR ι m b) (w' : World)
    (hh : w'.heap = w.heap.push b) (ho : w'.os = w.os) (ht : w'.tape = w.tape) (hp : w'.output = w.output) :
    Rel D N w0 (fun i => if i = n then some p else ι i) (app [(n, some ⟨[], 1, .mc m, false⟩)] σ) w' := by
  have hle : ι.le (fun i => if i = n then some p else ι i) := fun i q e => by
    show (if i = n then some p else ι i) = some q
    rw [if_neg (fun hi => by rw [hi, hn] at e; cases e)]; exact e
  have hold : ∀ k, k < w.heap.size → w'.heap[k]? = w.heap[k]? := fun k hk => by rw [hh, Array.getElem?_push, if_neg (by omega)]
  have hnew : w'.heap[p.b]? = some b := by rw [hh, hb, Array.getElem?_push, if_pos rfl]
  have hsize : w'.heap.size = w.heap.size + 1 := by rw [hh]; simp
  refine ⟨⟨ho.trans h.below.os, ht.trans h.below.tape, hp.trans h.below.output, by rw [hsize]; have := h.below.size; omega, fun k hk => ?_⟩, by rw [hsize]; have := h.size; omega, fun i q e => ?_, fun i j q q' r r' e1 e2 f1 f2 hij hw => ?_, fun c v e => by obtain ⟨q, h1, h2⟩ := h.den c v e; exact ⟨q, hle _ _ h1, h2⟩⟩
  · rw [hold k (by have := h.size; omega)]; exact h.below.block k hk
  · simp only [app] at e
    by_cases hi : i = n
    · rw [if_pos hi] at e
      cases e
      exact ⟨p, by show (if i = n then _ else _) = _; rw [if_pos hi], .inr (by omega), hsz, Nat.one_pos, Nat.zero_le _, fun k e he => by simp at he, fun k e he => by simp at he, fun hw => (by cases hw), fun _ m' hm' => by
        cases hm'; exact ⟨by rw [hb]; exact h.size, hcap, b, hnew, hm.mono hle⟩⟩
    · rw [if_neg hi] at e
      obtain ⟨r, h1, h2, h3⟩ := h.obj i q e
      exact ⟨r, hle _ _ h1, h2.imp (fun h => h) (fun h => by omega), h3.keep hle (h2.imp (fun h => h) (hold _))⟩
  · simp only [app] at e1 e2
    by_cases hi : i = n <;> by_cases hj : j = n
    · exact absurd (hi.trans hj.symm) hij
    · rw [if_neg hj] at e2
      simp only [if_pos hi, if_neg hj] at f1 f2
      cases f1
      obtain ⟨s, g1, g2, _⟩ := h.obj j q' e2
      rw [g1] at f2; cases f2
      exact .inr (g2.imp (fun h => h) (fun g => by omega))
    · rw [if_neg hi] at e1
      simp only [if_pos hj, if_neg hi] at f1 f2
      cases f2
      obtain ⟨s, g1, g2, _⟩ := h.obj i q e1
      rw [g1] at f1; cases f1
      exact g2.imp (fun h => h) (fun g => .inr (by omega))
    · rw [if_neg hi] at e1; rw [if_neg hj] at e2
      simp only [if_neg hi, if_neg hj] at f1 f2
      exact h.sep i j q q' r r' e1 e2 f1 f2 hij hw
/-- A map, or one that steps through it, becomes another one. -/
theorem Rel.putM {D : Den} {N : Nat} {w0 : World} {ι : Inj} {σ : Store} {w : World} (h : Rel D N w0 ι σ w) {i : Nat} {m m' : MC} {p : Place} (hi : σ i = some ⟨[], 1, .mc m, false⟩) (hp : ι i = some p) {b' : Obj} (hm : MapR ι m' b') (w' : World)
    (hold : ∀ k, k ≠ p.b → w'.heap[k]? = w.heap[k]?) (hnew : w'.heap[p.b]? = some b') (hsize : w'.heap.size = w.heap.size) (ho : w'.os = w.os) (hta : w'.tape = w.tape) (hou : w'.output = w.output) :
    Rel D N w0 ι (app [(i, some ⟨[], 1, .mc m', false⟩)] σ) w' := by
  obtain ⟨q, g1, g2, g3⟩ := h.obj i _ hi
  rw [hp] at g1; cases g1
  obtain ⟨hN, hcp, b, hblk, _⟩ := g3.mp rfl m rfl
  have hnp : ∀ x : AObj, ¬ Ph x p := fun x g => by have := g.2; omega
  have hlt : p.b < w.heap.size := (Array.getElem?_eq_some_iff.1 hblk).1
  have hown : AObj.own ⟨[], 1, .mc m, false⟩ := .inr ⟨m, rfl⟩
  refine ⟨⟨ho.trans h.below.os, hta.trans h.below.tape, hou.trans h.below.output, by rw [hsize]; exact h.below.size, fun k hk => ?_⟩, by rw [hsize]; exact h.size, fun j q e => ?_, fun j k q q' r r' e1 e2 f1 f2 hjk hwq => ?_, h.den⟩
  · rw [hold k (by omega)]; exact h.below.block k hk
  · simp only [app] at e
    by_cases hj : j = i
    · rw [if_pos hj] at e; cases e
      subst hj
      exact ⟨p, hp, .inr (by omega), g3.sz, Nat.one_pos, Nat.zero_le _, fun k e he => by simp at he, fun k e he => by simp at he, fun hw => (by cases hw), fun _ m2 hm2 => by
        cases hm2; exact ⟨hN, hcp, b', hnew, hm⟩⟩
    · rw [if_neg hj] at e
      obtain ⟨r, h1, h2, h3⟩ := h.obj j q e
      refine ⟨r, h1, by rw [hsize]; exact h2, h3.keep (Inj.le_refl _) ?_⟩
      rcases h.sep i j _ q p r hi e hp h1 (fun x => hj x.symm) hown with g | g | g
      · exact absurd g (hnp _)
      · exact .inl g
      · exact .inr (hold _ fun e' => g e'.symm)
  · simp only [app] at e1 e2
    by_cases hj : j = i <;> by_cases hk : k = i
    · exact absurd (hj.trans hk.symm) hjk
    · rw [if_pos hj] at e1; rw [if_neg hk] at e2; subst hj
      rw [hp] at f1; cases f1
      exact (h.sep j k _ q' p r' hi e2 hp f2 hjk hown).imp (fun g => absurd g (hnp _)) (fun g => g)
    · rw [if_neg hj] at e1; rw [if_pos hk] at e2; subst hk; cases e2
      rw [hp] at f2; cases f2
      rcases h.sep k j _ q p r hi e1 hp f1 (fun x => hjk x.symm) hown with g | g | g
      · exact absurd g (hnp _)
      · exact .inl g
      · exact .inr (.inr fun e' => g e'.symm)
    · rw [if_neg hj] at e1; rw [if_neg hk] at e2
      exact h.sep j k q q' r r' e1 e2 f1 f2 hjk hwq
end Go.Proofs.YtdiofapingdlmaaV
/- The abstract machine: its operations. -/
set_option linter.unusedVariables false
set_option linter.unusedSimpArgs false
namespace Go.Proofs.YtdiofapingdlmaaV
open Go.RowKit
structure TI where
  d : TypeDesc
  zero : Value
  size : Nat
  bytes : Nat
  eqok : Bool
structure Env where
  ty : Nat → Option TI
  fn : Nat → Option Func
  den : Den := fun _ => none
  bin : BinOp → Value → Value → Option Value := fun _ _ _ => none
  un : UnOp → Value → Option Value := fun _ _ => none
  cvt : IntKind → Value → Option Value := fun _ _ => none
  sfind : Nat → BinOp → List Value → Option Value := fun _ _ _ => none
/-- What an operation does: reads of objects, then a value and what is written. -/
inductive T where
  | fail
  | ret (v : Value) (d : Delta)
  | get (i : Nat) (k : AObj → T)
  | fresh (k : Nat → T)
def T.run : T → Nat → Store → Option (Value × Nat × Delta)
  | .fail, _, _ => none
  | .ret v d, n, _ => some (v, n, d)
  | .get i k, n, σ => match σ i with
    | some o => (k o).run n σ
    | none => none
  | .fresh k, n, σ => (k n).run (n + 1) σ
def isAgg : TypeDesc → Bool
  | .struct _ | .array _ _ => true
  | _ => false
def mkv (d : TypeDesc) (cs : List Value) : Option Value :=
  if isAgg d then some (.agg ⟨cs⟩) else match cs with
    | [v] => some v
    | _ => none
/-- 'e' with 'c' written from cell 'j' on. -/
def ov {α : Type} (e : List α) (j : Nat) (c : List α) : List α := e.take j ++ c ++ e.drop (j + c.length)
def cl0 : Value → Bool
  | .bool _ | .int _ _ | .string _ | .pointer none | .slice none 0 0 | .map none | .nilFunc | .nilIface => true
  | _ => false
def ofSem : Sem Value → T
  | .pure v => .ret v []
  | _ => .fail
def orFail : Option Value → T
  | some v => .ret v []
  | none => .fail
def cellsL (v : Value) : List Value := v.cells.toList
def part (E : Env) (t : Nat) (cs : List Value) (off : Nat) : Option Value :=
  match E.ty t with
  | some i => if isAgg i.d then some (.agg ⟨(cs.drop off).take i.size⟩) else cs[off]?
  | none => none
def afill (place : Nat → Option (Nat × Nat)) (cells : List Value) : List (Nat × Value) → Option (List Value)
  | [] => some cells
  | (i, v) :: rest => match place i with
    | none => none
    | some (off, size) => if v.cells.size ≠ size || off + size > cells.length then none else afill place (ov cells off (cellsL v)) rest
def aparts (size : Nat) (es : List (List Value)) : List (Nat × Value) → Option (List (List Value))
  | [] => some es
  | (i, v) :: rest => if v.cells.size ≠ size || i ≥ es.length || !(cellsL v).all oneB then none else aparts size (es.set i (cellsL v)) rest
/-- Equality, as Go has it. -/
def fieldsEq (E : Env) (R : Nat → Value → Value → Option Bool) (xs ys : List Value) : List Field → Option Bool
    | [] => some true
    | f :: fs => if f.name ≠ "_" then
        match part E f.type xs f.offset, part E f.type ys f.offset with
        | some a, some b => match R f.type a b with
          | some true => fieldsEq E R xs ys fs
          | some false => some false
          | none => none
        | _, _ => none
      else fieldsEq E R xs ys fs
def elemsEq (E : Env) (R : Nat → Value → Value → Option Bool) (elem n : Nat) (xs ys : List Value) (i : Nat) : Nat → Option Bool
    | 0 => some true
    | m + 1 => match part E elem xs (i * n), part E elem ys (i * n) with
      | some a, some b => match R elem a b with
        | some true => elemsEq E R elem n xs ys (i + 1) m
        | some false => some false
        | none => none
      | _, _ => none
def aeq (E : Env) : Nat → Nat → Value → Value → Option Bool
  | 0, _, _, _ => none
  | d + 1, t, x, y =>
    match E.ty t with
    | none => none
    | some i => match i.d, x, y with
      | .int _, .chan (some a), y => match E.bin .eql (.chan (some a)) y with
        | some (.bool b) => some b
        | _ => none
      | .int _, .int k a, .chan (some c) => match E.bin .eql (.int k a) (.chan (some c)) with
        | some (.bool b) => some b
        | _ => none
      | .bool, .bool a, .bool b => some (a == b)
      | .int _, .int k a, .int k' b => if k = k' then some (a == b) else none
      | .string, .string a, .string b => some (a == b)
      | .pointer _, .pointer none, .pointer b => some b.isNone
      | .pointer _, .pointer (some _), .pointer none => some false
      | .interface _, .nilIface, .nilIface => some true
      | .interface _, .nilIface, .iface _ _ => some false
      | .interface _, .iface _ _, .nilIface => some false
      | .struct fields, .agg xs, .agg ys => if i.eqok then fieldsEq E (aeq E d) xs.toList ys.toList fields.toList else none
      | .array len elem, .agg xs, .agg ys => match E.ty elem with
        | some j => elemsEq E (aeq E d) elem j.size xs.toList ys.toList 0 len
        | none => none
      | .slice _, .slice none _ _, .slice none _ _ => some true
      | .slice _, .slice none _ _, .slice (some _) _ c => if c < 2 then some false else none
      | .slice _, .slice (some _) _ c, .slice none _ _ => if c < 2 then some false else none
      | .map _ _, .map none, .map b => some b.isNone
      | .func _ _ _, .nilFunc, .nilFunc => some true
      | .func _ _ _, .nilFunc, .func _ _ _ => some false
      | .func _ _ _, .func _ _ _, .nilFunc => some false
      | _, _, _ => none
def coded : Value → Bool
  | .chan _ => true
  | _ => false
def abin0 (E : Env) (op : BinOp) (t : Nat) (x y : Value) : T :=
  match op, x, y with
  | .shl, .int k a, .int yk b => ofSem (Op.shift .shl k a yk b)
  | .shr, .int k a, .int yk b => ofSem (Op.shift .shr k a yk b)
  | op, .int k a, .int k' b => if k ≠ k' then .fail else match op with
    | .add => ofSem (Op.intArith .add k a b)
    | .sub => ofSem (Op.intArith .sub k a b)
    | .mul => ofSem (Op.intArith .mul k a b)
    | .quo => ofSem (Op.intDiv .quo k a b)
    | .rem => ofSem (Op.intDiv .rem k a b)
    | .and => ofSem (Op.intBits .and k a b)
    | .or => ofSem (Op.intBits .or k a b)
    | .xor => ofSem (Op.intBits .xor k a b)
    | .andNot => ofSem (Op.intBits .andNot k a b)
    | op => ofSem (Op.intCmp op a b)
  | op, .string a, .string b => ofSem (Op.stringOp op a b)
  | .eql, x, y => match aeq E Op.maxDepth t x y with
    | some b => .ret (.bool b) []
    | none => .fail
  | .neq, x, y => match aeq E Op.maxDepth t x y with
    | some b => .ret (.bool !b) []
    | none => .fail
  | _, _, _ => .fail
def abin (E : Env) (op : BinOp) (t : Nat) (x y : Value) : T := if coded x || coded y then orFail (E.bin op x y) else abin0 E op t x y
/-- Where eqGuard says nothing. -/
def guardOk (E : Env) (op : BinOp) (t : Nat) (x y : Operand) (a b : Value) : Bool :=
  match op with
  | .eql | .neq => match a, b with
    | .nilIface, .nilIface => (x matches .const _) || (y matches .const _)
    | .agg _, .agg _ => match E.ty t with
      | some i => i.eqok
      | none => false
    | _, _ => true
  | _ => true
def small (n bytes : Nat) : Bool := decide (n ≤ 1073741824) && decide (bytes ≤ 65536)
/-- The elements that a slice or a string shows, as a row of elements of 'size' cells. -/
def seen (size : Nat) (v : Value) (k : List (List Value) → T) : T :=
  match v with
  | .slice none _ _ => k []
  | .slice (some ⟨i, o, none⟩) n c => if n = 0 then k [] else .get i fun ob =>
      if ob.sz = size ∧ ((ob.es.drop o).take n).length = n then k ((ob.es.drop o).take n) else .fail
  | .string s => if size = 1 then k (s.data.toList.map fun b => [.int .u8 b.toNat]) else .fail
  | _ => .fail
def newRowT (es : List (List Value)) (size : Nat) (t : Nat) (d : Delta) : T := .fresh fun n => .ret (.slice (some ⟨n, 0, none⟩) es.length 0) ((n, some ⟨es, size, t, true⟩) :: d)
/-- A row that may be nothing as yet. -/
def newRow2T (es : List (List Value)) (size : Nat) (t : Nat) (d : Delta) : T := .fresh fun n => .ret (.slice (some ⟨n, 0, none⟩) es.length 2) ((n, some ⟨es, size, t, true⟩) :: d)
/-- .. for slices that may be nil (2), and for those without room (3). -/
def aappend23 (elem : Nat) (i : TI) (j o len c : Nat) (xs : List (List Value)) : T :=
  if c = 3 then (if len = 0 ∧ small xs.length i.bytes = true ∧ 0 < i.size then newRow2T xs i.size elem [] else .fail)
  else if c = 2 then .get j fun ob =>
    if ob.sz = i.size ∧ ((ob.es.drop o).take len).length = len ∧ ob.t = elem ∧ small (len + xs.length) i.bytes = true ∧ 0 < i.size ∧ ob.w = true then newRow2T ((ob.es.drop o).take len ++ xs) i.size elem [(j, none)]
    else .fail
  else .fail
def aappend (elem : Nat) (i : TI) (s : Value) (xs : List (List Value)) : T :=
  match s with
  | .slice none 0 0 => if xs.isEmpty then .ret s [] else if small xs.length i.bytes && decide (0 < i.size) then newRowT xs i.size elem [] else .fail
  | .slice (some ⟨j, o, none⟩) len c =>
    if 2 ≤ c then aappend23 elem i j o len c xs else
    if xs.isEmpty then .ret s [] else
    .get j fun ob =>
      if ob.sz ≠ i.size || ((ob.es.drop o).take len).length ≠ len || ob.t ≠ elem || !small (len + xs.length) i.bytes || !decide (0 < i.size) then .fail
      else if c = 1 then newRowT ((ob.es.drop o).take len ++ xs) i.size elem []
      else if c ≠ 0 || !ob.w then .fail
      else if o + len + xs.length ≤ ob.es.length then .ret (.slice (some ⟨j, o, none⟩) (len + xs.length) 0) [(j, some { ob with es := ov ob.es (o + len) xs })]
      else newRowT ((ob.es.drop o).take len ++ xs) i.size elem [(j, none)]
  | _ => .fail
def acopy (size : Nat) (dst : Value) (n : Nat) (xs : List (List Value)) : T :=
  match dst with
  | .slice none 0 0 => .ret (.int .i64 0) []
  | .slice (some ⟨j, o, none⟩) len c =>
    if (xs.take (min n len)).isEmpty then .ret (.int .i64 (min n len : Nat)) [] else
    .get j fun ob =>
      if ob.sz ≠ size || !ob.w || decide (ob.es.length < o + len) || (xs.take (min n len)).length ≠ min n len then .fail
      else .ret (.int .i64 (min n len : Nat)) [(j, some { ob with es := ov ob.es o (xs.take (min n len)) })]
  | _ => .fail
def aclear (i : TI) (dst : Value) : T :=
  match dst with
  | .slice none _ _ => .ret (.tuple #[]) []
  | .map none => .ret (.tuple #[]) []
  | .slice (some ⟨j, o, none⟩) len c =>
    if len = 0 then .ret (.tuple #[]) [] else
    .get j fun ob =>
      if ob.sz ≠ i.size || !ob.w || decide (ob.es.length < o + len) then .fail
      else .ret (.tuple #[]) [(j, some { ob with es := ov ob.es o (List.replicate len (cellsL i.zero)) })]
  | _ => .fail
def bytesOfL : List (List Value) → ByteArray → Option ByteArray
  | [], s => some s
  | [.int .u8 n] :: r, s => bytesOfL r (s.push (UInt8.ofNat n.toNat))
  | _, _ => none
def astr (v : Value) : T :=
  match v with
  | .slice none _ _ => .ret (.string .empty) []
  | .slice (some ⟨i, o, none⟩) n c => if n = 0 then .ret (.string .empty) [] else .get i fun ob =>
      if ob.sz = 1 ∧ ((ob.es.drop o).take n).length = n then match bytesOfL ((ob.es.drop o).take n) .empty with
        | some s => .ret (.string s) []
        | none => .fail
      else .fail
  | _ => .fail
def bound (v : Option Value) (dflt : Nat) : Option Nat :=
  match v with
  | none => some dflt
  | some (.int _ i) => if 0 ≤ i then some i.toNat else none
  | _ => none
/-- A part of a slice that may be nil (2), or has no room (3). -/
def aslice23 (ei : TI) (i o len c l h : Nat) (hi mx : Option Value) : T :=
  if c = 3 then (if len = 0 ∧ l = 0 ∧ h = 0 ∧ mx = none then .ret (.slice (some ⟨i, o, none⟩) 0 3) [] else .fail)
  else if c = 2 then match mx with
    | none => .get i fun ob => if ob.sz = ei.size ∧ l ≤ h ∧ h ≤ len ∧ o + len ≤ ob.es.length then .ret (.slice (some ⟨i, o + l, none⟩) (h - l) 2) [] else .fail
    | some (.int _ m) => if m = 0 ∧ h = 0 ∧ l = 0 ∧ hi.isSome = true then .get i fun ob => if ob.sz = ei.size then .ret (.slice (some ⟨i, o, none⟩) 0 3) [] else .fail else .fail
    | _ => .fail
  else .fail
def aslice (E : Env) (t : Nat) (x : Value) (lo hi mx : Option Value) : T :=
  match E.ty t with
  | none => .fail
  | some ti => match ti.d, x with
    | .string, .string s => if mx.isSome then .fail else match bound lo 0, bound hi s.size with
      | some l, some h => if l ≤ h && h ≤ s.size then .ret (.string (s.extract l h)) [] else .fail
      | _, _ => .fail
    | .slice elem, .slice none 0 0 => match E.ty elem, bound lo 0, bound hi 0, bound mx 0 with
      | some _, some 0, some 0, some 0 => if mx.isSome && hi.isNone then .fail else .ret x []
      | _, _, _, _ => .fail
    | .slice elem, .slice (some ⟨i, o, none⟩) len c => match E.ty elem, bound lo 0, bound hi len with
      | some ei, some l, some h => if 2 ≤ c then aslice23 ei i o len c l h hi mx else if len == 0 && c == 1 && l == 0 && h == 0 && mx.isNone then .ret (.slice (some ⟨i, o, none⟩) 0 1) [] else .get i fun ob =>
        if ob.sz ≠ ei.size || !decide (l ≤ h) || !decide (h ≤ len ∨ c = 0 ∧ o + h ≤ ob.es.length) || !decide (o + len ≤ ob.es.length) then .fail
        else match mx with
          | none => if c = 0 then .ret (.slice (some ⟨i, o + l, none⟩) (h - l) 0) []
            else if c = 1 ∧ h = len then .ret (.slice (some ⟨i, o + l, none⟩) (h - l) 1) [] else .fail
          | some (.int _ m) => if m = (h : Int) && hi.isSome then .ret (.slice (some ⟨i, o + l, none⟩) (h - l) 1) [] else .fail
          | _ => .fail
      | _, _, _ => .fail
    | _, _ => .fail
/-- A slice with a third bound of its own: nobody reads or writes by it. -/
def ghostOk (E : Env) (t : Nat) (x : Value) (lo hi mx : Option Value) : Option (Nat × Nat × Nat × Nat × Nat × Nat) :=
  match mx, x with
  | some (.int _ m), .slice (some ⟨i, o, none⟩) len c => match E.ty t with
    | some ti => match ti.d, bound lo 0, bound hi len with
      | .slice elem, some l, some h => match E.ty elem with
        | some ei => if decide (l ≤ h) && decide ((h : Int) < m) && decide (m ≤ (len : Int)) && hi.isSome && (Nat.beq c 0 || Nat.beq c 2) then some (i, o, len, l, h, ei.size) else none
        | none => none
      | _, _, _ => none
    | none => none
  | _, _ => none
def aslice2 (E : Env) (t : Nat) (x : Value) (lo hi mx : Option Value) : T :=
  match ghostOk E t x lo hi mx with
  | some (_, _, _, l, h, _) => .fresh fun n => .ret (.slice (some ⟨n, 0, none⟩) (h - l) 0) []
  | none => aslice E t x lo hi mx
def args1 (τ : Nat → Value) : Operand → Option Value
  | .tmp t => some (τ t)
  | .const v => if cl0 v then some v else none
  | .func f => some (.func (.func f) #[] #[])
  | .global _ => none
def ev (τ : Nat → Value) (x : Operand) (k : Value → T) : T :=
  match args1 τ x with
  | some v => k v
  | none => .fail
def evO (τ : Nat → Value) (x : Option Operand) (k : Option Value → T) : T :=
  match x with
  | none => k none
  | some x => ev τ x fun v => k (some v)
def evL (τ : Nat → Value) : List Operand → Option (List Value)
  | [] => some []
  | x :: r => match args1 τ x, evL τ r with
    | some v, some l => some (v :: l)
    | _, _ => none
def evP (τ : Nat → Value) : List (Nat × Operand) → Option (List (Nat × Value))
  | [] => some []
  | (i, x) :: r => match args1 τ x, evP τ r with
    | some v, some l => some ((i, v) :: l)
    | _, _ => none
def amin (op : BinOp) : List Value → Option Value   -- min by .lss, max by .gtr
  | [] => none
  | x :: rest => go x rest
where
  go (x : Value) : List Value → Option Value
    | [] => some x
    | y :: r => match x, y with
      | .int k a, .int _ b => go (.int k (if (if op = .lss then decide (b < a) else decide (a < b)) then b else a)) r
      | _, _ => none
def abuiltin (E : Env) (b : Builtin) (ats : List Nat) (args : List Value) : T :=
  match b, ats, args with
  | .len, t :: _, x :: _ => match E.ty t with
    | some i => match i.d, x with
      | .string, .string s => .ret (.int .i64 s.size) []
      | .array n _, _ => .ret (.int .i64 n) []
      | .slice _, .slice _ n _ => .ret (.int .i64 n) []
      | .map _ _, .map none => .ret (.int .i64 0) []
      | _, _ => .fail
    | none => .fail
  | .min, _, xs => orFail (amin .lss xs)
  | .max, _, xs => orFail (amin .gtr xs)
  | .append, t :: u :: _, s :: x :: _ => match E.ty t, E.ty u with
    | some ti, some ui => match ti.d, ui.d with
      | .slice elem, .int _ => match E.ty elem, x with
        | some ei, .int _ k => if decide (0 < ei.size) && decide (0 ≤ k) && small k.toNat ei.bytes then aappend elem ei s (List.replicate k.toNat (cellsL ei.zero)) else .fail
        | _, _ => .fail
      | .slice elem, _ => match E.ty elem with
        | some ei => if ei.size = 0 then .fail else seen ei.size x fun xs => aappend elem ei s xs
        | none => .fail
      | _, _ => .fail
    | _, _ => .fail
  | .copy, t :: _, d :: x :: _ => match E.ty t with
    | some ti => match ti.d, x with
      | .slice elem, .slice _ n _ => match E.ty elem with
        | some ei => if ei.size = 0 then .fail else seen ei.size x fun xs => acopy ei.size d n xs
        | none => .fail
      | .slice elem, .string s => match E.ty elem with
        | some ei => if ei.size = 0 then .fail else seen ei.size x fun xs => acopy ei.size d s.size xs
        | none => .fail
      | _, _ => .fail
    | none => .fail
  | .clear, t :: _, x :: _ => match E.ty t with
    | some ti => match ti.d with
      | .slice elem => match E.ty elem with
        | some ei => aclear ei x
        | none => .fail
      | _ => .fail
    | none => .fail
  | _, _, _ => .fail
def dec (D : Den) (τ : Nat → Value) : Nat → Value := fun t => match τ t with
  | .chan (some c) => (D c).getD (.chan (some c))
  | v => v
/-- What an operation that may be told by a table reads: which one, its type, its operands. -/
def ovals (τ : Nat → Value) (o : Oper) : Option (Nat × BinOp × Nat × List Value) :=
  match o.op with
  | .index t x y => match args1 τ x, args1 τ y with
    | some a, some b => some (0, .add, t, [a, b])
    | _, _ => none
  | .slice t x (some lo) (some hi) none => match args1 τ x, args1 τ lo, args1 τ hi with
    | some a, some b, some c => some (1, .add, t, [a, b, c])
    | _, _, _ => none
  | .slice t x none (some hi) none => match args1 τ x, args1 τ hi with
    | some a, some c => some (6, .add, t, [a, c])
    | _, _ => none
  | .slice t x (some lo) none none => match args1 τ x, args1 τ lo with
    | some a, some c => some (7, .add, t, [a, c])
    | _, _ => none
  | .binOp op t x y _ => match args1 τ x, args1 τ y with
    | some a, some b => some (2, op, t, [a, b])
    | _, _ => none
  | .call c => match c.callee, c.argTypes.toList, evL τ c.args.toList with
    | .builtin .len, t :: _, some l => some (3, .add, t, l)
    | .builtin .min, _, some l => some (4, .add, 0, l)
    | .builtin .max, _, some l => some (5, .add, 0, l)
    | _, _, _ => none
  | _ => none
def strT (E : Env) (t : Nat) : Bool := match E.ty t with
  | some i => match i.d with
    | .string => true
    | _ => false
  | none => false
def sop (E : Env) (τ : Nat → Value) (o : Oper) : Option Value := match ovals τ o with
  | some (k, op, t, l) => if (l.any coded && (Nat.beq k 2 || Nat.beq k 4 || Nat.beq k 5 || strT E t)) = true then E.sfind k op l else none
  | none => none
/-- Maps with whole numbers to texts. -/
def mapTy (E : Env) (t : Nat) : Option (Nat × TI) := match E.ty t with
  | some i => match i.d with
    | .map k e => match E.ty k, E.ty e with
      | some ki, some ei => match ki.d with
        | .int .i64 => some (k, ei)
        | _ => none
      | _, _ => none
    | _ => none
  | none => none
def mfind (k : Nat) : List (Nat × ByteArray) → Option ByteArray
  | [] => none
  | (k', s) :: l => if k = k' then some s else mfind k l
def mset (k : Nat) (s : ByteArray) : List (Nat × ByteArray) → List (Nat × ByteArray)
  | [] => [(k, s)]
  | (k', s') :: l => if k = k' then (k, s) :: l else (k', s') :: mset k s l
/-- The entries that were not seen: their numbers, keys and texts. -/
def mleft (seen : List Nat) : List (Nat × ByteArray) → Nat → List (Nat × Nat × ByteArray)
  | [], _ => []
  | (k, s) :: l, c => if seen.contains c then mleft seen l (c + 1) else (c, k, s) :: mleft seen l (c + 1)
def getM (i : Nat) (k : MC → T) : T := .get i fun ob => match ob with
  | ⟨[], 1, .mc m, false⟩ => k m
  | _ => .fail
def mobj (m : MC) : AObj := ⟨[], 1, .mc m, false⟩
def amset (E : Env) (t : Nat) (m k x : Value) : T := match mapTy E t, m, k, x with
  | some _, .map (some i), .int .i64 k, .string s => if 0 ≤ k then getM i fun
    | .map l => .ret undef [(i, some (mobj (.map (mset k.toNat s l))))]
    | _ => .fail
    else .fail
  | _, _, _, _ => .fail
def prOk (ok : Bool) (v : Value) (b : Bool) : Value := if ok then .tuple #[v, .bool b] else v
def amget (E : Env) (t : Nat) (m k : Value) (ok : Bool) : T := match mapTy E t, m, k with
  | some (_, ei), .map none, .int .i64 k => .ret (prOk ok ei.zero false) []
  | some (_, ei), .map (some i), .int .i64 k => if 0 ≤ k then getM i fun
    | .map l => match mfind k.toNat l with
      | some s => .ret (prOk ok (.string s) true) []
      | none => .ret (prOk ok ei.zero false) []
    | _ => .fail
    else .fail
  | _, _, _ => .fail
def arange (E : Env) (t : Nat) (x : Value) : T := match mapTy E t, x with
  | some _, .map (some i) => getM i fun
    | .map l => .fresh fun n => .ret (.pointer (some ⟨n, 0, none⟩)) [(n, some (mobj (.it i [] l.length)))]
    | _ => .fail
  | _, _ => .fail
/-- A step, where at most one entry is left. -/
def anext (x : Value) : T := match x with
  | .pointer (some ⟨r, 0, none⟩) => getM r fun
    | .it j seen len => getM j fun
      | .map l => if l.length = len then match mleft seen l 0 with
        | [] => .ret (.tuple #[.bool false]) []
        | [(c, k, s)] => .ret (.tuple #[.bool true, .int .i64 k, .string s]) [(r, some (mobj (.it j (seen ++ [c]) len)))]
        | _ => .fail
        else .fail
      | _ => .fail
    | _ => .fail
  | _ => .fail
/-- The entry of the last step. -/
def aentry (x : Value) : T := match x with
  | .pointer (some ⟨r, 0, none⟩) => getM r fun
    | .it j seen len => getM j fun
      | .map l => if l.length = len then match seen.getLast? with
        | some b => match l[b]? with
          | some (k, s) => .ret (.tuple #[.int .i64 k, .string s]) []
          | none => .fail
        | none => .fail
        else .fail
      | _ => .fail
    | _ => .fail
  | _ => .fail
/-- All operations but calls of functions. -/
def aop0 (E : Env) (τ : Nat → Value) (o : Oper) : T :=
  match o.op with
  | .move x | .assign x => ev τ x fun v => .ret v []
  | .pick c a b => ev τ c fun
    | .bool true => ev τ a fun v => ev τ b fun _ => .ret v []
    | .bool false => ev τ b fun v => ev τ a fun _ => .ret v []
    | _ => .fail
  | .alloc t => match E.ty t with
    | some i => if decide (0 < i.size) && (cellsL i.zero).length = i.size then .fresh fun n => .ret (.pointer (some ⟨n, 0, some 0⟩)) [(n, some ⟨[cellsL i.zero], i.size, t, true⟩)] else .fail
    | none => .fail
  | .box t x => ev τ x fun v => if decide (0 < (cellsL v).length) && (cellsL v).all oneB then .fresh fun n => .ret (.pointer (some ⟨n, 0, some 0⟩)) [(n, some ⟨[cellsL v], (cellsL v).length, t, true⟩)] else .fail
  | .build t parts => match evP τ parts.toList, E.ty t with
    | some ps, some i => match i.d with
      | .struct fields => match afill (fun k => (fields[k]?).bind fun f => (E.ty f.type).map fun fi => (f.offset, fi.size)) (cellsL i.zero) ps with
        | some cs => if fields.all (fun f => (E.ty f.type).isSome) then .ret (.agg ⟨cs⟩) [] else .fail
        | none => .fail
      | .array _ elem => match E.ty elem with
        | some ei => match afill (fun k => some (k * ei.size, ei.size)) (cellsL i.zero) ps with
          | some cs => .ret (.agg ⟨cs⟩) []
          | none => .fail
        | none => .fail
      | _ => .fail
    | _, _ => .fail
  | .buildSlice t len parts => match evP τ parts.toList, E.ty t with
    | some ps, some i => match i.d with
      | .slice elem => match E.ty elem with
        | some ei => if decide (len * ei.size ≤ 65536) && decide (0 < ei.size) && (cellsL ei.zero).length = ei.size then
            match aparts ei.size (List.replicate len (cellsL ei.zero)) ps with
            | some es => newRowT es ei.size elem []
            | none => .fail
          else .fail
        | none => .fail
      | _ => .fail
    | _, _ => .fail
  | .load t a => ev τ a fun
    | .pointer (some ⟨i, k, some j⟩) => match E.ty t with
      | some ti => .get i fun ob => match ob.es[k]? with
        | some e => if ((e.drop j).take ti.size).length = ti.size then orFail (mkv ti.d ((e.drop j).take ti.size)) else .fail
        | none => .fail
      | none => .fail
    | _ => .fail
  | .store t a x => ev τ a fun
    | .pointer (some ⟨i, k, some j⟩) => ev τ x fun v => match E.ty t with
      | some ti => .get i fun ob => match ob.es[k]? with
        | some e => if decide (j + ti.size ≤ e.length) && (cellsL v).length = ti.size && (cellsL v).all oneB && ob.w then .ret (.tuple #[]) [(i, some { ob with es := ob.es.set k (ov e j (cellsL v)) })] else .fail
        | none => .fail
      | none => .fail
    | _ => .fail
  | .nilCheck x => ev τ x fun
    | .pointer (some a) => .ret (.pointer (some a)) []
    | .func (.func f) a b => .ret (.func (.func f) a b) []
    | _ => .fail
  | .binOp op t x y _ => ev τ x fun a => ev τ y fun b => if guardOk E op t x y a b then abin E op t a b else .fail
  | .unOp op _ x => ev τ x fun
    | .int k n => ofSem (Op.unary op (.int k n))
    | .bool b => ofSem (Op.unary op (.bool b))
    | .chan (some c) => orFail (E.un op (.chan (some c)))
    | _ => .fail
  | .convert src dst x => ev τ x fun v => match E.ty src, E.ty dst with
    | some s, some t => match s.d, t.d, v with
      | _, .int k, .chan (some c) => orFail (E.cvt k (.chan (some c)))
      | _, .int k, .int _ n => .ret (.int k (k.wrap n)) []
      | .string, .string, .string b => .ret (.string b) []
      | _, .slice e, .string b => match E.ty e with
        | some ei => match ei.d with
          | .int .u8 => .fresh fun n => .ret (.slice (some ⟨n, 0, none⟩) b.size 0) [(n, some ⟨b.data.toList.map fun c => [.int .u8 c.toNat], 1, e, true⟩)]
          | _ => .fail
        | none => .fail
      | .slice e, .string, .slice a len c => match E.ty e with
        | some ei => match ei.d with
          | .int .u8 => astr (.slice a len c)
          | _ => .fail
        | none => .fail
      | _, _, _ => .fail
    | _, _ => .fail
  | .makeInterface t x => ev τ x fun v => match E.ty t with
    | some i => match i.d with
      | .interface _ => .fail
      | _ => .ret (.iface t v) []
    | none => .fail
  | .makeFunc fn first captured => match evL τ first.toList, evL τ captured.toList with
    | some a, some b => .ret (.func fn ⟨a⟩ ⟨b⟩) []
    | _, _ => .fail
  | .makeSlice t l c => ev τ l fun
    | .int .i64 n => ev τ c fun
      | .int .i64 m => match E.ty t with
        | some i => match i.d with
          | .slice elem => match E.ty elem with
            | some ei => if decide (0 ≤ n) && decide (n ≤ m) && small m.toNat ei.bytes && decide (0 < ei.size) && (cellsL ei.zero).length = ei.size then newRowT (List.replicate n.toNat (cellsL ei.zero)) ei.size elem [] else .fail
            | none => .fail
          | _ => .fail
        | none => .fail
      | _ => .fail
    | _ => .fail
  | .slice t x lo hi mx => ev τ x fun v => evO τ lo fun l => evO τ hi fun h => evO τ mx fun m => aslice2 E t v l h m
  | .fieldAddr s x f => ev τ x fun
    | .pointer (some ⟨i, k, some j⟩) => match E.ty s with
      | some si => match si.d with
        | .struct fields => match fields[f]? with
          | some fd => match E.ty fd.type with
            | some fi => if fi.size = 0 then .fail else .ret (.pointer (some ⟨i, k, some (j + fd.offset)⟩)) []
            | none => .fail
          | none => .fail
        | _ => .fail
      | none => .fail
    | _ => .fail
  | .field t x f => ev τ x fun
    | .agg cs => match E.ty t with
      | some i => match i.d with
        | .struct fields => match fields[f]? with
          | some fd => orFail (part E fd.type cs.toList fd.offset)
          | none => .fail
        | _ => .fail
      | none => .fail
    | _ => .fail
  | .indexAddr t x ix => ev τ x fun xv => ev τ ix fun
    | .int _ n => match E.ty t with
      | some i => match i.d, xv with
        | .array len elem, .pointer (some ⟨b, k, some j⟩) => match E.ty elem with
          | some ei => if decide (0 ≤ n) && decide (n < len) then .ret (.pointer (some ⟨b, k, some (j + n.toNat * ei.size)⟩)) [] else .fail
          | none => .fail
        | .slice elem, .slice (some ⟨b, o, none⟩) len c => match E.ty elem with
          | some ei => if decide (0 ≤ n) && decide (n < len) then .get b fun ob => if ob.sz = ei.size then .ret (.pointer (some ⟨b, o + n.toNat, some 0⟩)) [] else .fail else .fail
          | none => .fail
        | _, _ => .fail
      | none => .fail
    | _ => .fail
  | .index t x ix => ev τ x fun xv => ev τ ix fun
    | .int _ n => match E.ty t with
      | some i => match i.d, xv with
        | .array len elem, .agg cs => match E.ty elem with
          | some ei => if decide (0 ≤ n) && decide (n < len) then orFail (part E elem cs.toList (n.toNat * ei.size)) else .fail
          | none => .fail
        | .string, .string s => if h : 0 ≤ n ∧ n.toNat < s.size then .ret (.int .u8 ((s[n.toNat]'h.2).toNat : Nat)) [] else .fail
        | _, _ => .fail
      | none => .fail
    | _ => .fail
  | .extract x k => ev τ x fun
    | .tuple vs => orFail vs.toList[k]?
    | _ => .fail
  | .makeMap t none => .fresh fun n => .ret (.map (some n)) [(n, some (mobj (.map [])))]
  | .mapUpdate t m k x => ev τ m fun mv => ev τ k fun kv => ev τ x fun xv => amset E t mv kv xv
  | .lookup t m k ok => ev τ m fun mv => ev τ k fun kv => amget E t mv kv ok
  | .range t x => ev τ x fun xv => arange E t xv
  | .next x false => ev τ x fun xv => anext xv
  | .entry x => ev τ x fun xv => aentry xv
  | .typeAssert x xt asserted ok => ev τ x fun
    | .iface t v => match E.ty asserted with
      | some i => match i.d with
        | .interface _ => .fail
        | _ => if t = asserted then .ret (if ok then .tuple #[v, .bool true] else v) [] else if ok then .ret (.tuple #[i.zero, .bool false]) [] else .fail
      | none => .fail
    | .nilIface => match E.ty asserted with
      | some i => if ok then .ret (.tuple #[i.zero, .bool false]) [] else .fail
      | none => .fail
    | _ => .fail
  | .call c => match c.callee with
    | .builtin b => match evL τ c.args.toList with
      | some args => abuiltin E b c.argTypes.toList args
      | none => .fail
    | _ => .fail
  | _ => .fail
def aop (E : Env) (τ : Nat → Value) (o : Oper) : T := match sop E τ o with
  | some v => .ret v []
  | none => aop0 E τ o
end Go.Proofs.YtdiofapingdlmaaV
/- The abstract machine: its operations are the model's. -/
set_option linter.unusedVariables false
set_option linter.unusedSimpArgs false
namespace Go.Proofs.YtdiofapingdlmaaV
open Go.RowKit
/-- What a number, a truth or a code stands for. -/
inductive DenR (D : Den) : Value → Value → Prop
  | int (k : IntKind) (n : Int) : DenR D (.int k n) (.int k n)
  | bool (b : Bool) : DenR D (.bool b) (.bool b)
  | str (s : ByteArray) : DenR D (.string s) (.string s)
  | code {c : Nat} {k : IntKind} {n : Int} (h : D c = some (.int k n)) : DenR D (.chan (some c)) (.int k n)
  | codeS {c : Nat} {s : ByteArray} (h : D c = some (.string s)) : DenR D (.chan (some c)) (.string s)
def DenOk (D : Den) (ι : Inj) : Prop := ∀ c v, D c = some v → ∃ p, ι c = some p ∧ p.val = some v
theorem DenR.VR {D : Den} {ι : Inj} (hD : DenOk D ι) {v v' : Value} (h : DenR D v v') : Go.Proofs.YtdiofapingdlmaaV.VR ι v v' := by
  cases h with
  | int k n => exact .int k n
  | bool b => exact .bool b
  | str s => exact .str s
  | code h =>
    obtain ⟨p, h1, h2⟩ := hD _ _ h
    exact .sym h1 h2
  | codeS h =>
    obtain ⟨p, h1, h2⟩ := hD _ _ h
    exact .symS h1 h2
theorem DenR.same {D : Den} {ι : Inj} (hD : DenOk D ι) {v v' u : Value} (h : DenR D v v') (hu : Go.Proofs.YtdiofapingdlmaaV.VR ι v u) : u = v' := by
  cases h with
  | int k n => cases hu; rfl
  | bool b => cases hu; rfl
  | str s => cases hu; rfl
  | code h =>
    obtain ⟨p, h1, h2⟩ := hD _ _ h
    cases hu with
    | sym g1 g2 => rw [h1] at g1; cases g1; rw [h2] at g2; cases g2; rfl
    | symS g1 g2 => rw [h1] at g1; cases g1; rw [h2] at g2; cases g2
  | codeS h =>
    obtain ⟨p, h1, h2⟩ := hD _ _ h
    cases hu with
    | sym g1 g2 => rw [h1] at g1; cases g1; rw [h2] at g2; cases g2
    | symS g1 g2 => rw [h1] at g1; cases g1; rw [h2] at g2; cases g2; rfl
structure EnvOk (P : Program) (E : Env) : Prop where
  ty : ∀ t i, E.ty t = some i → P.underlying t = some i.d ∧ ∃ inf, P.info? t = some inf ∧ inf.zero = some i.zero ∧ inf.size = i.size ∧ inf.bytes = i.bytes
  zero : ∀ t i, E.ty t = some i → (∀ ι, VR ι i.zero i.zero) ∧ (cellsL i.zero).length = i.size ∧ (cellsL i.zero).all oneB = true
  eqok : ∀ t i, E.ty t = some i → i.eqok = true → P.eqGuardType P.depth t = false ∧ P.stoodInHeld t = false
  fn : ∀ f g, E.fn f = some g → P.funcs[f]? = some g ∧ (g.name == "runtime.NumGoroutine") = false
  mixed : P.follows .mixedOrders = true
  bin : ∀ op x y v, E.bin op x y = some v → ∃ x' y' v', DenR E.den x x' ∧ DenR E.den y y' ∧ DenR E.den v v' ∧ ∀ t, binOp op t x' y' = .pure v'
  eqb : ∀ x y b, E.bin .eql x y = some (.bool b) → ∃ k n m, DenR E.den x (.int k n) ∧ DenR E.den y (.int k m) ∧ (n == m) = b
  un : ∀ op x v, E.un op x = some v → ∃ x' v', DenR E.den x x' ∧ DenR E.den v v' ∧ Op.unary op x' = .pure v'
  sop : ∀ τ o v, sop E τ o = some v → ∃ v', DenR E.den v v' ∧ ∀ n σ, (aop0 E (dec E.den τ) o).run n σ = some (v', n, [])
  cvt : ∀ k x v, E.cvt k x = some v → ∃ k' n v', DenR E.den x (.int k' n) ∧ DenR E.den v v' ∧ v' = .int k (k.wrap n)
/-- What an operation of the model comes to, told by the abstract one. -/
def Good (D : Den) (N : Nat) (w0 : World) (ι : Inj) (σ : Store) (n n' : Nat) (v : Value) (d : Delta) (r : Result Next) : Prop :=
  ∃ nx w' v' κ, r = .ok nx w' ∧ (nx = .value v' ∨ nx = .skip ∧ v' = undef) ∧ ι.le κ ∧ (∀ i, κ i ≠ ι i → n ≤ i ∧ i < n') ∧ Rel D N w0 κ (app d σ) w' ∧ VR κ v v'
theorem undef_VR (ι : Inj) : VR ι undef undef := .tuple .nil
theorem good_value {E : Env} {N : Nat} {w0 : World} {ι : Inj} {σ : Store} {n : Nat} {v v' : Value} {w : World} (hR : Rel E.den N w0 ι σ w) (hv : VR ι v v') : Good E.den N w0 ι σ n n v [] (.ok (.value v') w) :=
  ⟨_, _, v', ι, rfl, .inl rfl, Inj.le_refl _, fun i h => absurd rfl h, hR, hv⟩
theorem cl0_VR {v : Value} (h : cl0 v = true) (ι : Inj) : VR ι v v := by
  unfold cl0 at h
  split at h <;> first | constructor | cases h
theorem ret_run {v0 v : Value} {d0 d : Delta} {n n' : Nat} {σ : Store} (h : (T.ret v0 d0).run n σ = some (v, n', d)) : v = v0 ∧ d = d0 ∧ n' = n := by
  simp [T.run] at h
  exact ⟨h.1.symm, h.2.2.symm, h.2.1.symm⟩
theorem fail_run {r : Value × Nat × Delta} {n : Nat} {σ : Store} (h : T.fail.run n σ = some r) : False := by simp [T.run] at h
section
variable {P : Program} {E : Env} {τ : Nat → Value} {a : Act} {ι : Inj}
def TR (ι : Inj) (τ : Nat → Value) (a : Act) : Prop := ∀ t, VR ι (τ t) (a.tmps.getD t undef)
theorem args1_sound (hτ : TR ι τ a) {x : Operand} {v : Value} (h : args1 τ x = some v) : VR ι v (a.eval x) := by
  cases x with
  | tmp t => simp [args1] at h; subst h; exact hτ t
  | const c =>
    simp only [args1] at h
    split at h
    · cases h; exact cl0_VR ‹_› ι
    · cases h
  | func f => simp [args1] at h; subst h; exact .func .nil .nil
  | global g => simp [args1] at h
theorem ev_run (hτ : TR ι τ a) {x : Operand} {k : Value → T} {n : Nat} {σ : Store} {r : Value × Nat × Delta} (h : (ev τ x k).run n σ = some r) :
    ∃ v, VR ι v (a.eval x) ∧ (k v).run n σ = some r := by
  unfold ev at h
  cases hx : args1 τ x with
  | none => rw [hx] at h; exact (fail_run h).elim
  | some v => rw [hx] at h; exact ⟨v, args1_sound hτ hx, h⟩
theorem evO_run (hτ : TR ι τ a) {x : Option Operand} {k : Option Value → T} {n : Nat} {σ : Store} {r : Value × Nat × Delta} (h : (evO τ x k).run n σ = some r) :
    (x = none ∧ (k none).run n σ = some r) ∨ ∃ y v, x = some y ∧ VR ι v (a.eval y) ∧ (k (some v)).run n σ = some r := by
  cases x with
  | none => exact .inl ⟨rfl, h⟩
  | some y =>
    obtain ⟨v, hv, hk⟩ := ev_run hτ (x := y) (k := fun v => k (some v)) h
    exact .inr ⟨y, v, rfl, hv, hk⟩
theorem evL_sound (hτ : TR ι τ a) : ∀ {l : List Operand} {vs : List Value}, evL τ l = some vs → VRs ι vs (l.map a.eval)
  | [], vs, h => by simp [evL] at h; subst h; exact .nil
  | x :: l, vs, h => by
    simp only [evL] at h
    cases hx : args1 τ x with
    | none => simp [hx] at h
    | some v =>
      cases hl : evL τ l with
      | none => simp [hx, hl] at h
      | some vl => simp [hx, hl] at h; subst h; exact .cons (args1_sound hτ hx) (evL_sound hτ hl)
inductive PR (ι : Inj) : List (Nat × Value) → List (Nat × Value) → Prop
  | nil : PR ι [] []
  | cons {i : Nat} {v v' : Value} {l l' : List (Nat × Value)} (h : VR ι v v') (hs : PR ι l l') : PR ι ((i, v) :: l) ((i, v') :: l')
theorem evP_sound (hτ : TR ι τ a) : ∀ {l : List (Nat × Operand)} {vs : List (Nat × Value)}, evP τ l = some vs → PR ι vs (l.map fun (i, x) => (i, a.eval x))
  | [], vs, h => by simp [evP] at h; subst h; exact .nil
  | (i, x) :: l, vs, h => by
    simp only [evP] at h
    cases hx : args1 τ x with
    | none => simp [hx] at h
    | some v =>
      cases hl : evP τ l with
      | none => simp [hx, hl] at h
      | some vl => simp [hx, hl] at h; subst h; exact .cons (args1_sound hτ hx) (evP_sound hτ hl)
end
section
variable {P : Program} {E : Env} (hE : EnvOk P E) (w : World)
include hE
theorem und_run {t : Nat} {i : TI} (h : E.ty t = some i) : (underlying t).run P w = .ok i.d w := run_underlying (hE.ty t i h).1 w
theorem size_run {t : Nat} {i : TI} (h : E.ty t = some i) : (sizeOf t).run P w = .ok i.size w := by
  obtain ⟨_, inf, h1, _, h3, _⟩ := hE.ty t i h
  simp [sizeOf, typeInfo, h1, h3]
theorem zero_run {t : Nat} {i : TI} (h : E.ty t = some i) : (zeroValue t).run P w = .ok i.zero w := by
  obtain ⟨_, inf, h1, h2, _⟩ := hE.ty t i h
  simp [zeroValue, typeInfo, h1, h2]
theorem bytes_run {t : Nat} {i : TI} (h : E.ty t = some i) : ∃ inf, (typeInfo t).run P w = .ok inf w ∧ inf.bytes = i.bytes := by
  obtain ⟨_, inf, h1, _, _, h4⟩ := hE.ty t i h
  exact ⟨inf, by simp [typeInfo, h1], h4⟩
theorem isAgg_run {t : Nat} {i : TI} (h : E.ty t = some i) : (Go.isAgg t).run P w = .ok (isAgg i.d) w := by
  simp only [Go.isAgg, Sem.run_bind, und_run hE w h, Result.andThen_ok]
  unfold isAgg
  cases i.d <;> rfl
theorem part_run {ι : Inj} {t : Nat} {cs cs' : List Value} {off : Nat} {v : Value} (hcs : VRs ι cs cs') (h : part E t cs off = some v) : ∃ v', (Go.part t ⟨cs'⟩ off).run P w = .ok v' w ∧ VR ι v v' := by
  unfold part at h
  cases ht : E.ty t with
  | none => rw [ht] at h; cases h
  | some i =>
    rw [ht] at h
    simp only at h
    unfold Go.part
    simp only [Sem.run_bind, isAgg_run hE w ht, Result.andThen_ok]
    split at h
    · rename_i hagg
      cases h
      simp only [hagg, if_true, Sem.run_bind, size_run hE w ht, Result.andThen_ok, Sem.run_pure]
      refine ⟨_, rfl, ?_⟩
      have e : (Array.mk cs').extract off (off + i.size) = Array.mk ((cs'.drop off).take i.size) := by
        apply Array.ext'
        simp [List.extract_eq_take_drop, Nat.add_sub_cancel_left]
      rw [e]
      exact .agg ((hcs.drop off).take i.size)
    · rename_i hagg
      obtain ⟨v', h1, h2⟩ := hcs.get off v h
      have e : (Array.mk cs')[off]? = some v' := by simpa using h1
      simp only [hagg, if_false, e, Bool.false_eq_true, Sem.run_pure]
      exact ⟨v', rfl, h2⟩
end
theorem sem_pure_run {s : Sem Value} {v : Value} {n n' : Nat} {d : Delta} {σ : Store} (h : (ofSem s).run n σ = some (v, n', d)) : s = .pure v ∧ d = [] ∧ n' = n := by
  unfold ofSem at h
  split at h
  · obtain ⟨rfl, rfl, rfl⟩ := ret_run h; exact ⟨rfl, rfl, rfl⟩
  · exact (fail_run h).elim
end Go.Proofs.YtdiofapingdlmaaV
/- The abstract machine: operations without memory. -/
set_option linter.unusedVariables false
set_option linter.unusedSimpArgs false
namespace Go.Proofs.YtdiofapingdlmaaV
open Go.RowKit
section
variable {P : Program} {E : Env} {τ : Nat → Value} {a : Act} {ι : Inj} {σ : Store} {N n n' : Nat} {w0 w : World} {v : Value} {d : Delta}
theorem good_of {S : Sem Value} {v' : Value} (hR : Rel E.den N w0 ι σ w) (hv : VR ι v v') (hS : S.run P w = .ok v' w) : Good E.den N w0 ι σ n n v [] ((do pure (Next.value (← S)) : Sem Next).run P w) := by
  simp only [Sem.run_bind, hS, Result.andThen_ok, Sem.run_pure]
  exact good_value hR hv
theorem op_move (hR : Rel E.den N w0 ι σ w) (hτ : TR ι τ a) {x : Operand} (h : (ev τ x fun v => .ret v []).run n σ = some (v, n', d)) :
    Good E.den N w0 ι σ n n' v d ((pure (.value (a.eval x)) : Sem Next).run P w) := by
  obtain ⟨u, hu, h⟩ := ev_run hτ h
  obtain ⟨rfl, rfl, rfl⟩ := ret_run h
  exact good_value hR hu
theorem op_pick (hR : Rel E.den N w0 ι σ w) (hτ : TR ι τ a) {c x y : Operand} (h : (ev τ c fun
    | .bool true => ev τ x fun v => ev τ y fun _ => .ret v []
    | .bool false => ev τ y fun v => ev τ x fun _ => .ret v []
    | _ => .fail).run n σ = some (v, n', d)) :
    Good E.den N w0 ι σ n n' v d ((do pure (.value (if ← asBool (a.eval c) then a.eval x else a.eval y)) : Sem Next).run P w) := by
  obtain ⟨u, hu, h⟩ := ev_run hτ h
  split at h
  · generalize hc : a.eval c = c' at hu
    cases hu
    obtain ⟨u1, hu1, h⟩ := ev_run hτ h
    obtain ⟨u2, hu2, h⟩ := ev_run hτ h
    obtain ⟨rfl, rfl, rfl⟩ := ret_run h
    simp only [asBool, Sem.run_bind, Sem.run_pure, Result.andThen_ok, if_true]
    exact good_value hR hu1
  · generalize hc : a.eval c = c' at hu
    cases hu
    obtain ⟨u1, hu1, h⟩ := ev_run hτ h
    obtain ⟨u2, hu2, h⟩ := ev_run hτ h
    obtain ⟨rfl, rfl, rfl⟩ := ret_run h
    simp only [asBool, Sem.run_bind, Sem.run_pure, Result.andThen_ok, if_false, Bool.false_eq_true]
    exact good_value hR hu1
  · exact (fail_run h).elim
theorem op_nilCheck (hR : Rel E.den N w0 ι σ w) (hτ : TR ι τ a) {x : Operand} {o : Oper} (ho : o.op = .nilCheck x) (h : (ev τ x fun
    | .pointer (some a) => .ret (.pointer (some a)) []
    | .func (.func f) a b => .ret (.func (.func f) a b) []
    | _ => .fail).run n σ = some (v, n', d)) : Good E.den N w0 ι σ n n' v d ((execOp a.eval o).run P w) := by
  obtain ⟨u, hu, h⟩ := ev_run hτ h
  unfold execOp
  rw [ho]
  simp only
  generalize a.eval x = x' at hu
  split at h
  · obtain ⟨rfl, rfl, rfl⟩ := ret_run h
    cases hu with
    | ptr hp => simp only [Sem.run_pure]; exact good_value hR (.ptr hp)
    | iter hp => simp only [Sem.run_pure]; exact good_value hR (.iter hp)
  · obtain ⟨rfl, rfl, rfl⟩ := ret_run h
    cases hu with
    | func ha hb => simp only [Sem.run_pure]; exact good_value hR (.func ha hb)
  · exact (fail_run h).elim
theorem pure_inj {α : Type} {x y : α} (h : (Sem.pure x : Sem α) = .pure y) : x = y := by injection h
theorem unary_int {op : UnOp} {k : IntKind} {m : Int} {v : Value} (h : Op.unary op (.int k m) = .pure v) : cl0 v = true := by
  cases op <;> simp only [Op.unary, Op.intArith, Op.intBits] at h <;> first | (cases pure_inj h; rfl) | cases h
theorem unary_bool {op : UnOp} {b : Bool} {v : Value} (h : Op.unary op (.bool b) = .pure v) : cl0 v = true := by
  cases op <;> simp only [Op.unary] at h <;> first | (cases pure_inj h; rfl) | cases h
theorem op_unOp (hE : EnvOk P E) (hR : Rel E.den N w0 ι σ w) (hτ : TR ι τ a) {op : UnOp} {x : Operand} (h : (ev τ x fun
    | .int k n => ofSem (Op.unary op (.int k n))
    | .bool b => ofSem (Op.unary op (.bool b))
    | .chan (some c) => orFail (E.un op (.chan (some c)))
    | _ => .fail).run n σ = some (v, n', d)) : Good E.den N w0 ι σ n n' v d ((do pure (Next.value (← Op.unary op (a.eval x))) : Sem Next).run P w) := by
  obtain ⟨u, hu, h⟩ := ev_run hτ h
  generalize a.eval x = x' at hu
  split at h
  · obtain ⟨hp, rfl, rfl⟩ := sem_pure_run h
    cases hu
    rw [hp]
    exact good_of hR (cl0_VR (unary_int hp) ι) rfl
  · obtain ⟨hp, rfl, rfl⟩ := sem_pure_run h
    cases hu
    rw [hp]
    exact good_of hR (cl0_VR (unary_bool hp) ι) rfl
  · unfold orFail at h
    split at h
    · rename_i z hz
      obtain ⟨rfl, rfl, rfl⟩ := ret_run h
      obtain ⟨x1, v1, d1, d2, d3⟩ := hE.un _ _ _ hz
      have e1 := d1.same hR.den hu
      subst e1
      rw [d3]
      exact good_of hR (d2.VR hR.den) rfl
    · exact (fail_run h).elim
  · exact (fail_run h).elim
theorem op_extract (hR : Rel E.den N w0 ι σ w) (hτ : TR ι τ a) {x : Operand} {k : Nat} (h : (ev τ x fun
    | .tuple vs => orFail vs.toList[k]?
    | _ => .fail).run n σ = some (v, n', d)) : Good E.den N w0 ι σ n n' v d ((do pure (Next.value (← Instr.extract (a.eval x) k)) : Sem Next).run P w) := by
  obtain ⟨u, hu, h⟩ := ev_run hτ h
  generalize a.eval x = x' at hu
  split at h
  · rename_i vs
    unfold orFail at h
    split at h
    · rename_i z hz
      obtain ⟨rfl, rfl, rfl⟩ := ret_run h
      cases hu with
      | @tuple l l' hs =>
        obtain ⟨v', h1, h2⟩ := hs.get k _ hz
        refine good_of hR h2 ?_
        unfold Instr.extract
        have e : (Array.mk l' : Array Value)[k]? = some v' := by simpa using h1
        simp only [e, Sem.run_pure]
    · exact (fail_run h).elim
  · exact (fail_run h).elim
theorem op_makeInterface (hE : EnvOk P E) (hR : Rel E.den N w0 ι σ w) (hτ : TR ι τ a) {t : Nat} {x : Operand} (h : (ev τ x fun v => match E.ty t with
    | some i => match i.d with
      | .interface _ => .fail
      | _ => .ret (.iface t v) []
    | none => .fail).run n σ = some (v, n', d)) : Good E.den N w0 ι σ n n' v d ((do pure (Next.value (← Instr.makeInterface t (a.eval x))) : Sem Next).run P w) := by
  obtain ⟨u, hu, h⟩ := ev_run hτ h
  split at h
  · rename_i i hi
    split at h
    · exact (fail_run h).elim
    · rename_i hne
      obtain ⟨rfl, rfl, rfl⟩ := ret_run h
      refine good_of hR (.iface hu) ?_
      unfold Instr.makeInterface
      simp only [Sem.run_bind, und_run hE w hi, Result.andThen_ok]
      rfl
  · exact (fail_run h).elim
theorem op_makeFunc (hR : Rel E.den N w0 ι σ w) (hτ : TR ι τ a) {fn : Fn} {x y : Array Operand} (h : (match evL τ x.toList, evL τ y.toList with
    | some a, some b => T.ret (.func fn ⟨a⟩ ⟨b⟩) []
    | _, _ => .fail).run n σ = some (v, n', d)) : Good E.den N w0 ι σ n n' v d ((do pure (Next.value (← Instr.makeFunc fn (x.map a.eval) (y.map a.eval))) : Sem Next).run P w) := by
  split at h
  · rename_i xs ys hx hy
    obtain ⟨rfl, rfl, rfl⟩ := ret_run h
    refine good_of hR (v' := .func fn (x.map a.eval) (y.map a.eval)) ?_ rfl
    have e1 : x.map a.eval = Array.mk (x.toList.map a.eval) := by apply Array.ext'; simp
    have e2 : y.map a.eval = Array.mk (y.toList.map a.eval) := by apply Array.ext'; simp
    rw [e1, e2]
    exact .func (evL_sound hτ hx) (evL_sound hτ hy)
  · exact (fail_run h).elim
theorem op_field (hE : EnvOk P E) (hR : Rel E.den N w0 ι σ w) (hτ : TR ι τ a) {t f : Nat} {x : Operand} (h : (ev τ x fun
    | .agg cs => match E.ty t with
      | some i => match i.d with
        | .struct fields => match fields[f]? with
          | some fd => orFail (part E fd.type cs.toList fd.offset)
          | none => .fail
        | _ => .fail
      | none => .fail
    | _ => .fail).run n σ = some (v, n', d)) : Good E.den N w0 ι σ n n' v d ((do pure (Next.value (← Instr.field t (a.eval x) f)) : Sem Next).run P w) := by
  obtain ⟨u, hu, h⟩ := ev_run hτ h
  generalize a.eval x = x' at hu
  split at h
  · split at h
    · rename_i i hi
      split at h
      · rename_i fields hd
        split at h
        · rename_i fd hfd
          unfold orFail at h
          split at h
          · rename_i z hz
            obtain ⟨rfl, rfl, rfl⟩ := ret_run h
            cases hu with
            | agg hs =>
              obtain ⟨v', h1, h2⟩ := part_run hE w hs hz
              refine good_of hR h2 ?_
              unfold Instr.field
              simp only [Sem.run_bind, und_run hE w hi, Result.andThen_ok, hd, hfd, asAgg, Sem.run_pure, h1]
          · exact (fail_run h).elim
        · exact (fail_run h).elim
      · exact (fail_run h).elim
    · exact (fail_run h).elim
  · exact (fail_run h).elim
theorem fieldPlace_run (hE : EnvOk P E) {f : Field} {i : TI} (hi : E.ty f.type = some i) (h0 : i.size ≠ 0) (b o : Nat) : (fieldPlace ⟨b, o, none⟩ f).run P w = .ok ⟨b, o + f.offset, none⟩ w := by
  unfold fieldPlace
  simp only [Sem.run_bind, size_run hE w hi, Result.andThen_ok, h0, if_false, Sem.run_pure, addr_add]
theorem op_fieldAddr (hE : EnvOk P E) (hR : Rel E.den N w0 ι σ w) (hτ : TR ι τ a) {s f : Nat} {x : Operand} (h : (ev τ x fun
    | .pointer (some ⟨i, k, some j⟩) => match E.ty s with
      | some si => match si.d with
        | .struct fields => match fields[f]? with
          | some fd => match E.ty fd.type with
            | some fi => if fi.size = 0 then .fail else .ret (.pointer (some ⟨i, k, some (j + fd.offset)⟩)) []
            | none => .fail
          | none => .fail
        | _ => .fail
      | none => .fail
    | _ => .fail).run n σ = some (v, n', d)) : Good E.den N w0 ι σ n n' v d ((do pure (Next.value (← Instr.fieldAt s (a.eval x) f)) : Sem Next).run P w) := by
  obtain ⟨u, hu, h⟩ := ev_run hτ h
  generalize a.eval x = x' at hu
  split at h
  · rename_i i k j
    split at h
    · rename_i si hs
      split at h
      · rename_i fields hd
        split at h
        · rename_i fd hfd
          split at h
          · rename_i fi hfi
            split at h
            · exact (fail_run h).elim
            · rename_i h0
              obtain ⟨rfl, rfl, rfl⟩ := ret_run h
              cases hu with
              | ptr hp =>
                refine good_of hR (.ptr hp) ?_
                unfold Instr.fieldAt
                simp only [Sem.run_bind, und_run hE w hs, Result.andThen_ok, hd, hfd, Instr.sureAddr, Sem.run_pure, fieldPlace_run hE hfi h0, Nat.add_assoc]
          · exact (fail_run h).elim
        · exact (fail_run h).elim
      · exact (fail_run h).elim
    · exact (fail_run h).elim
  · exact (fail_run h).elim
theorem op_typeAssert (hE : EnvOk P E) (hR : Rel E.den N w0 ι σ w) (hτ : TR ι τ a) {x : Operand} {xt asserted : Nat} {ok : Bool} (h : (ev τ x fun
    | .iface t v => match E.ty asserted with
      | some i => match i.d with
        | .interface _ => .fail
        | _ => if t = asserted then .ret (if ok then .tuple #[v, .bool true] else v) [] else if ok then .ret (.tuple #[i.zero, .bool false]) [] else .fail
      | none => .fail
    | .nilIface => match E.ty asserted with
      | some i => if ok then .ret (.tuple #[i.zero, .bool false]) [] else .fail
      | none => .fail
    | _ => .fail).run n σ = some (v, n', d)) : Good E.den N w0 ι σ n n' v d ((do pure (Next.value (← Instr.typeAssert (a.eval x) xt asserted ok)) : Sem Next).run P w) := by
  obtain ⟨u, hu, h⟩ := ev_run hτ h
  generalize a.eval x = x' at hu
  split at h
  · rename_i t y
    split at h
    · rename_i i hi
      have hz := (hE.zero _ _ hi).1 ι
      split at h
      · exact (fail_run h).elim
      · rename_i hne
        cases hu with
        | iface hy =>
          split at h
          · rename_i ht
            obtain ⟨rfl, rfl, rfl⟩ := ret_run h
            subst ht
            cases ok
            · refine good_of hR (by simpa using hy) ?_
              unfold Instr.typeAssert
              simp [und_run hE w hi]
            · refine good_of hR (v' := .tuple #[_, .bool true]) (.tuple (.cons hy (.cons (.bool _) .nil))) ?_
              unfold Instr.typeAssert
              simp [und_run hE w hi]
          · rename_i ht
            split at h
            · rename_i hok
              obtain ⟨rfl, rfl, rfl⟩ := ret_run h
              refine good_of hR (v' := .tuple #[i.zero, .bool false]) (.tuple (.cons hz (.cons (.bool _) .nil))) ?_
              unfold Instr.typeAssert
              simp [und_run hE w hi, ht, hok, zero_run hE w hi]
            · exact (fail_run h).elim
    · exact (fail_run h).elim
  · split at h
    · rename_i i hi
      have hz := (hE.zero _ _ hi).1 ι
      split at h
      · rename_i hok
        obtain ⟨rfl, rfl, rfl⟩ := ret_run h
        cases hu
        refine good_of hR (v' := .tuple #[i.zero, .bool false]) (.tuple (.cons hz (.cons (.bool _) .nil))) ?_
        unfold Instr.typeAssert
        simp only [Sem.run_bind, und_run hE w hi, Result.andThen_ok]
        cases i.d <;> simp [hok, zero_run hE w hi]
      · exact (fail_run h).elim
    · exact (fail_run h).elim
  · exact (fail_run h).elim
end
end Go.Proofs.YtdiofapingdlmaaV
/- The abstract machine: equality, arithmetic. -/
set_option linter.unusedVariables false
set_option linter.unusedSimpArgs false
namespace Go.Proofs.YtdiofapingdlmaaV
open Go.RowKit
section
variable {P : Program} {E : Env} (hE : EnvOk P E) (w : World) {ι : Inj}
include hE
theorem fields_run {d : Nat} (ih : ∀ (t : Nat) (x y x' y' : Value) (b : Bool), VR ι x x' → VR ι y y' → aeq E d t x y = some b → (Op.equalIn d t x' y').run P w = .ok b w) {xs ys xs' ys' : List Value} (hx : VRs ι xs xs') (hy : VRs ι ys ys') :
    ∀ (fs : List Field) (b : Bool), fieldsEq E (aeq E d) xs ys fs = some b →
    ∃ s : Option Bool × Unit, (forIn (m := Sem) fs ((none : Option Bool), ()) (fun (f : Field) (_ : Option Bool × Unit) => if f.name ≠ "_" then do
      if !(← Op.equalIn d f.type (← Go.part f.type ⟨xs'⟩ f.offset) (← Go.part f.type ⟨ys'⟩ f.offset)) then pure (ForInStep.done (some false, ())) else pure (ForInStep.yield (none, ()))
      else pure (ForInStep.yield (none, ())))).run P w = .ok s w ∧ (s.1.getD true) = b := by
  intro fs
  induction fs with
  | nil => intro b h; simp [fieldsEq] at h; subst h; exact ⟨_, rfl, rfl⟩
  | cons f fs ihf =>
    intro b h
    unfold fieldsEq at h
    rw [List.forIn_cons]
    split at h
    · rename_i hne
      split at h
      · rename_i u1 u2 h1 h2
        obtain ⟨u1', r1, v1⟩ := part_run hE w hx h1
        obtain ⟨u2', r2, v2⟩ := part_run hE w hy h2
        split at h
        · rename_i h3
          obtain ⟨s, hs, hb⟩ := ihf b h
          refine ⟨s, ?_, hb⟩
          rw [if_pos hne]
          simp only [Sem.run_bind, r1, r2, Result.andThen_ok, ih _ _ _ _ _ _ v1 v2 h3, Bool.not_true, Bool.false_eq_true, if_false, Sem.run_pure]
          exact hs
        · rename_i h3
          cases h
          refine ⟨(some false, ()), ?_, rfl⟩
          rw [if_pos hne]
          simp only [Sem.run_bind, r1, r2, Result.andThen_ok, ih _ _ _ _ _ _ v1 v2 h3, Bool.not_false, if_true, Sem.run_pure]
        · cases h
      · cases h
    · rename_i hne
      obtain ⟨s, hs, hb⟩ := ihf b h
      refine ⟨s, ?_, hb⟩
      rw [if_neg hne]
      simp only [Sem.run_bind, Result.andThen_ok, Sem.run_pure]
      exact hs
theorem elems_run {d : Nat} (ih : ∀ (t : Nat) (x y x' y' : Value) (b : Bool), VR ι x x' → VR ι y y' → aeq E d t x y = some b → (Op.equalIn d t x' y').run P w = .ok b w) {xs ys xs' ys' : List Value} (hx : VRs ι xs xs') (hy : VRs ι ys ys') (e n : Nat) :
    ∀ (m i : Nat) (b : Bool), elemsEq E (aeq E d) e n xs ys i m = some b →
    ∃ s : Option Bool × Unit, (forIn (m := Sem) (List.range' i m) ((none : Option Bool), ()) (fun i (_ : Option Bool × Unit) => do
      if !(← Op.equalIn d e (← Go.part e ⟨xs'⟩ (i * n)) (← Go.part e ⟨ys'⟩ (i * n))) then pure (ForInStep.done (some false, ())) else pure (ForInStep.yield (none, ())))).run P w = .ok s w ∧ (s.1.getD true) = b := by
  intro m
  induction m with
  | zero => intro i b h; simp [elemsEq] at h; subst h; exact ⟨_, rfl, rfl⟩
  | succ m ihf =>
    intro i b h
    unfold elemsEq at h
    rw [List.range'_succ, List.forIn_cons]
    split at h
    · rename_i u1 u2 h1 h2
      obtain ⟨u1', r1, v1⟩ := part_run hE w hx h1
      obtain ⟨u2', r2, v2⟩ := part_run hE w hy h2
      split at h
      · rename_i h3
        obtain ⟨s, hs, hb⟩ := ihf (i + 1) b h
        refine ⟨s, ?_, hb⟩
        simp only [Sem.run_bind, r1, r2, Result.andThen_ok, ih _ _ _ _ _ _ v1 v2 h3, Bool.not_true, Bool.false_eq_true, if_false, Sem.run_pure]
        exact hs
      · rename_i h3
        cases h
        refine ⟨(some false, ()), ?_, rfl⟩
        simp only [if_true, Sem.run_bind, r1, r2, Result.andThen_ok, ih _ _ _ _ _ _ v1 v2 h3, Bool.not_false, Sem.run_pure]
      · cases h
    · cases h
theorem aeq_run (hD : DenOk E.den ι) : ∀ (d t : Nat) (x y x' y' : Value) (b : Bool), VR ι x x' → VR ι y y' → aeq E d t x y = some b → (Op.equalIn d t x' y').run P w = .ok b w := by
  intro d
  induction d with
  | zero => intro t x y x' y' b _ _ h; simp [aeq] at h
  | succ d ih =>
    intro t x y x' y' b hx hy h
    unfold aeq at h
    split at h
    · cases h
    · rename_i i hi
      have hu := und_run hE w hi
      unfold Op.equalIn
      simp only [Sem.run_bind, hu, Result.andThen_ok]
      split at h
      all_goals (rename_i hd)
      · cases hx with
        | sym g1 g2 =>
        split at h
        · rename_i b' hb
          cases h
          obtain ⟨k, n, m, d1, d2, d3⟩ := hE.eqb _ _ _ hb
          have e1 := d1.same hD (.sym g1 g2)
          have e2 := d2.same hD hy
          cases e1
          subst e2
          simp only [hd]
          rw [if_pos trivial, d3]
          rfl
        · cases h
        | symS g1 g2 =>
        split at h
        · rename_i b' hb
          cases h
          obtain ⟨k, n, m, d1, d2, d3⟩ := hE.eqb _ _ _ hb
          have e1 := d1.same hD (.symS g1 g2)
          cases e1
        · cases h
      · cases hx
        cases hy with
        | sym g1 g2 =>
        split at h
        · rename_i b' hb
          cases h
          obtain ⟨k, n, m, d1, d2, d3⟩ := hE.eqb _ _ _ hb
          have e1 := d1.same hD (.int _ _)
          have e2 := d2.same hD (.sym g1 g2)
          cases e1
          cases e2
          simp only [hd]
          rw [if_pos trivial, d3]
          rfl
        · cases h
        | symS g1 g2 =>
        split at h
        · rename_i b' hb
          cases h
          obtain ⟨k, n, m, d1, d2, d3⟩ := hE.eqb _ _ _ hb
          have e2 := d2.same hD (.symS g1 g2)
          cases e2
        · cases h
      · cases hx; cases hy; cases h; simp only [hd]; rfl
      · cases hx; cases hy
        split at h
        · cases h; rename_i hk; simp only [hd, hk, if_true]; rfl
        · cases h
      · cases hx; cases hy; cases h; simp only [hd]; rfl
      · cases hx; cases hy <;> cases h <;> (simp only [hd]; rfl)
      · cases hx <;> cases hy <;> cases h <;> (simp only [hd]; rfl)
      · cases hx; cases hy; cases h; simp only [hd]; rfl
      · cases hx; cases hy; cases h; simp only [hd]; rfl
      · cases hx; cases hy; cases h; simp only [hd]; rfl
      · rename_i fields xs ys
        split at h
        · rename_i hok
          cases hx with | @agg l l' hx =>
          cases hy with | @agg m m' hy =>
          obtain ⟨s, hs, hb⟩ := fields_run hE w ih hx hy _ _ h
          simp only [hd, Sem.run_bind, run_program, Result.andThen_ok, (hE.eqok _ _ hi hok).2, Bool.false_eq_true, if_false]
          rw [← Array.forIn_toList, hs]
          simp only [Result.andThen_ok]
          subst hb
          rcases s with ⟨_ | s, _⟩ <;> rfl
        · cases h
      · rename_i n e xs ys
        split at h
        · rename_i j hj
          cases hx with | @agg l l' hx =>
          cases hy with | @agg m m' hy =>
          obtain ⟨s, hs, hb⟩ := elems_run hE w ih hx hy e j.size _ _ _ h
          simp only [hd, Sem.run_bind, size_run hE w hj, Result.andThen_ok]
          rw [Std.Legacy.Range.forIn_eq_forIn_range']
          simp only [Std.Legacy.Range.size, Nat.sub_zero, Nat.add_sub_cancel, Nat.div_one]
          rw [hs]
          simp only [Result.andThen_ok]
          subst hb
          rcases s with ⟨_ | s, _⟩ <;> rfl
        · cases h
      · cases hx; cases hy; cases h; simp only [hd]; rfl
      · split at h
        · rename_i hc
          cases hx; cases hy <;> first | (exfalso; revert hc; decide) | (cases h; simp only [hd]; rfl)
        · cases h
      · split at h
        · rename_i hc
          cases hy; cases hx <;> first | (exfalso; revert hc; decide) | (cases h; simp only [hd]; rfl)
        · cases h
      · cases hx; cases hy <;> cases h <;> (simp only [hd]; rfl)
      · cases hx; cases hy; cases h; simp only [hd]; rfl
      · cases hx; cases hy; cases h; simp only [hd]; rfl
      · cases hx; cases hy; cases h; simp only [hd]; rfl
      · cases h
theorem guard_run {op : BinOp} {t : Nat} {x y : Operand} {u v u' v' : Value} (hu : VR ι u u') (hv : VR ι v v') (h : guardOk E op t x y u v = true) : (eqGuard op t x y u' v').run P w = .ok () w := by
  unfold eqGuard
  unfold guardOk at h
  cases op <;> first | rfl | skip
  all_goals
    simp only at h
    simp only [Sem.run_bind, Sem.run_pure, Result.andThen_ok, Bool.not_true, Bool.false_eq_true, if_false]
    split at h
    · cases hu; cases hv
      cases x <;> cases y <;> first | rfl | (simp at h; done)
    · cases hu; cases hv
      split at h
      · rename_i i hi
        simp only [Sem.run_bind, run_program, Result.andThen_ok, (hE.eqok _ _ hi h).1, Bool.not_false, if_true]
        rfl
      · cases h
    · rename_i h1 h2
      cases hu <;> cases hv <;> first | rfl | exact (h1 rfl rfl).elim | exact (h2 _ _ rfl rfl).elim
end
theorem shift_leaf {op : BinOp} {k yk : IntKind} {x y : Int} {v : Value} (h : Op.shift op k x yk y = .pure v) : cl0 v = true := by
  unfold Op.shift at h
  split at h
  · simp only [runtimePanic] at h; cases h
  · cases op <;> first | (cases pure_inj h; rfl) | cases h
theorem arith_leaf {op : BinOp} {k : IntKind} {x y : Int} {v : Value} (h : Op.intArith op k x y = .pure v) : cl0 v = true := by
  unfold Op.intArith at h
  split at h <;> first | (cases pure_inj h; rfl) | cases h
theorem div_leaf {op : BinOp} {k : IntKind} {x y : Int} {v : Value} (h : Op.intDiv op k x y = .pure v) : cl0 v = true := by
  unfold Op.intDiv at h
  split at h
  · simp only [runtimePanic] at h; cases h
  · cases op <;> first | (cases pure_inj h; rfl) | cases h
theorem bits_leaf {op : BinOp} {k : IntKind} {x y : Int} {v : Value} (h : Op.intBits op k x y = .pure v) : cl0 v = true := by
  unfold Op.intBits at h
  cases op <;> first | (cases pure_inj h; rfl) | cases h
theorem cmp_leaf {op : BinOp} {x y : Int} {v : Value} (h : Op.intCmp op x y = .pure v) : cl0 v = true := by
  unfold Op.intCmp at h
  cases op <;> first | (cases pure_inj h; rfl) | cases h
theorem string_leaf {op : BinOp} {x y : ByteArray} {v : Value} (h : Op.stringOp op x y = .pure v) : cl0 v = true := by
  unfold Op.stringOp at h
  cases op <;> simp only at h <;> first | (cases pure_inj h; rfl) | cases h | (split at h <;> first | (cases pure_inj h; rfl) | cases h)
section
variable {P : Program} {E : Env} {τ : Nat → Value} {a : Act} {ι : Inj} {σ : Store} {N n n' : Nat} {w0 w : World} {v : Value} {d : Delta}
theorem abin_run (hE : EnvOk P E) (hD : DenOk E.den ι) {op : BinOp} {t : Nat} {x y x' y' : Value} (hx : VR ι x x') (hy : VR ι y y') (h : (abin E op t x y).run n σ = some (v, n', d)) :
    d = [] ∧ n' = n ∧ ∃ v', (binOp op t x' y').run P w = .ok v' w ∧ VR ι v v' := by
  have leaf : ∀ {S : Sem Value}, (ofSem S).run n σ = some (v, n', d) → (∀ u, S = .pure u → cl0 u = true) → (binOp op t x' y' = S) → d = [] ∧ n' = n ∧ ∃ v', (binOp op t x' y').run P w = .ok v' w ∧ VR ι v v' := by
    intro S h1 h2 h3
    obtain ⟨hp, rfl, rfl⟩ := sem_pure_run h1
    exact ⟨rfl, rfl, v, by rw [h3, hp]; rfl, cl0_VR (h2 v hp) ι⟩
  unfold abin at h
  split at h
  · unfold orFail at h
    split at h
    · rename_i z hz
      obtain ⟨rfl, rfl, rfl⟩ := ret_run h
      obtain ⟨a', b', v', d1, d2, d3, d4⟩ := hE.bin _ _ _ _ hz
      have e1 := d1.same hD hx
      have e2 := d2.same hD hy
      subst e1
      subst e2
      exact ⟨rfl, rfl, v', by rw [d4]; rfl, d3.VR hD⟩
    · exact (fail_run h).elim
  rename_i hcode
  simp only [Bool.or_eq_true, not_or, Bool.not_eq_true] at hcode
  obtain ⟨hc1, hc2⟩ := hcode
  unfold abin0 at h
  split at h
  · cases hx; cases hy
    exact leaf h (fun _ => shift_leaf) rfl
  · cases hx; cases hy
    exact leaf h (fun _ => shift_leaf) rfl
  · rename_i h1 h2
    cases hx; cases hy
    split at h
    · exact (fail_run h).elim
    · rename_i hk
      have hk' := Decidable.not_not.1 hk
      subst hk'
      cases op <;> first
        | exact (h1 rfl).elim
        | exact (h2 rfl).elim
        | exact leaf h (fun _ => arith_leaf) (by simp [binOp])
        | exact leaf h (fun _ => div_leaf) (by simp [binOp])
        | exact leaf h (fun _ => bits_leaf) (by simp [binOp])
        | exact leaf h (fun _ => cmp_leaf) (by simp [binOp])
  · cases hx; cases hy
    exact leaf h (fun _ => string_leaf) (by cases op <;> rfl)
  · rename_i h1 h2
    split at h
    · rename_i b hb
      obtain ⟨rfl, rfl, rfl⟩ := ret_run h
      refine ⟨rfl, rfl, .bool b, ?_, .bool b⟩
      have hr := aeq_run hE w hD _ _ _ _ _ _ _ hx hy hb
      cases hx <;> cases hy <;> first
        | (simp [coded] at hc1; done)
        | (simp [coded] at hc2; done)
        | exact (h1 _ _ _ _ rfl rfl).elim
        | exact (h2 _ _ rfl rfl).elim
        | (simp only [binOp, Sem.run_bind, Op.equal, hr, Result.andThen_ok, Sem.run_pure])
        | (simp [binOp, Op.equal, hr])
    · exact (fail_run h).elim
  · rename_i h1 h2
    split at h
    · rename_i b hb
      obtain ⟨rfl, rfl, rfl⟩ := ret_run h
      refine ⟨rfl, rfl, .bool !b, ?_, .bool _⟩
      have hr := aeq_run hE w hD _ _ _ _ _ _ _ hx hy hb
      cases hx <;> cases hy <;> first
        | (simp [coded] at hc1; done)
        | (simp [coded] at hc2; done)
        | exact (h1 _ _ _ _ rfl rfl).elim
        | exact (h2 _ _ rfl rfl).elim
        | (simp only [binOp, Sem.run_bind, Op.equal, hr, Result.andThen_ok, Sem.run_pure])
        | (simp [binOp, Op.equal, hr])
    · exact (fail_run h).elim
  · exact (fail_run h).elim
theorem op_binOp (hE : EnvOk P E) (hR : Rel E.den N w0 ι σ w) (hτ : TR ι τ a) {op : BinOp} {t : Nat} {x y : Operand} (h : (ev τ x fun u => ev τ y fun z => if guardOk E op t x y u z then abin E op t u z else .fail).run n σ = some (v, n', d)) :
    Good E.den N w0 ι σ n n' v d ((do pure (Next.value (← (do eqGuard op t x y (a.eval x) (a.eval y); binOp op t (a.eval x) (a.eval y)))) : Sem Next).run P w) := by
  obtain ⟨u, hu, h⟩ := ev_run hτ h
  obtain ⟨z, hz, h⟩ := ev_run hτ h
  split at h
  · rename_i hg
    obtain ⟨rfl, rfl, v', h1, h2⟩ := abin_run hE (w := w) hR.den hu hz h
    refine good_of hR h2 ?_
    simp only [Sem.run_bind, guard_run hE w hu hz hg, Result.andThen_ok, h1]
  · exact (fail_run h).elim
end
end Go.Proofs.YtdiofapingdlmaaV
/- The abstract machine: memory. -/
set_option linter.unusedVariables false
set_option linter.unusedSimpArgs false
namespace Go.Proofs.YtdiofapingdlmaaV
open Go.RowKit
theorem get_run {i : Nat} {k : AObj → T} {n : Nat} {σ : Store} {r : Value × Nat × Delta} (h : (T.get i k).run n σ = some r) : ∃ o, σ i = some o ∧ (k o).run n σ = some r := by
  simp only [T.run] at h
  split at h
  · exact ⟨_, ‹_›, h⟩
  · cases h
theorem fresh_run {k : Nat → T} {n : Nat} {σ : Store} {r : Value × Nat × Delta} (h : (T.fresh k).run n σ = some r) : (k n).run (n + 1) σ = some r := h
theorem VR_ptr {ι : Inj} {i k j b o : Nat} {p : Place} (h : ι i = some p) (hb : b = p.b) (ho : o = p.off + k * p.sz + j) : VR ι (.pointer (some ⟨i, k, some j⟩)) (.pointer (some ⟨b, o, none⟩)) := by
  subst hb ho; exact .ptr h
theorem VR_slice {ι : Inj} {i o n b q c : Nat} {p : Place} (h : ι i = some p) (hc : o + n ≤ p.cap) (hb : b = p.b) (hq : q = p.off + o * p.sz) (hcc : c = p.cap - o) : VR ι (.slice (some ⟨i, o, none⟩) n 0) (.slice (some ⟨b, q, none⟩) n c) := by
  subst hb hq hcc; exact .slice h hc
section
variable {α : Type}
theorem ov_length {e c : List α} {j : Nat} (h : j + c.length ≤ e.length) : (ov e j c).length = e.length := by
  simp [ov]; omega
theorem ov_get {e c : List α} {j : Nat} (h : j + c.length ≤ e.length) (m : Nat) : (ov e j c)[m]? = if m < j then e[m]? else if m < j + c.length then c[m - j]? else e[m]? := by
  unfold ov
  by_cases h1 : m < j
  · rw [if_pos h1, List.append_assoc, List.getElem?_append_left (by simp; omega), List.getElem?_take, if_pos h1]
  · rw [if_neg h1, List.append_assoc, List.getElem?_append_right (by simp; omega)]
    simp only [List.length_take, Nat.min_eq_left (show j ≤ e.length by omega)]
    by_cases h2 : m < j + c.length
    · rw [if_pos h2, List.getElem?_append_left (by omega)]
    · rw [if_neg h2, List.getElem?_append_right (by omega), List.getElem?_drop]
      congr 1; omega
end
/-- A row of cells shows elements. -/
def Holds (ι : Inj) (sz : Nat) (es : List (List Value)) (arr : List Value) (off : Nat) : Prop :=
  ∀ (k : Nat) (e : List Value), es[k]? = some e → ∀ (j : Nat) (v : Value), e[j]? = some v → ∃ v', arr[off + k * sz + j]? = some v' ∧ VR ι v v' ∧ oneB v = true
theorem mul_step {k k' sz j : Nat} (h : k' < k) (hj : j < sz) : k' * sz + j < k * sz := by
  have : (k' + 1) * sz ≤ k * sz := Nat.mul_le_mul_right _ h
  rw [Nat.add_mul] at this
  omega
theorem setRow_other (w : World) (g : Nat) (cs : Array Value) (k : Nat) (h : k ≠ g) : (w.setRow g cs).heap[k]? = w.heap[k]? := by
  unfold World.setRow
  simp only [Array.getElem?_modify]
  rw [if_neg (fun e => h e.symm)]
theorem setRow_size (w : World) (g : Nat) (cs : Array Value) : (w.setRow g cs).heap.size = w.heap.size := by simp [World.setRow]
theorem oneB_cell' {v : Value} (h : oneB v = true) : v.oneCell' = true := by cases v <;> first | rfl | cases h
/-- Cells written one after the other. -/
theorem storeCells_run (P : Program) (g : Nat) (t : TypeId) (fz : Nat × Nat) (o : Nat) : ∀ (vs : List Value) (i : Nat) (cur : Array Value) (w : World), w.heap[g]? = some (.cells cur t fz) → (∀ k, k < cur.size → ¬ (fz.1 ≤ k ∧ k < fz.2)) → o + i + vs.length ≤ cur.size → (∀ v ∈ vs, oneB v = true) →
    (storeCells ⟨g, o, none⟩ vs i).run P w = .ok () (w.setRow g ⟨ov cur.toList (o + i) vs⟩)
  | [], i, cur, w, hg, _, _, _ => by
    have e : (Array.mk (ov cur.toList (o + i) []) : Array Value) = cur := by
      apply Array.ext'
      simp [ov]
    rw [e, setRow_self w g cur t fz hg]
    rfl
  | v :: rest, i, cur, w, hg, hfz, hl, h1 => by
    have hi : o + i < cur.size := by simp at hl; omega
    have hcell : w.cell? ⟨g, o + i, none⟩ = some cur[o + i] := by simp [World.cell?, hg, hi]
    have hfro : w.frozen? ⟨g, o + i, none⟩ = false := by
      obtain ⟨lo, hi'⟩ := fz
      have := hfz (o + i) hi
      simp only [World.frozen?, hg, Bool.and_eq_false_iff, decide_eq_false_iff_not]
      simp only at this
      omega
    have hst : (store ((⟨g, o, none⟩ : Addr).add i) v).run P w = .ok () (w.setRow g (cur.setIfInBounds (o + i) v)) := by
      rw [addr_add, run_store P w _ v _ (oneB_cell' (h1 v (by simp))), hcell]
      simp [hfro, setCell_eq_setRow w g (o + i) cur t fz v hg]
    have ih := storeCells_run P g t fz o rest (i + 1) (cur.setIfInBounds (o + i) v) (w.setRow g (cur.setIfInBounds (o + i) v)) (setRow_heap w g cur _ t _ hg) (by simpa using hfz) (by simp at hl ⊢; omega) (fun x hx => h1 x (by simp [hx]))
    simp only [storeCells, Sem.run_bind, hst, Result.andThen_ok, ih, setRow_setRow]
    congr 3
    have e := list_seg_step cur.toList (o + i) v rest (by simp at hl ⊢; omega)
    simpa [ov, Array.toList_setIfInBounds, Nat.add_assoc] using e
section
variable {P : Program} {E : Env} {τ : Nat → Value} {a : Act} {ι : Inj} {σ : Store} {N n n' : Nat} {w0 w : World} {v : Value} {d : Delta}
theorem cells_of {c : List Value} {f : Nat → Addr} (h : ∀ (m : Nat) (v : Value), c[m]? = some v → ∃ v', w.cell? (f m) = some v' ∧ VR ι v v') : ∃ c', VRs ι c c' ∧ ∀ (m : Nat) (v' : Value), c'[m]? = some v' → w.cell? (f m) = some v' := by
  induction c generalizing f with
  | nil => exact ⟨[], .nil, fun m v' e => by simp at e⟩
  | cons x c ih =>
    obtain ⟨x', h1, h2⟩ := h 0 x rfl
    obtain ⟨c', h3, h4⟩ := ih (f := fun m => f (m + 1)) (fun m v e => h (m + 1) v (by simpa using e))
    refine ⟨x' :: c', .cons h2 h3, fun m v' e => ?_⟩
    cases m with
    | zero => simp at e; subst e; exact h1
    | succ m => exact h4 m v' (by simpa using e)
/-- A segment of an element, as memory has it. -/
theorem seg_of {o : AObj} {p : Place} (hO : ObjR N ι o p w) {k : Nat} {e : List Value} (he : o.es[k]? = some e) (j m : Nat) :
    ∃ c', VRs ι ((e.drop j).take m) c' ∧ ∀ (q : Nat) (v' : Value), c'[q]? = some v' → w.cell? ((⟨p.b, p.off + k * p.sz + j, none⟩ : Addr).add q) = some v' := by
  refine cells_of (fun q v hv => ?_)
  rw [List.getElem?_take] at hv
  split at hv
  · rw [List.getElem?_drop] at hv
    obtain ⟨v', h1, h2, _⟩ := hO.cell k e he (j + q) v hv
    exact ⟨v', by rw [addr_add]; simpa [Nat.add_assoc] using h1, h2⟩
  · cases hv
theorem op_load (hE : EnvOk P E) (hR : Rel E.den N w0 ι σ w) (hτ : TR ι τ a) {t : Nat} {x : Operand} (h : (ev τ x fun
    | .pointer (some ⟨i, k, some j⟩) => match E.ty t with
      | some ti => .get i fun ob => match ob.es[k]? with
        | some e => if ((e.drop j).take ti.size).length = ti.size then orFail (mkv ti.d ((e.drop j).take ti.size)) else .fail
        | none => .fail
      | none => .fail
    | _ => .fail).run n σ = some (v, n', d)) : Good E.den N w0 ι σ n n' v d ((do pure (Next.value (← Instr.loadAt t (a.eval x))) : Sem Next).run P w) := by
  obtain ⟨u, hu, h⟩ := ev_run hτ h
  generalize a.eval x = x' at hu
  split at h
  · rename_i i k j
    split at h
    · rename_i ti ht
      obtain ⟨ob, ho, h⟩ := get_run h
      split at h
      · rename_i e he
        split at h
        · rename_i hl
          unfold orFail at h
          split at h
          · rename_i z hz
            obtain ⟨rfl, rfl, rfl⟩ := ret_run h
            cases hu with
            | @ptr _ _ _ p hp =>
              obtain ⟨q, g1, g2, g3⟩ := hR.obj i ob ho
              rw [hp] at g1; cases g1
              obtain ⟨c', h1, h2⟩ := seg_of g3 he j ti.size
              have hlen : c'.length = ti.size := by rw [← h1.length, hl]
              unfold mkv at hz
              have hload := run_loadCells_list (P := P) w ⟨p.b, p.off + k * p.sz + j, none⟩ c' h2
              rw [hlen] at hload
              split at hz
              · rename_i hagg
                cases hz
                refine good_of hR (.agg h1) ?_
                simp only [Instr.loadAt, Instr.sureAddr, Sem.run_bind, Sem.run_pure, Result.andThen_ok, loadVar, isAgg_run hE w ht, hagg, if_true, size_run hE w ht, hload]
              · rename_i hagg
                split at hz
                · rename_i y hy
                  cases hz
                  rw [hy] at h1
                  cases h1 with
                  | @cons _ v' _ _ hv hs =>
                    cases hs
                    have hc := h2 0 v' rfl
                    rw [addr_add, Nat.add_zero] at hc
                    refine good_of hR hv ?_
                    simp only [Instr.loadAt, Instr.sureAddr, Sem.run_bind, Sem.run_pure, Result.andThen_ok, loadVar, isAgg_run hE w ht, hagg, Bool.false_eq_true, if_false, run_load, hc]
                · cases hz
          · exact (fail_run h).elim
        · exact (fail_run h).elim
      · exact (fail_run h).elim
    · exact (fail_run h).elim
  · exact (fail_run h).elim
/-- What is written into one object's block. -/
theorem good_put {i : Nat} {o o' : AObj} {p : Place} (hR : Rel E.den N w0 ι σ w) (hi : σ i = some o) (hw : o.w = true) (hp : ι i = some p) (hcp : 0 < p.cap) (ht : o'.t = o.t) (hs : o'.sz = o.sz) (hw' : o'.w = true)
    (hlen : ∀ (k : Nat) (e : List Value), o'.es[k]? = some e → e.length = o.sz) (hcap : o'.es.length ≤ p.cap) {arr : Array Value} {fz : Nat × Nat} {arr' : List Value} (hblk : w.heap[p.b]? = some (.cells arr o.t.n fz)) (hsz : arr'.length = arr.size)
    (hcell : Holds ι p.sz o'.es arr' p.off) : Rel E.den N w0 ι (app [(i, some o')] σ) (w.setRow p.b ⟨arr'⟩) :=
  hR.put hi hw hp hcp ht hs hw' hlen hcap (arr' := ⟨arr'⟩) hblk (by simpa using hsz) (fun k e he j v hv => by
    obtain ⟨v', h1, h2, h3⟩ := hcell k e he j v hv
    exact ⟨v', by simpa using h1, h2, h3⟩) _ (fun k hk => setRow_other _ _ _ _ hk) (setRow_heap _ _ _ _ _ _ hblk) (setRow_size _ _ _) rfl rfl rfl
theorem Holds.set {ι : Inj} {sz : Nat} {es : List (List Value)} {arr : List Value} {off k j : Nat} {e c c' : List Value} (h : Holds ι sz es arr off) (he : es[k]? = some e) (hlen : ∀ (k : Nat) (e : List Value), es[k]? = some e → e.length = sz)
    (hj : j + c.length ≤ sz) (hc : VRs ι c c') (h1 : c.all oneB = true) (hroom : off + k * sz + sz ≤ arr.length) : Holds ι sz (es.set k (ov e j c)) (ov arr (off + k * sz + j) c') off := by
  intro k2 e2 he2 j2 v hv
  have hcl := hc.length
  have hel := hlen k e he
  rw [ov_get (by omega)]
  by_cases hk : k2 = k
  · subst hk
    rw [List.getElem?_set_self (by exact (List.getElem?_eq_some_iff.1 he).1)] at he2
    cases he2
    rw [ov_get (by omega)] at hv
    split at hv
    · rw [if_pos (by omega)]; exact h k2 e he j2 v hv
    · rename_i hlt
      split at hv
      · rename_i hlt2
        rw [if_neg (by omega), if_pos (by omega)]
        obtain ⟨v', g1, g2⟩ := hc.get _ _ hv
        refine ⟨v', by rw [← g1]; congr 1; omega, g2, ?_⟩
        exact List.all_eq_true.1 h1 v (List.mem_of_getElem? hv)
      · rw [if_neg (by omega), if_neg (by omega)]; exact h k2 e he j2 v hv
  · rw [List.getElem?_set_ne (fun e => hk e.symm)] at he2
    have hj2 : j2 < sz := by
      have := (List.getElem?_eq_some_iff.1 hv).1
      rw [hlen k2 e2 he2] at this
      exact this
    rcases Nat.lt_or_gt_of_ne hk with hlt | hgt
    · have := mul_step hlt hj2
      rw [if_pos (by omega)]
      exact h k2 e2 he2 j2 v hv
    · have h3 : (k + 1) * sz ≤ k2 * sz := Nat.mul_le_mul_right _ hgt
      rw [Nat.add_mul] at h3
      rw [if_neg (by omega), if_neg (by omega)]
      exact h k2 e2 he2 j2 v hv
theorem ObjR.holds {o : AObj} {p : Place} (hO : ObjR N ι o p w) {arr : Array Value} {fz : Nat × Nat} (hb : w.heap[p.b]? = some (.cells arr o.t.n fz)) : Holds ι p.sz o.es arr.toList p.off := by
  intro k e he j v hv
  obtain ⟨v', h1, h2, h3⟩ := hO.cell k e he j v hv
  refine ⟨v', ?_, h2, h3⟩
  unfold World.cell? at h1
  simp only [hb, Option.isSome_none, Bool.false_eq_true, if_false] at h1
  simpa using h1
theorem op_store (hE : EnvOk P E) (hR : Rel E.den N w0 ι σ w) (hτ : TR ι τ a) {t : Nat} {x y : Operand} (h : (ev τ x fun
    | .pointer (some ⟨i, k, some j⟩) => ev τ y fun v => match E.ty t with
      | some ti => .get i fun ob => match ob.es[k]? with
        | some e => if decide (j + ti.size ≤ e.length) && (cellsL v).length = ti.size && (cellsL v).all oneB && ob.w then .ret (.tuple #[]) [(i, some { ob with es := ob.es.set k (ov e j (cellsL v)) })] else .fail
        | none => .fail
      | none => .fail
    | _ => .fail).run n σ = some (v, n', d)) : Good E.den N w0 ι σ n n' v d ((do Instr.storeAt t (a.eval x) (a.eval y); pure .skip : Sem Next).run P w) := by
  obtain ⟨u, hu, h⟩ := ev_run hτ h
  generalize a.eval x = x' at hu
  split at h
  · rename_i i k j
    obtain ⟨z, hz, h⟩ := ev_run hτ h
    generalize a.eval y = y' at hz
    split at h
    · rename_i ti ht
      obtain ⟨ob, ho, h⟩ := get_run h
      split at h
      · rename_i e he
        split at h
        · rename_i hc
          simp only [Bool.and_eq_true, decide_eq_true_eq] at hc
          obtain ⟨⟨⟨hj, hl⟩, h1⟩, hw⟩ := hc
          obtain ⟨rfl, rfl, rfl⟩ := ret_run h
          cases hu with
          | @ptr _ _ _ p hp =>
            obtain ⟨q, g1, g2, g3⟩ := hR.obj i ob ho
            rw [hp] at g1; cases g1
            have hkl : k < ob.es.length := (List.getElem?_eq_some_iff.1 he).1
            have hcp : 0 < p.cap := by have := g3.cap; omega
            obtain ⟨hN, arr, fz, hb, hroom, hfz⟩ := g3.own hw hcp
            have hcells := hz.cells
            have hk1 : (k + 1) * p.sz ≤ p.cap * p.sz := Nat.mul_le_mul_right _ (by have := g3.cap; omega)
            rw [Nat.add_mul] at hk1
            have hel := g3.len k e he
            have hsz := g3.sz
            have hlen' : y'.cells.toList.length = ti.size := by rw [← hcells.length]; exact hl
            have hone' : ∀ v ∈ y'.cells.toList, oneB v = true := by
              intro v hv
              obtain ⟨m, hm⟩ := List.getElem?_of_mem hv
              obtain ⟨v0, e0, hv0⟩ := hcells.get' m v hm
              rw [hv0.oneB]
              exact List.all_eq_true.1 h1 v0 (List.mem_of_getElem? e0)
            have hst := storeCells_run P p.b ob.t.n fz (p.off + k * p.sz + j) y'.cells.toList 0 arr w hb hfz.1 (by rw [hlen']; omega) hone'
            refine ⟨.skip, w.setRow p.b ⟨ov arr.toList (p.off + k * p.sz + j) y'.cells.toList⟩, undef, ι, ?_, .inr ⟨rfl, rfl⟩, Inj.le_refl _, fun i h => absurd rfl h, ?_, .tuple .nil⟩
            · have hs' : (storeVar t ⟨p.b, p.off + k * p.sz + j, none⟩ y').run P w = .ok () (w.setRow p.b ⟨ov arr.toList (p.off + k * p.sz + j) y'.cells.toList⟩) := by
                unfold storeVar
                have : ¬ y'.cells.size ≠ ti.size := by rw [← hlen']; simp
                simp only [Sem.run_bind, size_run hE w ht, Result.andThen_ok, this, if_false, Sem.run_pure]
                exact hst
              simp only [Instr.storeAt, Instr.sureAddr, Sem.run_bind, Sem.run_pure, Result.andThen_ok, hs']
            · refine good_put (o' := { ob with es := ob.es.set k (ov e j (cellsL z)) }) hR ho hw hp hcp rfl rfl hw (fun k2 e2 he2 => ?_) (by simpa using g3.cap) hb (by rw [ov_length (e := arr.toList) (j := p.off + k * p.sz + j) (c := y'.cells.toList) (by rw [hlen', Array.length_toList]; omega), Array.length_toList]) ?_
              · by_cases hk : k2 = k
                · subst hk
                  rw [List.getElem?_set_self hkl] at he2
                  cases he2
                  rw [ov_length (by omega)]; exact hel
                · rw [List.getElem?_set_ne (fun e => hk e.symm)] at he2
                  exact g3.len k2 e2 he2
              · exact (g3.holds hb).set he (by rw [hsz]; exact g3.len) (by rw [hl]; omega) hcells h1 (by simp; omega)
        · exact (fail_run h).elim
      · exact (fail_run h).elim
    · exact (fail_run h).elim
  · exact (fail_run h).elim
end
end Go.Proofs.YtdiofapingdlmaaV
/- The abstract machine: new memory. -/
set_option linter.unusedVariables false
set_option linter.unusedSimpArgs false
namespace Go.Proofs.YtdiofapingdlmaaV
open Go.RowKit
def Inj.set (ι : Inj) (n : Nat) (p : Place) : Inj := fun i => if i = n then some p else ι i
theorem Inj.set_self (ι : Inj) (n : Nat) (p : Place) : ι.set n p n = some p := by simp [Inj.set]
theorem Inj.set_le {ι : Inj} {n : Nat} (h : ι n = none) (p : Place) : ι.le (ι.set n p) := fun i q e => by
  show (if i = n then some p else ι i) = some q
  rw [if_neg (fun hi => by rw [hi, h] at e; cases e)]; exact e
theorem Inj.set_only {ι : Inj} {n : Nat} {p : Place} (i : Nat) (h : ι.set n p i ≠ ι i) : n ≤ i ∧ i < n + 1 := by
  unfold Inj.set at h
  by_cases hi : i = n
  · omega
  · rw [if_neg hi] at h; exact absurd rfl h
section
variable {P : Program} {E : Env} {τ : Nat → Value} {a : Act} {ι : Inj} {σ : Store} {N n n' : Nat} {w0 w : World} {v : Value} {d : Delta}
theorem rel_new (hR : Rel E.den N w0 ι σ w) (hn : ι n = none) {o : AObj} {p : Place} {arr : Array Value} {fz : Nat × Nat} (hb : p.b = w.heap.size) (hsz : p.sz = o.sz) (hpos : 0 < o.sz) (hcap : o.es.length ≤ p.cap) (hlen : ∀ (k : Nat) (e : List Value), o.es[k]? = some e → e.length = o.sz)
    (hcell : Holds ι p.sz o.es arr.toList p.off) (hroom : p.off + p.cap * p.sz ≤ arr.size) (hfz : FzOk o.sz arr.size fz) (dr : Nat) (hwt : o.w = true := by rfl) :
    Rel E.den N w0 (ι.set n p) (app [(n, some o)] σ) { w with heap := w.heap.push (.cells arr o.t.n fz), drawn := dr } :=
  hR.new n hn o p arr fz hb hsz hpos hcap hlen (fun k e he j v hv => by
    obtain ⟨v', h1, h2, h3⟩ := hcell k e he j v hv
    exact ⟨v', by simpa using h1, h2, h3⟩) hroom hfz _ rfl rfl rfl rfl hwt
theorem good_new (hR : Rel E.den N w0 ι σ w) (hn : ι n = none) {o : AObj} {p : Place} {arr : Array Value} {fz : Nat × Nat} (hb : p.b = w.heap.size) (hsz : p.sz = o.sz) (hpos : 0 < o.sz) (hcap : o.es.length ≤ p.cap) (hlen : ∀ (k : Nat) (e : List Value), o.es[k]? = some e → e.length = o.sz)
    (hcell : Holds ι p.sz o.es arr.toList p.off) (hroom : p.off + p.cap * p.sz ≤ arr.size) (hfz : FzOk o.sz arr.size fz) (dr : Nat) {v v' : Value} (hv : VR (ι.set n p) v v') (hwt : o.w = true := by rfl) :
    Good E.den N w0 ι σ n (n + 1) v [(n, some o)] (.ok (.value v') { w with heap := w.heap.push (.cells arr o.t.n fz), drawn := dr }) :=
  ⟨_, _, v', ι.set n p, rfl, .inl rfl, Inj.set_le hn p, fun i => Inj.set_only i, rel_new hR hn hb hsz hpos hcap hlen hcell hroom hfz dr hwt, hv⟩
theorem holds_one {l l' : List Value} (h : VRs ι l l') (h1 : l.all oneB = true) : Holds ι l.length [l] l' 0 := by
  intro k e he j v hv
  cases k with
  | zero =>
    simp at he; subst he
    obtain ⟨v', g1, g2⟩ := h.get j v hv
    exact ⟨v', by simpa using g1, g2, List.all_eq_true.1 h1 v (List.mem_of_getElem? hv)⟩
  | succ k => simp at he
theorem op_box (hR : Rel E.den N w0 ι σ w) (hτ : TR ι τ a) (hn : ∀ i, n ≤ i → i < n' → ι i = none) {t : Nat} {x : Operand} (h : (ev τ x fun v => if decide (0 < (cellsL v).length) && (cellsL v).all oneB then .fresh fun n => .ret (.pointer (some ⟨n, 0, some 0⟩)) [(n, some ⟨[cellsL v], (cellsL v).length, t, true⟩)] else .fail).run n σ = some (v, n', d)) :
    Good E.den N w0 ι σ n n' v d ((do pure (Next.value (← Instr.box t (a.eval x))) : Sem Next).run P w) := by
  obtain ⟨u, hu, h⟩ := ev_run hτ h
  generalize a.eval x = x' at hu
  split at h
  · rename_i hc
    simp only [Bool.and_eq_true, decide_eq_true_eq] at hc
    obtain ⟨rfl, rfl, rfl⟩ := ret_run (fresh_run h)
    have hcells := hu.cells
    have hl := hcells.length
    simp only [Instr.box, newVar, newRow, Sem.run_bind, run_newObj, Result.andThen_ok, Sem.run_pure]
    exact good_new (p := ⟨w.heap.size, 0, (cellsL u).length, 1, none⟩) (o := ⟨[cellsL u], (cellsL u).length, t, true⟩) (fz := (0, 0)) hR (hn _ (Nat.le_refl _) (by omega)) rfl rfl hc.1 (by simp) (fun k e he => by cases k <;> simp at he; rw [← he]) (holds_one hcells hc.2) (by simp only [Nat.zero_add, Nat.one_mul]; unfold cellsL; rw [hl]; simp) (FzOk.zero _ _) w.drawn (VR_ptr (Inj.set_self _ _ _) rfl (by simp))
  · exact (fail_run h).elim
theorem op_alloc (hE : EnvOk P E) (hR : Rel E.den N w0 ι σ w) (hn : ∀ i, n ≤ i → i < n' → ι i = none) {t : Nat} (h : (match E.ty t with
    | some i => if decide (0 < i.size) && (cellsL i.zero).length = i.size then T.fresh fun n => .ret (.pointer (some ⟨n, 0, some 0⟩)) [(n, some ⟨[cellsL i.zero], i.size, t, true⟩)] else .fail
    | none => .fail).run n σ = some (v, n', d)) :
    Good E.den N w0 ι σ n n' v d ((do pure (Next.value (← Instr.alloc t true (.tuple #[]))) : Sem Next).run P w) := by
  split at h
  · rename_i i hi
    split at h
    · rename_i hc
      simp only [Bool.and_eq_true, decide_eq_true_eq] at hc
      obtain ⟨rfl, rfl, rfl⟩ := ret_run (fresh_run h)
      obtain ⟨hz, hl, h1⟩ := hE.zero _ _ hi
      have hcells := (hz ι).cells
      simp only [Instr.alloc, newVar, newRow, Sem.run_bind, zero_run hE w hi, run_newObj, Result.andThen_ok, Sem.run_pure]
      exact good_new (p := ⟨w.heap.size, 0, i.size, 1, none⟩) (o := ⟨[cellsL i.zero], i.size, t, true⟩) (fz := (0, 0)) hR (hn _ (Nat.le_refl _) (by omega)) rfl rfl hc.1 (by simp) (fun k e he => by cases k <;> simp at he; rw [← he]; exact hl) (by have := holds_one hcells h1; unfold cellsL at hl; rw [hl] at this; exact this) (by simp only [Nat.zero_add, Nat.one_mul]; unfold cellsL at hl; simp at hl; omega) (FzOk.zero _ _) w.drawn (VR_ptr (Inj.set_self _ _ _) rfl (by simp))
    · exact (fail_run h).elim
  · exact (fail_run h).elim
theorem VR_row (ι : Inj) (n : Nat) (p : Place) {len : Nat} (h : len ≤ p.cap) (h0 : p.off = 0) : VR (ι.set n p) (.slice (some ⟨n, 0, none⟩) len 0) (.slice (some ⟨p.b, 0, none⟩) len p.cap) :=
  VR_slice (Inj.set_self ι n p) (by omega) rfl (by rw [h0]; simp) (by simp)
/-- The cells of a new row of zero values. -/
theorem zeros_get (z : Array Value) (m q : Nat) (hz : 0 < z.size) (hq : q < m) : ((Array.range m).map (z[· % z.size]!))[q]? = z[q % z.size]? := by
  simp [hq]
  rw [Array.getElem?_eq_getElem (Nat.mod_lt _ hz)]
  simp [Nat.mod_lt _ hz]
theorem holds_zeros {i : TI} (hE : EnvOk P E) {t : Nat} (hi : E.ty t = some i) (hpos : 0 < i.size) (l m : Nat) (hm : l * i.size ≤ m) : Holds ι i.size (List.replicate l (cellsL i.zero)) ((Array.range m).map (i.zero.cells[· % i.zero.cells.size]!)).toList 0 := by
  obtain ⟨hz, hl, h1⟩ := hE.zero _ _ hi
  intro k e he j v hv
  rw [List.getElem?_replicate] at he
  split at he
  · rename_i hk
    cases he
    have hsz : i.zero.cells.size = i.size := by unfold cellsL at hl; simpa using hl
    have hj : j < i.size := by rw [← hl]; exact (List.getElem?_eq_some_iff.1 hv).1
    have hlt := mul_step hk hj
    obtain ⟨v', g1, g2⟩ := (hz ι).cells.get j v hv
    refine ⟨v', ?_, g2, List.all_eq_true.1 h1 v (List.mem_of_getElem? hv)⟩
    rw [Nat.zero_add, Array.getElem?_toList, zeros_get _ _ _ (by omega) (by omega), hsz, Nat.add_comm, Nat.add_mul_mod_self_right, Nat.mod_eq_of_lt hj]
    simpa using g1
  · cases he
theorem op_makeSlice (hE : EnvOk P E) (hR : Rel E.den N w0 ι σ w) (hτ : TR ι τ a) (hn : ∀ i, n ≤ i → i < n' → ι i = none) {t : Nat} {x y : Operand} (h : (ev τ x fun
    | .int .i64 n => ev τ y fun
      | .int .i64 m => match E.ty t with
        | some i => match i.d with
          | .slice elem => match E.ty elem with
            | some ei => if decide (0 ≤ n) && decide (n ≤ m) && small m.toNat ei.bytes && decide (0 < ei.size) && (cellsL ei.zero).length = ei.size then newRowT (List.replicate n.toNat (cellsL ei.zero)) ei.size elem [] else .fail
            | none => .fail
          | _ => .fail
        | none => .fail
      | _ => .fail
    | _ => .fail).run n σ = some (v, n', d)) :
    Good E.den N w0 ι σ n n' v d ((do pure (Next.value (← Instr.makeSlice t (a.eval x) (a.eval y))) : Sem Next).run P w) := by
  obtain ⟨u, hu, h⟩ := ev_run hτ h
  generalize a.eval x = x' at hu
  split at h
  · rename_i l
    obtain ⟨z, hz, h⟩ := ev_run hτ h
    generalize a.eval y = y' at hz
    split at h
    · rename_i m
      split at h
      · rename_i i hi
        split at h
        · rename_i elem hd
          split at h
          · rename_i ei hei
            split at h
            · rename_i hc
              simp only [Bool.and_eq_true, decide_eq_true_eq, small] at hc
              obtain ⟨⟨⟨⟨h0, hlm⟩, hs1, hs2⟩, hpos⟩, hzl⟩ := hc
              obtain ⟨rfl, rfl, rfl⟩ := ret_run (fresh_run h)
              cases hu; cases hz
              obtain ⟨inf, hinf, hbytes⟩ := bytes_run hE w hei
              have wl : IntKind.i64.wrap l = l := IntWalk.i64_in l (by omega)
              have wm : IntKind.i64.wrap m = m := IntWalk.i64_in m (by omega)
              have hbig : inf.bytes * m ≤ 2 ^ 48 := by
                rw [hbytes]
                have h1 : ((ei.bytes : Int)) * m ≤ 65536 * 1073741824 := Int.mul_le_mul (by omega) (by omega) (by omega) (by omega)
                exact Int.le_trans h1 (by decide)
              have c1 : ((decide (m < 0) || decide ((inf.bytes : Int) * m > 2 ^ 48)) || decide (l < 0) || decide (l > m)) = false := by
                simp only [Bool.or_eq_false_iff, decide_eq_false_iff_not]
                refine ⟨⟨⟨by omega, ?_⟩, by omega⟩, by omega⟩
                have := hbig; omega
              have hmk : (Instr.makeSlice t (.int .i64 l) (.int .i64 m)).run P w = .ok (.slice (some ⟨w.heap.size, 0, none⟩) l.toNat m.toNat) { w with heap := w.heap.push (.cells ((Array.range (m.toNat * ei.size)).map (ei.zero.cells[· % ei.zero.cells.size]!)) elem (0, 0)) } := by
                unfold Instr.makeSlice
                simp only [Sem.run_bind, und_run hE w hi, hd, Result.andThen_ok, asInt, asIntOf, Sem.run_pure, hinf, wl, wm, c1, Bool.false_eq_true, if_false, run_askRoom, size_run hE w hei]
                split
                · rename_i hz0
                  have hr : Array.range (m.toNat * ei.size) = #[] := by rw [hz0]; rfl
                  simp only [Sem.run_bind, Sem.run_pure, Result.andThen_ok, newRow, run_newObj, hr, List.map_toArray, List.map_nil]
                · simp only [Sem.run_bind, Sem.run_pure, Result.andThen_ok, newRow, run_newObj, zero_run hE w hei]
              simp only [Sem.run_bind, hmk, Result.andThen_ok, Sem.run_pure]
              exact good_new (p := ⟨w.heap.size, 0, ei.size, m.toNat, none⟩) (o := ⟨List.replicate l.toNat (cellsL ei.zero), ei.size, elem, true⟩) (fz := (0, 0)) hR (hn _ (Nat.le_refl _) (by omega)) rfl rfl hpos (by simp; omega) (fun k e he => by rw [List.getElem?_replicate] at he; split at he <;> cases he; exact hzl) (holds_zeros hE hei hpos _ _ (Nat.mul_le_mul_right _ (by omega))) (by simp) (FzOk.zero _ _) w.drawn (by have h_ := VR_row ι n ⟨w.heap.size, 0, ei.size, m.toNat, none⟩ (len := l.toNat) (show l.toNat ≤ m.toNat by omega) rfl; simpa using h_)
            · exact (fail_run h).elim
          · exact (fail_run h).elim
        · exact (fail_run h).elim
      · exact (fail_run h).elim
    · exact (fail_run h).elim
  · exact (fail_run h).elim
end
end Go.Proofs.YtdiofapingdlmaaV
/- The abstract machine: maps. -/
set_option linter.unusedVariables false
set_option linter.unusedSimpArgs false
namespace Go.Proofs.YtdiofapingdlmaaV
open Go.RowKit
theorem find_entA (kd : TypeDesc) (hkd : kd = .int .i64) (k : Nat) : ∀ (l : List (Nat × ByteArray)) (c i : Nat), Instr.findNow kd (.int .i64 (k : Int)) (entA l c) i = some (match mfind k l with
    | some s => some (i + (l.findIdx fun e => k == e.1), .string s)
    | none => none) := by
  subst hkd
  intro l
  induction l with
  | nil => intro c i; rfl
  | cons e l ih =>
    intro c i
    obtain ⟨k', s⟩ := e
    simp only [entA, Instr.findNow, Instr.sameNow, if_true]
    by_cases h : k = k'
    · subst h
      simp [mfind, List.findIdx_cons]
    · have h1 : ((k : Int) == (k' : Int)) = false := by rw [beq_eq_false_iff_ne]; omega
      have h2 : (k == k') = false := by simp [h]
      simp only [h1, ih]
      simp only [mfind, if_neg h, List.findIdx_cons, h2]
      cases mfind k l with
      | none => rfl
      | some s => simp; omega
theorem mfind_idx {k : Nat} {s : ByteArray} : ∀ {l : List (Nat × ByteArray)}, mfind k l = some s → ∃ h : (l.findIdx fun e => k == e.1) < l.length, l[(l.findIdx fun e => k == e.1)] = (k, s)
  | [], h => by simp [mfind] at h
  | (k', s') :: l, h => by
    simp only [mfind] at h
    by_cases hk : k = k'
    · subst hk
      rw [if_pos rfl] at h; cases h
      simp [List.findIdx_cons]
    · rw [if_neg hk] at h
      obtain ⟨h1, h2⟩ := mfind_idx h
      have h3 : (k == k') = false := by simp [hk]
      simp only [List.findIdx_cons, h3, cond_false]
      exact ⟨by rw [List.length_cons]; omega, by simpa using h2⟩
theorem mset_none {k : Nat} {s : ByteArray} : ∀ {l : List (Nat × ByteArray)}, mfind k l = none → mset k s l = l ++ [(k, s)]
  | [], _ => rfl
  | (k', s') :: l, h => by
    simp only [mfind] at h
    by_cases hk : k = k'
    · rw [if_pos hk] at h; cases h
    · rw [if_neg hk] at h
      simp only [mset, if_neg hk, mset_none h, List.cons_append]
theorem mset_some {k : Nat} {s u : ByteArray} : ∀ {l : List (Nat × ByteArray)}, mfind k l = some u → mset k s l = l.set (l.findIdx fun e => k == e.1) (k, s)
  | [], h => by simp [mfind] at h
  | (k', s') :: l, h => by
    simp only [mfind] at h
    by_cases hk : k = k'
    · subst hk
      simp [mset, List.findIdx_cons]
    · rw [if_neg hk] at h
      have h3 : (k == k') = false := by simp [hk]
      simp only [mset, if_neg hk, mset_some h, List.findIdx_cons, h3, cond_false, List.set_cons_succ]
theorem entA_append : ∀ (l : List (Nat × ByteArray)) (k : Nat) (s : ByteArray) (c : Nat), entA (l ++ [(k, s)]) c = entA l c ++ [{ key := .int .i64 k, val := .string s, born := c + l.length }]
  | [], k, s, c => rfl
  | (k', s') :: l, k, s, c => by
    simp only [List.cons_append, entA, entA_append l k s (c + 1), List.length_cons]
    rw [show c + 1 + l.length = c + (l.length + 1) from by omega]
theorem entA_get : ∀ (l : List (Nat × ByteArray)) (c i : Nat), (entA l c)[i]? = (l[i]?).map fun e => ({ key := .int .i64 e.1, val := .string e.2, born := c + i } : MapEntry)
  | [], c, i => by simp [entA]
  | (k, s) :: l, c, 0 => by simp [entA]
  | (k, s) :: l, c, i + 1 => by
    simp only [entA, List.getElem?_cons_succ, entA_get l (c + 1) i]
    rw [show c + 1 + i = c + (i + 1) from by omega]
theorem entA_set (l : List (Nat × ByteArray)) (c i k : Nat) (s s0 : ByteArray) (h : l[i]? = some (k, s0)) : (entA l c).modify i (fun e => { e with key := .int .i64 k, val := .string s }) = entA (l.set i (k, s)) c := by
  apply List.ext_getElem?
  intro j
  rw [List.getElem?_modify, entA_get, entA_get, List.getElem?_set]
  by_cases hj : i = j
  · subst hj
    have hl : i < l.length := (List.getElem?_eq_some_iff.1 h).1
    simp [h, hl]
  · simp only [if_neg hj]
    cases l[j]? <;> rfl
theorem entA_born {l : List (Nat × ByteArray)} : ∀ {c : Nat} {e : MapEntry}, e ∈ entA l c → e.born < c + l.length := by
  induction l with
  | nil => intro c e h; simp [entA] at h
  | cons x l ih =>
    intro c e h
    obtain ⟨k, s⟩ := x
    simp only [entA, List.mem_cons] at h
    rcases h with rfl | h
    · simp
    · have := ih h; simp; omega
theorem entA_find : ∀ (l : List (Nat × ByteArray)) (c b : Nat), (entA l c).find? (fun e => e.born == c + b) = (l[b]?).map fun e => ({ key := .int .i64 e.1, val := .string e.2, born := c + b } : MapEntry)
  | [], c, b => by simp [entA]
  | (k, s) :: l, c, 0 => by simp [entA]
  | (k, s) :: l, c, b + 1 => by
    have h := entA_find l (c + 1) b
    rw [show c + 1 + b = c + (b + 1) from by omega] at h
    have h2 : (c == c + (b + 1)) = false := by rw [beq_eq_false_iff_ne]; omega
    simp only [entA, List.find?_cons, h2, h, List.getElem?_cons_succ]
theorem left_entA (seen : List Nat) : ∀ (l : List (Nat × ByteArray)) (c : Nat), (entA l c).filter (fun e => !seen.toArray.contains e.born) = (mleft seen l c).map fun e => ({ key := .int .i64 e.2.1, val := .string e.2.2, born := e.1 } : MapEntry)
  | [], _ => rfl
  | (k, s) :: l, c => by
    have hc : seen.toArray.contains c = seen.contains c := by simp
    simp only [entA, mleft, List.filter_cons, hc, left_entA seen l (c + 1)]
    cases seen.contains c <;> simp
section
variable {P : Program} {E : Env} {ι : Inj} {N : Nat} {w0 w : World} {σ : Store} {n n' : Nat} {v : Value} {d : Delta} {a : Act} {τ : Nat → Value}
theorem getM_run {i : Nat} {k : MC → T} {n : Nat} {σ : Store} {r : Value × Nat × Delta} (h : (getM i k).run n σ = some r) : ∃ m, σ i = some (mobj m) ∧ (k m).run n σ = some r := by
  obtain ⟨ob, ho, h⟩ := get_run h
  split at h
  · exact ⟨_, ho, h⟩
  · exact (fail_run h).elim
theorem mobj_block {D : Den} (hR : Rel D N w0 ι σ w) {i : Nat} {m : MC} (h : σ i = some (mobj m)) : ∃ p b, ι i = some p ∧ w.heap[p.b]? = some b ∧ MapR ι m b := by
  obtain ⟨p, h1, _, h3⟩ := hR.obj i _ h
  obtain ⟨_, hc, b, hb, hm⟩ := h3.mp rfl m rfl
  exact ⟨p, b, h1, hb, hm⟩
theorem mapTy_run (hE : EnvOk P E) {t k : Nat} {ei : TI} (h : mapTy E t = some (k, ei)) : ∃ e, P.underlying t = some (.map k e) ∧ P.underlying k = some (.int .i64) ∧ E.ty e = some ei := by
  unfold mapTy at h
  split at h
  · rename_i i hi
    split at h
    · rename_i k' e' hd
      split at h
      · rename_i ki ei' hki hei
        split at h
        · rename_i hk
          cases h
          exact ⟨e', by rw [← hd]; exact (hE.ty t i hi).1, by rw [← hk]; exact (hE.ty _ _ hki).1, hei⟩
        · cases h
      · cases h
    · cases h
  · cases h
theorem op_makeMap {D : Den} (hR : Rel D N w0 ι σ w) (hn : ∀ i, n ≤ i → i < n' → ι i = none) {t : Nat} (h : (T.fresh fun n => .ret (.map (some n)) [(n, some (mobj (.map [])))]).run n σ = some (v, n', d)) :
    Good D N w0 ι σ n n' v d ((do pure (Next.value (← Instr.makeMap t none)) : Sem Next).run P w) := by
  obtain ⟨rfl, rfl, rfl⟩ := ret_run (fresh_run h)
  have hfr := hn n (Nat.le_refl _) (by omega)
  refine ⟨.value (.map (some w.heap.size)), { w with heap := w.heap.push (.map #[] 0) }, _, ι.set n ⟨w.heap.size, 0, 1, 1, none⟩, ?_, .inl rfl, Inj.set_le hfr _, Inj.set_only, ?_, ?_⟩
  · simp [Instr.makeMap, newObj, Sem.run]
  · exact hR.newM n hfr (.map []) (.map #[] 0) ⟨w.heap.size, 0, 1, 1, none⟩ rfl rfl (Nat.one_pos) rfl _ rfl rfl rfl rfl
  · exact VR.map (p := ⟨w.heap.size, 0, 1, 1, none⟩) (Inj.set_self _ _ _)
theorem op_range (hE : EnvOk P E) (hR : Rel E.den N w0 ι σ w) (hτ : TR ι τ a) (hn : ∀ i, n ≤ i → i < n' → ι i = none) {t : Nat} {x : Operand} (h : (ev τ x fun xv => arange E t xv).run n σ = some (v, n', d)) :
    Good E.den N w0 ι σ n n' v d ((do pure (Next.value (← Instr.range t (a.eval x))) : Sem Next).run P w) := by
  obtain ⟨u, hu, h1⟩ := ev_run hτ h
  clear h
  have h := h1
  clear h1
  generalize a.eval x = x' at hu
  unfold arange at h
  split at h
  · rename_i kt i hty
    obtain ⟨m, hm, h⟩ := getM_run h
    split at h
    · rename_i l
      obtain ⟨rfl, rfl, rfl⟩ := ret_run (fresh_run h)
      have hfr := hn n (Nat.le_refl _) (by omega)
      obtain ⟨e, hu1, _, _⟩ := mapTy_run hE hty
      obtain ⟨p, b, hp, hb, hM⟩ := mobj_block hR hm
      cases hM
      cases hu with
      | map hp' =>
        rw [hp] at hp'; cases hp'
        refine ⟨.value (.pointer (some ⟨w.heap.size, 0, none⟩)), { w with heap := w.heap.push (.mapIter (some p.b) l.length #[] l.length) }, _, ι.set n ⟨w.heap.size, 0, 1, 1, none⟩, ?_, .inl rfl, Inj.set_le hfr _, Inj.set_only, ?_, ?_⟩
        · simp only [Sem.run_bind, run_range_map w t _ e p.b _ _ hu1 hb, Result.andThen_ok, Sem.run_pure]; rfl
        · exact hR.newM n hfr (.it i [] l.length) _ ⟨w.heap.size, 0, 1, 1, none⟩ rfl rfl (Nat.one_pos) ⟨p, hp, rfl⟩ _ rfl rfl rfl rfl
        · exact VR.iter (p := ⟨w.heap.size, 0, 1, 1, none⟩) (Inj.set_self _ _ _)
    · exact (fail_run h).elim
  · exact (fail_run h).elim
theorem checkKey_n {k : Nat} (hk : P.underlying k = some (.int .i64)) (b : Bool) (z : Int) (w : World) (m : Nat) : (Instr.checkKey b (m + 1) k (.int .i64 z)).run P w = .ok () w := by
  simp only [Instr.checkKey, Sem.run_bind, run_underlying hk, Result.andThen_ok, Sem.run_pure]
theorem checkKey_int (hE : EnvOk P E) {k : Nat} (hk : P.underlying k = some (.int .i64)) (b : Bool) (z : Int) (w : World) : (Instr.checkKey b 10000 k (.int .i64 z)).run P w = .ok () w := checkKey_n hk b z w 9999
theorem findKey_int {k : Nat} (hk : P.underlying k = some (.int .i64)) (z : Nat) (l : List (Nat × ByteArray)) (w : World) : (Instr.findKey k (.int .i64 (z : Int)) (entA l 0)).run P w = .ok (match mfind z l with
    | some s => some ((l.findIdx fun e => z == e.1), .string s)
    | none => none) w := by
  unfold Instr.findKey
  simp only [Sem.run_bind, run_underlying hk, Result.andThen_ok, find_entA _ rfl z l 0 0, Sem.run_pure, Nat.zero_add]
theorem op_lookup (hE : EnvOk P E) (hR : Rel E.den N w0 ι σ w) (hτ : TR ι τ a) {t : Nat} {x y : Operand} {ok : Bool} (h : (ev τ x fun mv => ev τ y fun kv => amget E t mv kv ok).run n σ = some (v, n', d)) :
    Good E.den N w0 ι σ n n' v d ((do pure (Next.value (← Instr.lookup t (a.eval x) (a.eval y) ok)) : Sem Next).run P w) := by
  obtain ⟨u, hu, h1⟩ := ev_run hτ h
  clear h
  obtain ⟨z, hz, h⟩ := ev_run hτ h1
  clear h1
  generalize a.eval x = x' at hu
  generalize a.eval y = y' at hz
  have pv : ∀ {v v' : Value} {b : Bool}, VR ι v v' → VR ι (prOk ok v b) (if ok then .tuple #[v', .bool b] else v') := fun hv => by
    cases ok
    · exact hv
    · exact .tuple (.cons hv (.cons (.bool _) .nil))
  unfold amget at h
  split at h
  · rename_i kt ei kz hty
    obtain ⟨rfl, rfl, rfl⟩ := ret_run h
    cases hz; cases hu
    obtain ⟨e, hu1, hu2, hu3⟩ := mapTy_run hE hty
    refine good_of hR (pv ((hE.zero e ei hu3).1 ι)) ?_
    have := findKey_int (P := P) hu2
    simp only [Instr.lookup, Sem.run_bind, run_underlying hu1, Result.andThen_ok, Sem.run_pure, checkKey_int hE hu2]
    simp only [Instr.findKey, Sem.run_bind, run_underlying hu2, Result.andThen_ok, Instr.findNow, Sem.run_pure, zero_run hE w hu3]
  · rename_i kt ei i kz hty
    split at h
    · rename_i h0
      obtain ⟨m, hm, h⟩ := getM_run h
      obtain ⟨kn, rfl⟩ := Int.eq_ofNat_of_zero_le h0
      split at h
      · rename_i l
        obtain ⟨e, hu1, hu2, hu3⟩ := mapTy_run hE hty
        obtain ⟨p, b, hp, hb, hM⟩ := mobj_block hR hm
        cases hM
        cases hz
        cases hu with
        | map hp' =>
          rw [hp] at hp'; cases hp'
          have hf := findKey_int (P := P) hu2 kn l w
          simp only [Int.toNat_natCast] at h
          cases hq : mfind kn l with
          | some s =>
            rw [hq] at h hf
            obtain ⟨rfl, rfl, rfl⟩ := ret_run h
            refine good_of hR (pv (.str s)) ?_
            simp only [Instr.lookup, Sem.run_bind, run_underlying hu1, Result.andThen_ok, Sem.run_pure, MapKept.run_getObj_map hb, checkKey_int hE hu2, hf]
          | none =>
            rw [hq] at h hf
            obtain ⟨rfl, rfl, rfl⟩ := ret_run h
            refine good_of hR (pv ((hE.zero e ei hu3).1 ι)) ?_
            simp only [Instr.lookup, Sem.run_bind, run_underlying hu1, Result.andThen_ok, Sem.run_pure, MapKept.run_getObj_map hb, checkKey_int hE hu2, hf, zero_run hE w hu3]
      · exact (fail_run h).elim
    · exact (fail_run h).elim
  · exact (fail_run h).elim
theorem heap_set_other {w : World} {r k : Nat} {o : Obj} (h : k ≠ r) : (w.heap.setIfInBounds r o)[k]? = w.heap[k]? := by
  rw [Array.getElem?_setIfInBounds, if_neg (fun e => h e.symm)]
theorem heap_set_self {w : World} {r : Nat} {o b : Obj} (h : w.heap[r]? = some b) : (w.heap.setIfInBounds r o)[r]? = some o := by
  rw [Array.getElem?_setIfInBounds, if_pos rfl, if_pos (Array.getElem?_eq_some_iff.1 h).1]
theorem op_mapUpdate (hE : EnvOk P E) (hR : Rel E.den N w0 ι σ w) (hτ : TR ι τ a) {t : Nat} {x y z : Operand} (h : (ev τ x fun mv => ev τ y fun kv => ev τ z fun xv => amset E t mv kv xv).run n σ = some (v, n', d)) :
    Good E.den N w0 ι σ n n' v d ((do Instr.mapUpdate t (a.eval x) (a.eval y) (a.eval z); pure .skip : Sem Next).run P w) := by
  obtain ⟨u, hu, h1⟩ := ev_run hτ h
  clear h
  obtain ⟨y1, hy, h2⟩ := ev_run hτ h1
  clear h1
  obtain ⟨z1, hz, h⟩ := ev_run hτ h2
  clear h2
  generalize a.eval x = x' at hu
  generalize a.eval y = y' at hy
  generalize a.eval z = z' at hz
  unfold amset at h
  split at h
  · rename_i kt i k s hty
    split at h
    · rename_i h0
      obtain ⟨m, hm, h⟩ := getM_run h
      obtain ⟨kn, rfl⟩ := Int.eq_ofNat_of_zero_le h0
      split at h
      · rename_i l
        obtain ⟨rfl, rfl, rfl⟩ := ret_run h
        obtain ⟨kt, ei⟩ := kt
        obtain ⟨e, hu1, hu2, hu3⟩ := mapTy_run hE hty
        obtain ⟨p, b, hp, hb, hM⟩ := mobj_block hR hm
        cases hM
        cases hy; cases hz
        cases hu with
        | map hp' =>
          rw [hp] at hp'; cases hp'
          have hf := findKey_int (P := P) hu2 kn l w
          have hM' : MapR ι (.map (mset kn s l)) (.map (entA (mset kn s l) 0).toArray (mset kn s l).length) := rfl
          refine ⟨.skip, { w with heap := w.heap.setIfInBounds p.b (.map (entA (mset kn s l) 0).toArray (mset kn s l).length) }, undef, ι, ?_, .inr ⟨rfl, rfl⟩, Inj.le_refl _, fun i h => absurd rfl h, ?_, undef_VR ι⟩
          · have hr : (Instr.mapUpdate t (.map (some p.b)) (.int .i64 (kn : Int)) (.string s)).run P w = .ok () { w with heap := w.heap.setIfInBounds p.b (.map (entA (mset kn s l) 0).toArray (mset kn s l).length) } := by
              cases hq : mfind kn l with
              | none =>
                rw [hq] at hf
                simp only [Instr.mapUpdate, Sem.run_bind, run_underlying hu1, Result.andThen_ok, MapKept.run_getObj_map hb, checkKey_int hE hu2, hf, MapKept.run_setObj_map _ hb]
                rw [mset_none hq, entA_append]
                simp
              | some s0 =>
                rw [hq] at hf
                obtain ⟨hlt, hget⟩ := mfind_idx hq
                have hg2 : l[(l.findIdx fun e => kn == e.1)]? = some (kn, s0) := by rw [List.getElem?_eq_getElem hlt, hget]
                have hkey : (((entA l 0).toArray[(l.findIdx fun e => kn == e.1)]?).map (·.key)).getD (.int .i64 (kn : Int)) = .int .i64 (kn : Int) := by
                  rw [List.getElem?_toArray, entA_get, hg2]; rfl
                have hsb : Instr.sameBits 10000 (.int .i64 (kn : Int)) (.int .i64 (kn : Int)) = true := by simp [Instr.sameBits]
                simp only [Instr.mapUpdate, Sem.run_bind, run_underlying hu1, Result.andThen_ok, MapKept.run_getObj_map hb, checkKey_int hE hu2, hf, hkey, Instr.keyThatStays, hsb, if_true, Sem.run_pure, MapKept.run_setObj_map _ hb]
                rw [mset_some hq, ← entA_set l 0 _ kn s s0 hg2]
                simp
            simp only [Sem.run_bind, Int.toNat_natCast, hr, Result.andThen_ok, Sem.run_pure]
          · simp only [Int.toNat_natCast]
            exact hR.putM hm hp hM' _ (fun k hk => heap_set_other hk) (heap_set_self hb) (by simp) rfl rfl rfl
      · exact (fail_run h).elim
    · exact (fail_run h).elim
  · exact (fail_run h).elim
/-- A step over a map that stands as it stood when the loop began. -/
theorem next_at (w : World) (ty : TypeId) (r bm : Nat) (seen : List Nat) (l : List (Nat × ByteArray)) (hr : w.heap[r]? = some (.mapIter (some bm) l.length seen.toArray l.length)) (hb : w.heap[bm]? = some (.map (entA l 0).toArray l.length)) :
    (mleft seen l 0 = [] ∧ (Instr.next (.pointer (some ⟨r, 0, none⟩)) false ty).run P w = .ok (.tuple #[.bool false]) w) ∨
    ∃ e ∈ mleft seen l 0, ∃ dr, (Instr.next (.pointer (some ⟨r, 0, none⟩)) false ty).run P w = .ok (.tuple #[.bool true, .int .i64 e.2.1, .string e.2.2]) { w with heap := w.heap.setIfInBounds r (.mapIter (some bm) l.length (seen ++ [e.1]).toArray l.length), drawn := dr } := by
  have hold : ∀ x ∈ (entA l 0).toArray.toList, x.born < l.length := fun x hx => by have := entA_born (l := l) (c := 0) (e := x) hx; omega
  have htest := next_test_false seen.toArray (entA l 0).toArray l.length l.length hold (Nat.le_refl _)
  have hfl : Array.filter (fun e => !seen.toArray.contains e.born) (entA l 0).toArray = ((mleft seen l 0).map fun e => ({ key := .int .i64 e.2.1, val := .string e.2.2, born := e.1 } : MapEntry)).toArray := by
    rw [List.filter_toArray, left_entA]
  have hmem : ∀ x ∈ ((mleft seen l 0).map fun e => ({ key := .int .i64 e.2.1, val := .string e.2.2, born := e.1 } : MapEntry)), x.born < l.length := fun x hx => by
    rw [← left_entA] at hx
    exact hold x (List.mem_filter.1 hx).1
  have hg1 : (getObj r).run P w = .ok (.mapIter (some bm) l.length seen.toArray l.length) w := by simp [getObj, Sem.run, hr]
  have hg2 : (getObj bm).run P w = .ok (.map (entA l 0).toArray l.length) w := MapKept.run_getObj_map hb
  simp only [Instr.next, Sem.run_bind, hg1, hg2, Result.andThen_ok, htest, Bool.false_eq_true, if_false, hfl]
  generalize hL : mleft seen l 0 = L at hmem ⊢
  have e1 : Array.filter (fun x => decide (x.born < l.length)) (L.map fun e => ({ key := .int .i64 e.2.1, val := .string e.2.2, born := e.1 } : MapEntry)).toArray = (L.map fun e => ({ key := .int .i64 e.2.1, val := .string e.2.2, born := e.1 } : MapEntry)).toArray := Array.filter_eq_self.2 (fun x hx => by simpa using hmem x (by simpa using hx))
  have e2 : Array.filter (fun x => decide (x.born ≥ l.length)) (L.map fun e => ({ key := .int .i64 e.2.1, val := .string e.2.2, born := e.1 } : MapEntry)).toArray = #[] := by
    rw [Array.filter_eq_empty_iff]
    intro x hx
    have := hmem x (by simpa using hx)
    simp
    omega
  simp only [e1, e2, Array.append_empty]
  cases L with
  | nil =>
    left
    refine ⟨rfl, ?_⟩
    simp [Question.forced]
  | cons e0 L =>
    right
    have hch : ∃ x dr, (choose (.mapNext (e0 :: L).length)).run P w = .ok x { w with drawn := dr } ∧ x < (e0 :: L).length := by
      rw [run_choose]
      split
      · exact ⟨0, w.drawn, rfl, by simp⟩
      · exact ⟨_, _, rfl, Nat.mod_lt _ (by simp)⟩
    obtain ⟨x, dr, hx, hlt⟩ := hch
    refine ⟨(e0 :: L)[x], List.getElem_mem hlt, dr, ?_⟩
    have hsz : ((if (List.map (fun e => ({ key := .int .i64 e.2.1, val := .string e.2.2, born := e.1 } : MapEntry)) (e0 :: L)).toArray.isEmpty = true then #[none] else #[]) ++ Array.map some (List.map (fun e => ({ key := .int .i64 e.2.1, val := .string e.2.2, born := e.1 } : MapEntry)) (e0 :: L)).toArray) = ((e0 :: L).map fun e => some ({ key := .int .i64 e.2.1, val := .string e.2.2, born := e.1 } : MapEntry)).toArray := by simp
    rw [hsz]
    have hln : (((e0 :: L).map fun e => some ({ key := .int .i64 e.2.1, val := .string e.2.2, born := e.1 } : MapEntry)).toArray).size = (e0 :: L).length := by simp
    rw [hln]
    have hgx : (((e0 :: L).map fun e => some ({ key := .int .i64 e.2.1, val := .string e.2.2, born := e.1 } : MapEntry)).toArray)[x]? = some (some { key := .int .i64 ((e0 :: L)[x]).2.1, val := .string ((e0 :: L)[x]).2.2, born := ((e0 :: L)[x]).1 }) := by
      rw [List.getElem?_toArray, List.getElem?_map, List.getElem?_eq_getElem hlt]; rfl
    simp only [Sem.run_bind, hx, Result.andThen_ok, hgx]
    have hs : (setObj r (.mapIter (some bm) l.length (seen.toArray.push ((e0 :: L)[x]).1) l.length)).run P { w with drawn := dr } = .ok () { w with heap := w.heap.setIfInBounds r (.mapIter (some bm) l.length (seen ++ [((e0 :: L)[x]).1]).toArray l.length), drawn := dr } := by
      simp [setObj, Sem.run, hr]
    simp only [Sem.run_bind, hs, Result.andThen_ok, Sem.run_pure]
theorem next_rel {D : Den} (hR : Rel D N w0 ι σ w) {r j : Nat} {seen : List Nat} {len dr : Nat} {p q : Place} (hr : σ r = some (mobj (.it j seen len))) (hp : ι r = some p) (hq : ι j = some q) (c : Nat) {b : Obj} (hb : w.heap[p.b]? = some b) :
    Rel D N w0 ι (app [(r, some (mobj (.it j (seen ++ [c]) len)))] σ) { w with heap := w.heap.setIfInBounds p.b (.mapIter (some q.b) len (seen ++ [c]).toArray len), drawn := dr } :=
  hR.putM hr hp (m' := .it j (seen ++ [c]) len) ⟨q, hq, rfl⟩ _ (fun k hk => heap_set_other hk) (heap_set_self hb) (by simp) rfl rfl rfl
theorem next_run {D : Den} (hR : Rel D N w0 ι σ w) {r j : Nat} {seen : List Nat} {l : List (Nat × ByteArray)} (hr : σ r = some (mobj (.it j seen l.length))) (hj : σ j = some (mobj (.map l))) (ty : TypeId) {x' : Value} (hx : VR ι (.pointer (some ⟨r, 0, none⟩)) x') :
    (mleft seen l 0 = [] ∧ (Instr.next x' false ty).run P w = .ok (.tuple #[.bool false]) w) ∨
    ∃ e ∈ mleft seen l 0, ∃ w', (Instr.next x' false ty).run P w = .ok (.tuple #[.bool true, .int .i64 e.2.1, .string e.2.2]) w' ∧ Rel D N w0 ι (app [(r, some (mobj (.it j (seen ++ [e.1]) l.length)))] σ) w' := by
  cases hx with
  | @iter _ p hp =>
    obtain ⟨p', b, hp', hb, q, hq, rfl⟩ := mobj_block hR hr
    rw [hp] at hp'; cases hp'
    obtain ⟨q', b2, hq', hb2, hM⟩ := mobj_block hR hj
    rw [hq] at hq'; cases hq'
    cases hM
    rcases next_at (P := P) w ty p.b q.b seen l hb hb2 with h | ⟨e, he, dr, h⟩
    · exact .inl h
    · exact .inr ⟨e, he, _, h, next_rel hR hr hp hq e.1 hb⟩
theorem op_next {D : Den} (hR : Rel D N w0 ι σ w) (hτ : TR ι τ a) {x : Operand} {ty : TypeId} (h : (ev τ x fun xv => anext xv).run n σ = some (v, n', d)) :
    Good D N w0 ι σ n n' v d ((do pure (Next.value (← Instr.next (a.eval x) false ty)) : Sem Next).run P w) := by
  obtain ⟨u, hu, h1⟩ := ev_run hτ h
  clear h
  have h := h1
  clear h1
  generalize a.eval x = x' at hu
  unfold anext at h
  split at h
  · rename_i r
    obtain ⟨m, hm, h⟩ := getM_run h
    split at h
    · rename_i j seen len
      obtain ⟨m2, hm2, h⟩ := getM_run h
      split at h
      · rename_i l
        split at h
        · rename_i hl
          subst hl
          have hnx := next_run (P := P) hR hm hm2 ty hu
          split at h
          · rename_i h0
            obtain ⟨rfl, rfl, rfl⟩ := ret_run h
            rcases hnx with ⟨_, hs⟩ | ⟨e, he, _⟩
            · refine ⟨.value (.tuple #[.bool false]), w, _, ι, ?_, .inl rfl, Inj.le_refl _, fun i h => absurd rfl h, hR, .tuple (.cons (.bool _) .nil)⟩
              simp only [Sem.run_bind, hs, Result.andThen_ok, Sem.run_pure]
            · rw [h0] at he; cases he
          · rename_i c k s h0
            obtain ⟨rfl, rfl, rfl⟩ := ret_run h
            rcases hnx with ⟨h1, _⟩ | ⟨e, he, w', hs, hR'⟩
            · rw [h0] at h1; cases h1
            · rw [h0] at he
              rcases List.mem_singleton.1 he with rfl
              refine ⟨.value (.tuple #[.bool true, .int .i64 k, .string s]), w', _, ι, ?_, .inl rfl, Inj.le_refl _, fun i h => absurd rfl h, hR', .tuple (.cons (.bool _) (.cons (.int _ _) (.cons (.str _) .nil)))⟩
              simp only [Sem.run_bind, hs, Result.andThen_ok, Sem.run_pure]
          · exact (fail_run h).elim
        · exact (fail_run h).elim
      · exact (fail_run h).elim
    · exact (fail_run h).elim
  · exact (fail_run h).elim
theorem op_entry {D : Den} (hR : Rel D N w0 ι σ w) (hτ : TR ι τ a) {x : Operand} (h : (ev τ x fun xv => aentry xv).run n σ = some (v, n', d)) :
    Good D N w0 ι σ n n' v d ((do pure (Next.value (← Instr.entry (a.eval x))) : Sem Next).run P w) := by
  obtain ⟨u, hu, h1⟩ := ev_run hτ h
  clear h
  have h := h1
  clear h1
  generalize a.eval x = x' at hu
  unfold aentry at h
  split at h
  · rename_i r
    obtain ⟨m, hm, h2⟩ := getM_run h
    clear h
    split at h2
    · rename_i j seen len
      obtain ⟨m2, hm2, h3⟩ := getM_run h2
      clear h2
      split at h3
      · rename_i l
        split at h3
        · rename_i hl
          subst hl
          cases hb0 : seen.getLast? with
          | none => rw [hb0] at h3; exact (fail_run h3).elim
          | some b =>
            rw [hb0] at h3
            cases hks : l[b]? with
            | none => simp only [hks] at h3; exact (fail_run h3).elim
            | some e =>
              obtain ⟨k, s⟩ := e
              simp only [hks] at h3
              obtain ⟨rfl, rfl, rfl⟩ := ret_run h3
              cases hu with
              | @iter _ p hp =>
                obtain ⟨p', b1, hp', hb1, q, hq, rfl⟩ := mobj_block hR hm
                rw [hp] at hp'; cases hp'
                obtain ⟨q', b2, hq', hb2, hM⟩ := mobj_block hR hm2
                rw [hq] at hq'; cases hq'
                cases hM
                have hg1 : (getObj p.b).run P w = .ok (.mapIter (some q.b) l.length seen.toArray l.length) w := by simp [getObj, Sem.run, hb1]
                have hg2 : (getObj q.b).run P w = .ok (.map (entA l 0).toArray l.length) w := MapKept.run_getObj_map hb2
                have hbk : seen.toArray.back? = some b := by rw [List.back?_toArray]; exact hb0
                have hfd : Array.find? (fun e => e.born == b) (entA l 0).toArray = some { key := .int .i64 k, val := .string s, born := b } := by
                  have := entA_find l 0 b
                  rw [hks, Nat.zero_add] at this
                  rw [List.find?_toArray]; exact this
                refine ⟨.value (.tuple #[.int .i64 k, .string s]), w, _, ι, ?_, .inl rfl, Inj.le_refl _, fun i h => absurd rfl h, hR, .tuple (.cons (.int _ _) (.cons (.str _) .nil))⟩
                simp only [Instr.entry, Sem.run_bind, hg1, hg2, Result.andThen_ok, hbk, bne_self_eq_false, Bool.false_eq_true, if_false, hfd, Sem.run_pure]
        · exact (fail_run h3).elim
      · exact (fail_run h3).elim
    · exact (fail_run h2).elim
  · exact (fail_run h).elim
end
end Go.Proofs.YtdiofapingdlmaaV
/- The abstract machine: literals. -/
set_option linter.unusedVariables false
set_option linter.unusedSimpArgs false
namespace Go.Proofs.YtdiofapingdlmaaV
open Go.RowKit
theorem fold_ov (off : Nat) : ∀ (l : List Value) (k : Nat) (cells : Array Value), off + k + l.length ≤ cells.size →
    ((l.zipIdx k).foldl (fun (cs : Array Value) (x : Value × Nat) => cs.setIfInBounds (off + x.2) x.1) cells).toList = ov cells.toList (off + k) l
  | [], k, cells, _ => by simp [ov]
  | v :: l, k, cells, h => by
    have ih := fold_ov off l (k + 1) (cells.setIfInBounds (off + k) v) (by simp at h ⊢; omega)
    simp only [List.zipIdx_cons, List.foldl_cons]
    rw [ih]
    have e := list_seg_step cells.toList (off + k) v l (by simp at h ⊢; omega)
    simpa [ov, Array.toList_setIfInBounds, Nat.add_assoc] using e
theorem fold_arr (off : Nat) (v : Array Value) (cells : Array Value) (h : off + v.size ≤ cells.size) :
    v.zipIdx.foldl (fun (cs : Array Value) (x : Value × Nat) => cs.setIfInBounds (off + x.2) x.1) cells = ⟨ov cells.toList off v.toList⟩ := by
  apply Array.ext'
  rw [← Array.foldl_toList]
  simp only [Array.toList_zipIdx]
  exact fold_ov off v.toList 0 cells (by simpa using h)
theorem VRs.ov {ι : Inj} {e e' c c' : List Value} {j : Nat} (he : VRs ι e e') (hc : VRs ι c c') : VRs ι (Go.Proofs.YtdiofapingdlmaaV.ov e j c) (Go.Proofs.YtdiofapingdlmaaV.ov e' j c') := by
  unfold Go.Proofs.YtdiofapingdlmaaV.ov
  rw [hc.length]
  exact ((he.take j).append hc).append (he.drop _)
theorem VR.csize {ι : Inj} {v v' : Value} (h : VR ι v v') : v'.cells.size = v.cells.size := by
  have := h.cells.length
  simpa using this.symm
theorem fill_run {ι : Inj} {place place' : Nat → Option (Nat × Nat)} (hp : ∀ i q, place i = some q → place' i = some q) : ∀ {ps ps' : List (Nat × Value)}, PR ι ps ps' → ∀ {cs cs' r : List Value}, VRs ι cs cs' → afill place cs ps = some r → ∃ r', Instr.fill place' ⟨cs'⟩ ps' = some ⟨r'⟩ ∧ VRs ι r r' := by
  intro ps ps' h
  induction h with
  | nil => intro cs cs' r hcs hf; simp [afill] at hf; subst hf; exact ⟨cs', rfl, hcs⟩
  | @cons i v v' l l' hv hs ih =>
    intro cs cs' r hcs hf
    unfold afill at hf
    split at hf
    · cases hf
    · rename_i off size hpl
      split at hf
      · cases hf
      · rename_i hc
        simp only [Bool.or_eq_true, decide_eq_true_eq, not_or, Decidable.not_not, Nat.not_lt] at hc
        obtain ⟨h1, h2⟩ := hc
        have h1' : v.cells.size = size := by simpa using h1
        have hcl := hcs.length
        unfold Instr.fill
        rw [hp i _ hpl]
        simp only
        rw [if_neg (by rw [hv.csize]; simp [h1']; omega)]
        rw [fold_arr off v'.cells ⟨cs'⟩ (by rw [hv.csize, h1']; show _ ≤ cs'.length; omega)]
        exact ih (hcs.ov hv.cells) hf
/-- Elements put in place, one after the other. -/
theorem parts_run {ι : Inj} {size : Nat} : ∀ {ps ps' : List (Nat × Value)}, PR ι ps ps' → ∀ {es r : List (List Value)} {cs' : List Value}, Holds ι size es cs' 0 → (∀ (k : Nat) (e : List Value), es[k]? = some e → e.length = size) → es.length * size ≤ cs'.length → aparts size es ps = some r →
    ∃ r', Instr.fill (fun i => some (i * size, size)) ⟨cs'⟩ ps' = some ⟨r'⟩ ∧ Holds ι size r r' 0 ∧ (∀ (k : Nat) (e : List Value), r[k]? = some e → e.length = size) ∧ r.length = es.length ∧ r'.length = cs'.length := by
  intro ps ps' h
  induction h with
  | nil => intro es r cs' hh hl hroom hf; simp [aparts] at hf; subst hf; exact ⟨cs', rfl, hh, hl, rfl, rfl⟩
  | @cons i v v' l l' hv hs ih =>
    intro es r cs' hh hl hroom hf
    unfold aparts at hf
    split at hf
    · cases hf
    · rename_i hc
      simp only [Bool.or_eq_true, decide_eq_true_eq, not_or, Decidable.not_not, Nat.not_lt, Bool.not_eq_true, Bool.not_eq_false', Bool.not_eq_true'] at hc
      obtain ⟨⟨h1, h2⟩, h3⟩ := hc
      have h1' : v.cells.size = size := by simpa using h1
      have h2' : i < es.length := by omega
      have hcl : (cellsL v).length = size := by unfold cellsL; simpa using h1'
      have hi1 : (i + 1) * size ≤ es.length * size := Nat.mul_le_mul_right _ (by omega)
      rw [Nat.add_mul] at hi1
      unfold Instr.fill
      simp only
      rw [if_neg (by rw [hv.csize]; simp [h1']; omega)]
      rw [fold_arr (i * size) v'.cells ⟨cs'⟩ (by rw [hv.csize, h1']; show _ ≤ cs'.length; omega)]
      have he := List.getElem?_eq_getElem h2'
      have hset : ov es[i] 0 (cellsL v) = cellsL v := by
        unfold ov
        have := hl i _ he
        simp [hcl, this]
      have hh2 := hh.set (c := cellsL v) (c' := v'.cells.toList) (j := 0) he hl (by omega) hv.cells (by simpa using h3) (by omega)
      rw [hset] at hh2
      simp only [Nat.zero_add, Nat.add_zero] at hh2
      have hlen' : (ov cs' (i * size) v'.cells.toList).length = cs'.length := ov_length (by have := hv.cells.length; simp [hv.csize, h1']; omega)
      obtain ⟨r', g1, g2, g3, g4, g5⟩ := ih hh2 (fun k e hk => by
        by_cases hki : k = i
        · subst hki; rw [List.getElem?_set_self h2'] at hk; cases hk; exact hcl
        · rw [List.getElem?_set_ne (fun e => hki e.symm)] at hk; exact hl k e hk) (by simp; omega) hf
      exact ⟨r', g1, g2, g3, by simpa using g4, g5.trans hlen'⟩
section
variable {P : Program} {E : Env} {τ : Nat → Value} {a : Act} {ι : Inj} {σ : Store} {N n n' : Nat} {w0 w : World} {v : Value} {d : Delta}
theorem places_run (hE : EnvOk P E) (fields : Array Field) (h : fields.all (fun f => (E.ty f.type).isSome) = true) : ∃ pl : Array (Nat × Nat), (fields.mapM fun f => (do pure (f.offset, ← sizeOf f.type) : Sem (Nat × Nat))).run P w = .ok pl w ∧
    ∀ (k : Nat) (q : Nat × Nat), ((fields[k]?).bind fun (f : Field) => (E.ty f.type).map fun (fi : TI) => (f.offset, fi.size)) = some q → pl[k]? = some q := by
  have key : ∀ (l : List Field), (∀ f ∈ l, (E.ty f.type).isSome = true) → ∃ pl : List (Nat × Nat), (l.mapM fun f => (do pure (f.offset, ← sizeOf f.type) : Sem (Nat × Nat))).run P w = .ok pl w ∧
      ∀ (k : Nat) (q : Nat × Nat), ((l[k]?).bind fun (f : Field) => (E.ty f.type).map fun (fi : TI) => (f.offset, fi.size)) = some q → pl[k]? = some q := by
    intro l
    induction l with
    | nil => intro _; exact ⟨[], rfl, fun k q hq => by simp at hq⟩
    | cons f l ih =>
      intro hl
      obtain ⟨pl, h1, h2⟩ := ih fun g hg => hl g (List.mem_cons_of_mem _ hg)
      obtain ⟨fi, hfi⟩ := Option.isSome_iff_exists.1 (hl f (by simp))
      refine ⟨(f.offset, fi.size) :: pl, ?_, fun k q hq => ?_⟩
      · simp only [List.mapM_cons, Sem.run_bind, size_run hE w hfi, Result.andThen_ok, Sem.run_pure, h1]
      · cases k with
        | zero => simp [hfi] at hq; simpa using hq
        | succ k => simp at hq ⊢; exact h2 k q (by simpa using hq)
  obtain ⟨pl, h1, h2⟩ := key fields.toList (fun f hf => by
    rw [Array.all_eq_true_iff_forall_mem] at h
    exact h f (by simpa using hf))
  refine ⟨⟨pl⟩, ?_, fun k q hq => by simpa using h2 k q (by simpa using hq)⟩
  rw [Array.mapM_eq_mapM_toList]
  simp only [Sem.run_map, h1, Result.andThen_ok]
theorem PR_map {a : Act} (l : List (Nat × Operand)) (ps : Array (Nat × Operand)) (h : ps.toList = l) : (ps.map fun (x : Nat × Operand) => (x.1, a.eval x.2)).toList = l.map fun (i, x) => (i, a.eval x) := by
  subst h; simp
theorem op_build (hE : EnvOk P E) (hR : Rel E.den N w0 ι σ w) (hτ : TR ι τ a) {t : Nat} {parts : Array (Nat × Operand)} (h : (match evP τ parts.toList, E.ty t with
    | some ps, some i => match i.d with
      | .struct fields => match afill (fun k => (fields[k]?).bind fun (f : Field) => (E.ty f.type).map fun (fi : TI) => (f.offset, fi.size)) (cellsL i.zero) ps with
        | some cs => if fields.all (fun f => (E.ty f.type).isSome) then T.ret (.agg ⟨cs⟩) [] else .fail
        | none => .fail
      | .array _ elem => match E.ty elem with
        | some ei => match afill (fun k => some (k * ei.size, ei.size)) (cellsL i.zero) ps with
          | some cs => .ret (.agg ⟨cs⟩) []
          | none => .fail
        | none => .fail
      | _ => .fail
    | _, _ => .fail).run n σ = some (v, n', d)) :
    Good E.den N w0 ι σ n n' v d ((do pure (Next.value (← Instr.build t (parts.map fun (i, x) => (i, a.eval x)))) : Sem Next).run P w) := by
  split at h
  · rename_i ps i hps hi
    have hP := evP_sound hτ hps
    have hz := ((hE.zero _ _ hi).1 ι).cells
    have hml : (parts.map fun (x : Nat × Operand) => (x.1, a.eval x.2)).toList = parts.toList.map fun (i, x) => (i, a.eval x) := PR_map _ _ rfl
    split at h
    · rename_i fields hd
      split at h
      · rename_i cs hcs
        split at h
        · rename_i hall
          obtain ⟨rfl, rfl, rfl⟩ := ret_run h
          obtain ⟨pl, h1, h2⟩ := places_run (w := w) hE fields hall
          obtain ⟨r', g1, g2⟩ := fill_run (place' := fun k => pl[k]?) (fun k q hq => h2 k q hq) hP hz hcs
          refine good_of hR (.agg g2) ?_
          unfold Instr.build
          simp only [Sem.run_bind, zero_run hE w hi, und_run hE w hi, hd, Result.andThen_ok, h1, Sem.run_pure]
          have g1' : Instr.fill (fun x => pl[x]?) i.zero.cells (parts.map fun (x : Nat × Operand) => (x.1, a.eval x.2)).toList = some ⟨r'⟩ := by rw [hml]; exact g1
          rw [g1']
          rfl
        · exact (fail_run h).elim
      · exact (fail_run h).elim
    · rename_i len elem hd
      split at h
      · rename_i ei hei
        split at h
        · rename_i cs hcs
          obtain ⟨rfl, rfl, rfl⟩ := ret_run h
          obtain ⟨r', g1, g2⟩ := fill_run (place' := fun k => some (k * ei.size, ei.size)) (fun k q hq => hq) hP hz hcs
          refine good_of hR (.agg g2) ?_
          unfold Instr.build
          simp only [Sem.run_bind, zero_run hE w hi, und_run hE w hi, hd, Result.andThen_ok, size_run hE w hei, Sem.run_pure]
          have g1' : Instr.fill (fun k => some (k * ei.size, ei.size)) i.zero.cells (parts.map fun (x : Nat × Operand) => (x.1, a.eval x.2)).toList = some ⟨r'⟩ := by rw [hml]; exact g1
          rw [g1']
          rfl
        · exact (fail_run h).elim
      · exact (fail_run h).elim
    · exact (fail_run h).elim
  · exact (fail_run h).elim
theorem op_buildSlice (hE : EnvOk P E) (hR : Rel E.den N w0 ι σ w) (hτ : TR ι τ a) (hn : ∀ i, n ≤ i → i < n' → ι i = none) {t len : Nat} {parts : Array (Nat × Operand)} (h : (match evP τ parts.toList, E.ty t with
    | some ps, some i => match i.d with
      | .slice elem => match E.ty elem with
        | some ei => if decide (len * ei.size ≤ 65536) && decide (0 < ei.size) && (cellsL ei.zero).length = ei.size then
            match aparts ei.size (List.replicate len (cellsL ei.zero)) ps with
            | some es => newRowT es ei.size elem []
            | none => .fail
          else .fail
        | none => .fail
      | _ => .fail
    | _, _ => .fail).run n σ = some (v, n', d)) :
    Good E.den N w0 ι σ n n' v d ((do pure (Next.value (← Instr.buildSlice t len (parts.map fun (i, x) => (i, a.eval x)))) : Sem Next).run P w) := by
  split at h
  · rename_i ps i hps hi
    have hP := evP_sound hτ hps
    have hml : (parts.map fun (x : Nat × Operand) => (x.1, a.eval x.2)).toList = parts.toList.map fun (i, x) => (i, a.eval x) := PR_map _ _ rfl
    split at h
    · rename_i elem hd
      split at h
      · rename_i ei hei
        split at h
        · rename_i hc
          simp only [Bool.and_eq_true, decide_eq_true_eq] at hc
          obtain ⟨⟨hsm, hpos⟩, hzl⟩ := hc
          split at h
          · rename_i es hes
            obtain ⟨rfl, rfl, rfl⟩ := ret_run (fresh_run h)
            obtain ⟨r', g1, g2, g3, g4, g5⟩ := parts_run hP (es := List.replicate len (cellsL ei.zero)) (cs' := ((Array.range (len * ei.size)).map (ei.zero.cells[· % ei.zero.cells.size]!)).toList) (holds_zeros hE hei hpos len (len * ei.size) (Nat.le_refl _)) (fun k e he => by rw [List.getElem?_replicate] at he; split at he <;> cases he; exact hzl) (by simp) hes
            have g4' : es.length = len := by simpa using g4
            have g5' : r'.length = len * ei.size := by simpa using g5
            have hmk : (Instr.buildSlice t len (parts.map fun (x : Nat × Operand) => (x.1, a.eval x.2))).run P w = .ok (.slice (some ⟨w.heap.size, 0, none⟩) len len) { w with heap := w.heap.push (.cells ⟨r'⟩ elem (0, 0)) } := by
              unfold Instr.buildSlice
              have hbig : ¬ len * ei.size > 2 ^ 24 := by omega
              simp only [Sem.run_bind, und_run hE w hi, hd, Result.andThen_ok, size_run hE w hei, hbig, if_false]
              have g1' : Instr.fill (fun i => some (i * ei.size, ei.size)) ((Array.range (len * ei.size)).map (ei.zero.cells[· % ei.zero.cells.size]!)) (parts.map fun (x : Nat × Operand) => (x.1, a.eval x.2)).toList = some ⟨r'⟩ := by rw [hml]; exact g1
              split
              · rename_i h0
                have hr : Array.range (len * ei.size) = #[] := by rw [h0]; rfl
                simp only [hr, List.map_toArray, List.map_nil] at g1'
                simp only [Sem.run_bind, Sem.run_pure, Result.andThen_ok, hr, List.map_toArray, List.map_nil, g1', newRow, run_newObj]
              · simp only [Sem.run_bind, Sem.run_pure, Result.andThen_ok, zero_run hE w hei, g1', newRow, run_newObj]
            simp only [Sem.run_bind, hmk, Result.andThen_ok, Sem.run_pure]
            exact good_new (p := ⟨w.heap.size, 0, ei.size, len, none⟩) (o := ⟨es, ei.size, elem, true⟩) (fz := (0, 0)) hR (hn _ (Nat.le_refl _) (by omega)) rfl rfl hpos (by show es.length ≤ len; omega) g3 g2 (by show 0 + len * ei.size ≤ r'.length; omega) (FzOk.zero _ _) w.drawn (by
              have h_ := VR_row ι n ⟨w.heap.size, 0, ei.size, len, none⟩ (len := len) (Nat.le_refl _) rfl
              rw [g4']; exact h_)
          · exact (fail_run h).elim
        · exact (fail_run h).elim
      · exact (fail_run h).elim
    · exact (fail_run h).elim
  · exact (fail_run h).elim
end
end Go.Proofs.YtdiofapingdlmaaV
/- The abstract machine: indexes, slices, conversions. -/
set_option linter.unusedVariables false
set_option linter.unusedSimpArgs false
namespace Go.Proofs.YtdiofapingdlmaaV
open Go.RowKit
section
variable {P : Program} {E : Env} {τ : Nat → Value} {a : Act} {ι : Inj} {σ : Store} {N n n' : Nat} {w0 w : World} {v : Value} {d : Delta}
theorem op_index (hE : EnvOk P E) (hR : Rel E.den N w0 ι σ w) (hτ : TR ι τ a) {t : Nat} {x y : Operand} (h : (ev τ x fun xv => ev τ y fun
    | .int _ n => match E.ty t with
      | some i => match i.d, xv with
        | .array len elem, .agg cs => match E.ty elem with
          | some ei => if decide (0 ≤ n) && decide (n < len) then orFail (part E elem cs.toList (n.toNat * ei.size)) else .fail
          | none => .fail
        | .string, .string s => if h : 0 ≤ n ∧ n.toNat < s.size then .ret (.int .u8 ((s[n.toNat]'h.2).toNat : Nat)) [] else .fail
        | _, _ => .fail
      | none => .fail
    | _ => .fail).run n σ = some (v, n', d)) : Good E.den N w0 ι σ n n' v d ((do pure (Next.value (← Instr.index t (a.eval x) (a.eval y))) : Sem Next).run P w) := by
  obtain ⟨u, hu, h1⟩ := ev_run hτ h
  clear h
  obtain ⟨z, hz, h⟩ := ev_run hτ h1
  clear h1
  generalize a.eval x = x' at hu
  generalize a.eval y = y' at hz
  split at h
  · rename_i k m
    cases hz
    split at h
    · rename_i i hi
      split at h
      · rename_i len elem cs hd
        split at h
        · rename_i ei hei
          split at h
          · rename_i hc
            simp only [Bool.and_eq_true, decide_eq_true_eq] at hc
            unfold orFail at h
            split at h
            · rename_i q hq
              obtain ⟨rfl, rfl, rfl⟩ := ret_run h
              cases hu with
              | agg hs =>
                obtain ⟨v', h1, h2⟩ := part_run hE w hs hq
                refine good_of hR h2 ?_
                unfold Instr.index
                simp only [Sem.run_bind, asIntOf, Sem.run_pure, und_run hE w hi, Result.andThen_ok, hd, hc, and_self, if_true, size_run hE w hei, h1]
            · exact (fail_run h).elim
          · exact (fail_run h).elim
        · exact (fail_run h).elim
      · rename_i s hd
        split at h
        · rename_i hc
          obtain ⟨rfl, rfl, rfl⟩ := ret_run h
          cases hu
          refine good_of hR (.int _ _) ?_
          unfold Instr.index
          have e : (if 0 ≤ m then s[m.toNat]? else none) = some (s[m.toNat]'hc.2) := by
            rw [if_pos hc.1]; exact getElem?_pos s m.toNat hc.2
          simp only [Sem.run_bind, asIntOf, Sem.run_pure, und_run hE w hi, Result.andThen_ok, hd, e]
        · exact (fail_run h).elim
      · exact (fail_run h).elim
    · exact (fail_run h).elim
  · exact (fail_run h).elim
theorem op_indexAddr (hE : EnvOk P E) (hR : Rel E.den N w0 ι σ w) (hτ : TR ι τ a) {t : Nat} {x y : Operand} (h : (ev τ x fun xv => ev τ y fun
    | .int _ n => match E.ty t with
      | some i => match i.d, xv with
        | .array len elem, .pointer (some ⟨b, k, some j⟩) => match E.ty elem with
          | some ei => if decide (0 ≤ n) && decide (n < len) then .ret (.pointer (some ⟨b, k, some (j + n.toNat * ei.size)⟩)) [] else .fail
          | none => .fail
        | .slice elem, .slice (some ⟨b, o, none⟩) len c => match E.ty elem with
          | some ei => if decide (0 ≤ n) && decide (n < len) then .get b fun ob => if ob.sz = ei.size then .ret (.pointer (some ⟨b, o + n.toNat, some 0⟩)) [] else .fail else .fail
          | none => .fail
        | _, _ => .fail
      | none => .fail
    | _ => .fail).run n σ = some (v, n', d)) : Good E.den N w0 ι σ n n' v d ((do pure (Next.value (← Instr.indexAt t (a.eval x) (a.eval y))) : Sem Next).run P w) := by
  obtain ⟨u, hu, h1⟩ := ev_run hτ h
  clear h
  obtain ⟨z, hz, h⟩ := ev_run hτ h1
  clear h1
  generalize a.eval x = x' at hu
  generalize a.eval y = y' at hz
  split at h
  · rename_i k m
    cases hz
    split at h
    · rename_i i hi
      split at h
      · rename_i len elem b k j hd
        split at h
        · rename_i ei hei
          split at h
          · rename_i hc
            simp only [Bool.and_eq_true, decide_eq_true_eq] at hc
            obtain ⟨rfl, rfl, rfl⟩ := ret_run h
            cases hu with
            | @ptr _ _ _ p hp =>
              refine good_of hR (v' := .pointer (some ⟨p.b, p.off + k * p.sz + j + m.toNat * ei.size, none⟩)) (VR_ptr hp rfl (by omega)) ?_
              unfold Instr.indexAt
              simp only [Sem.run_bind, asIntOf, Sem.run_pure, und_run hE w hi, Result.andThen_ok, hd, Instr.sureAddr, hc, and_self, if_true, size_run hE w hei, addr_add]
          · exact (fail_run h).elim
        · exact (fail_run h).elim
      · rename_i elem b o len c hd
        split at h
        · rename_i ei hei
          split at h
          · rename_i hc
            simp only [Bool.and_eq_true, decide_eq_true_eq] at hc
            obtain ⟨ob, ho, h⟩ := get_run h
            split at h
            · rename_i hsz
              obtain ⟨rfl, rfl, rfl⟩ := ret_run h
              obtain ⟨q, g1, g2, g3⟩ := hR.obj _ _ ho
              have hq : q.sz = ei.size := g3.sz.trans hsz
              have done : ∀ (c' : Nat), (Instr.indexAt t (.slice (some ⟨q.b, q.off + o * q.sz, none⟩) len c') (.int k m)).run P w = .ok (.pointer (some ⟨q.b, q.off + o * q.sz + m.toNat * ei.size, none⟩)) w := by
                intro c'
                unfold Instr.indexAt
                simp only [Sem.run_bind, asIntOf, Sem.run_pure, und_run hE w hi, Result.andThen_ok, hd, hc, and_self, if_true, size_run hE w hei, addr_add]
              cases hu with
              | slice hp hcc =>
                rw [hp] at g1; cases g1
                exact good_of hR (VR_ptr hp rfl (by rw [Nat.add_mul, hq]; omega)) (done _)
              | sliceC hp hcc =>
                rw [hp] at g1; cases g1
                exact good_of hR (VR_ptr hp rfl (by rw [Nat.add_mul, hq]; omega)) (done _)
              | sliceM hp hcc =>
                rw [hp] at g1; cases g1
                exact good_of hR (VR_ptr hp rfl (by rw [Nat.add_mul, hq]; omega)) (done _)
              | _ => omega
            · exact (fail_run h).elim
          · exact (fail_run h).elim
        · exact (fail_run h).elim
      · exact (fail_run h).elim
    · exact (fail_run h).elim
  · exact (fail_run h).elim
/-- What a slice shows, as memory has it. -/
inductive SR (ι : Inj) (o : AObj) (i off n c : Nat) : Value → Prop
  | at_ {p : Place} {c' : Nat} (hp : ι i = some p) (hc : off + n ≤ p.cap) (hcap : n ≤ c') (h0 : c = 0 → c' = p.cap - off) (h1 : c = 1 → c' = n) (h2 : c = 2 → c' = p.cap - off) : SR ι o i off n c (.slice (some ⟨p.b, p.off + off * p.sz, none⟩) n c')
  | zero {ad : Addr} (h0 : n = 0) (hz : c = 0 → ∃ p, ι i = some p ∧ p.cap ≤ off) (h1 : c < 4) : SR ι o i off n c (.slice (some ad) 0 0)
  | nil (h0 : n = 0) (h1 : c = 2 ∨ c = 3) : SR ι o i off n c (.slice none 0 0)
theorem slice_cases {i off n' c : Nat} {o : AObj} {v' : Value} (h : VR ι (.slice (some ⟨i, off, none⟩) n' c) v') : SR ι o i off n' c v' := by
  cases h with
  | slice hp hc => exact .at_ hp hc (by omega) (fun _ => rfl) (fun h => by cases h) (fun h => by cases h)
  | sliceC hp hc => exact .at_ hp hc (Nat.le_refl _) (fun h => by cases h) (fun _ => rfl) (fun h => by cases h)
  | sliceZ h hc => exact .zero rfl (fun _ => ⟨_, h, hc⟩) (by decide)
  | sliceZ1 => exact .zero rfl (fun h => by cases h) (by decide)
  | sliceM hp hc => exact .at_ hp hc (by omega) (fun h => by cases h) (fun h => by cases h) (fun _ => rfl)
  | sliceMZ h hc => exact .zero rfl (fun h => by cases h) (by decide)
  | sliceMN => exact .nil rfl (.inl rfl)
  | sliceE => exact .nil rfl (.inr rfl)
  | sliceE1 => exact .zero rfl (fun h => by cases h) (by decide)
/-- The flat cells of elements. -/
theorem flat_get {sz : Nat} : ∀ {es : List (List Value)}, (∀ e ∈ es, e.length = sz) → ∀ (k : Nat) (e : List Value) (j : Nat), es[k]? = some e → j < sz → es.flatten[k * sz + j]? = e[j]?
  | [], _, k, e, j, h, _ => by simp at h
  | e0 :: es, hl, 0, e, j, h, hj => by
    simp at h; subst h
    simp only [List.flatten_cons, Nat.zero_mul, Nat.zero_add]
    rw [List.getElem?_append_left (by rw [hl e0 (by simp)]; exact hj)]
  | e0 :: es, hl, k + 1, e, j, h, hj => by
    simp only [List.flatten_cons]
    have h0 := hl e0 (by simp)
    rw [List.getElem?_append_right (by rw [h0, Nat.add_mul]; omega), h0]
    have := flat_get (es := es) (fun e he => hl e (List.mem_cons_of_mem _ he)) k e j (by simpa using h) hj
    rw [← this]
    congr 1
    rw [Nat.add_mul]; omega
theorem flat_length {sz : Nat} : ∀ {es : List (List Value)}, (∀ e ∈ es, e.length = sz) → es.flatten.length = es.length * sz
  | [], _ => by simp
  | e :: es, h => by simp [flat_length (es := es) (fun x hx => h x (List.mem_cons_of_mem _ hx)), h e (by simp), Nat.add_mul, Nat.add_comm]
theorem flat_split {sz : Nat} (hs : 0 < sz) {es : List (List Value)} (h : ∀ e ∈ es, e.length = sz) {m : Nat} {v : Value} (hm : es.flatten[m]? = some v) : ∃ e, es[m / sz]? = some e ∧ e[m % sz]? = some v := by
  have hlt := (List.getElem?_eq_some_iff.1 hm).1
  rw [flat_length h] at hlt
  have hk : m / sz < es.length := by rw [Nat.div_lt_iff_lt_mul hs]; exact hlt
  refine ⟨es[m / sz], List.getElem?_eq_getElem hk, ?_⟩
  have := flat_get h (m / sz) _ (m % sz) (List.getElem?_eq_getElem hk) (Nat.mod_lt _ hs)
  rw [← this, Nat.mul_comm, Nat.div_add_mod, hm]
theorem elems_len {o : AObj} {p : Place} (hO : ObjR N ι o p w) {off m : Nat} : ∀ e ∈ (o.es.drop off).take m, e.length = o.sz := by
  intro e he
  have : e ∈ o.es := List.mem_of_mem_drop (List.mem_of_mem_take he)
  obtain ⟨k, hk⟩ := List.getElem?_of_mem this
  exact hO.len k e hk
/-- The cells of what a slice shows. -/
theorem row_of {o : AObj} {p : Place} (hO : ObjR N ι o p w) (off m : Nat) : ∃ c', VRs ι ((o.es.drop off).take m).flatten c' ∧ ∀ (q : Nat) (v' : Value), c'[q]? = some v' → w.cell? ((⟨p.b, p.off + off * p.sz, none⟩ : Addr).add q) = some v' := by
  refine cells_of (fun q v hv => ?_)
  obtain ⟨e, he, hj⟩ := flat_split hO.pos (elems_len hO) hv
  rw [List.getElem?_take] at he
  split at he
  · rw [List.getElem?_drop] at he
    obtain ⟨v', h1, h2, _⟩ := hO.cell _ e he _ v hj
    refine ⟨v', ?_, h2⟩
    rw [addr_add]
    rw [← h1]
    congr 2
    rw [Nat.add_mul, hO.sz]
    have := Nat.div_add_mod q o.sz
    rw [Nat.mul_comm] at this
    omega
  · cases he
/-- What 'seen' hands on is what the model's first cells are. -/
theorem seen_run {size : Nat} (hs : 0 < size) (hR : Rel E.den N w0 ι σ w) {x x' : Value} (hx : VR ι x x') {k : List (List Value) → T} {r : Value × Nat × Delta} (h : (seen size x k).run n σ = some r) :
    ∃ (xs : List (List Value)) (cs : List Value) (m : Nat), (k xs).run n σ = some r ∧ xs.length = m ∧ (Builtin.lenOf x').run P w = .ok m w ∧ (∀ e ∈ xs, e.length = size) ∧ VRs ι xs.flatten cs ∧ (∀ e ∈ xs, e.all oneB = true) ∧
      ∀ q, q ≤ m → ∀ w1 : World, (∀ b : Nat, w1.heap[b]? = w.heap[b]?) → (Builtin.firstCells size q x').run P w1 = .ok ⟨cs.take (q * size)⟩ w1 := by
  unfold seen at h
  split at h
  · cases hx
    exact ⟨[], [], 0, h, rfl, rfl, fun e he => by simp at he, .nil, fun e he => by simp at he, fun q hq w1 _ => by simp [Builtin.firstCells]⟩
  · rename_i i o m c
    split at h
    · rename_i h0
      subst h0
      refine ⟨[], [], 0, h, rfl, ?_, fun e he => by simp at he, .nil, fun e he => by simp at he, fun q hq w1 _ => ?_⟩
      · cases hx <;> rfl
      · have hq0 : q = 0 := by omega
        subst hq0
        cases hx <;> simp [Builtin.firstCells, loadCells, loadCellsFrom]
    · rename_i h0
      obtain ⟨ob, ho, h⟩ := get_run h
      split at h
      · rename_i hc
        obtain ⟨q0, g1, g2, g3⟩ := hR.obj _ _ ho
        obtain ⟨cs, h1, h2⟩ := row_of g3 o m
        have hel : ∀ e ∈ (ob.es.drop o).take m, e.length = size := fun e he => (elems_len g3 e he).trans hc.1
        have hcl : cs.length = m * size := by rw [← h1.length, flat_length hel, hc.2]
        have hone : ∀ e ∈ (ob.es.drop o).take m, e.all oneB = true := by
          intro e he
          have hm : e ∈ ob.es := List.mem_of_mem_drop (List.mem_of_mem_take he)
          obtain ⟨k', hk'⟩ := List.getElem?_of_mem hm
          rw [List.all_eq_true]
          intro y hy
          obtain ⟨j, hj⟩ := List.getElem?_of_mem hy
          obtain ⟨_, _, _, h3⟩ := g3.cell k' e hk' j y hj
          exact h3
        have fin : ∀ c', (Builtin.lenOf (.slice (some ⟨q0.b, q0.off + o * q0.sz, none⟩) m c')).run P w = .ok m w ∧ ∀ q, q ≤ m → ∀ w1 : World, (∀ b : Nat, w1.heap[b]? = w.heap[b]?) → (Builtin.firstCells size q (.slice (some ⟨q0.b, q0.off + o * q0.sz, none⟩) m c')).run P w1 = .ok ⟨cs.take (q * size)⟩ w1 := by
          intro c'
          refine ⟨rfl, fun q hq w1 hw1 => ?_⟩
          have hle : q * size ≤ cs.length := by rw [hcl]; exact Nat.mul_le_mul_right _ hq
          have := run_loadCells_list (P := P) w1 ⟨q0.b, q0.off + o * q0.sz, none⟩ (cs.take (q * size)) (fun j v hv => by
            rw [List.getElem?_take] at hv
            split at hv
            · have h3 := h2 j v hv
              rw [addr_add] at h3 ⊢
              rw [cell_block (hw1 q0.b)]
              exact h3
            · cases hv)
          rw [List.length_take, Nat.min_eq_left hle] at this
          exact this
        refine ⟨_, cs, m, h, hc.2, ?_, hel, h1, hone, ?_⟩
        · cases hx with
          | slice hp _ => rw [hp] at g1; cases g1; exact (fin _).1
          | sliceC hp _ => rw [hp] at g1; cases g1; exact (fin _).1
          | sliceM hp _ => rw [hp] at g1; cases g1; exact (fin _).1
          | _ => exact absurd rfl h0
        · cases hx with
          | slice hp _ => rw [hp] at g1; cases g1; exact (fin _).2
          | sliceC hp _ => rw [hp] at g1; cases g1; exact (fin _).2
          | sliceM hp _ => rw [hp] at g1; cases g1; exact (fin _).2
          | _ => exact absurd rfl h0
      · exact (fail_run h).elim
  · rename_i s
    split at h
    · rename_i h1
      subst h1
      cases hx
      have hfl : (s.data.toList.map fun b => [Value.int .u8 b.toNat]).flatten = s.data.toList.map fun b => Value.int .u8 b.toNat := by
        generalize s.data.toList = l
        induction l with
        | nil => rfl
        | cons x l ih => simp [ih]
      refine ⟨_, s.data.toList.map fun b => Value.int .u8 b.toNat, s.size, h, by simp, rfl, fun e he => ?_, ?_, fun e he => ?_, fun q hq w1 _ => ?_⟩
      · simp at he; obtain ⟨b, _, rfl⟩ := he; rfl
      · rw [hfl]
        generalize s.data.toList = l
        induction l with
        | nil => exact .nil
        | cons x l ih => exact .cons (.int _ _) ih
      · simp at he; obtain ⟨b, _, rfl⟩ := he; rfl
      · simp only [Builtin.firstCells, Sem.run_pure, Nat.mul_one]
        congr 1
        apply Array.ext'
        simp [ByteArray.data_extract, List.map_take]
    · exact (fail_run h).elim
  · exact (fail_run h).elim
end
end Go.Proofs.YtdiofapingdlmaaV
/- The abstract machine: slices of slices, conversions. -/
set_option linter.unusedVariables false
set_option linter.unusedSimpArgs false
namespace Go.Proofs.YtdiofapingdlmaaV
open Go.RowKit
section
variable {P : Program} {E : Env} {τ : Nat → Value} {a : Act} {ι : Inj} {σ : Store} {N n n' : Nat} {w0 w : World} {v : Value} {d : Delta}
inductive OR (ι : Inj) : Option Value → Option Value → Prop
  | none : OR ι none none
  | some {v v' : Value} (h : VR ι v v') : OR ι (some v) (some v')
theorem evO_run' (hτ : TR ι τ a) {x : Option Operand} {k : Option Value → T} {r : Value × Nat × Delta} (h : (evO τ x k).run n σ = some r) : ∃ v, OR ι v (x.map a.eval) ∧ (k v).run n σ = some r := by
  rcases evO_run hτ h with ⟨rfl, h⟩ | ⟨y, v, rfl, hv, h⟩
  · exact ⟨none, .none, h⟩
  · exact ⟨some v, .some hv, h⟩
theorem bound_some {l : Option Value} {l' : Option Value} (hl : OR ι l l') {dflt q : Nat} (h : bound l dflt = some q) : (l = none ∧ l' = none ∧ q = dflt) ∨ ∃ k i, l = some (.int k i) ∧ l' = some (.int k i) ∧ 0 ≤ i ∧ q = i.toNat := by
  unfold bound at h
  split at h
  · cases hl; cases h; exact .inl ⟨rfl, rfl, rfl⟩
  · rename_i k i
    cases hl with
    | some hv =>
      cases hv
      split at h
      · cases h; exact .inr ⟨k, i, rfl, rfl, ‹_›, rfl⟩
      · cases h
  · cases h
theorem sliceBound_run {k : IntKind} {i : Int} {y : Nat} {code : BoundsCode} (h0 : 0 ≤ i) (h : i.toNat ≤ y) : (Instr.sliceBound (.int k i) y code).run P w = .ok i.toNat w := by
  unfold Instr.sliceBound
  simp only [asIntOf, Sem.run_bind, Sem.run_pure, Result.andThen_ok]
  rw [if_pos ⟨h0, by omega⟩]
  rfl
theorem bounds_run {lo hi lo' hi' : Option Value} (hl : OR ι lo lo') (hh : OR ι hi hi') {isS : Bool} {len cap l h : Nat} (h1 : bound lo 0 = some l) (h2 : bound hi len = some h) (h3 : l ≤ h) (h4 : h ≤ cap) :
    (Instr.sliceBounds isS len cap lo' hi' none).run P w = .ok (l, h, cap) w := by
  unfold Instr.sliceBounds
  rcases bound_some hl h1 with ⟨rfl, rfl, rfl⟩ | ⟨k, i, rfl, rfl, h0, rfl⟩ <;> rcases bound_some hh h2 with ⟨rfl, rfl, rfl⟩ | ⟨k2, i2, rfl, rfl, h02, rfl⟩
  · simp only [Sem.run_bind, Sem.run_pure, Result.andThen_ok]
  · simp only [Sem.run_bind, Sem.run_pure, Result.andThen_ok, sliceBound_run h02 h4]
  · simp only [Sem.run_bind, Sem.run_pure, Result.andThen_ok, sliceBound_run h0 h3]
  · simp only [Sem.run_bind, Sem.run_pure, Result.andThen_ok, sliceBound_run h02 h4, sliceBound_run h0 h3]
theorem bounds3_run {lo hi lo' hi' : Option Value} (hl : OR ι lo lo') (hh : OR ι hi hi') {isS : Bool} {len cap l h : Nat} {k : IntKind} (h1 : bound lo 0 = some l) (h2 : bound hi len = some h) (h3 : l ≤ h) (h4 : h ≤ cap) (h5 : hi.isSome = true) :
    (Instr.sliceBounds isS len cap lo' hi' (some (.int k (h : Int)))).run P w = .ok (l, h, h) w := by
  have hm : ∀ code, (Instr.sliceBound (.int k (h : Int)) cap code).run P w = .ok h w := fun code => by
    have := sliceBound_run (P := P) (w := w) (k := k) (i := (h : Int)) (y := cap) (code := code) (by omega) (by simpa using h4)
    simpa using this
  unfold Instr.sliceBounds
  rcases bound_some hh h2 with ⟨rfl, rfl, rfl⟩ | ⟨k2, i2, rfl, rfl, h02, rfl⟩
  · cases h5
  · rcases bound_some hl h1 with ⟨rfl, rfl, rfl⟩ | ⟨k, i, rfl, rfl, h0, rfl⟩
    · simp only [Sem.run_bind, Sem.run_pure, Result.andThen_ok, hm, sliceBound_run h02 (Nat.le_refl _)]
    · simp only [Sem.run_bind, Sem.run_pure, Result.andThen_ok, hm, sliceBound_run h02 (Nat.le_refl _), sliceBound_run h0 h3]
/-- A slice without room, or nil. -/
theorem slice_zero (hE : EnvOk P E) {t elem : Nat} {ti ei : TI} (hti : E.ty t = some ti) (hd : ti.d = .slice elem) (hei : E.ty elem = some ei) {lo' hi' mx' : Option Value} {base : Option Addr} {cp m : Nat}
    (hb : (Instr.sliceBounds true 0 cp lo' hi' mx').run P w = .ok (0, 0, m) w) (hbase : base = none → m = 0) : (Instr.sliceAt t (.slice base 0 cp) lo' hi' mx').run P w = .ok (.slice base 0 m) w := by
  have hu := und_run hE w hti
  unfold Instr.sliceAt
  simp only [Sem.run_bind, hu, hd, Result.andThen_ok]
  unfold Instr.slice
  simp only [Sem.run_bind, hu, hd, Result.andThen_ok, hb, size_run hE w hei, Sem.run_pure, Nat.zero_mul, Nat.sub_zero]
  split
  · rfl
  · cases base with
    | none => have := hbase rfl; omega
    | some ad =>
      obtain ⟨b, o, s⟩ := ad
      simp [Addr.add]
theorem slice23_run (hE : EnvOk P E) (hR : Rel E.den N w0 ι σ w) {t elem i o len c l q : Nat} {ti ei : TI} (hti : E.ty t = some ti) (hd : ti.d = .slice elem) (hei : E.ty elem = some ei) {x' : Value} {lo hi mx lo' hi' mx' : Option Value} (hx : VR ι (.slice (some ⟨i, o, none⟩) len c) x') (hl : OR ι lo lo') (hh : OR ι hi hi') (hm : OR ι mx mx') (h1 : bound lo 0 = some l) (h2 : bound hi len = some q) (h : (aslice23 ei i o len c l q hi mx).run n σ = some (v, n', d)) :
    d = [] ∧ n' = n ∧ ∃ v', (Instr.sliceAt t x' lo' hi' mx').run P w = .ok v' w ∧ VR ι v v' := by
  unfold aslice23 at h
  split at h
  · rename_i hc
    subst hc
    split at h
    · rename_i hz
      obtain ⟨rfl, rfl, rfl, rfl⟩ := hz
      obtain ⟨rfl, rfl, rfl⟩ := ret_run h
      cases hm
      cases hx with
      | sliceE => exact ⟨rfl, rfl, _, slice_zero hE hti hd hei (bounds_run hl hh h1 h2 (Nat.le_refl _) (Nat.le_refl _)) (fun _ => rfl), .sliceE⟩
      | sliceE1 => exact ⟨rfl, rfl, _, slice_zero hE hti hd hei (bounds_run hl hh h1 h2 (Nat.le_refl _) (Nat.le_refl _)) (fun _ => rfl), .sliceE1⟩
    · exact (fail_run h).elim
  · split at h
    · rename_i hc
      subst hc
      split at h
      · obtain ⟨ob, ho, h⟩ := get_run h
        obtain ⟨p, g1, g2, g3⟩ := hR.obj _ _ ho
        split at h
        · rename_i hz
          obtain ⟨hsz, hlq, hql, hroom⟩ := hz
          obtain ⟨rfl, rfl, rfl⟩ := ret_run h
          cases hm
          have hcap := g3.cap
          have hps : p.sz = ei.size := g3.sz.trans hsz
          have hu := und_run hE w hti
          cases hx with
          | sliceM hp hcp =>
            rw [g1] at hp; cases hp
            have hrun : (Instr.sliceAt t (.slice (some ⟨p.b, p.off + o * p.sz, none⟩) len (p.cap - o)) lo' hi' none).run P w = .ok (.slice (if p.cap - o = l then some ⟨p.b, p.off + o * p.sz, none⟩ else some (Addr.add ⟨p.b, p.off + o * p.sz, none⟩ (l * ei.size))) (q - l) (p.cap - o - l)) w := by
              unfold Instr.sliceAt
              simp only [Sem.run_bind, hu, hd, Result.andThen_ok]
              unfold Instr.slice
              simp only [Sem.run_bind, hu, hd, Result.andThen_ok, bounds_run hl hh h1 h2 hlq (show q ≤ p.cap - o by omega), size_run hE w hei, Sem.run_pure]
              split <;> rfl
            refine ⟨rfl, rfl, _, hrun, ?_⟩
            split
            · rename_i hcl
              have e1 : q - l = 0 := by omega
              rw [e1, show p.cap - o - l = 0 by omega]
              exact .sliceMZ g1 (by omega)
            · rw [addr_add]
              have := VR.sliceM (ι := ι) (o := o + l) (n := q - l) g1 (by omega)
              rw [Nat.add_mul, hps] at this
              rw [hps, Nat.add_assoc, show p.cap - o - l = p.cap - (o + l) by omega]
              exact this
          | sliceMZ hp hc0 =>
            rw [g1] at hp; cases hp
            have hl0 : l = 0 := by omega
            have hq0 : q = 0 := by omega
            subst hl0 hq0
            exact ⟨rfl, rfl, _, slice_zero hE hti hd hei (bounds_run hl hh h1 h2 (Nat.le_refl _) (Nat.le_refl _)) (fun _ => rfl), .sliceMZ g1 hc0⟩
          | sliceMN =>
            have hl0 : l = 0 := by omega
            have hq0 : q = 0 := by omega
            subst hl0 hq0
            exact ⟨rfl, rfl, _, slice_zero hE hti hd hei (bounds_run hl hh h1 h2 (Nat.le_refl _) (Nat.le_refl _)) (fun _ => rfl), .sliceMN⟩
        · exact (fail_run h).elim
      · rename_i k m
        split at h
        · rename_i hz
          obtain ⟨rfl, rfl, rfl, hhi⟩ := hz
          obtain ⟨ob, ho, h⟩ := get_run h
          split at h
          · rename_i hsz
            obtain ⟨rfl, rfl, rfl⟩ := ret_run h
            cases hm with | some hm' =>
            cases hm'
            have hb3 : ∀ cp, (Instr.sliceBounds true len cp lo' hi' (some (.int k 0))).run P w = .ok (0, 0, 0) w := fun cp => by
              have := bounds3_run (P := P) (w := w) (isS := true) (cap := cp) (k := k) hl hh h1 h2 (Nat.le_refl _) (Nat.zero_le _) hhi
              simpa using this
            have hu := und_run hE w hti
            have hrun : ∀ base cp, (Instr.sliceAt t (.slice base len cp) lo' hi' (some (.int k 0))).run P w = .ok (.slice base 0 0) w := fun base cp => by
              unfold Instr.sliceAt
              simp only [Sem.run_bind, hu, hd, Result.andThen_ok]
              unfold Instr.slice
              simp only [Sem.run_bind, hu, hd, Result.andThen_ok, hb3, size_run hE w hei, Sem.run_pure]
              rfl
            have hxs : ∃ base cp, x' = .slice base len cp := by cases hx <;> exact ⟨_, _, rfl⟩
            obtain ⟨base, cp, rfl⟩ := hxs
            refine ⟨rfl, rfl, _, hrun _ _, ?_⟩
            cases base with
            | none => exact .sliceE
            | some a => exact .sliceE1
          · exact (fail_run h).elim
        · exact (fail_run h).elim
      · exact (fail_run h).elim
    · exact (fail_run h).elim
theorem slice_run (hE : EnvOk P E) (hR : Rel E.den N w0 ι σ w) {t : Nat} {x x' : Value} {lo hi mx lo' hi' mx' : Option Value} (hx : VR ι x x') (hl : OR ι lo lo') (hh : OR ι hi hi') (hm : OR ι mx mx') (h : (aslice E t x lo hi mx).run n σ = some (v, n', d)) :
    d = [] ∧ n' = n ∧ ∃ v', (Instr.sliceAt t x' lo' hi' mx').run P w = .ok v' w ∧ VR ι v v' := by
  unfold aslice at h
  split at h
  · exact (fail_run h).elim
  · rename_i ti hti
    have hu := und_run hE w hti
    split at h
    · rename_i s hd
      split at h
      · exact (fail_run h).elim
      · rename_i hmx
        split at h
        · rename_i l q h1 h2
          split at h
          · rename_i hc
            simp only [Bool.and_eq_true, decide_eq_true_eq] at hc
            obtain ⟨rfl, rfl, rfl⟩ := ret_run h
            cases hx
            cases hm with
            | some _ => simp at hmx
            | none =>
              refine ⟨rfl, rfl, _, ?_, .str _⟩
              unfold Instr.sliceAt
              simp only [Sem.run_bind, hu, hd, Result.andThen_ok]
              unfold Instr.slice
              simp only [Sem.run_bind, hu, hd, Result.andThen_ok, Option.isSome_none, Bool.false_eq_true, if_false, bounds_run hl hh h1 h2 hc.1 hc.2, Sem.run_pure]
          · exact (fail_run h).elim
        · exact (fail_run h).elim
    · rename_i elem hd
      split at h
      · rename_i ei hei h1 h2 h3
        split at h
        · exact (fail_run h).elim
        · rename_i hc
          obtain ⟨rfl, rfl, rfl⟩ := ret_run h
          cases hx
          refine ⟨rfl, rfl, .slice none 0 0, ?_, .sliceNil⟩
          have hb : (Instr.sliceBounds true 0 0 lo' hi' mx').run P w = .ok (0, 0, 0) w := by
            cases hm with
            | none => exact bounds_run hl hh h1 h2 (Nat.le_refl _) (Nat.le_refl _)
            | @some m m' hm =>
              unfold bound at h3
              split at h3
              · rename_i hsm; cases hsm
              · rename_i k i hki
                cases hki
                cases hm
                split at h3
                · rename_i hi0
                  have h3' := Option.some.inj h3
                  have : i = ((0 : Nat) : Int) := by omega
                  subst this
                  exact bounds3_run hl hh h1 h2 (Nat.le_refl _) (Nat.le_refl _) (by cases hi <;> simp_all)
                · cases h3
              · cases h3
          unfold Instr.sliceAt
          simp only [Sem.run_bind, hu, hd, Result.andThen_ok]
          unfold Instr.slice
          simp only [Sem.run_bind, hu, hd, Result.andThen_ok, hb, size_run hE w hei, Sem.run_pure, if_true, Nat.sub_self]
      · exact (fail_run h).elim
    · rename_i elem i o len c hd
      split at h
      · rename_i ei l q hei h1 h2
        split at h
        · exact slice23_run hE hR hti hd hei hx hl hh hm h1 h2 h
        rename_i hc2
        split at h
        · rename_i hz
          obtain ⟨rfl, rfl, rfl⟩ := ret_run h
          simp only [Bool.and_eq_true, beq_iff_eq, Option.isNone_iff_eq_none] at hz
          obtain ⟨⟨⟨⟨rfl, rfl⟩, rfl⟩, rfl⟩, rfl⟩ := hz
          cases hm
          have hx2 : ∃ ad, x' = .slice (some ad) 0 0 := by cases hx <;> first | exact ⟨_, rfl⟩ | omega
          obtain ⟨ad, rfl⟩ := hx2
          refine ⟨rfl, rfl, .slice (some ad) 0 0, ?_, .sliceZ1⟩
          unfold Instr.sliceAt
          simp only [Sem.run_bind, hu, hd, Result.andThen_ok]
          unfold Instr.slice
          simp only [Sem.run_bind, hu, hd, Result.andThen_ok, bounds_run hl hh h1 h2 (Nat.le_refl _) (Nat.le_refl _), size_run hE w hei, Sem.run_pure]
          rfl
        obtain ⟨ob, ho, h⟩ := get_run h
        obtain ⟨p, g1, g2, g3⟩ := hR.obj _ _ ho
        split at h
        · exact (fail_run h).elim
        · rename_i hc
          simp only [Bool.or_eq_true, decide_eq_true_eq, not_or, Decidable.not_not, Bool.not_eq_true', decide_eq_false_iff_not] at hc
          obtain ⟨⟨⟨hsz, hlq⟩, hql⟩, hroom⟩ := hc
          have hsz' : ob.sz = ei.size := by simpa using hsz
          have hql2 : q ≤ len ∨ c = 0 ∧ o + q ≤ ob.es.length := by
            by_cases h1 : q ≤ len
            · exact .inl h1
            · exact .inr (Decidable.byContradiction fun h2 => by simp_all)
          clear hql
          have hql := hql2
          clear hql2
          have hcap := g3.cap
          have hps : p.sz = ei.size := g3.sz.trans hsz'
          -- what the model's slice comes to
          have run1 : ∀ (ad : Addr) (m c' : Nat), q ≤ c' → mx' = none → (Instr.sliceAt t (.slice (some ad) len c') lo' hi' mx').run P w = .ok (.slice (if c' = l then some ad else some (ad.add (l * ei.size))) (q - l) (c' - l)) w := by
            intro ad m c' hq hmx
            subst hmx
            unfold Instr.sliceAt
            simp only [Sem.run_bind, hu, hd, Result.andThen_ok]
            unfold Instr.slice
            simp only [Sem.run_bind, hu, hd, Result.andThen_ok, bounds_run hl hh h1 h2 hlq hq, size_run hE w hei, Sem.run_pure]
            split <;> rfl
          have run3 : ∀ (ad : Addr) (m c' : Nat) (k : IntKind), q ≤ c' → mx' = some (.int k (q : Int)) → hi.isSome = true → (Instr.sliceAt t (.slice (some ad) len c') lo' hi' mx').run P w = .ok (.slice (if q = l then some ad else some (ad.add (l * ei.size))) (q - l) (q - l)) w := by
            intro ad m c' k hq hmx hhi
            subst hmx
            unfold Instr.sliceAt
            simp only [Sem.run_bind, hu, hd, Result.andThen_ok]
            unfold Instr.slice
            simp only [Sem.run_bind, hu, hd, Result.andThen_ok, bounds3_run hl hh h1 h2 hlq hq hhi, size_run hE w hei, Sem.run_pure]
            split <;> rfl
          have hS := slice_cases (o := ob) hx
          -- how much room there is
          have room : ∀ {ad : Addr} {c' : Nat}, x' = .slice (some ad) len c' → q ≤ c' ∧ (0 < len ∨ 0 < q ∨ True) := by
            intro ad c' hx'
            subst hx'
            cases hS with
            | at_ hp hc hcc e0 e1 =>
              rw [g1] at hp; cases hp
              rcases hql with h | ⟨h, h'⟩
              · exact ⟨by omega, .inr (.inr trivial)⟩
              · have := e0 h; exact ⟨by omega, .inr (.inr trivial)⟩
            | zero e0 ez e1 =>
              rcases hql with h | ⟨h, h'⟩
              · exact ⟨by omega, .inr (.inr trivial)⟩
              · obtain ⟨p', hp', hz'⟩ := ez h
                rw [g1] at hp'; cases hp'
                exact ⟨by omega, .inr (.inr trivial)⟩
          split at h
          · -- no third bound
            cases hm
            split at h
            · rename_i hc0
              obtain ⟨rfl, rfl, rfl⟩ := ret_run h
              subst hc0
              cases hS with
              | @at_ p' c' hp hcp hcc e0 e1 =>
                rw [g1] at hp; cases hp
                have hcq := (room rfl).1
                have e0' := e0 rfl
                refine ⟨rfl, rfl, _, run1 _ 0 c' hcq rfl, ?_⟩
                split
                · rename_i hcl
                  have : q - l = 0 := by omega
                  rw [this, show c' - l = 0 by omega]
                  exact .sliceZ g1 (by omega)
                · rw [addr_add]
                  exact VR_slice g1 (by omega) rfl (by rw [Nat.add_mul, hps]; omega) (by omega)
              | nil _ h23 => omega
              | zero e0 ez e1 =>
                obtain ⟨p', hp', hz'⟩ := ez rfl
                rw [g1] at hp'; cases hp'
                subst e0
                have hcq := (room rfl).1
                refine ⟨rfl, rfl, _, run1 _ 0 0 hcq rfl, ?_⟩
                have hl0 : l = 0 := by omega
                have hq0 : q = 0 := by omega
                subst hl0 hq0
                simp only [if_true, Nat.sub_self, Nat.add_zero]
                exact .sliceZ g1 hz'
            · split at h
              · rename_i hc0 hc1
                obtain ⟨rfl, rfl, rfl⟩ := ret_run h
                obtain ⟨hcone, hqlen⟩ := hc1
                subst hcone
                cases hS with
                | @at_ p' c' hp hcp hcc e0 e1 =>
                  rw [g1] at hp; cases hp
                  have e1' := e1 rfl
                  have e2' : c' = q := by omega
                  subst e2'
                  clear e1' e1
                  subst hqlen
                  refine ⟨rfl, rfl, _, run1 _ 0 _ (Nat.le_refl _) rfl, ?_⟩
                  split
                  · rename_i hcl
                    subst hcl
                    rw [Nat.sub_self]
                    exact .sliceZ1
                  · rw [addr_add]
                    have := VR.sliceC (ι := ι) (o := o + l) (n := c' - l) g1 (by omega)
                    rw [Nat.add_mul, hps] at this
                    rw [hps, Nat.add_assoc]
                    exact this
                | nil _ h23 => omega
                | zero e0 ez e1 =>
                  subst e0
                  subst hqlen
                  refine ⟨rfl, rfl, _, run1 _ 0 0 (Nat.le_refl _) rfl, ?_⟩
                  have hl0 : l = 0 := by omega
                  subst hl0
                  simp only [if_true, Nat.sub_self, Nat.add_zero]
                  exact .sliceZ1
              · exact (fail_run h).elim
          · -- a third bound
            rename_i k m
            cases hm with | some hm' =>
            cases hm'
            split at h
            · rename_i hc3
              simp only [Bool.and_eq_true, decide_eq_true_eq] at hc3
              obtain ⟨hmq, hhi⟩ := hc3
              subst hmq
              obtain ⟨rfl, rfl, rfl⟩ := ret_run h
              cases hS with
              | @at_ p' c' hp hcp hcc e0 e1 =>
                rw [g1] at hp; cases hp
                have hcq := (room rfl).1
                refine ⟨rfl, rfl, _, run3 _ 0 c' _ hcq rfl hhi, ?_⟩
                split
                · rename_i hcl
                  subst hcl
                  rw [Nat.sub_self]
                  exact .sliceZ1
                · rw [addr_add]
                  have := VR.sliceC (ι := ι) (o := o + l) (n := q - l) g1 (by
                    rcases hql with h | ⟨h, h'⟩ <;> omega)
                  rw [Nat.add_mul, hps] at this
                  rw [hps, Nat.add_assoc]
                  exact this
              | nil _ h23 => omega
              | zero e0 ez e1 =>
                subst e0
                have hcq := (room rfl).1
                refine ⟨rfl, rfl, _, run3 _ 0 0 _ hcq rfl hhi, ?_⟩
                have hl0 : l = 0 := by omega
                have hq0 : q = 0 := by omega
                subst hl0 hq0
                simp only [if_true, Nat.sub_self, Nat.add_zero]
                exact .sliceZ1
            · exact (fail_run h).elim
          · exact (fail_run h).elim
      · exact (fail_run h).elim
    · exact (fail_run h).elim
theorem bounds4_run {lo hi lo' hi' : Option Value} (hl : OR ι lo lo') (hh : OR ι hi hi') {isS : Bool} {len cap l h : Nat} {k : IntKind} {m : Int} (h1 : bound lo 0 = some l) (h2 : bound hi len = some h) (h3 : l ≤ h) (hm0 : 0 ≤ m) (h4 : h ≤ m.toNat) (hm : m.toNat ≤ cap) (h5 : hi.isSome = true) :
    (Instr.sliceBounds isS len cap lo' hi' (some (.int k m))).run P w = .ok (l, h, m.toNat) w := by
  unfold Instr.sliceBounds
  rcases bound_some hh h2 with ⟨rfl, rfl, rfl⟩ | ⟨k2, i2, rfl, rfl, h02, rfl⟩
  · cases h5
  · rcases bound_some hl h1 with ⟨rfl, rfl, rfl⟩ | ⟨k, i, rfl, rfl, h0, rfl⟩
    · simp only [Sem.run_bind, Sem.run_pure, Result.andThen_ok, sliceBound_run hm0 hm, sliceBound_run h02 h4]
    · simp only [Sem.run_bind, Sem.run_pure, Result.andThen_ok, sliceBound_run hm0 hm, sliceBound_run h02 h4, sliceBound_run h0 h3]
theorem rel_ghost {D : Den} (hR : Rel D N w0 ι σ w) (hn : ι n = none) (p : Place) : Rel D N w0 (ι.set n p) σ w := by
  have hle := Inj.set_le hn p
  have key : ∀ i o q, σ i = some o → ι.set n p i = some q → ι i = some q := fun i o q e h => by
    obtain ⟨q', h1, _⟩ := hR.obj i o e
    rw [hle i q' h1] at h; rw [h1]; exact h
  exact ⟨hR.below, hR.size, fun i o e => by
    obtain ⟨q, h1, h2, h3⟩ := hR.obj i o e
    exact ⟨q, hle i q h1, h2, h3.keep hle (.inr rfl)⟩, fun i j o o' q q' e1 e2 f1 f2 hij hw => hR.sep i j o o' q q' e1 e2 (key i o q e1 f1) (key j o' q' e2 f2) hij hw, fun c v e => by
    obtain ⟨q, h1, h2⟩ := hR.den c v e
    exact ⟨q, hle c q h1, h2⟩⟩
theorem op_slice (hE : EnvOk P E) (hR : Rel E.den N w0 ι σ w) (hτ : TR ι τ a) (hn : ∀ i, n ≤ i → i < n' → ι i = none) {t : Nat} {x : Operand} {lo hi mx : Option Operand} (h : (ev τ x fun v => evO τ lo fun l => evO τ hi fun h => evO τ mx fun m => aslice2 E t v l h m).run n σ = some (v, n', d)) :
    Good E.den N w0 ι σ n n' v d ((do pure (Next.value (← Instr.sliceAt t (a.eval x) (lo.map a.eval) (hi.map a.eval) (mx.map a.eval))) : Sem Next).run P w) := by
  obtain ⟨u, hu, h⟩ := ev_run hτ h
  obtain ⟨l, hl, h⟩ := evO_run' hτ h
  obtain ⟨q, hq, h⟩ := evO_run' hτ h
  obtain ⟨m, hm, h⟩ := evO_run' hτ h
  unfold aslice2 at h
  split at h
  · rename_i i o len l0 h0 sz hg
    obtain ⟨rfl, rfl, rfl⟩ := ret_run (fresh_run h)
    have hfr := hn n (Nat.le_refl _) (by omega)
    generalize a.eval x = x' at hu
    generalize lo.map a.eval = lo' at hl
    generalize hi.map a.eval = hi' at hq
    generalize mx.map a.eval = mx' at hm
    unfold ghostOk at hg
    split at hg
    · rename_i k m0 i' o' len' cg hh1 hh2
      split at hg
      · rename_i ti hti
        split at hg
        · rename_i elem l1 h1 hd e1 e2
          split at hg
          · rename_i ei hei
            split at hg
            · rename_i hc
              simp only [Bool.and_eq_true, decide_eq_true_eq] at hc
              obtain ⟨⟨⟨⟨c1, c2⟩, c3⟩, c4⟩, c5⟩ := hc
              simp only [Option.some.injEq, Prod.mk.injEq] at hg
              obtain ⟨rfl, rfl, rfl, rfl, rfl, rfl⟩ := hg
              cases hm with | some hm' =>
              cases hm'
              have hu0 := und_run hE w hti
              have main : ∀ {p : Place}, ι i' = some p → o' + len' ≤ p.cap → x' = .slice (some ⟨p.b, p.off + o' * p.sz, none⟩) len' (p.cap - o') → Good E.den N w0 ι σ n (n + 1) (.slice (some ⟨n, 0, none⟩) (h1 - l1) 0) [] ((do pure (Next.value (← Instr.sliceAt t x' lo' hi' (some (.int k m0)))) : Sem Next).run P w) := by
                intro p hp hcap hx'
                subst hx'
                have hrun : (Instr.sliceAt t (.slice (some ⟨p.b, p.off + o' * p.sz, none⟩) len' (p.cap - o')) lo' hi' (some (.int k m0))).run P w = .ok (.slice (some (Addr.add ⟨p.b, p.off + o' * p.sz, none⟩ (l1 * ei.size))) (h1 - l1) (m0.toNat - l1)) w := by
                  unfold Instr.sliceAt
                  simp only [Sem.run_bind, hu0, hd, Result.andThen_ok]
                  unfold Instr.slice
                  simp only [Sem.run_bind, hu0, hd, Result.andThen_ok, bounds4_run (m := m0) (k := k) (cap := p.cap - o') hl hq e1 e2 c1 (by omega) (by omega) (by omega) c4, size_run hE w hei, Sem.run_pure]
                  rw [if_neg (by omega)]
                  rfl
                refine ⟨.value (.slice (some (Addr.add ⟨p.b, p.off + o' * p.sz, none⟩ (l1 * ei.size))) (h1 - l1) (m0.toNat - l1)), w, (.slice (some (Addr.add ⟨p.b, p.off + o' * p.sz, none⟩ (l1 * ei.size))) (h1 - l1) (m0.toNat - l1)), ι.set n ⟨p.b, p.off + o' * p.sz + l1 * ei.size, 1, m0.toNat - l1, none⟩, ?_, .inl rfl, Inj.set_le hfr _, fun i => Inj.set_only i, rel_ghost hR hfr _, ?_⟩
                · simp only [Sem.run_bind, hrun, Result.andThen_ok, Sem.run_pure]
                · rw [addr_add]
                  exact VR.slice (o := 0) (Inj.set_self _ _ _) (by show 0 + (h1 - l1) ≤ m0.toNat - l1; omega)
              cases hu with
              | slice hp hcap => exact main hp hcap rfl
              | sliceM hp hcap => exact main hp hcap rfl
              | sliceC hp hcap => exact absurd c5 (by decide)
              | _ => exfalso; omega
            · cases hg
          · cases hg
        · cases hg
      · cases hg
    · cases hg
  · obtain ⟨rfl, rfl, v', h1, h2⟩ := slice_run hE hR hu hl hq hm h
    exact good_of hR h2 h1
theorem bytes_fold : ∀ {xs : List (List Value)} {cs : List Value} {s r : ByteArray}, VRs ι xs.flatten cs → bytesOfL xs s = some r → ∃ ns : List Int, cs = ns.map (Value.int .u8) ∧ ns.foldl (fun r n => r.push (UInt8.ofNat n.toNat)) s = r
  | [], cs, s, r, hc, h => by
    simp at hc; cases hc
    simp [bytesOfL] at h; exact ⟨[], rfl, h⟩
  | e :: xs, cs, s, r, hc, h => by
    cases e with
    | nil => simp [bytesOfL] at h
    | cons v e' =>
      cases e' with
      | cons _ _ => cases v with
        | int k q => cases k <;> simp [bytesOfL] at h
        | _ => simp [bytesOfL] at h
      | nil =>
        cases v with
        | int k q =>
          cases k with
          | u8 =>
            simp only [bytesOfL] at h
            simp only [List.flatten_cons, List.singleton_append] at hc
            cases hc with
            | cons hv hs =>
              cases hv
              obtain ⟨ns, h1, h2⟩ := bytes_fold hs h
              exact ⟨q :: ns, by simp [h1], h2⟩
          | _ => simp [bytesOfL] at h
        | _ => simp [bytesOfL] at h
theorem astr_run (hR : Rel E.den N w0 ι σ w) {x x' : Value} (hx : VR ι x x') (h : (astr x).run n σ = some (v, n', d)) : d = [] ∧ n' = n ∧ ∃ s, v = .string s ∧ (Conv.bytesToString x').run P w = .ok (.string s) w := by
  unfold astr at h
  split at h
  · obtain ⟨rfl, rfl, rfl⟩ := ret_run h
    cases hx
    exact ⟨rfl, rfl, _, rfl, rfl⟩
  · rename_i i o m c
    split at h
    · rename_i h0
      subst h0
      obtain ⟨rfl, rfl, rfl⟩ := ret_run h
      refine ⟨rfl, rfl, _, rfl, ?_⟩
      cases hx <;> simp [Conv.bytesToString, loadCells, loadCellsFrom]
    · rename_i h0
      obtain ⟨ob, ho, h⟩ := get_run h
      split at h
      · rename_i hc
        split at h
        · rename_i s hs
          obtain ⟨rfl, rfl, rfl⟩ := ret_run h
          obtain ⟨p, g1, g2, g3⟩ := hR.obj _ _ ho
          obtain ⟨cs, h1, h2⟩ := row_of g3 o m
          have hel : ∀ e ∈ (ob.es.drop o).take m, e.length = 1 := fun e he => (elems_len g3 e he).trans hc.1
          have hcl : cs.length = m := by rw [← h1.length, flat_length hel, hc.2, Nat.mul_one]
          obtain ⟨ns, e1, e2⟩ := bytes_fold h1 hs
          have hload := run_loadCells_list (P := P) w ⟨p.b, p.off + o * p.sz, none⟩ cs h2
          rw [hcl] at hload
          have fin : ∀ c', (Conv.bytesToString (.slice (some ⟨p.b, p.off + o * p.sz, none⟩) m c')).run P w = .ok (.string s) w := by
            intro c'
            simp only [Conv.bytesToString, Sem.run_bind, hload, Result.andThen_ok]
            rw [← Array.forIn_toList]
            simp only [e1]
            rw [run_forIn_bytes _ (by intro n r; simp [Sem.run_pure])]
            simp only [Result.andThen_ok, Sem.run_pure, e2]
          refine ⟨rfl, rfl, s, rfl, ?_⟩
          cases hx with
          | slice hp _ => rw [hp] at g1; cases g1; exact fin _
          | sliceC hp _ => rw [hp] at g1; cases g1; exact fin _
          | sliceM hp _ => rw [hp] at g1; cases g1; exact fin _
          | _ => exact absurd rfl h0
        · exact (fail_run h).elim
      · exact (fail_run h).elim
  · exact (fail_run h).elim
end
end Go.Proofs.YtdiofapingdlmaaV
/- The abstract machine: append, copy, clear, conversions of strings. -/
set_option linter.unusedVariables false
set_option linter.unusedSimpArgs false
namespace Go.Proofs.YtdiofapingdlmaaV
open Go.RowKit
theorem grow_le (newLen : Nat) : ∀ (r c : Nat), Builtin.growBy newLen r c ≤ max c (2 * newLen + 192)
  | 0, c => by unfold Builtin.growBy; omega
  | r + 1, c => by
    unfold Builtin.growBy
    split
    · omega
    · rename_i h
      have := grow_le newLen r (c + (c + 768) / 4)
      omega
theorem nextcap_le {need cap : Nat} (h : cap < need) : Builtin.nextslicecap need cap ≤ 2 * need + 192 := by
  unfold Builtin.nextslicecap
  split
  · omega
  · split
    · omega
    · have := grow_le need 4 cap
      omega
theorem cut_ge (need old : Nat) (e : TypeId) (t : Nat) : need ≤ (Question.appendCap need old e).cut t := by
  simp only [Question.cut]; omega
theorem holds_flat {ι : Inj} {sz : Nat} {es : List (List Value)} {cs rest : List Value} (hlen : ∀ e ∈ es, e.length = sz) (hone : ∀ e ∈ es, e.all oneB = true) (h : VRs ι es.flatten cs) : Holds ι sz es (cs ++ rest) 0 := by
  intro k e he j v hv
  have hm := List.mem_of_getElem? he
  have hj : j < sz := by rw [← hlen e hm]; exact (List.getElem?_eq_some_iff.1 hv).1
  have hf := flat_get hlen k e j he hj
  rw [hv] at hf
  obtain ⟨v', g1, g2⟩ := h.get _ _ hf
  refine ⟨v', ?_, g2, List.all_eq_true.1 (hone e hm) v (List.mem_of_getElem? hv)⟩
  rw [Nat.zero_add, List.getElem?_append_left (List.getElem?_eq_some_iff.1 g1).1, g1]
/-- A segment of elements written into a row. -/
theorem Holds.seg {ι : Inj} {sz : Nat} {es xs : List (List Value)} {arr c' : List Value} {off o : Nat} (h : Holds ι sz es arr off) (hlen : ∀ (k : Nat) (e : List Value), es[k]? = some e → e.length = sz) (hxl : ∀ e ∈ xs, e.length = sz) (hone : ∀ e ∈ xs, e.all oneB = true) (hc : VRs ι xs.flatten c')
    (ho : o + xs.length ≤ es.length) (hroom : off + es.length * sz ≤ arr.length) : Holds ι sz (ov es o xs) (ov arr (off + o * sz) c') off := by
  have hcl : c'.length = xs.length * sz := by rw [← hc.length, flat_length hxl]
  have hos : (o + xs.length) * sz ≤ es.length * sz := Nat.mul_le_mul_right _ ho
  rw [Nat.add_mul] at hos
  intro k e he j v hv
  rw [ov_get (by omega)]
  rw [ov_get ho] at he
  split at he
  · rename_i hk
    have hj : j < sz := by rw [← hlen k e he]; exact (List.getElem?_eq_some_iff.1 hv).1
    have := mul_step hk hj
    rw [if_pos (by omega)]
    exact h k e he j v hv
  · rename_i hk
    split at he
    · rename_i hk2
      have hm := List.mem_of_getElem? he
      have hj : j < sz := by rw [← hxl e hm]; exact (List.getElem?_eq_some_iff.1 hv).1
      have h1 : o * sz ≤ k * sz := Nat.mul_le_mul_right _ (by omega)
      have h2 : k * sz + j < (o + xs.length) * sz := mul_step hk2 hj
      rw [Nat.add_mul] at h2
      rw [if_neg (by omega), if_pos (by omega)]
      have hf := flat_get hxl (k - o) e j he hj
      rw [hv] at hf
      obtain ⟨v', g1, g2⟩ := hc.get _ _ hf
      refine ⟨v', ?_, g2, List.all_eq_true.1 (hone e hm) v (List.mem_of_getElem? hv)⟩
      rw [← g1]
      congr 1
      rw [Nat.sub_mul]
      omega
    · rename_i hk2
      have hj : j < sz := by rw [← hlen k e he]; exact (List.getElem?_eq_some_iff.1 hv).1
      have h1 : (o + xs.length) * sz ≤ k * sz := Nat.mul_le_mul_right _ (by omega)
      rw [Nat.add_mul] at h1
      rw [if_neg (by omega), if_neg (by omega)]
      exact h k e he j v hv
theorem ov_len {sz o : Nat} {es xs : List (List Value)} (hlen : ∀ (k : Nat) (e : List Value), es[k]? = some e → e.length = sz) (hxl : ∀ e ∈ xs, e.length = sz) (ho : o + xs.length ≤ es.length) : ∀ (k : Nat) (e : List Value), (ov es o xs)[k]? = some e → e.length = sz := by
  intro k e he
  rw [ov_get ho] at he
  split at he
  · exact hlen k e he
  · split at he
    · exact hxl e (List.mem_of_getElem? he)
    · exact hlen k e he
section
variable {P : Program} {E : Env} {τ : Nat → Value} {a : Act} {ι : Inj} {σ : Store} {N n n' : Nat} {w0 w : World} {v : Value} {d : Delta}
/-- What comes of a value that an operation makes, in whatever memory. -/
def GoodV (D : Den) (N : Nat) (w0 : World) (ι : Inj) (σ : Store) (n n' : Nat) (v : Value) (d : Delta) (r : Result Value) : Prop :=
  ∃ w' v' κ, r = .ok v' w' ∧ ι.le κ ∧ (∀ i, κ i ≠ ι i → n ≤ i ∧ i < n') ∧ Rel D N w0 κ (app d σ) w' ∧ VR κ v v'
theorem GoodV.good {S : Sem Value} (h : GoodV E.den N w0 ι σ n n' v d (S.run P w)) : Good E.den N w0 ι σ n n' v d ((do pure (Next.value (← S)) : Sem Next).run P w) := by
  obtain ⟨w', v', κ, h1, h2⟩ := h
  refine ⟨.value v', w', v', κ, ?_, .inl rfl, h2⟩
  simp only [Sem.run_bind, h1, Result.andThen_ok, Sem.run_pure]
theorem goodV_same (hR : Rel E.den N w0 ι σ w) {v v' : Value} (hv : VR ι v v') : GoodV E.den N w0 ι σ n n v [] (.ok v' w) :=
  ⟨w, v', ι, rfl, Inj.le_refl _, fun i h => absurd rfl h, hR, hv⟩
/-- The segment of a row written in place. -/
theorem write_run (hR : Rel E.den N w0 ι σ w) {j : Nat} {ob : AObj} {p : Place} (hj : σ j = some ob) (hp : ι j = some p) (hO : ObjR N ι ob p w) (hw : ob.w = true) (hcp : 0 < p.cap) {o : Nat} {xs : List (List Value)} {cs : List Value} (hxl : ∀ e ∈ xs, e.length = ob.sz) (hone : ∀ e ∈ xs, e.all oneB = true) (hc : VRs ι xs.flatten cs) (ho : o + xs.length ≤ ob.es.length) :
    (storeCells ⟨p.b, p.off + o * p.sz, none⟩ cs).run P w = .ok () (w.setRow p.b ⟨ov ((match w.heap[p.b]? with | some (.cells arr _ _) => arr | _ => #[]).toList) (p.off + o * p.sz) cs⟩) ∧
    Rel E.den N w0 ι (app [(j, some { ob with es := ov ob.es o xs })] σ) (w.setRow p.b ⟨ov ((match w.heap[p.b]? with | some (.cells arr _ _) => arr | _ => #[]).toList) (p.off + o * p.sz) cs⟩) := by
  obtain ⟨hN, arr, fz, hb, hroom, hfz⟩ := hO.own hw hcp
  have hsz := hO.sz
  have hcl : cs.length = xs.length * ob.sz := by rw [← hc.length, flat_length hxl]
  have h1 : (o + xs.length) * ob.sz ≤ p.cap * ob.sz := Nat.mul_le_mul_right _ (by have := hO.cap; omega)
  rw [Nat.add_mul] at h1
  rw [hsz] at hroom
  have h2 : ob.es.length * ob.sz ≤ p.cap * ob.sz := Nat.mul_le_mul_right _ hO.cap
  have hone' : ∀ v ∈ cs, oneB v = true := by
    intro v hv
    obtain ⟨m, hm⟩ := List.getElem?_of_mem hv
    obtain ⟨v0, e0, hv0⟩ := hc.get' m v hm
    rw [hv0.oneB]
    have := List.mem_of_getElem? e0
    rw [List.mem_flatten] at this
    obtain ⟨e, he, hve⟩ := this
    exact List.all_eq_true.1 (hone e he) v0 hve
  have ha : arr.toList.length = arr.size := Array.length_toList
  rw [hb]
  refine ⟨storeCells_run P p.b ob.t.n fz (p.off + o * p.sz) cs 0 arr w hb hfz.1 (by rw [hcl, hsz]; omega) hone', ?_⟩
  have hH : Holds ι p.sz ob.es arr.toList p.off := hO.holds hb
  refine good_put (o' := { ob with es := ov ob.es o xs }) hR hj hw hp hcp rfl rfl hw (ov_len hO.len hxl ho) (by show (ov ob.es o xs).length ≤ _; rw [ov_length ho]; exact hO.cap) hb (by rw [ov_length (e := arr.toList) (j := p.off + o * p.sz) (c := cs) (by rw [hcl, hsz, ha]; omega), ha]) ?_
  exact hH.seg (by rw [hsz]; exact hO.len) (by rw [hsz]; exact hxl) hone hc ho (by rw [hsz, ha]; omega)
theorem VRs.flatten_append {ι : Inj} {xs ys : List (List Value)} {cs ds : List Value} (h : VRs ι xs.flatten cs) (k : VRs ι ys.flatten ds) : VRs ι (xs ++ ys).flatten (cs ++ ds) := by
  rw [List.flatten_append]; exact h.append k
/-- An object's block goes to a new object, written in place. -/
theorem rel_regrow (hR : Rel E.den N w0 ι σ w) {j : Nat} {ob o' : AObj} {p p' : Place} (hj : σ j = some ob) (hw : ob.w = true) (hp : ι j = some p) (hcp : 0 < p.cap) (hfr : ι n = none) (hb' : p'.b = p.b) (ht : o'.t = ob.t) (hs2 : o'.sz = ob.sz) (hs : p'.sz = o'.sz) (hpos : 0 < o'.sz) (hw' : o'.w = true) (hcap : o'.es.length ≤ p'.cap) (hlen : ∀ (k : Nat) (e : List Value), o'.es[k]? = some e → e.length = o'.sz)
    {arr : Array Value} {fz : Nat × Nat} {arr' : List Value} (hblk : w.heap[p.b]? = some (.cells arr ob.t.n fz)) (hsz : arr'.length = arr.size) (hcell : Holds ι p'.sz o'.es arr' p'.off) (hroom : p'.off + p'.cap * p'.sz ≤ arr.size) :
    Rel E.den N w0 (ι.set n p') (app [(n, some o'), (j, none)] σ) (w.setRow p.b ⟨arr'⟩) := by
  have hle := Inj.set_le hfr p'
  obtain ⟨q, g1, g2, g3⟩ := hR.obj j ob hj
  rw [hp] at g1; cases g1
  obtain ⟨hN, arr1, fz1, hb1, hr1, hf1⟩ := g3.own hw hcp
  rw [hblk] at hb1; cases hb1
  have hnp : ∀ x : AObj, ¬ Ph x p := fun x g => by have := g.2; omega
  have hlt : p.b < w.heap.size := (Array.getElem?_eq_some_iff.1 hblk).1
  have hnew : (w.setRow p.b ⟨arr'⟩).heap[p.b]? = some (.cells ⟨arr'⟩ ob.t.n fz) := setRow_heap _ _ _ _ _ _ hblk
  have hnj : n ≠ j := fun e => by rw [e, hp] at hfr; cases hfr
  have hkeys : ∀ i o, app [(n, some o'), (j, none)] σ i = some o → (i = n ∧ o = o') ∨ (i ≠ n ∧ i ≠ j ∧ σ i = some o) := by
    intro i o e
    simp only [app] at e
    split at e
    · rename_i hi; cases e; exact .inl ⟨hi, rfl⟩
    · split at e
      · cases e
      · exact .inr ⟨‹_›, ‹_›, e⟩
  refine ⟨⟨hR.below.os, hR.below.tape, hR.below.output, by rw [setRow_size]; exact hR.below.size, fun k hk => ?_⟩, by rw [setRow_size]; exact hR.size, fun i o e => ?_, fun i k q q' r r' e1 e2 f1 f2 hik hwq => ?_, fun c v e => by obtain ⟨q, h1, h2⟩ := hR.den c v e; exact ⟨q, hle _ _ h1, h2⟩⟩
  · rw [setRow_other _ _ _ _ (by omega)]; exact hR.below.block k hk
  · rcases hkeys i o e with ⟨rfl, rfl⟩ | ⟨h1, h2, h3⟩
    · refine ⟨p', Inj.set_self _ _ _, .inr (by rw [setRow_size, hb']; exact hlt), hs, hpos, hcap, hlen, fun k e he jj v hv => ?_, fun _ => .inr ⟨by rw [hb']; exact hN, ⟨arr'⟩, fz, by rw [hb', ht]; exact hnew, by show _ ≤ arr'.length; omega, by rw [hs2]; show FzOk ob.sz arr'.length fz; rw [hsz]; exact hf1⟩, fun hw2 => by rw [hw'] at hw2; cases hw2⟩
      obtain ⟨v', f1, f2, f3⟩ := hcell k e he jj v hv
      refine ⟨v', ?_, f2.mono hle, f3⟩
      unfold World.cell?
      simp only [hb', hnew, Option.isSome_none, Bool.false_eq_true, if_false]
      simpa using f1
    · obtain ⟨r, f1, f2, f3⟩ := hR.obj i o h3
      refine ⟨r, hle _ _ f1, by rw [setRow_size]; exact f2, f3.keep hle ?_⟩
      rcases hR.sep j i ob o p r hj h3 hp f1 (fun x => h2 x.symm) (.inl hw) with g | g | g
      · exact absurd g (hnp _)
      · exact .inl g
      · exact .inr (setRow_other _ _ _ _ fun e' => g e'.symm)
  · have at_old : ∀ {i : Nat} {r : Place}, i ≠ n → ι.set n p' i = some r → ι i = some r := fun hi h => by
      unfold Inj.set at h; rwa [if_neg hi] at h
    have at_new : ∀ {r : Place}, ι.set n p' n = some r → r = p' := fun h => by rw [Inj.set_self] at h; cases h; rfl
    rcases hkeys i q e1 with ⟨rfl, rfl⟩ | ⟨h1, h2, h3⟩ <;> rcases hkeys k q' e2 with ⟨rfl, rfl⟩ | ⟨k1, k2, k3⟩
    · exact absurd rfl hik
    · have := at_new f1
      subst this
      rw [hb']
      rcases hR.sep j k ob q' p r' hj k3 hp (at_old k1 f2) (fun x => k2 x.symm) (.inl hw) with g | g | g
      · exact absurd g (hnp _)
      · exact .inr (.inl g)
      · exact .inr (.inr g)
    · have := at_new f2
      subst this
      rw [hb']
      rcases hR.sep j i ob q p r hj h3 hp (at_old h1 f1) (fun x => h2 x.symm) (.inl hw) with g | g | g
      · exact absurd g (hnp _)
      · exact .inl g
      · exact .inr (.inr fun e' => g e'.symm)
    · exact hR.sep i k q q' r r' h3 k3 (at_old h1 f1) (at_old k1 f2) hik hwq
/-- A new object that lies nowhere yet. -/
theorem rel_ph {D : Den} (hR : Rel D N w0 ι σ w) (hn : ι n = none) {sz : Nat} (t : Nat) (hpos : 0 < sz) : Rel D N w0 (ι.set n ⟨0, 0, sz, 0, none⟩) (app [(n, some ⟨[], sz, t, true⟩)] σ) w := by
  have hle := Inj.set_le hn ⟨0, 0, sz, 0, none⟩
  have hold : ∀ {i : Nat} {r : Place}, i ≠ n → ι.set n ⟨0, 0, sz, 0, none⟩ i = some r → ι i = some r := fun hi h => by
    unfold Inj.set at h; rwa [if_neg hi] at h
  have hph : ∀ {q : AObj} {r : Place}, app [(n, some ⟨[], sz, t, true⟩)] σ n = some q → ι.set n ⟨0, 0, sz, 0, none⟩ n = some r → Ph q r := fun h1 h2 => by
    rw [Inj.set_self] at h2; cases h2
    simp only [app, if_true] at h1; cases h1
    exact ⟨rfl, rfl⟩
  refine ⟨hR.below, hR.size, fun i o e => ?_, fun i k q q' r r' e1 e2 f1 f2 hik hwq => ?_, fun c v e => by obtain ⟨q, h1, h2⟩ := hR.den c v e; exact ⟨q, hle _ _ h1, h2⟩⟩
  · by_cases hi : i = n
    · subst hi
      simp only [app, if_true] at e; cases e
      exact ⟨_, Inj.set_self _ _ _, .inl ⟨rfl, rfl⟩, rfl, hpos, Nat.zero_le _, fun k e he => by simp at he, fun k e he => by simp at he, fun _ => .inl ⟨rfl, rfl⟩, fun h => by cases h⟩
    · simp only [app, if_neg hi] at e
      obtain ⟨r, f1, f2, f3⟩ := hR.obj i o e
      exact ⟨r, hle _ _ f1, f2, f3.keep hle (.inr rfl)⟩
  · by_cases hi : i = n
    · subst hi; exact .inl (hph e1 f1)
    · by_cases hk : k = n
      · subst hk; exact .inr (.inl (hph e2 f2))
      · simp only [app, if_neg hi] at e1
        simp only [app, if_neg hk] at e2
        exact hR.sep i k q q' r r' e1 e2 (hold hi f1) (hold hk f2) hik hwq
theorem VR_slice2 {ι : Inj} {i o n b q c : Nat} {p : Place} (h : ι i = some p) (hc : o + n ≤ p.cap) (hb : b = p.b) (hq : q = p.off + o * p.sz) (hcc : c = p.cap - o) : VR ι (.slice (some ⟨i, o, none⟩) n 2) (.slice (some ⟨b, q, none⟩) n c) := by
  subst hb hq hcc; exact .sliceM h hc
theorem VR_row2 (ι : Inj) (n : Nat) (p : Place) {len : Nat} (h : len ≤ p.cap) (h0 : p.off = 0) : VR (ι.set n p) (.slice (some ⟨n, 0, none⟩) len 2) (.slice (some ⟨p.b, 0, none⟩) len p.cap) :=
  VR_slice2 (Inj.set_self ι n p) (by omega) rfl (by rw [h0]; simp) (by simp)
/-- append to a slice that has nothing and no room. -/
theorem append_zero (hE : EnvOk P E) {d0 : Delta} (hR : Rel E.den N w0 ι (app d0 σ) w) (hfr : ι n = none) {elem ty : Nat} {ei : TI} {ats : Array TypeId} {args : Array Value} {s' : Value} {base : Option Addr} (hs' : s' = .slice base 0 0) (hpos : 0 < ei.size)
    {xs : List (List Value)} {cs : List Value} {m : Nat} (hm : xs.length = m) (hsm : small m ei.bytes = true) (hxl : ∀ e ∈ xs, e.length = ei.size) (hcs : VRs ι xs.flatten cs) (hone : ∀ e ∈ xs, e.all oneB = true)
    (head : ∀ (base : Option Addr) (sLen sCap : Nat), s' = .slice base sLen sCap → sLen + m ≤ sCap → (Builtin.append_ ats ty args).run P w = ((do
      if let some a := base then storeCells (a.add (sLen * ei.size)) cs
      pure (.slice base (sLen + m) sCap) : Sem Value)).run P w)
    (grow : ∀ (base : Option Addr) (sLen sCap : Nat) (oc : List Value), s' = .slice base sLen sCap → sCap < sLen + m → small (sLen + m) ei.bytes = true →
      (∀ w1 : World, (∀ b : Nat, w1.heap[b]? = w.heap[b]?) → (Builtin.firstCells ei.size sLen s').run P w1 = .ok ⟨oc⟩ w1) →
      ∃ newCap rest, sLen + m ≤ newCap ∧ rest = (newCap - (sLen + m)) * ei.size ∧ ∃ r : Array Value, r.size = rest ∧
      (Builtin.append_ ats ty args).run P w = .ok (.slice (some ⟨w.heap.size, 0, none⟩) (sLen + m) newCap) { w with heap := w.heap.push (.cells (⟨oc⟩ ++ ⟨cs⟩ ++ r) elem (0, 0)), drawn := w.drawn + 1 }) :
    GoodV E.den N w0 ι σ n (n + 1) (.slice (some ⟨n, 0, none⟩) xs.length 2) ((n, some ⟨xs, ei.size, elem, true⟩) :: d0) ((Builtin.append_ ats ty args).run P w) := by
  have hcl : cs.length = m * ei.size := by rw [← hcs.length, flat_length hxl, hm]
  by_cases hx0 : xs = []
  · subst hx0
    have hm0 : m = 0 := by simpa using hm.symm
    subst hm0
    have hcs0 : cs = [] := List.eq_nil_of_length_eq_zero (by rw [hcl]; simp)
    subst hcs0
    rw [head base 0 0 hs' (Nat.le_refl _)]
    refine ⟨w, .slice base 0 0, ι.set n ⟨0, 0, ei.size, 0, none⟩, ?_, Inj.set_le hfr _, fun i => Inj.set_only i, rel_ph hR hfr elem hpos, ?_⟩
    · cases base <;> simp only [Sem.run_bind, storeCells, Sem.run_pure, Result.andThen_ok, Nat.add_zero]
    · cases base with
      | none => exact .sliceMN
      | some a => exact .sliceMZ (Inj.set_self _ _ _) (Nat.le_refl _)
  · have hmpos : 0 < m := by rw [← hm]; exact List.length_pos_iff.2 hx0
    obtain ⟨newCap, rest, hnc, hrest, r, hr, hrun⟩ := grow base 0 0 [] hs' (by omega) (by rw [Nat.zero_add]; exact hsm) (fun w1 _ => by subst hs'; cases base <;> simp [Builtin.firstCells, loadCells, loadCellsFrom])
    rw [hrun]
    simp only [Nat.zero_add] at hnc hrest ⊢
    refine ⟨_, _, ι.set n ⟨w.heap.size, 0, ei.size, newCap, none⟩, rfl, Inj.set_le hfr _, fun i => Inj.set_only i, rel_new (o := ⟨xs, ei.size, elem, true⟩) (p := ⟨w.heap.size, 0, ei.size, newCap, none⟩) hR hfr rfl rfl hpos (by show xs.length ≤ newCap; omega) (fun k e hk => hxl e (List.mem_of_getElem? hk)) ?_ ?_ (FzOk.zero _ _) _, ?_⟩
    · have := holds_flat (rest := r.toList) hxl hone hcs
      simpa using this
    · simp [hr, hrest, hcl]
      rw [Nat.sub_mul, ← Nat.add_sub_assoc (Nat.mul_le_mul_right _ hnc), Nat.add_sub_cancel_left]
      exact Nat.le_refl _
    · rw [← hm] at hnc ⊢
      exact VR_row2 ι n ⟨w.heap.size, 0, ei.size, newCap, none⟩ (by show xs.length ≤ newCap; omega) rfl
theorem append_core23 (hE : EnvOk P E) (hR : Rel E.den N w0 ι σ w) (hn : ∀ i, n ≤ i → i < n' → ι i = none) {t u elem ty : Nat} {ti ui ei : TI} {ats : Array TypeId} {args : Array Value} {s' x' : Value} {j o len c : Nat} (ht : E.ty t = some ti) (hd : ti.d = .slice elem) (hu : E.ty u = some ui) (he : E.ty elem = some ei)
    (h0 : ats[0]? = some t) (h1 : ats[1]? = some u) (h2 : args[0]? = some s') (h3 : args[1]? = some x') (hs : VR ι (.slice (some ⟨j, o, none⟩) len c) s') {xs : List (List Value)} {cs : List Value} {m : Nat} (hm : xs.length = m) (hxl : ∀ e ∈ xs, e.length = ei.size) (hcs : VRs ι xs.flatten cs) (hone : ∀ e ∈ xs, e.all oneB = true)
    (head : ∀ (base : Option Addr) (sLen sCap : Nat), s' = .slice base sLen sCap → sLen + m ≤ sCap → (Builtin.append_ ats ty args).run P w = ((do
      if let some a := base then storeCells (a.add (sLen * ei.size)) cs
      pure (.slice base (sLen + m) sCap) : Sem Value)).run P w)
    (grow : ∀ (base : Option Addr) (sLen sCap : Nat) (oc : List Value), s' = .slice base sLen sCap → sCap < sLen + m → small (sLen + m) ei.bytes = true →
      (∀ w1 : World, (∀ b : Nat, w1.heap[b]? = w.heap[b]?) → (Builtin.firstCells ei.size sLen s').run P w1 = .ok ⟨oc⟩ w1) →
      ∃ newCap rest, sLen + m ≤ newCap ∧ rest = (newCap - (sLen + m)) * ei.size ∧ ∃ r : Array Value, r.size = rest ∧
      (Builtin.append_ ats ty args).run P w = .ok (.slice (some ⟨w.heap.size, 0, none⟩) (sLen + m) newCap) { w with heap := w.heap.push (.cells (⟨oc⟩ ++ ⟨cs⟩ ++ r) elem (0, 0)), drawn := w.drawn + 1 }) (h : (aappend23 elem ei j o len c xs).run n σ = some (v, n', d)) :
    GoodV E.den N w0 ι σ n n' v d ((Builtin.append_ ats ty args).run P w) := by
  have hcl : cs.length = m * ei.size := by rw [← hcs.length, flat_length hxl, hm]
  unfold aappend23 at h
  split at h
  · rename_i hc3
    subst hc3
    split at h
    · rename_i hc
      obtain ⟨rfl, hsm, hpos⟩ := hc
      obtain ⟨rfl, rfl, rfl⟩ := ret_run (fresh_run h)
      have hb : ∃ base, s' = .slice base 0 0 := by cases hs <;> exact ⟨_, rfl⟩
      obtain ⟨base, hb⟩ := hb
      exact append_zero hE (d0 := []) hR (hn _ (Nat.le_refl _) (by omega)) hb hpos hm (by rw [← hm]; exact hsm) hxl hcs hone head grow
    · exact (fail_run h).elim
  split at h
  · rename_i hc3 hc2
    subst hc2
    obtain ⟨ob, ho, h⟩ := get_run h
    obtain ⟨p, g1, g2, g3⟩ := hR.obj _ _ ho
    split at h
    · rename_i hc
      obtain ⟨q1', q2', q3', q4', q5', hw'⟩ := hc
      rw [hm] at q4'
      obtain ⟨rfl, rfl, rfl⟩ := ret_run (fresh_run h)
      have hfr := hn n (Nat.le_refl _) (by omega)
      have hless : ∀ i o', app [(j, none)] σ i = some o' → σ i = some o' := fun i o' e => by
        simp only [app] at e
        split at e
        · cases e
        · exact e
      have hR' : Rel E.den N w0 ι (app [(j, none)] σ) w := hR.less hless
      have zero : ∀ base, s' = .slice base 0 0 → len = 0 → GoodV E.den N w0 ι σ n (n + 1) (.slice (some ⟨n, 0, none⟩) ((ob.es.drop o).take len ++ xs).length 2) [(n, some ⟨(ob.es.drop o).take len ++ xs, ei.size, elem, true⟩), (j, none)] ((Builtin.append_ ats ty args).run P w) := fun base hb h0 => by
        subst h0
        rw [List.take_zero, List.nil_append]
        rw [Nat.zero_add] at q4'
        exact append_zero hE hR' hfr hb q5' hm q4' hxl hcs hone head grow
      obtain ⟨oc, hoc, hocc⟩ := row_of g3 o len
      have hpl : ∀ e ∈ (ob.es.drop o).take len, e.length = ei.size := fun e he => (elems_len g3 e he).trans q1'
      have hpone : ∀ e ∈ (ob.es.drop o).take len, e.all oneB = true := by
        intro e he
        have hm' : e ∈ ob.es := List.mem_of_mem_drop (List.mem_of_mem_take he)
        obtain ⟨k', hk'⟩ := List.getElem?_of_mem hm'
        rw [List.all_eq_true]
        intro y hy
        obtain ⟨j', hj⟩ := List.getElem?_of_mem hy
        obtain ⟨_, _, _, h3⟩ := g3.cell k' e hk' j' y hj
        exact h3
      have hocl : oc.length = len * ei.size := by rw [← hoc.length, flat_length hpl, q2']
      have hpre : ∀ e ∈ (ob.es.drop o).take len ++ xs, e.length = ei.size := fun e he => by
        rcases List.mem_append.1 he with h | h
        · exact hpl e h
        · exact hxl e h
      have hpreone : ∀ e ∈ (ob.es.drop o).take len ++ xs, e.all oneB = true := fun e he => by
        rcases List.mem_append.1 he with h | h
        · exact hpone e h
        · exact hone e h
      have hpc := VRs.flatten_append hoc hcs
      have hlenxs : ((ob.es.drop o).take len ++ xs).length = len + m := by rw [List.length_append, q2', hm]
      cases hs with
      | sliceMN => exact zero none rfl rfl
      | sliceMZ hp hz => exact zero _ rfl rfl
      | sliceM hp hcc' =>
        rw [g1] at hp; cases hp
        by_cases hz : p.cap - o = 0
        · exact zero _ (by rw [hz, show len = 0 by omega]) (by omega)
        obtain ⟨hN, arr, fz, hb, hroom2, hfz⟩ := g3.own hw' (by omega)
        have hsz := g3.sz
        by_cases hin : len + m ≤ p.cap - o
        · have hone' : ∀ v ∈ cs, oneB v = true := by
            intro v hv
            obtain ⟨m', hm'⟩ := List.getElem?_of_mem hv
            obtain ⟨v0, e0, hv0⟩ := hcs.get' m' v hm'
            rw [hv0.oneB]
            have := List.mem_of_getElem? e0
            rw [List.mem_flatten] at this
            obtain ⟨e, he, hve⟩ := this
            exact List.all_eq_true.1 (hone e he) v0 hve
          have hb1 : (o + (len + m)) * ei.size ≤ p.cap * ei.size := Nat.mul_le_mul_right _ (by omega)
          rw [Nat.add_mul, Nat.add_mul] at hb1
          have hb2 : (o + (p.cap - o)) * ei.size = p.cap * ei.size := by congr 1; omega
          rw [Nat.add_mul] at hb2
          rw [hsz, q1'] at hroom2
          have ha : arr.toList.length = arr.size := Array.length_toList
          have ea : p.off + o * p.sz + len * ei.size = p.off + o * ei.size + len * ei.size := by rw [hsz, q1']
          have est := storeCells_run P p.b ob.t.n fz (p.off + o * ei.size + len * ei.size) cs 0 arr w hb hfz.1 (by rw [hcl]; omega) hone'
          rw [head _ _ _ rfl hin]
          simp only [Sem.run_bind, addr_add, ea, est, Result.andThen_ok, Sem.run_pure, Nat.add_zero]
          refine ⟨_, _, ι.set n ⟨p.b, p.off + o * ei.size, ei.size, p.cap - o, none⟩, rfl, Inj.set_le hfr _, fun i => Inj.set_only i, ?_, ?_⟩
          · have hH : Holds ι ei.size ((ob.es.drop o).take len ++ xs) (ov arr.toList (p.off + o * ei.size + len * ei.size) cs) (p.off + o * ei.size) := by
              intro k e he j2 v hv
              have hmem := List.mem_of_getElem? he
              have hj2 : j2 < ei.size := by rw [← hpre e hmem]; exact (List.getElem?_eq_some_iff.1 hv).1
              rw [ov_get (by rw [hcl, ha]; omega)]
              by_cases hk : k < len
              · rw [List.getElem?_append_left (by rw [q2']; exact hk), List.getElem?_take, if_pos hk, List.getElem?_drop] at he
                have := mul_step hk hj2
                rw [if_pos (by omega)]
                obtain ⟨v', f1, f2, f3⟩ := g3.holds hb (o + k) e he j2 v hv
                refine ⟨v', ?_, f2, f3⟩
                rw [← f1, hsz, q1', Nat.add_mul, Nat.add_assoc p.off]
              · rw [List.getElem?_append_right (by rw [q2']; omega), q2'] at he
                have h1 : len * ei.size ≤ k * ei.size := Nat.mul_le_mul_right _ (by omega)
                have hkm : k - len < m := by rw [← hm]; exact (List.getElem?_eq_some_iff.1 he).1
                have h2 := mul_step (sz := ei.size) (show k - len < m from hkm) hj2
                rw [Nat.sub_mul] at h2
                rw [if_neg (by omega), if_pos (by rw [hcl]; omega)]
                have hf := flat_get hxl (k - len) e j2 he hj2
                rw [hv] at hf
                obtain ⟨v', f1, f2⟩ := hcs.get _ _ hf
                refine ⟨v', ?_, f2, List.all_eq_true.1 (hpreone e hmem) v (List.mem_of_getElem? hv)⟩
                rw [← f1]
                congr 1
                rw [Nat.sub_mul]
                omega
            exact rel_regrow hR ho hw' g1 (by omega) hfr (o' := ⟨(ob.es.drop o).take len ++ xs, ei.size, elem, true⟩) (p' := ⟨p.b, p.off + o * ei.size, ei.size, p.cap - o, none⟩) (arr' := ov arr.toList (p.off + o * ei.size + len * ei.size) cs) rfl q3'.symm q1'.symm rfl q5' rfl (by show _ ≤ p.cap - o; rw [hlenxs]; exact hin) (fun k e hk => hpre e (List.mem_of_getElem? hk)) hb (by rw [ov_length (e := arr.toList) (j := p.off + o * ei.size + len * ei.size) (c := cs) (by rw [hcl, ha]; omega), ha]) hH (by show p.off + o * ei.size + (p.cap - o) * ei.size ≤ arr.size; omega)
          · rw [hlenxs]
            exact VR_slice2 (ι := ι.set n ⟨p.b, p.off + o * ei.size, ei.size, p.cap - o, none⟩) (i := n) (o := 0) (Inj.set_self _ _ _) (by show 0 + (len + m) ≤ p.cap - o; omega) rfl (by rw [hsz, q1']; simp) (by simp)
        · have hold : ∀ w1 : World, (∀ b : Nat, w1.heap[b]? = w.heap[b]?) → (Builtin.firstCells ei.size len (.slice (some ⟨p.b, p.off + o * p.sz, none⟩) len (p.cap - o))).run P w1 = .ok ⟨oc⟩ w1 := by
            intro w1 hw1
            have := run_loadCells_list (P := P) w1 ⟨p.b, p.off + o * p.sz, none⟩ oc (fun jj vv hv => by
              have h1 := hocc jj vv hv
              rw [addr_add] at h1 ⊢
              rw [cell_block (hw1 p.b)]
              exact h1)
            rw [hocl] at this
            exact this
          obtain ⟨newCap, rest, hnc, hrest, r, hr, hrun⟩ := grow _ len _ oc rfl (by omega) q4' hold
          rw [hrun]
          refine ⟨_, _, ι.set n ⟨w.heap.size, 0, ei.size, newCap, none⟩, rfl, Inj.set_le hfr _, fun i => Inj.set_only i, ?_, ?_⟩
          · exact rel_new (o := ⟨(ob.es.drop o).take len ++ xs, ei.size, elem, true⟩) (p := ⟨w.heap.size, 0, ei.size, newCap, none⟩) (arr := ⟨oc⟩ ++ ⟨cs⟩ ++ r) (fz := (0, 0)) hR' hfr rfl rfl q5' (by show _ ≤ newCap; rw [hlenxs]; exact hnc) (fun k e hk => hpre e (List.mem_of_getElem? hk)) (by
              have := holds_flat (rest := r.toList) hpre hpreone hpc
              simpa using this) (by
              simp [hr, hrest, hcl, hocl]
              rw [Nat.sub_mul, ← Nat.add_mul, ← Nat.add_sub_assoc (Nat.mul_le_mul_right _ hnc), Nat.add_sub_cancel_left]
              exact Nat.le_refl _) (FzOk.zero _ _) (w.drawn + 1)
          · rw [hlenxs]
            exact VR_row2 ι n ⟨w.heap.size, 0, ei.size, newCap, none⟩ hnc rfl
    · exact (fail_run h).elim
  · exact (fail_run h).elim
theorem append_core (hE : EnvOk P E) (hR : Rel E.den N w0 ι σ w) (hn : ∀ i, n ≤ i → i < n' → ι i = none) {t u elem ty : Nat} {ti ui ei : TI} {ats : Array TypeId} {args : Array Value} {s s' x' : Value} (ht : E.ty t = some ti) (hd : ti.d = .slice elem) (hu : E.ty u = some ui) (he : E.ty elem = some ei)
    (h0 : ats[0]? = some t) (h1 : ats[1]? = some u) (h2 : args[0]? = some s') (h3 : args[1]? = some x') (hs : VR ι s s') {xs : List (List Value)} {cs : List Value} {m : Nat} (hm : xs.length = m) (hxl : ∀ e ∈ xs, e.length = ei.size) (hcs : VRs ι xs.flatten cs) (hone : ∀ e ∈ xs, e.all oneB = true)
    (head : ∀ (base : Option Addr) (sLen sCap : Nat), s' = .slice base sLen sCap → sLen + m ≤ sCap → (Builtin.append_ ats ty args).run P w = ((do
      if let some a := base then storeCells (a.add (sLen * ei.size)) cs
      pure (.slice base (sLen + m) sCap) : Sem Value)).run P w)
    (grow : ∀ (base : Option Addr) (sLen sCap : Nat) (oc : List Value), s' = .slice base sLen sCap → sCap < sLen + m → small (sLen + m) ei.bytes = true →
      (∀ w1 : World, (∀ b : Nat, w1.heap[b]? = w.heap[b]?) → (Builtin.firstCells ei.size sLen s').run P w1 = .ok ⟨oc⟩ w1) →
      ∃ newCap rest, sLen + m ≤ newCap ∧ rest = (newCap - (sLen + m)) * ei.size ∧ ∃ r : Array Value, r.size = rest ∧
      (Builtin.append_ ats ty args).run P w = .ok (.slice (some ⟨w.heap.size, 0, none⟩) (sLen + m) newCap) { w with heap := w.heap.push (.cells (⟨oc⟩ ++ ⟨cs⟩ ++ r) elem (0, 0)), drawn := w.drawn + 1 }) (h : (aappend elem ei s xs).run n σ = some (v, n', d)) :
    GoodV E.den N w0 ι σ n n' v d ((Builtin.append_ ats ty args).run P w) := by
  have hcl : cs.length = m * ei.size := by rw [← hcs.length, flat_length hxl, hm]
  unfold aappend at h
  split at h
  · -- nil
    cases hs
    split at h
    · rename_i hx0
      have hx0' : xs = [] := by simpa using hx0
      subst hx0'
      obtain ⟨rfl, rfl, rfl⟩ := ret_run h
      have hm0 : m = 0 := by simpa using hm.symm
      subst hm0
      rw [head none 0 0 rfl (Nat.le_refl _)]
      exact goodV_same hR .sliceNil
    · rename_i hx0
      split at h
      · rename_i hc
        simp only [Bool.and_eq_true, decide_eq_true_eq] at hc
        obtain ⟨rfl, rfl, rfl⟩ := ret_run (fresh_run h)
        have hmpos : 0 < m := by
          rw [← hm]; exact List.length_pos_iff.2 (by simpa using hx0)
        obtain ⟨newCap, rest, hnc, hrest, r, hr, hrun⟩ := grow none 0 0 [] rfl (by omega) (by rw [Nat.zero_add, ← hm]; exact hc.1) (fun w1 _ => by simp [Builtin.firstCells])
        rw [hrun]
        simp only [Nat.zero_add] at hnc hrest ⊢
        have hfr := hn _ (Nat.le_refl _) (by omega)
        refine ⟨_, _, ι.set n ⟨w.heap.size, 0, ei.size, newCap, none⟩, rfl, Inj.set_le hfr _, fun i => Inj.set_only i, rel_new (o := ⟨xs, ei.size, elem, true⟩) (p := ⟨w.heap.size, 0, ei.size, newCap, none⟩) hR hfr rfl rfl hc.2 (by show xs.length ≤ newCap; omega) (fun k e hk => hxl e (List.mem_of_getElem? hk)) ?_ ?_ (FzOk.zero _ _) _, ?_⟩
        · have := holds_flat (rest := r.toList) hxl hone hcs
          simpa using this
        · simp [hr, hrest, hcl]
          rw [Nat.sub_mul, ← Nat.add_sub_assoc (Nat.mul_le_mul_right _ hnc), Nat.add_sub_cancel_left]
          exact Nat.le_refl _
        · rw [← hm] at hnc ⊢
          exact VR_row ι n ⟨w.heap.size, 0, ei.size, newCap, none⟩ (by show xs.length ≤ newCap; omega) rfl
      · exact (fail_run h).elim
  · rename_i j o len c
    split at h
    · exact append_core23 hE hR hn ht hd hu he h0 h1 h2 h3 hs hm hxl hcs hone head grow h
    rename_i hc2
    have hS0 : ∀ ob, SR ι ob j o len c s' := fun ob => slice_cases hs
    split at h
    · rename_i hx0
      have hx0' : xs = [] := by simpa using hx0
      subst hx0'
      obtain ⟨rfl, rfl, rfl⟩ := ret_run h
      have hm0 : m = 0 := by simpa using hm.symm
      subst hm0
      have hcs0 : cs = [] := by
        have : cs.length = 0 := by rw [hcl]; simp
        exact List.eq_nil_of_length_eq_zero this
      subst hcs0
      have fin : ∀ (ad : Addr) (c' : Nat), s' = .slice (some ad) len c' → len ≤ c' → GoodV E.den N w0 ι σ n' n' (.slice (some ⟨j, o, none⟩) len c) [] ((Builtin.append_ ats ty args).run P w) := by
        intro ad c' hs' hle
        rw [head _ _ _ hs' (by omega)]
        simp only [Sem.run_bind, storeCells, Sem.run_pure, Result.andThen_ok, Nat.add_zero]
        rw [← hs']
        exact goodV_same hR hs
      cases hS0 default with
      | nil _ h23 => omega
      | at_ hp hc hcc e0 e1 => exact fin _ _ rfl (by omega)
      | zero e0 ez e1 => subst e0; exact fin _ _ rfl (Nat.le_refl _)
    · rename_i hx0
      have hmpos : 0 < m := by
        rw [← hm]; exact List.length_pos_iff.2 (by simpa using hx0)
      obtain ⟨ob, ho, hx⟩ := get_run h
      clear h
      have h := hx
      clear hx
      obtain ⟨p, g1, g2, g3⟩ := hR.obj _ _ ho
      split at h
      · exact (fail_run h).elim
      · rename_i hc
        simp only [Bool.or_eq_true, decide_eq_true_eq, not_or, Decidable.not_not, Bool.not_eq_true', Bool.not_eq_false] at hc
        obtain ⟨⟨⟨⟨q1, q2⟩, q3⟩, q4⟩, q5⟩ := hc
        have q1' : ob.sz = ei.size := by simpa using q1
        have q2' : ((ob.es.drop o).take len).length = len := by simpa using q2
        have q3' : ob.t = elem := by simpa using q3
        have q4' : small (len + m) ei.bytes = true := by rw [← hm]; simpa using q4
        have q5' : 0 < ei.size := by simpa using q5
        have hroom : o + len ≤ ob.es.length ∨ len = 0 := by
          simp at q2'; omega
        obtain ⟨oc, hoc, hocc⟩ := row_of g3 o len
        have hpl : ∀ e ∈ (ob.es.drop o).take len, e.length = ei.size := fun e he => (elems_len g3 e he).trans q1'
        have hpone : ∀ e ∈ (ob.es.drop o).take len, e.all oneB = true := by
          intro e he
          have hm' : e ∈ ob.es := List.mem_of_mem_drop (List.mem_of_mem_take he)
          obtain ⟨k', hk'⟩ := List.getElem?_of_mem hm'
          rw [List.all_eq_true]
          intro y hy
          obtain ⟨j', hj⟩ := List.getElem?_of_mem hy
          obtain ⟨_, _, _, h3⟩ := g3.cell k' e hk' j' y hj
          exact h3
        have hocl : oc.length = len * ei.size := by rw [← hoc.length, flat_length hpl, q2']
        have hpre : ∀ e ∈ (ob.es.drop o).take len ++ xs, e.length = ei.size := fun e he => by
          rcases List.mem_append.1 he with h | h
          · exact hpl e h
          · exact hxl e h
        have hpreone : ∀ e ∈ (ob.es.drop o).take len ++ xs, e.all oneB = true := fun e he => by
          rcases List.mem_append.1 he with h | h
          · exact hpone e h
          · exact hone e h
        have hpc := VRs.flatten_append hoc hcs
        -- the old cells
        have hold : ∀ w1 : World, (∀ b : Nat, w1.heap[b]? = w.heap[b]?) → (Builtin.firstCells ei.size len s').run P w1 = .ok ⟨oc⟩ w1 := by
          intro w1 hw1
          cases hS0 ob with
          | nil _ h23 => omega
          | at_ hp hcc' hcc e0 e1 =>
            rw [g1] at hp; cases hp
            have := run_loadCells_list (P := P) w1 ⟨p.b, p.off + o * p.sz, none⟩ oc (fun jj vv hv => by
              have h1 := hocc jj vv hv
              rw [addr_add] at h1 ⊢
              rw [cell_block (hw1 p.b)]
              exact h1)
            rw [hocl] at this
            exact this
          | zero e0 ez e1 =>
            subst e0
            have : oc = [] := List.eq_nil_of_length_eq_zero (by rw [hocl]; simp)
            subst this
            simp [Builtin.firstCells, loadCells, loadCellsFrom]
        -- a new row
        have fresh : ∀ (d0 : Delta) (ad : Addr) (c' : Nat), s' = .slice (some ad) len c' → c' < len + m → (∀ i o', app d0 σ i = some o' → σ i = some o') → v = .slice (some ⟨n, 0, none⟩) ((ob.es.drop o).take len ++ xs).length 0 → d = (n, some ⟨(ob.es.drop o).take len ++ xs, ei.size, elem, true⟩) :: d0 → n' = n + 1 → GoodV E.den N w0 ι σ n n' v d ((Builtin.append_ ats ty args).run P w) := by
          intro d0 ad c' hs' hlt hless hv hdd hnn
          subst hv hdd hnn
          obtain ⟨newCap, rest, hnc, hrest, r, hr, hrun⟩ := grow (some ad) len c' oc hs' hlt q4' hold
          rw [hrun]
          have hfr := hn n (Nat.le_refl _) (by omega)
          have hR' : Rel E.den N w0 ι (app d0 σ) w := hR.less hless
          have hlenxs : ((ob.es.drop o).take len ++ xs).length = len + m := by rw [List.length_append, q2', hm]
          refine ⟨_, _, ι.set n ⟨w.heap.size, 0, ei.size, newCap, none⟩, rfl, Inj.set_le hfr _, fun i => Inj.set_only i, ?_, ?_⟩
          · have := rel_new (o := ⟨(ob.es.drop o).take len ++ xs, ei.size, elem, true⟩) (p := ⟨w.heap.size, 0, ei.size, newCap, none⟩) (arr := ⟨oc⟩ ++ ⟨cs⟩ ++ r) (fz := (0, 0)) hR' hfr rfl rfl q5' (by show _ ≤ newCap; rw [hlenxs]; exact hnc) (fun k e hk => hpre e (List.mem_of_getElem? hk)) (by
              have := holds_flat (rest := r.toList) hpre hpreone hpc
              simpa using this) (by
              simp [hr, hrest, hcl, hocl]
              rw [Nat.sub_mul, ← Nat.add_mul, ← Nat.add_sub_assoc (Nat.mul_le_mul_right _ hnc), Nat.add_sub_cancel_left]
              exact Nat.le_refl _) (FzOk.zero _ _) (w.drawn + 1)
            exact this
          · rw [hlenxs]
            exact VR_row ι n ⟨w.heap.size, 0, ei.size, newCap, none⟩ hnc rfl
        split at h
        · -- a clipped slice
          rename_i hc1
          obtain ⟨hv, hdd, hnn⟩ := ret_run (fresh_run h)
          cases hS0 ob with
          | nil _ h23 => omega
          | at_ hp hcc' hcc e0 e1 => exact fresh [] _ _ rfl (by have := e1 hc1; omega) (fun i o' e => e) hv hdd hnn
          | zero e0 ez e1 => subst e0; exact fresh [] _ _ rfl (by omega) (fun i o' e => e) hv hdd hnn
        · rename_i hc1
          split at h
          · exact (fail_run h).elim
          · rename_i hc0
            simp only [Bool.or_eq_true, decide_eq_true_eq, not_or, Decidable.not_not, Bool.not_eq_true', Bool.not_eq_false] at hc0
            obtain ⟨hc00, hw⟩ := hc0
            have hc00' : c = 0 := by simpa using hc00
            have hw' : ob.w = true := by simpa using hw
            subst hc00'
            split at h
            · -- in place, for sure
              rename_i hfit
              obtain ⟨rfl, rfl, rfl⟩ := ret_run h
              rw [hm] at hfit
              have hcap := g3.cap
              obtain ⟨e1, e2⟩ := write_run (P := P) (o := o + len) hR ho g1 g3 hw' (by have := g3.cap; omega) (by rw [q1']; exact hxl) hone hcs (by rw [hm]; exact hfit)
              cases hS0 ob with
              | nil _ h23 => omega
              | @at_ p' c' hp hcc' hcc e0 _ =>
                rw [g1] at hp; cases hp
                have e0' := e0 rfl
                rw [head _ _ _ rfl (by omega)]
                simp only [Sem.run_bind, addr_add]
                have ea : p.off + o * p.sz + len * ei.size = p.off + (o + len) * p.sz := by rw [Nat.add_mul, g3.sz, q1']; omega
                rw [ea]
                simp only [e1, Result.andThen_ok, Sem.run_pure]
                refine ⟨_, _, ι, rfl, Inj.le_refl _, fun i h => absurd rfl h, e2, ?_⟩
                rw [hm]
                exact VR_slice g1 (by omega) rfl rfl e0'
              | zero e0 ez _ =>
                obtain ⟨p', hp', hz'⟩ := ez rfl
                rw [g1] at hp'; cases hp'
                omega
            · -- grown
              rename_i hfit
              rw [hm] at hfit
              obtain ⟨hv, hdd, hnn⟩ := ret_run (fresh_run h)
              have hless : ∀ i o', app [(j, none)] σ i = some o' → σ i = some o' := fun i o' e => by
                simp only [app] at e
                split at e
                · cases e
                · exact e
              cases hS0 ob with
              | nil _ h23 => omega
              | @at_ p' c' hp hcc' hcc e0 _ =>
                rw [g1] at hp; cases hp
                have e0' := e0 rfl
                by_cases hin : len + m ≤ c'
                · -- there was room
                  subst hv hdd hnn
                  have hfr := hn n (Nat.le_refl _) (by omega)
                  obtain ⟨hN, arr, fz, hb, hroom2, hfz⟩ := g3.own hw' (by omega)
                  have hsz := g3.sz
                  have hone' : ∀ v ∈ cs, oneB v = true := by
                    intro v hv
                    obtain ⟨m', hm'⟩ := List.getElem?_of_mem hv
                    obtain ⟨v0, e0, hv0⟩ := hcs.get' m' v hm'
                    rw [hv0.oneB]
                    have := List.mem_of_getElem? e0
                    rw [List.mem_flatten] at this
                    obtain ⟨e, he, hve⟩ := this
                    exact List.all_eq_true.1 (hone e he) v0 hve
                  have hb1 : (o + (len + m)) * ei.size ≤ p.cap * ei.size := Nat.mul_le_mul_right _ (by omega)
                  rw [Nat.add_mul, Nat.add_mul] at hb1
                  rw [hsz, q1'] at hroom2
                  have ha : arr.toList.length = arr.size := Array.length_toList
                  have ea : p.off + o * p.sz + len * ei.size = p.off + o * ei.size + len * ei.size := by rw [hsz, q1']
                  have est := storeCells_run P p.b ob.t.n fz (p.off + o * ei.size + len * ei.size) cs 0 arr w hb hfz.1 (by rw [hcl]; omega) hone'
                  rw [head _ _ _ rfl hin]
                  simp only [Sem.run_bind, addr_add, ea, est, Result.andThen_ok, Sem.run_pure, Nat.add_zero]
                  refine ⟨_, _, ι.set n ⟨p.b, p.off + o * ei.size, ei.size, c', none⟩, rfl, Inj.set_le hfr _, fun i => Inj.set_only i, ?_, ?_⟩
                  · have hH : Holds ι ei.size ((ob.es.drop o).take len ++ xs) (ov arr.toList (p.off + o * ei.size + len * ei.size) cs) (p.off + o * ei.size) := by
                      intro k e he j2 v hv
                      have hmem := List.mem_of_getElem? he
                      have hj2 : j2 < ei.size := by rw [← hpre e hmem]; exact (List.getElem?_eq_some_iff.1 hv).1
                      rw [ov_get (by rw [hcl, ha]; omega)]
                      by_cases hk : k < len
                      · rw [List.getElem?_append_left (by rw [q2']; exact hk), List.getElem?_take, if_pos hk, List.getElem?_drop] at he
                        have := mul_step hk hj2
                        rw [if_pos (by omega)]
                        obtain ⟨v', f1, f2, f3⟩ := g3.holds hb (o + k) e he j2 v hv
                        refine ⟨v', ?_, f2, f3⟩
                        rw [← f1, hsz, q1', Nat.add_mul, Nat.add_assoc p.off]
                      · rw [List.getElem?_append_right (by rw [q2']; omega), q2'] at he
                        have h1 : len * ei.size ≤ k * ei.size := Nat.mul_le_mul_right _ (by omega)
                        have hkm : k - len < m := by rw [← hm]; exact (List.getElem?_eq_some_iff.1 he).1
                        have h2 := mul_step (sz := ei.size) (show k - len < m from hkm) hj2
                        rw [Nat.sub_mul] at h2
                        rw [if_neg (by omega), if_pos (by rw [hcl]; omega)]
                        have hf := flat_get hxl (k - len) e j2 he hj2
                        rw [hv] at hf
                        obtain ⟨v', f1, f2⟩ := hcs.get _ _ hf
                        refine ⟨v', ?_, f2, List.all_eq_true.1 (hpreone e hmem) v (List.mem_of_getElem? hv)⟩
                        rw [← f1]
                        congr 1
                        rw [Nat.sub_mul]
                        omega
                    have := rel_regrow hR ho hw' g1 (by omega) hfr (o' := ⟨(ob.es.drop o).take len ++ xs, ei.size, elem, true⟩) (p' := ⟨p.b, p.off + o * ei.size, ei.size, c', none⟩) (arr' := ov arr.toList (p.off + o * ei.size + len * ei.size) cs) rfl q3'.symm q1'.symm rfl q5' rfl (by show _ ≤ c'; rw [List.length_append, q2', hm]; exact hin) (fun k e hk => hpre e (List.mem_of_getElem? hk)) hb (by rw [ov_length (e := arr.toList) (j := p.off + o * ei.size + len * ei.size) (c := cs) (by rw [hcl, ha]; omega), ha]) hH (by show p.off + o * ei.size + c' * ei.size ≤ arr.size; rw [e0', Nat.sub_mul]; omega)
                    exact this
                  · have h_ := VR_slice (ι := ι.set n ⟨p.b, p.off + o * ei.size, ei.size, c', none⟩) (i := n) (o := 0) (n := len + m) (b := p.b) (q := p.off + o * p.sz) (c := c') (Inj.set_self _ _ _) (by show 0 + (len + m) ≤ c'; omega) rfl (by rw [hsz, q1']; simp) (by simp)
                    rw [List.length_append, q2', hm]
                    exact h_
                · exact fresh [(j, none)] _ _ rfl (by omega) hless hv hdd hnn
              | zero e0 ez _ => subst e0; exact fresh [(j, none)] _ _ rfl (by omega) hless hv hdd hnn
  · exact (fail_run h).elim
theorem append_run (hE : EnvOk P E) (hR : Rel E.den N w0 ι σ w) (hn : ∀ i, n ≤ i → i < n' → ι i = none) {t u elem ty : Nat} {ti ui ei : TI} {ats : Array TypeId} {args : Array Value} {s s' x' : Value} (ht : E.ty t = some ti) (hd : ti.d = .slice elem) (hu : E.ty u = some ui) (hud : ∀ k, ui.d ≠ .int k) (he : E.ty elem = some ei)
    (h0 : ats[0]? = some t) (h1 : ats[1]? = some u) (h2 : args[0]? = some s') (h3 : args[1]? = some x') (hs : VR ι s s') {xs : List (List Value)} {cs : List Value} {m : Nat} (hm : xs.length = m) (hlen : (Builtin.lenOf x').run P w = .ok m w) (hxl : ∀ e ∈ xs, e.length = ei.size) (hcs : VRs ι xs.flatten cs) (hone : ∀ e ∈ xs, e.all oneB = true)
    (hfc : ∀ q, q ≤ m → ∀ w1 : World, (∀ b : Nat, w1.heap[b]? = w.heap[b]?) → (Builtin.firstCells ei.size q x').run P w1 = .ok ⟨cs.take (q * ei.size)⟩ w1) (h : (aappend elem ei s xs).run n σ = some (v, n', d)) :
    GoodV E.den N w0 ι σ n n' v d ((Builtin.append_ ats ty args).run P w) := by
  have hcl : cs.length = m * ei.size := by rw [← hcs.length, flat_length hxl, hm]
  have hfull : cs.take (m * ei.size) = cs := by rw [← hcl]; simp
  -- the head of the model's append
  have head : ∀ (base : Option Addr) (sLen sCap : Nat), s' = .slice base sLen sCap → sLen + m ≤ sCap → (Builtin.append_ ats ty args).run P w = ((do
      if let some a := base then storeCells (a.add (sLen * ei.size)) cs
      pure (.slice base (sLen + m) sCap) : Sem Value)).run P w := by
    intro base sLen sCap hs' hle
    subst hs'
    unfold Builtin.append_
    have hz : (match ui.d with | .int _ => true | _ => false) = false := by
      cases hk : ui.d <;> simp_all
    simp only [h0, h1, h2, h3, Sem.run_bind, und_run hE w ht, hd, und_run hE w hu, Result.andThen_ok, size_run hE w he, Sem.run_pure]
    cases hk : ui.d <;> first
      | exact absurd hk (hud _)
      | (simp only [hlen, Result.andThen_ok, hle, if_true, Bool.not_false, Bool.false_eq_true, if_false, Sem.run_bind, hfc m (Nat.le_refl _) w (fun _ => rfl), hfull]; cases base <;> rfl)
  have grow : ∀ (base : Option Addr) (sLen sCap : Nat) (oc : List Value), s' = .slice base sLen sCap → sCap < sLen + m → small (sLen + m) ei.bytes = true →
      (∀ w1 : World, (∀ b : Nat, w1.heap[b]? = w.heap[b]?) → (Builtin.firstCells ei.size sLen s').run P w1 = .ok ⟨oc⟩ w1) →
      ∃ newCap rest, sLen + m ≤ newCap ∧ rest = (newCap - (sLen + m)) * ei.size ∧ ∃ r : Array Value, r.size = rest ∧
      (Builtin.append_ ats ty args).run P w = .ok (.slice (some ⟨w.heap.size, 0, none⟩) (sLen + m) newCap) { w with heap := w.heap.push (.cells (⟨oc⟩ ++ ⟨cs⟩ ++ r) elem (0, 0)), drawn := w.drawn + 1 } := by
    intro base sLen sCap oc hs' hlt hsm hold
    subst hs'
    simp only [small, Bool.and_eq_true, decide_eq_true_eq] at hsm
    obtain ⟨inf, hinf, hby⟩ := bytes_run hE w he
    obtain ⟨_, inf2, i1, i2, i3, i4⟩ := hE.ty _ _ he
    have htyp : ∀ w1 : World, (typeInfo elem).run P w1 = .ok inf2 w1 := fun w1 => by simp [typeInfo, i1]
    have hnc := nextcap_le hlt
    have hbig : ¬ Builtin.nextslicecap (sLen + m) sCap * inf2.bytes > 2 ^ 48 := by
      rw [i4]
      have h1 : Builtin.nextslicecap (sLen + m) sCap * ei.bytes ≤ (2 * 1073741824 + 192) * 65536 := Nat.mul_le_mul (by omega) hsm.2
      have : (2 * 1073741824 + 192) * 65536 ≤ 2 ^ 48 := by decide
      omega
    have hmax : ¬ ((sLen + m : Nat) : Int) > IntKind.i64.max := by
      simp only [IntKind.max, IntKind.signed, IntKind.bits]
      simp
      omega
    let q : Question := .appendCap (sLen + m) sCap elem
    let newCap := q.cut (w.tape w.drawn q)
    have hnew : sLen + m ≤ newCap := cut_ge _ _ _ _
    obtain ⟨hz1, hz2, hz3⟩ := hE.zero _ _ he
    have hzsz : ei.zero.cells.size = ei.size := by unfold cellsL at hz2; simpa using hz2
    refine ⟨newCap, _, hnew, rfl, Builtin.zeroCells ei.zero.cells (newCap - (sLen + m)), by simp [Builtin.zeroCells, hzsz], ?_⟩
    unfold Builtin.append_
    simp only [h0, h1, h2, h3, Sem.run_bind, und_run hE w ht, hd, und_run hE w hu, Result.andThen_ok, size_run hE w he, Sem.run_pure]
    have hnle : ¬ sLen + m ≤ sCap := by omega
    have hw1 : ∀ b : Nat, ({ w with drawn := w.drawn + 1 } : World).heap[b]? = w.heap[b]? := fun _ => rfl
    have e1 := hold { w with drawn := w.drawn + 1 } hw1
    have e2 := hfc m (Nat.le_refl _) { w with drawn := w.drawn + 1 } hw1
    rw [hfull] at e2
    have hforced : q.forced = false := rfl
    cases hk : ui.d <;> first
      | exact absurd hk (hud _)
      | (simp only [hlen, Result.andThen_ok, hnle, hmax, false_and, if_false, htyp, hbig, Bool.not_false, Bool.false_eq_true, Sem.run_bind, run_choose, run_askRoom, Sem.run_pure, zero_run hE _ he, newRow, run_newObj]
         rw [if_neg (by rw [show (Question.appendCap (sLen + m) sCap elem).forced = false from rfl]; simp)]
         simp only [Result.andThen_ok, e1, e2, if_true, Sem.run_bind, zero_run hE _ he, Sem.run_pure, htyp, run_askRoom, run_newObj]
         rfl)
  exact append_core hE hR hn ht hd hu he h0 h1 h2 h3 hs hm hxl hcs hone head grow h
end
end Go.Proofs.YtdiofapingdlmaaV
