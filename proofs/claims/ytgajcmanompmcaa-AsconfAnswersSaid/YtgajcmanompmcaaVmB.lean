/- The abstract machine: its operations. -/
import Derived.Test.YtgajcmanompmcaaVmA
set_option linter.unusedVariables false
set_option linter.unusedSimpArgs false
namespace Go.Proofs.YtgajcmanompmcaaV
open Go.RowKit

structure TI where
  d : TypeDesc
  zero : Value
  size : Nat
  bytes : Nat
  eqok : Bool
structure Env where
  ty : Nat → Option TI
  fn : Nat → Option Func
  den : Den := fun _ => none
  bin : BinOp → Value → Value → Option Value := fun _ _ _ => none
  un : UnOp → Value → Option Value := fun _ _ => none
  cvt : IntKind → Value → Option Value := fun _ _ => none
  sfind : Nat → BinOp → List Value → Option Value := fun _ _ _ => none

/-- What an operation does: reads of objects, then a value and what is written. -/
inductive T where
  | fail
  | ret (v : Value) (d : Delta)
  | get (i : Nat) (k : AObj → T)
  | fresh (k : Nat → T)
def T.run : T → Nat → Store → Option (Value × Nat × Delta)
  | .fail, _, _ => none
  | .ret v d, n, _ => some (v, n, d)
  | .get i k, n, σ => match σ i with
    | some o => (k o).run n σ
    | none => none
  | .fresh k, n, σ => (k n).run (n + 1) σ

def isAgg : TypeDesc → Bool
  | .struct _ | .array _ _ => true
  | _ => false
def mkv (d : TypeDesc) (cs : List Value) : Option Value :=
  if isAgg d then some (.agg ⟨cs⟩) else match cs with
    | [v] => some v
    | _ => none
/-- 'e' with 'c' written from cell 'j' on. -/
def ov {α : Type} (e : List α) (j : Nat) (c : List α) : List α := e.take j ++ c ++ e.drop (j + c.length)
def cl0 : Value → Bool
  | .bool _ | .int _ _ | .string _ | .pointer none | .slice none 0 0 | .map none | .nilFunc | .nilIface => true
  | _ => false
def ofSem : Sem Value → T
  | .pure v => .ret v []
  | _ => .fail
def orFail : Option Value → T
  | some v => .ret v []
  | none => .fail
def cellsL (v : Value) : List Value := v.cells.toList

def part (E : Env) (t : Nat) (cs : List Value) (off : Nat) : Option Value :=
  match E.ty t with
  | some i => if isAgg i.d then some (.agg ⟨(cs.drop off).take i.size⟩) else cs[off]?
  | none => none
def afill (place : Nat → Option (Nat × Nat)) (cells : List Value) : List (Nat × Value) → Option (List Value)
  | [] => some cells
  | (i, v) :: rest => match place i with
    | none => none
    | some (off, size) => if v.cells.size ≠ size || off + size > cells.length then none else afill place (ov cells off (cellsL v)) rest
def aparts (size : Nat) (es : List (List Value)) : List (Nat × Value) → Option (List (List Value))
  | [] => some es
  | (i, v) :: rest => if v.cells.size ≠ size || i ≥ es.length || !(cellsL v).all oneB then none else aparts size (es.set i (cellsL v)) rest

/-- Equality, as Go has it. -/
def fieldsEq (E : Env) (R : Nat → Value → Value → Option Bool) (xs ys : List Value) : List Field → Option Bool
    | [] => some true
    | f :: fs => if f.name ≠ "_" then
        match part E f.type xs f.offset, part E f.type ys f.offset with
        | some a, some b => match R f.type a b with
          | some true => fieldsEq E R xs ys fs
          | some false => some false
          | none => none
        | _, _ => none
      else fieldsEq E R xs ys fs
def elemsEq (E : Env) (R : Nat → Value → Value → Option Bool) (elem n : Nat) (xs ys : List Value) (i : Nat) : Nat → Option Bool
    | 0 => some true
    | m + 1 => match part E elem xs (i * n), part E elem ys (i * n) with
      | some a, some b => match R elem a b with
        | some true => elemsEq E R elem n xs ys (i + 1) m
        | some false => some false
        | none => none
      | _, _ => none
def aeq (E : Env) : Nat → Nat → Value → Value → Option Bool
  | 0, _, _, _ => none
  | d + 1, t, x, y =>
    match E.ty t with
    | none => none
    | some i => match i.d, x, y with
      | .int _, .chan (some a), y => match E.bin .eql (.chan (some a)) y with
        | some (.bool b) => some b
        | _ => none
      | .int _, .int k a, .chan (some c) => match E.bin .eql (.int k a) (.chan (some c)) with
        | some (.bool b) => some b
        | _ => none
      | .bool, .bool a, .bool b => some (a == b)
      | .int _, .int k a, .int k' b => if k = k' then some (a == b) else none
      | .string, .string a, .string b => some (a == b)
      | .pointer _, .pointer none, .pointer b => some b.isNone
      | .pointer _, .pointer (some _), .pointer none => some false
      | .interface _, .nilIface, .nilIface => some true
      | .interface _, .nilIface, .iface _ _ => some false
      | .interface _, .iface _ _, .nilIface => some false
      | .struct fields, .agg xs, .agg ys => if i.eqok then fieldsEq E (aeq E d) xs.toList ys.toList fields.toList else none
      | .array len elem, .agg xs, .agg ys => match E.ty elem with
        | some j => elemsEq E (aeq E d) elem j.size xs.toList ys.toList 0 len
        | none => none
      | .slice _, .slice none _ _, .slice none _ _ => some true
      | .slice _, .slice none _ _, .slice (some _) _ c => if c < 2 then some false else none
      | .slice _, .slice (some _) _ c, .slice none _ _ => if c < 2 then some false else none
      | .map _ _, .map none, .map b => some b.isNone
      | .func _ _ _, .nilFunc, .nilFunc => some true
      | .func _ _ _, .nilFunc, .func _ _ _ => some false
      | .func _ _ _, .func _ _ _, .nilFunc => some false
      | _, _, _ => none

def coded : Value → Bool
  | .chan _ => true
  | _ => false
def abin0 (E : Env) (op : BinOp) (t : Nat) (x y : Value) : T :=
  match op, x, y with
  | .shl, .int k a, .int yk b => ofSem (Op.shift .shl k a yk b)
  | .shr, .int k a, .int yk b => ofSem (Op.shift .shr k a yk b)
  | op, .int k a, .int k' b => if k ≠ k' then .fail else match op with
    | .add => ofSem (Op.intArith .add k a b)
    | .sub => ofSem (Op.intArith .sub k a b)
    | .mul => ofSem (Op.intArith .mul k a b)
    | .quo => ofSem (Op.intDiv .quo k a b)
    | .rem => ofSem (Op.intDiv .rem k a b)
    | .and => ofSem (Op.intBits .and k a b)
    | .or => ofSem (Op.intBits .or k a b)
    | .xor => ofSem (Op.intBits .xor k a b)
    | .andNot => ofSem (Op.intBits .andNot k a b)
    | op => ofSem (Op.intCmp op a b)
  | op, .string a, .string b => ofSem (Op.stringOp op a b)
  | .eql, x, y => match aeq E Op.maxDepth t x y with
    | some b => .ret (.bool b) []
    | none => .fail
  | .neq, x, y => match aeq E Op.maxDepth t x y with
    | some b => .ret (.bool !b) []
    | none => .fail
  | _, _, _ => .fail

def abin (E : Env) (op : BinOp) (t : Nat) (x y : Value) : T := if coded x || coded y then orFail (E.bin op x y) else abin0 E op t x y
/-- Where eqGuard says nothing. -/
def guardOk (E : Env) (op : BinOp) (t : Nat) (x y : Operand) (a b : Value) : Bool :=
  match op with
  | .eql | .neq => match a, b with
    | .nilIface, .nilIface => (x matches .const _) || (y matches .const _)
    | .agg _, .agg _ => match E.ty t with
      | some i => i.eqok
      | none => false
    | _, _ => true
  | _ => true

def small (n bytes : Nat) : Bool := decide (n ≤ 1073741824) && decide (bytes ≤ 65536)
/-- The elements that a slice or a string shows, as a row of elements of 'size' cells. -/
def seen (size : Nat) (v : Value) (k : List (List Value) → T) : T :=
  match v with
  | .slice none _ _ => k []
  | .slice (some ⟨i, o, none⟩) n c => if n = 0 then k [] else .get i fun ob =>
      if ob.sz = size ∧ ((ob.es.drop o).take n).length = n then k ((ob.es.drop o).take n) else .fail
  | .string s => if size = 1 then k (s.data.toList.map fun b => [.int .u8 b.toNat]) else .fail
  | _ => .fail
def newRowT (es : List (List Value)) (size : Nat) (t : Nat) (d : Delta) : T := .fresh fun n => .ret (.slice (some ⟨n, 0, none⟩) es.length 0) ((n, some ⟨es, size, t, true⟩) :: d)
/-- A row that may be nothing as yet. -/
def newRow2T (es : List (List Value)) (size : Nat) (t : Nat) (d : Delta) : T := .fresh fun n => .ret (.slice (some ⟨n, 0, none⟩) es.length 2) ((n, some ⟨es, size, t, true⟩) :: d)
/-- .. for slices that may be nil (2), and for those without room (3). -/
def aappend23 (elem : Nat) (i : TI) (j o len c : Nat) (xs : List (List Value)) : T :=
  if c = 3 then (if len = 0 ∧ small xs.length i.bytes = true ∧ 0 < i.size then newRow2T xs i.size elem [] else .fail)
  else if c = 2 then .get j fun ob =>
    if ob.sz = i.size ∧ ((ob.es.drop o).take len).length = len ∧ ob.t = elem ∧ small (len + xs.length) i.bytes = true ∧ 0 < i.size ∧ ob.w = true then newRow2T ((ob.es.drop o).take len ++ xs) i.size elem [(j, none)]
    else .fail
  else .fail
def aappend (elem : Nat) (i : TI) (s : Value) (xs : List (List Value)) : T :=
  match s with
  | .slice none 0 0 => if xs.isEmpty then .ret s [] else if small xs.length i.bytes && decide (0 < i.size) then newRowT xs i.size elem [] else .fail
  | .slice (some ⟨j, o, none⟩) len c =>
    if 2 ≤ c then aappend23 elem i j o len c xs else
    if xs.isEmpty then .ret s [] else
    .get j fun ob =>
      if ob.sz ≠ i.size || ((ob.es.drop o).take len).length ≠ len || ob.t ≠ elem || !small (len + xs.length) i.bytes || !decide (0 < i.size) then .fail
      else if c = 1 then newRowT ((ob.es.drop o).take len ++ xs) i.size elem []
      else if c ≠ 0 || !ob.w then .fail
      else if o + len + xs.length ≤ ob.es.length then .ret (.slice (some ⟨j, o, none⟩) (len + xs.length) 0) [(j, some { ob with es := ov ob.es (o + len) xs })]
      else newRowT ((ob.es.drop o).take len ++ xs) i.size elem [(j, none)]
  | _ => .fail
def acopy (size : Nat) (dst : Value) (n : Nat) (xs : List (List Value)) : T :=
  match dst with
  | .slice none 0 0 => .ret (.int .i64 0) []
  | .slice (some ⟨j, o, none⟩) len c =>
    if (xs.take (min n len)).isEmpty then .ret (.int .i64 (min n len : Nat)) [] else
    .get j fun ob =>
      if ob.sz ≠ size || !ob.w || decide (ob.es.length < o + len) || (xs.take (min n len)).length ≠ min n len then .fail
      else .ret (.int .i64 (min n len : Nat)) [(j, some { ob with es := ov ob.es o (xs.take (min n len)) })]
  | _ => .fail
def aclear (i : TI) (dst : Value) : T :=
  match dst with
  | .slice none _ _ => .ret (.tuple #[]) []
  | .map none => .ret (.tuple #[]) []
  | .slice (some ⟨j, o, none⟩) len c =>
    if len = 0 then .ret (.tuple #[]) [] else
    .get j fun ob =>
      if ob.sz ≠ i.size || !ob.w || decide (ob.es.length < o + len) then .fail
      else .ret (.tuple #[]) [(j, some { ob with es := ov ob.es o (List.replicate len (cellsL i.zero)) })]
  | _ => .fail
def bytesOfL : List (List Value) → ByteArray → Option ByteArray
  | [], s => some s
  | [.int .u8 n] :: r, s => bytesOfL r (s.push (UInt8.ofNat n.toNat))
  | _, _ => none
def astr (v : Value) : T :=
  match v with
  | .slice none _ _ => .ret (.string .empty) []
  | .slice (some ⟨i, o, none⟩) n c => if n = 0 then .ret (.string .empty) [] else .get i fun ob =>
      if ob.sz = 1 ∧ ((ob.es.drop o).take n).length = n then match bytesOfL ((ob.es.drop o).take n) .empty with
        | some s => .ret (.string s) []
        | none => .fail
      else .fail
  | _ => .fail
def bound (v : Option Value) (dflt : Nat) : Option Nat :=
  match v with
  | none => some dflt
  | some (.int _ i) => if 0 ≤ i then some i.toNat else none
  | _ => none
/-- A part of a slice that may be nil (2), or has no room (3). -/
def aslice23 (ei : TI) (i o len c l h : Nat) (hi mx : Option Value) : T :=
  if c = 3 then (if len = 0 ∧ l = 0 ∧ h = 0 ∧ mx = none then .ret (.slice (some ⟨i, o, none⟩) 0 3) [] else .fail)
  else if c = 2 then match mx with
    | none => .get i fun ob => if ob.sz = ei.size ∧ l ≤ h ∧ h ≤ len ∧ o + len ≤ ob.es.length then .ret (.slice (some ⟨i, o + l, none⟩) (h - l) 2) [] else .fail
    | some (.int _ m) => if m = 0 ∧ h = 0 ∧ l = 0 ∧ hi.isSome = true then .get i fun ob => if ob.sz = ei.size then .ret (.slice (some ⟨i, o, none⟩) 0 3) [] else .fail else .fail
    | _ => .fail
  else .fail
def aslice (E : Env) (t : Nat) (x : Value) (lo hi mx : Option Value) : T :=
  match E.ty t with
  | none => .fail
  | some ti => match ti.d, x with
    | .string, .string s => if mx.isSome then .fail else match bound lo 0, bound hi s.size with
      | some l, some h => if l ≤ h && h ≤ s.size then .ret (.string (s.extract l h)) [] else .fail
      | _, _ => .fail
    | .slice elem, .slice none 0 0 => match E.ty elem, bound lo 0, bound hi 0, bound mx 0 with
      | some _, some 0, some 0, some 0 => if mx.isSome && hi.isNone then .fail else .ret x []
      | _, _, _, _ => .fail
    | .slice elem, .slice (some ⟨i, o, none⟩) len c => match E.ty elem, bound lo 0, bound hi len with
      | some ei, some l, some h => if 2 ≤ c then aslice23 ei i o len c l h hi mx else if len == 0 && c == 1 && l == 0 && h == 0 && mx.isNone then .ret (.slice (some ⟨i, o, none⟩) 0 1) [] else .get i fun ob =>
        if ob.sz ≠ ei.size || !decide (l ≤ h) || !decide (h ≤ len ∨ c = 0 ∧ o + h ≤ ob.es.length) || !decide (o + len ≤ ob.es.length) then .fail
        else match mx with
          | none => if c = 0 then .ret (.slice (some ⟨i, o + l, none⟩) (h - l) 0) []
            else if c = 1 ∧ h = len then .ret (.slice (some ⟨i, o + l, none⟩) (h - l) 1) [] else .fail
          | some (.int _ m) => if m = (h : Int) && hi.isSome then .ret (.slice (some ⟨i, o + l, none⟩) (h - l) 1) [] else .fail
          | _ => .fail
      | _, _, _ => .fail
    | _, _ => .fail

/-- A slice with a third bound of its own: nobody reads or writes by it. -/
def ghostOk (E : Env) (t : Nat) (x : Value) (lo hi mx : Option Value) : Option (Nat × Nat × Nat × Nat × Nat × Nat) :=
  match mx, x with
  | some (.int _ m), .slice (some ⟨i, o, none⟩) len c => match E.ty t with
    | some ti => match ti.d, bound lo 0, bound hi len with
      | .slice elem, some l, some h => match E.ty elem with
        | some ei => if decide (l ≤ h) && decide ((h : Int) < m) && decide (m ≤ (len : Int)) && hi.isSome && (Nat.beq c 0 || Nat.beq c 2) then some (i, o, len, l, h, ei.size) else none
        | none => none
      | _, _, _ => none
    | none => none
  | _, _ => none
def aslice2 (E : Env) (t : Nat) (x : Value) (lo hi mx : Option Value) : T :=
  match ghostOk E t x lo hi mx with
  | some (_, _, _, l, h, _) => .fresh fun n => .ret (.slice (some ⟨n, 0, none⟩) (h - l) 0) []
  | none => aslice E t x lo hi mx

def args1 (τ : Nat → Value) : Operand → Option Value
  | .tmp t => some (τ t)
  | .const v => if cl0 v then some v else none
  | .func f => some (.func (.func f) #[] #[])
  | .global _ => none
def ev (τ : Nat → Value) (x : Operand) (k : Value → T) : T :=
  match args1 τ x with
  | some v => k v
  | none => .fail
def evO (τ : Nat → Value) (x : Option Operand) (k : Option Value → T) : T :=
  match x with
  | none => k none
  | some x => ev τ x fun v => k (some v)
def evL (τ : Nat → Value) : List Operand → Option (List Value)
  | [] => some []
  | x :: r => match args1 τ x, evL τ r with
    | some v, some l => some (v :: l)
    | _, _ => none
def evP (τ : Nat → Value) : List (Nat × Operand) → Option (List (Nat × Value))
  | [] => some []
  | (i, x) :: r => match args1 τ x, evP τ r with
    | some v, some l => some ((i, v) :: l)
    | _, _ => none

def amin (op : BinOp) : List Value → Option Value   -- min by .lss, max by .gtr
  | [] => none
  | x :: rest => go x rest
where
  go (x : Value) : List Value → Option Value
    | [] => some x
    | y :: r => match x, y with
      | .int k a, .int _ b => go (.int k (if (if op = .lss then decide (b < a) else decide (a < b)) then b else a)) r
      | _, _ => none

def abuiltin (E : Env) (b : Builtin) (ats : List Nat) (args : List Value) : T :=
  match b, ats, args with
  | .len, t :: _, x :: _ => match E.ty t with
    | some i => match i.d, x with
      | .string, .string s => .ret (.int .i64 s.size) []
      | .array n _, _ => .ret (.int .i64 n) []
      | .slice _, .slice _ n _ => .ret (.int .i64 n) []
      | .map _ _, .map none => .ret (.int .i64 0) []
      | _, _ => .fail
    | none => .fail
  | .min, _, xs => orFail (amin .lss xs)
  | .max, _, xs => orFail (amin .gtr xs)
  | .append, t :: u :: _, s :: x :: _ => match E.ty t, E.ty u with
    | some ti, some ui => match ti.d, ui.d with
      | .slice elem, .int _ => match E.ty elem, x with
        | some ei, .int _ k => if decide (0 < ei.size) && decide (0 ≤ k) && small k.toNat ei.bytes then aappend elem ei s (List.replicate k.toNat (cellsL ei.zero)) else .fail
        | _, _ => .fail
      | .slice elem, _ => match E.ty elem with
        | some ei => if ei.size = 0 then .fail else seen ei.size x fun xs => aappend elem ei s xs
        | none => .fail
      | _, _ => .fail
    | _, _ => .fail
  | .copy, t :: _, d :: x :: _ => match E.ty t with
    | some ti => match ti.d, x with
      | .slice elem, .slice _ n _ => match E.ty elem with
        | some ei => if ei.size = 0 then .fail else seen ei.size x fun xs => acopy ei.size d n xs
        | none => .fail
      | .slice elem, .string s => match E.ty elem with
        | some ei => if ei.size = 0 then .fail else seen ei.size x fun xs => acopy ei.size d s.size xs
        | none => .fail
      | _, _ => .fail
    | none => .fail
  | .clear, t :: _, x :: _ => match E.ty t with
    | some ti => match ti.d with
      | .slice elem => match E.ty elem with
        | some ei => aclear ei x
        | none => .fail
      | _ => .fail
    | none => .fail
  | _, _, _ => .fail

def dec (D : Den) (τ : Nat → Value) : Nat → Value := fun t => match τ t with
  | .chan (some c) => (D c).getD (.chan (some c))
  | v => v
/-- What an operation that may be told by a table reads: which one, its type, its operands. -/
def ovals (τ : Nat → Value) (o : Oper) : Option (Nat × BinOp × Nat × List Value) :=
  match o.op with
  | .index t x y => match args1 τ x, args1 τ y with
    | some a, some b => some (0, .add, t, [a, b])
    | _, _ => none
  | .slice t x (some lo) (some hi) none => match args1 τ x, args1 τ lo, args1 τ hi with
    | some a, some b, some c => some (1, .add, t, [a, b, c])
    | _, _, _ => none
  | .slice t x none (some hi) none => match args1 τ x, args1 τ hi with
    | some a, some c => some (6, .add, t, [a, c])
    | _, _ => none
  | .slice t x (some lo) none none => match args1 τ x, args1 τ lo with
    | some a, some c => some (7, .add, t, [a, c])
    | _, _ => none
  | .binOp op t x y _ => match args1 τ x, args1 τ y with
    | some a, some b => some (2, op, t, [a, b])
    | _, _ => none
  | .call c => match c.callee, c.argTypes.toList, evL τ c.args.toList with
    | .builtin .len, t :: _, some l => some (3, .add, t, l)
    | .builtin .min, _, some l => some (4, .add, 0, l)
    | .builtin .max, _, some l => some (5, .add, 0, l)
    | _, _, _ => none
  | _ => none
def strT (E : Env) (t : Nat) : Bool := match E.ty t with
  | some i => match i.d with
    | .string => true
    | _ => false
  | none => false
def sop (E : Env) (τ : Nat → Value) (o : Oper) : Option Value := match ovals τ o with
  | some (k, op, t, l) => if (l.any coded && (Nat.beq k 2 || Nat.beq k 4 || Nat.beq k 5 || strT E t)) = true then E.sfind k op l else none
  | none => none
/-- All operations but calls of functions. -/
def aop0 (E : Env) (τ : Nat → Value) (o : Oper) : T :=
  match o.op with
  | .move x | .assign x => ev τ x fun v => .ret v []
  | .pick c a b => ev τ c fun
    | .bool true => ev τ a fun v => ev τ b fun _ => .ret v []
    | .bool false => ev τ b fun v => ev τ a fun _ => .ret v []
    | _ => .fail
  | .alloc t => match E.ty t with
    | some i => if decide (0 < i.size) && (cellsL i.zero).length = i.size then .fresh fun n => .ret (.pointer (some ⟨n, 0, some 0⟩)) [(n, some ⟨[cellsL i.zero], i.size, t, true⟩)] else .fail
    | none => .fail
  | .box t x => ev τ x fun v => if decide (0 < (cellsL v).length) && (cellsL v).all oneB then .fresh fun n => .ret (.pointer (some ⟨n, 0, some 0⟩)) [(n, some ⟨[cellsL v], (cellsL v).length, t, true⟩)] else .fail
  | .build t parts => match evP τ parts.toList, E.ty t with
    | some ps, some i => match i.d with
      | .struct fields => match afill (fun k => (fields[k]?).bind fun f => (E.ty f.type).map fun fi => (f.offset, fi.size)) (cellsL i.zero) ps with
        | some cs => if fields.all (fun f => (E.ty f.type).isSome) then .ret (.agg ⟨cs⟩) [] else .fail
        | none => .fail
      | .array _ elem => match E.ty elem with
        | some ei => match afill (fun k => some (k * ei.size, ei.size)) (cellsL i.zero) ps with
          | some cs => .ret (.agg ⟨cs⟩) []
          | none => .fail
        | none => .fail
      | _ => .fail
    | _, _ => .fail
  | .buildSlice t len parts => match evP τ parts.toList, E.ty t with
    | some ps, some i => match i.d with
      | .slice elem => match E.ty elem with
        | some ei => if decide (len * ei.size ≤ 65536) && decide (0 < ei.size) && (cellsL ei.zero).length = ei.size then
            match aparts ei.size (List.replicate len (cellsL ei.zero)) ps with
            | some es => newRowT es ei.size elem []
            | none => .fail
          else .fail
        | none => .fail
      | _ => .fail
    | _, _ => .fail
  | .load t a => ev τ a fun
    | .pointer (some ⟨i, k, some j⟩) => match E.ty t with
      | some ti => .get i fun ob => match ob.es[k]? with
        | some e => if ((e.drop j).take ti.size).length = ti.size then orFail (mkv ti.d ((e.drop j).take ti.size)) else .fail
        | none => .fail
      | none => .fail
    | _ => .fail
  | .store t a x => ev τ a fun
    | .pointer (some ⟨i, k, some j⟩) => ev τ x fun v => match E.ty t with
      | some ti => .get i fun ob => match ob.es[k]? with
        | some e => if decide (j + ti.size ≤ e.length) && (cellsL v).length = ti.size && (cellsL v).all oneB && ob.w then .ret (.tuple #[]) [(i, some { ob with es := ob.es.set k (ov e j (cellsL v)) })] else .fail
        | none => .fail
      | none => .fail
    | _ => .fail
  | .nilCheck x => ev τ x fun
    | .pointer (some a) => .ret (.pointer (some a)) []
    | .func (.func f) a b => .ret (.func (.func f) a b) []
    | _ => .fail
  | .binOp op t x y _ => ev τ x fun a => ev τ y fun b => if guardOk E op t x y a b then abin E op t a b else .fail
  | .unOp op _ x => ev τ x fun
    | .int k n => ofSem (Op.unary op (.int k n))
    | .bool b => ofSem (Op.unary op (.bool b))
    | .chan (some c) => orFail (E.un op (.chan (some c)))
    | _ => .fail
  | .convert src dst x => ev τ x fun v => match E.ty src, E.ty dst with
    | some s, some t => match s.d, t.d, v with
      | _, .int k, .chan (some c) => orFail (E.cvt k (.chan (some c)))
      | _, .int k, .int _ n => .ret (.int k (k.wrap n)) []
      | .string, .string, .string b => .ret (.string b) []
      | _, .slice e, .string b => match E.ty e with
        | some ei => match ei.d with
          | .int .u8 => .fresh fun n => .ret (.slice (some ⟨n, 0, none⟩) b.size 0) [(n, some ⟨b.data.toList.map fun c => [.int .u8 c.toNat], 1, e, true⟩)]
          | _ => .fail
        | none => .fail
      | .slice e, .string, .slice a len c => match E.ty e with
        | some ei => match ei.d with
          | .int .u8 => astr (.slice a len c)
          | _ => .fail
        | none => .fail
      | _, _, _ => .fail
    | _, _ => .fail
  | .makeInterface t x => ev τ x fun v => match E.ty t with
    | some i => match i.d with
      | .interface _ => .fail
      | _ => .ret (.iface t v) []
    | none => .fail
  | .makeFunc fn first captured => match evL τ first.toList, evL τ captured.toList with
    | some a, some b => .ret (.func fn ⟨a⟩ ⟨b⟩) []
    | _, _ => .fail
  | .makeSlice t l c => ev τ l fun
    | .int .i64 n => ev τ c fun
      | .int .i64 m => match E.ty t with
        | some i => match i.d with
          | .slice elem => match E.ty elem with
            | some ei => if decide (0 ≤ n) && decide (n ≤ m) && small m.toNat ei.bytes && decide (0 < ei.size) && (cellsL ei.zero).length = ei.size then newRowT (List.replicate n.toNat (cellsL ei.zero)) ei.size elem [] else .fail
            | none => .fail
          | _ => .fail
        | none => .fail
      | _ => .fail
    | _ => .fail
  | .slice t x lo hi mx => ev τ x fun v => evO τ lo fun l => evO τ hi fun h => evO τ mx fun m => aslice2 E t v l h m
  | .fieldAddr s x f => ev τ x fun
    | .pointer (some ⟨i, k, some j⟩) => match E.ty s with
      | some si => match si.d with
        | .struct fields => match fields[f]? with
          | some fd => match E.ty fd.type with
            | some fi => if fi.size = 0 then .fail else .ret (.pointer (some ⟨i, k, some (j + fd.offset)⟩)) []
            | none => .fail
          | none => .fail
        | _ => .fail
      | none => .fail
    | _ => .fail
  | .field t x f => ev τ x fun
    | .agg cs => match E.ty t with
      | some i => match i.d with
        | .struct fields => match fields[f]? with
          | some fd => orFail (part E fd.type cs.toList fd.offset)
          | none => .fail
        | _ => .fail
      | none => .fail
    | _ => .fail
  | .indexAddr t x ix => ev τ x fun xv => ev τ ix fun
    | .int _ n => match E.ty t with
      | some i => match i.d, xv with
        | .array len elem, .pointer (some ⟨b, k, some j⟩) => match E.ty elem with
          | some ei => if decide (0 ≤ n) && decide (n < len) then .ret (.pointer (some ⟨b, k, some (j + n.toNat * ei.size)⟩)) [] else .fail
          | none => .fail
        | .slice elem, .slice (some ⟨b, o, none⟩) len c => match E.ty elem with
          | some ei => if decide (0 ≤ n) && decide (n < len) then .get b fun ob => if ob.sz = ei.size then .ret (.pointer (some ⟨b, o + n.toNat, some 0⟩)) [] else .fail else .fail
          | none => .fail
        | _, _ => .fail
      | none => .fail
    | _ => .fail
  | .index t x ix => ev τ x fun xv => ev τ ix fun
    | .int _ n => match E.ty t with
      | some i => match i.d, xv with
        | .array len elem, .agg cs => match E.ty elem with
          | some ei => if decide (0 ≤ n) && decide (n < len) then orFail (part E elem cs.toList (n.toNat * ei.size)) else .fail
          | none => .fail
        | .string, .string s => if h : 0 ≤ n ∧ n.toNat < s.size then .ret (.int .u8 ((s[n.toNat]'h.2).toNat : Nat)) [] else .fail
        | _, _ => .fail
      | none => .fail
    | _ => .fail
  | .extract x k => ev τ x fun
    | .tuple vs => orFail vs.toList[k]?
    | _ => .fail
  | .typeAssert x xt asserted ok => ev τ x fun
    | .iface t v => match E.ty asserted with
      | some i => match i.d with
        | .interface _ => .fail
        | _ => if t = asserted then .ret (if ok then .tuple #[v, .bool true] else v) [] else if ok then .ret (.tuple #[i.zero, .bool false]) [] else .fail
      | none => .fail
    | .nilIface => match E.ty asserted with
      | some i => if ok then .ret (.tuple #[i.zero, .bool false]) [] else .fail
      | none => .fail
    | _ => .fail
  | .call c => match c.callee with
    | .builtin b => match evL τ c.args.toList with
      | some args => abuiltin E b c.argTypes.toList args
      | none => .fail
    | _ => .fail
  | _ => .fail
def aop (E : Env) (τ : Nat → Value) (o : Oper) : T := match sop E τ o with
  | some v => .ret v []
  | none => aop0 E τ o
end Go.Proofs.YtgajcmanompmcaaV
