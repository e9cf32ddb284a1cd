/- Ac4: walks through functions of the program, by the calculus; written by a program of this workplace. -/
import Derived.Test.YtgajcmanompmcaaAc5
import Derived.Test.YtgajcmanompmcaaVm6
namespace Go.Proofs.Ytgajcmanompmcaa.Vt
open Go Go.Proofs Go.Proofs.YtgajcmanompmcaaV
set_option maxRecDepth 100000
set_option linter.unusedVariables false
set_option linter.unusedSimpArgs false
theorem w_ne (x : BitVec 32) : ¬ ((x.toNat : Int) = ((x - 1#32).toNat : Int)) := by
  intro h
  rw [BitVec.toNat_sub] at h
  have := x.isLt
  simp at h
  omega
theorem w_eq {x y : BitVec 32} (h : (x.toNat : Int) = (y.toNat : Int)) : x = y := BitVec.eq_of_toNat_eq (by omega)
abbrev xAc41 (bn1 : Nat) (nn : BitVec 32) (kn33 : Nat) (n35 : Nat) : List Value := [(.pointer (some ⟨bn1, 0, some 0⟩)), (.agg ⟨[(.int .i64 193), (.int .i64 0), (W nn), (.int .i64 0), (.int .i64 0), (.int .u32 0), (.string ByteArray.empty), (.int .u32 0), (.int .u32 0), (.int .i64 0), (.int .i64 0), (.slice (some ⟨kn33, 0, none⟩) 3 0), (.slice none 0 0), (.slice none 0 0), (.slice none 0 0)]⟩), (.slice (some ⟨(n35 + 1), 0, none⟩) 1 0)]
abbrev xAc42 (bn1 : Nat) (nn : BitVec 32) (kn61 : Nat) (n63 : Nat) : List Value := [(.pointer (some ⟨bn1, 0, some 0⟩)), (.agg ⟨[(.int .i64 193), (.int .i64 0), (W nn), (.int .i64 0), (.int .i64 0), (.int .u32 0), (.string ByteArray.empty), (.int .u32 0), (.int .u32 0), (.int .i64 0), (.int .i64 0), (.slice (some ⟨kn61, 0, none⟩) 3 0), (.slice none 0 0), (.slice none 0 0), (.slice none 0 0)]⟩), (.slice (some ⟨(n63 + 1), 0, none⟩) 1 0)]
abbrev xAc43 (bn1 : Nat) (nn : BitVec 32) (kn91 : Nat) (n93 : Nat) : List Value := [(.pointer (some ⟨bn1, 0, some 0⟩)), (.agg ⟨[(.int .i64 193), (.int .i64 0), (W nn), (.int .i64 0), (.int .i64 0), (.int .u32 0), (.string ByteArray.empty), (.int .u32 0), (.int .u32 0), (.int .i64 0), (.int .i64 0), (.slice (some ⟨kn91, 0, none⟩) 3 0), (.slice none 0 0), (.slice none 0 0), (.slice none 0 0)]⟩), (.slice (some ⟨(n93 + 1), 0, none⟩) 1 0)]
abbrev xAc44 (bn1 : Nat) (nn : BitVec 32) (kn6 : Nat) (n8 : Nat) : List Value := [(.pointer (some ⟨bn1, 0, some 0⟩)), (.agg ⟨[(.int .i64 193), (.int .i64 0), (W nn), (.int .i64 0), (.int .i64 0), (.int .u32 0), (.string ByteArray.empty), (.int .u32 0), (.int .u32 0), (.int .i64 0), (.int .i64 0), (.slice (some ⟨kn6, 0, none⟩) 3 0), (.slice none 0 0), (.slice none 0 0), (.slice none 0 0)]⟩), (.slice (some ⟨(n8 + 1), 0, none⟩) 1 0)]
abbrev xAc45 (bn1 : Nat) (nn : BitVec 32) (kn61 : Nat) : List Value := [(.pointer (some ⟨bn1, 0, some 0⟩)), (.agg ⟨[(.int .i64 193), (.int .i64 0), (W nn), (.int .i64 0), (.int .i64 0), (.int .u32 0), (.string ByteArray.empty), (.int .u32 0), (.int .u32 0), (.int .i64 0), (.int .i64 0), (.slice (some ⟨kn61, 0, none⟩) 3 0), (.slice none 0 0), (.slice none 0 0), (.slice none 0 0)]⟩)]
abbrev xAc46 (bn1 : Nat) (nn : BitVec 32) (kn91 : Nat) : List Value := [(.pointer (some ⟨bn1, 0, some 0⟩)), (.agg ⟨[(.int .i64 193), (.int .i64 0), (W nn), (.int .i64 0), (.int .i64 0), (.int .u32 0), (.string ByteArray.empty), (.int .u32 0), (.int .u32 0), (.int .i64 0), (.int .i64 0), (.slice (some ⟨kn91, 0, none⟩) 3 0), (.slice none 0 0), (.slice none 0 0), (.slice none 0 0)]⟩)]
abbrev xAc47 (lt : BitVec 32) (ka : Nat) : List Value := [(.bool false), (.agg ⟨[(.int .i64 128), (.int .i64 0), (W lt), (.int .i64 0), (.int .i64 0), (.int .u32 0), (.string ByteArray.empty), (.int .u32 0), (.int .u32 0), (.int .i64 0), (.int .i64 0), (.slice (some ⟨ka, 0, none⟩) 1 0), (.slice none 0 0), (.slice none 0 0), (.slice none 0 0)]⟩), (.bool true)]
abbrev xAc48 (nx : BitVec 32) (nn : BitVec 32) (in102 : Nat) : List Value := [(W (nx + 1#32)), (.int .i64 128), (.int .i64 0), (W nn), (.int .i64 0), (.int .i64 0), (.int .u32 0), (.string ByteArray.empty), (.int .u32 0), (.int .u32 0), (.int .i64 0), (.int .i64 0), (.slice (some ⟨in102, 0, none⟩) 1 0), (.slice none 0 0), (.slice none 0 0), (.slice none 0 0), (.bool true)]
abbrev xAc49 (nx : BitVec 32) (nn : BitVec 32) (in110 : Nat) : List Value := [(W (nx + 1#32)), (.int .i64 128), (.int .i64 0), (W nn), (.int .i64 0), (.int .i64 0), (.int .u32 0), (.string ByteArray.empty), (.int .u32 0), (.int .u32 0), (.int .i64 0), (.int .i64 0), (.slice (some ⟨in110, 0, none⟩) 1 0), (.slice none 0 0), (.slice none 0 0), (.slice none 0 0), (.bool true)]
abbrev xAc410 (nx : BitVec 32) (nn : BitVec 32) (in12 : Nat) : List Value := [(W (nx + 1#32)), (.int .i64 128), (.int .i64 0), (W nn), (.int .i64 0), (.int .i64 0), (.int .u32 0), (.string ByteArray.empty), (.int .u32 0), (.int .u32 0), (.int .i64 0), (.int .i64 0), (.slice (some ⟨in12, 0, none⟩) 1 0), (.slice none 0 0), (.slice none 0 0), (.slice none 0 0), (.bool true)]
abbrev xAc411 (nx : BitVec 32) (nn : BitVec 32) (in17 : Nat) : List Value := [(W (nx + 1#32)), (.int .i64 128), (.int .i64 0), (W nn), (.int .i64 0), (.int .i64 0), (.int .u32 0), (.string ByteArray.empty), (.int .u32 0), (.int .u32 0), (.int .i64 0), (.int .i64 0), (.slice (some ⟨in17, 0, none⟩) 1 0), (.slice none 0 0), (.slice none 0 0), (.slice none 0 0), (.bool true)]
abbrev xAc412 (nx : BitVec 32) (nn : BitVec 32) (in25 : Nat) : List Value := [(W (nx + 1#32)), (.int .i64 128), (.int .i64 0), (W nn), (.int .i64 0), (.int .i64 0), (.int .u32 0), (.string ByteArray.empty), (.int .u32 0), (.int .u32 0), (.int .i64 0), (.int .i64 0), (.slice (some ⟨in25, 0, none⟩) 1 0), (.slice none 0 0), (.slice none 0 0), (.slice none 0 0), (.bool true)]
abbrev xAc413 (nx : BitVec 32) (nn : BitVec 32) (in39 : Nat) : List Value := [(W (nx + 1#32)), (.int .i64 128), (.int .i64 0), (W nn), (.int .i64 0), (.int .i64 0), (.int .u32 0), (.string ByteArray.empty), (.int .u32 0), (.int .u32 0), (.int .i64 0), (.int .i64 0), (.slice (some ⟨in39, 0, none⟩) 1 0), (.slice none 0 0), (.slice none 0 0), (.slice none 0 0), (.bool true)]
abbrev xAc414 (nx : BitVec 32) (nn : BitVec 32) (in44 : Nat) : List Value := [(W (nx + 1#32)), (.int .i64 128), (.int .i64 0), (W nn), (.int .i64 0), (.int .i64 0), (.int .u32 0), (.string ByteArray.empty), (.int .u32 0), (.int .u32 0), (.int .i64 0), (.int .i64 0), (.slice (some ⟨in44, 0, none⟩) 1 0), (.slice none 0 0), (.slice none 0 0), (.slice none 0 0), (.bool true)]
abbrev xAc415 (nx : BitVec 32) (nn : BitVec 32) (in52 : Nat) : List Value := [(W (nx + 1#32)), (.int .i64 128), (.int .i64 0), (W nn), (.int .i64 0), (.int .i64 0), (.int .u32 0), (.string ByteArray.empty), (.int .u32 0), (.int .u32 0), (.int .i64 0), (.int .i64 0), (.slice (some ⟨in52, 0, none⟩) 1 0), (.slice none 0 0), (.slice none 0 0), (.slice none 0 0), (.bool true)]
abbrev xAc416 (nx : BitVec 32) (nn : BitVec 32) (in67 : Nat) : List Value := [(W (nx + 1#32)), (.int .i64 128), (.int .i64 0), (W nn), (.int .i64 0), (.int .i64 0), (.int .u32 0), (.string ByteArray.empty), (.int .u32 0), (.int .u32 0), (.int .i64 0), (.int .i64 0), (.slice (some ⟨in67, 0, none⟩) 1 0), (.slice none 0 0), (.slice none 0 0), (.slice none 0 0), (.bool true)]
abbrev xAc417 (nx : BitVec 32) (nn : BitVec 32) (in72 : Nat) : List Value := [(W (nx + 1#32)), (.int .i64 128), (.int .i64 0), (W nn), (.int .i64 0), (.int .i64 0), (.int .u32 0), (.string ByteArray.empty), (.int .u32 0), (.int .u32 0), (.int .i64 0), (.int .i64 0), (.slice (some ⟨in72, 0, none⟩) 1 0), (.slice none 0 0), (.slice none 0 0), (.slice none 0 0), (.bool true)]
abbrev xAc418 (nx : BitVec 32) (nn : BitVec 32) (in80 : Nat) : List Value := [(W (nx + 1#32)), (.int .i64 128), (.int .i64 0), (W nn), (.int .i64 0), (.int .i64 0), (.int .u32 0), (.string ByteArray.empty), (.int .u32 0), (.int .u32 0), (.int .i64 0), (.int .i64 0), (.slice (some ⟨in80, 0, none⟩) 1 0), (.slice none 0 0), (.slice none 0 0), (.slice none 0 0), (.bool true)]
abbrev xAc419 (nx : BitVec 32) (nn : BitVec 32) (in97 : Nat) : List Value := [(W (nx + 1#32)), (.int .i64 128), (.int .i64 0), (W nn), (.int .i64 0), (.int .i64 0), (.int .u32 0), (.string ByteArray.empty), (.int .u32 0), (.int .u32 0), (.int .i64 0), (.int .i64 0), (.slice (some ⟨in97, 0, none⟩) 1 0), (.slice none 0 0), (.slice none 0 0), (.slice none 0 0), (.bool true)]
abbrev xAc420 : List Value := [(.bool false), (.agg ⟨[(.int .i64 0), (.int .i64 0), (.int .u32 0), (.int .i64 0), (.int .i64 0), (.int .u32 0), (.string ByteArray.empty), (.int .u32 0), (.int .u32 0), (.int .i64 0), (.int .i64 0), (.slice none 0 0), (.slice none 0 0), (.slice none 0 0), (.slice none 0 0)]⟩), (.bool false)]
abbrev xAc421 : List Value := [(.bool true), (.agg ⟨[(.int .i64 0), (.int .i64 0), (.int .u32 0), (.int .i64 0), (.int .i64 0), (.int .u32 0), (.string ByteArray.empty), (.int .u32 0), (.int .u32 0), (.int .i64 0), (.int .i64 0), (.slice none 0 0), (.slice none 0 0), (.slice none 0 0), (.slice none 0 0)]⟩), (.bool false)]
abbrev xAc422 (nx : BitVec 32) (lt : BitVec 32) (ka : Nat) : List Value := [(W nx), (.int .i64 128), (.int .i64 0), (W lt), (.int .i64 0), (.int .i64 0), (.int .u32 0), (.string ByteArray.empty), (.int .u32 0), (.int .u32 0), (.int .i64 0), (.int .i64 0), (.slice (some ⟨ka, 0, none⟩) 1 0), (.slice none 0 0), (.slice none 0 0), (.slice none 0 0), (.bool true)]
abbrev xAc423 (nx : BitVec 32) : List Value := [(W nx), (.int .i64 0), (.int .i64 0), (.int .u32 0), (.int .i64 0), (.int .i64 0), (.int .u32 0), (.string ByteArray.empty), (.int .u32 0), (.int .u32 0), (.int .i64 0), (.int .i64 0), (.slice none 0 0), (.slice none 0 0), (.slice none 0 0), (.slice none 0 0), (.bool false)]
abbrev xAc424 (nn : BitVec 32) (n111 : Nat) : List Value := [(.int .i64 128), (.int .i64 0), (W nn), (.int .i64 0), (.int .i64 0), (.int .u32 0), (.string ByteArray.empty), (.int .u32 0), (.int .u32 0), (.int .i64 0), (.int .i64 0), (.slice (some ⟨(n111 + 1), 0, none⟩) 1 0), (.slice none 0 0), (.slice none 0 0), (.slice none 0 0)]
abbrev xAc425 (nn : BitVec 32) (n13 : Nat) : List Value := [(.int .i64 128), (.int .i64 0), (W nn), (.int .i64 0), (.int .i64 0), (.int .u32 0), (.string ByteArray.empty), (.int .u32 0), (.int .u32 0), (.int .i64 0), (.int .i64 0), (.slice (some ⟨(n13 + 1), 0, none⟩) 1 0), (.slice none 0 0), (.slice none 0 0), (.slice none 0 0)]
abbrev xAc426 (nn : BitVec 32) (n26 : Nat) : List Value := [(.int .i64 128), (.int .i64 0), (W nn), (.int .i64 0), (.int .i64 0), (.int .u32 0), (.string ByteArray.empty), (.int .u32 0), (.int .u32 0), (.int .i64 0), (.int .i64 0), (.slice (some ⟨(n26 + 1), 0, none⟩) 1 0), (.slice none 0 0), (.slice none 0 0), (.slice none 0 0)]
abbrev xAc427 (nn : BitVec 32) (n40 : Nat) : List Value := [(.int .i64 128), (.int .i64 0), (W nn), (.int .i64 0), (.int .i64 0), (.int .u32 0), (.string ByteArray.empty), (.int .u32 0), (.int .u32 0), (.int .i64 0), (.int .i64 0), (.slice (some ⟨(n40 + 1), 0, none⟩) 1 0), (.slice none 0 0), (.slice none 0 0), (.slice none 0 0)]
abbrev xAc428 (nn : BitVec 32) (n53 : Nat) : List Value := [(.int .i64 128), (.int .i64 0), (W nn), (.int .i64 0), (.int .i64 0), (.int .u32 0), (.string ByteArray.empty), (.int .u32 0), (.int .u32 0), (.int .i64 0), (.int .i64 0), (.slice (some ⟨(n53 + 1), 0, none⟩) 1 0), (.slice none 0 0), (.slice none 0 0), (.slice none 0 0)]
abbrev xAc429 (nn : BitVec 32) (n68 : Nat) : List Value := [(.int .i64 128), (.int .i64 0), (W nn), (.int .i64 0), (.int .i64 0), (.int .u32 0), (.string ByteArray.empty), (.int .u32 0), (.int .u32 0), (.int .i64 0), (.int .i64 0), (.slice (some ⟨(n68 + 1), 0, none⟩) 1 0), (.slice none 0 0), (.slice none 0 0), (.slice none 0 0)]
abbrev xAc430 (nn : BitVec 32) (n81 : Nat) : List Value := [(.int .i64 128), (.int .i64 0), (W nn), (.int .i64 0), (.int .i64 0), (.int .u32 0), (.string ByteArray.empty), (.int .u32 0), (.int .u32 0), (.int .i64 0), (.int .i64 0), (.slice (some ⟨(n81 + 1), 0, none⟩) 1 0), (.slice none 0 0), (.slice none 0 0), (.slice none 0 0)]
abbrev xAc431 (nn : BitVec 32) (n98 : Nat) : List Value := [(.int .i64 128), (.int .i64 0), (W nn), (.int .i64 0), (.int .i64 0), (.int .u32 0), (.string ByteArray.empty), (.int .u32 0), (.int .u32 0), (.int .i64 0), (.int .i64 0), (.slice (some ⟨(n98 + 1), 0, none⟩) 1 0), (.slice none 0 0), (.slice none 0 0), (.slice none 0 0)]
abbrev xAc432 (nn : BitVec 32) (in102 : Nat) : List Value := [(.int .i64 128), (.int .i64 0), (W nn), (.int .i64 0), (.int .i64 0), (.int .u32 0), (.string ByteArray.empty), (.int .u32 0), (.int .u32 0), (.int .i64 0), (.int .i64 0), (.slice (some ⟨in102, 0, none⟩) 1 0), (.slice none 0 0), (.slice none 0 0), (.slice none 0 0)]
abbrev xAc433 (nn : BitVec 32) (in110 : Nat) : List Value := [(.int .i64 128), (.int .i64 0), (W nn), (.int .i64 0), (.int .i64 0), (.int .u32 0), (.string ByteArray.empty), (.int .u32 0), (.int .u32 0), (.int .i64 0), (.int .i64 0), (.slice (some ⟨in110, 0, none⟩) 1 0), (.slice none 0 0), (.slice none 0 0), (.slice none 0 0)]
abbrev xAc434 (nn : BitVec 32) (in12 : Nat) : List Value := [(.int .i64 128), (.int .i64 0), (W nn), (.int .i64 0), (.int .i64 0), (.int .u32 0), (.string ByteArray.empty), (.int .u32 0), (.int .u32 0), (.int .i64 0), (.int .i64 0), (.slice (some ⟨in12, 0, none⟩) 1 0), (.slice none 0 0), (.slice none 0 0), (.slice none 0 0)]
abbrev xAc435 (nn : BitVec 32) (in17 : Nat) : List Value := [(.int .i64 128), (.int .i64 0), (W nn), (.int .i64 0), (.int .i64 0), (.int .u32 0), (.string ByteArray.empty), (.int .u32 0), (.int .u32 0), (.int .i64 0), (.int .i64 0), (.slice (some ⟨in17, 0, none⟩) 1 0), (.slice none 0 0), (.slice none 0 0), (.slice none 0 0)]
abbrev xAc436 (nn : BitVec 32) (in25 : Nat) : List Value := [(.int .i64 128), (.int .i64 0), (W nn), (.int .i64 0), (.int .i64 0), (.int .u32 0), (.string ByteArray.empty), (.int .u32 0), (.int .u32 0), (.int .i64 0), (.int .i64 0), (.slice (some ⟨in25, 0, none⟩) 1 0), (.slice none 0 0), (.slice none 0 0), (.slice none 0 0)]
abbrev xAc437 (nn : BitVec 32) (kn33 : Nat) : List Value := [(.int .i64 193), (.int .i64 0), (W nn), (.int .i64 0), (.int .i64 0), (.int .u32 0), (.string ByteArray.empty), (.int .u32 0), (.int .u32 0), (.int .i64 0), (.int .i64 0), (.slice (some ⟨kn33, 0, none⟩) 3 0), (.slice none 0 0), (.slice none 0 0), (.slice none 0 0)]
abbrev xAc438 (nn : BitVec 32) (in39 : Nat) : List Value := [(.int .i64 128), (.int .i64 0), (W nn), (.int .i64 0), (.int .i64 0), (.int .u32 0), (.string ByteArray.empty), (.int .u32 0), (.int .u32 0), (.int .i64 0), (.int .i64 0), (.slice (some ⟨in39, 0, none⟩) 1 0), (.slice none 0 0), (.slice none 0 0), (.slice none 0 0)]
abbrev xAc439 (nn : BitVec 32) (in44 : Nat) : List Value := [(.int .i64 128), (.int .i64 0), (W nn), (.int .i64 0), (.int .i64 0), (.int .u32 0), (.string ByteArray.empty), (.int .u32 0), (.int .u32 0), (.int .i64 0), (.int .i64 0), (.slice (some ⟨in44, 0, none⟩) 1 0), (.slice none 0 0), (.slice none 0 0), (.slice none 0 0)]
abbrev xAc440 (nn : BitVec 32) (in52 : Nat) : List Value := [(.int .i64 128), (.int .i64 0), (W nn), (.int .i64 0), (.int .i64 0), (.int .u32 0), (.string ByteArray.empty), (.int .u32 0), (.int .u32 0), (.int .i64 0), (.int .i64 0), (.slice (some ⟨in52, 0, none⟩) 1 0), (.slice none 0 0), (.slice none 0 0), (.slice none 0 0)]
abbrev xAc441 (nn : BitVec 32) (kn61 : Nat) : List Value := [(.int .i64 193), (.int .i64 0), (W nn), (.int .i64 0), (.int .i64 0), (.int .u32 0), (.string ByteArray.empty), (.int .u32 0), (.int .u32 0), (.int .i64 0), (.int .i64 0), (.slice (some ⟨kn61, 0, none⟩) 3 0), (.slice none 0 0), (.slice none 0 0), (.slice none 0 0)]
abbrev xAc442 (nn : BitVec 32) (in67 : Nat) : List Value := [(.int .i64 128), (.int .i64 0), (W nn), (.int .i64 0), (.int .i64 0), (.int .u32 0), (.string ByteArray.empty), (.int .u32 0), (.int .u32 0), (.int .i64 0), (.int .i64 0), (.slice (some ⟨in67, 0, none⟩) 1 0), (.slice none 0 0), (.slice none 0 0), (.slice none 0 0)]
abbrev xAc443 (nn : BitVec 32) (in72 : Nat) : List Value := [(.int .i64 128), (.int .i64 0), (W nn), (.int .i64 0), (.int .i64 0), (.int .u32 0), (.string ByteArray.empty), (.int .u32 0), (.int .u32 0), (.int .i64 0), (.int .i64 0), (.slice (some ⟨in72, 0, none⟩) 1 0), (.slice none 0 0), (.slice none 0 0), (.slice none 0 0)]
abbrev xAc444 (nn : BitVec 32) (in80 : Nat) : List Value := [(.int .i64 128), (.int .i64 0), (W nn), (.int .i64 0), (.int .i64 0), (.int .u32 0), (.string ByteArray.empty), (.int .u32 0), (.int .u32 0), (.int .i64 0), (.int .i64 0), (.slice (some ⟨in80, 0, none⟩) 1 0), (.slice none 0 0), (.slice none 0 0), (.slice none 0 0)]
abbrev xAc445 (nn : BitVec 32) (kn91 : Nat) : List Value := [(.int .i64 193), (.int .i64 0), (W nn), (.int .i64 0), (.int .i64 0), (.int .u32 0), (.string ByteArray.empty), (.int .u32 0), (.int .u32 0), (.int .i64 0), (.int .i64 0), (.slice (some ⟨kn91, 0, none⟩) 3 0), (.slice none 0 0), (.slice none 0 0), (.slice none 0 0)]
abbrev xAc446 (nn : BitVec 32) (in97 : Nat) : List Value := [(.int .i64 128), (.int .i64 0), (W nn), (.int .i64 0), (.int .i64 0), (.int .u32 0), (.string ByteArray.empty), (.int .u32 0), (.int .u32 0), (.int .i64 0), (.int .i64 0), (.slice (some ⟨in97, 0, none⟩) 1 0), (.slice none 0 0), (.slice none 0 0), (.slice none 0 0)]
abbrev xAc447 (nn : BitVec 32) (n106 : Nat) : List Value := [(.int .i64 128), (.int .i64 0), (W nn), (.int .i64 0), (.int .i64 0), (.int .u32 0), (.string ByteArray.empty), (.int .u32 0), (.int .u32 0), (.int .i64 0), (.int .i64 0), (.slice (some ⟨n106, 0, none⟩) 1 0), (.slice none 0 0), (.slice none 0 0), (.slice none 0 0)]
abbrev xAc448 (nn : BitVec 32) (kn6 : Nat) : List Value := [(.int .i64 193), (.int .i64 0), (W nn), (.int .i64 0), (.int .i64 0), (.int .u32 0), (.string ByteArray.empty), (.int .u32 0), (.int .u32 0), (.int .i64 0), (.int .i64 0), (.slice (some ⟨kn6, 0, none⟩) 3 0), (.slice none 0 0), (.slice none 0 0), (.slice none 0 0)]
abbrev xAc449 (nn : BitVec 32) (n21 : Nat) : List Value := [(.int .i64 128), (.int .i64 0), (W nn), (.int .i64 0), (.int .i64 0), (.int .u32 0), (.string ByteArray.empty), (.int .u32 0), (.int .u32 0), (.int .i64 0), (.int .i64 0), (.slice (some ⟨n21, 0, none⟩) 1 0), (.slice none 0 0), (.slice none 0 0), (.slice none 0 0)]
abbrev xAc450 (nn : BitVec 32) (n48 : Nat) : List Value := [(.int .i64 128), (.int .i64 0), (W nn), (.int .i64 0), (.int .i64 0), (.int .u32 0), (.string ByteArray.empty), (.int .u32 0), (.int .u32 0), (.int .i64 0), (.int .i64 0), (.slice (some ⟨n48, 0, none⟩) 1 0), (.slice none 0 0), (.slice none 0 0), (.slice none 0 0)]
abbrev xAc451 (nn : BitVec 32) (n76 : Nat) : List Value := [(.int .i64 128), (.int .i64 0), (W nn), (.int .i64 0), (.int .i64 0), (.int .u32 0), (.string ByteArray.empty), (.int .u32 0), (.int .u32 0), (.int .i64 0), (.int .i64 0), (.slice (some ⟨n76, 0, none⟩) 1 0), (.slice none 0 0), (.slice none 0 0), (.slice none 0 0)]
abbrev xAc452 (lt : BitVec 32) (kl : Nat) : List Value := [(.int .i64 128), (.int .i64 0), (W lt), (.int .i64 0), (.int .i64 0), (.int .u32 0), (.string ByteArray.empty), (.int .u32 0), (.int .u32 0), (.int .i64 0), (.int .i64 0), (.slice (some ⟨kl, 0, none⟩) 1 0), (.slice none 0 0), (.slice none 0 0), (.slice none 0 0)]
abbrev xAc453 (lt : BitVec 32) (ka : Nat) : List Value := [(.int .i64 128), (.int .i64 0), (W lt), (.int .i64 0), (.int .i64 0), (.int .u32 0), (.string ByteArray.empty), (.int .u32 0), (.int .u32 0), (.int .i64 0), (.int .i64 0), (.slice (some ⟨ka, 0, none⟩) 1 0), (.slice none 0 0), (.slice none 0 0), (.slice none 0 0)]
abbrev xAc454 : List Value := [(.int .i64 0), (.int .i64 0), (.int .u32 0), (.int .i64 0), (.int .i64 0), (.int .u32 0), (.string ByteArray.empty), (.int .u32 0), (.int .u32 0), (.int .i64 0), (.int .i64 0), (.slice none 0 0), (.slice none 0 0), (.slice none 0 0), (.slice none 0 0)]
abbrev xAc455 (nn : BitVec 32) (ws : List I1) (i : Nat) : List Value := [(.int .i64 49155), (.string (bstr ((be4 nn) ++ (pL (andN (ws.getD (i % ws.length) dI1).z 255) []))))]
abbrev xAc456 (ls : List I1) (i : Nat) : List Value := [(.int .i64 (((andN (Int.tmod (ls.getD i dI1).z 3) 1) : Nat) : Int)), (.int .u32 0), (.int .u32 0)]
abbrev xAc457 (ws : List I1) (i : Nat) : List Value := [(.int .i64 (((andN (ws.getD (i % ws.length) dI1).z 255) : Nat) : Int)), (.string ByteArray.empty)]
abbrev xAc458 (nn : BitVec 32) (ws : List I1) (i : Nat) : List Value := [(.int .i64 49155), (.string (bstr (be4 nn ++ pL (andN (ws.getD (i % ws.length) dI1).z 255) [])))]
set_option maxHeartbeats 8000000 in
theorem acLaw {n : Nat} {σ : Store} (hd : Dom n σ) (hn0 : 0 < n) (x : BitVec 32) (lv wv : Value) (ls ws : List I1) (hlv : RowP σ 3 1 lv (ls.map cI1)) (hwv : RowP σ 3 1 wv (ws.map cI1))   : CQ Try.prog noDen 9 [(W x), lv, wv] n σ (fun v n' d => v = .bool true) := by
 refine CQ.body (E := env) env_ok hd rfl rfl (by show _ ≤ _; exact of_decide_eq_true (by kernel_rfl)) ?_
 refine RA.seq hd ?_
 refine RA.region env_ok ?_
 refine OA.p (some 6) (.bool false) rfl rfl rfl rfl ?_
 refine OA.nil ?_
 intro _
 refine RA.seq hd ?_
 refine RA.region env_ok ?_
 refine OA.p (some 20) (W x) rfl rfl rfl rfl ?_
 refine OA.call (dst := (some 21)) (all := [(W x)]) rfl rfl rfl rfl rfl rfl rfl rfl (CQ.imp (aNew (hd.up (by omega)) x) ?_)
 rintro _ n1 _ ⟨bn1, p1n1, p2n1, rfl, rfl⟩ hn1
 refine OA.app1 ?_
 refine OA.p (some 22) (W x) rfl rfl rfl rfl ?_
 refine OA.p (some 7) (Pt bn1 0 0) rfl rfl rfl rfl ?_
 refine OA.p (some 8) (W x) rfl rfl rfl rfl ?_
 refine OA.nil ?_
 intro _
 refine RA.seq hd ?_
 refine RA.region env_ok ?_
 refine OA.p (some 23) (.agg ⟨xAc454⟩) rfl rfl rfl (by kernel_rfl) ?_
 refine OA.op1 (dst := (some 9)) (v := (Pt n1 0 0)) (n1 := (n1 + 1)) (w := (n1, some ⟨[xAc454], 15, 53, true⟩)) rfl rfl rfl rfl (by omega) ?_
 refine OA.op1 (dst := none) (v := (.tuple #[])) (n1 := (n1 + 1)) (w := (n1, some ⟨[xAc454], 15, 53, true⟩)) rfl rfl rfl (r_store rfl rfl rfl rfl rfl rfl rfl get_here rfl rfl (Nat.le_of_ble_eq_true rfl) rfl) (by omega) ?_
 refine OA.p (some 10) (.bool false) rfl rfl rfl rfl ?_
 refine OA.nil ?_
 intro _
 refine RA.weaken (D' := [(n1, some ⟨[xAc454], 15, 53, true⟩), (bn1, some ⟨[[(W x), (.int .i64 0), (.int .i64 0), (.int .u32 0), (.int .i64 0), (.int .i64 0), (.int .u32 0), (.string ByteArray.empty), (.int .u32 0), (.int .u32 0), (.int .i64 0), (.int .i64 0), (.slice none 0 0), (.slice none 0 0), (.slice none 0 0), (.slice none 0 0), (.bool false)]], 17, 103, true⟩)]) hd (Less.of (fac (mm (fun _ => get_here) (fun _ => get_here)) (fac (mm (fun _ => (get_there (by omega) get_here)) (fun _ => (gt2 (by omega) get_here))) fan)) (gone_of (by simp only [goneP, memP, List.cons_append, List.nil_append, true_or, or_true, true_and, and_true, or_false] <;> omega))) ?_
 refine RA.seq hd ?_
 refine RA.seq hd ?_
 refine RA.region env_ok ?_
 refine OA.callP (dst := (some 24)) (all := []) (v := (.bool true)) (hd.of (by omega) (kb2 (by omega))) rfl rfl rfl rfl rfl rfl rfl rfl awakeA ?_
 intro n2 hn2
 refine OA.p (some 25) (.bool false) rfl rfl rfl rfl ?_
 refine OA.nil ?_
 intro _
 refine RA.condF rfl ?_
 refine RA.skip env_ok ?_
 intro _
 refine RA.seq hd ?_
 refine RA.seq hd ?_
 refine RA.region env_ok ?_
 refine OA.p (some 11) (.int .i64 0) rfl rfl rfl rfl ?_
 refine OA.nil ?_
 intro _
 refine RA.block ?_
 refine RA.weaken (D' := [(bn1, some ⟨[[(W x), (.int .i64 0), (.int .i64 0), (.int .u32 0), (.int .i64 0), (.int .i64 0), (.int .u32 0), (.string ByteArray.empty), (.int .u32 0), (.int .u32 0), (.int .i64 0), (.int .i64 0), (.slice none 0 0), (.slice none 0 0), (.slice none 0 0), (.slice none 0 0), (.bool false)]], 17, 103, true⟩), (n1, some ⟨[xAc454], 15, 53, true⟩)]) hd (Less.of (fac (mm (fun _ => get_here) (fun _ => (get_there (by omega) get_here))) (fac (mm (fun _ => (get_there (by omega) get_here)) (fun _ => get_here)) fan)) (gone_of (by simp only [goneP, memP, List.cons_append, List.nil_append, true_or, or_true, true_and, and_true, or_false] <;> omega))) ?_
 refine RA.loop hd (fun kk_ τ n' D => (∃ i : Nat, ∃ nx : BitVec 32, kk_ = (ls.length - i) ∧ n2 ≤ n' ∧ Has τ [(1, lv), (2, wv), (7, (Pt bn1 0 0)), (8, (W nx)), (9, (Pt n1 0 0)), (10, (.bool false)), (11, (.int .i64 ((i : Nat) : Int)))] ∧ D = [(bn1, some ⟨[(xAc423 nx)], 17, 103, true⟩), (n1, some ⟨[xAc454], 15, 53, true⟩)] ∧ (∀ i ∈ keys D, i < n') ∧ i ≤ ls.length) ∨ (∃ i : Nat, ∃ nx : BitVec 32, ∃ lt : BitVec 32, ∃ ka : Nat, ∃ kl : Nat, ∃ t : Int, ∃ u : ByteArray, kk_ = (ls.length - i) ∧ n2 ≤ n' ∧ Has τ [(1, lv), (2, wv), (7, (Pt bn1 0 0)), (8, (W nx)), (9, (Pt n1 0 0)), (10, (.bool true)), (11, (.int .i64 ((i : Nat) : Int)))] ∧ D = [(bn1, some ⟨[(xAc422 nx lt ka)], 17, 103, true⟩), (n1, some ⟨[(xAc452 lt kl)], 15, 53, true⟩), (ka, some ⟨[[(.int .i64 t), (.string u)]], 2, 35, true⟩), (kl, some ⟨[[(.int .i64 t), (.string u)]], 2, 35, true⟩)] ∧ (∀ i ∈ keys D, i < n') ∧ i ≤ ls.length ∧ lt = nx - 1#32 ∧ ka ≠ kl ∧ n1 < ka ∧ n1 < kl)) ((ls.length - 0)) (.inl (⟨0, x, rfl, by omega, ⟨rfl, rfl, rfl, rfl, rfl, rfl, rfl, trivial⟩, rfl, (kb2 (by omega)), by omega⟩)) ?_
 rintro kn3 τ3 n3 Dn3 hSn3
 rcases hSn3 with ⟨i, nx, rfl, hn3, hHn3, rfl, hKn3, hIn3⟩ | ⟨i, nx, lt, ka, kl, t, u, rfl, hn3, hHn3, rfl, hKn3, hIn3⟩
 ·
  rw [Has.eq hHn3]
  have hKn3_0 : bn1 < n3 := hKn3 _ (by simp only [keys, List.map_cons, List.map_nil, List.mem_cons, true_or, or_true])
  have hKn3_1 : n1 < n3 := hKn3 _ (by simp only [keys, List.map_cons, List.map_nil, List.mem_cons, true_or, or_true])
  clear hKn3
  have hil := hIn3
  refine RA.seq hd ?_
  refine RA.seq hd ?_
  refine RA.region env_ok ?_
  refine OA.p (some 26) (.int .i64 ((i : Nat) : Int)) rfl rfl rfl rfl ?_
  refine OA.p (some 27) lv rfl rfl rfl rfl ?_
  refine OA.p (some 28) (.int .i64 ((ls.length : Nat) : Int)) rfl rfl rfl (r_lenP (c := cI1) rfl rfl rfl rfl rfl rfl hlv rfl) ?_
  by_cases hc1 : ((i : Nat) : Int) < ((ls.length : Nat) : Int)
  ·
   obtain ⟨rest1, hat1⟩ := hlv.get (m := i) (by omega)
   have lathat1 := hd.lt hat1
   refine OA.p (some 29) (.bool true) rfl rfl rfl (Eq.trans (r_bin rfl rfl rfl (b_lss rfl)) (dT hc1)) ?_
   refine OA.p (some 30) (.bool true) rfl rfl rfl rfl ?_
   refine OA.p (some 31) (.int .i64 ((i : Nat) : Int)) rfl rfl rfl rfl ?_
   by_cases hc2 : ((i : Nat) : Int) < 40
   ·
    refine OA.p (some 32) (.bool true) rfl rfl rfl (Eq.trans (r_bin rfl rfl rfl (b_lss rfl)) (dT hc2)) ?_
    refine OA.p (some 33) (.bool true) rfl rfl rfl rfl ?_
    refine OA.nil ?_
    intro _
    refine RA.condT rfl ?_
    refine RA.skip env_ok ?_
    intro _
    refine RA.seq hd ?_
    refine RA.block ?_
    refine RA.seq hd ?_
    refine RA.region env_ok ?_
    refine OA.p (some 36) (W nx) rfl rfl rfl rfl ?_
    refine OA.p (some 37) lv rfl rfl rfl rfl ?_
    refine OA.p (some 38) (.int .i64 ((i : Nat) : Int)) rfl rfl rfl rfl ?_
    refine OA.p (some 39) (.pointer (some ⟨(rk lv), i, some 0⟩)) rfl rfl rfl (r_iaP (c := cI1) (m := i) rfl rfl rfl rfl rfl rfl hlv rfl (by omega) (gt2 (by omega) hat1) rfl) ?_
    refine OA.p (some 40) (.int .i64 (ls.getD i dI1).z) rfl rfl rfl (r_load1 (e := cI1 (ls.getD i dI1)) rfl rfl rfl rfl rfl (gt2 (by omega) hat1) (mp_getA (by omega)) rfl) ?_
    refine OA.p (some 41) (.int .i64 (Int.tmod (ls.getD i dI1).z 3)) rfl rfl rfl (r_bin rfl rfl rfl (b_rem (by decide) rfl)) ?_
    refine OA.p (some 42) (W (BitVec.ofInt 32 (Int.tmod (ls.getD i dI1).z 3))) rfl rfl rfl (r_cvt rfl rfl rfl rfl rfl ⟨_, rfl⟩ (wrap_ofInt32 _)) ?_
    refine OA.p (some 43) (W (nx + (BitVec.ofInt 32 (Int.tmod (ls.getD i dI1).z 3)))) rfl rfl rfl (r_bin rfl rfl rfl (b_addW nx (BitVec.ofInt 32 (Int.tmod (ls.getD i dI1).z 3)))) ?_
    refine OA.p (some 44) (W ((nx + (BitVec.ofInt 32 (Int.tmod (ls.getD i dI1).z 3))) - (1#32))) rfl rfl rfl (r_bin rfl rfl rfl (b_subW (nx + (BitVec.ofInt 32 (Int.tmod (ls.getD i dI1).z 3))) (1#32))) ?_
    refine OA.p (some 12) (W ((nx + (BitVec.ofInt 32 (Int.tmod (ls.getD i dI1).z 3))) - (1#32))) rfl rfl rfl rfl ?_
    refine OA.nil ?_
    intro _
    obtain ⟨nn, hnn⟩ : ∃ nn : BitVec 32, nn = ((nx + (BitVec.ofInt 32 (Int.tmod (ls.getD i dI1).z 3))) - (1#32)) := ⟨_, rfl⟩
    rw [← hnn]
    refine RA.seq hd ?_
    refine RA.region env_ok ?_
    refine OA.p (some 45) (W nn) rfl rfl rfl rfl ?_
    refine OA.p (some 46) lv rfl rfl rfl rfl ?_
    refine OA.p (some 47) (.int .i64 ((i : Nat) : Int)) rfl rfl rfl rfl ?_
    refine OA.p (some 48) (.pointer (some ⟨(rk lv), i, some 0⟩)) rfl rfl rfl (r_iaP (c := cI1) (m := i) rfl rfl rfl rfl rfl rfl hlv rfl (by omega) (gt2 (by omega) hat1) rfl) ?_
    refine OA.p (some 49) (.int .i64 (ls.getD i dI1).z) rfl rfl rfl (r_load1 (e := cI1 (ls.getD i dI1)) rfl rfl rfl rfl rfl (gt2 (by omega) hat1) (mp_getA (by omega)) rfl) ?_
    refine OA.p (some 50) (.int .i64 (Int.tmod (ls.getD i dI1).z 3)) rfl rfl rfl (r_bin rfl rfl rfl (b_rem (by decide) rfl)) ?_
    have hm4 := andN_le (Int.tmod (ls.getD i dI1).z 3) 1 (by decide)
    refine OA.p (some 51) (.int .i64 (((andN (Int.tmod (ls.getD i dI1).z 3) 1) : Nat) : Int)) rfl rfl rfl (r_bin rfl rfl rfl (b_andN (Int.tmod (ls.getD i dI1).z 3) 1 (by decide))) ?_
    refine OA.p (some 52) (.agg ⟨(xAc456 ls i)⟩) rfl rfl rfl (by kernel_rfl) ?_
    by_cases hc3 : (andN (Int.tmod (ls.getD i dI1).z 3) 1) = 0
    ·
     refine OA.callP (dst := (some 53)) (all := [(.agg ⟨(xAc456 ls i)⟩)]) (v := (.agg ⟨[(.int .i64 49153), (.int .u32 0), (.int .u32 0)]⟩)) (hd.of (by omega) (kb2 (by omega))) rfl rfl rfl rfl rfl rfl rfl rfl (aKindZ0 (andN (Int.tmod (ls.getD i dI1).z 3) 1) (by omega)) ?_
     intro n5 hn5
     refine OA.call (dst := (some 54)) (all := [(W nn), (.agg ⟨[(.int .i64 49153), (.int .u32 0), (.int .u32 0)]⟩), (.int .u32 3), (.int .u32 4)]) rfl rfl rfl rfl rfl rfl rfl rfl (CQ.imp (aChunk49153 (hd.of (by omega) (kb2 (by omega))) nn) ?_)
     rintro _ n6 _ ⟨kn6, p1n6, p2n6, rfl, rfl⟩ hn6
     refine OA.app1 ?_
     refine OA.op1 (dst := (some 13)) (v := (Pt n6 0 0)) (n1 := (n6 + 1)) (w := (n6, some ⟨[xAc454], 15, 53, true⟩)) rfl rfl rfl rfl (by omega) ?_
     refine OA.op1 (dst := none) (v := (.tuple #[])) (n1 := (n6 + 1)) (w := (n6, some ⟨[(xAc448 nn kn6)], 15, 53, true⟩)) rfl rfl rfl (r_store rfl rfl rfl rfl rfl rfl rfl get_here rfl rfl (Nat.le_of_ble_eq_true rfl) rfl) (by omega) ?_
     refine OA.nil ?_
     intro _
     refine RA.weaken (D' := [(n6, some ⟨[(xAc448 nn kn6)], 15, 53, true⟩), (kn6, some ⟨[[(.int .i64 5), (.string (bstr (be4 0#32)))], [(.int .i64 49153), (.string (bstr (be4 nn ++ (be2 5 ++ (be2 8 ++ (be4 0#32 ++ []))))))], [(.int .i64 49160), (.string (bstr ((be4 nn ++ be4 3#32) ++ be4 4#32)))]], 2, 35, true⟩), (bn1, some ⟨[(xAc423 nx)], 17, 103, true⟩), (n1, some ⟨[xAc454], 15, 53, true⟩)]) hd (Less.of (fac (mm (fun _ => get_here) (fun _ => get_here)) (fac (mm (fun _ => (get_there (by omega) get_here)) (fun _ => (gt2 (by omega) get_here))) (fac (mm (fun _ => (gt2 (by omega) get_here)) (fun _ => (gt3 (by omega) get_here))) (fac (mm (fun _ => (gt3 (by omega) get_here)) (fun _ => (gt4 (by omega) get_here))) fan)))) (gone_of (by simp only [goneP, memP, List.cons_append, List.nil_append, true_or, or_true, true_and, and_true, or_false] <;> omega))) ?_
     refine RA.rebase [(1, lv), (2, wv), (7, (Pt bn1 0 0)), (8, (W nx)), (9, (Pt n1 0 0)), (10, (.bool false)), (11, (.int .i64 ((i : Nat) : Int))), (12, (W nn)), (13, (Pt n6 0 0)), (33, (.bool true))] ⟨rfl, rfl, rfl, rfl, rfl, rfl, rfl, rfl, rfl, rfl, trivial⟩ (fun τr7 => ?_)
     refine RA.seq hd ?_
     refine RA.region env_ok ?_
     refine OA.p (some 56) (Pt bn1 0 0) rfl rfl rfl rfl ?_
     refine OA.p (some 57) (.agg ⟨(xAc448 nn kn6)⟩) rfl rfl rfl (r_loadA rfl rfl rfl rfl get_here rfl rfl rfl) ?_
     by_cases hc4 : (nn.toNat : Int) = (nx.toNat : Int)
     ·
      refine OA.callP (dst := (some 58)) (all := [(Pt bn1 0 0), (.agg ⟨(xAc448 nn kn6)⟩)]) (v := (.tuple ⟨xAc421⟩)) (hd.of (by omega) (kb4 (by omega))) rfl rfl rfl rfl rfl rfl rfl rfl (aTakeN nn nx bn1 kn6 hc4 (gt2 (by omega) get_here)) ?_
      intro n8 hn8
      refine OA.p (some 55) (.tuple ⟨xAc421⟩) rfl rfl rfl rfl ?_
      refine OA.p (some 59) (.bool true) rfl rfl rfl rfl ?_
      refine OA.p (some 60) (.agg ⟨xAc454⟩) rfl rfl rfl rfl ?_
      refine OA.p (some 61) (.bool false) rfl rfl rfl rfl ?_
      refine OA.op1 (dst := (some 15)) (v := (Pt n8 0 0)) (n1 := (n8 + 1)) (w := (n8, some ⟨[xAc454], 15, 53, true⟩)) rfl rfl rfl rfl (by omega) ?_
      refine OA.p (some 14) (.bool true) rfl rfl rfl rfl ?_
      refine OA.op1 (dst := none) (v := (.tuple #[])) (n1 := (n8 + 1)) (w := (n8, some ⟨[xAc454], 15, 53, true⟩)) rfl rfl rfl (r_store rfl rfl rfl rfl rfl rfl rfl get_here rfl rfl (Nat.le_of_ble_eq_true rfl) rfl) (by omega) ?_
      refine OA.p (some 16) (.bool false) rfl rfl rfl rfl ?_
      refine OA.nil ?_
      intro _
      refine RA.weaken (D' := [(n8, some ⟨[xAc454], 15, 53, true⟩), (n6, some ⟨[(xAc448 nn kn6)], 15, 53, true⟩), (kn6, some ⟨[[(.int .i64 5), (.string (bstr (be4 0#32)))], [(.int .i64 49153), (.string (bstr (be4 nn ++ (be2 5 ++ (be2 8 ++ (be4 0#32 ++ []))))))], [(.int .i64 49160), (.string (bstr ((be4 nn ++ be4 3#32) ++ be4 4#32)))]], 2, 35, true⟩), (bn1, some ⟨[(xAc423 nx)], 17, 103, true⟩), (n1, some ⟨[xAc454], 15, 53, true⟩)]) hd (Less.of (fac (mm (fun _ => get_here) (fun _ => get_here)) (fac (mm (fun _ => (get_there (by omega) get_here)) (fun _ => (gt2 (by omega) get_here))) (fac (mm (fun _ => (gt2 (by omega) get_here)) (fun _ => (gt3 (by omega) get_here))) (fac (mm (fun _ => (gt3 (by omega) get_here)) (fun _ => (gt4 (by omega) get_here))) (fac (mm (fun _ => (gt4 (by omega) get_here)) (fun _ => (gt5 (by omega) get_here))) fan))))) (gone_of (by simp only [goneP, memP, List.cons_append, List.nil_append, true_or, or_true, true_and, and_true, or_false] <;> omega))) ?_
      refine RA.seq hd ?_
      refine RA.seq hd ?_
      refine RA.region env_ok ?_
      refine OA.p (some 62) (.bool true) rfl rfl rfl rfl ?_
      refine OA.p (some 63) (W nn) rfl rfl rfl rfl ?_
      refine OA.p (some 64) (W nx) rfl rfl rfl rfl ?_
      refine OA.p (some 65) (.bool true) rfl rfl rfl (Eq.trans (r_bin rfl rfl rfl (b_eql rfl)) (dT hc4)) ?_
      refine OA.p (some 66) (.bool false) rfl rfl rfl rfl ?_
      refine OA.p (some 67) (.bool false) rfl rfl rfl rfl ?_
      refine OA.p (some 68) (.bool false) rfl rfl rfl rfl ?_
      refine OA.p (some 69) (.bool false) rfl rfl rfl rfl ?_
      refine OA.p (some 70) (.bool false) rfl rfl rfl rfl ?_
      refine OA.off (dst := (some 71)) rfl rfl rfl ?_
      refine OA.off (dst := (some 72)) rfl rfl rfl ?_
      refine OA.off (dst := (some 73)) rfl rfl rfl ?_
      refine OA.off (dst := (some 74)) rfl rfl rfl ?_
      refine OA.p (some 75) (.bool false) rfl rfl rfl rfl ?_
      refine OA.p (some 76) (.bool false) rfl rfl rfl rfl ?_
      refine OA.p (some 77) (.bool false) rfl rfl rfl rfl ?_
      refine OA.p (some 78) (.bool false) rfl rfl rfl rfl ?_
      refine OA.p (some 79) (.bool false) rfl rfl rfl rfl ?_
      refine OA.p (some 80) (.bool false) rfl rfl rfl rfl ?_
      refine OA.off (dst := (some 81)) rfl rfl rfl ?_
      refine OA.off (dst := (some 82)) rfl rfl rfl ?_
      refine OA.off (dst := (some 83)) rfl rfl rfl ?_
      refine OA.off (dst := (some 84)) rfl rfl rfl ?_
      refine OA.p (some 85) (.bool false) rfl rfl rfl rfl ?_
      refine OA.p (some 86) (.bool false) rfl rfl rfl rfl ?_
      refine OA.nil ?_
      intro _
      refine RA.rebase [(1, lv), (2, wv), (7, (Pt bn1 0 0)), (8, (W nx)), (9, (Pt n1 0 0)), (10, (.bool false)), (11, (.int .i64 ((i : Nat) : Int))), (12, (W nn)), (13, (Pt n6 0 0)), (14, (.bool true)), (15, (Pt n8 0 0)), (16, (.bool false)), (33, (.bool true)), (86, (.bool false))] ⟨rfl, rfl, rfl, rfl, rfl, rfl, rfl, rfl, rfl, rfl, rfl, rfl, rfl, rfl, trivial⟩ (fun τr9 => ?_)
      refine RA.condF rfl ?_
      refine RA.skip env_ok ?_
      intro _
      refine RA.seq hd ?_
      refine RA.seq hd ?_
      refine RA.region env_ok ?_
      refine OA.p (some 87) (.bool true) rfl rfl rfl rfl ?_
      refine OA.p (some 88) (.bool false) rfl rfl rfl rfl ?_
      refine OA.nil ?_
      intro _
      refine RA.condF rfl ?_
      refine RA.skip env_ok ?_
      intro _
      refine RA.seq hd ?_
      refine RA.region env_ok ?_
      refine OA.p (some 17) (.int .i64 0) rfl rfl rfl rfl ?_
      refine OA.nil ?_
      intro _
      refine RA.seq hd ?_
      refine RA.seq hd ?_
      refine RA.region env_ok ?_
      refine OA.p (some 89) wv rfl rfl rfl rfl ?_
      refine OA.p (some 90) (.int .i64 ((ws.length : Nat) : Int)) rfl rfl rfl (r_lenP (c := cI1) rfl rfl rfl rfl rfl rfl hwv rfl) ?_
      by_cases hc5 : 0 < ((ws.length : Nat) : Int)
      ·
       have hml := Nat.mod_lt i (show 0 < ws.length by omega)
       obtain ⟨rest2, hat2⟩ := hwv.get (m := (i % ws.length)) (by omega)
       have lathat2 := hd.lt hat2
       refine OA.p (some 91) (.bool true) rfl rfl rfl (Eq.trans (r_bin rfl rfl rfl (b_gtr rfl)) (dT hc5)) ?_
       refine OA.nil ?_
       intro _
       refine RA.condT rfl ?_
       refine RA.region env_ok ?_
       refine OA.p (some 92) wv rfl rfl rfl rfl ?_
       refine OA.p (some 93) (.int .i64 ((i : Nat) : Int)) rfl rfl rfl rfl ?_
       refine OA.p (some 94) wv rfl rfl rfl rfl ?_
       refine OA.p (some 95) (.int .i64 ((ws.length : Nat) : Int)) rfl rfl rfl (r_lenP (c := cI1) rfl rfl rfl rfl rfl rfl hwv rfl) ?_
       have hmd10 := Nat.mod_lt i (show 0 < ws.length by omega)
       refine OA.p (some 96) (.int .i64 (((i % ws.length) : Nat) : Int)) rfl rfl rfl (r_bin rfl rfl rfl (b_remN (a := i) (c := ws.length) (by omega))) ?_
       refine OA.p (some 97) (.pointer (some ⟨(rk wv), (i % ws.length), some 0⟩)) rfl rfl rfl (r_iaP (c := cI1) (m := (i % ws.length)) rfl rfl rfl rfl rfl rfl hwv rfl (by omega) (gt5 (by omega) hat2) rfl) ?_
       refine OA.p (some 98) (.int .i64 (ws.getD (i % ws.length) dI1).z) rfl rfl rfl (r_load1 (e := cI1 (ws.getD (i % ws.length) dI1)) rfl rfl rfl rfl rfl (gt5 (by omega) hat2) (mp_getA (by omega)) rfl) ?_
       have hm11 := andN_le (ws.getD (i % ws.length) dI1).z 255 (by decide)
       refine OA.p (some 99) (.int .i64 (((andN (ws.getD (i % ws.length) dI1).z 255) : Nat) : Int)) rfl rfl rfl (r_bin rfl rfl rfl (b_andN (ws.getD (i % ws.length) dI1).z 255 (by decide))) ?_
       refine OA.p (some 17) (.int .i64 (((andN (ws.getD (i % ws.length) dI1).z 255) : Nat) : Int)) rfl rfl rfl rfl ?_
       refine OA.nil ?_
       intro _
       refine RA.seq hd ?_
       refine RA.region env_ok ?_
       refine OA.p (some 100) (Pt bn1 0 0) rfl rfl rfl rfl ?_
       refine OA.p (some 101) (.agg ⟨(xAc448 nn kn6)⟩) rfl rfl rfl (r_loadA rfl rfl rfl rfl (get_there (by omega) get_here) rfl rfl rfl) ?_
       refine OA.p (some 102) (.int .i64 (((andN (ws.getD (i % ws.length) dI1).z 255) : Nat) : Int)) rfl rfl rfl rfl ?_
       refine OA.op1 (dst := (some 103)) (v := (.slice (some ⟨(n8 + 1), 0, none⟩) 1 0)) (n1 := (n8 + 2)) (w := ((n8 + 1), some ⟨[[(.int .i64 (((andN (ws.getD (i % ws.length) dI1).z 255) : Nat) : Int))]], 1, 3, true⟩)) rfl rfl rfl (by kernel_rfl) (by omega) ?_
       by_cases hc6 : (andN (ws.getD (i % ws.length) dI1).z 255) = 0
       ·
        refine OA.call (dst := (some 104)) (all := (xAc44 bn1 nn kn6 n8)) rfl rfl rfl rfl rfl rfl rfl rfl (CQ.imp (aGive491530F (hd.of (by omega) (kb6 (by omega))) nn nx  bn1 kn6 (n8 + 1)   (gt4 (by omega) get_here) (gt3 (by omega) get_here) (Eq.trans get_here (congrArg (fun z : Nat => some (AObj.mk [[.int .i64 ((z : Nat) : Int)]] 1 3 true)) hc6))) ?_)
        rintro _ n12 _ ⟨in12, p1n12, p2n12, rfl, rfl⟩ hn12
        refine OA.app2 ?_
        refine OA.op1 (dst := (some 18)) (v := (Pt n12 0 0)) (n1 := (n12 + 1)) (w := (n12, some ⟨[xAc454], 15, 53, true⟩)) rfl rfl rfl rfl (by omega) ?_
        refine OA.op1 (dst := none) (v := (.tuple #[])) (n1 := (n12 + 1)) (w := (n12, some ⟨[(xAc434 nn in12)], 15, 53, true⟩)) rfl rfl rfl (r_store rfl rfl rfl rfl rfl rfl rfl get_here rfl rfl (Nat.le_of_ble_eq_true rfl) rfl) (by omega) ?_
        refine OA.nil ?_
        intro _
        refine RA.weaken (D' := [(n12, some ⟨[(xAc434 nn in12)], 15, 53, true⟩), (bn1, some ⟨[(xAc410 nx nn in12)], 17, 103, true⟩), (in12, some ⟨[[(.int .i64 49157), (.string (bstr (be4 nn)))]], 2, 35, true⟩), ((n8 + 1), some ⟨[[(.int .i64 (((andN (ws.getD (i % ws.length) dI1).z 255) : Nat) : Int))]], 1, 3, true⟩), (n8, some ⟨[xAc454], 15, 53, true⟩), (n6, some ⟨[(xAc448 nn kn6)], 15, 53, true⟩), (kn6, some ⟨[[(.int .i64 5), (.string (bstr (be4 0#32)))], [(.int .i64 49153), (.string (bstr (be4 nn ++ (be2 5 ++ (be2 8 ++ (be4 0#32 ++ []))))))], [(.int .i64 49160), (.string (bstr ((be4 nn ++ be4 3#32) ++ be4 4#32)))]], 2, 35, true⟩), (n1, some ⟨[xAc454], 15, 53, true⟩)]) hd (Less.of (fac (mm (fun _ => get_here) (fun _ => get_here)) (fac (mm (fun _ => (get_there (by omega) get_here)) (fun _ => (gt2 (by omega) get_here))) (fac (mm (fun _ => (gt2 (by omega) get_here)) (fun _ => (gt3 (by omega) get_here))) (fac (mm (fun _ => (gt3 (by omega) get_here)) (fun _ => (gt4 (by omega) get_here))) (fac (mm (fun _ => (gt4 (by omega) get_here)) (fun _ => (gt5 (by omega) get_here))) (fac (mm (fun _ => (gt5 (by omega) get_here)) (fun _ => (gt6 (by omega) get_here))) (fac (mm (fun _ => (gt6 (by omega) get_here)) (fun _ => (gt7 (by omega) get_here))) (fac (mm (fun _ => (gt7 (by omega) get_here)) (fun _ => (gt9 (by omega) get_here))) fan)))))))) (gone_of (by simp only [goneP, memP, List.cons_append, List.nil_append, true_or, or_true, true_and, and_true, or_false] <;> omega))) ?_
        refine RA.seq hd ?_
        refine RA.region env_ok ?_
        refine OA.p (some 105) (W nn) rfl rfl rfl rfl ?_
        refine OA.callP (dst := (some 106)) (all := [(W nn)]) (v := (.string (bstr (be4 nn)))) (hd.of (by omega) (kb8 (by omega))) rfl rfl rfl rfl rfl rfl rfl rfl (aFour nn) ?_
        intro n13 hn13
        refine OA.p (some 107) (.agg ⟨[(.int .i64 49157), (.string (bstr (be4 nn)))]⟩) rfl rfl rfl (by kernel_rfl) ?_
        refine OA.op1 (dst := (some 19)) (v := (Pt n13 0 0)) (n1 := (n13 + 1)) (w := (n13, some ⟨[[(.int .i64 0), (.string ByteArray.empty)]], 2, 35, true⟩)) rfl rfl rfl rfl (by omega) ?_
        refine OA.op1 (dst := none) (v := (.tuple #[])) (n1 := (n13 + 1)) (w := (n13, some ⟨[[(.int .i64 49157), (.string (bstr (be4 nn)))]], 2, 35, true⟩)) rfl rfl rfl (r_store rfl rfl rfl rfl rfl rfl rfl get_here rfl rfl (Nat.le_of_ble_eq_true rfl) rfl) (by omega) ?_
        refine OA.nil ?_
        intro _
        refine RA.weaken (D' := [(n13, some ⟨[[(.int .i64 49157), (.string (bstr (be4 nn)))]], 2, 35, true⟩), (n12, some ⟨[(xAc434 nn in12)], 15, 53, true⟩), (bn1, some ⟨[(xAc410 nx nn in12)], 17, 103, true⟩), (in12, some ⟨[[(.int .i64 49157), (.string (bstr (be4 nn)))]], 2, 35, true⟩), ((n8 + 1), some ⟨[[(.int .i64 (((andN (ws.getD (i % ws.length) dI1).z 255) : Nat) : Int))]], 1, 3, true⟩), (n8, some ⟨[xAc454], 15, 53, true⟩), (n6, some ⟨[(xAc448 nn kn6)], 15, 53, true⟩), (kn6, some ⟨[[(.int .i64 5), (.string (bstr (be4 0#32)))], [(.int .i64 49153), (.string (bstr (be4 nn ++ (be2 5 ++ (be2 8 ++ (be4 0#32 ++ []))))))], [(.int .i64 49160), (.string (bstr ((be4 nn ++ be4 3#32) ++ be4 4#32)))]], 2, 35, true⟩), (n1, some ⟨[xAc454], 15, 53, true⟩)]) hd (Less.of (fac (mm (fun _ => get_here) (fun _ => get_here)) (fac (mm (fun _ => (get_there (by omega) get_here)) (fun _ => (gt2 (by omega) get_here))) (fac (mm (fun _ => (gt2 (by omega) get_here)) (fun _ => (gt3 (by omega) get_here))) (fac (mm (fun _ => (gt3 (by omega) get_here)) (fun _ => (gt4 (by omega) get_here))) (fac (mm (fun _ => (gt4 (by omega) get_here)) (fun _ => (gt5 (by omega) get_here))) (fac (mm (fun _ => (gt5 (by omega) get_here)) (fun _ => (gt6 (by omega) get_here))) (fac (mm (fun _ => (gt6 (by omega) get_here)) (fun _ => (gt7 (by omega) get_here))) (fac (mm (fun _ => (gt7 (by omega) get_here)) (fun _ => (gt8 (by omega) get_here))) (fac (mm (fun _ => (gt8 (by omega) get_here)) (fun _ => (gt9 (by omega) get_here))) fan))))))))) (gone_of (by simp only [goneP, memP, List.cons_append, List.nil_append, true_or, or_true, true_and, and_true, or_false] <;> omega))) ?_
        refine RA.rebase [(1, lv), (2, wv), (7, (Pt bn1 0 0)), (8, (W nx)), (9, (Pt n1 0 0)), (10, (.bool false)), (11, (.int .i64 ((i : Nat) : Int))), (12, (W nn)), (13, (Pt n6 0 0)), (14, (.bool true)), (15, (Pt n8 0 0)), (16, (.bool false)), (17, (.int .i64 (((andN (ws.getD (i % ws.length) dI1).z 255) : Nat) : Int))), (18, (Pt n12 0 0)), (19, (Pt n13 0 0)), (33, (.bool true)), (86, (.bool false)), (88, (.bool false)), (91, (.bool true))] ⟨rfl, rfl, rfl, rfl, rfl, rfl, rfl, rfl, rfl, rfl, rfl, rfl, rfl, rfl, rfl, rfl, rfl, rfl, rfl, trivial⟩ (fun τr14 => ?_)
        refine RA.seq hd ?_
        refine RA.seq hd ?_
        refine RA.region env_ok ?_
        refine OA.p (some 108) (.int .i64 (((andN (ws.getD (i % ws.length) dI1).z 255) : Nat) : Int)) rfl rfl rfl rfl ?_
        refine OA.p (some 109) (.bool false) rfl rfl rfl (r_bin rfl rfl rfl (b_neq (decide_eq_false (by omega)))) ?_
        refine OA.nil ?_
        intro _
        refine RA.condF rfl ?_
        refine RA.skip env_ok ?_
        intro _
        refine RA.seq hd ?_
        refine RA.region env_ok ?_
        refine OA.p (some 117) (W nn) rfl rfl rfl rfl ?_
        refine OA.p (some 118) (.agg ⟨[(.int .i64 49157), (.string (bstr (be4 nn)))]⟩) rfl rfl rfl (r_loadA rfl rfl rfl rfl get_here rfl rfl rfl) ?_
        refine OA.op1 (dst := (some 119)) (v := (.slice (some ⟨(n13 + 1), 0, none⟩) 1 0)) (n1 := (n13 + 2)) (w := ((n13 + 1), some ⟨[[(.int .i64 49157), (.string (bstr (be4 nn)))]], 2, 35, true⟩)) rfl rfl rfl (by kernel_rfl) (by omega) ?_
        refine OA.p (some 120) (.agg ⟨(xAc425 nn n13)⟩) rfl rfl rfl (by kernel_rfl) ?_
        refine OA.op1 (dst := none) (v := (.tuple #[])) (n1 := (n13 + 2)) (w := (n1, some ⟨[(xAc425 nn n13)], 15, 53, true⟩)) rfl rfl rfl (r_store rfl rfl rfl rfl rfl rfl rfl (gt9 (by omega) get_here) rfl rfl (Nat.le_of_ble_eq_true rfl) rfl) (by omega) ?_
        refine OA.p (some 10) (.bool true) rfl rfl rfl rfl ?_
        refine OA.nil ?_
        intro _
        refine RA.weaken (D' := [(n1, some ⟨[(xAc425 nn n13)], 15, 53, true⟩), ((n13 + 1), some ⟨[[(.int .i64 49157), (.string (bstr (be4 nn)))]], 2, 35, true⟩), (n13, some ⟨[[(.int .i64 49157), (.string (bstr (be4 nn)))]], 2, 35, true⟩), (n12, some ⟨[(xAc434 nn in12)], 15, 53, true⟩), (bn1, some ⟨[(xAc410 nx nn in12)], 17, 103, true⟩), (in12, some ⟨[[(.int .i64 49157), (.string (bstr (be4 nn)))]], 2, 35, true⟩), ((n8 + 1), some ⟨[[(.int .i64 (((andN (ws.getD (i % ws.length) dI1).z 255) : Nat) : Int))]], 1, 3, true⟩), (n8, some ⟨[xAc454], 15, 53, true⟩), (n6, some ⟨[(xAc448 nn kn6)], 15, 53, true⟩), (kn6, some ⟨[[(.int .i64 5), (.string (bstr (be4 0#32)))], [(.int .i64 49153), (.string (bstr (be4 nn ++ (be2 5 ++ (be2 8 ++ (be4 0#32 ++ []))))))], [(.int .i64 49160), (.string (bstr ((be4 nn ++ be4 3#32) ++ be4 4#32)))]], 2, 35, true⟩)]) hd (Less.of (fac (mm (fun _ => get_here) (fun _ => get_here)) (fac (mm (fun _ => (get_there (by omega) get_here)) (fun _ => (get_there (by omega) get_here))) (fac (mm (fun _ => (gt2 (by omega) get_here)) (fun _ => (gt2 (by omega) get_here))) (fac (mm (fun _ => (gt3 (by omega) get_here)) (fun _ => (gt3 (by omega) get_here))) (fac (mm (fun _ => (gt4 (by omega) get_here)) (fun _ => (gt4 (by omega) get_here))) (fac (mm (fun _ => (gt5 (by omega) get_here)) (fun _ => (gt5 (by omega) get_here))) (fac (mm (fun _ => (gt6 (by omega) get_here)) (fun _ => (gt6 (by omega) get_here))) (fac (mm (fun _ => (gt7 (by omega) get_here)) (fun _ => (gt7 (by omega) get_here))) (fac (mm (fun _ => (gt8 (by omega) get_here)) (fun _ => (gt8 (by omega) get_here))) (fac (mm (fun _ => (gt9 (by omega) get_here)) (fun _ => (gt9 (by omega) get_here))) fan)))))))))) (gone_of (by simp only [goneP, memP, List.cons_append, List.nil_append, true_or, or_true, true_and, and_true, or_false] <;> omega))) ?_
        refine RA.seq hd ?_
        refine RA.seq hd ?_
        refine RA.region env_ok ?_
        refine OA.p (some 121) (.agg ⟨(xAc434 nn in12)⟩) rfl rfl rfl (r_loadA rfl rfl rfl rfl (gt3 (by omega) get_here) rfl rfl rfl) ?_
        refine OA.p (some 122) (.agg ⟨(xAc425 nn n13)⟩) rfl rfl rfl (r_loadA rfl rfl rfl rfl get_here rfl rfl rfl) ?_
        refine OA.callP (dst := (some 123)) (all := [(.agg ⟨(xAc434 nn in12)⟩), (.agg ⟨(xAc425 nn n13)⟩)]) (v := (.bool true)) (hd.of (by omega) (kb10 (by omega))) rfl rfl rfl rfl rfl rfl rfl rfl (aSame nn in12 (n13 + 1) (49157) (bstr (be4 nn)) (gt5 (by omega) get_here) (get_there (by omega) get_here)) ?_
        intro n15 hn15
        refine OA.p (some 124) (.bool false) rfl rfl rfl rfl ?_
        refine OA.p (some 125) (.bool false) rfl rfl rfl rfl ?_
        refine OA.p (some 126) (.agg ⟨(xAc448 nn kn6)⟩) rfl rfl rfl (r_loadA rfl rfl rfl rfl (gt8 (by omega) get_here) rfl rfl rfl) ?_
        refine OA.call (dst := (some 127)) (all := [(.agg ⟨(xAc448 nn kn6)⟩)]) rfl rfl rfl rfl rfl rfl rfl rfl (CQ.imp (aAsked49153 (hd.of (by omega) (kb10 (by omega))) nn kn6 (gt9 (by omega) get_here)) ?_)
        rintro _ n16 _ ⟨in16, p1n16, p2n16, rfl, rfl⟩ hn16
        refine OA.app1 ?_
        refine OA.p (some 128) (.int .i64 1) rfl rfl rfl rfl ?_
        refine OA.p (some 129) (.bool false) rfl rfl rfl (r_bin rfl rfl rfl (b_neq rfl)) ?_
        refine OA.p (some 130) (.bool false) rfl rfl rfl rfl ?_
        refine OA.nil ?_
        intro _
        refine RA.condF rfl ?_
        refine RA.skip env_ok ?_
        intro _
        refine RA.region env_ok ?_
        refine OA.p (some 131) (W nx) rfl rfl rfl rfl ?_
        refine OA.p (some 132) (W (nx + (1#32))) rfl rfl rfl (r_bin rfl rfl rfl (b_addW nx (1#32))) ?_
        refine OA.p (some 8) (W (nx + (1#32))) rfl rfl rfl rfl ?_
        refine OA.nil ?_
        intro _
        refine RA.region env_ok ?_
        refine OA.p (some 34) (.int .i64 ((i : Nat) : Int)) rfl rfl rfl rfl ?_
        refine OA.p (some 35) (.int .i64 (((i + 1) : Nat) : Int)) rfl rfl rfl (r_bin rfl rfl rfl (b_add (i64_eq (by omega)))) ?_
        refine OA.p (some 11) (.int .i64 (((i + 1) : Nat) : Int)) rfl rfl rfl rfl ?_
        refine OA.nil ?_
        refine ⟨(ls.length - (i + 1)), by omega, [(bn1, some ⟨[(xAc410 nx nn in12)], 17, 103, true⟩), (n1, some ⟨[(xAc425 nn n13)], 15, 53, true⟩), (in12, some ⟨[[(.int .i64 49157), (.string (bstr (be4 nn)))]], 2, 35, true⟩), ((n13 + 1), some ⟨[[(.int .i64 49157), (.string (bstr (be4 nn)))]], 2, 35, true⟩)], (Less.of (fac (mm (fun _ => get_here) (fun _ => (gt5 (by omega) get_here))) (fac (mm (fun _ => (get_there (by omega) get_here)) (fun _ => (get_there (by omega) get_here))) (fac (mm (fun _ => (gt2 (by omega) get_here)) (fun _ => (gt6 (by omega) get_here))) (fac (mm (fun _ => (gt3 (by omega) get_here)) (fun _ => (gt2 (by omega) get_here))) fan)))) (gone_of (by simp only [goneP, memP, List.cons_append, List.nil_append, true_or, or_true, true_and, and_true, or_false] <;> omega))), .inr (⟨(i + 1), (nx + (1#32)), nn, in12, (n13 + 1), (49157), (bstr (be4 nn)), rfl, by omega, ⟨rfl, rfl, rfl, rfl, rfl, rfl, rfl, trivial⟩, rfl, (kb4 (by omega)), ⟨by omega, (by rw [w_eq hc4, BitVec.add_sub_cancel]), by omega, by omega, by omega⟩⟩)⟩
       ·
        refine OA.call (dst := (some 104)) (all := (xAc44 bn1 nn kn6 n8)) rfl rfl rfl rfl rfl rfl rfl rfl (CQ.imp (aGive491531F (hd.of (by omega) (kb6 (by omega))) nn nx  bn1 kn6 (n8 + 1)  (andN (ws.getD (i % ws.length) dI1).z 255) hc6 (by omega) (gt4 (by omega) get_here) (gt3 (by omega) get_here) get_here) ?_)
        rintro _ n17 _ ⟨in17, p1n17, p2n17, rfl, rfl⟩ hn17
        refine OA.app2 ?_
        refine OA.op1 (dst := (some 18)) (v := (Pt n17 0 0)) (n1 := (n17 + 1)) (w := (n17, some ⟨[xAc454], 15, 53, true⟩)) rfl rfl rfl rfl (by omega) ?_
        refine OA.op1 (dst := none) (v := (.tuple #[])) (n1 := (n17 + 1)) (w := (n17, some ⟨[(xAc435 nn in17)], 15, 53, true⟩)) rfl rfl rfl (r_store rfl rfl rfl rfl rfl rfl rfl get_here rfl rfl (Nat.le_of_ble_eq_true rfl) rfl) (by omega) ?_
        refine OA.nil ?_
        intro _
        refine RA.weaken (D' := [(n17, some ⟨[(xAc435 nn in17)], 15, 53, true⟩), (bn1, some ⟨[(xAc411 nx nn in17)], 17, 103, true⟩), (in17, some ⟨[(xAc458 nn ws i)], 2, 35, true⟩), ((n8 + 1), some ⟨[[(.int .i64 (((andN (ws.getD (i % ws.length) dI1).z 255) : Nat) : Int))]], 1, 3, true⟩), (n8, some ⟨[xAc454], 15, 53, true⟩), (n6, some ⟨[(xAc448 nn kn6)], 15, 53, true⟩), (kn6, some ⟨[[(.int .i64 5), (.string (bstr (be4 0#32)))], [(.int .i64 49153), (.string (bstr (be4 nn ++ (be2 5 ++ (be2 8 ++ (be4 0#32 ++ []))))))], [(.int .i64 49160), (.string (bstr ((be4 nn ++ be4 3#32) ++ be4 4#32)))]], 2, 35, true⟩), (n1, some ⟨[xAc454], 15, 53, true⟩)]) hd (Less.of (fac (mm (fun _ => get_here) (fun _ => get_here)) (fac (mm (fun _ => (get_there (by omega) get_here)) (fun _ => (gt2 (by omega) get_here))) (fac (mm (fun _ => (gt2 (by omega) get_here)) (fun _ => (gt3 (by omega) get_here))) (fac (mm (fun _ => (gt3 (by omega) get_here)) (fun _ => (gt4 (by omega) get_here))) (fac (mm (fun _ => (gt4 (by omega) get_here)) (fun _ => (gt5 (by omega) get_here))) (fac (mm (fun _ => (gt5 (by omega) get_here)) (fun _ => (gt6 (by omega) get_here))) (fac (mm (fun _ => (gt6 (by omega) get_here)) (fun _ => (gt7 (by omega) get_here))) (fac (mm (fun _ => (gt7 (by omega) get_here)) (fun _ => (gt9 (by omega) get_here))) fan)))))))) (gone_of (by simp only [goneP, memP, List.cons_append, List.nil_append, true_or, or_true, true_and, and_true, or_false] <;> omega))) ?_
        refine RA.seq hd ?_
        refine RA.region env_ok ?_
        refine OA.p (some 105) (W nn) rfl rfl rfl rfl ?_
        refine OA.callP (dst := (some 106)) (all := [(W nn)]) (v := (.string (bstr (be4 nn)))) (hd.of (by omega) (kb8 (by omega))) rfl rfl rfl rfl rfl rfl rfl rfl (aFour nn) ?_
        intro n18 hn18
        refine OA.p (some 107) (.agg ⟨[(.int .i64 49157), (.string (bstr (be4 nn)))]⟩) rfl rfl rfl (by kernel_rfl) ?_
        refine OA.op1 (dst := (some 19)) (v := (Pt n18 0 0)) (n1 := (n18 + 1)) (w := (n18, some ⟨[[(.int .i64 0), (.string ByteArray.empty)]], 2, 35, true⟩)) rfl rfl rfl rfl (by omega) ?_
        refine OA.op1 (dst := none) (v := (.tuple #[])) (n1 := (n18 + 1)) (w := (n18, some ⟨[[(.int .i64 49157), (.string (bstr (be4 nn)))]], 2, 35, true⟩)) rfl rfl rfl (r_store rfl rfl rfl rfl rfl rfl rfl get_here rfl rfl (Nat.le_of_ble_eq_true rfl) rfl) (by omega) ?_
        refine OA.nil ?_
        intro _
        refine RA.weaken (D' := [(n18, some ⟨[[(.int .i64 49157), (.string (bstr (be4 nn)))]], 2, 35, true⟩), (n17, some ⟨[(xAc435 nn in17)], 15, 53, true⟩), (bn1, some ⟨[(xAc411 nx nn in17)], 17, 103, true⟩), (in17, some ⟨[(xAc458 nn ws i)], 2, 35, true⟩), ((n8 + 1), some ⟨[[(.int .i64 (((andN (ws.getD (i % ws.length) dI1).z 255) : Nat) : Int))]], 1, 3, true⟩), (n8, some ⟨[xAc454], 15, 53, true⟩), (n6, some ⟨[(xAc448 nn kn6)], 15, 53, true⟩), (kn6, some ⟨[[(.int .i64 5), (.string (bstr (be4 0#32)))], [(.int .i64 49153), (.string (bstr (be4 nn ++ (be2 5 ++ (be2 8 ++ (be4 0#32 ++ []))))))], [(.int .i64 49160), (.string (bstr ((be4 nn ++ be4 3#32) ++ be4 4#32)))]], 2, 35, true⟩), (n1, some ⟨[xAc454], 15, 53, true⟩)]) hd (Less.of (fac (mm (fun _ => get_here) (fun _ => get_here)) (fac (mm (fun _ => (get_there (by omega) get_here)) (fun _ => (gt2 (by omega) get_here))) (fac (mm (fun _ => (gt2 (by omega) get_here)) (fun _ => (gt3 (by omega) get_here))) (fac (mm (fun _ => (gt3 (by omega) get_here)) (fun _ => (gt4 (by omega) get_here))) (fac (mm (fun _ => (gt4 (by omega) get_here)) (fun _ => (gt5 (by omega) get_here))) (fac (mm (fun _ => (gt5 (by omega) get_here)) (fun _ => (gt6 (by omega) get_here))) (fac (mm (fun _ => (gt6 (by omega) get_here)) (fun _ => (gt7 (by omega) get_here))) (fac (mm (fun _ => (gt7 (by omega) get_here)) (fun _ => (gt8 (by omega) get_here))) (fac (mm (fun _ => (gt8 (by omega) get_here)) (fun _ => (gt9 (by omega) get_here))) fan))))))))) (gone_of (by simp only [goneP, memP, List.cons_append, List.nil_append, true_or, or_true, true_and, and_true, or_false] <;> omega))) ?_
        refine RA.rebase [(1, lv), (2, wv), (7, (Pt bn1 0 0)), (8, (W nx)), (9, (Pt n1 0 0)), (10, (.bool false)), (11, (.int .i64 ((i : Nat) : Int))), (12, (W nn)), (13, (Pt n6 0 0)), (14, (.bool true)), (15, (Pt n8 0 0)), (16, (.bool false)), (17, (.int .i64 (((andN (ws.getD (i % ws.length) dI1).z 255) : Nat) : Int))), (18, (Pt n17 0 0)), (19, (Pt n18 0 0)), (33, (.bool true)), (86, (.bool false)), (88, (.bool false)), (91, (.bool true))] ⟨rfl, rfl, rfl, rfl, rfl, rfl, rfl, rfl, rfl, rfl, rfl, rfl, rfl, rfl, rfl, rfl, rfl, rfl, rfl, trivial⟩ (fun τr19 => ?_)
        refine RA.seq hd ?_
        refine RA.seq hd ?_
        refine RA.region env_ok ?_
        refine OA.p (some 108) (.int .i64 (((andN (ws.getD (i % ws.length) dI1).z 255) : Nat) : Int)) rfl rfl rfl rfl ?_
        refine OA.p (some 109) (.bool true) rfl rfl rfl (r_bin rfl rfl rfl (b_neq (decide_eq_true (by omega)))) ?_
        refine OA.nil ?_
        intro _
        refine RA.condT rfl ?_
        refine RA.region env_ok ?_
        refine OA.p (some 110) (W nn) rfl rfl rfl rfl ?_
        refine OA.callP (dst := (some 111)) (all := [(W nn)]) (v := (.string (bstr (be4 nn)))) (hd.of (by omega) (kb9 (by omega))) rfl rfl rfl rfl rfl rfl rfl rfl (aFour nn) ?_
        intro n20 hn20
        refine OA.p (some 112) (.int .i64 (((andN (ws.getD (i % ws.length) dI1).z 255) : Nat) : Int)) rfl rfl rfl rfl ?_
        refine OA.p (some 113) (.agg ⟨(xAc457 ws i)⟩) rfl rfl rfl (by kernel_rfl) ?_
        refine OA.callP (dst := (some 114)) (all := [(.agg ⟨(xAc457 ws i)⟩)]) (v := (.string (bstr (pL (andN (ws.getD (i % ws.length) dI1).z 255) [])))) (hd.of (by omega) (kb9 (by omega))) rfl rfl rfl rfl rfl rfl rfl rfl (lR4 (andN (ws.getD (i % ws.length) dI1).z 255) [] (by omega) (by decide)) ?_
        intro n21 hn21
        refine OA.p (some 115) (.string (bstr ((be4 nn) ++ (pL (andN (ws.getD (i % ws.length) dI1).z 255) [])))) rfl rfl rfl (Eq.trans (r_cat rfl rfl rfl (by simp only [bstr_size, size_lit, List.length_append, be2_len, be4_len, be1_len, List.length_replicate, List.length_cons, List.length_nil, List.size_toArray, pL0_len]; omega)) (by rw [bstr_app] <;> rfl)) ?_
        refine OA.p (some 116) (.agg ⟨(xAc455 nn ws i)⟩) rfl rfl rfl (by kernel_rfl) ?_
        refine OA.op1 (dst := none) (v := (.tuple #[])) (n1 := n21) (w := (n18, some ⟨[(xAc455 nn ws i)], 2, 35, true⟩)) rfl rfl rfl (r_store rfl rfl rfl rfl rfl rfl rfl get_here rfl rfl (Nat.le_of_ble_eq_true rfl) rfl) (by omega) ?_
        refine OA.nil ?_
        intro _
        refine RA.weaken (D' := [(n18, some ⟨[(xAc455 nn ws i)], 2, 35, true⟩), (n17, some ⟨[(xAc435 nn in17)], 15, 53, true⟩), (bn1, some ⟨[(xAc411 nx nn in17)], 17, 103, true⟩), (in17, some ⟨[(xAc458 nn ws i)], 2, 35, true⟩), ((n8 + 1), some ⟨[[(.int .i64 (((andN (ws.getD (i % ws.length) dI1).z 255) : Nat) : Int))]], 1, 3, true⟩), (n8, some ⟨[xAc454], 15, 53, true⟩), (n6, some ⟨[(xAc448 nn kn6)], 15, 53, true⟩), (kn6, some ⟨[[(.int .i64 5), (.string (bstr (be4 0#32)))], [(.int .i64 49153), (.string (bstr (be4 nn ++ (be2 5 ++ (be2 8 ++ (be4 0#32 ++ []))))))], [(.int .i64 49160), (.string (bstr ((be4 nn ++ be4 3#32) ++ be4 4#32)))]], 2, 35, true⟩), (n1, some ⟨[xAc454], 15, 53, true⟩)]) hd (Less.of (fac (mm (fun _ => get_here) (fun _ => get_here)) (fac (mm (fun _ => (get_there (by omega) get_here)) (fun _ => (gt2 (by omega) get_here))) (fac (mm (fun _ => (gt2 (by omega) get_here)) (fun _ => (gt3 (by omega) get_here))) (fac (mm (fun _ => (gt3 (by omega) get_here)) (fun _ => (gt4 (by omega) get_here))) (fac (mm (fun _ => (gt4 (by omega) get_here)) (fun _ => (gt5 (by omega) get_here))) (fac (mm (fun _ => (gt5 (by omega) get_here)) (fun _ => (gt6 (by omega) get_here))) (fac (mm (fun _ => (gt6 (by omega) get_here)) (fun _ => (gt7 (by omega) get_here))) (fac (mm (fun _ => (gt7 (by omega) get_here)) (fun _ => (gt8 (by omega) get_here))) (fac (mm (fun _ => (gt8 (by omega) get_here)) (fun _ => (gt9 (by omega) get_here))) fan))))))))) (gone_of (by simp only [goneP, memP, List.cons_append, List.nil_append, true_or, or_true, true_and, and_true, or_false] <;> omega))) ?_
        refine RA.seq hd ?_
        refine RA.region env_ok ?_
        refine OA.p (some 117) (W nn) rfl rfl rfl rfl ?_
        refine OA.p (some 118) (.agg ⟨(xAc455 nn ws i)⟩) rfl rfl rfl (r_loadA rfl rfl rfl rfl get_here rfl rfl rfl) ?_
        refine OA.op1 (dst := (some 119)) (v := (.slice (some ⟨n21, 0, none⟩) 1 0)) (n1 := (n21 + 1)) (w := (n21, some ⟨[(xAc455 nn ws i)], 2, 35, true⟩)) rfl rfl rfl (by kernel_rfl) (by omega) ?_
        refine OA.p (some 120) (.agg ⟨(xAc449 nn n21)⟩) rfl rfl rfl (by kernel_rfl) ?_
        refine OA.op1 (dst := none) (v := (.tuple #[])) (n1 := (n21 + 1)) (w := (n1, some ⟨[(xAc449 nn n21)], 15, 53, true⟩)) rfl rfl rfl (r_store rfl rfl rfl rfl rfl rfl rfl (gt9 (by omega) get_here) rfl rfl (Nat.le_of_ble_eq_true rfl) rfl) (by omega) ?_
        refine OA.p (some 10) (.bool true) rfl rfl rfl rfl ?_
        refine OA.nil ?_
        intro _
        refine RA.weaken (D' := [(n1, some ⟨[(xAc449 nn n21)], 15, 53, true⟩), (n21, some ⟨[(xAc455 nn ws i)], 2, 35, true⟩), (n18, some ⟨[(xAc455 nn ws i)], 2, 35, true⟩), (n17, some ⟨[(xAc435 nn in17)], 15, 53, true⟩), (bn1, some ⟨[(xAc411 nx nn in17)], 17, 103, true⟩), (in17, some ⟨[(xAc458 nn ws i)], 2, 35, true⟩), ((n8 + 1), some ⟨[[(.int .i64 (((andN (ws.getD (i % ws.length) dI1).z 255) : Nat) : Int))]], 1, 3, true⟩), (n8, some ⟨[xAc454], 15, 53, true⟩), (n6, some ⟨[(xAc448 nn kn6)], 15, 53, true⟩), (kn6, some ⟨[[(.int .i64 5), (.string (bstr (be4 0#32)))], [(.int .i64 49153), (.string (bstr (be4 nn ++ (be2 5 ++ (be2 8 ++ (be4 0#32 ++ []))))))], [(.int .i64 49160), (.string (bstr ((be4 nn ++ be4 3#32) ++ be4 4#32)))]], 2, 35, true⟩)]) hd (Less.of (fac (mm (fun _ => get_here) (fun _ => get_here)) (fac (mm (fun _ => (get_there (by omega) get_here)) (fun _ => (get_there (by omega) get_here))) (fac (mm (fun _ => (gt2 (by omega) get_here)) (fun _ => (gt2 (by omega) get_here))) (fac (mm (fun _ => (gt3 (by omega) get_here)) (fun _ => (gt3 (by omega) get_here))) (fac (mm (fun _ => (gt4 (by omega) get_here)) (fun _ => (gt4 (by omega) get_here))) (fac (mm (fun _ => (gt5 (by omega) get_here)) (fun _ => (gt5 (by omega) get_here))) (fac (mm (fun _ => (gt6 (by omega) get_here)) (fun _ => (gt6 (by omega) get_here))) (fac (mm (fun _ => (gt7 (by omega) get_here)) (fun _ => (gt7 (by omega) get_here))) (fac (mm (fun _ => (gt8 (by omega) get_here)) (fun _ => (gt8 (by omega) get_here))) (fac (mm (fun _ => (gt9 (by omega) get_here)) (fun _ => (gt9 (by omega) get_here))) fan)))))))))) (gone_of (by simp only [goneP, memP, List.cons_append, List.nil_append, true_or, or_true, true_and, and_true, or_false] <;> omega))) ?_
        refine RA.seq hd ?_
        refine RA.seq hd ?_
        refine RA.region env_ok ?_
        refine OA.p (some 121) (.agg ⟨(xAc435 nn in17)⟩) rfl rfl rfl (r_loadA rfl rfl rfl rfl (gt3 (by omega) get_here) rfl rfl rfl) ?_
        refine OA.p (some 122) (.agg ⟨(xAc449 nn n21)⟩) rfl rfl rfl (r_loadA rfl rfl rfl rfl get_here rfl rfl rfl) ?_
        refine OA.callP (dst := (some 123)) (all := [(.agg ⟨(xAc435 nn in17)⟩), (.agg ⟨(xAc449 nn n21)⟩)]) (v := (.bool true)) (hd.of (by omega) (kb10 (by omega))) rfl rfl rfl rfl rfl rfl rfl rfl (aSame nn in17 n21 (49155) (bstr (be4 nn ++ pL (andN (ws.getD (i % ws.length) dI1).z 255) [])) (gt5 (by omega) get_here) (get_there (by omega) get_here)) ?_
        intro n22 hn22
        refine OA.p (some 124) (.bool false) rfl rfl rfl rfl ?_
        refine OA.p (some 125) (.bool false) rfl rfl rfl rfl ?_
        refine OA.p (some 126) (.agg ⟨(xAc448 nn kn6)⟩) rfl rfl rfl (r_loadA rfl rfl rfl rfl (gt8 (by omega) get_here) rfl rfl rfl) ?_
        refine OA.call (dst := (some 127)) (all := [(.agg ⟨(xAc448 nn kn6)⟩)]) rfl rfl rfl rfl rfl rfl rfl rfl (CQ.imp (aAsked49153 (hd.of (by omega) (kb10 (by omega))) nn kn6 (gt9 (by omega) get_here)) ?_)
        rintro _ n23 _ ⟨in23, p1n23, p2n23, rfl, rfl⟩ hn23
        refine OA.app1 ?_
        refine OA.p (some 128) (.int .i64 1) rfl rfl rfl rfl ?_
        refine OA.p (some 129) (.bool false) rfl rfl rfl (r_bin rfl rfl rfl (b_neq rfl)) ?_
        refine OA.p (some 130) (.bool false) rfl rfl rfl rfl ?_
        refine OA.nil ?_
        intro _
        refine RA.rebase [(1, lv), (2, wv), (7, (Pt bn1 0 0)), (8, (W nx)), (9, (Pt n1 0 0)), (10, (.bool true)), (11, (.int .i64 ((i : Nat) : Int))), (12, (W nn)), (13, (Pt n6 0 0)), (14, (.bool true)), (15, (Pt n8 0 0)), (16, (.bool false)), (17, (.int .i64 (((andN (ws.getD (i % ws.length) dI1).z 255) : Nat) : Int))), (18, (Pt n17 0 0)), (19, (Pt n18 0 0)), (33, (.bool true)), (86, (.bool false)), (88, (.bool false)), (91, (.bool true)), (109, (.bool true)), (130, (.bool false))] ⟨rfl, rfl, rfl, rfl, rfl, rfl, rfl, rfl, rfl, rfl, rfl, rfl, rfl, rfl, rfl, rfl, rfl, rfl, rfl, rfl, rfl, trivial⟩ (fun τr24 => ?_)
        refine RA.condF rfl ?_
        refine RA.skip env_ok ?_
        intro _
        refine RA.region env_ok ?_
        refine OA.p (some 131) (W nx) rfl rfl rfl rfl ?_
        refine OA.p (some 132) (W (nx + (1#32))) rfl rfl rfl (r_bin rfl rfl rfl (b_addW nx (1#32))) ?_
        refine OA.p (some 8) (W (nx + (1#32))) rfl rfl rfl rfl ?_
        refine OA.nil ?_
        intro _
        refine RA.region env_ok ?_
        refine OA.p (some 34) (.int .i64 ((i : Nat) : Int)) rfl rfl rfl rfl ?_
        refine OA.p (some 35) (.int .i64 (((i + 1) : Nat) : Int)) rfl rfl rfl (r_bin rfl rfl rfl (b_add (i64_eq (by omega)))) ?_
        refine OA.p (some 11) (.int .i64 (((i + 1) : Nat) : Int)) rfl rfl rfl rfl ?_
        refine OA.nil ?_
        refine ⟨(ls.length - (i + 1)), by omega, [(bn1, some ⟨[(xAc411 nx nn in17)], 17, 103, true⟩), (n1, some ⟨[(xAc449 nn n21)], 15, 53, true⟩), (in17, some ⟨[(xAc458 nn ws i)], 2, 35, true⟩), (n21, some ⟨[(xAc455 nn ws i)], 2, 35, true⟩)], (Less.of (fac (mm (fun _ => get_here) (fun _ => (gt5 (by omega) get_here))) (fac (mm (fun _ => (get_there (by omega) get_here)) (fun _ => (get_there (by omega) get_here))) (fac (mm (fun _ => (gt2 (by omega) get_here)) (fun _ => (gt6 (by omega) get_here))) (fac (mm (fun _ => (gt3 (by omega) get_here)) (fun _ => (gt2 (by omega) get_here))) fan)))) (gone_of (by simp only [goneP, memP, List.cons_append, List.nil_append, true_or, or_true, true_and, and_true, or_false] <;> omega))), .inr (⟨(i + 1), (nx + (1#32)), nn, in17, n21, (49155), (bstr (be4 nn ++ pL (andN (ws.getD (i % ws.length) dI1).z 255) [])), rfl, by omega, ⟨rfl, rfl, rfl, rfl, rfl, rfl, rfl, trivial⟩, rfl, (kb4 (by omega)), ⟨by omega, (by rw [w_eq hc4, BitVec.add_sub_cancel]), by omega, by omega, by omega⟩⟩)⟩
      ·
       refine OA.p (some 91) (.bool false) rfl rfl rfl (Eq.trans (r_bin rfl rfl rfl (b_gtr rfl)) (dF hc5)) ?_
       refine OA.nil ?_
       intro _
       refine RA.condF rfl ?_
       refine RA.skip env_ok ?_
       intro _
       refine RA.seq hd ?_
       refine RA.region env_ok ?_
       refine OA.p (some 100) (Pt bn1 0 0) rfl rfl rfl rfl ?_
       refine OA.p (some 101) (.agg ⟨(xAc448 nn kn6)⟩) rfl rfl rfl (r_loadA rfl rfl rfl rfl (get_there (by omega) get_here) rfl rfl rfl) ?_
       refine OA.p (some 102) (.int .i64 0) rfl rfl rfl rfl ?_
       refine OA.op1 (dst := (some 103)) (v := (.slice (some ⟨(n8 + 1), 0, none⟩) 1 0)) (n1 := (n8 + 2)) (w := ((n8 + 1), some ⟨[[(.int .i64 0)]], 1, 3, true⟩)) rfl rfl rfl (by kernel_rfl) (by omega) ?_
       refine OA.call (dst := (some 104)) (all := (xAc44 bn1 nn kn6 n8)) rfl rfl rfl rfl rfl rfl rfl rfl (CQ.imp (aGive491530F (hd.of (by omega) (kb6 (by omega))) nn nx  bn1 kn6 (n8 + 1)   (gt4 (by omega) get_here) (gt3 (by omega) get_here) get_here) ?_)
       rintro _ n25 _ ⟨in25, p1n25, p2n25, rfl, rfl⟩ hn25
       refine OA.app2 ?_
       refine OA.op1 (dst := (some 18)) (v := (Pt n25 0 0)) (n1 := (n25 + 1)) (w := (n25, some ⟨[xAc454], 15, 53, true⟩)) rfl rfl rfl rfl (by omega) ?_
       refine OA.op1 (dst := none) (v := (.tuple #[])) (n1 := (n25 + 1)) (w := (n25, some ⟨[(xAc436 nn in25)], 15, 53, true⟩)) rfl rfl rfl (r_store rfl rfl rfl rfl rfl rfl rfl get_here rfl rfl (Nat.le_of_ble_eq_true rfl) rfl) (by omega) ?_
       refine OA.nil ?_
       intro _
       refine RA.weaken (D' := [(n25, some ⟨[(xAc436 nn in25)], 15, 53, true⟩), (bn1, some ⟨[(xAc412 nx nn in25)], 17, 103, true⟩), (in25, some ⟨[[(.int .i64 49157), (.string (bstr (be4 nn)))]], 2, 35, true⟩), ((n8 + 1), some ⟨[[(.int .i64 0)]], 1, 3, true⟩), (n8, some ⟨[xAc454], 15, 53, true⟩), (n6, some ⟨[(xAc448 nn kn6)], 15, 53, true⟩), (kn6, some ⟨[[(.int .i64 5), (.string (bstr (be4 0#32)))], [(.int .i64 49153), (.string (bstr (be4 nn ++ (be2 5 ++ (be2 8 ++ (be4 0#32 ++ []))))))], [(.int .i64 49160), (.string (bstr ((be4 nn ++ be4 3#32) ++ be4 4#32)))]], 2, 35, true⟩), (n1, some ⟨[xAc454], 15, 53, true⟩)]) hd (Less.of (fac (mm (fun _ => get_here) (fun _ => get_here)) (fac (mm (fun _ => (get_there (by omega) get_here)) (fun _ => (gt2 (by omega) get_here))) (fac (mm (fun _ => (gt2 (by omega) get_here)) (fun _ => (gt3 (by omega) get_here))) (fac (mm (fun _ => (gt3 (by omega) get_here)) (fun _ => (gt4 (by omega) get_here))) (fac (mm (fun _ => (gt4 (by omega) get_here)) (fun _ => (gt5 (by omega) get_here))) (fac (mm (fun _ => (gt5 (by omega) get_here)) (fun _ => (gt6 (by omega) get_here))) (fac (mm (fun _ => (gt6 (by omega) get_here)) (fun _ => (gt7 (by omega) get_here))) (fac (mm (fun _ => (gt7 (by omega) get_here)) (fun _ => (gt9 (by omega) get_here))) fan)))))))) (gone_of (by simp only [goneP, memP, List.cons_append, List.nil_append, true_or, or_true, true_and, and_true, or_false] <;> omega))) ?_
       refine RA.seq hd ?_
       refine RA.region env_ok ?_
       refine OA.p (some 105) (W nn) rfl rfl rfl rfl ?_
       refine OA.callP (dst := (some 106)) (all := [(W nn)]) (v := (.string (bstr (be4 nn)))) (hd.of (by omega) (kb8 (by omega))) rfl rfl rfl rfl rfl rfl rfl rfl (aFour nn) ?_
       intro n26 hn26
       refine OA.p (some 107) (.agg ⟨[(.int .i64 49157), (.string (bstr (be4 nn)))]⟩) rfl rfl rfl (by kernel_rfl) ?_
       refine OA.op1 (dst := (some 19)) (v := (Pt n26 0 0)) (n1 := (n26 + 1)) (w := (n26, some ⟨[[(.int .i64 0), (.string ByteArray.empty)]], 2, 35, true⟩)) rfl rfl rfl rfl (by omega) ?_
       refine OA.op1 (dst := none) (v := (.tuple #[])) (n1 := (n26 + 1)) (w := (n26, some ⟨[[(.int .i64 49157), (.string (bstr (be4 nn)))]], 2, 35, true⟩)) rfl rfl rfl (r_store rfl rfl rfl rfl rfl rfl rfl get_here rfl rfl (Nat.le_of_ble_eq_true rfl) rfl) (by omega) ?_
       refine OA.nil ?_
       intro _
       refine RA.weaken (D' := [(n26, some ⟨[[(.int .i64 49157), (.string (bstr (be4 nn)))]], 2, 35, true⟩), (n25, some ⟨[(xAc436 nn in25)], 15, 53, true⟩), (bn1, some ⟨[(xAc412 nx nn in25)], 17, 103, true⟩), (in25, some ⟨[[(.int .i64 49157), (.string (bstr (be4 nn)))]], 2, 35, true⟩), ((n8 + 1), some ⟨[[(.int .i64 0)]], 1, 3, true⟩), (n8, some ⟨[xAc454], 15, 53, true⟩), (n6, some ⟨[(xAc448 nn kn6)], 15, 53, true⟩), (kn6, some ⟨[[(.int .i64 5), (.string (bstr (be4 0#32)))], [(.int .i64 49153), (.string (bstr (be4 nn ++ (be2 5 ++ (be2 8 ++ (be4 0#32 ++ []))))))], [(.int .i64 49160), (.string (bstr ((be4 nn ++ be4 3#32) ++ be4 4#32)))]], 2, 35, true⟩), (n1, some ⟨[xAc454], 15, 53, true⟩)]) hd (Less.of (fac (mm (fun _ => get_here) (fun _ => get_here)) (fac (mm (fun _ => (get_there (by omega) get_here)) (fun _ => (gt2 (by omega) get_here))) (fac (mm (fun _ => (gt2 (by omega) get_here)) (fun _ => (gt3 (by omega) get_here))) (fac (mm (fun _ => (gt3 (by omega) get_here)) (fun _ => (gt4 (by omega) get_here))) (fac (mm (fun _ => (gt4 (by omega) get_here)) (fun _ => (gt5 (by omega) get_here))) (fac (mm (fun _ => (gt5 (by omega) get_here)) (fun _ => (gt6 (by omega) get_here))) (fac (mm (fun _ => (gt6 (by omega) get_here)) (fun _ => (gt7 (by omega) get_here))) (fac (mm (fun _ => (gt7 (by omega) get_here)) (fun _ => (gt8 (by omega) get_here))) (fac (mm (fun _ => (gt8 (by omega) get_here)) (fun _ => (gt9 (by omega) get_here))) fan))))))))) (gone_of (by simp only [goneP, memP, List.cons_append, List.nil_append, true_or, or_true, true_and, and_true, or_false] <;> omega))) ?_
       refine RA.seq hd ?_
       refine RA.seq hd ?_
       refine RA.region env_ok ?_
       refine OA.p (some 108) (.int .i64 0) rfl rfl rfl rfl ?_
       refine OA.p (some 109) (.bool false) rfl rfl rfl (r_bin rfl rfl rfl (b_neq rfl)) ?_
       refine OA.nil ?_
       intro _
       refine RA.condF rfl ?_
       refine RA.skip env_ok ?_
       intro _
       refine RA.seq hd ?_
       refine RA.region env_ok ?_
       refine OA.p (some 117) (W nn) rfl rfl rfl rfl ?_
       refine OA.p (some 118) (.agg ⟨[(.int .i64 49157), (.string (bstr (be4 nn)))]⟩) rfl rfl rfl (r_loadA rfl rfl rfl rfl get_here rfl rfl rfl) ?_
       refine OA.op1 (dst := (some 119)) (v := (.slice (some ⟨(n26 + 1), 0, none⟩) 1 0)) (n1 := (n26 + 2)) (w := ((n26 + 1), some ⟨[[(.int .i64 49157), (.string (bstr (be4 nn)))]], 2, 35, true⟩)) rfl rfl rfl (by kernel_rfl) (by omega) ?_
       refine OA.p (some 120) (.agg ⟨(xAc426 nn n26)⟩) rfl rfl rfl (by kernel_rfl) ?_
       refine OA.op1 (dst := none) (v := (.tuple #[])) (n1 := (n26 + 2)) (w := (n1, some ⟨[(xAc426 nn n26)], 15, 53, true⟩)) rfl rfl rfl (r_store rfl rfl rfl rfl rfl rfl rfl (gt9 (by omega) get_here) rfl rfl (Nat.le_of_ble_eq_true rfl) rfl) (by omega) ?_
       refine OA.p (some 10) (.bool true) rfl rfl rfl rfl ?_
       refine OA.nil ?_
       intro _
       refine RA.weaken (D' := [(n1, some ⟨[(xAc426 nn n26)], 15, 53, true⟩), ((n26 + 1), some ⟨[[(.int .i64 49157), (.string (bstr (be4 nn)))]], 2, 35, true⟩), (n26, some ⟨[[(.int .i64 49157), (.string (bstr (be4 nn)))]], 2, 35, true⟩), (n25, some ⟨[(xAc436 nn in25)], 15, 53, true⟩), (bn1, some ⟨[(xAc412 nx nn in25)], 17, 103, true⟩), (in25, some ⟨[[(.int .i64 49157), (.string (bstr (be4 nn)))]], 2, 35, true⟩), ((n8 + 1), some ⟨[[(.int .i64 0)]], 1, 3, true⟩), (n8, some ⟨[xAc454], 15, 53, true⟩), (n6, some ⟨[(xAc448 nn kn6)], 15, 53, true⟩), (kn6, some ⟨[[(.int .i64 5), (.string (bstr (be4 0#32)))], [(.int .i64 49153), (.string (bstr (be4 nn ++ (be2 5 ++ (be2 8 ++ (be4 0#32 ++ []))))))], [(.int .i64 49160), (.string (bstr ((be4 nn ++ be4 3#32) ++ be4 4#32)))]], 2, 35, true⟩)]) hd (Less.of (fac (mm (fun _ => get_here) (fun _ => get_here)) (fac (mm (fun _ => (get_there (by omega) get_here)) (fun _ => (get_there (by omega) get_here))) (fac (mm (fun _ => (gt2 (by omega) get_here)) (fun _ => (gt2 (by omega) get_here))) (fac (mm (fun _ => (gt3 (by omega) get_here)) (fun _ => (gt3 (by omega) get_here))) (fac (mm (fun _ => (gt4 (by omega) get_here)) (fun _ => (gt4 (by omega) get_here))) (fac (mm (fun _ => (gt5 (by omega) get_here)) (fun _ => (gt5 (by omega) get_here))) (fac (mm (fun _ => (gt6 (by omega) get_here)) (fun _ => (gt6 (by omega) get_here))) (fac (mm (fun _ => (gt7 (by omega) get_here)) (fun _ => (gt7 (by omega) get_here))) (fac (mm (fun _ => (gt8 (by omega) get_here)) (fun _ => (gt8 (by omega) get_here))) (fac (mm (fun _ => (gt9 (by omega) get_here)) (fun _ => (gt9 (by omega) get_here))) fan)))))))))) (gone_of (by simp only [goneP, memP, List.cons_append, List.nil_append, true_or, or_true, true_and, and_true, or_false] <;> omega))) ?_
       refine RA.rebase [(1, lv), (2, wv), (7, (Pt bn1 0 0)), (8, (W nx)), (9, (Pt n1 0 0)), (10, (.bool true)), (11, (.int .i64 ((i : Nat) : Int))), (12, (W nn)), (13, (Pt n6 0 0)), (14, (.bool true)), (15, (Pt n8 0 0)), (16, (.bool false)), (17, (.int .i64 0)), (18, (Pt n25 0 0)), (19, (Pt n26 0 0)), (33, (.bool true)), (86, (.bool false)), (88, (.bool false)), (91, (.bool false)), (109, (.bool false))] ⟨rfl, rfl, rfl, rfl, rfl, rfl, rfl, rfl, rfl, rfl, rfl, rfl, rfl, rfl, rfl, rfl, rfl, rfl, rfl, rfl, trivial⟩ (fun τr27 => ?_)
       refine RA.seq hd ?_
       refine RA.seq hd ?_
       refine RA.region env_ok ?_
       refine OA.p (some 121) (.agg ⟨(xAc436 nn in25)⟩) rfl rfl rfl (r_loadA rfl rfl rfl rfl (gt3 (by omega) get_here) rfl rfl rfl) ?_
       refine OA.p (some 122) (.agg ⟨(xAc426 nn n26)⟩) rfl rfl rfl (r_loadA rfl rfl rfl rfl get_here rfl rfl rfl) ?_
       refine OA.callP (dst := (some 123)) (all := [(.agg ⟨(xAc436 nn in25)⟩), (.agg ⟨(xAc426 nn n26)⟩)]) (v := (.bool true)) (hd.of (by omega) (kb10 (by omega))) rfl rfl rfl rfl rfl rfl rfl rfl (aSame nn in25 (n26 + 1) (49157) (bstr (be4 nn)) (gt5 (by omega) get_here) (get_there (by omega) get_here)) ?_
       intro n28 hn28
       refine OA.p (some 124) (.bool false) rfl rfl rfl rfl ?_
       refine OA.p (some 125) (.bool false) rfl rfl rfl rfl ?_
       refine OA.p (some 126) (.agg ⟨(xAc448 nn kn6)⟩) rfl rfl rfl (r_loadA rfl rfl rfl rfl (gt8 (by omega) get_here) rfl rfl rfl) ?_
       refine OA.call (dst := (some 127)) (all := [(.agg ⟨(xAc448 nn kn6)⟩)]) rfl rfl rfl rfl rfl rfl rfl rfl (CQ.imp (aAsked49153 (hd.of (by omega) (kb10 (by omega))) nn kn6 (gt9 (by omega) get_here)) ?_)
       rintro _ n29 _ ⟨in29, p1n29, p2n29, rfl, rfl⟩ hn29
       refine OA.app1 ?_
       refine OA.p (some 128) (.int .i64 1) rfl rfl rfl rfl ?_
       refine OA.p (some 129) (.bool false) rfl rfl rfl (r_bin rfl rfl rfl (b_neq rfl)) ?_
       refine OA.p (some 130) (.bool false) rfl rfl rfl rfl ?_
       refine OA.nil ?_
       intro _
       refine RA.condF rfl ?_
       refine RA.skip env_ok ?_
       intro _
       refine RA.region env_ok ?_
       refine OA.p (some 131) (W nx) rfl rfl rfl rfl ?_
       refine OA.p (some 132) (W (nx + (1#32))) rfl rfl rfl (r_bin rfl rfl rfl (b_addW nx (1#32))) ?_
       refine OA.p (some 8) (W (nx + (1#32))) rfl rfl rfl rfl ?_
       refine OA.nil ?_
       intro _
       refine RA.region env_ok ?_
       refine OA.p (some 34) (.int .i64 ((i : Nat) : Int)) rfl rfl rfl rfl ?_
       refine OA.p (some 35) (.int .i64 (((i + 1) : Nat) : Int)) rfl rfl rfl (r_bin rfl rfl rfl (b_add (i64_eq (by omega)))) ?_
       refine OA.p (some 11) (.int .i64 (((i + 1) : Nat) : Int)) rfl rfl rfl rfl ?_
       refine OA.nil ?_
       refine ⟨(ls.length - (i + 1)), by omega, [(bn1, some ⟨[(xAc412 nx nn in25)], 17, 103, true⟩), (n1, some ⟨[(xAc426 nn n26)], 15, 53, true⟩), (in25, some ⟨[[(.int .i64 49157), (.string (bstr (be4 nn)))]], 2, 35, true⟩), ((n26 + 1), some ⟨[[(.int .i64 49157), (.string (bstr (be4 nn)))]], 2, 35, true⟩)], (Less.of (fac (mm (fun _ => get_here) (fun _ => (gt5 (by omega) get_here))) (fac (mm (fun _ => (get_there (by omega) get_here)) (fun _ => (get_there (by omega) get_here))) (fac (mm (fun _ => (gt2 (by omega) get_here)) (fun _ => (gt6 (by omega) get_here))) (fac (mm (fun _ => (gt3 (by omega) get_here)) (fun _ => (gt2 (by omega) get_here))) fan)))) (gone_of (by simp only [goneP, memP, List.cons_append, List.nil_append, true_or, or_true, true_and, and_true, or_false] <;> omega))), .inr (⟨(i + 1), (nx + (1#32)), nn, in25, (n26 + 1), (49157), (bstr (be4 nn)), rfl, by omega, ⟨rfl, rfl, rfl, rfl, rfl, rfl, rfl, trivial⟩, rfl, (kb4 (by omega)), ⟨by omega, (by rw [w_eq hc4, BitVec.add_sub_cancel]), by omega, by omega, by omega⟩⟩)⟩
     ·
      refine OA.callP (dst := (some 58)) (all := [(Pt bn1 0 0), (.agg ⟨(xAc448 nn kn6)⟩)]) (v := (.tuple ⟨xAc420⟩)) (hd.of (by omega) (kb4 (by omega))) rfl rfl rfl rfl rfl rfl rfl rfl (aTakeF nn nx bn1 kn6 hc4 (gt2 (by omega) get_here)) ?_
      intro n30 hn30
      refine OA.p (some 55) (.tuple ⟨xAc420⟩) rfl rfl rfl rfl ?_
      refine OA.p (some 59) (.bool false) rfl rfl rfl rfl ?_
      refine OA.p (some 60) (.agg ⟨xAc454⟩) rfl rfl rfl rfl ?_
      refine OA.p (some 61) (.bool false) rfl rfl rfl rfl ?_
      refine OA.op1 (dst := (some 15)) (v := (Pt n30 0 0)) (n1 := (n30 + 1)) (w := (n30, some ⟨[xAc454], 15, 53, true⟩)) rfl rfl rfl rfl (by omega) ?_
      refine OA.p (some 14) (.bool false) rfl rfl rfl rfl ?_
      refine OA.op1 (dst := none) (v := (.tuple #[])) (n1 := (n30 + 1)) (w := (n30, some ⟨[xAc454], 15, 53, true⟩)) rfl rfl rfl (r_store rfl rfl rfl rfl rfl rfl rfl get_here rfl rfl (Nat.le_of_ble_eq_true rfl) rfl) (by omega) ?_
      refine OA.p (some 16) (.bool false) rfl rfl rfl rfl ?_
      refine OA.nil ?_
      intro _
      refine RA.weaken (D' := [(n30, some ⟨[xAc454], 15, 53, true⟩), (n6, some ⟨[(xAc448 nn kn6)], 15, 53, true⟩), (kn6, some ⟨[[(.int .i64 5), (.string (bstr (be4 0#32)))], [(.int .i64 49153), (.string (bstr (be4 nn ++ (be2 5 ++ (be2 8 ++ (be4 0#32 ++ []))))))], [(.int .i64 49160), (.string (bstr ((be4 nn ++ be4 3#32) ++ be4 4#32)))]], 2, 35, true⟩), (bn1, some ⟨[(xAc423 nx)], 17, 103, true⟩), (n1, some ⟨[xAc454], 15, 53, true⟩)]) hd (Less.of (fac (mm (fun _ => get_here) (fun _ => get_here)) (fac (mm (fun _ => (get_there (by omega) get_here)) (fun _ => (gt2 (by omega) get_here))) (fac (mm (fun _ => (gt2 (by omega) get_here)) (fun _ => (gt3 (by omega) get_here))) (fac (mm (fun _ => (gt3 (by omega) get_here)) (fun _ => (gt4 (by omega) get_here))) (fac (mm (fun _ => (gt4 (by omega) get_here)) (fun _ => (gt5 (by omega) get_here))) fan))))) (gone_of (by simp only [goneP, memP, List.cons_append, List.nil_append, true_or, or_true, true_and, and_true, or_false] <;> omega))) ?_
      refine RA.seq hd ?_
      refine RA.seq hd ?_
      refine RA.region env_ok ?_
      refine OA.p (some 62) (.bool false) rfl rfl rfl rfl ?_
      refine OA.p (some 63) (W nn) rfl rfl rfl rfl ?_
      refine OA.p (some 64) (W nx) rfl rfl rfl rfl ?_
      refine OA.p (some 65) (.bool false) rfl rfl rfl (Eq.trans (r_bin rfl rfl rfl (b_eql rfl)) (dF hc4)) ?_
      refine OA.p (some 66) (.bool false) rfl rfl rfl rfl ?_
      refine OA.p (some 67) (.bool false) rfl rfl rfl rfl ?_
      refine OA.p (some 68) (.bool false) rfl rfl rfl rfl ?_
      refine OA.p (some 69) (.bool false) rfl rfl rfl rfl ?_
      refine OA.p (some 70) (.bool false) rfl rfl rfl rfl ?_
      refine OA.off (dst := (some 71)) rfl rfl rfl ?_
      refine OA.off (dst := (some 72)) rfl rfl rfl ?_
      refine OA.off (dst := (some 73)) rfl rfl rfl ?_
      refine OA.off (dst := (some 74)) rfl rfl rfl ?_
      refine OA.p (some 75) (.bool false) rfl rfl rfl rfl ?_
      refine OA.p (some 76) (.bool false) rfl rfl rfl rfl ?_
      refine OA.p (some 77) (.bool false) rfl rfl rfl rfl ?_
      refine OA.p (some 78) (.bool false) rfl rfl rfl rfl ?_
      refine OA.p (some 79) (.bool false) rfl rfl rfl rfl ?_
      refine OA.p (some 80) (.bool false) rfl rfl rfl rfl ?_
      refine OA.off (dst := (some 81)) rfl rfl rfl ?_
      refine OA.off (dst := (some 82)) rfl rfl rfl ?_
      refine OA.off (dst := (some 83)) rfl rfl rfl ?_
      refine OA.off (dst := (some 84)) rfl rfl rfl ?_
      refine OA.p (some 85) (.bool false) rfl rfl rfl rfl ?_
      refine OA.p (some 86) (.bool false) rfl rfl rfl rfl ?_
      refine OA.nil ?_
      intro _
      refine RA.rebase [(1, lv), (2, wv), (7, (Pt bn1 0 0)), (8, (W nx)), (9, (Pt n1 0 0)), (10, (.bool false)), (11, (.int .i64 ((i : Nat) : Int))), (12, (W nn)), (13, (Pt n6 0 0)), (14, (.bool false)), (15, (Pt n30 0 0)), (16, (.bool false)), (33, (.bool true)), (86, (.bool false))] ⟨rfl, rfl, rfl, rfl, rfl, rfl, rfl, rfl, rfl, rfl, rfl, rfl, rfl, rfl, trivial⟩ (fun τr31 => ?_)
      refine RA.condF rfl ?_
      refine RA.skip env_ok ?_
      intro _
      refine RA.seq hd ?_
      refine RA.seq hd ?_
      refine RA.region env_ok ?_
      refine OA.p (some 87) (.bool false) rfl rfl rfl rfl ?_
      refine OA.p (some 88) (.bool true) rfl rfl rfl rfl ?_
      refine OA.nil ?_
      intro _
      refine RA.condT rfl ?_
      refine RA.exit env_ok ?_
      intro _
      refine RA.region env_ok ?_
      refine OA.p (some 34) (.int .i64 ((i : Nat) : Int)) rfl rfl rfl rfl ?_
      refine OA.p (some 35) (.int .i64 (((i + 1) : Nat) : Int)) rfl rfl rfl (r_bin rfl rfl rfl (b_add (i64_eq (by omega)))) ?_
      refine OA.p (some 11) (.int .i64 (((i + 1) : Nat) : Int)) rfl rfl rfl rfl ?_
      refine OA.nil ?_
      refine ⟨(ls.length - (i + 1)), by omega, [(bn1, some ⟨[(xAc423 nx)], 17, 103, true⟩), (n1, some ⟨[xAc454], 15, 53, true⟩)], (Less.of (fac (mm (fun _ => get_here) (fun _ => (gt3 (by omega) get_here))) (fac (mm (fun _ => (get_there (by omega) get_here)) (fun _ => (gt4 (by omega) get_here))) fan)) (gone_of (by simp only [goneP, memP, List.cons_append, List.nil_append, true_or, or_true, true_and, and_true, or_false] <;> omega))), .inl (⟨(i + 1), nx, rfl, by omega, ⟨rfl, rfl, rfl, rfl, rfl, rfl, rfl, trivial⟩, rfl, (kb2 (by omega)), by omega⟩)⟩
    ·
     refine OA.callP (dst := (some 53)) (all := [(.agg ⟨(xAc456 ls i)⟩)]) (v := (.agg ⟨[(.int .i64 49154), (.int .u32 0), (.int .u32 0)]⟩)) (hd.of (by omega) (kb2 (by omega))) rfl rfl rfl rfl rfl rfl rfl rfl (aKindZ1 (andN (Int.tmod (ls.getD i dI1).z 3) 1) (by omega)) ?_
     intro n32 hn32
     refine OA.call (dst := (some 54)) (all := [(W nn), (.agg ⟨[(.int .i64 49154), (.int .u32 0), (.int .u32 0)]⟩), (.int .u32 3), (.int .u32 4)]) rfl rfl rfl rfl rfl rfl rfl rfl (CQ.imp (aChunk49154 (hd.of (by omega) (kb2 (by omega))) nn) ?_)
     rintro _ n33 _ ⟨kn33, p1n33, p2n33, rfl, rfl⟩ hn33
     refine OA.app1 ?_
     refine OA.op1 (dst := (some 13)) (v := (Pt n33 0 0)) (n1 := (n33 + 1)) (w := (n33, some ⟨[xAc454], 15, 53, true⟩)) rfl rfl rfl rfl (by omega) ?_
     refine OA.op1 (dst := none) (v := (.tuple #[])) (n1 := (n33 + 1)) (w := (n33, some ⟨[(xAc437 nn kn33)], 15, 53, true⟩)) rfl rfl rfl (r_store rfl rfl rfl rfl rfl rfl rfl get_here rfl rfl (Nat.le_of_ble_eq_true rfl) rfl) (by omega) ?_
     refine OA.nil ?_
     intro _
     refine RA.weaken (D' := [(n33, some ⟨[(xAc437 nn kn33)], 15, 53, true⟩), (kn33, some ⟨[[(.int .i64 5), (.string (bstr (be4 0#32)))], [(.int .i64 49154), (.string (bstr (be4 nn ++ (be2 5 ++ (be2 8 ++ (be4 0#32 ++ []))))))], [(.int .i64 49160), (.string (bstr ((be4 nn ++ be4 3#32) ++ be4 4#32)))]], 2, 35, true⟩), (bn1, some ⟨[(xAc423 nx)], 17, 103, true⟩), (n1, some ⟨[xAc454], 15, 53, true⟩)]) hd (Less.of (fac (mm (fun _ => get_here) (fun _ => get_here)) (fac (mm (fun _ => (get_there (by omega) get_here)) (fun _ => (gt2 (by omega) get_here))) (fac (mm (fun _ => (gt2 (by omega) get_here)) (fun _ => (gt3 (by omega) get_here))) (fac (mm (fun _ => (gt3 (by omega) get_here)) (fun _ => (gt4 (by omega) get_here))) fan)))) (gone_of (by simp only [goneP, memP, List.cons_append, List.nil_append, true_or, or_true, true_and, and_true, or_false] <;> omega))) ?_
     refine RA.rebase [(1, lv), (2, wv), (7, (Pt bn1 0 0)), (8, (W nx)), (9, (Pt n1 0 0)), (10, (.bool false)), (11, (.int .i64 ((i : Nat) : Int))), (12, (W nn)), (13, (Pt n33 0 0)), (33, (.bool true))] ⟨rfl, rfl, rfl, rfl, rfl, rfl, rfl, rfl, rfl, rfl, trivial⟩ (fun τr34 => ?_)
     refine RA.seq hd ?_
     refine RA.region env_ok ?_
     refine OA.p (some 56) (Pt bn1 0 0) rfl rfl rfl rfl ?_
     refine OA.p (some 57) (.agg ⟨(xAc437 nn kn33)⟩) rfl rfl rfl (r_loadA rfl rfl rfl rfl get_here rfl rfl rfl) ?_
     by_cases hc7 : (nn.toNat : Int) = (nx.toNat : Int)
     ·
      refine OA.callP (dst := (some 58)) (all := [(Pt bn1 0 0), (.agg ⟨(xAc437 nn kn33)⟩)]) (v := (.tuple ⟨xAc421⟩)) (hd.of (by omega) (kb4 (by omega))) rfl rfl rfl rfl rfl rfl rfl rfl (aTakeN nn nx bn1 kn33 hc7 (gt2 (by omega) get_here)) ?_
      intro n35 hn35
      refine OA.p (some 55) (.tuple ⟨xAc421⟩) rfl rfl rfl rfl ?_
      refine OA.p (some 59) (.bool true) rfl rfl rfl rfl ?_
      refine OA.p (some 60) (.agg ⟨xAc454⟩) rfl rfl rfl rfl ?_
      refine OA.p (some 61) (.bool false) rfl rfl rfl rfl ?_
      refine OA.op1 (dst := (some 15)) (v := (Pt n35 0 0)) (n1 := (n35 + 1)) (w := (n35, some ⟨[xAc454], 15, 53, true⟩)) rfl rfl rfl rfl (by omega) ?_
      refine OA.p (some 14) (.bool true) rfl rfl rfl rfl ?_
      refine OA.op1 (dst := none) (v := (.tuple #[])) (n1 := (n35 + 1)) (w := (n35, some ⟨[xAc454], 15, 53, true⟩)) rfl rfl rfl (r_store rfl rfl rfl rfl rfl rfl rfl get_here rfl rfl (Nat.le_of_ble_eq_true rfl) rfl) (by omega) ?_
      refine OA.p (some 16) (.bool false) rfl rfl rfl rfl ?_
      refine OA.nil ?_
      intro _
      refine RA.weaken (D' := [(n35, some ⟨[xAc454], 15, 53, true⟩), (n33, some ⟨[(xAc437 nn kn33)], 15, 53, true⟩), (kn33, some ⟨[[(.int .i64 5), (.string (bstr (be4 0#32)))], [(.int .i64 49154), (.string (bstr (be4 nn ++ (be2 5 ++ (be2 8 ++ (be4 0#32 ++ []))))))], [(.int .i64 49160), (.string (bstr ((be4 nn ++ be4 3#32) ++ be4 4#32)))]], 2, 35, true⟩), (bn1, some ⟨[(xAc423 nx)], 17, 103, true⟩), (n1, some ⟨[xAc454], 15, 53, true⟩)]) hd (Less.of (fac (mm (fun _ => get_here) (fun _ => get_here)) (fac (mm (fun _ => (get_there (by omega) get_here)) (fun _ => (gt2 (by omega) get_here))) (fac (mm (fun _ => (gt2 (by omega) get_here)) (fun _ => (gt3 (by omega) get_here))) (fac (mm (fun _ => (gt3 (by omega) get_here)) (fun _ => (gt4 (by omega) get_here))) (fac (mm (fun _ => (gt4 (by omega) get_here)) (fun _ => (gt5 (by omega) get_here))) fan))))) (gone_of (by simp only [goneP, memP, List.cons_append, List.nil_append, true_or, or_true, true_and, and_true, or_false] <;> omega))) ?_
      refine RA.seq hd ?_
      refine RA.seq hd ?_
      refine RA.region env_ok ?_
      refine OA.p (some 62) (.bool true) rfl rfl rfl rfl ?_
      refine OA.p (some 63) (W nn) rfl rfl rfl rfl ?_
      refine OA.p (some 64) (W nx) rfl rfl rfl rfl ?_
      refine OA.p (some 65) (.bool true) rfl rfl rfl (Eq.trans (r_bin rfl rfl rfl (b_eql rfl)) (dT hc7)) ?_
      refine OA.p (some 66) (.bool false) rfl rfl rfl rfl ?_
      refine OA.p (some 67) (.bool false) rfl rfl rfl rfl ?_
      refine OA.p (some 68) (.bool false) rfl rfl rfl rfl ?_
      refine OA.p (some 69) (.bool false) rfl rfl rfl rfl ?_
      refine OA.p (some 70) (.bool false) rfl rfl rfl rfl ?_
      refine OA.off (dst := (some 71)) rfl rfl rfl ?_
      refine OA.off (dst := (some 72)) rfl rfl rfl ?_
      refine OA.off (dst := (some 73)) rfl rfl rfl ?_
      refine OA.off (dst := (some 74)) rfl rfl rfl ?_
      refine OA.p (some 75) (.bool false) rfl rfl rfl rfl ?_
      refine OA.p (some 76) (.bool false) rfl rfl rfl rfl ?_
      refine OA.p (some 77) (.bool false) rfl rfl rfl rfl ?_
      refine OA.p (some 78) (.bool false) rfl rfl rfl rfl ?_
      refine OA.p (some 79) (.bool false) rfl rfl rfl rfl ?_
      refine OA.p (some 80) (.bool false) rfl rfl rfl rfl ?_
      refine OA.off (dst := (some 81)) rfl rfl rfl ?_
      refine OA.off (dst := (some 82)) rfl rfl rfl ?_
      refine OA.off (dst := (some 83)) rfl rfl rfl ?_
      refine OA.off (dst := (some 84)) rfl rfl rfl ?_
      refine OA.p (some 85) (.bool false) rfl rfl rfl rfl ?_
      refine OA.p (some 86) (.bool false) rfl rfl rfl rfl ?_
      refine OA.nil ?_
      intro _
      refine RA.rebase [(1, lv), (2, wv), (7, (Pt bn1 0 0)), (8, (W nx)), (9, (Pt n1 0 0)), (10, (.bool false)), (11, (.int .i64 ((i : Nat) : Int))), (12, (W nn)), (13, (Pt n33 0 0)), (14, (.bool true)), (15, (Pt n35 0 0)), (16, (.bool false)), (33, (.bool true)), (86, (.bool false))] ⟨rfl, rfl, rfl, rfl, rfl, rfl, rfl, rfl, rfl, rfl, rfl, rfl, rfl, rfl, trivial⟩ (fun τr36 => ?_)
      refine RA.condF rfl ?_
      refine RA.skip env_ok ?_
      intro _
      refine RA.seq hd ?_
      refine RA.seq hd ?_
      refine RA.region env_ok ?_
      refine OA.p (some 87) (.bool true) rfl rfl rfl rfl ?_
      refine OA.p (some 88) (.bool false) rfl rfl rfl rfl ?_
      refine OA.nil ?_
      intro _
      refine RA.condF rfl ?_
      refine RA.skip env_ok ?_
      intro _
      refine RA.seq hd ?_
      refine RA.region env_ok ?_
      refine OA.p (some 17) (.int .i64 0) rfl rfl rfl rfl ?_
      refine OA.nil ?_
      intro _
      refine RA.seq hd ?_
      refine RA.seq hd ?_
      refine RA.region env_ok ?_
      refine OA.p (some 89) wv rfl rfl rfl rfl ?_
      refine OA.p (some 90) (.int .i64 ((ws.length : Nat) : Int)) rfl rfl rfl (r_lenP (c := cI1) rfl rfl rfl rfl rfl rfl hwv rfl) ?_
      by_cases hc8 : 0 < ((ws.length : Nat) : Int)
      ·
       have hml := Nat.mod_lt i (show 0 < ws.length by omega)
       obtain ⟨rest2, hat2⟩ := hwv.get (m := (i % ws.length)) (by omega)
       have lathat2 := hd.lt hat2
       refine OA.p (some 91) (.bool true) rfl rfl rfl (Eq.trans (r_bin rfl rfl rfl (b_gtr rfl)) (dT hc8)) ?_
       refine OA.nil ?_
       intro _
       refine RA.condT rfl ?_
       refine RA.region env_ok ?_
       refine OA.p (some 92) wv rfl rfl rfl rfl ?_
       refine OA.p (some 93) (.int .i64 ((i : Nat) : Int)) rfl rfl rfl rfl ?_
       refine OA.p (some 94) wv rfl rfl rfl rfl ?_
       refine OA.p (some 95) (.int .i64 ((ws.length : Nat) : Int)) rfl rfl rfl (r_lenP (c := cI1) rfl rfl rfl rfl rfl rfl hwv rfl) ?_
       have hmd37 := Nat.mod_lt i (show 0 < ws.length by omega)
       refine OA.p (some 96) (.int .i64 (((i % ws.length) : Nat) : Int)) rfl rfl rfl (r_bin rfl rfl rfl (b_remN (a := i) (c := ws.length) (by omega))) ?_
       refine OA.p (some 97) (.pointer (some ⟨(rk wv), (i % ws.length), some 0⟩)) rfl rfl rfl (r_iaP (c := cI1) (m := (i % ws.length)) rfl rfl rfl rfl rfl rfl hwv rfl (by omega) (gt5 (by omega) hat2) rfl) ?_
       refine OA.p (some 98) (.int .i64 (ws.getD (i % ws.length) dI1).z) rfl rfl rfl (r_load1 (e := cI1 (ws.getD (i % ws.length) dI1)) rfl rfl rfl rfl rfl (gt5 (by omega) hat2) (mp_getA (by omega)) rfl) ?_
       have hm38 := andN_le (ws.getD (i % ws.length) dI1).z 255 (by decide)
       refine OA.p (some 99) (.int .i64 (((andN (ws.getD (i % ws.length) dI1).z 255) : Nat) : Int)) rfl rfl rfl (r_bin rfl rfl rfl (b_andN (ws.getD (i % ws.length) dI1).z 255 (by decide))) ?_
       refine OA.p (some 17) (.int .i64 (((andN (ws.getD (i % ws.length) dI1).z 255) : Nat) : Int)) rfl rfl rfl rfl ?_
       refine OA.nil ?_
       intro _
       refine RA.seq hd ?_
       refine RA.region env_ok ?_
       refine OA.p (some 100) (Pt bn1 0 0) rfl rfl rfl rfl ?_
       refine OA.p (some 101) (.agg ⟨(xAc437 nn kn33)⟩) rfl rfl rfl (r_loadA rfl rfl rfl rfl (get_there (by omega) get_here) rfl rfl rfl) ?_
       refine OA.p (some 102) (.int .i64 (((andN (ws.getD (i % ws.length) dI1).z 255) : Nat) : Int)) rfl rfl rfl rfl ?_
       refine OA.op1 (dst := (some 103)) (v := (.slice (some ⟨(n35 + 1), 0, none⟩) 1 0)) (n1 := (n35 + 2)) (w := ((n35 + 1), some ⟨[[(.int .i64 (((andN (ws.getD (i % ws.length) dI1).z 255) : Nat) : Int))]], 1, 3, true⟩)) rfl rfl rfl (by kernel_rfl) (by omega) ?_
       by_cases hc9 : (andN (ws.getD (i % ws.length) dI1).z 255) = 0
       ·
        refine OA.call (dst := (some 104)) (all := (xAc41 bn1 nn kn33 n35)) rfl rfl rfl rfl rfl rfl rfl rfl (CQ.imp (aGive491540F (hd.of (by omega) (kb6 (by omega))) nn nx  bn1 kn33 (n35 + 1)   (gt4 (by omega) get_here) (gt3 (by omega) get_here) (Eq.trans get_here (congrArg (fun z : Nat => some (AObj.mk [[.int .i64 ((z : Nat) : Int)]] 1 3 true)) hc9))) ?_)
        rintro _ n39 _ ⟨in39, p1n39, p2n39, rfl, rfl⟩ hn39
        refine OA.app2 ?_
        refine OA.op1 (dst := (some 18)) (v := (Pt n39 0 0)) (n1 := (n39 + 1)) (w := (n39, some ⟨[xAc454], 15, 53, true⟩)) rfl rfl rfl rfl (by omega) ?_
        refine OA.op1 (dst := none) (v := (.tuple #[])) (n1 := (n39 + 1)) (w := (n39, some ⟨[(xAc438 nn in39)], 15, 53, true⟩)) rfl rfl rfl (r_store rfl rfl rfl rfl rfl rfl rfl get_here rfl rfl (Nat.le_of_ble_eq_true rfl) rfl) (by omega) ?_
        refine OA.nil ?_
        intro _
        refine RA.weaken (D' := [(n39, some ⟨[(xAc438 nn in39)], 15, 53, true⟩), (bn1, some ⟨[(xAc413 nx nn in39)], 17, 103, true⟩), (in39, some ⟨[[(.int .i64 49157), (.string (bstr (be4 nn)))]], 2, 35, true⟩), ((n35 + 1), some ⟨[[(.int .i64 (((andN (ws.getD (i % ws.length) dI1).z 255) : Nat) : Int))]], 1, 3, true⟩), (n35, some ⟨[xAc454], 15, 53, true⟩), (n33, some ⟨[(xAc437 nn kn33)], 15, 53, true⟩), (kn33, some ⟨[[(.int .i64 5), (.string (bstr (be4 0#32)))], [(.int .i64 49154), (.string (bstr (be4 nn ++ (be2 5 ++ (be2 8 ++ (be4 0#32 ++ []))))))], [(.int .i64 49160), (.string (bstr ((be4 nn ++ be4 3#32) ++ be4 4#32)))]], 2, 35, true⟩), (n1, some ⟨[xAc454], 15, 53, true⟩)]) hd (Less.of (fac (mm (fun _ => get_here) (fun _ => get_here)) (fac (mm (fun _ => (get_there (by omega) get_here)) (fun _ => (gt2 (by omega) get_here))) (fac (mm (fun _ => (gt2 (by omega) get_here)) (fun _ => (gt3 (by omega) get_here))) (fac (mm (fun _ => (gt3 (by omega) get_here)) (fun _ => (gt4 (by omega) get_here))) (fac (mm (fun _ => (gt4 (by omega) get_here)) (fun _ => (gt5 (by omega) get_here))) (fac (mm (fun _ => (gt5 (by omega) get_here)) (fun _ => (gt6 (by omega) get_here))) (fac (mm (fun _ => (gt6 (by omega) get_here)) (fun _ => (gt7 (by omega) get_here))) (fac (mm (fun _ => (gt7 (by omega) get_here)) (fun _ => (gt9 (by omega) get_here))) fan)))))))) (gone_of (by simp only [goneP, memP, List.cons_append, List.nil_append, true_or, or_true, true_and, and_true, or_false] <;> omega))) ?_
        refine RA.seq hd ?_
        refine RA.region env_ok ?_
        refine OA.p (some 105) (W nn) rfl rfl rfl rfl ?_
        refine OA.callP (dst := (some 106)) (all := [(W nn)]) (v := (.string (bstr (be4 nn)))) (hd.of (by omega) (kb8 (by omega))) rfl rfl rfl rfl rfl rfl rfl rfl (aFour nn) ?_
        intro n40 hn40
        refine OA.p (some 107) (.agg ⟨[(.int .i64 49157), (.string (bstr (be4 nn)))]⟩) rfl rfl rfl (by kernel_rfl) ?_
        refine OA.op1 (dst := (some 19)) (v := (Pt n40 0 0)) (n1 := (n40 + 1)) (w := (n40, some ⟨[[(.int .i64 0), (.string ByteArray.empty)]], 2, 35, true⟩)) rfl rfl rfl rfl (by omega) ?_
        refine OA.op1 (dst := none) (v := (.tuple #[])) (n1 := (n40 + 1)) (w := (n40, some ⟨[[(.int .i64 49157), (.string (bstr (be4 nn)))]], 2, 35, true⟩)) rfl rfl rfl (r_store rfl rfl rfl rfl rfl rfl rfl get_here rfl rfl (Nat.le_of_ble_eq_true rfl) rfl) (by omega) ?_
        refine OA.nil ?_
        intro _
        refine RA.weaken (D' := [(n40, some ⟨[[(.int .i64 49157), (.string (bstr (be4 nn)))]], 2, 35, true⟩), (n39, some ⟨[(xAc438 nn in39)], 15, 53, true⟩), (bn1, some ⟨[(xAc413 nx nn in39)], 17, 103, true⟩), (in39, some ⟨[[(.int .i64 49157), (.string (bstr (be4 nn)))]], 2, 35, true⟩), ((n35 + 1), some ⟨[[(.int .i64 (((andN (ws.getD (i % ws.length) dI1).z 255) : Nat) : Int))]], 1, 3, true⟩), (n35, some ⟨[xAc454], 15, 53, true⟩), (n33, some ⟨[(xAc437 nn kn33)], 15, 53, true⟩), (kn33, some ⟨[[(.int .i64 5), (.string (bstr (be4 0#32)))], [(.int .i64 49154), (.string (bstr (be4 nn ++ (be2 5 ++ (be2 8 ++ (be4 0#32 ++ []))))))], [(.int .i64 49160), (.string (bstr ((be4 nn ++ be4 3#32) ++ be4 4#32)))]], 2, 35, true⟩), (n1, some ⟨[xAc454], 15, 53, true⟩)]) hd (Less.of (fac (mm (fun _ => get_here) (fun _ => get_here)) (fac (mm (fun _ => (get_there (by omega) get_here)) (fun _ => (gt2 (by omega) get_here))) (fac (mm (fun _ => (gt2 (by omega) get_here)) (fun _ => (gt3 (by omega) get_here))) (fac (mm (fun _ => (gt3 (by omega) get_here)) (fun _ => (gt4 (by omega) get_here))) (fac (mm (fun _ => (gt4 (by omega) get_here)) (fun _ => (gt5 (by omega) get_here))) (fac (mm (fun _ => (gt5 (by omega) get_here)) (fun _ => (gt6 (by omega) get_here))) (fac (mm (fun _ => (gt6 (by omega) get_here)) (fun _ => (gt7 (by omega) get_here))) (fac (mm (fun _ => (gt7 (by omega) get_here)) (fun _ => (gt8 (by omega) get_here))) (fac (mm (fun _ => (gt8 (by omega) get_here)) (fun _ => (gt9 (by omega) get_here))) fan))))))))) (gone_of (by simp only [goneP, memP, List.cons_append, List.nil_append, true_or, or_true, true_and, and_true, or_false] <;> omega))) ?_
        refine RA.rebase [(1, lv), (2, wv), (7, (Pt bn1 0 0)), (8, (W nx)), (9, (Pt n1 0 0)), (10, (.bool false)), (11, (.int .i64 ((i : Nat) : Int))), (12, (W nn)), (13, (Pt n33 0 0)), (14, (.bool true)), (15, (Pt n35 0 0)), (16, (.bool false)), (17, (.int .i64 (((andN (ws.getD (i % ws.length) dI1).z 255) : Nat) : Int))), (18, (Pt n39 0 0)), (19, (Pt n40 0 0)), (33, (.bool true)), (86, (.bool false)), (88, (.bool false)), (91, (.bool true))] ⟨rfl, rfl, rfl, rfl, rfl, rfl, rfl, rfl, rfl, rfl, rfl, rfl, rfl, rfl, rfl, rfl, rfl, rfl, rfl, trivial⟩ (fun τr41 => ?_)
        refine RA.seq hd ?_
        refine RA.seq hd ?_
        refine RA.region env_ok ?_
        refine OA.p (some 108) (.int .i64 (((andN (ws.getD (i % ws.length) dI1).z 255) : Nat) : Int)) rfl rfl rfl rfl ?_
        refine OA.p (some 109) (.bool false) rfl rfl rfl (r_bin rfl rfl rfl (b_neq (decide_eq_false (by omega)))) ?_
        refine OA.nil ?_
        intro _
        refine RA.condF rfl ?_
        refine RA.skip env_ok ?_
        intro _
        refine RA.seq hd ?_
        refine RA.region env_ok ?_
        refine OA.p (some 117) (W nn) rfl rfl rfl rfl ?_
        refine OA.p (some 118) (.agg ⟨[(.int .i64 49157), (.string (bstr (be4 nn)))]⟩) rfl rfl rfl (r_loadA rfl rfl rfl rfl get_here rfl rfl rfl) ?_
        refine OA.op1 (dst := (some 119)) (v := (.slice (some ⟨(n40 + 1), 0, none⟩) 1 0)) (n1 := (n40 + 2)) (w := ((n40 + 1), some ⟨[[(.int .i64 49157), (.string (bstr (be4 nn)))]], 2, 35, true⟩)) rfl rfl rfl (by kernel_rfl) (by omega) ?_
        refine OA.p (some 120) (.agg ⟨(xAc427 nn n40)⟩) rfl rfl rfl (by kernel_rfl) ?_
        refine OA.op1 (dst := none) (v := (.tuple #[])) (n1 := (n40 + 2)) (w := (n1, some ⟨[(xAc427 nn n40)], 15, 53, true⟩)) rfl rfl rfl (r_store rfl rfl rfl rfl rfl rfl rfl (gt9 (by omega) get_here) rfl rfl (Nat.le_of_ble_eq_true rfl) rfl) (by omega) ?_
        refine OA.p (some 10) (.bool true) rfl rfl rfl rfl ?_
        refine OA.nil ?_
        intro _
        refine RA.weaken (D' := [(n1, some ⟨[(xAc427 nn n40)], 15, 53, true⟩), ((n40 + 1), some ⟨[[(.int .i64 49157), (.string (bstr (be4 nn)))]], 2, 35, true⟩), (n40, some ⟨[[(.int .i64 49157), (.string (bstr (be4 nn)))]], 2, 35, true⟩), (n39, some ⟨[(xAc438 nn in39)], 15, 53, true⟩), (bn1, some ⟨[(xAc413 nx nn in39)], 17, 103, true⟩), (in39, some ⟨[[(.int .i64 49157), (.string (bstr (be4 nn)))]], 2, 35, true⟩), ((n35 + 1), some ⟨[[(.int .i64 (((andN (ws.getD (i % ws.length) dI1).z 255) : Nat) : Int))]], 1, 3, true⟩), (n35, some ⟨[xAc454], 15, 53, true⟩), (n33, some ⟨[(xAc437 nn kn33)], 15, 53, true⟩), (kn33, some ⟨[[(.int .i64 5), (.string (bstr (be4 0#32)))], [(.int .i64 49154), (.string (bstr (be4 nn ++ (be2 5 ++ (be2 8 ++ (be4 0#32 ++ []))))))], [(.int .i64 49160), (.string (bstr ((be4 nn ++ be4 3#32) ++ be4 4#32)))]], 2, 35, true⟩)]) hd (Less.of (fac (mm (fun _ => get_here) (fun _ => get_here)) (fac (mm (fun _ => (get_there (by omega) get_here)) (fun _ => (get_there (by omega) get_here))) (fac (mm (fun _ => (gt2 (by omega) get_here)) (fun _ => (gt2 (by omega) get_here))) (fac (mm (fun _ => (gt3 (by omega) get_here)) (fun _ => (gt3 (by omega) get_here))) (fac (mm (fun _ => (gt4 (by omega) get_here)) (fun _ => (gt4 (by omega) get_here))) (fac (mm (fun _ => (gt5 (by omega) get_here)) (fun _ => (gt5 (by omega) get_here))) (fac (mm (fun _ => (gt6 (by omega) get_here)) (fun _ => (gt6 (by omega) get_here))) (fac (mm (fun _ => (gt7 (by omega) get_here)) (fun _ => (gt7 (by omega) get_here))) (fac (mm (fun _ => (gt8 (by omega) get_here)) (fun _ => (gt8 (by omega) get_here))) (fac (mm (fun _ => (gt9 (by omega) get_here)) (fun _ => (gt9 (by omega) get_here))) fan)))))))))) (gone_of (by simp only [goneP, memP, List.cons_append, List.nil_append, true_or, or_true, true_and, and_true, or_false] <;> omega))) ?_
        refine RA.seq hd ?_
        refine RA.seq hd ?_
        refine RA.region env_ok ?_
        refine OA.p (some 121) (.agg ⟨(xAc438 nn in39)⟩) rfl rfl rfl (r_loadA rfl rfl rfl rfl (gt3 (by omega) get_here) rfl rfl rfl) ?_
        refine OA.p (some 122) (.agg ⟨(xAc427 nn n40)⟩) rfl rfl rfl (r_loadA rfl rfl rfl rfl get_here rfl rfl rfl) ?_
        refine OA.callP (dst := (some 123)) (all := [(.agg ⟨(xAc438 nn in39)⟩), (.agg ⟨(xAc427 nn n40)⟩)]) (v := (.bool true)) (hd.of (by omega) (kb10 (by omega))) rfl rfl rfl rfl rfl rfl rfl rfl (aSame nn in39 (n40 + 1) (49157) (bstr (be4 nn)) (gt5 (by omega) get_here) (get_there (by omega) get_here)) ?_
        intro n42 hn42
        refine OA.p (some 124) (.bool false) rfl rfl rfl rfl ?_
        refine OA.p (some 125) (.bool false) rfl rfl rfl rfl ?_
        refine OA.p (some 126) (.agg ⟨(xAc437 nn kn33)⟩) rfl rfl rfl (r_loadA rfl rfl rfl rfl (gt8 (by omega) get_here) rfl rfl rfl) ?_
        refine OA.call (dst := (some 127)) (all := [(.agg ⟨(xAc437 nn kn33)⟩)]) rfl rfl rfl rfl rfl rfl rfl rfl (CQ.imp (aAsked49154 (hd.of (by omega) (kb10 (by omega))) nn kn33 (gt9 (by omega) get_here)) ?_)
        rintro _ n43 _ ⟨in43, p1n43, p2n43, rfl, rfl⟩ hn43
        refine OA.app1 ?_
        refine OA.p (some 128) (.int .i64 1) rfl rfl rfl rfl ?_
        refine OA.p (some 129) (.bool false) rfl rfl rfl (r_bin rfl rfl rfl (b_neq rfl)) ?_
        refine OA.p (some 130) (.bool false) rfl rfl rfl rfl ?_
        refine OA.nil ?_
        intro _
        refine RA.condF rfl ?_
        refine RA.skip env_ok ?_
        intro _
        refine RA.region env_ok ?_
        refine OA.p (some 131) (W nx) rfl rfl rfl rfl ?_
        refine OA.p (some 132) (W (nx + (1#32))) rfl rfl rfl (r_bin rfl rfl rfl (b_addW nx (1#32))) ?_
        refine OA.p (some 8) (W (nx + (1#32))) rfl rfl rfl rfl ?_
        refine OA.nil ?_
        intro _
        refine RA.region env_ok ?_
        refine OA.p (some 34) (.int .i64 ((i : Nat) : Int)) rfl rfl rfl rfl ?_
        refine OA.p (some 35) (.int .i64 (((i + 1) : Nat) : Int)) rfl rfl rfl (r_bin rfl rfl rfl (b_add (i64_eq (by omega)))) ?_
        refine OA.p (some 11) (.int .i64 (((i + 1) : Nat) : Int)) rfl rfl rfl rfl ?_
        refine OA.nil ?_
        refine ⟨(ls.length - (i + 1)), by omega, [(bn1, some ⟨[(xAc413 nx nn in39)], 17, 103, true⟩), (n1, some ⟨[(xAc427 nn n40)], 15, 53, true⟩), (in39, some ⟨[[(.int .i64 49157), (.string (bstr (be4 nn)))]], 2, 35, true⟩), ((n40 + 1), some ⟨[[(.int .i64 49157), (.string (bstr (be4 nn)))]], 2, 35, true⟩)], (Less.of (fac (mm (fun _ => get_here) (fun _ => (gt5 (by omega) get_here))) (fac (mm (fun _ => (get_there (by omega) get_here)) (fun _ => (get_there (by omega) get_here))) (fac (mm (fun _ => (gt2 (by omega) get_here)) (fun _ => (gt6 (by omega) get_here))) (fac (mm (fun _ => (gt3 (by omega) get_here)) (fun _ => (gt2 (by omega) get_here))) fan)))) (gone_of (by simp only [goneP, memP, List.cons_append, List.nil_append, true_or, or_true, true_and, and_true, or_false] <;> omega))), .inr (⟨(i + 1), (nx + (1#32)), nn, in39, (n40 + 1), (49157), (bstr (be4 nn)), rfl, by omega, ⟨rfl, rfl, rfl, rfl, rfl, rfl, rfl, trivial⟩, rfl, (kb4 (by omega)), ⟨by omega, (by rw [w_eq hc7, BitVec.add_sub_cancel]), by omega, by omega, by omega⟩⟩)⟩
       ·
        refine OA.call (dst := (some 104)) (all := (xAc41 bn1 nn kn33 n35)) rfl rfl rfl rfl rfl rfl rfl rfl (CQ.imp (aGive491541F (hd.of (by omega) (kb6 (by omega))) nn nx  bn1 kn33 (n35 + 1)  (andN (ws.getD (i % ws.length) dI1).z 255) hc9 (by omega) (gt4 (by omega) get_here) (gt3 (by omega) get_here) get_here) ?_)
        rintro _ n44 _ ⟨in44, p1n44, p2n44, rfl, rfl⟩ hn44
        refine OA.app2 ?_
        refine OA.op1 (dst := (some 18)) (v := (Pt n44 0 0)) (n1 := (n44 + 1)) (w := (n44, some ⟨[xAc454], 15, 53, true⟩)) rfl rfl rfl rfl (by omega) ?_
        refine OA.op1 (dst := none) (v := (.tuple #[])) (n1 := (n44 + 1)) (w := (n44, some ⟨[(xAc439 nn in44)], 15, 53, true⟩)) rfl rfl rfl (r_store rfl rfl rfl rfl rfl rfl rfl get_here rfl rfl (Nat.le_of_ble_eq_true rfl) rfl) (by omega) ?_
        refine OA.nil ?_
        intro _
        refine RA.weaken (D' := [(n44, some ⟨[(xAc439 nn in44)], 15, 53, true⟩), (bn1, some ⟨[(xAc414 nx nn in44)], 17, 103, true⟩), (in44, some ⟨[(xAc458 nn ws i)], 2, 35, true⟩), ((n35 + 1), some ⟨[[(.int .i64 (((andN (ws.getD (i % ws.length) dI1).z 255) : Nat) : Int))]], 1, 3, true⟩), (n35, some ⟨[xAc454], 15, 53, true⟩), (n33, some ⟨[(xAc437 nn kn33)], 15, 53, true⟩), (kn33, some ⟨[[(.int .i64 5), (.string (bstr (be4 0#32)))], [(.int .i64 49154), (.string (bstr (be4 nn ++ (be2 5 ++ (be2 8 ++ (be4 0#32 ++ []))))))], [(.int .i64 49160), (.string (bstr ((be4 nn ++ be4 3#32) ++ be4 4#32)))]], 2, 35, true⟩), (n1, some ⟨[xAc454], 15, 53, true⟩)]) hd (Less.of (fac (mm (fun _ => get_here) (fun _ => get_here)) (fac (mm (fun _ => (get_there (by omega) get_here)) (fun _ => (gt2 (by omega) get_here))) (fac (mm (fun _ => (gt2 (by omega) get_here)) (fun _ => (gt3 (by omega) get_here))) (fac (mm (fun _ => (gt3 (by omega) get_here)) (fun _ => (gt4 (by omega) get_here))) (fac (mm (fun _ => (gt4 (by omega) get_here)) (fun _ => (gt5 (by omega) get_here))) (fac (mm (fun _ => (gt5 (by omega) get_here)) (fun _ => (gt6 (by omega) get_here))) (fac (mm (fun _ => (gt6 (by omega) get_here)) (fun _ => (gt7 (by omega) get_here))) (fac (mm (fun _ => (gt7 (by omega) get_here)) (fun _ => (gt9 (by omega) get_here))) fan)))))))) (gone_of (by simp only [goneP, memP, List.cons_append, List.nil_append, true_or, or_true, true_and, and_true, or_false] <;> omega))) ?_
        refine RA.seq hd ?_
        refine RA.region env_ok ?_
        refine OA.p (some 105) (W nn) rfl rfl rfl rfl ?_
        refine OA.callP (dst := (some 106)) (all := [(W nn)]) (v := (.string (bstr (be4 nn)))) (hd.of (by omega) (kb8 (by omega))) rfl rfl rfl rfl rfl rfl rfl rfl (aFour nn) ?_
        intro n45 hn45
        refine OA.p (some 107) (.agg ⟨[(.int .i64 49157), (.string (bstr (be4 nn)))]⟩) rfl rfl rfl (by kernel_rfl) ?_
        refine OA.op1 (dst := (some 19)) (v := (Pt n45 0 0)) (n1 := (n45 + 1)) (w := (n45, some ⟨[[(.int .i64 0), (.string ByteArray.empty)]], 2, 35, true⟩)) rfl rfl rfl rfl (by omega) ?_
        refine OA.op1 (dst := none) (v := (.tuple #[])) (n1 := (n45 + 1)) (w := (n45, some ⟨[[(.int .i64 49157), (.string (bstr (be4 nn)))]], 2, 35, true⟩)) rfl rfl rfl (r_store rfl rfl rfl rfl rfl rfl rfl get_here rfl rfl (Nat.le_of_ble_eq_true rfl) rfl) (by omega) ?_
        refine OA.nil ?_
        intro _
        refine RA.weaken (D' := [(n45, some ⟨[[(.int .i64 49157), (.string (bstr (be4 nn)))]], 2, 35, true⟩), (n44, some ⟨[(xAc439 nn in44)], 15, 53, true⟩), (bn1, some ⟨[(xAc414 nx nn in44)], 17, 103, true⟩), (in44, some ⟨[(xAc458 nn ws i)], 2, 35, true⟩), ((n35 + 1), some ⟨[[(.int .i64 (((andN (ws.getD (i % ws.length) dI1).z 255) : Nat) : Int))]], 1, 3, true⟩), (n35, some ⟨[xAc454], 15, 53, true⟩), (n33, some ⟨[(xAc437 nn kn33)], 15, 53, true⟩), (kn33, some ⟨[[(.int .i64 5), (.string (bstr (be4 0#32)))], [(.int .i64 49154), (.string (bstr (be4 nn ++ (be2 5 ++ (be2 8 ++ (be4 0#32 ++ []))))))], [(.int .i64 49160), (.string (bstr ((be4 nn ++ be4 3#32) ++ be4 4#32)))]], 2, 35, true⟩), (n1, some ⟨[xAc454], 15, 53, true⟩)]) hd (Less.of (fac (mm (fun _ => get_here) (fun _ => get_here)) (fac (mm (fun _ => (get_there (by omega) get_here)) (fun _ => (gt2 (by omega) get_here))) (fac (mm (fun _ => (gt2 (by omega) get_here)) (fun _ => (gt3 (by omega) get_here))) (fac (mm (fun _ => (gt3 (by omega) get_here)) (fun _ => (gt4 (by omega) get_here))) (fac (mm (fun _ => (gt4 (by omega) get_here)) (fun _ => (gt5 (by omega) get_here))) (fac (mm (fun _ => (gt5 (by omega) get_here)) (fun _ => (gt6 (by omega) get_here))) (fac (mm (fun _ => (gt6 (by omega) get_here)) (fun _ => (gt7 (by omega) get_here))) (fac (mm (fun _ => (gt7 (by omega) get_here)) (fun _ => (gt8 (by omega) get_here))) (fac (mm (fun _ => (gt8 (by omega) get_here)) (fun _ => (gt9 (by omega) get_here))) fan))))))))) (gone_of (by simp only [goneP, memP, List.cons_append, List.nil_append, true_or, or_true, true_and, and_true, or_false] <;> omega))) ?_
        refine RA.rebase [(1, lv), (2, wv), (7, (Pt bn1 0 0)), (8, (W nx)), (9, (Pt n1 0 0)), (10, (.bool false)), (11, (.int .i64 ((i : Nat) : Int))), (12, (W nn)), (13, (Pt n33 0 0)), (14, (.bool true)), (15, (Pt n35 0 0)), (16, (.bool false)), (17, (.int .i64 (((andN (ws.getD (i % ws.length) dI1).z 255) : Nat) : Int))), (18, (Pt n44 0 0)), (19, (Pt n45 0 0)), (33, (.bool true)), (86, (.bool false)), (88, (.bool false)), (91, (.bool true))] ⟨rfl, rfl, rfl, rfl, rfl, rfl, rfl, rfl, rfl, rfl, rfl, rfl, rfl, rfl, rfl, rfl, rfl, rfl, rfl, trivial⟩ (fun τr46 => ?_)
        refine RA.seq hd ?_
        refine RA.seq hd ?_
        refine RA.region env_ok ?_
        refine OA.p (some 108) (.int .i64 (((andN (ws.getD (i % ws.length) dI1).z 255) : Nat) : Int)) rfl rfl rfl rfl ?_
        refine OA.p (some 109) (.bool true) rfl rfl rfl (r_bin rfl rfl rfl (b_neq (decide_eq_true (by omega)))) ?_
        refine OA.nil ?_
        intro _
        refine RA.condT rfl ?_
        refine RA.region env_ok ?_
        refine OA.p (some 110) (W nn) rfl rfl rfl rfl ?_
        refine OA.callP (dst := (some 111)) (all := [(W nn)]) (v := (.string (bstr (be4 nn)))) (hd.of (by omega) (kb9 (by omega))) rfl rfl rfl rfl rfl rfl rfl rfl (aFour nn) ?_
        intro n47 hn47
        refine OA.p (some 112) (.int .i64 (((andN (ws.getD (i % ws.length) dI1).z 255) : Nat) : Int)) rfl rfl rfl rfl ?_
        refine OA.p (some 113) (.agg ⟨(xAc457 ws i)⟩) rfl rfl rfl (by kernel_rfl) ?_
        refine OA.callP (dst := (some 114)) (all := [(.agg ⟨(xAc457 ws i)⟩)]) (v := (.string (bstr (pL (andN (ws.getD (i % ws.length) dI1).z 255) [])))) (hd.of (by omega) (kb9 (by omega))) rfl rfl rfl rfl rfl rfl rfl rfl (lR4 (andN (ws.getD (i % ws.length) dI1).z 255) [] (by omega) (by decide)) ?_
        intro n48 hn48
        refine OA.p (some 115) (.string (bstr ((be4 nn) ++ (pL (andN (ws.getD (i % ws.length) dI1).z 255) [])))) rfl rfl rfl (Eq.trans (r_cat rfl rfl rfl (by simp only [bstr_size, size_lit, List.length_append, be2_len, be4_len, be1_len, List.length_replicate, List.length_cons, List.length_nil, List.size_toArray, pL0_len]; omega)) (by rw [bstr_app] <;> rfl)) ?_
        refine OA.p (some 116) (.agg ⟨(xAc455 nn ws i)⟩) rfl rfl rfl (by kernel_rfl) ?_
        refine OA.op1 (dst := none) (v := (.tuple #[])) (n1 := n48) (w := (n45, some ⟨[(xAc455 nn ws i)], 2, 35, true⟩)) rfl rfl rfl (r_store rfl rfl rfl rfl rfl rfl rfl get_here rfl rfl (Nat.le_of_ble_eq_true rfl) rfl) (by omega) ?_
        refine OA.nil ?_
        intro _
        refine RA.weaken (D' := [(n45, some ⟨[(xAc455 nn ws i)], 2, 35, true⟩), (n44, some ⟨[(xAc439 nn in44)], 15, 53, true⟩), (bn1, some ⟨[(xAc414 nx nn in44)], 17, 103, true⟩), (in44, some ⟨[(xAc458 nn ws i)], 2, 35, true⟩), ((n35 + 1), some ⟨[[(.int .i64 (((andN (ws.getD (i % ws.length) dI1).z 255) : Nat) : Int))]], 1, 3, true⟩), (n35, some ⟨[xAc454], 15, 53, true⟩), (n33, some ⟨[(xAc437 nn kn33)], 15, 53, true⟩), (kn33, some ⟨[[(.int .i64 5), (.string (bstr (be4 0#32)))], [(.int .i64 49154), (.string (bstr (be4 nn ++ (be2 5 ++ (be2 8 ++ (be4 0#32 ++ []))))))], [(.int .i64 49160), (.string (bstr ((be4 nn ++ be4 3#32) ++ be4 4#32)))]], 2, 35, true⟩), (n1, some ⟨[xAc454], 15, 53, true⟩)]) hd (Less.of (fac (mm (fun _ => get_here) (fun _ => get_here)) (fac (mm (fun _ => (get_there (by omega) get_here)) (fun _ => (gt2 (by omega) get_here))) (fac (mm (fun _ => (gt2 (by omega) get_here)) (fun _ => (gt3 (by omega) get_here))) (fac (mm (fun _ => (gt3 (by omega) get_here)) (fun _ => (gt4 (by omega) get_here))) (fac (mm (fun _ => (gt4 (by omega) get_here)) (fun _ => (gt5 (by omega) get_here))) (fac (mm (fun _ => (gt5 (by omega) get_here)) (fun _ => (gt6 (by omega) get_here))) (fac (mm (fun _ => (gt6 (by omega) get_here)) (fun _ => (gt7 (by omega) get_here))) (fac (mm (fun _ => (gt7 (by omega) get_here)) (fun _ => (gt8 (by omega) get_here))) (fac (mm (fun _ => (gt8 (by omega) get_here)) (fun _ => (gt9 (by omega) get_here))) fan))))))))) (gone_of (by simp only [goneP, memP, List.cons_append, List.nil_append, true_or, or_true, true_and, and_true, or_false] <;> omega))) ?_
        refine RA.seq hd ?_
        refine RA.region env_ok ?_
        refine OA.p (some 117) (W nn) rfl rfl rfl rfl ?_
        refine OA.p (some 118) (.agg ⟨(xAc455 nn ws i)⟩) rfl rfl rfl (r_loadA rfl rfl rfl rfl get_here rfl rfl rfl) ?_
        refine OA.op1 (dst := (some 119)) (v := (.slice (some ⟨n48, 0, none⟩) 1 0)) (n1 := (n48 + 1)) (w := (n48, some ⟨[(xAc455 nn ws i)], 2, 35, true⟩)) rfl rfl rfl (by kernel_rfl) (by omega) ?_
        refine OA.p (some 120) (.agg ⟨(xAc450 nn n48)⟩) rfl rfl rfl (by kernel_rfl) ?_
        refine OA.op1 (dst := none) (v := (.tuple #[])) (n1 := (n48 + 1)) (w := (n1, some ⟨[(xAc450 nn n48)], 15, 53, true⟩)) rfl rfl rfl (r_store rfl rfl rfl rfl rfl rfl rfl (gt9 (by omega) get_here) rfl rfl (Nat.le_of_ble_eq_true rfl) rfl) (by omega) ?_
        refine OA.p (some 10) (.bool true) rfl rfl rfl rfl ?_
        refine OA.nil ?_
        intro _
        refine RA.weaken (D' := [(n1, some ⟨[(xAc450 nn n48)], 15, 53, true⟩), (n48, some ⟨[(xAc455 nn ws i)], 2, 35, true⟩), (n45, some ⟨[(xAc455 nn ws i)], 2, 35, true⟩), (n44, some ⟨[(xAc439 nn in44)], 15, 53, true⟩), (bn1, some ⟨[(xAc414 nx nn in44)], 17, 103, true⟩), (in44, some ⟨[(xAc458 nn ws i)], 2, 35, true⟩), ((n35 + 1), some ⟨[[(.int .i64 (((andN (ws.getD (i % ws.length) dI1).z 255) : Nat) : Int))]], 1, 3, true⟩), (n35, some ⟨[xAc454], 15, 53, true⟩), (n33, some ⟨[(xAc437 nn kn33)], 15, 53, true⟩), (kn33, some ⟨[[(.int .i64 5), (.string (bstr (be4 0#32)))], [(.int .i64 49154), (.string (bstr (be4 nn ++ (be2 5 ++ (be2 8 ++ (be4 0#32 ++ []))))))], [(.int .i64 49160), (.string (bstr ((be4 nn ++ be4 3#32) ++ be4 4#32)))]], 2, 35, true⟩)]) hd (Less.of (fac (mm (fun _ => get_here) (fun _ => get_here)) (fac (mm (fun _ => (get_there (by omega) get_here)) (fun _ => (get_there (by omega) get_here))) (fac (mm (fun _ => (gt2 (by omega) get_here)) (fun _ => (gt2 (by omega) get_here))) (fac (mm (fun _ => (gt3 (by omega) get_here)) (fun _ => (gt3 (by omega) get_here))) (fac (mm (fun _ => (gt4 (by omega) get_here)) (fun _ => (gt4 (by omega) get_here))) (fac (mm (fun _ => (gt5 (by omega) get_here)) (fun _ => (gt5 (by omega) get_here))) (fac (mm (fun _ => (gt6 (by omega) get_here)) (fun _ => (gt6 (by omega) get_here))) (fac (mm (fun _ => (gt7 (by omega) get_here)) (fun _ => (gt7 (by omega) get_here))) (fac (mm (fun _ => (gt8 (by omega) get_here)) (fun _ => (gt8 (by omega) get_here))) (fac (mm (fun _ => (gt9 (by omega) get_here)) (fun _ => (gt9 (by omega) get_here))) fan)))))))))) (gone_of (by simp only [goneP, memP, List.cons_append, List.nil_append, true_or, or_true, true_and, and_true, or_false] <;> omega))) ?_
        refine RA.seq hd ?_
        refine RA.seq hd ?_
        refine RA.region env_ok ?_
        refine OA.p (some 121) (.agg ⟨(xAc439 nn in44)⟩) rfl rfl rfl (r_loadA rfl rfl rfl rfl (gt3 (by omega) get_here) rfl rfl rfl) ?_
        refine OA.p (some 122) (.agg ⟨(xAc450 nn n48)⟩) rfl rfl rfl (r_loadA rfl rfl rfl rfl get_here rfl rfl rfl) ?_
        refine OA.callP (dst := (some 123)) (all := [(.agg ⟨(xAc439 nn in44)⟩), (.agg ⟨(xAc450 nn n48)⟩)]) (v := (.bool true)) (hd.of (by omega) (kb10 (by omega))) rfl rfl rfl rfl rfl rfl rfl rfl (aSame nn in44 n48 (49155) (bstr (be4 nn ++ pL (andN (ws.getD (i % ws.length) dI1).z 255) [])) (gt5 (by omega) get_here) (get_there (by omega) get_here)) ?_
        intro n49 hn49
        refine OA.p (some 124) (.bool false) rfl rfl rfl rfl ?_
        refine OA.p (some 125) (.bool false) rfl rfl rfl rfl ?_
        refine OA.p (some 126) (.agg ⟨(xAc437 nn kn33)⟩) rfl rfl rfl (r_loadA rfl rfl rfl rfl (gt8 (by omega) get_here) rfl rfl rfl) ?_
        refine OA.call (dst := (some 127)) (all := [(.agg ⟨(xAc437 nn kn33)⟩)]) rfl rfl rfl rfl rfl rfl rfl rfl (CQ.imp (aAsked49154 (hd.of (by omega) (kb10 (by omega))) nn kn33 (gt9 (by omega) get_here)) ?_)
        rintro _ n50 _ ⟨in50, p1n50, p2n50, rfl, rfl⟩ hn50
        refine OA.app1 ?_
        refine OA.p (some 128) (.int .i64 1) rfl rfl rfl rfl ?_
        refine OA.p (some 129) (.bool false) rfl rfl rfl (r_bin rfl rfl rfl (b_neq rfl)) ?_
        refine OA.p (some 130) (.bool false) rfl rfl rfl rfl ?_
        refine OA.nil ?_
        intro _
        refine RA.rebase [(1, lv), (2, wv), (7, (Pt bn1 0 0)), (8, (W nx)), (9, (Pt n1 0 0)), (10, (.bool true)), (11, (.int .i64 ((i : Nat) : Int))), (12, (W nn)), (13, (Pt n33 0 0)), (14, (.bool true)), (15, (Pt n35 0 0)), (16, (.bool false)), (17, (.int .i64 (((andN (ws.getD (i % ws.length) dI1).z 255) : Nat) : Int))), (18, (Pt n44 0 0)), (19, (Pt n45 0 0)), (33, (.bool true)), (86, (.bool false)), (88, (.bool false)), (91, (.bool true)), (109, (.bool true)), (130, (.bool false))] ⟨rfl, rfl, rfl, rfl, rfl, rfl, rfl, rfl, rfl, rfl, rfl, rfl, rfl, rfl, rfl, rfl, rfl, rfl, rfl, rfl, rfl, trivial⟩ (fun τr51 => ?_)
        refine RA.condF rfl ?_
        refine RA.skip env_ok ?_
        intro _
        refine RA.region env_ok ?_
        refine OA.p (some 131) (W nx) rfl rfl rfl rfl ?_
        refine OA.p (some 132) (W (nx + (1#32))) rfl rfl rfl (r_bin rfl rfl rfl (b_addW nx (1#32))) ?_
        refine OA.p (some 8) (W (nx + (1#32))) rfl rfl rfl rfl ?_
        refine OA.nil ?_
        intro _
        refine RA.region env_ok ?_
        refine OA.p (some 34) (.int .i64 ((i : Nat) : Int)) rfl rfl rfl rfl ?_
        refine OA.p (some 35) (.int .i64 (((i + 1) : Nat) : Int)) rfl rfl rfl (r_bin rfl rfl rfl (b_add (i64_eq (by omega)))) ?_
        refine OA.p (some 11) (.int .i64 (((i + 1) : Nat) : Int)) rfl rfl rfl rfl ?_
        refine OA.nil ?_
        refine ⟨(ls.length - (i + 1)), by omega, [(bn1, some ⟨[(xAc414 nx nn in44)], 17, 103, true⟩), (n1, some ⟨[(xAc450 nn n48)], 15, 53, true⟩), (in44, some ⟨[(xAc458 nn ws i)], 2, 35, true⟩), (n48, some ⟨[(xAc455 nn ws i)], 2, 35, true⟩)], (Less.of (fac (mm (fun _ => get_here) (fun _ => (gt5 (by omega) get_here))) (fac (mm (fun _ => (get_there (by omega) get_here)) (fun _ => (get_there (by omega) get_here))) (fac (mm (fun _ => (gt2 (by omega) get_here)) (fun _ => (gt6 (by omega) get_here))) (fac (mm (fun _ => (gt3 (by omega) get_here)) (fun _ => (gt2 (by omega) get_here))) fan)))) (gone_of (by simp only [goneP, memP, List.cons_append, List.nil_append, true_or, or_true, true_and, and_true, or_false] <;> omega))), .inr (⟨(i + 1), (nx + (1#32)), nn, in44, n48, (49155), (bstr (be4 nn ++ pL (andN (ws.getD (i % ws.length) dI1).z 255) [])), rfl, by omega, ⟨rfl, rfl, rfl, rfl, rfl, rfl, rfl, trivial⟩, rfl, (kb4 (by omega)), ⟨by omega, (by rw [w_eq hc7, BitVec.add_sub_cancel]), by omega, by omega, by omega⟩⟩)⟩
      ·
       refine OA.p (some 91) (.bool false) rfl rfl rfl (Eq.trans (r_bin rfl rfl rfl (b_gtr rfl)) (dF hc8)) ?_
       refine OA.nil ?_
       intro _
       refine RA.condF rfl ?_
       refine RA.skip env_ok ?_
       intro _
       refine RA.seq hd ?_
       refine RA.region env_ok ?_
       refine OA.p (some 100) (Pt bn1 0 0) rfl rfl rfl rfl ?_
       refine OA.p (some 101) (.agg ⟨(xAc437 nn kn33)⟩) rfl rfl rfl (r_loadA rfl rfl rfl rfl (get_there (by omega) get_here) rfl rfl rfl) ?_
       refine OA.p (some 102) (.int .i64 0) rfl rfl rfl rfl ?_
       refine OA.op1 (dst := (some 103)) (v := (.slice (some ⟨(n35 + 1), 0, none⟩) 1 0)) (n1 := (n35 + 2)) (w := ((n35 + 1), some ⟨[[(.int .i64 0)]], 1, 3, true⟩)) rfl rfl rfl (by kernel_rfl) (by omega) ?_
       refine OA.call (dst := (some 104)) (all := (xAc41 bn1 nn kn33 n35)) rfl rfl rfl rfl rfl rfl rfl rfl (CQ.imp (aGive491540F (hd.of (by omega) (kb6 (by omega))) nn nx  bn1 kn33 (n35 + 1)   (gt4 (by omega) get_here) (gt3 (by omega) get_here) get_here) ?_)
       rintro _ n52 _ ⟨in52, p1n52, p2n52, rfl, rfl⟩ hn52
       refine OA.app2 ?_
       refine OA.op1 (dst := (some 18)) (v := (Pt n52 0 0)) (n1 := (n52 + 1)) (w := (n52, some ⟨[xAc454], 15, 53, true⟩)) rfl rfl rfl rfl (by omega) ?_
       refine OA.op1 (dst := none) (v := (.tuple #[])) (n1 := (n52 + 1)) (w := (n52, some ⟨[(xAc440 nn in52)], 15, 53, true⟩)) rfl rfl rfl (r_store rfl rfl rfl rfl rfl rfl rfl get_here rfl rfl (Nat.le_of_ble_eq_true rfl) rfl) (by omega) ?_
       refine OA.nil ?_
       intro _
       refine RA.weaken (D' := [(n52, some ⟨[(xAc440 nn in52)], 15, 53, true⟩), (bn1, some ⟨[(xAc415 nx nn in52)], 17, 103, true⟩), (in52, some ⟨[[(.int .i64 49157), (.string (bstr (be4 nn)))]], 2, 35, true⟩), ((n35 + 1), some ⟨[[(.int .i64 0)]], 1, 3, true⟩), (n35, some ⟨[xAc454], 15, 53, true⟩), (n33, some ⟨[(xAc437 nn kn33)], 15, 53, true⟩), (kn33, some ⟨[[(.int .i64 5), (.string (bstr (be4 0#32)))], [(.int .i64 49154), (.string (bstr (be4 nn ++ (be2 5 ++ (be2 8 ++ (be4 0#32 ++ []))))))], [(.int .i64 49160), (.string (bstr ((be4 nn ++ be4 3#32) ++ be4 4#32)))]], 2, 35, true⟩), (n1, some ⟨[xAc454], 15, 53, true⟩)]) hd (Less.of (fac (mm (fun _ => get_here) (fun _ => get_here)) (fac (mm (fun _ => (get_there (by omega) get_here)) (fun _ => (gt2 (by omega) get_here))) (fac (mm (fun _ => (gt2 (by omega) get_here)) (fun _ => (gt3 (by omega) get_here))) (fac (mm (fun _ => (gt3 (by omega) get_here)) (fun _ => (gt4 (by omega) get_here))) (fac (mm (fun _ => (gt4 (by omega) get_here)) (fun _ => (gt5 (by omega) get_here))) (fac (mm (fun _ => (gt5 (by omega) get_here)) (fun _ => (gt6 (by omega) get_here))) (fac (mm (fun _ => (gt6 (by omega) get_here)) (fun _ => (gt7 (by omega) get_here))) (fac (mm (fun _ => (gt7 (by omega) get_here)) (fun _ => (gt9 (by omega) get_here))) fan)))))))) (gone_of (by simp only [goneP, memP, List.cons_append, List.nil_append, true_or, or_true, true_and, and_true, or_false] <;> omega))) ?_
       refine RA.seq hd ?_
       refine RA.region env_ok ?_
       refine OA.p (some 105) (W nn) rfl rfl rfl rfl ?_
       refine OA.callP (dst := (some 106)) (all := [(W nn)]) (v := (.string (bstr (be4 nn)))) (hd.of (by omega) (kb8 (by omega))) rfl rfl rfl rfl rfl rfl rfl rfl (aFour nn) ?_
       intro n53 hn53
       refine OA.p (some 107) (.agg ⟨[(.int .i64 49157), (.string (bstr (be4 nn)))]⟩) rfl rfl rfl (by kernel_rfl) ?_
       refine OA.op1 (dst := (some 19)) (v := (Pt n53 0 0)) (n1 := (n53 + 1)) (w := (n53, some ⟨[[(.int .i64 0), (.string ByteArray.empty)]], 2, 35, true⟩)) rfl rfl rfl rfl (by omega) ?_
       refine OA.op1 (dst := none) (v := (.tuple #[])) (n1 := (n53 + 1)) (w := (n53, some ⟨[[(.int .i64 49157), (.string (bstr (be4 nn)))]], 2, 35, true⟩)) rfl rfl rfl (r_store rfl rfl rfl rfl rfl rfl rfl get_here rfl rfl (Nat.le_of_ble_eq_true rfl) rfl) (by omega) ?_
       refine OA.nil ?_
       intro _
       refine RA.weaken (D' := [(n53, some ⟨[[(.int .i64 49157), (.string (bstr (be4 nn)))]], 2, 35, true⟩), (n52, some ⟨[(xAc440 nn in52)], 15, 53, true⟩), (bn1, some ⟨[(xAc415 nx nn in52)], 17, 103, true⟩), (in52, some ⟨[[(.int .i64 49157), (.string (bstr (be4 nn)))]], 2, 35, true⟩), ((n35 + 1), some ⟨[[(.int .i64 0)]], 1, 3, true⟩), (n35, some ⟨[xAc454], 15, 53, true⟩), (n33, some ⟨[(xAc437 nn kn33)], 15, 53, true⟩), (kn33, some ⟨[[(.int .i64 5), (.string (bstr (be4 0#32)))], [(.int .i64 49154), (.string (bstr (be4 nn ++ (be2 5 ++ (be2 8 ++ (be4 0#32 ++ []))))))], [(.int .i64 49160), (.string (bstr ((be4 nn ++ be4 3#32) ++ be4 4#32)))]], 2, 35, true⟩), (n1, some ⟨[xAc454], 15, 53, true⟩)]) hd (Less.of (fac (mm (fun _ => get_here) (fun _ => get_here)) (fac (mm (fun _ => (get_there (by omega) get_here)) (fun _ => (gt2 (by omega) get_here))) (fac (mm (fun _ => (gt2 (by omega) get_here)) (fun _ => (gt3 (by omega) get_here))) (fac (mm (fun _ => (gt3 (by omega) get_here)) (fun _ => (gt4 (by omega) get_here))) (fac (mm (fun _ => (gt4 (by omega) get_here)) (fun _ => (gt5 (by omega) get_here))) (fac (mm (fun _ => (gt5 (by omega) get_here)) (fun _ => (gt6 (by omega) get_here))) (fac (mm (fun _ => (gt6 (by omega) get_here)) (fun _ => (gt7 (by omega) get_here))) (fac (mm (fun _ => (gt7 (by omega) get_here)) (fun _ => (gt8 (by omega) get_here))) (fac (mm (fun _ => (gt8 (by omega) get_here)) (fun _ => (gt9 (by omega) get_here))) fan))))))))) (gone_of (by simp only [goneP, memP, List.cons_append, List.nil_append, true_or, or_true, true_and, and_true, or_false] <;> omega))) ?_
       refine RA.seq hd ?_
       refine RA.seq hd ?_
       refine RA.region env_ok ?_
       refine OA.p (some 108) (.int .i64 0) rfl rfl rfl rfl ?_
       refine OA.p (some 109) (.bool false) rfl rfl rfl (r_bin rfl rfl rfl (b_neq rfl)) ?_
       refine OA.nil ?_
       intro _
       refine RA.condF rfl ?_
       refine RA.skip env_ok ?_
       intro _
       refine RA.seq hd ?_
       refine RA.region env_ok ?_
       refine OA.p (some 117) (W nn) rfl rfl rfl rfl ?_
       refine OA.p (some 118) (.agg ⟨[(.int .i64 49157), (.string (bstr (be4 nn)))]⟩) rfl rfl rfl (r_loadA rfl rfl rfl rfl get_here rfl rfl rfl) ?_
       refine OA.op1 (dst := (some 119)) (v := (.slice (some ⟨(n53 + 1), 0, none⟩) 1 0)) (n1 := (n53 + 2)) (w := ((n53 + 1), some ⟨[[(.int .i64 49157), (.string (bstr (be4 nn)))]], 2, 35, true⟩)) rfl rfl rfl (by kernel_rfl) (by omega) ?_
       refine OA.p (some 120) (.agg ⟨(xAc428 nn n53)⟩) rfl rfl rfl (by kernel_rfl) ?_
       refine OA.op1 (dst := none) (v := (.tuple #[])) (n1 := (n53 + 2)) (w := (n1, some ⟨[(xAc428 nn n53)], 15, 53, true⟩)) rfl rfl rfl (r_store rfl rfl rfl rfl rfl rfl rfl (gt9 (by omega) get_here) rfl rfl (Nat.le_of_ble_eq_true rfl) rfl) (by omega) ?_
       refine OA.p (some 10) (.bool true) rfl rfl rfl rfl ?_
       refine OA.nil ?_
       intro _
       refine RA.weaken (D' := [(n1, some ⟨[(xAc428 nn n53)], 15, 53, true⟩), ((n53 + 1), some ⟨[[(.int .i64 49157), (.string (bstr (be4 nn)))]], 2, 35, true⟩), (n53, some ⟨[[(.int .i64 49157), (.string (bstr (be4 nn)))]], 2, 35, true⟩), (n52, some ⟨[(xAc440 nn in52)], 15, 53, true⟩), (bn1, some ⟨[(xAc415 nx nn in52)], 17, 103, true⟩), (in52, some ⟨[[(.int .i64 49157), (.string (bstr (be4 nn)))]], 2, 35, true⟩), ((n35 + 1), some ⟨[[(.int .i64 0)]], 1, 3, true⟩), (n35, some ⟨[xAc454], 15, 53, true⟩), (n33, some ⟨[(xAc437 nn kn33)], 15, 53, true⟩), (kn33, some ⟨[[(.int .i64 5), (.string (bstr (be4 0#32)))], [(.int .i64 49154), (.string (bstr (be4 nn ++ (be2 5 ++ (be2 8 ++ (be4 0#32 ++ []))))))], [(.int .i64 49160), (.string (bstr ((be4 nn ++ be4 3#32) ++ be4 4#32)))]], 2, 35, true⟩)]) hd (Less.of (fac (mm (fun _ => get_here) (fun _ => get_here)) (fac (mm (fun _ => (get_there (by omega) get_here)) (fun _ => (get_there (by omega) get_here))) (fac (mm (fun _ => (gt2 (by omega) get_here)) (fun _ => (gt2 (by omega) get_here))) (fac (mm (fun _ => (gt3 (by omega) get_here)) (fun _ => (gt3 (by omega) get_here))) (fac (mm (fun _ => (gt4 (by omega) get_here)) (fun _ => (gt4 (by omega) get_here))) (fac (mm (fun _ => (gt5 (by omega) get_here)) (fun _ => (gt5 (by omega) get_here))) (fac (mm (fun _ => (gt6 (by omega) get_here)) (fun _ => (gt6 (by omega) get_here))) (fac (mm (fun _ => (gt7 (by omega) get_here)) (fun _ => (gt7 (by omega) get_here))) (fac (mm (fun _ => (gt8 (by omega) get_here)) (fun _ => (gt8 (by omega) get_here))) (fac (mm (fun _ => (gt9 (by omega) get_here)) (fun _ => (gt9 (by omega) get_here))) fan)))))))))) (gone_of (by simp only [goneP, memP, List.cons_append, List.nil_append, true_or, or_true, true_and, and_true, or_false] <;> omega))) ?_
       refine RA.rebase [(1, lv), (2, wv), (7, (Pt bn1 0 0)), (8, (W nx)), (9, (Pt n1 0 0)), (10, (.bool true)), (11, (.int .i64 ((i : Nat) : Int))), (12, (W nn)), (13, (Pt n33 0 0)), (14, (.bool true)), (15, (Pt n35 0 0)), (16, (.bool false)), (17, (.int .i64 0)), (18, (Pt n52 0 0)), (19, (Pt n53 0 0)), (33, (.bool true)), (86, (.bool false)), (88, (.bool false)), (91, (.bool false)), (109, (.bool false))] ⟨rfl, rfl, rfl, rfl, rfl, rfl, rfl, rfl, rfl, rfl, rfl, rfl, rfl, rfl, rfl, rfl, rfl, rfl, rfl, rfl, trivial⟩ (fun τr54 => ?_)
       refine RA.seq hd ?_
       refine RA.seq hd ?_
       refine RA.region env_ok ?_
       refine OA.p (some 121) (.agg ⟨(xAc440 nn in52)⟩) rfl rfl rfl (r_loadA rfl rfl rfl rfl (gt3 (by omega) get_here) rfl rfl rfl) ?_
       refine OA.p (some 122) (.agg ⟨(xAc428 nn n53)⟩) rfl rfl rfl (r_loadA rfl rfl rfl rfl get_here rfl rfl rfl) ?_
       refine OA.callP (dst := (some 123)) (all := [(.agg ⟨(xAc440 nn in52)⟩), (.agg ⟨(xAc428 nn n53)⟩)]) (v := (.bool true)) (hd.of (by omega) (kb10 (by omega))) rfl rfl rfl rfl rfl rfl rfl rfl (aSame nn in52 (n53 + 1) (49157) (bstr (be4 nn)) (gt5 (by omega) get_here) (get_there (by omega) get_here)) ?_
       intro n55 hn55
       refine OA.p (some 124) (.bool false) rfl rfl rfl rfl ?_
       refine OA.p (some 125) (.bool false) rfl rfl rfl rfl ?_
       refine OA.p (some 126) (.agg ⟨(xAc437 nn kn33)⟩) rfl rfl rfl (r_loadA rfl rfl rfl rfl (gt8 (by omega) get_here) rfl rfl rfl) ?_
       refine OA.call (dst := (some 127)) (all := [(.agg ⟨(xAc437 nn kn33)⟩)]) rfl rfl rfl rfl rfl rfl rfl rfl (CQ.imp (aAsked49154 (hd.of (by omega) (kb10 (by omega))) nn kn33 (gt9 (by omega) get_here)) ?_)
       rintro _ n56 _ ⟨in56, p1n56, p2n56, rfl, rfl⟩ hn56
       refine OA.app1 ?_
       refine OA.p (some 128) (.int .i64 1) rfl rfl rfl rfl ?_
       refine OA.p (some 129) (.bool false) rfl rfl rfl (r_bin rfl rfl rfl (b_neq rfl)) ?_
       refine OA.p (some 130) (.bool false) rfl rfl rfl rfl ?_
       refine OA.nil ?_
       intro _
       refine RA.condF rfl ?_
       refine RA.skip env_ok ?_
       intro _
       refine RA.region env_ok ?_
       refine OA.p (some 131) (W nx) rfl rfl rfl rfl ?_
       refine OA.p (some 132) (W (nx + (1#32))) rfl rfl rfl (r_bin rfl rfl rfl (b_addW nx (1#32))) ?_
       refine OA.p (some 8) (W (nx + (1#32))) rfl rfl rfl rfl ?_
       refine OA.nil ?_
       intro _
       refine RA.region env_ok ?_
       refine OA.p (some 34) (.int .i64 ((i : Nat) : Int)) rfl rfl rfl rfl ?_
       refine OA.p (some 35) (.int .i64 (((i + 1) : Nat) : Int)) rfl rfl rfl (r_bin rfl rfl rfl (b_add (i64_eq (by omega)))) ?_
       refine OA.p (some 11) (.int .i64 (((i + 1) : Nat) : Int)) rfl rfl rfl rfl ?_
       refine OA.nil ?_
       refine ⟨(ls.length - (i + 1)), by omega, [(bn1, some ⟨[(xAc415 nx nn in52)], 17, 103, true⟩), (n1, some ⟨[(xAc428 nn n53)], 15, 53, true⟩), (in52, some ⟨[[(.int .i64 49157), (.string (bstr (be4 nn)))]], 2, 35, true⟩), ((n53 + 1), some ⟨[[(.int .i64 49157), (.string (bstr (be4 nn)))]], 2, 35, true⟩)], (Less.of (fac (mm (fun _ => get_here) (fun _ => (gt5 (by omega) get_here))) (fac (mm (fun _ => (get_there (by omega) get_here)) (fun _ => (get_there (by omega) get_here))) (fac (mm (fun _ => (gt2 (by omega) get_here)) (fun _ => (gt6 (by omega) get_here))) (fac (mm (fun _ => (gt3 (by omega) get_here)) (fun _ => (gt2 (by omega) get_here))) fan)))) (gone_of (by simp only [goneP, memP, List.cons_append, List.nil_append, true_or, or_true, true_and, and_true, or_false] <;> omega))), .inr (⟨(i + 1), (nx + (1#32)), nn, in52, (n53 + 1), (49157), (bstr (be4 nn)), rfl, by omega, ⟨rfl, rfl, rfl, rfl, rfl, rfl, rfl, trivial⟩, rfl, (kb4 (by omega)), ⟨by omega, (by rw [w_eq hc7, BitVec.add_sub_cancel]), by omega, by omega, by omega⟩⟩)⟩
     ·
      refine OA.callP (dst := (some 58)) (all := [(Pt bn1 0 0), (.agg ⟨(xAc437 nn kn33)⟩)]) (v := (.tuple ⟨xAc420⟩)) (hd.of (by omega) (kb4 (by omega))) rfl rfl rfl rfl rfl rfl rfl rfl (aTakeF nn nx bn1 kn33 hc7 (gt2 (by omega) get_here)) ?_
      intro n57 hn57
      refine OA.p (some 55) (.tuple ⟨xAc420⟩) rfl rfl rfl rfl ?_
      refine OA.p (some 59) (.bool false) rfl rfl rfl rfl ?_
      refine OA.p (some 60) (.agg ⟨xAc454⟩) rfl rfl rfl rfl ?_
      refine OA.p (some 61) (.bool false) rfl rfl rfl rfl ?_
      refine OA.op1 (dst := (some 15)) (v := (Pt n57 0 0)) (n1 := (n57 + 1)) (w := (n57, some ⟨[xAc454], 15, 53, true⟩)) rfl rfl rfl rfl (by omega) ?_
      refine OA.p (some 14) (.bool false) rfl rfl rfl rfl ?_
      refine OA.op1 (dst := none) (v := (.tuple #[])) (n1 := (n57 + 1)) (w := (n57, some ⟨[xAc454], 15, 53, true⟩)) rfl rfl rfl (r_store rfl rfl rfl rfl rfl rfl rfl get_here rfl rfl (Nat.le_of_ble_eq_true rfl) rfl) (by omega) ?_
      refine OA.p (some 16) (.bool false) rfl rfl rfl rfl ?_
      refine OA.nil ?_
      intro _
      refine RA.weaken (D' := [(n57, some ⟨[xAc454], 15, 53, true⟩), (n33, some ⟨[(xAc437 nn kn33)], 15, 53, true⟩), (kn33, some ⟨[[(.int .i64 5), (.string (bstr (be4 0#32)))], [(.int .i64 49154), (.string (bstr (be4 nn ++ (be2 5 ++ (be2 8 ++ (be4 0#32 ++ []))))))], [(.int .i64 49160), (.string (bstr ((be4 nn ++ be4 3#32) ++ be4 4#32)))]], 2, 35, true⟩), (bn1, some ⟨[(xAc423 nx)], 17, 103, true⟩), (n1, some ⟨[xAc454], 15, 53, true⟩)]) hd (Less.of (fac (mm (fun _ => get_here) (fun _ => get_here)) (fac (mm (fun _ => (get_there (by omega) get_here)) (fun _ => (gt2 (by omega) get_here))) (fac (mm (fun _ => (gt2 (by omega) get_here)) (fun _ => (gt3 (by omega) get_here))) (fac (mm (fun _ => (gt3 (by omega) get_here)) (fun _ => (gt4 (by omega) get_here))) (fac (mm (fun _ => (gt4 (by omega) get_here)) (fun _ => (gt5 (by omega) get_here))) fan))))) (gone_of (by simp only [goneP, memP, List.cons_append, List.nil_append, true_or, or_true, true_and, and_true, or_false] <;> omega))) ?_
      refine RA.seq hd ?_
      refine RA.seq hd ?_
      refine RA.region env_ok ?_
      refine OA.p (some 62) (.bool false) rfl rfl rfl rfl ?_
      refine OA.p (some 63) (W nn) rfl rfl rfl rfl ?_
      refine OA.p (some 64) (W nx) rfl rfl rfl rfl ?_
      refine OA.p (some 65) (.bool false) rfl rfl rfl (Eq.trans (r_bin rfl rfl rfl (b_eql rfl)) (dF hc7)) ?_
      refine OA.p (some 66) (.bool false) rfl rfl rfl rfl ?_
      refine OA.p (some 67) (.bool false) rfl rfl rfl rfl ?_
      refine OA.p (some 68) (.bool false) rfl rfl rfl rfl ?_
      refine OA.p (some 69) (.bool false) rfl rfl rfl rfl ?_
      refine OA.p (some 70) (.bool false) rfl rfl rfl rfl ?_
      refine OA.off (dst := (some 71)) rfl rfl rfl ?_
      refine OA.off (dst := (some 72)) rfl rfl rfl ?_
      refine OA.off (dst := (some 73)) rfl rfl rfl ?_
      refine OA.off (dst := (some 74)) rfl rfl rfl ?_
      refine OA.p (some 75) (.bool false) rfl rfl rfl rfl ?_
      refine OA.p (some 76) (.bool false) rfl rfl rfl rfl ?_
      refine OA.p (some 77) (.bool false) rfl rfl rfl rfl ?_
      refine OA.p (some 78) (.bool false) rfl rfl rfl rfl ?_
      refine OA.p (some 79) (.bool false) rfl rfl rfl rfl ?_
      refine OA.p (some 80) (.bool false) rfl rfl rfl rfl ?_
      refine OA.off (dst := (some 81)) rfl rfl rfl ?_
      refine OA.off (dst := (some 82)) rfl rfl rfl ?_
      refine OA.off (dst := (some 83)) rfl rfl rfl ?_
      refine OA.off (dst := (some 84)) rfl rfl rfl ?_
      refine OA.p (some 85) (.bool false) rfl rfl rfl rfl ?_
      refine OA.p (some 86) (.bool false) rfl rfl rfl rfl ?_
      refine OA.nil ?_
      intro _
      refine RA.rebase [(1, lv), (2, wv), (7, (Pt bn1 0 0)), (8, (W nx)), (9, (Pt n1 0 0)), (10, (.bool false)), (11, (.int .i64 ((i : Nat) : Int))), (12, (W nn)), (13, (Pt n33 0 0)), (14, (.bool false)), (15, (Pt n57 0 0)), (16, (.bool false)), (33, (.bool true)), (86, (.bool false))] ⟨rfl, rfl, rfl, rfl, rfl, rfl, rfl, rfl, rfl, rfl, rfl, rfl, rfl, rfl, trivial⟩ (fun τr58 => ?_)
      refine RA.condF rfl ?_
      refine RA.skip env_ok ?_
      intro _
      refine RA.seq hd ?_
      refine RA.seq hd ?_
      refine RA.region env_ok ?_
      refine OA.p (some 87) (.bool false) rfl rfl rfl rfl ?_
      refine OA.p (some 88) (.bool true) rfl rfl rfl rfl ?_
      refine OA.nil ?_
      intro _
      refine RA.condT rfl ?_
      refine RA.exit env_ok ?_
      intro _
      refine RA.region env_ok ?_
      refine OA.p (some 34) (.int .i64 ((i : Nat) : Int)) rfl rfl rfl rfl ?_
      refine OA.p (some 35) (.int .i64 (((i + 1) : Nat) : Int)) rfl rfl rfl (r_bin rfl rfl rfl (b_add (i64_eq (by omega)))) ?_
      refine OA.p (some 11) (.int .i64 (((i + 1) : Nat) : Int)) rfl rfl rfl rfl ?_
      refine OA.nil ?_
      refine ⟨(ls.length - (i + 1)), by omega, [(bn1, some ⟨[(xAc423 nx)], 17, 103, true⟩), (n1, some ⟨[xAc454], 15, 53, true⟩)], (Less.of (fac (mm (fun _ => get_here) (fun _ => (gt3 (by omega) get_here))) (fac (mm (fun _ => (get_there (by omega) get_here)) (fun _ => (gt4 (by omega) get_here))) fan)) (gone_of (by simp only [goneP, memP, List.cons_append, List.nil_append, true_or, or_true, true_and, and_true, or_false] <;> omega))), .inl (⟨(i + 1), nx, rfl, by omega, ⟨rfl, rfl, rfl, rfl, rfl, rfl, rfl, trivial⟩, rfl, (kb2 (by omega)), by omega⟩)⟩
   ·
    refine OA.p (some 32) (.bool false) rfl rfl rfl (Eq.trans (r_bin rfl rfl rfl (b_lss rfl)) (dF hc2)) ?_
    refine OA.p (some 33) (.bool false) rfl rfl rfl rfl ?_
    refine OA.nil ?_
    intro _
    refine RA.condF rfl ?_
    refine RA.exit env_ok ?_
    intro _
    refine RA.seq hd ?_
    refine RA.region env_ok ?_
    refine OA.p (some 6) (.bool true) rfl rfl rfl rfl ?_
    refine OA.nil ?_
    intro _
    refine RA.ret env_ok ?_
    refine ⟨.inr rfl, [(.bool true)], (resL_cons rfl resL_nil), [], (Less.of (fun p hp => by simp at hp) (gone_of (by simp only [goneP, memP, List.cons_append, List.nil_append, true_or, or_true, true_and, and_true, or_false] <;> omega))), rfl⟩
  ·
   refine OA.p (some 29) (.bool false) rfl rfl rfl (Eq.trans (r_bin rfl rfl rfl (b_lss rfl)) (dF hc1)) ?_
   refine OA.p (some 30) (.bool false) rfl rfl rfl rfl ?_
   refine OA.off (dst := (some 31)) rfl rfl rfl ?_
   refine OA.off (dst := (some 32)) rfl rfl rfl ?_
   refine OA.p (some 33) (.bool false) rfl rfl rfl rfl ?_
   refine OA.nil ?_
   intro _
   refine RA.condF rfl ?_
   refine RA.exit env_ok ?_
   intro _
   refine RA.seq hd ?_
   refine RA.region env_ok ?_
   refine OA.p (some 6) (.bool true) rfl rfl rfl rfl ?_
   refine OA.nil ?_
   intro _
   refine RA.ret env_ok ?_
   refine ⟨.inr rfl, [(.bool true)], (resL_cons rfl resL_nil), [], (Less.of (fun p hp => by simp at hp) (gone_of (by simp only [goneP, memP, List.cons_append, List.nil_append, true_or, or_true, true_and, and_true, or_false] <;> omega))), rfl⟩
 ·
  rw [Has.eq hHn3]
  have hKn3_0 : bn1 < n3 := hKn3 _ (by simp only [keys, List.map_cons, List.map_nil, List.mem_cons, true_or, or_true])
  have hKn3_1 : n1 < n3 := hKn3 _ (by simp only [keys, List.map_cons, List.map_nil, List.mem_cons, true_or, or_true])
  have hKn3_2 : ka < n3 := hKn3 _ (by simp only [keys, List.map_cons, List.map_nil, List.mem_cons, true_or, or_true])
  have hKn3_3 : kl < n3 := hKn3 _ (by simp only [keys, List.map_cons, List.map_nil, List.mem_cons, true_or, or_true])
  clear hKn3
  obtain ⟨hil, hlt, hk1, hk2, hk3⟩ := hIn3
  refine RA.seq hd ?_
  refine RA.seq hd ?_
  refine RA.region env_ok ?_
  refine OA.p (some 26) (.int .i64 ((i : Nat) : Int)) rfl rfl rfl rfl ?_
  refine OA.p (some 27) lv rfl rfl rfl rfl ?_
  refine OA.p (some 28) (.int .i64 ((ls.length : Nat) : Int)) rfl rfl rfl (r_lenP (c := cI1) rfl rfl rfl rfl rfl rfl hlv rfl) ?_
  by_cases hc10 : ((i : Nat) : Int) < ((ls.length : Nat) : Int)
  ·
   obtain ⟨rest1, hat1⟩ := hlv.get (m := i) (by omega)
   have lathat1 := hd.lt hat1
   refine OA.p (some 29) (.bool true) rfl rfl rfl (Eq.trans (r_bin rfl rfl rfl (b_lss rfl)) (dT hc10)) ?_
   refine OA.p (some 30) (.bool true) rfl rfl rfl rfl ?_
   refine OA.p (some 31) (.int .i64 ((i : Nat) : Int)) rfl rfl rfl rfl ?_
   by_cases hc11 : ((i : Nat) : Int) < 40
   ·
    refine OA.p (some 32) (.bool true) rfl rfl rfl (Eq.trans (r_bin rfl rfl rfl (b_lss rfl)) (dT hc11)) ?_
    refine OA.p (some 33) (.bool true) rfl rfl rfl rfl ?_
    refine OA.nil ?_
    intro _
    refine RA.condT rfl ?_
    refine RA.skip env_ok ?_
    intro _
    refine RA.seq hd ?_
    refine RA.block ?_
    refine RA.seq hd ?_
    refine RA.region env_ok ?_
    refine OA.p (some 36) (W nx) rfl rfl rfl rfl ?_
    refine OA.p (some 37) lv rfl rfl rfl rfl ?_
    refine OA.p (some 38) (.int .i64 ((i : Nat) : Int)) rfl rfl rfl rfl ?_
    refine OA.p (some 39) (.pointer (some ⟨(rk lv), i, some 0⟩)) rfl rfl rfl (r_iaP (c := cI1) (m := i) rfl rfl rfl rfl rfl rfl hlv rfl (by omega) (gt4 (by omega) hat1) rfl) ?_
    refine OA.p (some 40) (.int .i64 (ls.getD i dI1).z) rfl rfl rfl (r_load1 (e := cI1 (ls.getD i dI1)) rfl rfl rfl rfl rfl (gt4 (by omega) hat1) (mp_getA (by omega)) rfl) ?_
    refine OA.p (some 41) (.int .i64 (Int.tmod (ls.getD i dI1).z 3)) rfl rfl rfl (r_bin rfl rfl rfl (b_rem (by decide) rfl)) ?_
    refine OA.p (some 42) (W (BitVec.ofInt 32 (Int.tmod (ls.getD i dI1).z 3))) rfl rfl rfl (r_cvt rfl rfl rfl rfl rfl ⟨_, rfl⟩ (wrap_ofInt32 _)) ?_
    refine OA.p (some 43) (W (nx + (BitVec.ofInt 32 (Int.tmod (ls.getD i dI1).z 3)))) rfl rfl rfl (r_bin rfl rfl rfl (b_addW nx (BitVec.ofInt 32 (Int.tmod (ls.getD i dI1).z 3)))) ?_
    refine OA.p (some 44) (W ((nx + (BitVec.ofInt 32 (Int.tmod (ls.getD i dI1).z 3))) - (1#32))) rfl rfl rfl (r_bin rfl rfl rfl (b_subW (nx + (BitVec.ofInt 32 (Int.tmod (ls.getD i dI1).z 3))) (1#32))) ?_
    refine OA.p (some 12) (W ((nx + (BitVec.ofInt 32 (Int.tmod (ls.getD i dI1).z 3))) - (1#32))) rfl rfl rfl rfl ?_
    refine OA.nil ?_
    intro _
    obtain ⟨nn, hnn⟩ : ∃ nn : BitVec 32, nn = ((nx + (BitVec.ofInt 32 (Int.tmod (ls.getD i dI1).z 3))) - (1#32)) := ⟨_, rfl⟩
    rw [← hnn]
    refine RA.seq hd ?_
    refine RA.region env_ok ?_
    refine OA.p (some 45) (W nn) rfl rfl rfl rfl ?_
    refine OA.p (some 46) lv rfl rfl rfl rfl ?_
    refine OA.p (some 47) (.int .i64 ((i : Nat) : Int)) rfl rfl rfl rfl ?_
    refine OA.p (some 48) (.pointer (some ⟨(rk lv), i, some 0⟩)) rfl rfl rfl (r_iaP (c := cI1) (m := i) rfl rfl rfl rfl rfl rfl hlv rfl (by omega) (gt4 (by omega) hat1) rfl) ?_
    refine OA.p (some 49) (.int .i64 (ls.getD i dI1).z) rfl rfl rfl (r_load1 (e := cI1 (ls.getD i dI1)) rfl rfl rfl rfl rfl (gt4 (by omega) hat1) (mp_getA (by omega)) rfl) ?_
    refine OA.p (some 50) (.int .i64 (Int.tmod (ls.getD i dI1).z 3)) rfl rfl rfl (r_bin rfl rfl rfl (b_rem (by decide) rfl)) ?_
    have hm59 := andN_le (Int.tmod (ls.getD i dI1).z 3) 1 (by decide)
    refine OA.p (some 51) (.int .i64 (((andN (Int.tmod (ls.getD i dI1).z 3) 1) : Nat) : Int)) rfl rfl rfl (r_bin rfl rfl rfl (b_andN (Int.tmod (ls.getD i dI1).z 3) 1 (by decide))) ?_
    refine OA.p (some 52) (.agg ⟨(xAc456 ls i)⟩) rfl rfl rfl (by kernel_rfl) ?_
    by_cases hc12 : (andN (Int.tmod (ls.getD i dI1).z 3) 1) = 0
    ·
     refine OA.callP (dst := (some 53)) (all := [(.agg ⟨(xAc456 ls i)⟩)]) (v := (.agg ⟨[(.int .i64 49153), (.int .u32 0), (.int .u32 0)]⟩)) (hd.of (by omega) (kb4 (by omega))) rfl rfl rfl rfl rfl rfl rfl rfl (aKindZ0 (andN (Int.tmod (ls.getD i dI1).z 3) 1) (by omega)) ?_
     intro n60 hn60
     refine OA.call (dst := (some 54)) (all := [(W nn), (.agg ⟨[(.int .i64 49153), (.int .u32 0), (.int .u32 0)]⟩), (.int .u32 3), (.int .u32 4)]) rfl rfl rfl rfl rfl rfl rfl rfl (CQ.imp (aChunk49153 (hd.of (by omega) (kb4 (by omega))) nn) ?_)
     rintro _ n61 _ ⟨kn61, p1n61, p2n61, rfl, rfl⟩ hn61
     refine OA.app1 ?_
     refine OA.op1 (dst := (some 13)) (v := (Pt n61 0 0)) (n1 := (n61 + 1)) (w := (n61, some ⟨[xAc454], 15, 53, true⟩)) rfl rfl rfl rfl (by omega) ?_
     refine OA.op1 (dst := none) (v := (.tuple #[])) (n1 := (n61 + 1)) (w := (n61, some ⟨[(xAc441 nn kn61)], 15, 53, true⟩)) rfl rfl rfl (r_store rfl rfl rfl rfl rfl rfl rfl get_here rfl rfl (Nat.le_of_ble_eq_true rfl) rfl) (by omega) ?_
     refine OA.nil ?_
     intro _
     refine RA.weaken (D' := [(n61, some ⟨[(xAc441 nn kn61)], 15, 53, true⟩), (kn61, some ⟨[[(.int .i64 5), (.string (bstr (be4 0#32)))], [(.int .i64 49153), (.string (bstr (be4 nn ++ (be2 5 ++ (be2 8 ++ (be4 0#32 ++ []))))))], [(.int .i64 49160), (.string (bstr ((be4 nn ++ be4 3#32) ++ be4 4#32)))]], 2, 35, true⟩), (bn1, some ⟨[(xAc422 nx lt ka)], 17, 103, true⟩), (n1, some ⟨[(xAc452 lt kl)], 15, 53, true⟩), (ka, some ⟨[[(.int .i64 t), (.string u)]], 2, 35, true⟩), (kl, some ⟨[[(.int .i64 t), (.string u)]], 2, 35, true⟩)]) hd (Less.of (fac (mm (fun _ => get_here) (fun _ => get_here)) (fac (mm (fun _ => (get_there (by omega) get_here)) (fun _ => (gt2 (by omega) get_here))) (fac (mm (fun _ => (gt2 (by omega) get_here)) (fun _ => (gt3 (by omega) get_here))) (fac (mm (fun _ => (gt3 (by omega) get_here)) (fun _ => (gt4 (by omega) get_here))) (fac (mm (fun _ => (gt4 (by omega) get_here)) (fun _ => (gt5 (by omega) get_here))) (fac (mm (fun _ => (gt5 (by omega) get_here)) (fun _ => (gt6 (by omega) get_here))) fan)))))) (gone_of (by simp only [goneP, memP, List.cons_append, List.nil_append, true_or, or_true, true_and, and_true, or_false] <;> omega))) ?_
     refine RA.rebase [(1, lv), (2, wv), (7, (Pt bn1 0 0)), (8, (W nx)), (9, (Pt n1 0 0)), (10, (.bool true)), (11, (.int .i64 ((i : Nat) : Int))), (12, (W nn)), (13, (Pt n61 0 0)), (33, (.bool true))] ⟨rfl, rfl, rfl, rfl, rfl, rfl, rfl, rfl, rfl, rfl, trivial⟩ (fun τr62 => ?_)
     refine RA.seq hd ?_
     refine RA.region env_ok ?_
     refine OA.p (some 56) (Pt bn1 0 0) rfl rfl rfl rfl ?_
     refine OA.p (some 57) (.agg ⟨(xAc441 nn kn61)⟩) rfl rfl rfl (r_loadA rfl rfl rfl rfl get_here rfl rfl rfl) ?_
     by_cases hc13 : (nn.toNat : Int) = (nx.toNat : Int)
     ·
      refine OA.callP (dst := (some 58)) (all := (xAc45 bn1 nn kn61)) (v := (.tuple ⟨xAc421⟩)) (hd.of (by omega) (kb6 (by omega))) rfl rfl rfl rfl rfl rfl rfl rfl (aTakeNT nn nx lt bn1 kn61 ka hc13 (gt2 (by omega) get_here)) ?_
      intro n63 hn63
      refine OA.p (some 55) (.tuple ⟨xAc421⟩) rfl rfl rfl rfl ?_
      refine OA.p (some 59) (.bool true) rfl rfl rfl rfl ?_
      refine OA.p (some 60) (.agg ⟨xAc454⟩) rfl rfl rfl rfl ?_
      refine OA.p (some 61) (.bool false) rfl rfl rfl rfl ?_
      refine OA.op1 (dst := (some 15)) (v := (Pt n63 0 0)) (n1 := (n63 + 1)) (w := (n63, some ⟨[xAc454], 15, 53, true⟩)) rfl rfl rfl rfl (by omega) ?_
      refine OA.p (some 14) (.bool true) rfl rfl rfl rfl ?_
      refine OA.op1 (dst := none) (v := (.tuple #[])) (n1 := (n63 + 1)) (w := (n63, some ⟨[xAc454], 15, 53, true⟩)) rfl rfl rfl (r_store rfl rfl rfl rfl rfl rfl rfl get_here rfl rfl (Nat.le_of_ble_eq_true rfl) rfl) (by omega) ?_
      refine OA.p (some 16) (.bool false) rfl rfl rfl rfl ?_
      refine OA.nil ?_
      intro _
      refine RA.weaken (D' := [(n63, some ⟨[xAc454], 15, 53, true⟩), (n61, some ⟨[(xAc441 nn kn61)], 15, 53, true⟩), (kn61, some ⟨[[(.int .i64 5), (.string (bstr (be4 0#32)))], [(.int .i64 49153), (.string (bstr (be4 nn ++ (be2 5 ++ (be2 8 ++ (be4 0#32 ++ []))))))], [(.int .i64 49160), (.string (bstr ((be4 nn ++ be4 3#32) ++ be4 4#32)))]], 2, 35, true⟩), (bn1, some ⟨[(xAc422 nx lt ka)], 17, 103, true⟩), (n1, some ⟨[(xAc452 lt kl)], 15, 53, true⟩), (ka, some ⟨[[(.int .i64 t), (.string u)]], 2, 35, true⟩), (kl, some ⟨[[(.int .i64 t), (.string u)]], 2, 35, true⟩)]) hd (Less.of (fac (mm (fun _ => get_here) (fun _ => get_here)) (fac (mm (fun _ => (get_there (by omega) get_here)) (fun _ => (gt2 (by omega) get_here))) (fac (mm (fun _ => (gt2 (by omega) get_here)) (fun _ => (gt3 (by omega) get_here))) (fac (mm (fun _ => (gt3 (by omega) get_here)) (fun _ => (gt4 (by omega) get_here))) (fac (mm (fun _ => (gt4 (by omega) get_here)) (fun _ => (gt5 (by omega) get_here))) (fac (mm (fun _ => (gt5 (by omega) get_here)) (fun _ => (gt6 (by omega) get_here))) (fac (mm (fun _ => (gt6 (by omega) get_here)) (fun _ => (gt7 (by omega) get_here))) fan))))))) (gone_of (by simp only [goneP, memP, List.cons_append, List.nil_append, true_or, or_true, true_and, and_true, or_false] <;> omega))) ?_
      refine RA.seq hd ?_
      refine RA.seq hd ?_
      refine RA.region env_ok ?_
      refine OA.p (some 62) (.bool true) rfl rfl rfl rfl ?_
      refine OA.p (some 63) (W nn) rfl rfl rfl rfl ?_
      refine OA.p (some 64) (W nx) rfl rfl rfl rfl ?_
      refine OA.p (some 65) (.bool true) rfl rfl rfl (Eq.trans (r_bin rfl rfl rfl (b_eql rfl)) (dT hc13)) ?_
      refine OA.p (some 66) (.bool false) rfl rfl rfl rfl ?_
      refine OA.p (some 67) (.bool false) rfl rfl rfl rfl ?_
      refine OA.p (some 68) (.bool false) rfl rfl rfl rfl ?_
      refine OA.p (some 69) (.bool true) rfl rfl rfl rfl ?_
      refine OA.p (some 70) (.bool true) rfl rfl rfl rfl ?_
      refine OA.p (some 71) (W nn) rfl rfl rfl rfl ?_
      refine OA.p (some 72) (W nx) rfl rfl rfl rfl ?_
      refine OA.p (some 73) (W (nx - (1#32))) rfl rfl rfl (r_bin rfl rfl rfl (b_subW nx (1#32))) ?_
      refine OA.p (some 74) (.bool false) rfl rfl rfl (r_bin rfl rfl rfl (b_eql (decide_eq_false (fun hh => w_ne nx (hc13.symm.trans hh))))) ?_
      refine OA.p (some 75) (.bool false) rfl rfl rfl rfl ?_
      refine OA.p (some 76) (.bool false) rfl rfl rfl rfl ?_
      refine OA.p (some 77) (.bool false) rfl rfl rfl rfl ?_
      refine OA.p (some 78) (.bool false) rfl rfl rfl rfl ?_
      refine OA.p (some 79) (.bool false) rfl rfl rfl rfl ?_
      refine OA.p (some 80) (.bool false) rfl rfl rfl rfl ?_
      refine OA.off (dst := (some 81)) rfl rfl rfl ?_
      refine OA.off (dst := (some 82)) rfl rfl rfl ?_
      refine OA.off (dst := (some 83)) rfl rfl rfl ?_
      refine OA.off (dst := (some 84)) rfl rfl rfl ?_
      refine OA.p (some 85) (.bool false) rfl rfl rfl rfl ?_
      refine OA.p (some 86) (.bool false) rfl rfl rfl rfl ?_
      refine OA.nil ?_
      intro _
      refine RA.rebase [(1, lv), (2, wv), (7, (Pt bn1 0 0)), (8, (W nx)), (9, (Pt n1 0 0)), (10, (.bool true)), (11, (.int .i64 ((i : Nat) : Int))), (12, (W nn)), (13, (Pt n61 0 0)), (14, (.bool true)), (15, (Pt n63 0 0)), (16, (.bool false)), (33, (.bool true)), (86, (.bool false))] ⟨rfl, rfl, rfl, rfl, rfl, rfl, rfl, rfl, rfl, rfl, rfl, rfl, rfl, rfl, trivial⟩ (fun τr64 => ?_)
      refine RA.condF rfl ?_
      refine RA.skip env_ok ?_
      intro _
      refine RA.seq hd ?_
      refine RA.seq hd ?_
      refine RA.region env_ok ?_
      refine OA.p (some 87) (.bool true) rfl rfl rfl rfl ?_
      refine OA.p (some 88) (.bool false) rfl rfl rfl rfl ?_
      refine OA.nil ?_
      intro _
      refine RA.condF rfl ?_
      refine RA.skip env_ok ?_
      intro _
      refine RA.seq hd ?_
      refine RA.region env_ok ?_
      refine OA.p (some 17) (.int .i64 0) rfl rfl rfl rfl ?_
      refine OA.nil ?_
      intro _
      refine RA.seq hd ?_
      refine RA.seq hd ?_
      refine RA.region env_ok ?_
      refine OA.p (some 89) wv rfl rfl rfl rfl ?_
      refine OA.p (some 90) (.int .i64 ((ws.length : Nat) : Int)) rfl rfl rfl (r_lenP (c := cI1) rfl rfl rfl rfl rfl rfl hwv rfl) ?_
      by_cases hc14 : 0 < ((ws.length : Nat) : Int)
      ·
       have hml := Nat.mod_lt i (show 0 < ws.length by omega)
       obtain ⟨rest2, hat2⟩ := hwv.get (m := (i % ws.length)) (by omega)
       have lathat2 := hd.lt hat2
       refine OA.p (some 91) (.bool true) rfl rfl rfl (Eq.trans (r_bin rfl rfl rfl (b_gtr rfl)) (dT hc14)) ?_
       refine OA.nil ?_
       intro _
       refine RA.condT rfl ?_
       refine RA.region env_ok ?_
       refine OA.p (some 92) wv rfl rfl rfl rfl ?_
       refine OA.p (some 93) (.int .i64 ((i : Nat) : Int)) rfl rfl rfl rfl ?_
       refine OA.p (some 94) wv rfl rfl rfl rfl ?_
       refine OA.p (some 95) (.int .i64 ((ws.length : Nat) : Int)) rfl rfl rfl (r_lenP (c := cI1) rfl rfl rfl rfl rfl rfl hwv rfl) ?_
       have hmd65 := Nat.mod_lt i (show 0 < ws.length by omega)
       refine OA.p (some 96) (.int .i64 (((i % ws.length) : Nat) : Int)) rfl rfl rfl (r_bin rfl rfl rfl (b_remN (a := i) (c := ws.length) (by omega))) ?_
       refine OA.p (some 97) (.pointer (some ⟨(rk wv), (i % ws.length), some 0⟩)) rfl rfl rfl (r_iaP (c := cI1) (m := (i % ws.length)) rfl rfl rfl rfl rfl rfl hwv rfl (by omega) (gt7 (by omega) hat2) rfl) ?_
       refine OA.p (some 98) (.int .i64 (ws.getD (i % ws.length) dI1).z) rfl rfl rfl (r_load1 (e := cI1 (ws.getD (i % ws.length) dI1)) rfl rfl rfl rfl rfl (gt7 (by omega) hat2) (mp_getA (by omega)) rfl) ?_
       have hm66 := andN_le (ws.getD (i % ws.length) dI1).z 255 (by decide)
       refine OA.p (some 99) (.int .i64 (((andN (ws.getD (i % ws.length) dI1).z 255) : Nat) : Int)) rfl rfl rfl (r_bin rfl rfl rfl (b_andN (ws.getD (i % ws.length) dI1).z 255 (by decide))) ?_
       refine OA.p (some 17) (.int .i64 (((andN (ws.getD (i % ws.length) dI1).z 255) : Nat) : Int)) rfl rfl rfl rfl ?_
       refine OA.nil ?_
       intro _
       refine RA.seq hd ?_
       refine RA.region env_ok ?_
       refine OA.p (some 100) (Pt bn1 0 0) rfl rfl rfl rfl ?_
       refine OA.p (some 101) (.agg ⟨(xAc441 nn kn61)⟩) rfl rfl rfl (r_loadA rfl rfl rfl rfl (get_there (by omega) get_here) rfl rfl rfl) ?_
       refine OA.p (some 102) (.int .i64 (((andN (ws.getD (i % ws.length) dI1).z 255) : Nat) : Int)) rfl rfl rfl rfl ?_
       refine OA.op1 (dst := (some 103)) (v := (.slice (some ⟨(n63 + 1), 0, none⟩) 1 0)) (n1 := (n63 + 2)) (w := ((n63 + 1), some ⟨[[(.int .i64 (((andN (ws.getD (i % ws.length) dI1).z 255) : Nat) : Int))]], 1, 3, true⟩)) rfl rfl rfl (by kernel_rfl) (by omega) ?_
       by_cases hc15 : (andN (ws.getD (i % ws.length) dI1).z 255) = 0
       ·
        refine OA.call (dst := (some 104)) (all := (xAc42 bn1 nn kn61 n63)) rfl rfl rfl rfl rfl rfl rfl rfl (CQ.imp (aGive491530T (hd.of (by omega) (kb8 (by omega))) nn nx lt bn1 kn61 (n63 + 1) ka  (gt4 (by omega) get_here) (gt3 (by omega) get_here) (Eq.trans get_here (congrArg (fun z : Nat => some (AObj.mk [[.int .i64 ((z : Nat) : Int)]] 1 3 true)) hc15))) ?_)
        rintro _ n67 _ ⟨in67, p1n67, p2n67, rfl, rfl⟩ hn67
        refine OA.app2 ?_
        refine OA.op1 (dst := (some 18)) (v := (Pt n67 0 0)) (n1 := (n67 + 1)) (w := (n67, some ⟨[xAc454], 15, 53, true⟩)) rfl rfl rfl rfl (by omega) ?_
        refine OA.op1 (dst := none) (v := (.tuple #[])) (n1 := (n67 + 1)) (w := (n67, some ⟨[(xAc442 nn in67)], 15, 53, true⟩)) rfl rfl rfl (r_store rfl rfl rfl rfl rfl rfl rfl get_here rfl rfl (Nat.le_of_ble_eq_true rfl) rfl) (by omega) ?_
        refine OA.nil ?_
        intro _
        refine RA.weaken (D' := [(n67, some ⟨[(xAc442 nn in67)], 15, 53, true⟩), (bn1, some ⟨[(xAc416 nx nn in67)], 17, 103, true⟩), (in67, some ⟨[[(.int .i64 49157), (.string (bstr (be4 nn)))]], 2, 35, true⟩), ((n63 + 1), some ⟨[[(.int .i64 (((andN (ws.getD (i % ws.length) dI1).z 255) : Nat) : Int))]], 1, 3, true⟩), (n63, some ⟨[xAc454], 15, 53, true⟩), (n61, some ⟨[(xAc441 nn kn61)], 15, 53, true⟩), (kn61, some ⟨[[(.int .i64 5), (.string (bstr (be4 0#32)))], [(.int .i64 49153), (.string (bstr (be4 nn ++ (be2 5 ++ (be2 8 ++ (be4 0#32 ++ []))))))], [(.int .i64 49160), (.string (bstr ((be4 nn ++ be4 3#32) ++ be4 4#32)))]], 2, 35, true⟩), (n1, some ⟨[(xAc452 lt kl)], 15, 53, true⟩), (ka, some ⟨[[(.int .i64 t), (.string u)]], 2, 35, true⟩), (kl, some ⟨[[(.int .i64 t), (.string u)]], 2, 35, true⟩)]) hd (Less.of (fac (mm (fun _ => get_here) (fun _ => get_here)) (fac (mm (fun _ => (get_there (by omega) get_here)) (fun _ => (gt2 (by omega) get_here))) (fac (mm (fun _ => (gt2 (by omega) get_here)) (fun _ => (gt3 (by omega) get_here))) (fac (mm (fun _ => (gt3 (by omega) get_here)) (fun _ => (gt4 (by omega) get_here))) (fac (mm (fun _ => (gt4 (by omega) get_here)) (fun _ => (gt5 (by omega) get_here))) (fac (mm (fun _ => (gt5 (by omega) get_here)) (fun _ => (gt6 (by omega) get_here))) (fac (mm (fun _ => (gt6 (by omega) get_here)) (fun _ => (gt7 (by omega) get_here))) (fac (mm (fun _ => (gt7 (by omega) get_here)) (fun _ => (gt9 (by omega) get_here))) (fac (mm (fun _ => (gt8 (by omega) get_here)) (fun _ => (gt10 (by omega) get_here))) (fac (mm (fun _ => (gt9 (by omega) get_here)) (fun _ => (gt11 (by omega) get_here))) fan)))))))))) (gone_of (by simp only [goneP, memP, List.cons_append, List.nil_append, true_or, or_true, true_and, and_true, or_false] <;> omega))) ?_
        refine RA.seq hd ?_
        refine RA.region env_ok ?_
        refine OA.p (some 105) (W nn) rfl rfl rfl rfl ?_
        refine OA.callP (dst := (some 106)) (all := [(W nn)]) (v := (.string (bstr (be4 nn)))) (hd.of (by omega) (kb10 (by omega))) rfl rfl rfl rfl rfl rfl rfl rfl (aFour nn) ?_
        intro n68 hn68
        refine OA.p (some 107) (.agg ⟨[(.int .i64 49157), (.string (bstr (be4 nn)))]⟩) rfl rfl rfl (by kernel_rfl) ?_
        refine OA.op1 (dst := (some 19)) (v := (Pt n68 0 0)) (n1 := (n68 + 1)) (w := (n68, some ⟨[[(.int .i64 0), (.string ByteArray.empty)]], 2, 35, true⟩)) rfl rfl rfl rfl (by omega) ?_
        refine OA.op1 (dst := none) (v := (.tuple #[])) (n1 := (n68 + 1)) (w := (n68, some ⟨[[(.int .i64 49157), (.string (bstr (be4 nn)))]], 2, 35, true⟩)) rfl rfl rfl (r_store rfl rfl rfl rfl rfl rfl rfl get_here rfl rfl (Nat.le_of_ble_eq_true rfl) rfl) (by omega) ?_
        refine OA.nil ?_
        intro _
        refine RA.weaken (D' := [(n68, some ⟨[[(.int .i64 49157), (.string (bstr (be4 nn)))]], 2, 35, true⟩), (n67, some ⟨[(xAc442 nn in67)], 15, 53, true⟩), (bn1, some ⟨[(xAc416 nx nn in67)], 17, 103, true⟩), (in67, some ⟨[[(.int .i64 49157), (.string (bstr (be4 nn)))]], 2, 35, true⟩), ((n63 + 1), some ⟨[[(.int .i64 (((andN (ws.getD (i % ws.length) dI1).z 255) : Nat) : Int))]], 1, 3, true⟩), (n63, some ⟨[xAc454], 15, 53, true⟩), (n61, some ⟨[(xAc441 nn kn61)], 15, 53, true⟩), (kn61, some ⟨[[(.int .i64 5), (.string (bstr (be4 0#32)))], [(.int .i64 49153), (.string (bstr (be4 nn ++ (be2 5 ++ (be2 8 ++ (be4 0#32 ++ []))))))], [(.int .i64 49160), (.string (bstr ((be4 nn ++ be4 3#32) ++ be4 4#32)))]], 2, 35, true⟩), (n1, some ⟨[(xAc452 lt kl)], 15, 53, true⟩), (ka, some ⟨[[(.int .i64 t), (.string u)]], 2, 35, true⟩), (kl, some ⟨[[(.int .i64 t), (.string u)]], 2, 35, true⟩)]) hd (Less.of (fac (mm (fun _ => get_here) (fun _ => get_here)) (fac (mm (fun _ => (get_there (by omega) get_here)) (fun _ => (gt2 (by omega) get_here))) (fac (mm (fun _ => (gt2 (by omega) get_here)) (fun _ => (gt3 (by omega) get_here))) (fac (mm (fun _ => (gt3 (by omega) get_here)) (fun _ => (gt4 (by omega) get_here))) (fac (mm (fun _ => (gt4 (by omega) get_here)) (fun _ => (gt5 (by omega) get_here))) (fac (mm (fun _ => (gt5 (by omega) get_here)) (fun _ => (gt6 (by omega) get_here))) (fac (mm (fun _ => (gt6 (by omega) get_here)) (fun _ => (gt7 (by omega) get_here))) (fac (mm (fun _ => (gt7 (by omega) get_here)) (fun _ => (gt8 (by omega) get_here))) (fac (mm (fun _ => (gt8 (by omega) get_here)) (fun _ => (gt9 (by omega) get_here))) (fac (mm (fun _ => (gt9 (by omega) get_here)) (fun _ => (gt10 (by omega) get_here))) (fac (mm (fun _ => (gt10 (by omega) get_here)) (fun _ => (gt11 (by omega) get_here))) fan))))))))))) (gone_of (by simp only [goneP, memP, List.cons_append, List.nil_append, true_or, or_true, true_and, and_true, or_false] <;> omega))) ?_
        refine RA.rebase [(1, lv), (2, wv), (7, (Pt bn1 0 0)), (8, (W nx)), (9, (Pt n1 0 0)), (10, (.bool true)), (11, (.int .i64 ((i : Nat) : Int))), (12, (W nn)), (13, (Pt n61 0 0)), (14, (.bool true)), (15, (Pt n63 0 0)), (16, (.bool false)), (17, (.int .i64 (((andN (ws.getD (i % ws.length) dI1).z 255) : Nat) : Int))), (18, (Pt n67 0 0)), (19, (Pt n68 0 0)), (33, (.bool true)), (86, (.bool false)), (88, (.bool false)), (91, (.bool true))] ⟨rfl, rfl, rfl, rfl, rfl, rfl, rfl, rfl, rfl, rfl, rfl, rfl, rfl, rfl, rfl, rfl, rfl, rfl, rfl, trivial⟩ (fun τr69 => ?_)
        refine RA.seq hd ?_
        refine RA.seq hd ?_
        refine RA.region env_ok ?_
        refine OA.p (some 108) (.int .i64 (((andN (ws.getD (i % ws.length) dI1).z 255) : Nat) : Int)) rfl rfl rfl rfl ?_
        refine OA.p (some 109) (.bool false) rfl rfl rfl (r_bin rfl rfl rfl (b_neq (decide_eq_false (by omega)))) ?_
        refine OA.nil ?_
        intro _
        refine RA.condF rfl ?_
        refine RA.skip env_ok ?_
        intro _
        refine RA.seq hd ?_
        refine RA.region env_ok ?_
        refine OA.p (some 117) (W nn) rfl rfl rfl rfl ?_
        refine OA.p (some 118) (.agg ⟨[(.int .i64 49157), (.string (bstr (be4 nn)))]⟩) rfl rfl rfl (r_loadA rfl rfl rfl rfl get_here rfl rfl rfl) ?_
        refine OA.op1 (dst := (some 119)) (v := (.slice (some ⟨(n68 + 1), 0, none⟩) 1 0)) (n1 := (n68 + 2)) (w := ((n68 + 1), some ⟨[[(.int .i64 49157), (.string (bstr (be4 nn)))]], 2, 35, true⟩)) rfl rfl rfl (by kernel_rfl) (by omega) ?_
        refine OA.p (some 120) (.agg ⟨(xAc429 nn n68)⟩) rfl rfl rfl (by kernel_rfl) ?_
        refine OA.op1 (dst := none) (v := (.tuple #[])) (n1 := (n68 + 2)) (w := (n1, some ⟨[(xAc429 nn n68)], 15, 53, true⟩)) rfl rfl rfl (r_store rfl rfl rfl rfl rfl rfl rfl (gt9 (by omega) get_here) rfl rfl (Nat.le_of_ble_eq_true rfl) rfl) (by omega) ?_
        refine OA.p (some 10) (.bool true) rfl rfl rfl rfl ?_
        refine OA.nil ?_
        intro _
        refine RA.weaken (D' := [(n1, some ⟨[(xAc429 nn n68)], 15, 53, true⟩), ((n68 + 1), some ⟨[[(.int .i64 49157), (.string (bstr (be4 nn)))]], 2, 35, true⟩), (n68, some ⟨[[(.int .i64 49157), (.string (bstr (be4 nn)))]], 2, 35, true⟩), (n67, some ⟨[(xAc442 nn in67)], 15, 53, true⟩), (bn1, some ⟨[(xAc416 nx nn in67)], 17, 103, true⟩), (in67, some ⟨[[(.int .i64 49157), (.string (bstr (be4 nn)))]], 2, 35, true⟩), ((n63 + 1), some ⟨[[(.int .i64 (((andN (ws.getD (i % ws.length) dI1).z 255) : Nat) : Int))]], 1, 3, true⟩), (n63, some ⟨[xAc454], 15, 53, true⟩), (n61, some ⟨[(xAc441 nn kn61)], 15, 53, true⟩), (kn61, some ⟨[[(.int .i64 5), (.string (bstr (be4 0#32)))], [(.int .i64 49153), (.string (bstr (be4 nn ++ (be2 5 ++ (be2 8 ++ (be4 0#32 ++ []))))))], [(.int .i64 49160), (.string (bstr ((be4 nn ++ be4 3#32) ++ be4 4#32)))]], 2, 35, true⟩), (ka, some ⟨[[(.int .i64 t), (.string u)]], 2, 35, true⟩), (kl, some ⟨[[(.int .i64 t), (.string u)]], 2, 35, true⟩)]) hd (Less.of (fac (mm (fun _ => get_here) (fun _ => get_here)) (fac (mm (fun _ => (get_there (by omega) get_here)) (fun _ => (get_there (by omega) get_here))) (fac (mm (fun _ => (gt2 (by omega) get_here)) (fun _ => (gt2 (by omega) get_here))) (fac (mm (fun _ => (gt3 (by omega) get_here)) (fun _ => (gt3 (by omega) get_here))) (fac (mm (fun _ => (gt4 (by omega) get_here)) (fun _ => (gt4 (by omega) get_here))) (fac (mm (fun _ => (gt5 (by omega) get_here)) (fun _ => (gt5 (by omega) get_here))) (fac (mm (fun _ => (gt6 (by omega) get_here)) (fun _ => (gt6 (by omega) get_here))) (fac (mm (fun _ => (gt7 (by omega) get_here)) (fun _ => (gt7 (by omega) get_here))) (fac (mm (fun _ => (gt8 (by omega) get_here)) (fun _ => (gt8 (by omega) get_here))) (fac (mm (fun _ => (gt9 (by omega) get_here)) (fun _ => (gt9 (by omega) get_here))) (fac (mm (fun _ => (gt10 (by omega) get_here)) (fun _ => (gt11 (by omega) get_here))) (fac (mm (fun _ => (gt11 (by omega) get_here)) (fun _ => (gt12 (by omega) get_here))) fan)))))))))))) (gone_of (by simp only [goneP, memP, List.cons_append, List.nil_append, true_or, or_true, true_and, and_true, or_false] <;> omega))) ?_
        refine RA.seq hd ?_
        refine RA.seq hd ?_
        refine RA.region env_ok ?_
        refine OA.p (some 121) (.agg ⟨(xAc442 nn in67)⟩) rfl rfl rfl (r_loadA rfl rfl rfl rfl (gt3 (by omega) get_here) rfl rfl rfl) ?_
        refine OA.p (some 122) (.agg ⟨(xAc429 nn n68)⟩) rfl rfl rfl (r_loadA rfl rfl rfl rfl get_here rfl rfl rfl) ?_
        refine OA.callP (dst := (some 123)) (all := [(.agg ⟨(xAc442 nn in67)⟩), (.agg ⟨(xAc429 nn n68)⟩)]) (v := (.bool true)) (hd.of (by omega) (kb12 (by omega))) rfl rfl rfl rfl rfl rfl rfl rfl (aSame nn in67 (n68 + 1) (49157) (bstr (be4 nn)) (gt5 (by omega) get_here) (get_there (by omega) get_here)) ?_
        intro n70 hn70
        refine OA.p (some 124) (.bool false) rfl rfl rfl rfl ?_
        refine OA.p (some 125) (.bool false) rfl rfl rfl rfl ?_
        refine OA.p (some 126) (.agg ⟨(xAc441 nn kn61)⟩) rfl rfl rfl (r_loadA rfl rfl rfl rfl (gt8 (by omega) get_here) rfl rfl rfl) ?_
        refine OA.call (dst := (some 127)) (all := [(.agg ⟨(xAc441 nn kn61)⟩)]) rfl rfl rfl rfl rfl rfl rfl rfl (CQ.imp (aAsked49153 (hd.of (by omega) (kb12 (by omega))) nn kn61 (gt9 (by omega) get_here)) ?_)
        rintro _ n71 _ ⟨in71, p1n71, p2n71, rfl, rfl⟩ hn71
        refine OA.app1 ?_
        refine OA.p (some 128) (.int .i64 1) rfl rfl rfl rfl ?_
        refine OA.p (some 129) (.bool false) rfl rfl rfl (r_bin rfl rfl rfl (b_neq rfl)) ?_
        refine OA.p (some 130) (.bool false) rfl rfl rfl rfl ?_
        refine OA.nil ?_
        intro _
        refine RA.condF rfl ?_
        refine RA.skip env_ok ?_
        intro _
        refine RA.region env_ok ?_
        refine OA.p (some 131) (W nx) rfl rfl rfl rfl ?_
        refine OA.p (some 132) (W (nx + (1#32))) rfl rfl rfl (r_bin rfl rfl rfl (b_addW nx (1#32))) ?_
        refine OA.p (some 8) (W (nx + (1#32))) rfl rfl rfl rfl ?_
        refine OA.nil ?_
        intro _
        refine RA.region env_ok ?_
        refine OA.p (some 34) (.int .i64 ((i : Nat) : Int)) rfl rfl rfl rfl ?_
        refine OA.p (some 35) (.int .i64 (((i + 1) : Nat) : Int)) rfl rfl rfl (r_bin rfl rfl rfl (b_add (i64_eq (by omega)))) ?_
        refine OA.p (some 11) (.int .i64 (((i + 1) : Nat) : Int)) rfl rfl rfl rfl ?_
        refine OA.nil ?_
        refine ⟨(ls.length - (i + 1)), by omega, [(bn1, some ⟨[(xAc416 nx nn in67)], 17, 103, true⟩), (n1, some ⟨[(xAc429 nn n68)], 15, 53, true⟩), (in67, some ⟨[[(.int .i64 49157), (.string (bstr (be4 nn)))]], 2, 35, true⟩), ((n68 + 1), some ⟨[[(.int .i64 49157), (.string (bstr (be4 nn)))]], 2, 35, true⟩)], (Less.of (fac (mm (fun _ => get_here) (fun _ => (gt5 (by omega) get_here))) (fac (mm (fun _ => (get_there (by omega) get_here)) (fun _ => (get_there (by omega) get_here))) (fac (mm (fun _ => (gt2 (by omega) get_here)) (fun _ => (gt6 (by omega) get_here))) (fac (mm (fun _ => (gt3 (by omega) get_here)) (fun _ => (gt2 (by omega) get_here))) fan)))) (gone_of (by simp only [goneP, memP, List.cons_append, List.nil_append, true_or, or_true, true_and, and_true, or_false] <;> omega))), .inr (⟨(i + 1), (nx + (1#32)), nn, in67, (n68 + 1), (49157), (bstr (be4 nn)), rfl, by omega, ⟨rfl, rfl, rfl, rfl, rfl, rfl, rfl, trivial⟩, rfl, (kb4 (by omega)), ⟨by omega, (by rw [w_eq hc13, BitVec.add_sub_cancel]), by omega, by omega, by omega⟩⟩)⟩
       ·
        refine OA.call (dst := (some 104)) (all := (xAc42 bn1 nn kn61 n63)) rfl rfl rfl rfl rfl rfl rfl rfl (CQ.imp (aGive491531T (hd.of (by omega) (kb8 (by omega))) nn nx lt bn1 kn61 (n63 + 1) ka (andN (ws.getD (i % ws.length) dI1).z 255) hc15 (by omega) (gt4 (by omega) get_here) (gt3 (by omega) get_here) get_here) ?_)
        rintro _ n72 _ ⟨in72, p1n72, p2n72, rfl, rfl⟩ hn72
        refine OA.app2 ?_
        refine OA.op1 (dst := (some 18)) (v := (Pt n72 0 0)) (n1 := (n72 + 1)) (w := (n72, some ⟨[xAc454], 15, 53, true⟩)) rfl rfl rfl rfl (by omega) ?_
        refine OA.op1 (dst := none) (v := (.tuple #[])) (n1 := (n72 + 1)) (w := (n72, some ⟨[(xAc443 nn in72)], 15, 53, true⟩)) rfl rfl rfl (r_store rfl rfl rfl rfl rfl rfl rfl get_here rfl rfl (Nat.le_of_ble_eq_true rfl) rfl) (by omega) ?_
        refine OA.nil ?_
        intro _
        refine RA.weaken (D' := [(n72, some ⟨[(xAc443 nn in72)], 15, 53, true⟩), (bn1, some ⟨[(xAc417 nx nn in72)], 17, 103, true⟩), (in72, some ⟨[(xAc458 nn ws i)], 2, 35, true⟩), ((n63 + 1), some ⟨[[(.int .i64 (((andN (ws.getD (i % ws.length) dI1).z 255) : Nat) : Int))]], 1, 3, true⟩), (n63, some ⟨[xAc454], 15, 53, true⟩), (n61, some ⟨[(xAc441 nn kn61)], 15, 53, true⟩), (kn61, some ⟨[[(.int .i64 5), (.string (bstr (be4 0#32)))], [(.int .i64 49153), (.string (bstr (be4 nn ++ (be2 5 ++ (be2 8 ++ (be4 0#32 ++ []))))))], [(.int .i64 49160), (.string (bstr ((be4 nn ++ be4 3#32) ++ be4 4#32)))]], 2, 35, true⟩), (n1, some ⟨[(xAc452 lt kl)], 15, 53, true⟩), (ka, some ⟨[[(.int .i64 t), (.string u)]], 2, 35, true⟩), (kl, some ⟨[[(.int .i64 t), (.string u)]], 2, 35, true⟩)]) hd (Less.of (fac (mm (fun _ => get_here) (fun _ => get_here)) (fac (mm (fun _ => (get_there (by omega) get_here)) (fun _ => (gt2 (by omega) get_here))) (fac (mm (fun _ => (gt2 (by omega) get_here)) (fun _ => (gt3 (by omega) get_here))) (fac (mm (fun _ => (gt3 (by omega) get_here)) (fun _ => (gt4 (by omega) get_here))) (fac (mm (fun _ => (gt4 (by omega) get_here)) (fun _ => (gt5 (by omega) get_here))) (fac (mm (fun _ => (gt5 (by omega) get_here)) (fun _ => (gt6 (by omega) get_here))) (fac (mm (fun _ => (gt6 (by omega) get_here)) (fun _ => (gt7 (by omega) get_here))) (fac (mm (fun _ => (gt7 (by omega) get_here)) (fun _ => (gt9 (by omega) get_here))) (fac (mm (fun _ => (gt8 (by omega) get_here)) (fun _ => (gt10 (by omega) get_here))) (fac (mm (fun _ => (gt9 (by omega) get_here)) (fun _ => (gt11 (by omega) get_here))) fan)))))))))) (gone_of (by simp only [goneP, memP, List.cons_append, List.nil_append, true_or, or_true, true_and, and_true, or_false] <;> omega))) ?_
        refine RA.seq hd ?_
        refine RA.region env_ok ?_
        refine OA.p (some 105) (W nn) rfl rfl rfl rfl ?_
        refine OA.callP (dst := (some 106)) (all := [(W nn)]) (v := (.string (bstr (be4 nn)))) (hd.of (by omega) (kb10 (by omega))) rfl rfl rfl rfl rfl rfl rfl rfl (aFour nn) ?_
        intro n73 hn73
        refine OA.p (some 107) (.agg ⟨[(.int .i64 49157), (.string (bstr (be4 nn)))]⟩) rfl rfl rfl (by kernel_rfl) ?_
        refine OA.op1 (dst := (some 19)) (v := (Pt n73 0 0)) (n1 := (n73 + 1)) (w := (n73, some ⟨[[(.int .i64 0), (.string ByteArray.empty)]], 2, 35, true⟩)) rfl rfl rfl rfl (by omega) ?_
        refine OA.op1 (dst := none) (v := (.tuple #[])) (n1 := (n73 + 1)) (w := (n73, some ⟨[[(.int .i64 49157), (.string (bstr (be4 nn)))]], 2, 35, true⟩)) rfl rfl rfl (r_store rfl rfl rfl rfl rfl rfl rfl get_here rfl rfl (Nat.le_of_ble_eq_true rfl) rfl) (by omega) ?_
        refine OA.nil ?_
        intro _
        refine RA.weaken (D' := [(n73, some ⟨[[(.int .i64 49157), (.string (bstr (be4 nn)))]], 2, 35, true⟩), (n72, some ⟨[(xAc443 nn in72)], 15, 53, true⟩), (bn1, some ⟨[(xAc417 nx nn in72)], 17, 103, true⟩), (in72, some ⟨[(xAc458 nn ws i)], 2, 35, true⟩), ((n63 + 1), some ⟨[[(.int .i64 (((andN (ws.getD (i % ws.length) dI1).z 255) : Nat) : Int))]], 1, 3, true⟩), (n63, some ⟨[xAc454], 15, 53, true⟩), (n61, some ⟨[(xAc441 nn kn61)], 15, 53, true⟩), (kn61, some ⟨[[(.int .i64 5), (.string (bstr (be4 0#32)))], [(.int .i64 49153), (.string (bstr (be4 nn ++ (be2 5 ++ (be2 8 ++ (be4 0#32 ++ []))))))], [(.int .i64 49160), (.string (bstr ((be4 nn ++ be4 3#32) ++ be4 4#32)))]], 2, 35, true⟩), (n1, some ⟨[(xAc452 lt kl)], 15, 53, true⟩), (ka, some ⟨[[(.int .i64 t), (.string u)]], 2, 35, true⟩), (kl, some ⟨[[(.int .i64 t), (.string u)]], 2, 35, true⟩)]) hd (Less.of (fac (mm (fun _ => get_here) (fun _ => get_here)) (fac (mm (fun _ => (get_there (by omega) get_here)) (fun _ => (gt2 (by omega) get_here))) (fac (mm (fun _ => (gt2 (by omega) get_here)) (fun _ => (gt3 (by omega) get_here))) (fac (mm (fun _ => (gt3 (by omega) get_here)) (fun _ => (gt4 (by omega) get_here))) (fac (mm (fun _ => (gt4 (by omega) get_here)) (fun _ => (gt5 (by omega) get_here))) (fac (mm (fun _ => (gt5 (by omega) get_here)) (fun _ => (gt6 (by omega) get_here))) (fac (mm (fun _ => (gt6 (by omega) get_here)) (fun _ => (gt7 (by omega) get_here))) (fac (mm (fun _ => (gt7 (by omega) get_here)) (fun _ => (gt8 (by omega) get_here))) (fac (mm (fun _ => (gt8 (by omega) get_here)) (fun _ => (gt9 (by omega) get_here))) (fac (mm (fun _ => (gt9 (by omega) get_here)) (fun _ => (gt10 (by omega) get_here))) (fac (mm (fun _ => (gt10 (by omega) get_here)) (fun _ => (gt11 (by omega) get_here))) fan))))))))))) (gone_of (by simp only [goneP, memP, List.cons_append, List.nil_append, true_or, or_true, true_and, and_true, or_false] <;> omega))) ?_
        refine RA.rebase [(1, lv), (2, wv), (7, (Pt bn1 0 0)), (8, (W nx)), (9, (Pt n1 0 0)), (10, (.bool true)), (11, (.int .i64 ((i : Nat) : Int))), (12, (W nn)), (13, (Pt n61 0 0)), (14, (.bool true)), (15, (Pt n63 0 0)), (16, (.bool false)), (17, (.int .i64 (((andN (ws.getD (i % ws.length) dI1).z 255) : Nat) : Int))), (18, (Pt n72 0 0)), (19, (Pt n73 0 0)), (33, (.bool true)), (86, (.bool false)), (88, (.bool false)), (91, (.bool true))] ⟨rfl, rfl, rfl, rfl, rfl, rfl, rfl, rfl, rfl, rfl, rfl, rfl, rfl, rfl, rfl, rfl, rfl, rfl, rfl, trivial⟩ (fun τr74 => ?_)
        refine RA.seq hd ?_
        refine RA.seq hd ?_
        refine RA.region env_ok ?_
        refine OA.p (some 108) (.int .i64 (((andN (ws.getD (i % ws.length) dI1).z 255) : Nat) : Int)) rfl rfl rfl rfl ?_
        refine OA.p (some 109) (.bool true) rfl rfl rfl (r_bin rfl rfl rfl (b_neq (decide_eq_true (by omega)))) ?_
        refine OA.nil ?_
        intro _
        refine RA.condT rfl ?_
        refine RA.region env_ok ?_
        refine OA.p (some 110) (W nn) rfl rfl rfl rfl ?_
        refine OA.callP (dst := (some 111)) (all := [(W nn)]) (v := (.string (bstr (be4 nn)))) (hd.of (by omega) (kb11 (by omega))) rfl rfl rfl rfl rfl rfl rfl rfl (aFour nn) ?_
        intro n75 hn75
        refine OA.p (some 112) (.int .i64 (((andN (ws.getD (i % ws.length) dI1).z 255) : Nat) : Int)) rfl rfl rfl rfl ?_
        refine OA.p (some 113) (.agg ⟨(xAc457 ws i)⟩) rfl rfl rfl (by kernel_rfl) ?_
        refine OA.callP (dst := (some 114)) (all := [(.agg ⟨(xAc457 ws i)⟩)]) (v := (.string (bstr (pL (andN (ws.getD (i % ws.length) dI1).z 255) [])))) (hd.of (by omega) (kb11 (by omega))) rfl rfl rfl rfl rfl rfl rfl rfl (lR4 (andN (ws.getD (i % ws.length) dI1).z 255) [] (by omega) (by decide)) ?_
        intro n76 hn76
        refine OA.p (some 115) (.string (bstr ((be4 nn) ++ (pL (andN (ws.getD (i % ws.length) dI1).z 255) [])))) rfl rfl rfl (Eq.trans (r_cat rfl rfl rfl (by simp only [bstr_size, size_lit, List.length_append, be2_len, be4_len, be1_len, List.length_replicate, List.length_cons, List.length_nil, List.size_toArray, pL0_len]; omega)) (by rw [bstr_app] <;> rfl)) ?_
        refine OA.p (some 116) (.agg ⟨(xAc455 nn ws i)⟩) rfl rfl rfl (by kernel_rfl) ?_
        refine OA.op1 (dst := none) (v := (.tuple #[])) (n1 := n76) (w := (n73, some ⟨[(xAc455 nn ws i)], 2, 35, true⟩)) rfl rfl rfl (r_store rfl rfl rfl rfl rfl rfl rfl get_here rfl rfl (Nat.le_of_ble_eq_true rfl) rfl) (by omega) ?_
        refine OA.nil ?_
        intro _
        refine RA.weaken (D' := [(n73, some ⟨[(xAc455 nn ws i)], 2, 35, true⟩), (n72, some ⟨[(xAc443 nn in72)], 15, 53, true⟩), (bn1, some ⟨[(xAc417 nx nn in72)], 17, 103, true⟩), (in72, some ⟨[(xAc458 nn ws i)], 2, 35, true⟩), ((n63 + 1), some ⟨[[(.int .i64 (((andN (ws.getD (i % ws.length) dI1).z 255) : Nat) : Int))]], 1, 3, true⟩), (n63, some ⟨[xAc454], 15, 53, true⟩), (n61, some ⟨[(xAc441 nn kn61)], 15, 53, true⟩), (kn61, some ⟨[[(.int .i64 5), (.string (bstr (be4 0#32)))], [(.int .i64 49153), (.string (bstr (be4 nn ++ (be2 5 ++ (be2 8 ++ (be4 0#32 ++ []))))))], [(.int .i64 49160), (.string (bstr ((be4 nn ++ be4 3#32) ++ be4 4#32)))]], 2, 35, true⟩), (n1, some ⟨[(xAc452 lt kl)], 15, 53, true⟩), (ka, some ⟨[[(.int .i64 t), (.string u)]], 2, 35, true⟩), (kl, some ⟨[[(.int .i64 t), (.string u)]], 2, 35, true⟩)]) hd (Less.of (fac (mm (fun _ => get_here) (fun _ => get_here)) (fac (mm (fun _ => (get_there (by omega) get_here)) (fun _ => (gt2 (by omega) get_here))) (fac (mm (fun _ => (gt2 (by omega) get_here)) (fun _ => (gt3 (by omega) get_here))) (fac (mm (fun _ => (gt3 (by omega) get_here)) (fun _ => (gt4 (by omega) get_here))) (fac (mm (fun _ => (gt4 (by omega) get_here)) (fun _ => (gt5 (by omega) get_here))) (fac (mm (fun _ => (gt5 (by omega) get_here)) (fun _ => (gt6 (by omega) get_here))) (fac (mm (fun _ => (gt6 (by omega) get_here)) (fun _ => (gt7 (by omega) get_here))) (fac (mm (fun _ => (gt7 (by omega) get_here)) (fun _ => (gt8 (by omega) get_here))) (fac (mm (fun _ => (gt8 (by omega) get_here)) (fun _ => (gt9 (by omega) get_here))) (fac (mm (fun _ => (gt9 (by omega) get_here)) (fun _ => (gt10 (by omega) get_here))) (fac (mm (fun _ => (gt10 (by omega) get_here)) (fun _ => (gt11 (by omega) get_here))) fan))))))))))) (gone_of (by simp only [goneP, memP, List.cons_append, List.nil_append, true_or, or_true, true_and, and_true, or_false] <;> omega))) ?_
        refine RA.seq hd ?_
        refine RA.region env_ok ?_
        refine OA.p (some 117) (W nn) rfl rfl rfl rfl ?_
        refine OA.p (some 118) (.agg ⟨(xAc455 nn ws i)⟩) rfl rfl rfl (r_loadA rfl rfl rfl rfl get_here rfl rfl rfl) ?_
        refine OA.op1 (dst := (some 119)) (v := (.slice (some ⟨n76, 0, none⟩) 1 0)) (n1 := (n76 + 1)) (w := (n76, some ⟨[(xAc455 nn ws i)], 2, 35, true⟩)) rfl rfl rfl (by kernel_rfl) (by omega) ?_
        refine OA.p (some 120) (.agg ⟨(xAc451 nn n76)⟩) rfl rfl rfl (by kernel_rfl) ?_
        refine OA.op1 (dst := none) (v := (.tuple #[])) (n1 := (n76 + 1)) (w := (n1, some ⟨[(xAc451 nn n76)], 15, 53, true⟩)) rfl rfl rfl (r_store rfl rfl rfl rfl rfl rfl rfl (gt9 (by omega) get_here) rfl rfl (Nat.le_of_ble_eq_true rfl) rfl) (by omega) ?_
        refine OA.p (some 10) (.bool true) rfl rfl rfl rfl ?_
        refine OA.nil ?_
        intro _
        refine RA.weaken (D' := [(n1, some ⟨[(xAc451 nn n76)], 15, 53, true⟩), (n76, some ⟨[(xAc455 nn ws i)], 2, 35, true⟩), (n73, some ⟨[(xAc455 nn ws i)], 2, 35, true⟩), (n72, some ⟨[(xAc443 nn in72)], 15, 53, true⟩), (bn1, some ⟨[(xAc417 nx nn in72)], 17, 103, true⟩), (in72, some ⟨[(xAc458 nn ws i)], 2, 35, true⟩), ((n63 + 1), some ⟨[[(.int .i64 (((andN (ws.getD (i % ws.length) dI1).z 255) : Nat) : Int))]], 1, 3, true⟩), (n63, some ⟨[xAc454], 15, 53, true⟩), (n61, some ⟨[(xAc441 nn kn61)], 15, 53, true⟩), (kn61, some ⟨[[(.int .i64 5), (.string (bstr (be4 0#32)))], [(.int .i64 49153), (.string (bstr (be4 nn ++ (be2 5 ++ (be2 8 ++ (be4 0#32 ++ []))))))], [(.int .i64 49160), (.string (bstr ((be4 nn ++ be4 3#32) ++ be4 4#32)))]], 2, 35, true⟩), (ka, some ⟨[[(.int .i64 t), (.string u)]], 2, 35, true⟩), (kl, some ⟨[[(.int .i64 t), (.string u)]], 2, 35, true⟩)]) hd (Less.of (fac (mm (fun _ => get_here) (fun _ => get_here)) (fac (mm (fun _ => (get_there (by omega) get_here)) (fun _ => (get_there (by omega) get_here))) (fac (mm (fun _ => (gt2 (by omega) get_here)) (fun _ => (gt2 (by omega) get_here))) (fac (mm (fun _ => (gt3 (by omega) get_here)) (fun _ => (gt3 (by omega) get_here))) (fac (mm (fun _ => (gt4 (by omega) get_here)) (fun _ => (gt4 (by omega) get_here))) (fac (mm (fun _ => (gt5 (by omega) get_here)) (fun _ => (gt5 (by omega) get_here))) (fac (mm (fun _ => (gt6 (by omega) get_here)) (fun _ => (gt6 (by omega) get_here))) (fac (mm (fun _ => (gt7 (by omega) get_here)) (fun _ => (gt7 (by omega) get_here))) (fac (mm (fun _ => (gt8 (by omega) get_here)) (fun _ => (gt8 (by omega) get_here))) (fac (mm (fun _ => (gt9 (by omega) get_here)) (fun _ => (gt9 (by omega) get_here))) (fac (mm (fun _ => (gt10 (by omega) get_here)) (fun _ => (gt11 (by omega) get_here))) (fac (mm (fun _ => (gt11 (by omega) get_here)) (fun _ => (gt12 (by omega) get_here))) fan)))))))))))) (gone_of (by simp only [goneP, memP, List.cons_append, List.nil_append, true_or, or_true, true_and, and_true, or_false] <;> omega))) ?_
        refine RA.seq hd ?_
        refine RA.seq hd ?_
        refine RA.region env_ok ?_
        refine OA.p (some 121) (.agg ⟨(xAc443 nn in72)⟩) rfl rfl rfl (r_loadA rfl rfl rfl rfl (gt3 (by omega) get_here) rfl rfl rfl) ?_
        refine OA.p (some 122) (.agg ⟨(xAc451 nn n76)⟩) rfl rfl rfl (r_loadA rfl rfl rfl rfl get_here rfl rfl rfl) ?_
        refine OA.callP (dst := (some 123)) (all := [(.agg ⟨(xAc443 nn in72)⟩), (.agg ⟨(xAc451 nn n76)⟩)]) (v := (.bool true)) (hd.of (by omega) (kb12 (by omega))) rfl rfl rfl rfl rfl rfl rfl rfl (aSame nn in72 n76 (49155) (bstr (be4 nn ++ pL (andN (ws.getD (i % ws.length) dI1).z 255) [])) (gt5 (by omega) get_here) (get_there (by omega) get_here)) ?_
        intro n77 hn77
        refine OA.p (some 124) (.bool false) rfl rfl rfl rfl ?_
        refine OA.p (some 125) (.bool false) rfl rfl rfl rfl ?_
        refine OA.p (some 126) (.agg ⟨(xAc441 nn kn61)⟩) rfl rfl rfl (r_loadA rfl rfl rfl rfl (gt8 (by omega) get_here) rfl rfl rfl) ?_
        refine OA.call (dst := (some 127)) (all := [(.agg ⟨(xAc441 nn kn61)⟩)]) rfl rfl rfl rfl rfl rfl rfl rfl (CQ.imp (aAsked49153 (hd.of (by omega) (kb12 (by omega))) nn kn61 (gt9 (by omega) get_here)) ?_)
        rintro _ n78 _ ⟨in78, p1n78, p2n78, rfl, rfl⟩ hn78
        refine OA.app1 ?_
        refine OA.p (some 128) (.int .i64 1) rfl rfl rfl rfl ?_
        refine OA.p (some 129) (.bool false) rfl rfl rfl (r_bin rfl rfl rfl (b_neq rfl)) ?_
        refine OA.p (some 130) (.bool false) rfl rfl rfl rfl ?_
        refine OA.nil ?_
        intro _
        refine RA.rebase [(1, lv), (2, wv), (7, (Pt bn1 0 0)), (8, (W nx)), (9, (Pt n1 0 0)), (10, (.bool true)), (11, (.int .i64 ((i : Nat) : Int))), (12, (W nn)), (13, (Pt n61 0 0)), (14, (.bool true)), (15, (Pt n63 0 0)), (16, (.bool false)), (17, (.int .i64 (((andN (ws.getD (i % ws.length) dI1).z 255) : Nat) : Int))), (18, (Pt n72 0 0)), (19, (Pt n73 0 0)), (33, (.bool true)), (86, (.bool false)), (88, (.bool false)), (91, (.bool true)), (109, (.bool true)), (130, (.bool false))] ⟨rfl, rfl, rfl, rfl, rfl, rfl, rfl, rfl, rfl, rfl, rfl, rfl, rfl, rfl, rfl, rfl, rfl, rfl, rfl, rfl, rfl, trivial⟩ (fun τr79 => ?_)
        refine RA.condF rfl ?_
        refine RA.skip env_ok ?_
        intro _
        refine RA.region env_ok ?_
        refine OA.p (some 131) (W nx) rfl rfl rfl rfl ?_
        refine OA.p (some 132) (W (nx + (1#32))) rfl rfl rfl (r_bin rfl rfl rfl (b_addW nx (1#32))) ?_
        refine OA.p (some 8) (W (nx + (1#32))) rfl rfl rfl rfl ?_
        refine OA.nil ?_
        intro _
        refine RA.region env_ok ?_
        refine OA.p (some 34) (.int .i64 ((i : Nat) : Int)) rfl rfl rfl rfl ?_
        refine OA.p (some 35) (.int .i64 (((i + 1) : Nat) : Int)) rfl rfl rfl (r_bin rfl rfl rfl (b_add (i64_eq (by omega)))) ?_
        refine OA.p (some 11) (.int .i64 (((i + 1) : Nat) : Int)) rfl rfl rfl rfl ?_
        refine OA.nil ?_
        refine ⟨(ls.length - (i + 1)), by omega, [(bn1, some ⟨[(xAc417 nx nn in72)], 17, 103, true⟩), (n1, some ⟨[(xAc451 nn n76)], 15, 53, true⟩), (in72, some ⟨[(xAc458 nn ws i)], 2, 35, true⟩), (n76, some ⟨[(xAc455 nn ws i)], 2, 35, true⟩)], (Less.of (fac (mm (fun _ => get_here) (fun _ => (gt5 (by omega) get_here))) (fac (mm (fun _ => (get_there (by omega) get_here)) (fun _ => (get_there (by omega) get_here))) (fac (mm (fun _ => (gt2 (by omega) get_here)) (fun _ => (gt6 (by omega) get_here))) (fac (mm (fun _ => (gt3 (by omega) get_here)) (fun _ => (gt2 (by omega) get_here))) fan)))) (gone_of (by simp only [goneP, memP, List.cons_append, List.nil_append, true_or, or_true, true_and, and_true, or_false] <;> omega))), .inr (⟨(i + 1), (nx + (1#32)), nn, in72, n76, (49155), (bstr (be4 nn ++ pL (andN (ws.getD (i % ws.length) dI1).z 255) [])), rfl, by omega, ⟨rfl, rfl, rfl, rfl, rfl, rfl, rfl, trivial⟩, rfl, (kb4 (by omega)), ⟨by omega, (by rw [w_eq hc13, BitVec.add_sub_cancel]), by omega, by omega, by omega⟩⟩)⟩
      ·
       refine OA.p (some 91) (.bool false) rfl rfl rfl (Eq.trans (r_bin rfl rfl rfl (b_gtr rfl)) (dF hc14)) ?_
       refine OA.nil ?_
       intro _
       refine RA.condF rfl ?_
       refine RA.skip env_ok ?_
       intro _
       refine RA.seq hd ?_
       refine RA.region env_ok ?_
       refine OA.p (some 100) (Pt bn1 0 0) rfl rfl rfl rfl ?_
       refine OA.p (some 101) (.agg ⟨(xAc441 nn kn61)⟩) rfl rfl rfl (r_loadA rfl rfl rfl rfl (get_there (by omega) get_here) rfl rfl rfl) ?_
       refine OA.p (some 102) (.int .i64 0) rfl rfl rfl rfl ?_
       refine OA.op1 (dst := (some 103)) (v := (.slice (some ⟨(n63 + 1), 0, none⟩) 1 0)) (n1 := (n63 + 2)) (w := ((n63 + 1), some ⟨[[(.int .i64 0)]], 1, 3, true⟩)) rfl rfl rfl (by kernel_rfl) (by omega) ?_
       refine OA.call (dst := (some 104)) (all := (xAc42 bn1 nn kn61 n63)) rfl rfl rfl rfl rfl rfl rfl rfl (CQ.imp (aGive491530T (hd.of (by omega) (kb8 (by omega))) nn nx lt bn1 kn61 (n63 + 1) ka  (gt4 (by omega) get_here) (gt3 (by omega) get_here) get_here) ?_)
       rintro _ n80 _ ⟨in80, p1n80, p2n80, rfl, rfl⟩ hn80
       refine OA.app2 ?_
       refine OA.op1 (dst := (some 18)) (v := (Pt n80 0 0)) (n1 := (n80 + 1)) (w := (n80, some ⟨[xAc454], 15, 53, true⟩)) rfl rfl rfl rfl (by omega) ?_
       refine OA.op1 (dst := none) (v := (.tuple #[])) (n1 := (n80 + 1)) (w := (n80, some ⟨[(xAc444 nn in80)], 15, 53, true⟩)) rfl rfl rfl (r_store rfl rfl rfl rfl rfl rfl rfl get_here rfl rfl (Nat.le_of_ble_eq_true rfl) rfl) (by omega) ?_
       refine OA.nil ?_
       intro _
       refine RA.weaken (D' := [(n80, some ⟨[(xAc444 nn in80)], 15, 53, true⟩), (bn1, some ⟨[(xAc418 nx nn in80)], 17, 103, true⟩), (in80, some ⟨[[(.int .i64 49157), (.string (bstr (be4 nn)))]], 2, 35, true⟩), ((n63 + 1), some ⟨[[(.int .i64 0)]], 1, 3, true⟩), (n63, some ⟨[xAc454], 15, 53, true⟩), (n61, some ⟨[(xAc441 nn kn61)], 15, 53, true⟩), (kn61, some ⟨[[(.int .i64 5), (.string (bstr (be4 0#32)))], [(.int .i64 49153), (.string (bstr (be4 nn ++ (be2 5 ++ (be2 8 ++ (be4 0#32 ++ []))))))], [(.int .i64 49160), (.string (bstr ((be4 nn ++ be4 3#32) ++ be4 4#32)))]], 2, 35, true⟩), (n1, some ⟨[(xAc452 lt kl)], 15, 53, true⟩), (ka, some ⟨[[(.int .i64 t), (.string u)]], 2, 35, true⟩), (kl, some ⟨[[(.int .i64 t), (.string u)]], 2, 35, true⟩)]) hd (Less.of (fac (mm (fun _ => get_here) (fun _ => get_here)) (fac (mm (fun _ => (get_there (by omega) get_here)) (fun _ => (gt2 (by omega) get_here))) (fac (mm (fun _ => (gt2 (by omega) get_here)) (fun _ => (gt3 (by omega) get_here))) (fac (mm (fun _ => (gt3 (by omega) get_here)) (fun _ => (gt4 (by omega) get_here))) (fac (mm (fun _ => (gt4 (by omega) get_here)) (fun _ => (gt5 (by omega) get_here))) (fac (mm (fun _ => (gt5 (by omega) get_here)) (fun _ => (gt6 (by omega) get_here))) (fac (mm (fun _ => (gt6 (by omega) get_here)) (fun _ => (gt7 (by omega) get_here))) (fac (mm (fun _ => (gt7 (by omega) get_here)) (fun _ => (gt9 (by omega) get_here))) (fac (mm (fun _ => (gt8 (by omega) get_here)) (fun _ => (gt10 (by omega) get_here))) (fac (mm (fun _ => (gt9 (by omega) get_here)) (fun _ => (gt11 (by omega) get_here))) fan)))))))))) (gone_of (by simp only [goneP, memP, List.cons_append, List.nil_append, true_or, or_true, true_and, and_true, or_false] <;> omega))) ?_
       refine RA.seq hd ?_
       refine RA.region env_ok ?_
       refine OA.p (some 105) (W nn) rfl rfl rfl rfl ?_
       refine OA.callP (dst := (some 106)) (all := [(W nn)]) (v := (.string (bstr (be4 nn)))) (hd.of (by omega) (kb10 (by omega))) rfl rfl rfl rfl rfl rfl rfl rfl (aFour nn) ?_
       intro n81 hn81
       refine OA.p (some 107) (.agg ⟨[(.int .i64 49157), (.string (bstr (be4 nn)))]⟩) rfl rfl rfl (by kernel_rfl) ?_
       refine OA.op1 (dst := (some 19)) (v := (Pt n81 0 0)) (n1 := (n81 + 1)) (w := (n81, some ⟨[[(.int .i64 0), (.string ByteArray.empty)]], 2, 35, true⟩)) rfl rfl rfl rfl (by omega) ?_
       refine OA.op1 (dst := none) (v := (.tuple #[])) (n1 := (n81 + 1)) (w := (n81, some ⟨[[(.int .i64 49157), (.string (bstr (be4 nn)))]], 2, 35, true⟩)) rfl rfl rfl (r_store rfl rfl rfl rfl rfl rfl rfl get_here rfl rfl (Nat.le_of_ble_eq_true rfl) rfl) (by omega) ?_
       refine OA.nil ?_
       intro _
       refine RA.weaken (D' := [(n81, some ⟨[[(.int .i64 49157), (.string (bstr (be4 nn)))]], 2, 35, true⟩), (n80, some ⟨[(xAc444 nn in80)], 15, 53, true⟩), (bn1, some ⟨[(xAc418 nx nn in80)], 17, 103, true⟩), (in80, some ⟨[[(.int .i64 49157), (.string (bstr (be4 nn)))]], 2, 35, true⟩), ((n63 + 1), some ⟨[[(.int .i64 0)]], 1, 3, true⟩), (n63, some ⟨[xAc454], 15, 53, true⟩), (n61, some ⟨[(xAc441 nn kn61)], 15, 53, true⟩), (kn61, some ⟨[[(.int .i64 5), (.string (bstr (be4 0#32)))], [(.int .i64 49153), (.string (bstr (be4 nn ++ (be2 5 ++ (be2 8 ++ (be4 0#32 ++ []))))))], [(.int .i64 49160), (.string (bstr ((be4 nn ++ be4 3#32) ++ be4 4#32)))]], 2, 35, true⟩), (n1, some ⟨[(xAc452 lt kl)], 15, 53, true⟩), (ka, some ⟨[[(.int .i64 t), (.string u)]], 2, 35, true⟩), (kl, some ⟨[[(.int .i64 t), (.string u)]], 2, 35, true⟩)]) hd (Less.of (fac (mm (fun _ => get_here) (fun _ => get_here)) (fac (mm (fun _ => (get_there (by omega) get_here)) (fun _ => (gt2 (by omega) get_here))) (fac (mm (fun _ => (gt2 (by omega) get_here)) (fun _ => (gt3 (by omega) get_here))) (fac (mm (fun _ => (gt3 (by omega) get_here)) (fun _ => (gt4 (by omega) get_here))) (fac (mm (fun _ => (gt4 (by omega) get_here)) (fun _ => (gt5 (by omega) get_here))) (fac (mm (fun _ => (gt5 (by omega) get_here)) (fun _ => (gt6 (by omega) get_here))) (fac (mm (fun _ => (gt6 (by omega) get_here)) (fun _ => (gt7 (by omega) get_here))) (fac (mm (fun _ => (gt7 (by omega) get_here)) (fun _ => (gt8 (by omega) get_here))) (fac (mm (fun _ => (gt8 (by omega) get_here)) (fun _ => (gt9 (by omega) get_here))) (fac (mm (fun _ => (gt9 (by omega) get_here)) (fun _ => (gt10 (by omega) get_here))) (fac (mm (fun _ => (gt10 (by omega) get_here)) (fun _ => (gt11 (by omega) get_here))) fan))))))))))) (gone_of (by simp only [goneP, memP, List.cons_append, List.nil_append, true_or, or_true, true_and, and_true, or_false] <;> omega))) ?_
       refine RA.seq hd ?_
       refine RA.seq hd ?_
       refine RA.region env_ok ?_
       refine OA.p (some 108) (.int .i64 0) rfl rfl rfl rfl ?_
       refine OA.p (some 109) (.bool false) rfl rfl rfl (r_bin rfl rfl rfl (b_neq rfl)) ?_
       refine OA.nil ?_
       intro _
       refine RA.condF rfl ?_
       refine RA.skip env_ok ?_
       intro _
       refine RA.seq hd ?_
       refine RA.region env_ok ?_
       refine OA.p (some 117) (W nn) rfl rfl rfl rfl ?_
       refine OA.p (some 118) (.agg ⟨[(.int .i64 49157), (.string (bstr (be4 nn)))]⟩) rfl rfl rfl (r_loadA rfl rfl rfl rfl get_here rfl rfl rfl) ?_
       refine OA.op1 (dst := (some 119)) (v := (.slice (some ⟨(n81 + 1), 0, none⟩) 1 0)) (n1 := (n81 + 2)) (w := ((n81 + 1), some ⟨[[(.int .i64 49157), (.string (bstr (be4 nn)))]], 2, 35, true⟩)) rfl rfl rfl (by kernel_rfl) (by omega) ?_
       refine OA.p (some 120) (.agg ⟨(xAc430 nn n81)⟩) rfl rfl rfl (by kernel_rfl) ?_
       refine OA.op1 (dst := none) (v := (.tuple #[])) (n1 := (n81 + 2)) (w := (n1, some ⟨[(xAc430 nn n81)], 15, 53, true⟩)) rfl rfl rfl (r_store rfl rfl rfl rfl rfl rfl rfl (gt9 (by omega) get_here) rfl rfl (Nat.le_of_ble_eq_true rfl) rfl) (by omega) ?_
       refine OA.p (some 10) (.bool true) rfl rfl rfl rfl ?_
       refine OA.nil ?_
       intro _
       refine RA.weaken (D' := [(n1, some ⟨[(xAc430 nn n81)], 15, 53, true⟩), ((n81 + 1), some ⟨[[(.int .i64 49157), (.string (bstr (be4 nn)))]], 2, 35, true⟩), (n81, some ⟨[[(.int .i64 49157), (.string (bstr (be4 nn)))]], 2, 35, true⟩), (n80, some ⟨[(xAc444 nn in80)], 15, 53, true⟩), (bn1, some ⟨[(xAc418 nx nn in80)], 17, 103, true⟩), (in80, some ⟨[[(.int .i64 49157), (.string (bstr (be4 nn)))]], 2, 35, true⟩), ((n63 + 1), some ⟨[[(.int .i64 0)]], 1, 3, true⟩), (n63, some ⟨[xAc454], 15, 53, true⟩), (n61, some ⟨[(xAc441 nn kn61)], 15, 53, true⟩), (kn61, some ⟨[[(.int .i64 5), (.string (bstr (be4 0#32)))], [(.int .i64 49153), (.string (bstr (be4 nn ++ (be2 5 ++ (be2 8 ++ (be4 0#32 ++ []))))))], [(.int .i64 49160), (.string (bstr ((be4 nn ++ be4 3#32) ++ be4 4#32)))]], 2, 35, true⟩), (ka, some ⟨[[(.int .i64 t), (.string u)]], 2, 35, true⟩), (kl, some ⟨[[(.int .i64 t), (.string u)]], 2, 35, true⟩)]) hd (Less.of (fac (mm (fun _ => get_here) (fun _ => get_here)) (fac (mm (fun _ => (get_there (by omega) get_here)) (fun _ => (get_there (by omega) get_here))) (fac (mm (fun _ => (gt2 (by omega) get_here)) (fun _ => (gt2 (by omega) get_here))) (fac (mm (fun _ => (gt3 (by omega) get_here)) (fun _ => (gt3 (by omega) get_here))) (fac (mm (fun _ => (gt4 (by omega) get_here)) (fun _ => (gt4 (by omega) get_here))) (fac (mm (fun _ => (gt5 (by omega) get_here)) (fun _ => (gt5 (by omega) get_here))) (fac (mm (fun _ => (gt6 (by omega) get_here)) (fun _ => (gt6 (by omega) get_here))) (fac (mm (fun _ => (gt7 (by omega) get_here)) (fun _ => (gt7 (by omega) get_here))) (fac (mm (fun _ => (gt8 (by omega) get_here)) (fun _ => (gt8 (by omega) get_here))) (fac (mm (fun _ => (gt9 (by omega) get_here)) (fun _ => (gt9 (by omega) get_here))) (fac (mm (fun _ => (gt10 (by omega) get_here)) (fun _ => (gt11 (by omega) get_here))) (fac (mm (fun _ => (gt11 (by omega) get_here)) (fun _ => (gt12 (by omega) get_here))) fan)))))))))))) (gone_of (by simp only [goneP, memP, List.cons_append, List.nil_append, true_or, or_true, true_and, and_true, or_false] <;> omega))) ?_
       refine RA.rebase [(1, lv), (2, wv), (7, (Pt bn1 0 0)), (8, (W nx)), (9, (Pt n1 0 0)), (10, (.bool true)), (11, (.int .i64 ((i : Nat) : Int))), (12, (W nn)), (13, (Pt n61 0 0)), (14, (.bool true)), (15, (Pt n63 0 0)), (16, (.bool false)), (17, (.int .i64 0)), (18, (Pt n80 0 0)), (19, (Pt n81 0 0)), (33, (.bool true)), (86, (.bool false)), (88, (.bool false)), (91, (.bool false)), (109, (.bool false))] ⟨rfl, rfl, rfl, rfl, rfl, rfl, rfl, rfl, rfl, rfl, rfl, rfl, rfl, rfl, rfl, rfl, rfl, rfl, rfl, rfl, trivial⟩ (fun τr82 => ?_)
       refine RA.seq hd ?_
       refine RA.seq hd ?_
       refine RA.region env_ok ?_
       refine OA.p (some 121) (.agg ⟨(xAc444 nn in80)⟩) rfl rfl rfl (r_loadA rfl rfl rfl rfl (gt3 (by omega) get_here) rfl rfl rfl) ?_
       refine OA.p (some 122) (.agg ⟨(xAc430 nn n81)⟩) rfl rfl rfl (r_loadA rfl rfl rfl rfl get_here rfl rfl rfl) ?_
       refine OA.callP (dst := (some 123)) (all := [(.agg ⟨(xAc444 nn in80)⟩), (.agg ⟨(xAc430 nn n81)⟩)]) (v := (.bool true)) (hd.of (by omega) (kb12 (by omega))) rfl rfl rfl rfl rfl rfl rfl rfl (aSame nn in80 (n81 + 1) (49157) (bstr (be4 nn)) (gt5 (by omega) get_here) (get_there (by omega) get_here)) ?_
       intro n83 hn83
       refine OA.p (some 124) (.bool false) rfl rfl rfl rfl ?_
       refine OA.p (some 125) (.bool false) rfl rfl rfl rfl ?_
       refine OA.p (some 126) (.agg ⟨(xAc441 nn kn61)⟩) rfl rfl rfl (r_loadA rfl rfl rfl rfl (gt8 (by omega) get_here) rfl rfl rfl) ?_
       refine OA.call (dst := (some 127)) (all := [(.agg ⟨(xAc441 nn kn61)⟩)]) rfl rfl rfl rfl rfl rfl rfl rfl (CQ.imp (aAsked49153 (hd.of (by omega) (kb12 (by omega))) nn kn61 (gt9 (by omega) get_here)) ?_)
       rintro _ n84 _ ⟨in84, p1n84, p2n84, rfl, rfl⟩ hn84
       refine OA.app1 ?_
       refine OA.p (some 128) (.int .i64 1) rfl rfl rfl rfl ?_
       refine OA.p (some 129) (.bool false) rfl rfl rfl (r_bin rfl rfl rfl (b_neq rfl)) ?_
       refine OA.p (some 130) (.bool false) rfl rfl rfl rfl ?_
       refine OA.nil ?_
       intro _
       refine RA.condF rfl ?_
       refine RA.skip env_ok ?_
       intro _
       refine RA.region env_ok ?_
       refine OA.p (some 131) (W nx) rfl rfl rfl rfl ?_
       refine OA.p (some 132) (W (nx + (1#32))) rfl rfl rfl (r_bin rfl rfl rfl (b_addW nx (1#32))) ?_
       refine OA.p (some 8) (W (nx + (1#32))) rfl rfl rfl rfl ?_
       refine OA.nil ?_
       intro _
       refine RA.region env_ok ?_
       refine OA.p (some 34) (.int .i64 ((i : Nat) : Int)) rfl rfl rfl rfl ?_
       refine OA.p (some 35) (.int .i64 (((i + 1) : Nat) : Int)) rfl rfl rfl (r_bin rfl rfl rfl (b_add (i64_eq (by omega)))) ?_
       refine OA.p (some 11) (.int .i64 (((i + 1) : Nat) : Int)) rfl rfl rfl rfl ?_
       refine OA.nil ?_
       refine ⟨(ls.length - (i + 1)), by omega, [(bn1, some ⟨[(xAc418 nx nn in80)], 17, 103, true⟩), (n1, some ⟨[(xAc430 nn n81)], 15, 53, true⟩), (in80, some ⟨[[(.int .i64 49157), (.string (bstr (be4 nn)))]], 2, 35, true⟩), ((n81 + 1), some ⟨[[(.int .i64 49157), (.string (bstr (be4 nn)))]], 2, 35, true⟩)], (Less.of (fac (mm (fun _ => get_here) (fun _ => (gt5 (by omega) get_here))) (fac (mm (fun _ => (get_there (by omega) get_here)) (fun _ => (get_there (by omega) get_here))) (fac (mm (fun _ => (gt2 (by omega) get_here)) (fun _ => (gt6 (by omega) get_here))) (fac (mm (fun _ => (gt3 (by omega) get_here)) (fun _ => (gt2 (by omega) get_here))) fan)))) (gone_of (by simp only [goneP, memP, List.cons_append, List.nil_append, true_or, or_true, true_and, and_true, or_false] <;> omega))), .inr (⟨(i + 1), (nx + (1#32)), nn, in80, (n81 + 1), (49157), (bstr (be4 nn)), rfl, by omega, ⟨rfl, rfl, rfl, rfl, rfl, rfl, rfl, trivial⟩, rfl, (kb4 (by omega)), ⟨by omega, (by rw [w_eq hc13, BitVec.add_sub_cancel]), by omega, by omega, by omega⟩⟩)⟩
     ·
      by_cases hc16 : (nn.toNat : Int) = (lt.toNat : Int)
      ·
       refine OA.callP (dst := (some 58)) (all := (xAc45 bn1 nn kn61)) (v := (.tuple ⟨(xAc47 lt ka)⟩)) (hd.of (by omega) (kb6 (by omega))) rfl rfl rfl rfl rfl rfl rfl rfl (aTakeOT nn nx lt bn1 kn61 ka hc13 hc16 (gt2 (by omega) get_here)) ?_
       intro n85 hn85
       refine OA.p (some 55) (.tuple ⟨(xAc47 lt ka)⟩) rfl rfl rfl rfl ?_
       refine OA.p (some 59) (.bool false) rfl rfl rfl rfl ?_
       refine OA.p (some 60) (.agg ⟨(xAc453 lt ka)⟩) rfl rfl rfl rfl ?_
       refine OA.p (some 61) (.bool true) rfl rfl rfl rfl ?_
       refine OA.op1 (dst := (some 15)) (v := (Pt n85 0 0)) (n1 := (n85 + 1)) (w := (n85, some ⟨[xAc454], 15, 53, true⟩)) rfl rfl rfl rfl (by omega) ?_
       refine OA.p (some 14) (.bool false) rfl rfl rfl rfl ?_
       refine OA.op1 (dst := none) (v := (.tuple #[])) (n1 := (n85 + 1)) (w := (n85, some ⟨[(xAc453 lt ka)], 15, 53, true⟩)) rfl rfl rfl (r_store rfl rfl rfl rfl rfl rfl rfl get_here rfl rfl (Nat.le_of_ble_eq_true rfl) rfl) (by omega) ?_
       refine OA.p (some 16) (.bool true) rfl rfl rfl rfl ?_
       refine OA.nil ?_
       intro _
       refine RA.weaken (D' := [(n85, some ⟨[(xAc453 lt ka)], 15, 53, true⟩), (n61, some ⟨[(xAc441 nn kn61)], 15, 53, true⟩), (kn61, some ⟨[[(.int .i64 5), (.string (bstr (be4 0#32)))], [(.int .i64 49153), (.string (bstr (be4 nn ++ (be2 5 ++ (be2 8 ++ (be4 0#32 ++ []))))))], [(.int .i64 49160), (.string (bstr ((be4 nn ++ be4 3#32) ++ be4 4#32)))]], 2, 35, true⟩), (bn1, some ⟨[(xAc422 nx lt ka)], 17, 103, true⟩), (n1, some ⟨[(xAc452 lt kl)], 15, 53, true⟩), (ka, some ⟨[[(.int .i64 t), (.string u)]], 2, 35, true⟩), (kl, some ⟨[[(.int .i64 t), (.string u)]], 2, 35, true⟩)]) hd (Less.of (fac (mm (fun _ => get_here) (fun _ => get_here)) (fac (mm (fun _ => (get_there (by omega) get_here)) (fun _ => (gt2 (by omega) get_here))) (fac (mm (fun _ => (gt2 (by omega) get_here)) (fun _ => (gt3 (by omega) get_here))) (fac (mm (fun _ => (gt3 (by omega) get_here)) (fun _ => (gt4 (by omega) get_here))) (fac (mm (fun _ => (gt4 (by omega) get_here)) (fun _ => (gt5 (by omega) get_here))) (fac (mm (fun _ => (gt5 (by omega) get_here)) (fun _ => (gt6 (by omega) get_here))) (fac (mm (fun _ => (gt6 (by omega) get_here)) (fun _ => (gt7 (by omega) get_here))) fan))))))) (gone_of (by simp only [goneP, memP, List.cons_append, List.nil_append, true_or, or_true, true_and, and_true, or_false] <;> omega))) ?_
       refine RA.seq hd ?_
       refine RA.seq hd ?_
       refine RA.region env_ok ?_
       refine OA.p (some 62) (.bool false) rfl rfl rfl rfl ?_
       refine OA.p (some 63) (W nn) rfl rfl rfl rfl ?_
       refine OA.p (some 64) (W nx) rfl rfl rfl rfl ?_
       refine OA.p (some 65) (.bool false) rfl rfl rfl (Eq.trans (r_bin rfl rfl rfl (b_eql rfl)) (dF hc13)) ?_
       refine OA.p (some 66) (.bool false) rfl rfl rfl rfl ?_
       refine OA.p (some 67) (.bool false) rfl rfl rfl rfl ?_
       refine OA.p (some 68) (.bool true) rfl rfl rfl rfl ?_
       refine OA.p (some 69) (.bool true) rfl rfl rfl rfl ?_
       refine OA.p (some 70) (.bool true) rfl rfl rfl rfl ?_
       refine OA.p (some 71) (W nn) rfl rfl rfl rfl ?_
       refine OA.p (some 72) (W nx) rfl rfl rfl rfl ?_
       refine OA.p (some 73) (W (nx - (1#32))) rfl rfl rfl (r_bin rfl rfl rfl (b_subW nx (1#32))) ?_
       refine OA.p (some 74) (.bool true) rfl rfl rfl (r_bin rfl rfl rfl (b_eql (decide_eq_true (by rw [← hlt]; exact hc16)))) ?_
       refine OA.p (some 75) (.bool true) rfl rfl rfl rfl ?_
       refine OA.p (some 76) (.bool false) rfl rfl rfl rfl ?_
       refine OA.p (some 77) (.bool false) rfl rfl rfl rfl ?_
       refine OA.p (some 78) (.bool false) rfl rfl rfl rfl ?_
       refine OA.p (some 79) (.bool true) rfl rfl rfl rfl ?_
       refine OA.p (some 80) (.bool true) rfl rfl rfl rfl ?_
       refine OA.p (some 81) (.agg ⟨(xAc453 lt ka)⟩) rfl rfl rfl (r_loadA rfl rfl rfl rfl get_here rfl rfl rfl) ?_
       refine OA.p (some 82) (.agg ⟨(xAc452 lt kl)⟩) rfl rfl rfl (r_loadA rfl rfl rfl rfl (gt4 (by omega) get_here) rfl rfl rfl) ?_
       refine OA.callP (dst := (some 83)) (all := [(.agg ⟨(xAc453 lt ka)⟩), (.agg ⟨(xAc452 lt kl)⟩)]) (v := (.bool true)) (hd.of (by omega) (kb7 (by omega))) rfl rfl rfl rfl rfl rfl rfl rfl (aSame lt ka kl (t) u (gt5 (by omega) get_here) (gt6 (by omega) get_here)) ?_
       intro n86 hn86
       refine OA.p (some 84) (.bool false) rfl rfl rfl rfl ?_
       refine OA.p (some 85) (.bool false) rfl rfl rfl rfl ?_
       refine OA.p (some 86) (.bool false) rfl rfl rfl rfl ?_
       refine OA.nil ?_
       intro _
       refine RA.rebase [(1, lv), (2, wv), (7, (Pt bn1 0 0)), (8, (W nx)), (9, (Pt n1 0 0)), (10, (.bool true)), (11, (.int .i64 ((i : Nat) : Int))), (12, (W nn)), (13, (Pt n61 0 0)), (14, (.bool false)), (15, (Pt n85 0 0)), (16, (.bool true)), (33, (.bool true)), (86, (.bool false))] ⟨rfl, rfl, rfl, rfl, rfl, rfl, rfl, rfl, rfl, rfl, rfl, rfl, rfl, rfl, trivial⟩ (fun τr87 => ?_)
       refine RA.condF rfl ?_
       refine RA.skip env_ok ?_
       intro _
       refine RA.seq hd ?_
       refine RA.seq hd ?_
       refine RA.region env_ok ?_
       refine OA.p (some 87) (.bool false) rfl rfl rfl rfl ?_
       refine OA.p (some 88) (.bool true) rfl rfl rfl rfl ?_
       refine OA.nil ?_
       intro _
       refine RA.condT rfl ?_
       refine RA.exit env_ok ?_
       intro _
       refine RA.region env_ok ?_
       refine OA.p (some 34) (.int .i64 ((i : Nat) : Int)) rfl rfl rfl rfl ?_
       refine OA.p (some 35) (.int .i64 (((i + 1) : Nat) : Int)) rfl rfl rfl (r_bin rfl rfl rfl (b_add (i64_eq (by omega)))) ?_
       refine OA.p (some 11) (.int .i64 (((i + 1) : Nat) : Int)) rfl rfl rfl rfl ?_
       refine OA.nil ?_
       refine ⟨(ls.length - (i + 1)), by omega, [(bn1, some ⟨[(xAc422 nx lt ka)], 17, 103, true⟩), (n1, some ⟨[(xAc452 lt kl)], 15, 53, true⟩), (ka, some ⟨[[(.int .i64 t), (.string u)]], 2, 35, true⟩), (kl, some ⟨[[(.int .i64 t), (.string u)]], 2, 35, true⟩)], (Less.of (fac (mm (fun _ => get_here) (fun _ => (gt3 (by omega) get_here))) (fac (mm (fun _ => (get_there (by omega) get_here)) (fun _ => (gt4 (by omega) get_here))) (fac (mm (fun _ => (gt2 (by omega) get_here)) (fun _ => (gt5 (by omega) get_here))) (fac (mm (fun _ => (gt3 (by omega) get_here)) (fun _ => (gt6 (by omega) get_here))) fan)))) (gone_of (by simp only [goneP, memP, List.cons_append, List.nil_append, true_or, or_true, true_and, and_true, or_false] <;> omega))), .inr (⟨(i + 1), nx, lt, ka, kl, t, u, rfl, by omega, ⟨rfl, rfl, rfl, rfl, rfl, rfl, rfl, trivial⟩, rfl, (kb4 (by omega)), ⟨by omega, hlt, by omega, by omega, by omega⟩⟩)⟩
      ·
       refine OA.callP (dst := (some 58)) (all := (xAc45 bn1 nn kn61)) (v := (.tuple ⟨xAc420⟩)) (hd.of (by omega) (kb6 (by omega))) rfl rfl rfl rfl rfl rfl rfl rfl (aTakeFT nn nx lt bn1 kn61 ka hc13 hc16 (gt2 (by omega) get_here)) ?_
       intro n88 hn88
       refine OA.p (some 55) (.tuple ⟨xAc420⟩) rfl rfl rfl rfl ?_
       refine OA.p (some 59) (.bool false) rfl rfl rfl rfl ?_
       refine OA.p (some 60) (.agg ⟨xAc454⟩) rfl rfl rfl rfl ?_
       refine OA.p (some 61) (.bool false) rfl rfl rfl rfl ?_
       refine OA.op1 (dst := (some 15)) (v := (Pt n88 0 0)) (n1 := (n88 + 1)) (w := (n88, some ⟨[xAc454], 15, 53, true⟩)) rfl rfl rfl rfl (by omega) ?_
       refine OA.p (some 14) (.bool false) rfl rfl rfl rfl ?_
       refine OA.op1 (dst := none) (v := (.tuple #[])) (n1 := (n88 + 1)) (w := (n88, some ⟨[xAc454], 15, 53, true⟩)) rfl rfl rfl (r_store rfl rfl rfl rfl rfl rfl rfl get_here rfl rfl (Nat.le_of_ble_eq_true rfl) rfl) (by omega) ?_
       refine OA.p (some 16) (.bool false) rfl rfl rfl rfl ?_
       refine OA.nil ?_
       intro _
       refine RA.weaken (D' := [(n88, some ⟨[xAc454], 15, 53, true⟩), (n61, some ⟨[(xAc441 nn kn61)], 15, 53, true⟩), (kn61, some ⟨[[(.int .i64 5), (.string (bstr (be4 0#32)))], [(.int .i64 49153), (.string (bstr (be4 nn ++ (be2 5 ++ (be2 8 ++ (be4 0#32 ++ []))))))], [(.int .i64 49160), (.string (bstr ((be4 nn ++ be4 3#32) ++ be4 4#32)))]], 2, 35, true⟩), (bn1, some ⟨[(xAc422 nx lt ka)], 17, 103, true⟩), (n1, some ⟨[(xAc452 lt kl)], 15, 53, true⟩), (ka, some ⟨[[(.int .i64 t), (.string u)]], 2, 35, true⟩), (kl, some ⟨[[(.int .i64 t), (.string u)]], 2, 35, true⟩)]) hd (Less.of (fac (mm (fun _ => get_here) (fun _ => get_here)) (fac (mm (fun _ => (get_there (by omega) get_here)) (fun _ => (gt2 (by omega) get_here))) (fac (mm (fun _ => (gt2 (by omega) get_here)) (fun _ => (gt3 (by omega) get_here))) (fac (mm (fun _ => (gt3 (by omega) get_here)) (fun _ => (gt4 (by omega) get_here))) (fac (mm (fun _ => (gt4 (by omega) get_here)) (fun _ => (gt5 (by omega) get_here))) (fac (mm (fun _ => (gt5 (by omega) get_here)) (fun _ => (gt6 (by omega) get_here))) (fac (mm (fun _ => (gt6 (by omega) get_here)) (fun _ => (gt7 (by omega) get_here))) fan))))))) (gone_of (by simp only [goneP, memP, List.cons_append, List.nil_append, true_or, or_true, true_and, and_true, or_false] <;> omega))) ?_
       refine RA.seq hd ?_
       refine RA.seq hd ?_
       refine RA.region env_ok ?_
       refine OA.p (some 62) (.bool false) rfl rfl rfl rfl ?_
       refine OA.p (some 63) (W nn) rfl rfl rfl rfl ?_
       refine OA.p (some 64) (W nx) rfl rfl rfl rfl ?_
       refine OA.p (some 65) (.bool false) rfl rfl rfl (Eq.trans (r_bin rfl rfl rfl (b_eql rfl)) (dF hc13)) ?_
       refine OA.p (some 66) (.bool false) rfl rfl rfl rfl ?_
       refine OA.p (some 67) (.bool false) rfl rfl rfl rfl ?_
       refine OA.p (some 68) (.bool false) rfl rfl rfl rfl ?_
       refine OA.p (some 69) (.bool true) rfl rfl rfl rfl ?_
       refine OA.p (some 70) (.bool true) rfl rfl rfl rfl ?_
       refine OA.p (some 71) (W nn) rfl rfl rfl rfl ?_
       refine OA.p (some 72) (W nx) rfl rfl rfl rfl ?_
       refine OA.p (some 73) (W (nx - (1#32))) rfl rfl rfl (r_bin rfl rfl rfl (b_subW nx (1#32))) ?_
       refine OA.p (some 74) (.bool false) rfl rfl rfl (r_bin rfl rfl rfl (b_eql (decide_eq_false (by rw [← hlt]; exact hc16)))) ?_
       refine OA.p (some 75) (.bool false) rfl rfl rfl rfl ?_
       refine OA.p (some 76) (.bool false) rfl rfl rfl rfl ?_
       refine OA.p (some 77) (.bool false) rfl rfl rfl rfl ?_
       refine OA.p (some 78) (.bool false) rfl rfl rfl rfl ?_
       refine OA.p (some 79) (.bool false) rfl rfl rfl rfl ?_
       refine OA.p (some 80) (.bool false) rfl rfl rfl rfl ?_
       refine OA.off (dst := (some 81)) rfl rfl rfl ?_
       refine OA.off (dst := (some 82)) rfl rfl rfl ?_
       refine OA.off (dst := (some 83)) rfl rfl rfl ?_
       refine OA.off (dst := (some 84)) rfl rfl rfl ?_
       refine OA.p (some 85) (.bool false) rfl rfl rfl rfl ?_
       refine OA.p (some 86) (.bool false) rfl rfl rfl rfl ?_
       refine OA.nil ?_
       intro _
       refine RA.rebase [(1, lv), (2, wv), (7, (Pt bn1 0 0)), (8, (W nx)), (9, (Pt n1 0 0)), (10, (.bool true)), (11, (.int .i64 ((i : Nat) : Int))), (12, (W nn)), (13, (Pt n61 0 0)), (14, (.bool false)), (15, (Pt n88 0 0)), (16, (.bool false)), (33, (.bool true)), (86, (.bool false))] ⟨rfl, rfl, rfl, rfl, rfl, rfl, rfl, rfl, rfl, rfl, rfl, rfl, rfl, rfl, trivial⟩ (fun τr89 => ?_)
       refine RA.condF rfl ?_
       refine RA.skip env_ok ?_
       intro _
       refine RA.seq hd ?_
       refine RA.seq hd ?_
       refine RA.region env_ok ?_
       refine OA.p (some 87) (.bool false) rfl rfl rfl rfl ?_
       refine OA.p (some 88) (.bool true) rfl rfl rfl rfl ?_
       refine OA.nil ?_
       intro _
       refine RA.condT rfl ?_
       refine RA.exit env_ok ?_
       intro _
       refine RA.region env_ok ?_
       refine OA.p (some 34) (.int .i64 ((i : Nat) : Int)) rfl rfl rfl rfl ?_
       refine OA.p (some 35) (.int .i64 (((i + 1) : Nat) : Int)) rfl rfl rfl (r_bin rfl rfl rfl (b_add (i64_eq (by omega)))) ?_
       refine OA.p (some 11) (.int .i64 (((i + 1) : Nat) : Int)) rfl rfl rfl rfl ?_
       refine OA.nil ?_
       refine ⟨(ls.length - (i + 1)), by omega, [(bn1, some ⟨[(xAc422 nx lt ka)], 17, 103, true⟩), (n1, some ⟨[(xAc452 lt kl)], 15, 53, true⟩), (ka, some ⟨[[(.int .i64 t), (.string u)]], 2, 35, true⟩), (kl, some ⟨[[(.int .i64 t), (.string u)]], 2, 35, true⟩)], (Less.of (fac (mm (fun _ => get_here) (fun _ => (gt3 (by omega) get_here))) (fac (mm (fun _ => (get_there (by omega) get_here)) (fun _ => (gt4 (by omega) get_here))) (fac (mm (fun _ => (gt2 (by omega) get_here)) (fun _ => (gt5 (by omega) get_here))) (fac (mm (fun _ => (gt3 (by omega) get_here)) (fun _ => (gt6 (by omega) get_here))) fan)))) (gone_of (by simp only [goneP, memP, List.cons_append, List.nil_append, true_or, or_true, true_and, and_true, or_false] <;> omega))), .inr (⟨(i + 1), nx, lt, ka, kl, t, u, rfl, by omega, ⟨rfl, rfl, rfl, rfl, rfl, rfl, rfl, trivial⟩, rfl, (kb4 (by omega)), ⟨by omega, hlt, by omega, by omega, by omega⟩⟩)⟩
    ·
     refine OA.callP (dst := (some 53)) (all := [(.agg ⟨(xAc456 ls i)⟩)]) (v := (.agg ⟨[(.int .i64 49154), (.int .u32 0), (.int .u32 0)]⟩)) (hd.of (by omega) (kb4 (by omega))) rfl rfl rfl rfl rfl rfl rfl rfl (aKindZ1 (andN (Int.tmod (ls.getD i dI1).z 3) 1) (by omega)) ?_
     intro n90 hn90
     refine OA.call (dst := (some 54)) (all := [(W nn), (.agg ⟨[(.int .i64 49154), (.int .u32 0), (.int .u32 0)]⟩), (.int .u32 3), (.int .u32 4)]) rfl rfl rfl rfl rfl rfl rfl rfl (CQ.imp (aChunk49154 (hd.of (by omega) (kb4 (by omega))) nn) ?_)
     rintro _ n91 _ ⟨kn91, p1n91, p2n91, rfl, rfl⟩ hn91
     refine OA.app1 ?_
     refine OA.op1 (dst := (some 13)) (v := (Pt n91 0 0)) (n1 := (n91 + 1)) (w := (n91, some ⟨[xAc454], 15, 53, true⟩)) rfl rfl rfl rfl (by omega) ?_
     refine OA.op1 (dst := none) (v := (.tuple #[])) (n1 := (n91 + 1)) (w := (n91, some ⟨[(xAc445 nn kn91)], 15, 53, true⟩)) rfl rfl rfl (r_store rfl rfl rfl rfl rfl rfl rfl get_here rfl rfl (Nat.le_of_ble_eq_true rfl) rfl) (by omega) ?_
     refine OA.nil ?_
     intro _
     refine RA.weaken (D' := [(n91, some ⟨[(xAc445 nn kn91)], 15, 53, true⟩), (kn91, some ⟨[[(.int .i64 5), (.string (bstr (be4 0#32)))], [(.int .i64 49154), (.string (bstr (be4 nn ++ (be2 5 ++ (be2 8 ++ (be4 0#32 ++ []))))))], [(.int .i64 49160), (.string (bstr ((be4 nn ++ be4 3#32) ++ be4 4#32)))]], 2, 35, true⟩), (bn1, some ⟨[(xAc422 nx lt ka)], 17, 103, true⟩), (n1, some ⟨[(xAc452 lt kl)], 15, 53, true⟩), (ka, some ⟨[[(.int .i64 t), (.string u)]], 2, 35, true⟩), (kl, some ⟨[[(.int .i64 t), (.string u)]], 2, 35, true⟩)]) hd (Less.of (fac (mm (fun _ => get_here) (fun _ => get_here)) (fac (mm (fun _ => (get_there (by omega) get_here)) (fun _ => (gt2 (by omega) get_here))) (fac (mm (fun _ => (gt2 (by omega) get_here)) (fun _ => (gt3 (by omega) get_here))) (fac (mm (fun _ => (gt3 (by omega) get_here)) (fun _ => (gt4 (by omega) get_here))) (fac (mm (fun _ => (gt4 (by omega) get_here)) (fun _ => (gt5 (by omega) get_here))) (fac (mm (fun _ => (gt5 (by omega) get_here)) (fun _ => (gt6 (by omega) get_here))) fan)))))) (gone_of (by simp only [goneP, memP, List.cons_append, List.nil_append, true_or, or_true, true_and, and_true, or_false] <;> omega))) ?_
     refine RA.rebase [(1, lv), (2, wv), (7, (Pt bn1 0 0)), (8, (W nx)), (9, (Pt n1 0 0)), (10, (.bool true)), (11, (.int .i64 ((i : Nat) : Int))), (12, (W nn)), (13, (Pt n91 0 0)), (33, (.bool true))] ⟨rfl, rfl, rfl, rfl, rfl, rfl, rfl, rfl, rfl, rfl, trivial⟩ (fun τr92 => ?_)
     refine RA.seq hd ?_
     refine RA.region env_ok ?_
     refine OA.p (some 56) (Pt bn1 0 0) rfl rfl rfl rfl ?_
     refine OA.p (some 57) (.agg ⟨(xAc445 nn kn91)⟩) rfl rfl rfl (r_loadA rfl rfl rfl rfl get_here rfl rfl rfl) ?_
     by_cases hc17 : (nn.toNat : Int) = (nx.toNat : Int)
     ·
      refine OA.callP (dst := (some 58)) (all := (xAc46 bn1 nn kn91)) (v := (.tuple ⟨xAc421⟩)) (hd.of (by omega) (kb6 (by omega))) rfl rfl rfl rfl rfl rfl rfl rfl (aTakeNT nn nx lt bn1 kn91 ka hc17 (gt2 (by omega) get_here)) ?_
      intro n93 hn93
      refine OA.p (some 55) (.tuple ⟨xAc421⟩) rfl rfl rfl rfl ?_
      refine OA.p (some 59) (.bool true) rfl rfl rfl rfl ?_
      refine OA.p (some 60) (.agg ⟨xAc454⟩) rfl rfl rfl rfl ?_
      refine OA.p (some 61) (.bool false) rfl rfl rfl rfl ?_
      refine OA.op1 (dst := (some 15)) (v := (Pt n93 0 0)) (n1 := (n93 + 1)) (w := (n93, some ⟨[xAc454], 15, 53, true⟩)) rfl rfl rfl rfl (by omega) ?_
      refine OA.p (some 14) (.bool true) rfl rfl rfl rfl ?_
      refine OA.op1 (dst := none) (v := (.tuple #[])) (n1 := (n93 + 1)) (w := (n93, some ⟨[xAc454], 15, 53, true⟩)) rfl rfl rfl (r_store rfl rfl rfl rfl rfl rfl rfl get_here rfl rfl (Nat.le_of_ble_eq_true rfl) rfl) (by omega) ?_
      refine OA.p (some 16) (.bool false) rfl rfl rfl rfl ?_
      refine OA.nil ?_
      intro _
      refine RA.weaken (D' := [(n93, some ⟨[xAc454], 15, 53, true⟩), (n91, some ⟨[(xAc445 nn kn91)], 15, 53, true⟩), (kn91, some ⟨[[(.int .i64 5), (.string (bstr (be4 0#32)))], [(.int .i64 49154), (.string (bstr (be4 nn ++ (be2 5 ++ (be2 8 ++ (be4 0#32 ++ []))))))], [(.int .i64 49160), (.string (bstr ((be4 nn ++ be4 3#32) ++ be4 4#32)))]], 2, 35, true⟩), (bn1, some ⟨[(xAc422 nx lt ka)], 17, 103, true⟩), (n1, some ⟨[(xAc452 lt kl)], 15, 53, true⟩), (ka, some ⟨[[(.int .i64 t), (.string u)]], 2, 35, true⟩), (kl, some ⟨[[(.int .i64 t), (.string u)]], 2, 35, true⟩)]) hd (Less.of (fac (mm (fun _ => get_here) (fun _ => get_here)) (fac (mm (fun _ => (get_there (by omega) get_here)) (fun _ => (gt2 (by omega) get_here))) (fac (mm (fun _ => (gt2 (by omega) get_here)) (fun _ => (gt3 (by omega) get_here))) (fac (mm (fun _ => (gt3 (by omega) get_here)) (fun _ => (gt4 (by omega) get_here))) (fac (mm (fun _ => (gt4 (by omega) get_here)) (fun _ => (gt5 (by omega) get_here))) (fac (mm (fun _ => (gt5 (by omega) get_here)) (fun _ => (gt6 (by omega) get_here))) (fac (mm (fun _ => (gt6 (by omega) get_here)) (fun _ => (gt7 (by omega) get_here))) fan))))))) (gone_of (by simp only [goneP, memP, List.cons_append, List.nil_append, true_or, or_true, true_and, and_true, or_false] <;> omega))) ?_
      refine RA.seq hd ?_
      refine RA.seq hd ?_
      refine RA.region env_ok ?_
      refine OA.p (some 62) (.bool true) rfl rfl rfl rfl ?_
      refine OA.p (some 63) (W nn) rfl rfl rfl rfl ?_
      refine OA.p (some 64) (W nx) rfl rfl rfl rfl ?_
      refine OA.p (some 65) (.bool true) rfl rfl rfl (Eq.trans (r_bin rfl rfl rfl (b_eql rfl)) (dT hc17)) ?_
      refine OA.p (some 66) (.bool false) rfl rfl rfl rfl ?_
      refine OA.p (some 67) (.bool false) rfl rfl rfl rfl ?_
      refine OA.p (some 68) (.bool false) rfl rfl rfl rfl ?_
      refine OA.p (some 69) (.bool true) rfl rfl rfl rfl ?_
      refine OA.p (some 70) (.bool true) rfl rfl rfl rfl ?_
      refine OA.p (some 71) (W nn) rfl rfl rfl rfl ?_
      refine OA.p (some 72) (W nx) rfl rfl rfl rfl ?_
      refine OA.p (some 73) (W (nx - (1#32))) rfl rfl rfl (r_bin rfl rfl rfl (b_subW nx (1#32))) ?_
      refine OA.p (some 74) (.bool false) rfl rfl rfl (r_bin rfl rfl rfl (b_eql (decide_eq_false (fun hh => w_ne nx (hc17.symm.trans hh))))) ?_
      refine OA.p (some 75) (.bool false) rfl rfl rfl rfl ?_
      refine OA.p (some 76) (.bool false) rfl rfl rfl rfl ?_
      refine OA.p (some 77) (.bool false) rfl rfl rfl rfl ?_
      refine OA.p (some 78) (.bool false) rfl rfl rfl rfl ?_
      refine OA.p (some 79) (.bool false) rfl rfl rfl rfl ?_
      refine OA.p (some 80) (.bool false) rfl rfl rfl rfl ?_
      refine OA.off (dst := (some 81)) rfl rfl rfl ?_
      refine OA.off (dst := (some 82)) rfl rfl rfl ?_
      refine OA.off (dst := (some 83)) rfl rfl rfl ?_
      refine OA.off (dst := (some 84)) rfl rfl rfl ?_
      refine OA.p (some 85) (.bool false) rfl rfl rfl rfl ?_
      refine OA.p (some 86) (.bool false) rfl rfl rfl rfl ?_
      refine OA.nil ?_
      intro _
      refine RA.rebase [(1, lv), (2, wv), (7, (Pt bn1 0 0)), (8, (W nx)), (9, (Pt n1 0 0)), (10, (.bool true)), (11, (.int .i64 ((i : Nat) : Int))), (12, (W nn)), (13, (Pt n91 0 0)), (14, (.bool true)), (15, (Pt n93 0 0)), (16, (.bool false)), (33, (.bool true)), (86, (.bool false))] ⟨rfl, rfl, rfl, rfl, rfl, rfl, rfl, rfl, rfl, rfl, rfl, rfl, rfl, rfl, trivial⟩ (fun τr94 => ?_)
      refine RA.condF rfl ?_
      refine RA.skip env_ok ?_
      intro _
      refine RA.seq hd ?_
      refine RA.seq hd ?_
      refine RA.region env_ok ?_
      refine OA.p (some 87) (.bool true) rfl rfl rfl rfl ?_
      refine OA.p (some 88) (.bool false) rfl rfl rfl rfl ?_
      refine OA.nil ?_
      intro _
      refine RA.condF rfl ?_
      refine RA.skip env_ok ?_
      intro _
      refine RA.seq hd ?_
      refine RA.region env_ok ?_
      refine OA.p (some 17) (.int .i64 0) rfl rfl rfl rfl ?_
      refine OA.nil ?_
      intro _
      refine RA.seq hd ?_
      refine RA.seq hd ?_
      refine RA.region env_ok ?_
      refine OA.p (some 89) wv rfl rfl rfl rfl ?_
      refine OA.p (some 90) (.int .i64 ((ws.length : Nat) : Int)) rfl rfl rfl (r_lenP (c := cI1) rfl rfl rfl rfl rfl rfl hwv rfl) ?_
      by_cases hc18 : 0 < ((ws.length : Nat) : Int)
      ·
       have hml := Nat.mod_lt i (show 0 < ws.length by omega)
       obtain ⟨rest2, hat2⟩ := hwv.get (m := (i % ws.length)) (by omega)
       have lathat2 := hd.lt hat2
       refine OA.p (some 91) (.bool true) rfl rfl rfl (Eq.trans (r_bin rfl rfl rfl (b_gtr rfl)) (dT hc18)) ?_
       refine OA.nil ?_
       intro _
       refine RA.condT rfl ?_
       refine RA.region env_ok ?_
       refine OA.p (some 92) wv rfl rfl rfl rfl ?_
       refine OA.p (some 93) (.int .i64 ((i : Nat) : Int)) rfl rfl rfl rfl ?_
       refine OA.p (some 94) wv rfl rfl rfl rfl ?_
       refine OA.p (some 95) (.int .i64 ((ws.length : Nat) : Int)) rfl rfl rfl (r_lenP (c := cI1) rfl rfl rfl rfl rfl rfl hwv rfl) ?_
       have hmd95 := Nat.mod_lt i (show 0 < ws.length by omega)
       refine OA.p (some 96) (.int .i64 (((i % ws.length) : Nat) : Int)) rfl rfl rfl (r_bin rfl rfl rfl (b_remN (a := i) (c := ws.length) (by omega))) ?_
       refine OA.p (some 97) (.pointer (some ⟨(rk wv), (i % ws.length), some 0⟩)) rfl rfl rfl (r_iaP (c := cI1) (m := (i % ws.length)) rfl rfl rfl rfl rfl rfl hwv rfl (by omega) (gt7 (by omega) hat2) rfl) ?_
       refine OA.p (some 98) (.int .i64 (ws.getD (i % ws.length) dI1).z) rfl rfl rfl (r_load1 (e := cI1 (ws.getD (i % ws.length) dI1)) rfl rfl rfl rfl rfl (gt7 (by omega) hat2) (mp_getA (by omega)) rfl) ?_
       have hm96 := andN_le (ws.getD (i % ws.length) dI1).z 255 (by decide)
       refine OA.p (some 99) (.int .i64 (((andN (ws.getD (i % ws.length) dI1).z 255) : Nat) : Int)) rfl rfl rfl (r_bin rfl rfl rfl (b_andN (ws.getD (i % ws.length) dI1).z 255 (by decide))) ?_
       refine OA.p (some 17) (.int .i64 (((andN (ws.getD (i % ws.length) dI1).z 255) : Nat) : Int)) rfl rfl rfl rfl ?_
       refine OA.nil ?_
       intro _
       refine RA.seq hd ?_
       refine RA.region env_ok ?_
       refine OA.p (some 100) (Pt bn1 0 0) rfl rfl rfl rfl ?_
       refine OA.p (some 101) (.agg ⟨(xAc445 nn kn91)⟩) rfl rfl rfl (r_loadA rfl rfl rfl rfl (get_there (by omega) get_here) rfl rfl rfl) ?_
       refine OA.p (some 102) (.int .i64 (((andN (ws.getD (i % ws.length) dI1).z 255) : Nat) : Int)) rfl rfl rfl rfl ?_
       refine OA.op1 (dst := (some 103)) (v := (.slice (some ⟨(n93 + 1), 0, none⟩) 1 0)) (n1 := (n93 + 2)) (w := ((n93 + 1), some ⟨[[(.int .i64 (((andN (ws.getD (i % ws.length) dI1).z 255) : Nat) : Int))]], 1, 3, true⟩)) rfl rfl rfl (by kernel_rfl) (by omega) ?_
       by_cases hc19 : (andN (ws.getD (i % ws.length) dI1).z 255) = 0
       ·
        refine OA.call (dst := (some 104)) (all := (xAc43 bn1 nn kn91 n93)) rfl rfl rfl rfl rfl rfl rfl rfl (CQ.imp (aGive491540T (hd.of (by omega) (kb8 (by omega))) nn nx lt bn1 kn91 (n93 + 1) ka  (gt4 (by omega) get_here) (gt3 (by omega) get_here) (Eq.trans get_here (congrArg (fun z : Nat => some (AObj.mk [[.int .i64 ((z : Nat) : Int)]] 1 3 true)) hc19))) ?_)
        rintro _ n97 _ ⟨in97, p1n97, p2n97, rfl, rfl⟩ hn97
        refine OA.app2 ?_
        refine OA.op1 (dst := (some 18)) (v := (Pt n97 0 0)) (n1 := (n97 + 1)) (w := (n97, some ⟨[xAc454], 15, 53, true⟩)) rfl rfl rfl rfl (by omega) ?_
        refine OA.op1 (dst := none) (v := (.tuple #[])) (n1 := (n97 + 1)) (w := (n97, some ⟨[(xAc446 nn in97)], 15, 53, true⟩)) rfl rfl rfl (r_store rfl rfl rfl rfl rfl rfl rfl get_here rfl rfl (Nat.le_of_ble_eq_true rfl) rfl) (by omega) ?_
        refine OA.nil ?_
        intro _
        refine RA.weaken (D' := [(n97, some ⟨[(xAc446 nn in97)], 15, 53, true⟩), (bn1, some ⟨[(xAc419 nx nn in97)], 17, 103, true⟩), (in97, some ⟨[[(.int .i64 49157), (.string (bstr (be4 nn)))]], 2, 35, true⟩), ((n93 + 1), some ⟨[[(.int .i64 (((andN (ws.getD (i % ws.length) dI1).z 255) : Nat) : Int))]], 1, 3, true⟩), (n93, some ⟨[xAc454], 15, 53, true⟩), (n91, some ⟨[(xAc445 nn kn91)], 15, 53, true⟩), (kn91, some ⟨[[(.int .i64 5), (.string (bstr (be4 0#32)))], [(.int .i64 49154), (.string (bstr (be4 nn ++ (be2 5 ++ (be2 8 ++ (be4 0#32 ++ []))))))], [(.int .i64 49160), (.string (bstr ((be4 nn ++ be4 3#32) ++ be4 4#32)))]], 2, 35, true⟩), (n1, some ⟨[(xAc452 lt kl)], 15, 53, true⟩), (ka, some ⟨[[(.int .i64 t), (.string u)]], 2, 35, true⟩), (kl, some ⟨[[(.int .i64 t), (.string u)]], 2, 35, true⟩)]) hd (Less.of (fac (mm (fun _ => get_here) (fun _ => get_here)) (fac (mm (fun _ => (get_there (by omega) get_here)) (fun _ => (gt2 (by omega) get_here))) (fac (mm (fun _ => (gt2 (by omega) get_here)) (fun _ => (gt3 (by omega) get_here))) (fac (mm (fun _ => (gt3 (by omega) get_here)) (fun _ => (gt4 (by omega) get_here))) (fac (mm (fun _ => (gt4 (by omega) get_here)) (fun _ => (gt5 (by omega) get_here))) (fac (mm (fun _ => (gt5 (by omega) get_here)) (fun _ => (gt6 (by omega) get_here))) (fac (mm (fun _ => (gt6 (by omega) get_here)) (fun _ => (gt7 (by omega) get_here))) (fac (mm (fun _ => (gt7 (by omega) get_here)) (fun _ => (gt9 (by omega) get_here))) (fac (mm (fun _ => (gt8 (by omega) get_here)) (fun _ => (gt10 (by omega) get_here))) (fac (mm (fun _ => (gt9 (by omega) get_here)) (fun _ => (gt11 (by omega) get_here))) fan)))))))))) (gone_of (by simp only [goneP, memP, List.cons_append, List.nil_append, true_or, or_true, true_and, and_true, or_false] <;> omega))) ?_
        refine RA.seq hd ?_
        refine RA.region env_ok ?_
        refine OA.p (some 105) (W nn) rfl rfl rfl rfl ?_
        refine OA.callP (dst := (some 106)) (all := [(W nn)]) (v := (.string (bstr (be4 nn)))) (hd.of (by omega) (kb10 (by omega))) rfl rfl rfl rfl rfl rfl rfl rfl (aFour nn) ?_
        intro n98 hn98
        refine OA.p (some 107) (.agg ⟨[(.int .i64 49157), (.string (bstr (be4 nn)))]⟩) rfl rfl rfl (by kernel_rfl) ?_
        refine OA.op1 (dst := (some 19)) (v := (Pt n98 0 0)) (n1 := (n98 + 1)) (w := (n98, some ⟨[[(.int .i64 0), (.string ByteArray.empty)]], 2, 35, true⟩)) rfl rfl rfl rfl (by omega) ?_
        refine OA.op1 (dst := none) (v := (.tuple #[])) (n1 := (n98 + 1)) (w := (n98, some ⟨[[(.int .i64 49157), (.string (bstr (be4 nn)))]], 2, 35, true⟩)) rfl rfl rfl (r_store rfl rfl rfl rfl rfl rfl rfl get_here rfl rfl (Nat.le_of_ble_eq_true rfl) rfl) (by omega) ?_
        refine OA.nil ?_
        intro _
        refine RA.weaken (D' := [(n98, some ⟨[[(.int .i64 49157), (.string (bstr (be4 nn)))]], 2, 35, true⟩), (n97, some ⟨[(xAc446 nn in97)], 15, 53, true⟩), (bn1, some ⟨[(xAc419 nx nn in97)], 17, 103, true⟩), (in97, some ⟨[[(.int .i64 49157), (.string (bstr (be4 nn)))]], 2, 35, true⟩), ((n93 + 1), some ⟨[[(.int .i64 (((andN (ws.getD (i % ws.length) dI1).z 255) : Nat) : Int))]], 1, 3, true⟩), (n93, some ⟨[xAc454], 15, 53, true⟩), (n91, some ⟨[(xAc445 nn kn91)], 15, 53, true⟩), (kn91, some ⟨[[(.int .i64 5), (.string (bstr (be4 0#32)))], [(.int .i64 49154), (.string (bstr (be4 nn ++ (be2 5 ++ (be2 8 ++ (be4 0#32 ++ []))))))], [(.int .i64 49160), (.string (bstr ((be4 nn ++ be4 3#32) ++ be4 4#32)))]], 2, 35, true⟩), (n1, some ⟨[(xAc452 lt kl)], 15, 53, true⟩), (ka, some ⟨[[(.int .i64 t), (.string u)]], 2, 35, true⟩), (kl, some ⟨[[(.int .i64 t), (.string u)]], 2, 35, true⟩)]) hd (Less.of (fac (mm (fun _ => get_here) (fun _ => get_here)) (fac (mm (fun _ => (get_there (by omega) get_here)) (fun _ => (gt2 (by omega) get_here))) (fac (mm (fun _ => (gt2 (by omega) get_here)) (fun _ => (gt3 (by omega) get_here))) (fac (mm (fun _ => (gt3 (by omega) get_here)) (fun _ => (gt4 (by omega) get_here))) (fac (mm (fun _ => (gt4 (by omega) get_here)) (fun _ => (gt5 (by omega) get_here))) (fac (mm (fun _ => (gt5 (by omega) get_here)) (fun _ => (gt6 (by omega) get_here))) (fac (mm (fun _ => (gt6 (by omega) get_here)) (fun _ => (gt7 (by omega) get_here))) (fac (mm (fun _ => (gt7 (by omega) get_here)) (fun _ => (gt8 (by omega) get_here))) (fac (mm (fun _ => (gt8 (by omega) get_here)) (fun _ => (gt9 (by omega) get_here))) (fac (mm (fun _ => (gt9 (by omega) get_here)) (fun _ => (gt10 (by omega) get_here))) (fac (mm (fun _ => (gt10 (by omega) get_here)) (fun _ => (gt11 (by omega) get_here))) fan))))))))))) (gone_of (by simp only [goneP, memP, List.cons_append, List.nil_append, true_or, or_true, true_and, and_true, or_false] <;> omega))) ?_
        refine RA.rebase [(1, lv), (2, wv), (7, (Pt bn1 0 0)), (8, (W nx)), (9, (Pt n1 0 0)), (10, (.bool true)), (11, (.int .i64 ((i : Nat) : Int))), (12, (W nn)), (13, (Pt n91 0 0)), (14, (.bool true)), (15, (Pt n93 0 0)), (16, (.bool false)), (17, (.int .i64 (((andN (ws.getD (i % ws.length) dI1).z 255) : Nat) : Int))), (18, (Pt n97 0 0)), (19, (Pt n98 0 0)), (33, (.bool true)), (86, (.bool false)), (88, (.bool false)), (91, (.bool true))] ⟨rfl, rfl, rfl, rfl, rfl, rfl, rfl, rfl, rfl, rfl, rfl, rfl, rfl, rfl, rfl, rfl, rfl, rfl, rfl, trivial⟩ (fun τr99 => ?_)
        refine RA.seq hd ?_
        refine RA.seq hd ?_
        refine RA.region env_ok ?_
        refine OA.p (some 108) (.int .i64 (((andN (ws.getD (i % ws.length) dI1).z 255) : Nat) : Int)) rfl rfl rfl rfl ?_
        refine OA.p (some 109) (.bool false) rfl rfl rfl (r_bin rfl rfl rfl (b_neq (decide_eq_false (by omega)))) ?_
        refine OA.nil ?_
        intro _
        refine RA.condF rfl ?_
        refine RA.skip env_ok ?_
        intro _
        refine RA.seq hd ?_
        refine RA.region env_ok ?_
        refine OA.p (some 117) (W nn) rfl rfl rfl rfl ?_
        refine OA.p (some 118) (.agg ⟨[(.int .i64 49157), (.string (bstr (be4 nn)))]⟩) rfl rfl rfl (r_loadA rfl rfl rfl rfl get_here rfl rfl rfl) ?_
        refine OA.op1 (dst := (some 119)) (v := (.slice (some ⟨(n98 + 1), 0, none⟩) 1 0)) (n1 := (n98 + 2)) (w := ((n98 + 1), some ⟨[[(.int .i64 49157), (.string (bstr (be4 nn)))]], 2, 35, true⟩)) rfl rfl rfl (by kernel_rfl) (by omega) ?_
        refine OA.p (some 120) (.agg ⟨(xAc431 nn n98)⟩) rfl rfl rfl (by kernel_rfl) ?_
        refine OA.op1 (dst := none) (v := (.tuple #[])) (n1 := (n98 + 2)) (w := (n1, some ⟨[(xAc431 nn n98)], 15, 53, true⟩)) rfl rfl rfl (r_store rfl rfl rfl rfl rfl rfl rfl (gt9 (by omega) get_here) rfl rfl (Nat.le_of_ble_eq_true rfl) rfl) (by omega) ?_
        refine OA.p (some 10) (.bool true) rfl rfl rfl rfl ?_
        refine OA.nil ?_
        intro _
        refine RA.weaken (D' := [(n1, some ⟨[(xAc431 nn n98)], 15, 53, true⟩), ((n98 + 1), some ⟨[[(.int .i64 49157), (.string (bstr (be4 nn)))]], 2, 35, true⟩), (n98, some ⟨[[(.int .i64 49157), (.string (bstr (be4 nn)))]], 2, 35, true⟩), (n97, some ⟨[(xAc446 nn in97)], 15, 53, true⟩), (bn1, some ⟨[(xAc419 nx nn in97)], 17, 103, true⟩), (in97, some ⟨[[(.int .i64 49157), (.string (bstr (be4 nn)))]], 2, 35, true⟩), ((n93 + 1), some ⟨[[(.int .i64 (((andN (ws.getD (i % ws.length) dI1).z 255) : Nat) : Int))]], 1, 3, true⟩), (n93, some ⟨[xAc454], 15, 53, true⟩), (n91, some ⟨[(xAc445 nn kn91)], 15, 53, true⟩), (kn91, some ⟨[[(.int .i64 5), (.string (bstr (be4 0#32)))], [(.int .i64 49154), (.string (bstr (be4 nn ++ (be2 5 ++ (be2 8 ++ (be4 0#32 ++ []))))))], [(.int .i64 49160), (.string (bstr ((be4 nn ++ be4 3#32) ++ be4 4#32)))]], 2, 35, true⟩), (ka, some ⟨[[(.int .i64 t), (.string u)]], 2, 35, true⟩), (kl, some ⟨[[(.int .i64 t), (.string u)]], 2, 35, true⟩)]) hd (Less.of (fac (mm (fun _ => get_here) (fun _ => get_here)) (fac (mm (fun _ => (get_there (by omega) get_here)) (fun _ => (get_there (by omega) get_here))) (fac (mm (fun _ => (gt2 (by omega) get_here)) (fun _ => (gt2 (by omega) get_here))) (fac (mm (fun _ => (gt3 (by omega) get_here)) (fun _ => (gt3 (by omega) get_here))) (fac (mm (fun _ => (gt4 (by omega) get_here)) (fun _ => (gt4 (by omega) get_here))) (fac (mm (fun _ => (gt5 (by omega) get_here)) (fun _ => (gt5 (by omega) get_here))) (fac (mm (fun _ => (gt6 (by omega) get_here)) (fun _ => (gt6 (by omega) get_here))) (fac (mm (fun _ => (gt7 (by omega) get_here)) (fun _ => (gt7 (by omega) get_here))) (fac (mm (fun _ => (gt8 (by omega) get_here)) (fun _ => (gt8 (by omega) get_here))) (fac (mm (fun _ => (gt9 (by omega) get_here)) (fun _ => (gt9 (by omega) get_here))) (fac (mm (fun _ => (gt10 (by omega) get_here)) (fun _ => (gt11 (by omega) get_here))) (fac (mm (fun _ => (gt11 (by omega) get_here)) (fun _ => (gt12 (by omega) get_here))) fan)))))))))))) (gone_of (by simp only [goneP, memP, List.cons_append, List.nil_append, true_or, or_true, true_and, and_true, or_false] <;> omega))) ?_
        refine RA.seq hd ?_
        refine RA.seq hd ?_
        refine RA.region env_ok ?_
        refine OA.p (some 121) (.agg ⟨(xAc446 nn in97)⟩) rfl rfl rfl (r_loadA rfl rfl rfl rfl (gt3 (by omega) get_here) rfl rfl rfl) ?_
        refine OA.p (some 122) (.agg ⟨(xAc431 nn n98)⟩) rfl rfl rfl (r_loadA rfl rfl rfl rfl get_here rfl rfl rfl) ?_
        refine OA.callP (dst := (some 123)) (all := [(.agg ⟨(xAc446 nn in97)⟩), (.agg ⟨(xAc431 nn n98)⟩)]) (v := (.bool true)) (hd.of (by omega) (kb12 (by omega))) rfl rfl rfl rfl rfl rfl rfl rfl (aSame nn in97 (n98 + 1) (49157) (bstr (be4 nn)) (gt5 (by omega) get_here) (get_there (by omega) get_here)) ?_
        intro n100 hn100
        refine OA.p (some 124) (.bool false) rfl rfl rfl rfl ?_
        refine OA.p (some 125) (.bool false) rfl rfl rfl rfl ?_
        refine OA.p (some 126) (.agg ⟨(xAc445 nn kn91)⟩) rfl rfl rfl (r_loadA rfl rfl rfl rfl (gt8 (by omega) get_here) rfl rfl rfl) ?_
        refine OA.call (dst := (some 127)) (all := [(.agg ⟨(xAc445 nn kn91)⟩)]) rfl rfl rfl rfl rfl rfl rfl rfl (CQ.imp (aAsked49154 (hd.of (by omega) (kb12 (by omega))) nn kn91 (gt9 (by omega) get_here)) ?_)
        rintro _ n101 _ ⟨in101, p1n101, p2n101, rfl, rfl⟩ hn101
        refine OA.app1 ?_
        refine OA.p (some 128) (.int .i64 1) rfl rfl rfl rfl ?_
        refine OA.p (some 129) (.bool false) rfl rfl rfl (r_bin rfl rfl rfl (b_neq rfl)) ?_
        refine OA.p (some 130) (.bool false) rfl rfl rfl rfl ?_
        refine OA.nil ?_
        intro _
        refine RA.condF rfl ?_
        refine RA.skip env_ok ?_
        intro _
        refine RA.region env_ok ?_
        refine OA.p (some 131) (W nx) rfl rfl rfl rfl ?_
        refine OA.p (some 132) (W (nx + (1#32))) rfl rfl rfl (r_bin rfl rfl rfl (b_addW nx (1#32))) ?_
        refine OA.p (some 8) (W (nx + (1#32))) rfl rfl rfl rfl ?_
        refine OA.nil ?_
        intro _
        refine RA.region env_ok ?_
        refine OA.p (some 34) (.int .i64 ((i : Nat) : Int)) rfl rfl rfl rfl ?_
        refine OA.p (some 35) (.int .i64 (((i + 1) : Nat) : Int)) rfl rfl rfl (r_bin rfl rfl rfl (b_add (i64_eq (by omega)))) ?_
        refine OA.p (some 11) (.int .i64 (((i + 1) : Nat) : Int)) rfl rfl rfl rfl ?_
        refine OA.nil ?_
        refine ⟨(ls.length - (i + 1)), by omega, [(bn1, some ⟨[(xAc419 nx nn in97)], 17, 103, true⟩), (n1, some ⟨[(xAc431 nn n98)], 15, 53, true⟩), (in97, some ⟨[[(.int .i64 49157), (.string (bstr (be4 nn)))]], 2, 35, true⟩), ((n98 + 1), some ⟨[[(.int .i64 49157), (.string (bstr (be4 nn)))]], 2, 35, true⟩)], (Less.of (fac (mm (fun _ => get_here) (fun _ => (gt5 (by omega) get_here))) (fac (mm (fun _ => (get_there (by omega) get_here)) (fun _ => (get_there (by omega) get_here))) (fac (mm (fun _ => (gt2 (by omega) get_here)) (fun _ => (gt6 (by omega) get_here))) (fac (mm (fun _ => (gt3 (by omega) get_here)) (fun _ => (gt2 (by omega) get_here))) fan)))) (gone_of (by simp only [goneP, memP, List.cons_append, List.nil_append, true_or, or_true, true_and, and_true, or_false] <;> omega))), .inr (⟨(i + 1), (nx + (1#32)), nn, in97, (n98 + 1), (49157), (bstr (be4 nn)), rfl, by omega, ⟨rfl, rfl, rfl, rfl, rfl, rfl, rfl, trivial⟩, rfl, (kb4 (by omega)), ⟨by omega, (by rw [w_eq hc17, BitVec.add_sub_cancel]), by omega, by omega, by omega⟩⟩)⟩
       ·
        refine OA.call (dst := (some 104)) (all := (xAc43 bn1 nn kn91 n93)) rfl rfl rfl rfl rfl rfl rfl rfl (CQ.imp (aGive491541T (hd.of (by omega) (kb8 (by omega))) nn nx lt bn1 kn91 (n93 + 1) ka (andN (ws.getD (i % ws.length) dI1).z 255) hc19 (by omega) (gt4 (by omega) get_here) (gt3 (by omega) get_here) get_here) ?_)
        rintro _ n102 _ ⟨in102, p1n102, p2n102, rfl, rfl⟩ hn102
        refine OA.app2 ?_
        refine OA.op1 (dst := (some 18)) (v := (Pt n102 0 0)) (n1 := (n102 + 1)) (w := (n102, some ⟨[xAc454], 15, 53, true⟩)) rfl rfl rfl rfl (by omega) ?_
        refine OA.op1 (dst := none) (v := (.tuple #[])) (n1 := (n102 + 1)) (w := (n102, some ⟨[(xAc432 nn in102)], 15, 53, true⟩)) rfl rfl rfl (r_store rfl rfl rfl rfl rfl rfl rfl get_here rfl rfl (Nat.le_of_ble_eq_true rfl) rfl) (by omega) ?_
        refine OA.nil ?_
        intro _
        refine RA.weaken (D' := [(n102, some ⟨[(xAc432 nn in102)], 15, 53, true⟩), (bn1, some ⟨[(xAc48 nx nn in102)], 17, 103, true⟩), (in102, some ⟨[(xAc458 nn ws i)], 2, 35, true⟩), ((n93 + 1), some ⟨[[(.int .i64 (((andN (ws.getD (i % ws.length) dI1).z 255) : Nat) : Int))]], 1, 3, true⟩), (n93, some ⟨[xAc454], 15, 53, true⟩), (n91, some ⟨[(xAc445 nn kn91)], 15, 53, true⟩), (kn91, some ⟨[[(.int .i64 5), (.string (bstr (be4 0#32)))], [(.int .i64 49154), (.string (bstr (be4 nn ++ (be2 5 ++ (be2 8 ++ (be4 0#32 ++ []))))))], [(.int .i64 49160), (.string (bstr ((be4 nn ++ be4 3#32) ++ be4 4#32)))]], 2, 35, true⟩), (n1, some ⟨[(xAc452 lt kl)], 15, 53, true⟩), (ka, some ⟨[[(.int .i64 t), (.string u)]], 2, 35, true⟩), (kl, some ⟨[[(.int .i64 t), (.string u)]], 2, 35, true⟩)]) hd (Less.of (fac (mm (fun _ => get_here) (fun _ => get_here)) (fac (mm (fun _ => (get_there (by omega) get_here)) (fun _ => (gt2 (by omega) get_here))) (fac (mm (fun _ => (gt2 (by omega) get_here)) (fun _ => (gt3 (by omega) get_here))) (fac (mm (fun _ => (gt3 (by omega) get_here)) (fun _ => (gt4 (by omega) get_here))) (fac (mm (fun _ => (gt4 (by omega) get_here)) (fun _ => (gt5 (by omega) get_here))) (fac (mm (fun _ => (gt5 (by omega) get_here)) (fun _ => (gt6 (by omega) get_here))) (fac (mm (fun _ => (gt6 (by omega) get_here)) (fun _ => (gt7 (by omega) get_here))) (fac (mm (fun _ => (gt7 (by omega) get_here)) (fun _ => (gt9 (by omega) get_here))) (fac (mm (fun _ => (gt8 (by omega) get_here)) (fun _ => (gt10 (by omega) get_here))) (fac (mm (fun _ => (gt9 (by omega) get_here)) (fun _ => (gt11 (by omega) get_here))) fan)))))))))) (gone_of (by simp only [goneP, memP, List.cons_append, List.nil_append, true_or, or_true, true_and, and_true, or_false] <;> omega))) ?_
        refine RA.seq hd ?_
        refine RA.region env_ok ?_
        refine OA.p (some 105) (W nn) rfl rfl rfl rfl ?_
        refine OA.callP (dst := (some 106)) (all := [(W nn)]) (v := (.string (bstr (be4 nn)))) (hd.of (by omega) (kb10 (by omega))) rfl rfl rfl rfl rfl rfl rfl rfl (aFour nn) ?_
        intro n103 hn103
        refine OA.p (some 107) (.agg ⟨[(.int .i64 49157), (.string (bstr (be4 nn)))]⟩) rfl rfl rfl (by kernel_rfl) ?_
        refine OA.op1 (dst := (some 19)) (v := (Pt n103 0 0)) (n1 := (n103 + 1)) (w := (n103, some ⟨[[(.int .i64 0), (.string ByteArray.empty)]], 2, 35, true⟩)) rfl rfl rfl rfl (by omega) ?_
        refine OA.op1 (dst := none) (v := (.tuple #[])) (n1 := (n103 + 1)) (w := (n103, some ⟨[[(.int .i64 49157), (.string (bstr (be4 nn)))]], 2, 35, true⟩)) rfl rfl rfl (r_store rfl rfl rfl rfl rfl rfl rfl get_here rfl rfl (Nat.le_of_ble_eq_true rfl) rfl) (by omega) ?_
        refine OA.nil ?_
        intro _
        refine RA.weaken (D' := [(n103, some ⟨[[(.int .i64 49157), (.string (bstr (be4 nn)))]], 2, 35, true⟩), (n102, some ⟨[(xAc432 nn in102)], 15, 53, true⟩), (bn1, some ⟨[(xAc48 nx nn in102)], 17, 103, true⟩), (in102, some ⟨[(xAc458 nn ws i)], 2, 35, true⟩), ((n93 + 1), some ⟨[[(.int .i64 (((andN (ws.getD (i % ws.length) dI1).z 255) : Nat) : Int))]], 1, 3, true⟩), (n93, some ⟨[xAc454], 15, 53, true⟩), (n91, some ⟨[(xAc445 nn kn91)], 15, 53, true⟩), (kn91, some ⟨[[(.int .i64 5), (.string (bstr (be4 0#32)))], [(.int .i64 49154), (.string (bstr (be4 nn ++ (be2 5 ++ (be2 8 ++ (be4 0#32 ++ []))))))], [(.int .i64 49160), (.string (bstr ((be4 nn ++ be4 3#32) ++ be4 4#32)))]], 2, 35, true⟩), (n1, some ⟨[(xAc452 lt kl)], 15, 53, true⟩), (ka, some ⟨[[(.int .i64 t), (.string u)]], 2, 35, true⟩), (kl, some ⟨[[(.int .i64 t), (.string u)]], 2, 35, true⟩)]) hd (Less.of (fac (mm (fun _ => get_here) (fun _ => get_here)) (fac (mm (fun _ => (get_there (by omega) get_here)) (fun _ => (gt2 (by omega) get_here))) (fac (mm (fun _ => (gt2 (by omega) get_here)) (fun _ => (gt3 (by omega) get_here))) (fac (mm (fun _ => (gt3 (by omega) get_here)) (fun _ => (gt4 (by omega) get_here))) (fac (mm (fun _ => (gt4 (by omega) get_here)) (fun _ => (gt5 (by omega) get_here))) (fac (mm (fun _ => (gt5 (by omega) get_here)) (fun _ => (gt6 (by omega) get_here))) (fac (mm (fun _ => (gt6 (by omega) get_here)) (fun _ => (gt7 (by omega) get_here))) (fac (mm (fun _ => (gt7 (by omega) get_here)) (fun _ => (gt8 (by omega) get_here))) (fac (mm (fun _ => (gt8 (by omega) get_here)) (fun _ => (gt9 (by omega) get_here))) (fac (mm (fun _ => (gt9 (by omega) get_here)) (fun _ => (gt10 (by omega) get_here))) (fac (mm (fun _ => (gt10 (by omega) get_here)) (fun _ => (gt11 (by omega) get_here))) fan))))))))))) (gone_of (by simp only [goneP, memP, List.cons_append, List.nil_append, true_or, or_true, true_and, and_true, or_false] <;> omega))) ?_
        refine RA.rebase [(1, lv), (2, wv), (7, (Pt bn1 0 0)), (8, (W nx)), (9, (Pt n1 0 0)), (10, (.bool true)), (11, (.int .i64 ((i : Nat) : Int))), (12, (W nn)), (13, (Pt n91 0 0)), (14, (.bool true)), (15, (Pt n93 0 0)), (16, (.bool false)), (17, (.int .i64 (((andN (ws.getD (i % ws.length) dI1).z 255) : Nat) : Int))), (18, (Pt n102 0 0)), (19, (Pt n103 0 0)), (33, (.bool true)), (86, (.bool false)), (88, (.bool false)), (91, (.bool true))] ⟨rfl, rfl, rfl, rfl, rfl, rfl, rfl, rfl, rfl, rfl, rfl, rfl, rfl, rfl, rfl, rfl, rfl, rfl, rfl, trivial⟩ (fun τr104 => ?_)
        refine RA.seq hd ?_
        refine RA.seq hd ?_
        refine RA.region env_ok ?_
        refine OA.p (some 108) (.int .i64 (((andN (ws.getD (i % ws.length) dI1).z 255) : Nat) : Int)) rfl rfl rfl rfl ?_
        refine OA.p (some 109) (.bool true) rfl rfl rfl (r_bin rfl rfl rfl (b_neq (decide_eq_true (by omega)))) ?_
        refine OA.nil ?_
        intro _
        refine RA.condT rfl ?_
        refine RA.region env_ok ?_
        refine OA.p (some 110) (W nn) rfl rfl rfl rfl ?_
        refine OA.callP (dst := (some 111)) (all := [(W nn)]) (v := (.string (bstr (be4 nn)))) (hd.of (by omega) (kb11 (by omega))) rfl rfl rfl rfl rfl rfl rfl rfl (aFour nn) ?_
        intro n105 hn105
        refine OA.p (some 112) (.int .i64 (((andN (ws.getD (i % ws.length) dI1).z 255) : Nat) : Int)) rfl rfl rfl rfl ?_
        refine OA.p (some 113) (.agg ⟨(xAc457 ws i)⟩) rfl rfl rfl (by kernel_rfl) ?_
        refine OA.callP (dst := (some 114)) (all := [(.agg ⟨(xAc457 ws i)⟩)]) (v := (.string (bstr (pL (andN (ws.getD (i % ws.length) dI1).z 255) [])))) (hd.of (by omega) (kb11 (by omega))) rfl rfl rfl rfl rfl rfl rfl rfl (lR4 (andN (ws.getD (i % ws.length) dI1).z 255) [] (by omega) (by decide)) ?_
        intro n106 hn106
        refine OA.p (some 115) (.string (bstr ((be4 nn) ++ (pL (andN (ws.getD (i % ws.length) dI1).z 255) [])))) rfl rfl rfl (Eq.trans (r_cat rfl rfl rfl (by simp only [bstr_size, size_lit, List.length_append, be2_len, be4_len, be1_len, List.length_replicate, List.length_cons, List.length_nil, List.size_toArray, pL0_len]; omega)) (by rw [bstr_app] <;> rfl)) ?_
        refine OA.p (some 116) (.agg ⟨(xAc455 nn ws i)⟩) rfl rfl rfl (by kernel_rfl) ?_
        refine OA.op1 (dst := none) (v := (.tuple #[])) (n1 := n106) (w := (n103, some ⟨[(xAc455 nn ws i)], 2, 35, true⟩)) rfl rfl rfl (r_store rfl rfl rfl rfl rfl rfl rfl get_here rfl rfl (Nat.le_of_ble_eq_true rfl) rfl) (by omega) ?_
        refine OA.nil ?_
        intro _
        refine RA.weaken (D' := [(n103, some ⟨[(xAc455 nn ws i)], 2, 35, true⟩), (n102, some ⟨[(xAc432 nn in102)], 15, 53, true⟩), (bn1, some ⟨[(xAc48 nx nn in102)], 17, 103, true⟩), (in102, some ⟨[(xAc458 nn ws i)], 2, 35, true⟩), ((n93 + 1), some ⟨[[(.int .i64 (((andN (ws.getD (i % ws.length) dI1).z 255) : Nat) : Int))]], 1, 3, true⟩), (n93, some ⟨[xAc454], 15, 53, true⟩), (n91, some ⟨[(xAc445 nn kn91)], 15, 53, true⟩), (kn91, some ⟨[[(.int .i64 5), (.string (bstr (be4 0#32)))], [(.int .i64 49154), (.string (bstr (be4 nn ++ (be2 5 ++ (be2 8 ++ (be4 0#32 ++ []))))))], [(.int .i64 49160), (.string (bstr ((be4 nn ++ be4 3#32) ++ be4 4#32)))]], 2, 35, true⟩), (n1, some ⟨[(xAc452 lt kl)], 15, 53, true⟩), (ka, some ⟨[[(.int .i64 t), (.string u)]], 2, 35, true⟩), (kl, some ⟨[[(.int .i64 t), (.string u)]], 2, 35, true⟩)]) hd (Less.of (fac (mm (fun _ => get_here) (fun _ => get_here)) (fac (mm (fun _ => (get_there (by omega) get_here)) (fun _ => (gt2 (by omega) get_here))) (fac (mm (fun _ => (gt2 (by omega) get_here)) (fun _ => (gt3 (by omega) get_here))) (fac (mm (fun _ => (gt3 (by omega) get_here)) (fun _ => (gt4 (by omega) get_here))) (fac (mm (fun _ => (gt4 (by omega) get_here)) (fun _ => (gt5 (by omega) get_here))) (fac (mm (fun _ => (gt5 (by omega) get_here)) (fun _ => (gt6 (by omega) get_here))) (fac (mm (fun _ => (gt6 (by omega) get_here)) (fun _ => (gt7 (by omega) get_here))) (fac (mm (fun _ => (gt7 (by omega) get_here)) (fun _ => (gt8 (by omega) get_here))) (fac (mm (fun _ => (gt8 (by omega) get_here)) (fun _ => (gt9 (by omega) get_here))) (fac (mm (fun _ => (gt9 (by omega) get_here)) (fun _ => (gt10 (by omega) get_here))) (fac (mm (fun _ => (gt10 (by omega) get_here)) (fun _ => (gt11 (by omega) get_here))) fan))))))))))) (gone_of (by simp only [goneP, memP, List.cons_append, List.nil_append, true_or, or_true, true_and, and_true, or_false] <;> omega))) ?_
        refine RA.seq hd ?_
        refine RA.region env_ok ?_
        refine OA.p (some 117) (W nn) rfl rfl rfl rfl ?_
        refine OA.p (some 118) (.agg ⟨(xAc455 nn ws i)⟩) rfl rfl rfl (r_loadA rfl rfl rfl rfl get_here rfl rfl rfl) ?_
        refine OA.op1 (dst := (some 119)) (v := (.slice (some ⟨n106, 0, none⟩) 1 0)) (n1 := (n106 + 1)) (w := (n106, some ⟨[(xAc455 nn ws i)], 2, 35, true⟩)) rfl rfl rfl (by kernel_rfl) (by omega) ?_
        refine OA.p (some 120) (.agg ⟨(xAc447 nn n106)⟩) rfl rfl rfl (by kernel_rfl) ?_
        refine OA.op1 (dst := none) (v := (.tuple #[])) (n1 := (n106 + 1)) (w := (n1, some ⟨[(xAc447 nn n106)], 15, 53, true⟩)) rfl rfl rfl (r_store rfl rfl rfl rfl rfl rfl rfl (gt9 (by omega) get_here) rfl rfl (Nat.le_of_ble_eq_true rfl) rfl) (by omega) ?_
        refine OA.p (some 10) (.bool true) rfl rfl rfl rfl ?_
        refine OA.nil ?_
        intro _
        refine RA.weaken (D' := [(n1, some ⟨[(xAc447 nn n106)], 15, 53, true⟩), (n106, some ⟨[(xAc455 nn ws i)], 2, 35, true⟩), (n103, some ⟨[(xAc455 nn ws i)], 2, 35, true⟩), (n102, some ⟨[(xAc432 nn in102)], 15, 53, true⟩), (bn1, some ⟨[(xAc48 nx nn in102)], 17, 103, true⟩), (in102, some ⟨[(xAc458 nn ws i)], 2, 35, true⟩), ((n93 + 1), some ⟨[[(.int .i64 (((andN (ws.getD (i % ws.length) dI1).z 255) : Nat) : Int))]], 1, 3, true⟩), (n93, some ⟨[xAc454], 15, 53, true⟩), (n91, some ⟨[(xAc445 nn kn91)], 15, 53, true⟩), (kn91, some ⟨[[(.int .i64 5), (.string (bstr (be4 0#32)))], [(.int .i64 49154), (.string (bstr (be4 nn ++ (be2 5 ++ (be2 8 ++ (be4 0#32 ++ []))))))], [(.int .i64 49160), (.string (bstr ((be4 nn ++ be4 3#32) ++ be4 4#32)))]], 2, 35, true⟩), (ka, some ⟨[[(.int .i64 t), (.string u)]], 2, 35, true⟩), (kl, some ⟨[[(.int .i64 t), (.string u)]], 2, 35, true⟩)]) hd (Less.of (fac (mm (fun _ => get_here) (fun _ => get_here)) (fac (mm (fun _ => (get_there (by omega) get_here)) (fun _ => (get_there (by omega) get_here))) (fac (mm (fun _ => (gt2 (by omega) get_here)) (fun _ => (gt2 (by omega) get_here))) (fac (mm (fun _ => (gt3 (by omega) get_here)) (fun _ => (gt3 (by omega) get_here))) (fac (mm (fun _ => (gt4 (by omega) get_here)) (fun _ => (gt4 (by omega) get_here))) (fac (mm (fun _ => (gt5 (by omega) get_here)) (fun _ => (gt5 (by omega) get_here))) (fac (mm (fun _ => (gt6 (by omega) get_here)) (fun _ => (gt6 (by omega) get_here))) (fac (mm (fun _ => (gt7 (by omega) get_here)) (fun _ => (gt7 (by omega) get_here))) (fac (mm (fun _ => (gt8 (by omega) get_here)) (fun _ => (gt8 (by omega) get_here))) (fac (mm (fun _ => (gt9 (by omega) get_here)) (fun _ => (gt9 (by omega) get_here))) (fac (mm (fun _ => (gt10 (by omega) get_here)) (fun _ => (gt11 (by omega) get_here))) (fac (mm (fun _ => (gt11 (by omega) get_here)) (fun _ => (gt12 (by omega) get_here))) fan)))))))))))) (gone_of (by simp only [goneP, memP, List.cons_append, List.nil_append, true_or, or_true, true_and, and_true, or_false] <;> omega))) ?_
        refine RA.seq hd ?_
        refine RA.seq hd ?_
        refine RA.region env_ok ?_
        refine OA.p (some 121) (.agg ⟨(xAc432 nn in102)⟩) rfl rfl rfl (r_loadA rfl rfl rfl rfl (gt3 (by omega) get_here) rfl rfl rfl) ?_
        refine OA.p (some 122) (.agg ⟨(xAc447 nn n106)⟩) rfl rfl rfl (r_loadA rfl rfl rfl rfl get_here rfl rfl rfl) ?_
        refine OA.callP (dst := (some 123)) (all := [(.agg ⟨(xAc432 nn in102)⟩), (.agg ⟨(xAc447 nn n106)⟩)]) (v := (.bool true)) (hd.of (by omega) (kb12 (by omega))) rfl rfl rfl rfl rfl rfl rfl rfl (aSame nn in102 n106 (49155) (bstr (be4 nn ++ pL (andN (ws.getD (i % ws.length) dI1).z 255) [])) (gt5 (by omega) get_here) (get_there (by omega) get_here)) ?_
        intro n107 hn107
        refine OA.p (some 124) (.bool false) rfl rfl rfl rfl ?_
        refine OA.p (some 125) (.bool false) rfl rfl rfl rfl ?_
        refine OA.p (some 126) (.agg ⟨(xAc445 nn kn91)⟩) rfl rfl rfl (r_loadA rfl rfl rfl rfl (gt8 (by omega) get_here) rfl rfl rfl) ?_
        refine OA.call (dst := (some 127)) (all := [(.agg ⟨(xAc445 nn kn91)⟩)]) rfl rfl rfl rfl rfl rfl rfl rfl (CQ.imp (aAsked49154 (hd.of (by omega) (kb12 (by omega))) nn kn91 (gt9 (by omega) get_here)) ?_)
        rintro _ n108 _ ⟨in108, p1n108, p2n108, rfl, rfl⟩ hn108
        refine OA.app1 ?_
        refine OA.p (some 128) (.int .i64 1) rfl rfl rfl rfl ?_
        refine OA.p (some 129) (.bool false) rfl rfl rfl (r_bin rfl rfl rfl (b_neq rfl)) ?_
        refine OA.p (some 130) (.bool false) rfl rfl rfl rfl ?_
        refine OA.nil ?_
        intro _
        refine RA.rebase [(1, lv), (2, wv), (7, (Pt bn1 0 0)), (8, (W nx)), (9, (Pt n1 0 0)), (10, (.bool true)), (11, (.int .i64 ((i : Nat) : Int))), (12, (W nn)), (13, (Pt n91 0 0)), (14, (.bool true)), (15, (Pt n93 0 0)), (16, (.bool false)), (17, (.int .i64 (((andN (ws.getD (i % ws.length) dI1).z 255) : Nat) : Int))), (18, (Pt n102 0 0)), (19, (Pt n103 0 0)), (33, (.bool true)), (86, (.bool false)), (88, (.bool false)), (91, (.bool true)), (109, (.bool true)), (130, (.bool false))] ⟨rfl, rfl, rfl, rfl, rfl, rfl, rfl, rfl, rfl, rfl, rfl, rfl, rfl, rfl, rfl, rfl, rfl, rfl, rfl, rfl, rfl, trivial⟩ (fun τr109 => ?_)
        refine RA.condF rfl ?_
        refine RA.skip env_ok ?_
        intro _
        refine RA.region env_ok ?_
        refine OA.p (some 131) (W nx) rfl rfl rfl rfl ?_
        refine OA.p (some 132) (W (nx + (1#32))) rfl rfl rfl (r_bin rfl rfl rfl (b_addW nx (1#32))) ?_
        refine OA.p (some 8) (W (nx + (1#32))) rfl rfl rfl rfl ?_
        refine OA.nil ?_
        intro _
        refine RA.region env_ok ?_
        refine OA.p (some 34) (.int .i64 ((i : Nat) : Int)) rfl rfl rfl rfl ?_
        refine OA.p (some 35) (.int .i64 (((i + 1) : Nat) : Int)) rfl rfl rfl (r_bin rfl rfl rfl (b_add (i64_eq (by omega)))) ?_
        refine OA.p (some 11) (.int .i64 (((i + 1) : Nat) : Int)) rfl rfl rfl rfl ?_
        refine OA.nil ?_
        refine ⟨(ls.length - (i + 1)), by omega, [(bn1, some ⟨[(xAc48 nx nn in102)], 17, 103, true⟩), (n1, some ⟨[(xAc447 nn n106)], 15, 53, true⟩), (in102, some ⟨[(xAc458 nn ws i)], 2, 35, true⟩), (n106, some ⟨[(xAc455 nn ws i)], 2, 35, true⟩)], (Less.of (fac (mm (fun _ => get_here) (fun _ => (gt5 (by omega) get_here))) (fac (mm (fun _ => (get_there (by omega) get_here)) (fun _ => (get_there (by omega) get_here))) (fac (mm (fun _ => (gt2 (by omega) get_here)) (fun _ => (gt6 (by omega) get_here))) (fac (mm (fun _ => (gt3 (by omega) get_here)) (fun _ => (gt2 (by omega) get_here))) fan)))) (gone_of (by simp only [goneP, memP, List.cons_append, List.nil_append, true_or, or_true, true_and, and_true, or_false] <;> omega))), .inr (⟨(i + 1), (nx + (1#32)), nn, in102, n106, (49155), (bstr (be4 nn ++ pL (andN (ws.getD (i % ws.length) dI1).z 255) [])), rfl, by omega, ⟨rfl, rfl, rfl, rfl, rfl, rfl, rfl, trivial⟩, rfl, (kb4 (by omega)), ⟨by omega, (by rw [w_eq hc17, BitVec.add_sub_cancel]), by omega, by omega, by omega⟩⟩)⟩
      ·
       refine OA.p (some 91) (.bool false) rfl rfl rfl (Eq.trans (r_bin rfl rfl rfl (b_gtr rfl)) (dF hc18)) ?_
       refine OA.nil ?_
       intro _
       refine RA.condF rfl ?_
       refine RA.skip env_ok ?_
       intro _
       refine RA.seq hd ?_
       refine RA.region env_ok ?_
       refine OA.p (some 100) (Pt bn1 0 0) rfl rfl rfl rfl ?_
       refine OA.p (some 101) (.agg ⟨(xAc445 nn kn91)⟩) rfl rfl rfl (r_loadA rfl rfl rfl rfl (get_there (by omega) get_here) rfl rfl rfl) ?_
       refine OA.p (some 102) (.int .i64 0) rfl rfl rfl rfl ?_
       refine OA.op1 (dst := (some 103)) (v := (.slice (some ⟨(n93 + 1), 0, none⟩) 1 0)) (n1 := (n93 + 2)) (w := ((n93 + 1), some ⟨[[(.int .i64 0)]], 1, 3, true⟩)) rfl rfl rfl (by kernel_rfl) (by omega) ?_
       refine OA.call (dst := (some 104)) (all := (xAc43 bn1 nn kn91 n93)) rfl rfl rfl rfl rfl rfl rfl rfl (CQ.imp (aGive491540T (hd.of (by omega) (kb8 (by omega))) nn nx lt bn1 kn91 (n93 + 1) ka  (gt4 (by omega) get_here) (gt3 (by omega) get_here) get_here) ?_)
       rintro _ n110 _ ⟨in110, p1n110, p2n110, rfl, rfl⟩ hn110
       refine OA.app2 ?_
       refine OA.op1 (dst := (some 18)) (v := (Pt n110 0 0)) (n1 := (n110 + 1)) (w := (n110, some ⟨[xAc454], 15, 53, true⟩)) rfl rfl rfl rfl (by omega) ?_
       refine OA.op1 (dst := none) (v := (.tuple #[])) (n1 := (n110 + 1)) (w := (n110, some ⟨[(xAc433 nn in110)], 15, 53, true⟩)) rfl rfl rfl (r_store rfl rfl rfl rfl rfl rfl rfl get_here rfl rfl (Nat.le_of_ble_eq_true rfl) rfl) (by omega) ?_
       refine OA.nil ?_
       intro _
       refine RA.weaken (D' := [(n110, some ⟨[(xAc433 nn in110)], 15, 53, true⟩), (bn1, some ⟨[(xAc49 nx nn in110)], 17, 103, true⟩), (in110, some ⟨[[(.int .i64 49157), (.string (bstr (be4 nn)))]], 2, 35, true⟩), ((n93 + 1), some ⟨[[(.int .i64 0)]], 1, 3, true⟩), (n93, some ⟨[xAc454], 15, 53, true⟩), (n91, some ⟨[(xAc445 nn kn91)], 15, 53, true⟩), (kn91, some ⟨[[(.int .i64 5), (.string (bstr (be4 0#32)))], [(.int .i64 49154), (.string (bstr (be4 nn ++ (be2 5 ++ (be2 8 ++ (be4 0#32 ++ []))))))], [(.int .i64 49160), (.string (bstr ((be4 nn ++ be4 3#32) ++ be4 4#32)))]], 2, 35, true⟩), (n1, some ⟨[(xAc452 lt kl)], 15, 53, true⟩), (ka, some ⟨[[(.int .i64 t), (.string u)]], 2, 35, true⟩), (kl, some ⟨[[(.int .i64 t), (.string u)]], 2, 35, true⟩)]) hd (Less.of (fac (mm (fun _ => get_here) (fun _ => get_here)) (fac (mm (fun _ => (get_there (by omega) get_here)) (fun _ => (gt2 (by omega) get_here))) (fac (mm (fun _ => (gt2 (by omega) get_here)) (fun _ => (gt3 (by omega) get_here))) (fac (mm (fun _ => (gt3 (by omega) get_here)) (fun _ => (gt4 (by omega) get_here))) (fac (mm (fun _ => (gt4 (by omega) get_here)) (fun _ => (gt5 (by omega) get_here))) (fac (mm (fun _ => (gt5 (by omega) get_here)) (fun _ => (gt6 (by omega) get_here))) (fac (mm (fun _ => (gt6 (by omega) get_here)) (fun _ => (gt7 (by omega) get_here))) (fac (mm (fun _ => (gt7 (by omega) get_here)) (fun _ => (gt9 (by omega) get_here))) (fac (mm (fun _ => (gt8 (by omega) get_here)) (fun _ => (gt10 (by omega) get_here))) (fac (mm (fun _ => (gt9 (by omega) get_here)) (fun _ => (gt11 (by omega) get_here))) fan)))))))))) (gone_of (by simp only [goneP, memP, List.cons_append, List.nil_append, true_or, or_true, true_and, and_true, or_false] <;> omega))) ?_
       refine RA.seq hd ?_
       refine RA.region env_ok ?_
       refine OA.p (some 105) (W nn) rfl rfl rfl rfl ?_
       refine OA.callP (dst := (some 106)) (all := [(W nn)]) (v := (.string (bstr (be4 nn)))) (hd.of (by omega) (kb10 (by omega))) rfl rfl rfl rfl rfl rfl rfl rfl (aFour nn) ?_
       intro n111 hn111
       refine OA.p (some 107) (.agg ⟨[(.int .i64 49157), (.string (bstr (be4 nn)))]⟩) rfl rfl rfl (by kernel_rfl) ?_
       refine OA.op1 (dst := (some 19)) (v := (Pt n111 0 0)) (n1 := (n111 + 1)) (w := (n111, some ⟨[[(.int .i64 0), (.string ByteArray.empty)]], 2, 35, true⟩)) rfl rfl rfl rfl (by omega) ?_
       refine OA.op1 (dst := none) (v := (.tuple #[])) (n1 := (n111 + 1)) (w := (n111, some ⟨[[(.int .i64 49157), (.string (bstr (be4 nn)))]], 2, 35, true⟩)) rfl rfl rfl (r_store rfl rfl rfl rfl rfl rfl rfl get_here rfl rfl (Nat.le_of_ble_eq_true rfl) rfl) (by omega) ?_
       refine OA.nil ?_
       intro _
       refine RA.weaken (D' := [(n111, some ⟨[[(.int .i64 49157), (.string (bstr (be4 nn)))]], 2, 35, true⟩), (n110, some ⟨[(xAc433 nn in110)], 15, 53, true⟩), (bn1, some ⟨[(xAc49 nx nn in110)], 17, 103, true⟩), (in110, some ⟨[[(.int .i64 49157), (.string (bstr (be4 nn)))]], 2, 35, true⟩), ((n93 + 1), some ⟨[[(.int .i64 0)]], 1, 3, true⟩), (n93, some ⟨[xAc454], 15, 53, true⟩), (n91, some ⟨[(xAc445 nn kn91)], 15, 53, true⟩), (kn91, some ⟨[[(.int .i64 5), (.string (bstr (be4 0#32)))], [(.int .i64 49154), (.string (bstr (be4 nn ++ (be2 5 ++ (be2 8 ++ (be4 0#32 ++ []))))))], [(.int .i64 49160), (.string (bstr ((be4 nn ++ be4 3#32) ++ be4 4#32)))]], 2, 35, true⟩), (n1, some ⟨[(xAc452 lt kl)], 15, 53, true⟩), (ka, some ⟨[[(.int .i64 t), (.string u)]], 2, 35, true⟩), (kl, some ⟨[[(.int .i64 t), (.string u)]], 2, 35, true⟩)]) hd (Less.of (fac (mm (fun _ => get_here) (fun _ => get_here)) (fac (mm (fun _ => (get_there (by omega) get_here)) (fun _ => (gt2 (by omega) get_here))) (fac (mm (fun _ => (gt2 (by omega) get_here)) (fun _ => (gt3 (by omega) get_here))) (fac (mm (fun _ => (gt3 (by omega) get_here)) (fun _ => (gt4 (by omega) get_here))) (fac (mm (fun _ => (gt4 (by omega) get_here)) (fun _ => (gt5 (by omega) get_here))) (fac (mm (fun _ => (gt5 (by omega) get_here)) (fun _ => (gt6 (by omega) get_here))) (fac (mm (fun _ => (gt6 (by omega) get_here)) (fun _ => (gt7 (by omega) get_here))) (fac (mm (fun _ => (gt7 (by omega) get_here)) (fun _ => (gt8 (by omega) get_here))) (fac (mm (fun _ => (gt8 (by omega) get_here)) (fun _ => (gt9 (by omega) get_here))) (fac (mm (fun _ => (gt9 (by omega) get_here)) (fun _ => (gt10 (by omega) get_here))) (fac (mm (fun _ => (gt10 (by omega) get_here)) (fun _ => (gt11 (by omega) get_here))) fan))))))))))) (gone_of (by simp only [goneP, memP, List.cons_append, List.nil_append, true_or, or_true, true_and, and_true, or_false] <;> omega))) ?_
       refine RA.seq hd ?_
       refine RA.seq hd ?_
       refine RA.region env_ok ?_
       refine OA.p (some 108) (.int .i64 0) rfl rfl rfl rfl ?_
       refine OA.p (some 109) (.bool false) rfl rfl rfl (r_bin rfl rfl rfl (b_neq rfl)) ?_
       refine OA.nil ?_
       intro _
       refine RA.condF rfl ?_
       refine RA.skip env_ok ?_
       intro _
       refine RA.seq hd ?_
       refine RA.region env_ok ?_
       refine OA.p (some 117) (W nn) rfl rfl rfl rfl ?_
       refine OA.p (some 118) (.agg ⟨[(.int .i64 49157), (.string (bstr (be4 nn)))]⟩) rfl rfl rfl (r_loadA rfl rfl rfl rfl get_here rfl rfl rfl) ?_
       refine OA.op1 (dst := (some 119)) (v := (.slice (some ⟨(n111 + 1), 0, none⟩) 1 0)) (n1 := (n111 + 2)) (w := ((n111 + 1), some ⟨[[(.int .i64 49157), (.string (bstr (be4 nn)))]], 2, 35, true⟩)) rfl rfl rfl (by kernel_rfl) (by omega) ?_
       refine OA.p (some 120) (.agg ⟨(xAc424 nn n111)⟩) rfl rfl rfl (by kernel_rfl) ?_
       refine OA.op1 (dst := none) (v := (.tuple #[])) (n1 := (n111 + 2)) (w := (n1, some ⟨[(xAc424 nn n111)], 15, 53, true⟩)) rfl rfl rfl (r_store rfl rfl rfl rfl rfl rfl rfl (gt9 (by omega) get_here) rfl rfl (Nat.le_of_ble_eq_true rfl) rfl) (by omega) ?_
       refine OA.p (some 10) (.bool true) rfl rfl rfl rfl ?_
       refine OA.nil ?_
       intro _
       refine RA.weaken (D' := [(n1, some ⟨[(xAc424 nn n111)], 15, 53, true⟩), ((n111 + 1), some ⟨[[(.int .i64 49157), (.string (bstr (be4 nn)))]], 2, 35, true⟩), (n111, some ⟨[[(.int .i64 49157), (.string (bstr (be4 nn)))]], 2, 35, true⟩), (n110, some ⟨[(xAc433 nn in110)], 15, 53, true⟩), (bn1, some ⟨[(xAc49 nx nn in110)], 17, 103, true⟩), (in110, some ⟨[[(.int .i64 49157), (.string (bstr (be4 nn)))]], 2, 35, true⟩), ((n93 + 1), some ⟨[[(.int .i64 0)]], 1, 3, true⟩), (n93, some ⟨[xAc454], 15, 53, true⟩), (n91, some ⟨[(xAc445 nn kn91)], 15, 53, true⟩), (kn91, some ⟨[[(.int .i64 5), (.string (bstr (be4 0#32)))], [(.int .i64 49154), (.string (bstr (be4 nn ++ (be2 5 ++ (be2 8 ++ (be4 0#32 ++ []))))))], [(.int .i64 49160), (.string (bstr ((be4 nn ++ be4 3#32) ++ be4 4#32)))]], 2, 35, true⟩), (ka, some ⟨[[(.int .i64 t), (.string u)]], 2, 35, true⟩), (kl, some ⟨[[(.int .i64 t), (.string u)]], 2, 35, true⟩)]) hd (Less.of (fac (mm (fun _ => get_here) (fun _ => get_here)) (fac (mm (fun _ => (get_there (by omega) get_here)) (fun _ => (get_there (by omega) get_here))) (fac (mm (fun _ => (gt2 (by omega) get_here)) (fun _ => (gt2 (by omega) get_here))) (fac (mm (fun _ => (gt3 (by omega) get_here)) (fun _ => (gt3 (by omega) get_here))) (fac (mm (fun _ => (gt4 (by omega) get_here)) (fun _ => (gt4 (by omega) get_here))) (fac (mm (fun _ => (gt5 (by omega) get_here)) (fun _ => (gt5 (by omega) get_here))) (fac (mm (fun _ => (gt6 (by omega) get_here)) (fun _ => (gt6 (by omega) get_here))) (fac (mm (fun _ => (gt7 (by omega) get_here)) (fun _ => (gt7 (by omega) get_here))) (fac (mm (fun _ => (gt8 (by omega) get_here)) (fun _ => (gt8 (by omega) get_here))) (fac (mm (fun _ => (gt9 (by omega) get_here)) (fun _ => (gt9 (by omega) get_here))) (fac (mm (fun _ => (gt10 (by omega) get_here)) (fun _ => (gt11 (by omega) get_here))) (fac (mm (fun _ => (gt11 (by omega) get_here)) (fun _ => (gt12 (by omega) get_here))) fan)))))))))))) (gone_of (by simp only [goneP, memP, List.cons_append, List.nil_append, true_or, or_true, true_and, and_true, or_false] <;> omega))) ?_
       refine RA.rebase [(1, lv), (2, wv), (7, (Pt bn1 0 0)), (8, (W nx)), (9, (Pt n1 0 0)), (10, (.bool true)), (11, (.int .i64 ((i : Nat) : Int))), (12, (W nn)), (13, (Pt n91 0 0)), (14, (.bool true)), (15, (Pt n93 0 0)), (16, (.bool false)), (17, (.int .i64 0)), (18, (Pt n110 0 0)), (19, (Pt n111 0 0)), (33, (.bool true)), (86, (.bool false)), (88, (.bool false)), (91, (.bool false)), (109, (.bool false))] ⟨rfl, rfl, rfl, rfl, rfl, rfl, rfl, rfl, rfl, rfl, rfl, rfl, rfl, rfl, rfl, rfl, rfl, rfl, rfl, rfl, trivial⟩ (fun τr112 => ?_)
       refine RA.seq hd ?_
       refine RA.seq hd ?_
       refine RA.region env_ok ?_
       refine OA.p (some 121) (.agg ⟨(xAc433 nn in110)⟩) rfl rfl rfl (r_loadA rfl rfl rfl rfl (gt3 (by omega) get_here) rfl rfl rfl) ?_
       refine OA.p (some 122) (.agg ⟨(xAc424 nn n111)⟩) rfl rfl rfl (r_loadA rfl rfl rfl rfl get_here rfl rfl rfl) ?_
       refine OA.callP (dst := (some 123)) (all := [(.agg ⟨(xAc433 nn in110)⟩), (.agg ⟨(xAc424 nn n111)⟩)]) (v := (.bool true)) (hd.of (by omega) (kb12 (by omega))) rfl rfl rfl rfl rfl rfl rfl rfl (aSame nn in110 (n111 + 1) (49157) (bstr (be4 nn)) (gt5 (by omega) get_here) (get_there (by omega) get_here)) ?_
       intro n113 hn113
       refine OA.p (some 124) (.bool false) rfl rfl rfl rfl ?_
       refine OA.p (some 125) (.bool false) rfl rfl rfl rfl ?_
       refine OA.p (some 126) (.agg ⟨(xAc445 nn kn91)⟩) rfl rfl rfl (r_loadA rfl rfl rfl rfl (gt8 (by omega) get_here) rfl rfl rfl) ?_
       refine OA.call (dst := (some 127)) (all := [(.agg ⟨(xAc445 nn kn91)⟩)]) rfl rfl rfl rfl rfl rfl rfl rfl (CQ.imp (aAsked49154 (hd.of (by omega) (kb12 (by omega))) nn kn91 (gt9 (by omega) get_here)) ?_)
       rintro _ n114 _ ⟨in114, p1n114, p2n114, rfl, rfl⟩ hn114
       refine OA.app1 ?_
       refine OA.p (some 128) (.int .i64 1) rfl rfl rfl rfl ?_
       refine OA.p (some 129) (.bool false) rfl rfl rfl (r_bin rfl rfl rfl (b_neq rfl)) ?_
       refine OA.p (some 130) (.bool false) rfl rfl rfl rfl ?_
       refine OA.nil ?_
       intro _
       refine RA.condF rfl ?_
       refine RA.skip env_ok ?_
       intro _
       refine RA.region env_ok ?_
       refine OA.p (some 131) (W nx) rfl rfl rfl rfl ?_
       refine OA.p (some 132) (W (nx + (1#32))) rfl rfl rfl (r_bin rfl rfl rfl (b_addW nx (1#32))) ?_
       refine OA.p (some 8) (W (nx + (1#32))) rfl rfl rfl rfl ?_
       refine OA.nil ?_
       intro _
       refine RA.region env_ok ?_
       refine OA.p (some 34) (.int .i64 ((i : Nat) : Int)) rfl rfl rfl rfl ?_
       refine OA.p (some 35) (.int .i64 (((i + 1) : Nat) : Int)) rfl rfl rfl (r_bin rfl rfl rfl (b_add (i64_eq (by omega)))) ?_
       refine OA.p (some 11) (.int .i64 (((i + 1) : Nat) : Int)) rfl rfl rfl rfl ?_
       refine OA.nil ?_
       refine ⟨(ls.length - (i + 1)), by omega, [(bn1, some ⟨[(xAc49 nx nn in110)], 17, 103, true⟩), (n1, some ⟨[(xAc424 nn n111)], 15, 53, true⟩), (in110, some ⟨[[(.int .i64 49157), (.string (bstr (be4 nn)))]], 2, 35, true⟩), ((n111 + 1), some ⟨[[(.int .i64 49157), (.string (bstr (be4 nn)))]], 2, 35, true⟩)], (Less.of (fac (mm (fun _ => get_here) (fun _ => (gt5 (by omega) get_here))) (fac (mm (fun _ => (get_there (by omega) get_here)) (fun _ => (get_there (by omega) get_here))) (fac (mm (fun _ => (gt2 (by omega) get_here)) (fun _ => (gt6 (by omega) get_here))) (fac (mm (fun _ => (gt3 (by omega) get_here)) (fun _ => (gt2 (by omega) get_here))) fan)))) (gone_of (by simp only [goneP, memP, List.cons_append, List.nil_append, true_or, or_true, true_and, and_true, or_false] <;> omega))), .inr (⟨(i + 1), (nx + (1#32)), nn, in110, (n111 + 1), (49157), (bstr (be4 nn)), rfl, by omega, ⟨rfl, rfl, rfl, rfl, rfl, rfl, rfl, trivial⟩, rfl, (kb4 (by omega)), ⟨by omega, (by rw [w_eq hc17, BitVec.add_sub_cancel]), by omega, by omega, by omega⟩⟩)⟩
     ·
      by_cases hc20 : (nn.toNat : Int) = (lt.toNat : Int)
      ·
       refine OA.callP (dst := (some 58)) (all := (xAc46 bn1 nn kn91)) (v := (.tuple ⟨(xAc47 lt ka)⟩)) (hd.of (by omega) (kb6 (by omega))) rfl rfl rfl rfl rfl rfl rfl rfl (aTakeOT nn nx lt bn1 kn91 ka hc17 hc20 (gt2 (by omega) get_here)) ?_
       intro n115 hn115
       refine OA.p (some 55) (.tuple ⟨(xAc47 lt ka)⟩) rfl rfl rfl rfl ?_
       refine OA.p (some 59) (.bool false) rfl rfl rfl rfl ?_
       refine OA.p (some 60) (.agg ⟨(xAc453 lt ka)⟩) rfl rfl rfl rfl ?_
       refine OA.p (some 61) (.bool true) rfl rfl rfl rfl ?_
       refine OA.op1 (dst := (some 15)) (v := (Pt n115 0 0)) (n1 := (n115 + 1)) (w := (n115, some ⟨[xAc454], 15, 53, true⟩)) rfl rfl rfl rfl (by omega) ?_
       refine OA.p (some 14) (.bool false) rfl rfl rfl rfl ?_
       refine OA.op1 (dst := none) (v := (.tuple #[])) (n1 := (n115 + 1)) (w := (n115, some ⟨[(xAc453 lt ka)], 15, 53, true⟩)) rfl rfl rfl (r_store rfl rfl rfl rfl rfl rfl rfl get_here rfl rfl (Nat.le_of_ble_eq_true rfl) rfl) (by omega) ?_
       refine OA.p (some 16) (.bool true) rfl rfl rfl rfl ?_
       refine OA.nil ?_
       intro _
       refine RA.weaken (D' := [(n115, some ⟨[(xAc453 lt ka)], 15, 53, true⟩), (n91, some ⟨[(xAc445 nn kn91)], 15, 53, true⟩), (kn91, some ⟨[[(.int .i64 5), (.string (bstr (be4 0#32)))], [(.int .i64 49154), (.string (bstr (be4 nn ++ (be2 5 ++ (be2 8 ++ (be4 0#32 ++ []))))))], [(.int .i64 49160), (.string (bstr ((be4 nn ++ be4 3#32) ++ be4 4#32)))]], 2, 35, true⟩), (bn1, some ⟨[(xAc422 nx lt ka)], 17, 103, true⟩), (n1, some ⟨[(xAc452 lt kl)], 15, 53, true⟩), (ka, some ⟨[[(.int .i64 t), (.string u)]], 2, 35, true⟩), (kl, some ⟨[[(.int .i64 t), (.string u)]], 2, 35, true⟩)]) hd (Less.of (fac (mm (fun _ => get_here) (fun _ => get_here)) (fac (mm (fun _ => (get_there (by omega) get_here)) (fun _ => (gt2 (by omega) get_here))) (fac (mm (fun _ => (gt2 (by omega) get_here)) (fun _ => (gt3 (by omega) get_here))) (fac (mm (fun _ => (gt3 (by omega) get_here)) (fun _ => (gt4 (by omega) get_here))) (fac (mm (fun _ => (gt4 (by omega) get_here)) (fun _ => (gt5 (by omega) get_here))) (fac (mm (fun _ => (gt5 (by omega) get_here)) (fun _ => (gt6 (by omega) get_here))) (fac (mm (fun _ => (gt6 (by omega) get_here)) (fun _ => (gt7 (by omega) get_here))) fan))))))) (gone_of (by simp only [goneP, memP, List.cons_append, List.nil_append, true_or, or_true, true_and, and_true, or_false] <;> omega))) ?_
       refine RA.seq hd ?_
       refine RA.seq hd ?_
       refine RA.region env_ok ?_
       refine OA.p (some 62) (.bool false) rfl rfl rfl rfl ?_
       refine OA.p (some 63) (W nn) rfl rfl rfl rfl ?_
       refine OA.p (some 64) (W nx) rfl rfl rfl rfl ?_
       refine OA.p (some 65) (.bool false) rfl rfl rfl (Eq.trans (r_bin rfl rfl rfl (b_eql rfl)) (dF hc17)) ?_
       refine OA.p (some 66) (.bool false) rfl rfl rfl rfl ?_
       refine OA.p (some 67) (.bool false) rfl rfl rfl rfl ?_
       refine OA.p (some 68) (.bool true) rfl rfl rfl rfl ?_
       refine OA.p (some 69) (.bool true) rfl rfl rfl rfl ?_
       refine OA.p (some 70) (.bool true) rfl rfl rfl rfl ?_
       refine OA.p (some 71) (W nn) rfl rfl rfl rfl ?_
       refine OA.p (some 72) (W nx) rfl rfl rfl rfl ?_
       refine OA.p (some 73) (W (nx - (1#32))) rfl rfl rfl (r_bin rfl rfl rfl (b_subW nx (1#32))) ?_
       refine OA.p (some 74) (.bool true) rfl rfl rfl (r_bin rfl rfl rfl (b_eql (decide_eq_true (by rw [← hlt]; exact hc20)))) ?_
       refine OA.p (some 75) (.bool true) rfl rfl rfl rfl ?_
       refine OA.p (some 76) (.bool false) rfl rfl rfl rfl ?_
       refine OA.p (some 77) (.bool false) rfl rfl rfl rfl ?_
       refine OA.p (some 78) (.bool false) rfl rfl rfl rfl ?_
       refine OA.p (some 79) (.bool true) rfl rfl rfl rfl ?_
       refine OA.p (some 80) (.bool true) rfl rfl rfl rfl ?_
       refine OA.p (some 81) (.agg ⟨(xAc453 lt ka)⟩) rfl rfl rfl (r_loadA rfl rfl rfl rfl get_here rfl rfl rfl) ?_
       refine OA.p (some 82) (.agg ⟨(xAc452 lt kl)⟩) rfl rfl rfl (r_loadA rfl rfl rfl rfl (gt4 (by omega) get_here) rfl rfl rfl) ?_
       refine OA.callP (dst := (some 83)) (all := [(.agg ⟨(xAc453 lt ka)⟩), (.agg ⟨(xAc452 lt kl)⟩)]) (v := (.bool true)) (hd.of (by omega) (kb7 (by omega))) rfl rfl rfl rfl rfl rfl rfl rfl (aSame lt ka kl (t) u (gt5 (by omega) get_here) (gt6 (by omega) get_here)) ?_
       intro n116 hn116
       refine OA.p (some 84) (.bool false) rfl rfl rfl rfl ?_
       refine OA.p (some 85) (.bool false) rfl rfl rfl rfl ?_
       refine OA.p (some 86) (.bool false) rfl rfl rfl rfl ?_
       refine OA.nil ?_
       intro _
       refine RA.rebase [(1, lv), (2, wv), (7, (Pt bn1 0 0)), (8, (W nx)), (9, (Pt n1 0 0)), (10, (.bool true)), (11, (.int .i64 ((i : Nat) : Int))), (12, (W nn)), (13, (Pt n91 0 0)), (14, (.bool false)), (15, (Pt n115 0 0)), (16, (.bool true)), (33, (.bool true)), (86, (.bool false))] ⟨rfl, rfl, rfl, rfl, rfl, rfl, rfl, rfl, rfl, rfl, rfl, rfl, rfl, rfl, trivial⟩ (fun τr117 => ?_)
       refine RA.condF rfl ?_
       refine RA.skip env_ok ?_
       intro _
       refine RA.seq hd ?_
       refine RA.seq hd ?_
       refine RA.region env_ok ?_
       refine OA.p (some 87) (.bool false) rfl rfl rfl rfl ?_
       refine OA.p (some 88) (.bool true) rfl rfl rfl rfl ?_
       refine OA.nil ?_
       intro _
       refine RA.condT rfl ?_
       refine RA.exit env_ok ?_
       intro _
       refine RA.region env_ok ?_
       refine OA.p (some 34) (.int .i64 ((i : Nat) : Int)) rfl rfl rfl rfl ?_
       refine OA.p (some 35) (.int .i64 (((i + 1) : Nat) : Int)) rfl rfl rfl (r_bin rfl rfl rfl (b_add (i64_eq (by omega)))) ?_
       refine OA.p (some 11) (.int .i64 (((i + 1) : Nat) : Int)) rfl rfl rfl rfl ?_
       refine OA.nil ?_
       refine ⟨(ls.length - (i + 1)), by omega, [(bn1, some ⟨[(xAc422 nx lt ka)], 17, 103, true⟩), (n1, some ⟨[(xAc452 lt kl)], 15, 53, true⟩), (ka, some ⟨[[(.int .i64 t), (.string u)]], 2, 35, true⟩), (kl, some ⟨[[(.int .i64 t), (.string u)]], 2, 35, true⟩)], (Less.of (fac (mm (fun _ => get_here) (fun _ => (gt3 (by omega) get_here))) (fac (mm (fun _ => (get_there (by omega) get_here)) (fun _ => (gt4 (by omega) get_here))) (fac (mm (fun _ => (gt2 (by omega) get_here)) (fun _ => (gt5 (by omega) get_here))) (fac (mm (fun _ => (gt3 (by omega) get_here)) (fun _ => (gt6 (by omega) get_here))) fan)))) (gone_of (by simp only [goneP, memP, List.cons_append, List.nil_append, true_or, or_true, true_and, and_true, or_false] <;> omega))), .inr (⟨(i + 1), nx, lt, ka, kl, t, u, rfl, by omega, ⟨rfl, rfl, rfl, rfl, rfl, rfl, rfl, trivial⟩, rfl, (kb4 (by omega)), ⟨by omega, hlt, by omega, by omega, by omega⟩⟩)⟩
      ·
       refine OA.callP (dst := (some 58)) (all := (xAc46 bn1 nn kn91)) (v := (.tuple ⟨xAc420⟩)) (hd.of (by omega) (kb6 (by omega))) rfl rfl rfl rfl rfl rfl rfl rfl (aTakeFT nn nx lt bn1 kn91 ka hc17 hc20 (gt2 (by omega) get_here)) ?_
       intro n118 hn118
       refine OA.p (some 55) (.tuple ⟨xAc420⟩) rfl rfl rfl rfl ?_
       refine OA.p (some 59) (.bool false) rfl rfl rfl rfl ?_
       refine OA.p (some 60) (.agg ⟨xAc454⟩) rfl rfl rfl rfl ?_
       refine OA.p (some 61) (.bool false) rfl rfl rfl rfl ?_
       refine OA.op1 (dst := (some 15)) (v := (Pt n118 0 0)) (n1 := (n118 + 1)) (w := (n118, some ⟨[xAc454], 15, 53, true⟩)) rfl rfl rfl rfl (by omega) ?_
       refine OA.p (some 14) (.bool false) rfl rfl rfl rfl ?_
       refine OA.op1 (dst := none) (v := (.tuple #[])) (n1 := (n118 + 1)) (w := (n118, some ⟨[xAc454], 15, 53, true⟩)) rfl rfl rfl (r_store rfl rfl rfl rfl rfl rfl rfl get_here rfl rfl (Nat.le_of_ble_eq_true rfl) rfl) (by omega) ?_
       refine OA.p (some 16) (.bool false) rfl rfl rfl rfl ?_
       refine OA.nil ?_
       intro _
       refine RA.weaken (D' := [(n118, some ⟨[xAc454], 15, 53, true⟩), (n91, some ⟨[(xAc445 nn kn91)], 15, 53, true⟩), (kn91, some ⟨[[(.int .i64 5), (.string (bstr (be4 0#32)))], [(.int .i64 49154), (.string (bstr (be4 nn ++ (be2 5 ++ (be2 8 ++ (be4 0#32 ++ []))))))], [(.int .i64 49160), (.string (bstr ((be4 nn ++ be4 3#32) ++ be4 4#32)))]], 2, 35, true⟩), (bn1, some ⟨[(xAc422 nx lt ka)], 17, 103, true⟩), (n1, some ⟨[(xAc452 lt kl)], 15, 53, true⟩), (ka, some ⟨[[(.int .i64 t), (.string u)]], 2, 35, true⟩), (kl, some ⟨[[(.int .i64 t), (.string u)]], 2, 35, true⟩)]) hd (Less.of (fac (mm (fun _ => get_here) (fun _ => get_here)) (fac (mm (fun _ => (get_there (by omega) get_here)) (fun _ => (gt2 (by omega) get_here))) (fac (mm (fun _ => (gt2 (by omega) get_here)) (fun _ => (gt3 (by omega) get_here))) (fac (mm (fun _ => (gt3 (by omega) get_here)) (fun _ => (gt4 (by omega) get_here))) (fac (mm (fun _ => (gt4 (by omega) get_here)) (fun _ => (gt5 (by omega) get_here))) (fac (mm (fun _ => (gt5 (by omega) get_here)) (fun _ => (gt6 (by omega) get_here))) (fac (mm (fun _ => (gt6 (by omega) get_here)) (fun _ => (gt7 (by omega) get_here))) fan))))))) (gone_of (by simp only [goneP, memP, List.cons_append, List.nil_append, true_or, or_true, true_and, and_true, or_false] <;> omega))) ?_
       refine RA.seq hd ?_
       refine RA.seq hd ?_
       refine RA.region env_ok ?_
       refine OA.p (some 62) (.bool false) rfl rfl rfl rfl ?_
       refine OA.p (some 63) (W nn) rfl rfl rfl rfl ?_
       refine OA.p (some 64) (W nx) rfl rfl rfl rfl ?_
       refine OA.p (some 65) (.bool false) rfl rfl rfl (Eq.trans (r_bin rfl rfl rfl (b_eql rfl)) (dF hc17)) ?_
       refine OA.p (some 66) (.bool false) rfl rfl rfl rfl ?_
       refine OA.p (some 67) (.bool false) rfl rfl rfl rfl ?_
       refine OA.p (some 68) (.bool false) rfl rfl rfl rfl ?_
       refine OA.p (some 69) (.bool true) rfl rfl rfl rfl ?_
       refine OA.p (some 70) (.bool true) rfl rfl rfl rfl ?_
       refine OA.p (some 71) (W nn) rfl rfl rfl rfl ?_
       refine OA.p (some 72) (W nx) rfl rfl rfl rfl ?_
       refine OA.p (some 73) (W (nx - (1#32))) rfl rfl rfl (r_bin rfl rfl rfl (b_subW nx (1#32))) ?_
       refine OA.p (some 74) (.bool false) rfl rfl rfl (r_bin rfl rfl rfl (b_eql (decide_eq_false (by rw [← hlt]; exact hc20)))) ?_
       refine OA.p (some 75) (.bool false) rfl rfl rfl rfl ?_
       refine OA.p (some 76) (.bool false) rfl rfl rfl rfl ?_
       refine OA.p (some 77) (.bool false) rfl rfl rfl rfl ?_
       refine OA.p (some 78) (.bool false) rfl rfl rfl rfl ?_
       refine OA.p (some 79) (.bool false) rfl rfl rfl rfl ?_
       refine OA.p (some 80) (.bool false) rfl rfl rfl rfl ?_
       refine OA.off (dst := (some 81)) rfl rfl rfl ?_
       refine OA.off (dst := (some 82)) rfl rfl rfl ?_
       refine OA.off (dst := (some 83)) rfl rfl rfl ?_
       refine OA.off (dst := (some 84)) rfl rfl rfl ?_
       refine OA.p (some 85) (.bool false) rfl rfl rfl rfl ?_
       refine OA.p (some 86) (.bool false) rfl rfl rfl rfl ?_
       refine OA.nil ?_
       intro _
       refine RA.rebase [(1, lv), (2, wv), (7, (Pt bn1 0 0)), (8, (W nx)), (9, (Pt n1 0 0)), (10, (.bool true)), (11, (.int .i64 ((i : Nat) : Int))), (12, (W nn)), (13, (Pt n91 0 0)), (14, (.bool false)), (15, (Pt n118 0 0)), (16, (.bool false)), (33, (.bool true)), (86, (.bool false))] ⟨rfl, rfl, rfl, rfl, rfl, rfl, rfl, rfl, rfl, rfl, rfl, rfl, rfl, rfl, trivial⟩ (fun τr119 => ?_)
       refine RA.condF rfl ?_
       refine RA.skip env_ok ?_
       intro _
       refine RA.seq hd ?_
       refine RA.seq hd ?_
       refine RA.region env_ok ?_
       refine OA.p (some 87) (.bool false) rfl rfl rfl rfl ?_
       refine OA.p (some 88) (.bool true) rfl rfl rfl rfl ?_
       refine OA.nil ?_
       intro _
       refine RA.condT rfl ?_
       refine RA.exit env_ok ?_
       intro _
       refine RA.region env_ok ?_
       refine OA.p (some 34) (.int .i64 ((i : Nat) : Int)) rfl rfl rfl rfl ?_
       refine OA.p (some 35) (.int .i64 (((i + 1) : Nat) : Int)) rfl rfl rfl (r_bin rfl rfl rfl (b_add (i64_eq (by omega)))) ?_
       refine OA.p (some 11) (.int .i64 (((i + 1) : Nat) : Int)) rfl rfl rfl rfl ?_
       refine OA.nil ?_
       refine ⟨(ls.length - (i + 1)), by omega, [(bn1, some ⟨[(xAc422 nx lt ka)], 17, 103, true⟩), (n1, some ⟨[(xAc452 lt kl)], 15, 53, true⟩), (ka, some ⟨[[(.int .i64 t), (.string u)]], 2, 35, true⟩), (kl, some ⟨[[(.int .i64 t), (.string u)]], 2, 35, true⟩)], (Less.of (fac (mm (fun _ => get_here) (fun _ => (gt3 (by omega) get_here))) (fac (mm (fun _ => (get_there (by omega) get_here)) (fun _ => (gt4 (by omega) get_here))) (fac (mm (fun _ => (gt2 (by omega) get_here)) (fun _ => (gt5 (by omega) get_here))) (fac (mm (fun _ => (gt3 (by omega) get_here)) (fun _ => (gt6 (by omega) get_here))) fan)))) (gone_of (by simp only [goneP, memP, List.cons_append, List.nil_append, true_or, or_true, true_and, and_true, or_false] <;> omega))), .inr (⟨(i + 1), nx, lt, ka, kl, t, u, rfl, by omega, ⟨rfl, rfl, rfl, rfl, rfl, rfl, rfl, trivial⟩, rfl, (kb4 (by omega)), ⟨by omega, hlt, by omega, by omega, by omega⟩⟩)⟩
   ·
    refine OA.p (some 32) (.bool false) rfl rfl rfl (Eq.trans (r_bin rfl rfl rfl (b_lss rfl)) (dF hc11)) ?_
    refine OA.p (some 33) (.bool false) rfl rfl rfl rfl ?_
    refine OA.nil ?_
    intro _
    refine RA.condF rfl ?_
    refine RA.exit env_ok ?_
    intro _
    refine RA.seq hd ?_
    refine RA.region env_ok ?_
    refine OA.p (some 6) (.bool true) rfl rfl rfl rfl ?_
    refine OA.nil ?_
    intro _
    refine RA.ret env_ok ?_
    refine ⟨.inr rfl, [(.bool true)], (resL_cons rfl resL_nil), [], (Less.of (fun p hp => by simp at hp) (gone_of (by simp only [goneP, memP, List.cons_append, List.nil_append, true_or, or_true, true_and, and_true, or_false] <;> omega))), rfl⟩
  ·
   refine OA.p (some 29) (.bool false) rfl rfl rfl (Eq.trans (r_bin rfl rfl rfl (b_lss rfl)) (dF hc10)) ?_
   refine OA.p (some 30) (.bool false) rfl rfl rfl rfl ?_
   refine OA.off (dst := (some 31)) rfl rfl rfl ?_
   refine OA.off (dst := (some 32)) rfl rfl rfl ?_
   refine OA.p (some 33) (.bool false) rfl rfl rfl rfl ?_
   refine OA.nil ?_
   intro _
   refine RA.condF rfl ?_
   refine RA.exit env_ok ?_
   intro _
   refine RA.seq hd ?_
   refine RA.region env_ok ?_
   refine OA.p (some 6) (.bool true) rfl rfl rfl rfl ?_
   refine OA.nil ?_
   intro _
   refine RA.ret env_ok ?_
   refine ⟨.inr rfl, [(.bool true)], (resL_cons rfl resL_nil), [], (Less.of (fun p hp => by simp at hp) (gone_of (by simp only [goneP, memP, List.cons_append, List.nil_append, true_or, or_true, true_and, and_true, or_false] <;> omega))), rfl⟩
end Go.Proofs.Ytgajcmanompmcaa.Vt
