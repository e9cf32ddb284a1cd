/- The abstract machine: operations that write one object, told shortly. -/
import Derived.Test.YtgajcmanompmcaaVm2
set_option linter.unusedVariables false
set_option linter.unusedSimpArgs false
namespace Go.Proofs.YtgajcmanompmcaaV
open Go Go.RowKit
section
variable {P : Program} {E : Env} {b : Nat} {σ : Store} {m : Nat} {τ τ' : Tm} {n n' : Nat} {D D' : Delta} {ops : Array Oper} {o : Oper} {r : List Oper} {K : Tm → Nat → Delta → Prop} {v : Value} {dst : Option Nat} {n1 : Nat} {w w2 : Nat × Option AObj}
theorem OA.op1 (hw : wantA ops τ o = true) (hd : dstOk m o = true) (hdst : o.dst = dst) (hs : (aop E τ o).run n (app D σ) = some (v, n1, [w])) (hn : n ≤ n1) (h : OA P E m ops σ r (upd τ dst v) n1 (w :: D) K) : OA P E m ops σ (o :: r) τ n D K := OA.op hw hd hdst hs hn rfl h
theorem OA.app0 (h : OA P E m ops σ r τ n D K) : OA P E m ops σ r τ n ([] ++ D) K := h
theorem OA.app1 (h : OA P E m ops σ r τ n (w :: D) K) : OA P E m ops σ r τ n ([w] ++ D) K := h
theorem OA.app2 (h : OA P E m ops σ r τ n (w :: w2 :: D) K) : OA P E m ops σ r τ n ([w, w2] ++ D) K := h
end
end Go.Proofs.YtgajcmanompmcaaV
