-- Written by a program of this workplace (wip/mkprint2.py, over the kit's print) for this claim
import Derived.Test.YtmdncojhnbbafaaOpen
import Derived.Test.YtmdncojhnbbafaaPAllx32
namespace Go.Proofs.Ytmdncojhnbbafaa.GoodParamAnswers
open Go Go.RowKit Go.ChangeShapes Go.WideShapes Go.Proofs.YtmdncojhnbbafaaW.PrintWords Go.Proofs.Ytmdncojhnbbafaa.PAll Go.Proofs.Ytmdncojhnbbafaa.Op
set_option linter.unusedVariables false
set_option linter.unusedSimpArgs false
def Good65 (x : S65) : Prop := (fun n => (Lit.int .i64 n).wf = true) x.f0 ∧ (fun s => s.size ≤ 9223372036854775807) x.f1
theorem open65 (w : World) : Opens Try.prog w 65 k65 Good65 := by
  intro H enc base spare held fuel cs x h
  obtain ⟨xs, n, _, _, hcl, hxl, hf⟩ := DataW.trod_struct Try.underlying65 h
  have c3 : Try.prog.cellsOf 3 = 1 := by kernel_rfl
  have c9 : Try.prog.cellsOf 9 = 1 := by kernel_rfl
  have cT : Try.prog.cellsOf 65 = 2 := by kernel_rfl
  obtain ⟨a0, h0', g0⟩ := op_field hxl hf 0 _ rfl (op_int Try.underlying3)
  have h0 : (Kd.int .i64).K w a0 ((cs.drop 0).take (Try.prog.cellsOf 3)) := h0'
  rw [c3] at h0
  obtain ⟨a1, h1', g1⟩ := op_field hxl hf 1 _ rfl (op_string Try.underlying9)
  have h1 : Kd.string.K w a1 ((cs.drop 1).take (Try.prog.cellsOf 9)) := h1'
  rw [c9] at h1
  have r1 : Kd.string.K w a1 (cs.drop 1) := by
    rw [List.take_of_length_le (by rw [List.length_drop, hcl, cT]; omega)] at h1
    exact h1
  have r0 : (Kd.pair (Kd.int .i64) Kd.string).K w (a0, a1) (cs.drop 0) := pair_at h0 (by rw [List.drop_drop]; exact r1)
  exact ⟨⟨a0, a1⟩, r0, g0, g1⟩
/-- The pure statement. -/
def Pure : Prop := ∀ (x0 : S65) (x1 : Int) (x2 : ByteArray), Good65 x0 → (fun n => (Lit.int .u32 n).wf = true) x1 → (fun s => s.size ≤ 9223372036854775807) x2 → ∃ k, crosswaylaw04_ParamAnswers.f k x0.f0 x0.f1 x1 x2 = some true
end Go.Proofs.Ytmdncojhnbbafaa.GoodParamAnswers
