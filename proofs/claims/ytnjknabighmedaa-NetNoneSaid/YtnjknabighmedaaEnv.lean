/- The tables of types and functions, for the abstract machine. -/
import Derived.Test.YtnjknabighmedaaVmT
import Derived.Test.YtnjknabighmedaaProg
namespace Go.Proofs.Ytnjknabighmedaa.Vt
open Go Go.Proofs Go.Proofs.YtnjknabighmedaaV
set_option maxRecDepth 100000
set_option linter.unusedVariables false
def t3 : TI := ⟨.int .i64, .int .i64 0, 1, 8, false⟩
theorem t3_ok : TyOk Try.prog 3 t3 := TyOk.mk' Try.underlying3 (by kernel_rfl) (by kernel_rfl) (.inl rfl)
def t4 : TI := ⟨.bool, .bool false, 1, 1, false⟩
theorem t4_ok : TyOk Try.prog 4 t4 := TyOk.mk' Try.underlying4 (by kernel_rfl) (by kernel_rfl) (.inl rfl)
def t5 : TI := ⟨.int .u8, .int .u8 0, 1, 1, false⟩
theorem t5_ok : TyOk Try.prog 5 t5 := TyOk.mk' Try.underlying5 (by kernel_rfl) (by kernel_rfl) (.inl rfl)
def t9 : TI := ⟨.string, .string ⟨#[]⟩, 1, 16, false⟩
theorem t9_ok : TyOk Try.prog 9 t9 := TyOk.mk' Try.underlying9 (by kernel_rfl) (by kernel_rfl) (.inl rfl)
def t23 : TI := ⟨.int .u32, .int .u32 0, 1, 4, false⟩
theorem t23_ok : TyOk Try.prog 23 t23 := TyOk.mk' Try.underlying23 (by kernel_rfl) (by kernel_rfl) (.inl rfl)
def t24 : TI := ⟨.int .u32, .int .u32 0, 1, 4, false⟩
theorem t24_ok : TyOk Try.prog 24 t24 := TyOk.mk' Try.underlying24 (by kernel_rfl) (by kernel_rfl) (.inl rfl)
def t53 : TI := ⟨.pointer 115, .pointer none, 1, 8, false⟩
theorem t53_ok : TyOk Try.prog 53 t53 := TyOk.mk' Try.underlying53 (by kernel_rfl) (by kernel_rfl) (.inl rfl)
def t56 : TI := ⟨.struct #[{ name := "From", type := 24, offset := 0, embedded := false, tag := "", pkgPath := "", byteOffset := 0 }, { name := "To", type := 24, offset := 1, embedded := false, tag := "", pkgPath := "", byteOffset := 4 }, { name := "S", type := 9, offset := 2, embedded := false, tag := "", pkgPath := "", byteOffset := 8 }], .agg #[.int .u32 0, .int .u32 0, .string ⟨#[]⟩], 3, 24, false⟩
theorem t56_ok : TyOk Try.prog 56 t56 := TyOk.mk' Try.underlying56 (by kernel_rfl) (by kernel_rfl) (.inl rfl)
def t57 : TI := ⟨.struct #[{ name := "From", type := 24, offset := 0, embedded := false, tag := "", pkgPath := "", byteOffset := 0 }, { name := "To", type := 24, offset := 1, embedded := false, tag := "", pkgPath := "", byteOffset := 4 }, { name := "S", type := 9, offset := 2, embedded := false, tag := "", pkgPath := "", byteOffset := 8 }], .agg #[.int .u32 0, .int .u32 0, .string ⟨#[]⟩], 3, 24, false⟩
theorem t57_ok : TyOk Try.prog 57 t57 := TyOk.mk' Try.underlying57 (by kernel_rfl) (by kernel_rfl) (.inl rfl)
def t58 : TI := ⟨.struct #[{ name := "Leg", type := 3, offset := 0, embedded := false, tag := "", pkgPath := "", byteOffset := 0 }, { name := "Nat", type := 3, offset := 1, embedded := false, tag := "", pkgPath := "", byteOffset := 8 }, { name := "D", type := 57, offset := 2, embedded := false, tag := "", pkgPath := "", byteOffset := 16 }, { name := "Bent", type := 4, offset := 5, embedded := false, tag := "", pkgPath := "", byteOffset := 40 }], .agg #[.int .i64 0, .int .i64 0, .int .u32 0, .int .u32 0, .string ⟨#[]⟩, .bool false], 6, 48, false⟩
theorem t58_ok : TyOk Try.prog 58 t58 := TyOk.mk' Try.underlying58 (by kernel_rfl) (by kernel_rfl) (.inl rfl)
def t59 : TI := ⟨.struct #[{ name := "Leg", type := 3, offset := 0, embedded := false, tag := "", pkgPath := "", byteOffset := 0 }, { name := "Nat", type := 3, offset := 1, embedded := false, tag := "", pkgPath := "", byteOffset := 8 }, { name := "D", type := 57, offset := 2, embedded := false, tag := "", pkgPath := "", byteOffset := 16 }, { name := "Bent", type := 4, offset := 5, embedded := false, tag := "", pkgPath := "", byteOffset := 40 }], .agg #[.int .i64 0, .int .i64 0, .int .u32 0, .int .u32 0, .string ⟨#[]⟩, .bool false], 6, 48, false⟩
theorem t59_ok : TyOk Try.prog 59 t59 := TyOk.mk' Try.underlying59 (by kernel_rfl) (by kernel_rfl) (.inl rfl)
def t65 : TI := ⟨.slice 59, .slice none 0 0, 1, 24, false⟩
theorem t65_ok : TyOk Try.prog 65 t65 := TyOk.mk' Try.underlying65 (by kernel_rfl) (by kernel_rfl) (.inl rfl)
def t114 : TI := ⟨.struct #[{ name := "list", type := 65, offset := 0, embedded := false, tag := "", pkgPath := "crossway/net", byteOffset := 0 }, { name := "full", type := 3, offset := 1, embedded := false, tag := "", pkgPath := "crossway/net", byteOffset := 24 }], .agg #[.slice none 0 0, .int .i64 0], 2, 32, false⟩
theorem t114_ok : TyOk Try.prog 114 t114 := TyOk.mk' Try.underlying114 (by kernel_rfl) (by kernel_rfl) (.inl rfl)
def t115 : TI := ⟨.struct #[{ name := "list", type := 65, offset := 0, embedded := false, tag := "", pkgPath := "crossway/net", byteOffset := 0 }, { name := "full", type := 3, offset := 1, embedded := false, tag := "", pkgPath := "crossway/net", byteOffset := 24 }], .agg #[.slice none 0 0, .int .i64 0], 2, 32, false⟩
theorem t115_ok : TyOk Try.prog 115 t115 := TyOk.mk' Try.underlying115 (by kernel_rfl) (by kernel_rfl) (.inl rfl)
def t125 : TI := ⟨.slice 5, .slice none 0 0, 1, 24, false⟩
theorem t125_ok : TyOk Try.prog 125 t125 := TyOk.mk' Try.underlying125 (by kernel_rfl) (by kernel_rfl) (.inl rfl)
theorem f10_ok : FnOk Try.prog 10 Try.f10 := ⟨Try.func10, by kernel_rfl⟩
theorem f27_ok : FnOk Try.prog 27 Try.f27 := ⟨Try.func27, by kernel_rfl⟩
theorem f28_ok : FnOk Try.prog 28 Try.f28 := ⟨Try.func28, by kernel_rfl⟩
theorem f29_ok : FnOk Try.prog 29 Try.f29 := ⟨Try.func29, by kernel_rfl⟩
theorem f30_ok : FnOk Try.prog 30 Try.f30 := ⟨Try.func30, by kernel_rfl⟩
theorem f31_ok : FnOk Try.prog 31 Try.f31 := ⟨Try.func31, by kernel_rfl⟩
theorem f32_ok : FnOk Try.prog 32 Try.f32 := ⟨Try.func32, by kernel_rfl⟩
theorem f38_ok : FnOk Try.prog 38 Try.f38 := ⟨Try.func38, by kernel_rfl⟩
theorem f39_ok : FnOk Try.prog 39 Try.f39 := ⟨Try.func39, by kernel_rfl⟩
theorem f41_ok : FnOk Try.prog 41 Try.f41 := ⟨Try.func41, by kernel_rfl⟩
theorem f81_ok : FnOk Try.prog 81 Try.f81 := ⟨Try.func81, by kernel_rfl⟩
theorem f82_ok : FnOk Try.prog 82 Try.f82 := ⟨Try.func82, by kernel_rfl⟩
def g3 : Gd := Gd.int .i64
theorem o3 {N : Nat} {w0 w : World} (hN : N = w.heap.size) : Opn Try.prog N w0 w 3 g3 := Opn.int Try.underlying3
def g24 : Gd := Gd.int .u32
theorem o24 {N : Nat} {w0 w : World} (hN : N = w.heap.size) : Opn Try.prog N w0 w 24 g24 := Opn.int Try.underlying24
def g9 : Gd := Gd.str
theorem o9 {N : Nat} {w0 w : World} (hN : N = w.heap.size) : Opn Try.prog N w0 w 9 g9 := Opn.str Try.underlying9
def g57 : Gd := Gd.agg [g24, g24, g9]
theorem o57 {N : Nat} {w0 w : World} (hN : N = w.heap.size) : Opn Try.prog N w0 w 57 g57 := Opn.struct Try.underlying57 (by kernel_rfl) (show OpnAll Try.prog N w0 w [(24, 0), (24, 1), (9, 2)] [g24, g24, g9] from ⟨o24 hN, o24 hN, o9 hN, trivial⟩)
def g4 : Gd := Gd.bool
theorem o4 {N : Nat} {w0 w : World} (hN : N = w.heap.size) : Opn Try.prog N w0 w 4 g4 := Opn.bool Try.underlying4
def g59 : Gd := Gd.agg [g3, g3, g57, g4]
theorem o59 {N : Nat} {w0 w : World} (hN : N = w.heap.size) : Opn Try.prog N w0 w 59 g59 := Opn.struct Try.underlying59 (by kernel_rfl) (show OpnAll Try.prog N w0 w [(3, 0), (3, 1), (57, 2), (4, 5)] [g3, g3, g57, g4] from ⟨o3 hN, o3 hN, o57 hN, o4 hN, trivial⟩)
noncomputable def tys : Tr TI := (.node 56 t56 (.node 9 t9 (.node 4 t4 (.node 3 t3 .leaf .leaf) (.node 5 t5 .leaf .leaf)) (.node 24 t24 (.node 23 t23 .leaf .leaf) (.node 53 t53 .leaf .leaf))) (.node 65 t65 (.node 58 t58 (.node 57 t57 .leaf .leaf) (.node 59 t59 .leaf .leaf)) (.node 115 t115 (.node 114 t114 .leaf .leaf) (.node 125 t125 .leaf .leaf))))
noncomputable def fns : Tr Func := (.node 32 Try.f32 (.node 29 Try.f29 (.node 27 Try.f27 (.node 10 Try.f10 .leaf .leaf) (.node 28 Try.f28 .leaf .leaf)) (.node 31 Try.f31 (.node 30 Try.f30 .leaf .leaf) .leaf)) (.node 41 Try.f41 (.node 39 Try.f39 (.node 38 Try.f38 .leaf .leaf) .leaf) (.node 82 Try.f82 (.node 81 Try.f81 .leaf .leaf) .leaf)))
noncomputable def env : Env := mkEnv tys fns
theorem env_ok : EnvOk Try.prog env := mkEnv_ok (T := tys) (F := fns) ⟨t56_ok, ⟨t9_ok, ⟨t4_ok, ⟨t3_ok, trivial, trivial⟩, ⟨t5_ok, trivial, trivial⟩⟩, ⟨t24_ok, ⟨t23_ok, trivial, trivial⟩, ⟨t53_ok, trivial, trivial⟩⟩⟩, ⟨t65_ok, ⟨t58_ok, ⟨t57_ok, trivial, trivial⟩, ⟨t59_ok, trivial, trivial⟩⟩, ⟨t115_ok, ⟨t114_ok, trivial, trivial⟩, ⟨t125_ok, trivial, trivial⟩⟩⟩⟩ ⟨f32_ok, ⟨f29_ok, ⟨f27_ok, ⟨f10_ok, trivial, trivial⟩, ⟨f28_ok, trivial, trivial⟩⟩, ⟨f31_ok, ⟨f30_ok, trivial, trivial⟩, trivial⟩⟩, ⟨f41_ok, ⟨f39_ok, ⟨f38_ok, trivial, trivial⟩, trivial⟩, ⟨f82_ok, ⟨f81_ok, trivial, trivial⟩, trivial⟩⟩⟩ (by kernel_rfl)
end Go.Proofs.Ytnjknabighmedaa.Vt
