/- Part 4 of the texts that prove FilerNone: the abstract machine, its calculus, and walks through functions; joined by a program of this workplace. -/
import Derived.Test.YtdiofapingdlmaaZFilerNone3
import Derived.Test.YtdiofapingdlmaaProg
/- The tables of types and functions, for the abstract machine. -/
namespace Go.Proofs.Ytdiofapingdlmaa.Vt
open Go Go.Proofs Go.Proofs.YtdiofapingdlmaaV
set_option maxRecDepth 100000
set_option linter.unusedVariables false
def t3 : TI := ⟨.int .i64, .int .i64 0, 1, 8, false⟩
theorem t3_ok : TyOk Try.prog 3 t3 := TyOk.mk' Try.underlying3 (by kernel_rfl) (by kernel_rfl) (.inl rfl)
def t4 : TI := ⟨.bool, .bool false, 1, 1, false⟩
theorem t4_ok : TyOk Try.prog 4 t4 := TyOk.mk' Try.underlying4 (by kernel_rfl) (by kernel_rfl) (.inl rfl)
def t5 : TI := ⟨.int .u8, .int .u8 0, 1, 1, false⟩
theorem t5_ok : TyOk Try.prog 5 t5 := TyOk.mk' Try.underlying5 (by kernel_rfl) (by kernel_rfl) (.inl rfl)
def t9 : TI := ⟨.string, .string ⟨#[]⟩, 1, 16, false⟩
theorem t9_ok : TyOk Try.prog 9 t9 := TyOk.mk' Try.underlying9 (by kernel_rfl) (by kernel_rfl) (.inl rfl)
def t22 : TI := ⟨.slice 3, .slice none 0 0, 1, 24, false⟩
theorem t22_ok : TyOk Try.prog 22 t22 := TyOk.mk' Try.underlying22 (by kernel_rfl) (by kernel_rfl) (.inl rfl)
def t23 : TI := ⟨.int .u32, .int .u32 0, 1, 4, false⟩
theorem t23_ok : TyOk Try.prog 23 t23 := TyOk.mk' Try.underlying23 (by kernel_rfl) (by kernel_rfl) (.inl rfl)
def t25 : TI := ⟨.struct #[{ name := "ID", type := 23, offset := 0, embedded := false, tag := "", pkgPath := "", byteOffset := 0 }, { name := "Data", type := 9, offset := 1, embedded := false, tag := "", pkgPath := "", byteOffset := 8 }], .agg #[.int .u32 0, .string ⟨#[]⟩], 2, 24, true⟩
theorem t25_ok : TyOk Try.prog 25 t25 := TyOk.mk' Try.underlying25 (by kernel_rfl) (by kernel_rfl) (.inr ⟨by kernel_rfl, by kernel_rfl⟩)
def t26 : TI := ⟨.struct #[{ name := "ID", type := 23, offset := 0, embedded := false, tag := "", pkgPath := "", byteOffset := 0 }, { name := "Data", type := 9, offset := 1, embedded := false, tag := "", pkgPath := "", byteOffset := 8 }], .agg #[.int .u32 0, .string ⟨#[]⟩], 2, 24, true⟩
theorem t26_ok : TyOk Try.prog 26 t26 := TyOk.mk' Try.underlying26 (by kernel_rfl) (by kernel_rfl) (.inr ⟨by kernel_rfl, by kernel_rfl⟩)
def t27 : TI := ⟨.pointer 54, .pointer none, 1, 8, false⟩
theorem t27_ok : TyOk Try.prog 27 t27 := TyOk.mk' Try.underlying27 (by kernel_rfl) (by kernel_rfl) (.inl rfl)
def t29 : TI := ⟨.slice 4, .slice none 0 0, 1, 24, false⟩
theorem t29_ok : TyOk Try.prog 29 t29 := TyOk.mk' Try.underlying29 (by kernel_rfl) (by kernel_rfl) (.inl rfl)
def t30 : TI := ⟨.int .i64, .int .i64 0, 1, 8, false⟩
theorem t30_ok : TyOk Try.prog 30 t30 := TyOk.mk' Try.underlying30 (by kernel_rfl) (by kernel_rfl) (.inl rfl)
def t37 : TI := ⟨.array 2 3, .agg #[.int .i64 0, .int .i64 0], 2, 16, false⟩
theorem t37_ok : TyOk Try.prog 37 t37 := TyOk.mk' Try.underlying37 (by kernel_rfl) (by kernel_rfl) (.inl rfl)
def t39 : TI := ⟨.int .u64, .int .u64 0, 1, 8, false⟩
theorem t39_ok : TyOk Try.prog 39 t39 := TyOk.mk' Try.underlying39 (by kernel_rfl) (by kernel_rfl) (.inl rfl)
def t41 : TI := ⟨.pointer 70, .pointer none, 1, 8, false⟩
theorem t41_ok : TyOk Try.prog 41 t41 := TyOk.mk' Try.underlying41 (by kernel_rfl) (by kernel_rfl) (.inl rfl)
def t43 : TI := ⟨.slice 5, .slice none 0 0, 1, 24, false⟩
theorem t43_ok : TyOk Try.prog 43 t43 := TyOk.mk' Try.underlying43 (by kernel_rfl) (by kernel_rfl) (.inl rfl)
def t46 : TI := ⟨.slice 9, .slice none 0 0, 1, 24, false⟩
theorem t46_ok : TyOk Try.prog 46 t46 := TyOk.mk' Try.underlying46 (by kernel_rfl) (by kernel_rfl) (.inl rfl)
def t47 : TI := ⟨.slice 26, .slice none 0 0, 1, 24, false⟩
theorem t47_ok : TyOk Try.prog 47 t47 := TyOk.mk' Try.underlying47 (by kernel_rfl) (by kernel_rfl) (.inl rfl)
def t52 : TI := ⟨.slice 60, .slice none 0 0, 1, 24, false⟩
theorem t52_ok : TyOk Try.prog 52 t52 := TyOk.mk' Try.underlying52 (by kernel_rfl) (by kernel_rfl) (.inl rfl)
def t53 : TI := ⟨.struct #[{ name := "list", type := 52, offset := 0, embedded := false, tag := "", pkgPath := "crossway/filer", byteOffset := 0 }], .agg #[.slice none 0 0], 1, 24, false⟩
theorem t53_ok : TyOk Try.prog 53 t53 := TyOk.mk' Try.underlying53 (by kernel_rfl) (by kernel_rfl) (.inl rfl)
def t54 : TI := ⟨.struct #[{ name := "list", type := 52, offset := 0, embedded := false, tag := "", pkgPath := "crossway/filer", byteOffset := 0 }], .agg #[.slice none 0 0], 1, 24, false⟩
theorem t54_ok : TyOk Try.prog 54 t54 := TyOk.mk' Try.underlying54 (by kernel_rfl) (by kernel_rfl) (.inl rfl)
def t55 : TI := ⟨.struct #[{ name := "id", type := 23, offset := 0, embedded := false, tag := "", pkgPath := "crossway/filer", byteOffset := 0 }, { name := "all", type := 3, offset := 1, embedded := false, tag := "", pkgPath := "crossway/filer", byteOffset := 8 }, { name := "at", type := 3, offset := 2, embedded := false, tag := "", pkgPath := "crossway/filer", byteOffset := 16 }, { name := "data", type := 9, offset := 3, embedded := false, tag := "", pkgPath := "crossway/filer", byteOffset := 24 }], .agg #[.int .u32 0, .int .i64 0, .int .i64 0, .string ⟨#[]⟩], 4, 40, false⟩
theorem t55_ok : TyOk Try.prog 55 t55 := TyOk.mk' Try.underlying55 (by kernel_rfl) (by kernel_rfl) (.inl rfl)
def t56 : TI := ⟨.struct #[{ name := "id", type := 23, offset := 0, embedded := false, tag := "", pkgPath := "crossway/filer", byteOffset := 0 }, { name := "all", type := 3, offset := 1, embedded := false, tag := "", pkgPath := "crossway/filer", byteOffset := 8 }, { name := "at", type := 3, offset := 2, embedded := false, tag := "", pkgPath := "crossway/filer", byteOffset := 16 }, { name := "data", type := 9, offset := 3, embedded := false, tag := "", pkgPath := "crossway/filer", byteOffset := 24 }], .agg #[.int .u32 0, .int .i64 0, .int .i64 0, .string ⟨#[]⟩], 4, 40, false⟩
theorem t56_ok : TyOk Try.prog 56 t56 := TyOk.mk' Try.underlying56 (by kernel_rfl) (by kernel_rfl) (.inl rfl)
def t60 : TI := ⟨.pointer 64, .pointer none, 1, 8, false⟩
theorem t60_ok : TyOk Try.prog 60 t60 := TyOk.mk' Try.underlying60 (by kernel_rfl) (by kernel_rfl) (.inl rfl)
def t61 : TI := ⟨.func #[60] #[4] false, .nilFunc, 1, 8, false⟩
theorem t61_ok : TyOk Try.prog 61 t61 := TyOk.mk' Try.underlying61 (by kernel_rfl) (by kernel_rfl) (.inl rfl)
def t62 : TI := ⟨.map 3 9, .map none, 1, 8, false⟩
theorem t62_ok : TyOk Try.prog 62 t62 := TyOk.mk' Try.underlying62 (by kernel_rfl) (by kernel_rfl) (.inl rfl)
def t63 : TI := ⟨.struct #[{ name := "id", type := 23, offset := 0, embedded := false, tag := "", pkgPath := "crossway/filer", byteOffset := 0 }, { name := "all", type := 3, offset := 1, embedded := false, tag := "", pkgPath := "crossway/filer", byteOffset := 8 }, { name := "got", type := 62, offset := 2, embedded := false, tag := "", pkgPath := "crossway/filer", byteOffset := 16 }], .agg #[.int .u32 0, .int .i64 0, .map none], 3, 24, false⟩
theorem t63_ok : TyOk Try.prog 63 t63 := TyOk.mk' Try.underlying63 (by kernel_rfl) (by kernel_rfl) (.inl rfl)
def t64 : TI := ⟨.struct #[{ name := "id", type := 23, offset := 0, embedded := false, tag := "", pkgPath := "crossway/filer", byteOffset := 0 }, { name := "all", type := 3, offset := 1, embedded := false, tag := "", pkgPath := "crossway/filer", byteOffset := 8 }, { name := "got", type := 62, offset := 2, embedded := false, tag := "", pkgPath := "crossway/filer", byteOffset := 16 }], .agg #[.int .u32 0, .int .i64 0, .map none], 3, 24, false⟩
theorem t64_ok : TyOk Try.prog 64 t64 := TyOk.mk' Try.underlying64 (by kernel_rfl) (by kernel_rfl) (.inl rfl)
def t69 : TI := ⟨.struct #[{ name := "list", type := 47, offset := 0, embedded := false, tag := "", pkgPath := "crossway/filer", byteOffset := 0 }, { name := "at", type := 22, offset := 1, embedded := false, tag := "", pkgPath := "crossway/filer", byteOffset := 24 }, { name := "turn", type := 3, offset := 2, embedded := false, tag := "", pkgPath := "crossway/filer", byteOffset := 48 }], .agg #[.slice none 0 0, .slice none 0 0, .int .i64 0], 3, 56, false⟩
theorem t69_ok : TyOk Try.prog 69 t69 := TyOk.mk' Try.underlying69 (by kernel_rfl) (by kernel_rfl) (.inl rfl)
def t70 : TI := ⟨.struct #[{ name := "list", type := 47, offset := 0, embedded := false, tag := "", pkgPath := "crossway/filer", byteOffset := 0 }, { name := "at", type := 22, offset := 1, embedded := false, tag := "", pkgPath := "crossway/filer", byteOffset := 24 }, { name := "turn", type := 3, offset := 2, embedded := false, tag := "", pkgPath := "crossway/filer", byteOffset := 48 }], .agg #[.slice none 0 0, .slice none 0 0, .int .i64 0], 3, 56, false⟩
theorem t70_ok : TyOk Try.prog 70 t70 := TyOk.mk' Try.underlying70 (by kernel_rfl) (by kernel_rfl) (.inl rfl)
def t72 : TI := ⟨.func #[26] #[4] false, .nilFunc, 1, 8, false⟩
theorem t72_ok : TyOk Try.prog 72 t72 := TyOk.mk' Try.underlying72 (by kernel_rfl) (by kernel_rfl) (.inl rfl)
def t75 : TI := ⟨.pointer 83, .pointer none, 1, 8, false⟩
theorem t75_ok : TyOk Try.prog 75 t75 := TyOk.mk' Try.underlying75 (by kernel_rfl) (by kernel_rfl) (.inl rfl)
def t82 : TI := ⟨.struct #[{ name := "s", type := 9, offset := 0, embedded := false, tag := "", pkgPath := "crossway/octet", byteOffset := 0 }, { name := "err", type := 30, offset := 1, embedded := false, tag := "", pkgPath := "crossway/octet", byteOffset := 16 }], .agg #[.string ⟨#[]⟩, .int .i64 0], 2, 24, false⟩
theorem t82_ok : TyOk Try.prog 82 t82 := TyOk.mk' Try.underlying82 (by kernel_rfl) (by kernel_rfl) (.inl rfl)
def t83 : TI := ⟨.struct #[{ name := "s", type := 9, offset := 0, embedded := false, tag := "", pkgPath := "crossway/octet", byteOffset := 0 }, { name := "err", type := 30, offset := 1, embedded := false, tag := "", pkgPath := "crossway/octet", byteOffset := 16 }], .agg #[.string ⟨#[]⟩, .int .i64 0], 2, 24, false⟩
theorem t83_ok : TyOk Try.prog 83 t83 := TyOk.mk' Try.underlying83 (by kernel_rfl) (by kernel_rfl) (.inl rfl)
theorem f3_ok : FnOk Try.prog 3 Try.f3 := ⟨Try.func3, by kernel_rfl⟩
theorem f4_ok : FnOk Try.prog 4 Try.f4 := ⟨Try.func4, by kernel_rfl⟩
theorem f5_ok : FnOk Try.prog 5 Try.f5 := ⟨Try.func5, by kernel_rfl⟩
theorem f6_ok : FnOk Try.prog 6 Try.f6 := ⟨Try.func6, by kernel_rfl⟩
theorem f7_ok : FnOk Try.prog 7 Try.f7 := ⟨Try.func7, by kernel_rfl⟩
theorem f8_ok : FnOk Try.prog 8 Try.f8 := ⟨Try.func8, by kernel_rfl⟩
theorem f9_ok : FnOk Try.prog 9 Try.f9 := ⟨Try.func9, by kernel_rfl⟩
theorem f10_ok : FnOk Try.prog 10 Try.f10 := ⟨Try.func10, by kernel_rfl⟩
theorem f11_ok : FnOk Try.prog 11 Try.f11 := ⟨Try.func11, by kernel_rfl⟩
theorem f12_ok : FnOk Try.prog 12 Try.f12 := ⟨Try.func12, by kernel_rfl⟩
theorem f13_ok : FnOk Try.prog 13 Try.f13 := ⟨Try.func13, by kernel_rfl⟩
theorem f14_ok : FnOk Try.prog 14 Try.f14 := ⟨Try.func14, by kernel_rfl⟩
theorem f15_ok : FnOk Try.prog 15 Try.f15 := ⟨Try.func15, by kernel_rfl⟩
theorem f16_ok : FnOk Try.prog 16 Try.f16 := ⟨Try.func16, by kernel_rfl⟩
theorem f17_ok : FnOk Try.prog 17 Try.f17 := ⟨Try.func17, by kernel_rfl⟩
theorem f18_ok : FnOk Try.prog 18 Try.f18 := ⟨Try.func18, by kernel_rfl⟩
theorem f19_ok : FnOk Try.prog 19 Try.f19 := ⟨Try.func19, by kernel_rfl⟩
theorem f20_ok : FnOk Try.prog 20 Try.f20 := ⟨Try.func20, by kernel_rfl⟩
theorem f21_ok : FnOk Try.prog 21 Try.f21 := ⟨Try.func21, by kernel_rfl⟩
theorem f22_ok : FnOk Try.prog 22 Try.f22 := ⟨Try.func22, by kernel_rfl⟩
theorem f23_ok : FnOk Try.prog 23 Try.f23 := ⟨Try.func23, by kernel_rfl⟩
theorem f24_ok : FnOk Try.prog 24 Try.f24 := ⟨Try.func24, by kernel_rfl⟩
theorem f25_ok : FnOk Try.prog 25 Try.f25 := ⟨Try.func25, by kernel_rfl⟩
theorem f26_ok : FnOk Try.prog 26 Try.f26 := ⟨Try.func26, by kernel_rfl⟩
theorem f27_ok : FnOk Try.prog 27 Try.f27 := ⟨Try.func27, by kernel_rfl⟩
theorem f28_ok : FnOk Try.prog 28 Try.f28 := ⟨Try.func28, by kernel_rfl⟩
theorem f29_ok : FnOk Try.prog 29 Try.f29 := ⟨Try.func29, by kernel_rfl⟩
theorem f30_ok : FnOk Try.prog 30 Try.f30 := ⟨Try.func30, by kernel_rfl⟩
theorem f31_ok : FnOk Try.prog 31 Try.f31 := ⟨Try.func31, by kernel_rfl⟩
theorem f32_ok : FnOk Try.prog 32 Try.f32 := ⟨Try.func32, by kernel_rfl⟩
theorem f33_ok : FnOk Try.prog 33 Try.f33 := ⟨Try.func33, by kernel_rfl⟩
theorem f34_ok : FnOk Try.prog 34 Try.f34 := ⟨Try.func34, by kernel_rfl⟩
theorem f35_ok : FnOk Try.prog 35 Try.f35 := ⟨Try.func35, by kernel_rfl⟩
theorem f36_ok : FnOk Try.prog 36 Try.f36 := ⟨Try.func36, by kernel_rfl⟩
theorem f37_ok : FnOk Try.prog 37 Try.f37 := ⟨Try.func37, by kernel_rfl⟩
theorem f38_ok : FnOk Try.prog 38 Try.f38 := ⟨Try.func38, by kernel_rfl⟩
theorem f39_ok : FnOk Try.prog 39 Try.f39 := ⟨Try.func39, by kernel_rfl⟩
def g9 : Gd := Gd.str
theorem o9 {N : Nat} {w0 w : World} (hN : N = w.heap.size) : Opn Try.prog N w0 w 9 g9 := Opn.str Try.underlying9
def g3 : Gd := Gd.int .i64
def g23 : Gd := Gd.int .u32
theorem o23 {N : Nat} {w0 w : World} (hN : N = w.heap.size) : Opn Try.prog N w0 w 23 g23 := Opn.int Try.underlying23
def g26 : Gd := Gd.agg [g23, g9]
theorem o26 {N : Nat} {w0 w : World} (hN : N = w.heap.size) : Opn Try.prog N w0 w 26 g26 := Opn.struct Try.underlying26 (by kernel_rfl) (show OpnAll Try.prog N w0 w [(23, 0), (9, 1)] [g23, g9] from ⟨o23 hN, o9 hN, trivial⟩)
noncomputable def tys : Tr TI := (.node 47 t47 (.node 27 t27 (.node 22 t22 (.node 5 t5 (.node 4 t4 (.node 3 t3 .leaf .leaf) .leaf) (.node 9 t9 .leaf .leaf)) (.node 25 t25 (.node 23 t23 .leaf .leaf) (.node 26 t26 .leaf .leaf))) (.node 39 t39 (.node 30 t30 (.node 29 t29 .leaf .leaf) (.node 37 t37 .leaf .leaf)) (.node 43 t43 (.node 41 t41 .leaf .leaf) (.node 46 t46 .leaf .leaf)))) (.node 63 t63 (.node 56 t56 (.node 54 t54 (.node 53 t53 (.node 52 t52 .leaf .leaf) .leaf) (.node 55 t55 .leaf .leaf)) (.node 61 t61 (.node 60 t60 .leaf .leaf) (.node 62 t62 .leaf .leaf))) (.node 72 t72 (.node 69 t69 (.node 64 t64 .leaf .leaf) (.node 70 t70 .leaf .leaf)) (.node 82 t82 (.node 75 t75 .leaf .leaf) (.node 83 t83 .leaf .leaf)))))
noncomputable def fns : Tr Func := (.node 21 Try.f21 (.node 12 Try.f12 (.node 7 Try.f7 (.node 5 Try.f5 (.node 4 Try.f4 (.node 3 Try.f3 .leaf .leaf) .leaf) (.node 6 Try.f6 .leaf .leaf)) (.node 10 Try.f10 (.node 9 Try.f9 (.node 8 Try.f8 .leaf .leaf) .leaf) (.node 11 Try.f11 .leaf .leaf))) (.node 17 Try.f17 (.node 15 Try.f15 (.node 14 Try.f14 (.node 13 Try.f13 .leaf .leaf) .leaf) (.node 16 Try.f16 .leaf .leaf)) (.node 19 Try.f19 (.node 18 Try.f18 .leaf .leaf) (.node 20 Try.f20 .leaf .leaf)))) (.node 31 Try.f31 (.node 26 Try.f26 (.node 24 Try.f24 (.node 23 Try.f23 (.node 22 Try.f22 .leaf .leaf) .leaf) (.node 25 Try.f25 .leaf .leaf)) (.node 29 Try.f29 (.node 28 Try.f28 (.node 27 Try.f27 .leaf .leaf) .leaf) (.node 30 Try.f30 .leaf .leaf))) (.node 36 Try.f36 (.node 34 Try.f34 (.node 33 Try.f33 (.node 32 Try.f32 .leaf .leaf) .leaf) (.node 35 Try.f35 .leaf .leaf)) (.node 38 Try.f38 (.node 37 Try.f37 .leaf .leaf) (.node 39 Try.f39 .leaf .leaf)))))
noncomputable def env : Env := mkEnv tys fns
theorem env_ok : EnvOk Try.prog env := mkEnv_ok (T := tys) (F := fns) ⟨t47_ok, ⟨t27_ok, ⟨t22_ok, ⟨t5_ok, ⟨t4_ok, ⟨t3_ok, trivial, trivial⟩, trivial⟩, ⟨t9_ok, trivial, trivial⟩⟩, ⟨t25_ok, ⟨t23_ok, trivial, trivial⟩, ⟨t26_ok, trivial, trivial⟩⟩⟩, ⟨t39_ok, ⟨t30_ok, ⟨t29_ok, trivial, trivial⟩, ⟨t37_ok, trivial, trivial⟩⟩, ⟨t43_ok, ⟨t41_ok, trivial, trivial⟩, ⟨t46_ok, trivial, trivial⟩⟩⟩⟩, ⟨t63_ok, ⟨t56_ok, ⟨t54_ok, ⟨t53_ok, ⟨t52_ok, trivial, trivial⟩, trivial⟩, ⟨t55_ok, trivial, trivial⟩⟩, ⟨t61_ok, ⟨t60_ok, trivial, trivial⟩, ⟨t62_ok, trivial, trivial⟩⟩⟩, ⟨t72_ok, ⟨t69_ok, ⟨t64_ok, trivial, trivial⟩, ⟨t70_ok, trivial, trivial⟩⟩, ⟨t82_ok, ⟨t75_ok, trivial, trivial⟩, ⟨t83_ok, trivial, trivial⟩⟩⟩⟩⟩ ⟨f21_ok, ⟨f12_ok, ⟨f7_ok, ⟨f5_ok, ⟨f4_ok, ⟨f3_ok, trivial, trivial⟩, trivial⟩, ⟨f6_ok, trivial, trivial⟩⟩, ⟨f10_ok, ⟨f9_ok, ⟨f8_ok, trivial, trivial⟩, trivial⟩, ⟨f11_ok, trivial, trivial⟩⟩⟩, ⟨f17_ok, ⟨f15_ok, ⟨f14_ok, ⟨f13_ok, trivial, trivial⟩, trivial⟩, ⟨f16_ok, trivial, trivial⟩⟩, ⟨f19_ok, ⟨f18_ok, trivial, trivial⟩, ⟨f20_ok, trivial, trivial⟩⟩⟩⟩, ⟨f31_ok, ⟨f26_ok, ⟨f24_ok, ⟨f23_ok, ⟨f22_ok, trivial, trivial⟩, trivial⟩, ⟨f25_ok, trivial, trivial⟩⟩, ⟨f29_ok, ⟨f28_ok, ⟨f27_ok, trivial, trivial⟩, trivial⟩, ⟨f30_ok, trivial, trivial⟩⟩⟩, ⟨f36_ok, ⟨f34_ok, ⟨f33_ok, ⟨f32_ok, trivial, trivial⟩, trivial⟩, ⟨f35_ok, trivial, trivial⟩⟩, ⟨f38_ok, ⟨f37_ok, trivial, trivial⟩, ⟨f39_ok, trivial, trivial⟩⟩⟩⟩⟩ (by kernel_rfl)
instance : Plain env := ⟨fun _ _ _ => rfl⟩
end Go.Proofs.Ytdiofapingdlmaa.Vt
/- Fd: walks through functions of the program, by the calculus; written by a program of this workplace. -/
namespace Go.Proofs.Ytdiofapingdlmaa.Vt
open Go Go.Proofs Go.Proofs.YtdiofapingdlmaaV
set_option maxRecDepth 100000
set_option linter.unusedVariables false
set_option linter.unusedSimpArgs false
set_option maxHeartbeats 8000000
def beN (l : List UInt8) : Nat := l.foldl (fun a b => a * 256 + b.toNat) 0
theorem beN_snoc (l : List UInt8) (b : UInt8) : beN (l ++ [b]) = beN l * 256 + b.toNat := by unfold beN; rw [List.foldl_append]; rfl
theorem beN_take (s : ByteArray) (i : Nat) (h : i < s.size) : beN ((L s).take (i + 1)) = beN ((L s).take i) * 256 + (s.get! i).toNat := by
  rw [List.take_add_one, L_get s i h]
  exact beN_snoc _ _
def at_ (v : ByteArray) (p k : Nat) : Nat := beN (((L v).drop p).take k)
def w32 (v : ByteArray) (p : Nat) : BitVec 32 := BitVec.ofNat 32 (at_ v p 4)
theorem ext_pos (v : ByteArray) (p k : Nat) (h : p + k ≤ v.size) : (v.extract p v.size).extract k (v.extract p v.size).size = v.extract (p + k) v.size := by
  apply L_ext
  rw [L_extract, L_extract, L_extract, size_cut _ _ _ (Nat.le_refl _), List.drop_take, List.drop_drop, List.take_take]
  congr 1
  omega
theorem beN_pos (v : ByteArray) (p k : Nat) (h : p + k ≤ v.size) : beN ((L (v.extract p v.size)).take k) = at_ v p k := by
  rw [at_, L_extract, List.take_take]
  congr 2
  omega
theorem ext_all (v : ByteArray) : v.extract 0 v.size = v := by
  apply L_ext; rw [L_extract, List.drop_zero, List.take_of_length_le (by rw [L_len]; omega)]
theorem rNew {n : Nat} {σ : Store} (hd : Dom n σ) (s : ByteArray)   : CQ Try.prog noDen 31 [(.string s)] n σ (fun v n' d => ∃ i, n ≤ i ∧ i < n' ∧ v = .pointer (some ⟨i, 0, some 0⟩) ∧ d = [(i, some ⟨[[(.string (s.extract 0 s.size)), (.int .i64 0)]], 2, 83, true⟩)]) := by
 refine CQ.body (E := env) env_ok hd rfl rfl (by show _ ≤ _; exact of_decide_eq_true (by kernel_rfl)) ?_
 refine RA.sR hd env_ok <| OA.ps [(2, (.pointer none))] rfl <| OA.nil fun _ => RA.sR hd env_ok <| OA.ps [(3, (.string s))] rfl <| oP 4 (.agg ⟨[(.string s), (.int .i64 0)]⟩) rfl (by kernel_rfl) <| o1 (some 5) (.pointer (some ⟨n, 0, some 0⟩)) (n + 1) (n, some ⟨[[(.string s), (.int .i64 0)]], 2, 83, true⟩) rfl <| OA.ps [(2, (.pointer (some ⟨n, 0, some 0⟩)))] rfl <| OA.nil fun _ => ?_
 refine RA.ret env_ok ?_
 refine ⟨.inr rfl, [(.pointer (some ⟨n, 0, some 0⟩))], (resL_cons rfl resL_nil), [(n, some ⟨[[(.string s), (.int .i64 0)]], 2, 83, true⟩)], (Less.refl _ _ _), ⟨n, by omega, by omega, rfl, by rw [ext_all]⟩⟩
theorem rErr {σ : Store} (r : Nat) (s : ByteArray) (e : Int) (hr : σ r = some ⟨[[(.string s), (.int .i64 e)]], 2, 83, true⟩)  : PS Try.prog noDen 34 [(.pointer (some ⟨r, 0, some 0⟩))] σ (.int .i64 e) := by
 refine PS.body (E := env) env_ok rfl rfl (by show _ ≤ _; exact of_decide_eq_true (by kernel_rfl)) (fun n hd => ?_)
 have lhr := hd.lt hr
 refine RA.sR hd env_ok <| OA.ps [(2, (.int .i64 0))] rfl <| OA.nil fun _ => RA.seq hd <| RA.sR hd env_ok <| OA.ps [(3, (.pointer (some ⟨r, 0, some 0⟩))), (4, yF)] rfl <| OA.nil fun _ => RA.condF rfl <| RA.skip env_ok ?_
 intro _
 refine RA.sR hd env_ok <| OA.ps [(5, (.pointer (some ⟨r, 0, some 0⟩))), (6, (.pointer (some ⟨r, 0, some 0⟩))), (7, (.pointer (some ⟨r, 0, some 1⟩)))] rfl <| oL 8 (.int .i64 e) hr <| OA.ps [(2, (.int .i64 e))] rfl <| OA.nil fun _ => ?_
 refine RA.ret env_ok ?_
 exact lf (.int .i64 e) rfl
theorem rFail {n : Nat} {σ : Store} (hd : Dom n σ) (r : Nat) (s : ByteArray) (e : Int) (hr : σ r = some ⟨[[(.string s), (.int .i64 0)]], 2, 83, true⟩)  : CQ Try.prog noDen 39 [(.pointer (some ⟨r, 0, some 0⟩)), (.int .i64 e)] n σ (fun v n' d => v = .tuple #[] ∧ d = [(r, some ⟨[[(.string s), (.int .i64 e)]], 2, 83, true⟩)]) := by
 have lhr := hd.lt hr
 refine CQ.body (E := env) env_ok hd rfl rfl (by show _ ≤ _; exact of_decide_eq_true (by kernel_rfl)) ?_
 refine RA.sR hd env_ok <| OA.ps [(4, (.pointer (some ⟨r, 0, some 0⟩))), (5, yT), (6, yT), (7, (.pointer (some ⟨r, 0, some 0⟩))), (8, (.pointer (some ⟨r, 0, some 0⟩))), (9, (.pointer (some ⟨r, 0, some 1⟩)))] rfl <| oL 10 (.int .i64 0) hr <| oP 11 yT rfl (r_bin rfl rfl rfl (b_eql rfl)) <| OA.ps [(12, yT)] rfl <| OA.nil fun _ => RA.condT rfl <| RA.region env_ok <| OA.ps [(13, (.pointer (some ⟨r, 0, some 0⟩))), (14, (.int .i64 e)), (15, (.pointer (some ⟨r, 0, some 0⟩))), (16, (.pointer (some ⟨r, 0, some 1⟩)))] rfl <| o1 none yU n (r, some ⟨[[(.string s), (.int .i64 e)]], 2, 83, true⟩) (rS hr) <| OA.nil ?_
 refine ⟨.inl rfl, [], resL_nil, [(r, some ⟨[[(.string s), (.int .i64 e)]], 2, 83, true⟩)], (Less.refl _ _ _), ⟨rfl, rfl⟩⟩
theorem rFail2 {n : Nat} {σ : Store} (hd : Dom n σ) (r : Nat) (s : ByteArray) (e : Int) (hr : σ r = some ⟨[[(.string s), (.int .i64 2)]], 2, 83, true⟩)  : CQ Try.prog noDen 39 [(.pointer (some ⟨r, 0, some 0⟩)), (.int .i64 e)] n σ (fun v n' d => v = .tuple #[] ∧ d = []) := by
 have lhr := hd.lt hr
 refine CQ.body (E := env) env_ok hd rfl rfl (by show _ ≤ _; exact of_decide_eq_true (by kernel_rfl)) ?_
 refine RA.sR hd env_ok <| OA.ps [(4, (.pointer (some ⟨r, 0, some 0⟩))), (5, yT), (6, yT), (7, (.pointer (some ⟨r, 0, some 0⟩))), (8, (.pointer (some ⟨r, 0, some 0⟩))), (9, (.pointer (some ⟨r, 0, some 1⟩)))] rfl <| oL 10 (.int .i64 2) hr <| oP 11 yF rfl (r_bin rfl rfl rfl (b_eql rfl)) <| OA.ps [(12, yF)] rfl <| OA.nil fun _ => RA.condF rfl <| RA.skip env_ok ?_
 refine ⟨.inl rfl, [], resL_nil, [], (Less.refl _ _ _), ⟨rfl, rfl⟩⟩
theorem rTake {n : Nat} {σ : Store} (hd : Dom n σ) (r : Nat) (s : ByteArray) (k : Nat) (hk : k ≤ s.size) (hs : s.size < 9223372036854775808) (hr : σ r = some ⟨[[(.string s), (.int .i64 0)]], 2, 83, true⟩)  : CQ Try.prog noDen 37 [(.pointer (some ⟨r, 0, some 0⟩)), (.int .i64 ((k : Nat) : Int))] n σ (fun v n' d => v = .string (s.extract 0 k) ∧ d = [(r, some ⟨[[(.string (s.extract k s.size)), (.int .i64 0)]], 2, 83, true⟩)]) := by
 have lhr := hd.lt hr
 refine CQ.body (E := env) env_ok hd rfl rfl (by show _ ≤ _; exact of_decide_eq_true (by kernel_rfl)) ?_
 refine RA.sR hd env_ok <| OA.ps [(4, (.string (ByteArray.mk #[])))] rfl <| OA.nil fun _ => RA.seq hd <| RA.sR hd env_ok <| OA.ps [(6, (.pointer (some ⟨r, 0, some 0⟩)))] rfl <| oC 7 (v := (.int .i64 0)) (hd.up (by omega)) rfl rfl (rErr r _ 0 hr) fun n1 hn1 => oP 8 yF rfl (r_bin rfl rfl rfl (b_neq rfl)) <| OA.ps [(9, yF), (10, (.int .i64 ((k : Nat) : Int)))] rfl ?_
 have hc1 : ¬ (((k : Nat) : Int) < 0) := fun hdd => by exfalso; omega
 refine oP 11 yF rfl (Eq.trans (r_bin rfl rfl rfl (b_lss rfl)) (dF hc1)) <| OA.ps [(12, yF), (13, yF), (14, (.int .i64 ((k : Nat) : Int))), (15, (.pointer (some ⟨r, 0, some 0⟩))), (16, (.pointer (some ⟨r, 0, some 0⟩))), (17, (.pointer (some ⟨r, 0, some 0⟩)))] rfl <| oL 18 (.string s) hr <| OA.ps [(19, (.int .i64 ((s.size : Nat) : Int)))] rfl ?_
 have hc2 : ¬ (((s.size : Nat) : Int) < ((k : Nat) : Int)) := fun hdd => by exfalso; omega
 refine oP 20 yF rfl (Eq.trans (r_bin rfl rfl rfl (b_gtr rfl)) (dF hc2)) <| OA.ps [(21, yF)] rfl <| OA.nil fun _ => RA.condF rfl <| RA.skip env_ok ?_
 intro _
 refine RA.sR hd env_ok <| OA.ps [(24, (.pointer (some ⟨r, 0, some 0⟩))), (25, (.pointer (some ⟨r, 0, some 0⟩))), (26, (.pointer (some ⟨r, 0, some 0⟩)))] rfl <| oL 27 (.string s) hr <| OA.ps [(28, (.int .i64 ((k : Nat) : Int)))] rfl <| oP 29 (.string (s.extract 0 k)) rfl (r_cut (a := 0) (b := k) rfl rfl (fun _ => rfl) (fun _ => rfl) rfl rfl rfl bound_nat (by omega) (by omega) rfl) <| OA.ps [(5, (.string (s.extract 0 k)))] rfl <| OA.nil fun _ => RA.sR hd env_ok <| OA.ps [(30, (.pointer (some ⟨r, 0, some 0⟩))), (31, (.pointer (some ⟨r, 0, some 0⟩))), (32, (.pointer (some ⟨r, 0, some 0⟩))), (33, (.pointer (some ⟨r, 0, some 0⟩)))] rfl <| oL 34 (.string s) hr <| OA.ps [(35, (.int .i64 ((k : Nat) : Int)))] rfl ?_
 refine oP 36 (.string (s.extract k s.size)) rfl (r_cut (a := k) (b := s.size) rfl rfl (fun _ => rfl) (fun _ => rfl) rfl rfl bound_nat rfl (by omega) (by omega) rfl) <| OA.ps [(37, (.pointer (some ⟨r, 0, some 0⟩))), (38, (.pointer (some ⟨r, 0, some 0⟩)))] rfl <| o1 none yU n1 (r, some ⟨[[(.string (s.extract k s.size)), (.int .i64 0)]], 2, 83, true⟩) (rS hr) <| OA.nil fun _ => RA.rb [(0, (.pointer (some ⟨r, 0, some 0⟩))), (1, (.int .i64 ((k : Nat) : Int))), (4, (.string (ByteArray.mk #[]))), (5, (.string (s.extract 0 k))), (21, yF)] rfl (fun τr2 => ?_)
 refine RA.sR hd env_ok <| OA.ps [(39, (.string (s.extract 0 k))), (4, (.string (s.extract 0 k)))] rfl <| OA.nil fun _ => ?_
 refine RA.ret env_ok ?_
 refine ⟨.inr rfl, [(.string (s.extract 0 k))], (resL_cons rfl resL_nil), [(r, some ⟨[[(.string (s.extract k s.size)), (.int .i64 0)]], 2, 83, true⟩)], (Less.refl _ _ _), ⟨rfl, rfl⟩⟩
theorem rTakeS {n : Nat} {σ : Store} (hd : Dom n σ) (r : Nat) (s : ByteArray) (k : Nat) (hk : ¬ k ≤ s.size) (hr : σ r = some ⟨[[(.string s), (.int .i64 0)]], 2, 83, true⟩)  : CQ Try.prog noDen 37 [(.pointer (some ⟨r, 0, some 0⟩)), (.int .i64 ((k : Nat) : Int))] n σ (fun v n' d => v = .string (ByteArray.mk #[]) ∧ d = [(r, some ⟨[[(.string s), (.int .i64 2)]], 2, 83, true⟩)]) := by
 have lhr := hd.lt hr
 refine CQ.body (E := env) env_ok hd rfl rfl (by show _ ≤ _; exact of_decide_eq_true (by kernel_rfl)) ?_
 refine RA.sR hd env_ok <| OA.ps [(4, (.string (ByteArray.mk #[])))] rfl <| OA.nil fun _ => RA.seq hd <| RA.sR hd env_ok <| OA.ps [(6, (.pointer (some ⟨r, 0, some 0⟩)))] rfl <| oC 7 (v := (.int .i64 0)) (hd.up (by omega)) rfl rfl (rErr r _ 0 hr) fun n1 hn1 => oP 8 yF rfl (r_bin rfl rfl rfl (b_neq rfl)) <| OA.ps [(9, yF), (10, (.int .i64 ((k : Nat) : Int)))] rfl ?_
 have hc1 : ¬ (((k : Nat) : Int) < 0) := fun hdd => by exfalso; omega
 refine oP 11 yF rfl (Eq.trans (r_bin rfl rfl rfl (b_lss rfl)) (dF hc1)) <| OA.ps [(12, yF), (13, yF), (14, (.int .i64 ((k : Nat) : Int))), (15, (.pointer (some ⟨r, 0, some 0⟩))), (16, (.pointer (some ⟨r, 0, some 0⟩))), (17, (.pointer (some ⟨r, 0, some 0⟩)))] rfl <| oL 18 (.string s) hr <| OA.ps [(19, (.int .i64 ((s.size : Nat) : Int)))] rfl ?_
 have hc2 : ((s.size : Nat) : Int) < ((k : Nat) : Int) := Classical.byContradiction (fun hdd => by exfalso; omega)
 refine oP 20 yT rfl (Eq.trans (r_bin rfl rfl rfl (b_gtr rfl)) (dT hc2)) <| OA.ps [(21, yT)] rfl <| OA.nil fun _ => RA.condT rfl <| RA.sR hd env_ok <| OA.ps [(22, (.pointer (some ⟨r, 0, some 0⟩)))] rfl ?_
 refine OA.call (dst := (some 23)) (all := [(.pointer (some ⟨r, 0, some 0⟩)), (.int .i64 2)]) rfl rfl rfl rfl rfl rfl rfl rfl (CQ.imp (rFail (hd.up (by omega)) r _ 2 hr) ?_)
 rintro _ n2 _ ⟨rfl, rfl⟩ hn2
 refine OA.app1 ?_
 refine OA.nil fun _ => RA.sR hd env_ok <| OA.ps [(4, (.string (ByteArray.mk #[])))] rfl <| OA.nil fun _ => ?_
 refine RA.ret env_ok ?_
 refine ⟨.inr rfl, [(.string (ByteArray.mk #[]))], (resL_cons rfl resL_nil), [(r, some ⟨[[(.string s), (.int .i64 2)]], 2, 83, true⟩)], (Less.refl _ _ _), ⟨rfl, rfl⟩⟩
theorem rTakeD {n : Nat} {σ : Store} (hd : Dom n σ) (r : Nat) (s : ByteArray) (k : Nat) (hr : σ r = some ⟨[[(.string s), (.int .i64 2)]], 2, 83, true⟩)  : CQ Try.prog noDen 37 [(.pointer (some ⟨r, 0, some 0⟩)), (.int .i64 ((k : Nat) : Int))] n σ (fun v n' d => v = .string (ByteArray.mk #[]) ∧ d = []) := by
 have lhr := hd.lt hr
 refine CQ.body (E := env) env_ok hd rfl rfl (by show _ ≤ _; exact of_decide_eq_true (by kernel_rfl)) ?_
 refine RA.sR hd env_ok <| OA.ps [(4, (.string (ByteArray.mk #[])))] rfl <| OA.nil fun _ => RA.seq hd <| RA.sR hd env_ok <| OA.ps [(6, (.pointer (some ⟨r, 0, some 0⟩)))] rfl <| oC 7 (v := (.int .i64 2)) (hd.up (by omega)) rfl rfl (rErr r _ 2 hr) fun n1 hn1 => oP 8 yT rfl (r_bin rfl rfl rfl (b_neq rfl)) <| OA.ps [(9, yT)] rfl <| OA.offs 10 2 rfl <| OA.ps [(12, yT), (13, yT)] rfl ?_
 refine OA.offs 14 7 rfl <| OA.ps [(21, yT)] rfl <| OA.nil fun _ => RA.condT rfl <| RA.sR hd env_ok <| OA.ps [(22, (.pointer (some ⟨r, 0, some 0⟩)))] rfl ?_
 refine OA.call (dst := (some 23)) (all := [(.pointer (some ⟨r, 0, some 0⟩)), (.int .i64 2)]) rfl rfl rfl rfl rfl rfl rfl rfl (CQ.imp (rFail2 (hd.up (by omega)) r _ 2 hr) ?_)
 rintro _ n2 _ ⟨rfl, rfl⟩ hn2
 refine OA.app0 ?_
 refine OA.nil fun _ => RA.sR hd env_ok <| OA.ps [(4, (.string (ByteArray.mk #[])))] rfl <| OA.nil fun _ => ?_
 refine RA.ret env_ok ?_
 refine ⟨.inr rfl, [(.string (ByteArray.mk #[]))], (resL_cons rfl resL_nil), [], (Less.refl _ _ _), ⟨rfl, rfl⟩⟩
theorem rNum {n : Nat} {σ : Store} (hd : Dom n σ) (r : Nat) (s : ByteArray) (k : Nat) (hk : k ≤ s.size) (hk8 : k ≤ 8) (hs : s.size < 9223372036854775808) (hr : σ r = some ⟨[[(.string s), (.int .i64 0)]], 2, 83, true⟩)  : CQ Try.prog noDen 36 [(.pointer (some ⟨r, 0, some 0⟩)), (.int .i64 ((k : Nat) : Int))] n σ (fun v n' d => v = .int .u64 ((beN ((L s).take k) : Nat) : Int) ∧ d = [(r, some ⟨[[(.string (s.extract k s.size)), (.int .i64 0)]], 2, 83, true⟩)]) := by
 have lhr := hd.lt hr
 refine CQ.body (E := env) env_ok hd rfl rfl (by show _ ≤ _; exact of_decide_eq_true (by kernel_rfl)) ?_
 refine RA.sR hd env_ok <| OA.ps [(4, (.int .u64 0))] rfl <| OA.nil fun _ => RA.sR hd env_ok <| OA.ps [(5, (.int .u64 0))] rfl <| OA.nil fun _ => RA.sR hd env_ok <| OA.ps [(8, (.pointer (some ⟨r, 0, some 0⟩))), (9, (.int .i64 ((k : Nat) : Int)))] rfl ?_
 refine OA.call (dst := (some 10)) (all := [(.pointer (some ⟨r, 0, some 0⟩)), (.int .i64 ((k : Nat) : Int))]) rfl rfl rfl rfl rfl rfl rfl rfl (CQ.imp (rTake (hd.up (by omega)) r s k hk hs hr) ?_)
 rintro _ n1 _ ⟨rfl, rfl⟩ hn1
 refine OA.app1 ?_
 refine OA.ps [(6, (.string (s.extract 0 k)))] rfl <| OA.nil fun _ => RA.seq hd <| RA.sR hd env_ok <| OA.ps [(11, (.string (s.extract 0 k))), (12, (.int .i64 (((s.extract 0 k).size : Nat) : Int))), (13, (.int .i64 0))] rfl <| OA.nil fun _ => RA.block ?_
 have hks : (s.extract 0 k).size = k := by rw [size_cut _ _ _ hk]; rfl
 refine RA.loop hd (fun kk_ τ n' D => ∃ i : Nat, ∃ m : Nat,  kk_ = (k - i) ∧ n1 ≤ n' ∧ Has τ [(5, (.int .u64 ((m : Nat) : Int))), (6, (.string (s.extract 0 k))), (12, (.int .i64 (((s.extract 0 k).size : Nat) : Int))), (13, (.int .i64 ((i : Nat) : Int)))] ∧ D = [(r, some ⟨[[(.string (s.extract k s.size)), (.int .i64 0)]], 2, 83, true⟩)] ∧ (∀ i ∈ keys D, i < n') ∧ i ≤ k ∧ m = beN ((L (s.extract 0 k)).take i) ∧ m < 256 ^ i) ((k - 0)) ⟨0, 0, rfl, by omega, ⟨rfl, rfl, rfl, rfl, trivial⟩, rfl, (kb1 (by omega)), ⟨by omega, rfl, by decide⟩⟩ ?_
 rintro kn2 τ2 n2 _ ⟨i, m, rfl, hn2, hHn2, rfl, hKn2, hIn2⟩
 rw [Has.eq hHn2]
 have hKn2_0 := kk0 hKn2
 simp only [keys, List.map, List.forall_mem_cons, List.mem_cons, List.not_mem_nil, false_imp_iff, implies_true, and_true] at hKn2
 obtain ⟨hi, hm, hb⟩ := hIn2
 have hb2 : i < k → m < 72057594037927936 := fun h => Nat.lt_of_lt_of_le hb (Nat.pow_le_pow_right (n := 256) (j := 7) (by decide) (by omega))
 refine RA.sR hd env_ok ?_
 by_cases hc1 : ((i : Nat) : Int) < (((s.extract 0 k).size : Nat) : Int)
 ·
  refine oP 14 yT rfl (Eq.trans (r_bin rfl rfl rfl (b_lss rfl)) (dT hc1)) <| OA.nil fun _ => RA.seq hd <| RA.condT rfl <| RA.skip env_ok ?_
  intro _
  refine RA.seq hd <| RA.block <| RA.sR hd env_ok <| OA.ps [(15, (.int .i64 ((i : Nat) : Int))), (7, (.int .i64 ((i : Nat) : Int)))] rfl <| OA.nil fun _ => RA.region env_ok <| OA.ps [(16, (.int .u64 ((m : Nat) : Int)))] rfl <| oP 17 (.int .u64 (((m * 256) : Nat) : Int)) rfl (r_bin rfl rfl rfl (b_shl8 (a := m) (by omega))) <| OA.ps [(18, (.string (s.extract 0 k))), (19, (.int .i64 ((i : Nat) : Int)))] rfl <| oP 20 (.int .u8 (((s.extract 0 k).get! i).toNat : Nat)) rfl (r_idxS (l := i) rfl rfl rfl rfl rfl (by omega) (by omega)) <| oP 21 (.int .u64 ((((s.extract 0 k).get! i).toNat : Nat) : Int)) rfl (r_cvt rfl rfl rfl rfl rfl ⟨_, rfl⟩ (u64_eq (by have := UInt8.toNat_lt ((s.extract 0 k).get! i); omega))) ?_
  refine oP 22 (.int .u64 (((m * 256 + ((s.extract 0 k).get! i).toNat) : Nat) : Int)) rfl (r_bin rfl rfl rfl (b_or8 (a := m) (c := ((s.extract 0 k).get! i).toNat) (by omega) (UInt8.toNat_lt _))) <| OA.ps [(5, (.int .u64 (((m * 256 + ((s.extract 0 k).get! i).toNat) : Nat) : Int)))] rfl <| OA.nil fun _ => RA.region env_ok <| oP 23 (.int .i64 (((i + 1) : Nat) : Int)) rfl (r_bin rfl rfl rfl (b_add (i64_eq (by omega)))) <| OA.ps [(13, (.int .i64 (((i + 1) : Nat) : Int)))] rfl <| OA.nil ?_
  refine ⟨(k - (i + 1)), by omega, [(r, some ⟨[[(.string (s.extract k s.size)), (.int .i64 0)]], 2, 83, true⟩)], (Less.refl _ _ _), (i + 1), (m * 256 + ((s.extract 0 k).get! i).toNat), rfl, by omega, ⟨rfl, rfl, rfl, rfl, trivial⟩, rfl, (kb1 (by omega)), ⟨by omega, by rw [beN_take _ _ (by omega), hm], by have := UInt8.toNat_lt ((s.extract 0 k).get! i); rw [Nat.pow_succ]; omega⟩⟩
 ·
  refine oP 14 yF rfl (Eq.trans (r_bin rfl rfl rfl (b_lss rfl)) (dF hc1)) <| OA.nil fun _ => RA.seq hd <| RA.condF rfl ?_
  refine RA.exit env_ok ?_
  intro _
  refine RA.sR hd env_ok <| OA.ps [(24, (.int .u64 ((m : Nat) : Int))), (4, (.int .u64 ((m : Nat) : Int)))] rfl <| OA.nil fun _ => ?_
  refine RA.ret env_ok ?_
  refine ⟨.inr rfl, [(.int .u64 ((m : Nat) : Int))], (resL_cons rfl resL_nil), [(r, some ⟨[[(.string (s.extract k s.size)), (.int .i64 0)]], 2, 83, true⟩)], (Less.refl _ _ _), ⟨by rw [one, hm, show i = k from by omega, List.take_of_length_le (by rw [L_len]; omega), L_extract, List.drop_zero]; rfl, rfl⟩⟩
theorem rNumP {n : Nat} {σ : Store} (hd : Dom n σ) (r : Nat) (s : ByteArray) (p k : Nat) (hk : p + k ≤ s.size) (hk8 : k ≤ 8) (hs : s.size < 9223372036854775808) (hr : σ r = some ⟨[[(.string (s.extract p s.size)), (.int .i64 0)]], 2, 83, true⟩) : CQ Try.prog noDen 36 [(.pointer (some ⟨r, 0, some 0⟩)), (.int .i64 ((k : Nat) : Int))] n σ (fun v n' d => v = .int .u64 ((at_ s p k : Nat) : Int) ∧ d = [(r, some ⟨[[(.string (s.extract (p + k) s.size)), (.int .i64 0)]], 2, 83, true⟩)]) := by
  refine (rNum hd r (s.extract p s.size) k (by rw [size_cut _ _ _ (Nat.le_refl _)]; omega) hk8 (by rw [size_cut _ _ _ (Nat.le_refl _)]; omega) hr).imp fun v n' d h => ?_
  obtain ⟨h1, h2⟩ := h
  rw [h1, h2, beN_pos s p k hk, ext_pos s p k hk]
  exact ⟨rfl, rfl⟩
theorem rNumS {n : Nat} {σ : Store} (hd : Dom n σ) (r : Nat) (s : ByteArray) (k : Nat) (hk : ¬ k ≤ s.size) (hr : σ r = some ⟨[[(.string s), (.int .i64 0)]], 2, 83, true⟩)  : CQ Try.prog noDen 36 [(.pointer (some ⟨r, 0, some 0⟩)), (.int .i64 ((k : Nat) : Int))] n σ (fun v n' d => v = .int .u64 0 ∧ d = [(r, some ⟨[[(.string s), (.int .i64 2)]], 2, 83, true⟩)]) := by
 have lhr := hd.lt hr
 refine CQ.body (E := env) env_ok hd rfl rfl (by show _ ≤ _; exact of_decide_eq_true (by kernel_rfl)) ?_
 refine RA.sR hd env_ok <| OA.ps [(4, (.int .u64 0))] rfl <| OA.nil fun _ => RA.sR hd env_ok <| OA.ps [(5, (.int .u64 0))] rfl <| OA.nil fun _ => RA.sR hd env_ok <| OA.ps [(8, (.pointer (some ⟨r, 0, some 0⟩))), (9, (.int .i64 ((k : Nat) : Int)))] rfl ?_
 refine OA.call (dst := (some 10)) (all := [(.pointer (some ⟨r, 0, some 0⟩)), (.int .i64 ((k : Nat) : Int))]) rfl rfl rfl rfl rfl rfl rfl rfl (CQ.imp (rTakeS (hd.up (by omega)) r s k hk hr) ?_)
 rintro _ n1 _ ⟨rfl, rfl⟩ hn1
 refine OA.app1 ?_
 refine OA.ps [(6, (.string (ByteArray.mk #[])))] rfl <| OA.nil fun _ => RA.seq hd <| RA.sR hd env_ok <| OA.ps [(11, (.string (ByteArray.mk #[])))] rfl <| oP 12 (.int .i64 0) rfl (Eq.trans (show _ = some (Value.int .i64 (((ByteArray.mk #[]).size : Nat) : Int), _, []) from rfl) (by rw [show (ByteArray.mk #[]).size = 0 from rfl] <;> rfl)) <| OA.ps [(13, (.int .i64 0))] rfl <| OA.nil fun _ => RA.block ?_
 refine RA.unroll hd ?_
 refine RA.sR hd env_ok <| oP 14 yF rfl (r_bin rfl rfl rfl (b_lss rfl)) <| OA.nil fun _ => RA.seq hd <| RA.condF rfl ?_
 refine RA.exit env_ok ?_
 intro _
 refine RA.sR hd env_ok <| OA.ps [(24, (.int .u64 0)), (4, (.int .u64 0))] rfl <| OA.nil fun _ => ?_
 refine RA.ret env_ok ?_
 refine ⟨.inr rfl, [(.int .u64 0)], (resL_cons rfl resL_nil), [(r, some ⟨[[(.string s), (.int .i64 2)]], 2, 83, true⟩)], (Less.refl _ _ _), ⟨rfl, rfl⟩⟩
theorem rNumD {n : Nat} {σ : Store} (hd : Dom n σ) (r : Nat) (s : ByteArray) (k : Nat)  (hr : σ r = some ⟨[[(.string s), (.int .i64 2)]], 2, 83, true⟩)  : CQ Try.prog noDen 36 [(.pointer (some ⟨r, 0, some 0⟩)), (.int .i64 ((k : Nat) : Int))] n σ (fun v n' d => v = .int .u64 0 ∧ d = []) := by
 have lhr := hd.lt hr
 refine CQ.body (E := env) env_ok hd rfl rfl (by show _ ≤ _; exact of_decide_eq_true (by kernel_rfl)) ?_
 refine RA.sR hd env_ok <| OA.ps [(4, (.int .u64 0))] rfl <| OA.nil fun _ => RA.sR hd env_ok <| OA.ps [(5, (.int .u64 0))] rfl <| OA.nil fun _ => RA.sR hd env_ok <| OA.ps [(8, (.pointer (some ⟨r, 0, some 0⟩))), (9, (.int .i64 ((k : Nat) : Int)))] rfl ?_
 refine OA.call (dst := (some 10)) (all := [(.pointer (some ⟨r, 0, some 0⟩)), (.int .i64 ((k : Nat) : Int))]) rfl rfl rfl rfl rfl rfl rfl rfl (CQ.imp (rTakeD (hd.up (by omega)) r s k hr) ?_)
 rintro _ n1 _ ⟨rfl, rfl⟩ hn1
 refine OA.app0 ?_
 refine OA.ps [(6, (.string (ByteArray.mk #[])))] rfl <| OA.nil fun _ => RA.seq hd <| RA.sR hd env_ok <| OA.ps [(11, (.string (ByteArray.mk #[])))] rfl <| oP 12 (.int .i64 0) rfl (Eq.trans (show _ = some (Value.int .i64 (((ByteArray.mk #[]).size : Nat) : Int), _, []) from rfl) (by rw [show (ByteArray.mk #[]).size = 0 from rfl] <;> rfl)) <| OA.ps [(13, (.int .i64 0))] rfl <| OA.nil fun _ => RA.block ?_
 refine RA.unroll hd ?_
 refine RA.sR hd env_ok <| oP 14 yF rfl (r_bin rfl rfl rfl (b_lss rfl)) <| OA.nil fun _ => RA.seq hd <| RA.condF rfl ?_
 refine RA.exit env_ok ?_
 intro _
 refine RA.sR hd env_ok <| OA.ps [(24, (.int .u64 0)), (4, (.int .u64 0))] rfl <| OA.nil fun _ => ?_
 refine RA.ret env_ok ?_
 refine ⟨.inr rfl, [(.int .u64 0)], (resL_cons rfl resL_nil), [], (Less.refl _ _ _), ⟨rfl, rfl⟩⟩
theorem rU32 {n : Nat} {σ : Store} (hd : Dom n σ) (r : Nat) (s : ByteArray) (p : Nat) (hk : p + 4 ≤ s.size) (hs : s.size < 9223372036854775808) (hr : σ r = some ⟨[[(.string (s.extract p s.size)), (.int .i64 0)]], 2, 83, true⟩)  : CQ Try.prog noDen 32 [(.pointer (some ⟨r, 0, some 0⟩))] n σ (fun v n' d => v = W (w32 s p) ∧ d = [(r, some ⟨[[(.string (s.extract (p + 4) s.size)), (.int .i64 0)]], 2, 83, true⟩)]) := by
 have lhr := hd.lt hr
 refine CQ.body (E := env) env_ok hd rfl rfl (by show _ ≤ _; exact of_decide_eq_true (by kernel_rfl)) ?_
 refine RA.sR hd env_ok <| OA.ps [(2, (.int .u32 0))] rfl <| OA.nil fun _ => RA.sR hd env_ok <| OA.ps [(3, (.pointer (some ⟨r, 0, some 0⟩)))] rfl ?_
 refine OA.call (dst := (some 4)) (all := [(.pointer (some ⟨r, 0, some 0⟩)), (.int .i64 4)]) rfl rfl rfl rfl rfl rfl rfl rfl (CQ.imp (rNumP (hd.up (by omega)) r s p 4 hk (by decide) hs hr) ?_)
 rintro _ n1 _ ⟨rfl, rfl⟩ hn1
 refine OA.app1 ?_
 refine oP 5 (W (BitVec.ofNat 32 (at_ s p 4))) rfl (r_cvt rfl rfl rfl rfl rfl ⟨_, rfl⟩ (wrap_ofNat32 _)) <| OA.ps [(2, (W (BitVec.ofNat 32 (at_ s p 4))))] rfl <| OA.nil fun _ => ?_
 refine RA.ret env_ok ?_
 refine ⟨.inr rfl, [(W (BitVec.ofNat 32 (at_ s p 4)))], (resL_cons rfl resL_nil), [(r, some ⟨[[(.string (s.extract (p + 4) s.size)), (.int .i64 0)]], 2, 83, true⟩)], (Less.refl _ _ _), ⟨rfl, rfl⟩⟩
theorem rU32S {n : Nat} {σ : Store} (hd : Dom n σ) (r : Nat) (s : ByteArray) (p : Nat) (hp : p ≤ s.size) (hk : ¬ p + 4 ≤ s.size) (hr : σ r = some ⟨[[(.string (s.extract p s.size)), (.int .i64 0)]], 2, 83, true⟩)  : CQ Try.prog noDen 32 [(.pointer (some ⟨r, 0, some 0⟩))] n σ (fun v n' d => v = W 0#32 ∧ d = [(r, some ⟨[[(.string (s.extract p s.size)), (.int .i64 2)]], 2, 83, true⟩)]) := by
 have lhr := hd.lt hr
 refine CQ.body (E := env) env_ok hd rfl rfl (by show _ ≤ _; exact of_decide_eq_true (by kernel_rfl)) ?_
 refine RA.sR hd env_ok <| OA.ps [(2, (.int .u32 0))] rfl <| OA.nil fun _ => RA.sR hd env_ok <| OA.ps [(3, (.pointer (some ⟨r, 0, some 0⟩)))] rfl ?_
 refine OA.call (dst := (some 4)) (all := [(.pointer (some ⟨r, 0, some 0⟩)), (.int .i64 4)]) rfl rfl rfl rfl rfl rfl rfl rfl (CQ.imp (rNumS (hd.up (by omega)) r (s.extract p s.size) 4 (by rw [size_cut _ _ _ (Nat.le_refl _)]; omega) hr) ?_)
 rintro _ n1 _ ⟨rfl, rfl⟩ hn1
 refine OA.app1 ?_
 refine OA.ps [(5, (.int .u32 0)), (2, (.int .u32 0))] rfl <| OA.nil fun _ => ?_
 refine RA.ret env_ok ?_
 refine ⟨.inr rfl, [(.int .u32 0)], (resL_cons rfl resL_nil), [(r, some ⟨[[(.string (s.extract p s.size)), (.int .i64 2)]], 2, 83, true⟩)], (Less.refl _ _ _), ⟨rfl, rfl⟩⟩
theorem rU32D {n : Nat} {σ : Store} (hd : Dom n σ) (r : Nat) (s : ByteArray) (p : Nat)  (hr : σ r = some ⟨[[(.string s), (.int .i64 2)]], 2, 83, true⟩)  : CQ Try.prog noDen 32 [(.pointer (some ⟨r, 0, some 0⟩))] n σ (fun v n' d => v = W 0#32 ∧ d = []) := by
 have lhr := hd.lt hr
 refine CQ.body (E := env) env_ok hd rfl rfl (by show _ ≤ _; exact of_decide_eq_true (by kernel_rfl)) ?_
 refine RA.sR hd env_ok <| OA.ps [(2, (.int .u32 0))] rfl <| OA.nil fun _ => RA.sR hd env_ok <| OA.ps [(3, (.pointer (some ⟨r, 0, some 0⟩)))] rfl ?_
 refine OA.call (dst := (some 4)) (all := [(.pointer (some ⟨r, 0, some 0⟩)), (.int .i64 4)]) rfl rfl rfl rfl rfl rfl rfl rfl (CQ.imp (rNumD (hd.up (by omega)) r s 4 hr) ?_)
 rintro _ n1 _ ⟨rfl, rfl⟩ hn1
 refine OA.app0 ?_
 refine OA.ps [(5, (.int .u32 0)), (2, (.int .u32 0))] rfl <| OA.nil fun _ => ?_
 refine RA.ret env_ok ?_
 refine ⟨.inr rfl, [(.int .u32 0)], (resL_cons rfl resL_nil), [], (Less.refl _ _ _), ⟨rfl, rfl⟩⟩
theorem rLeft {σ : Store} (r : Nat) (s : ByteArray) (hr : σ r = some ⟨[[(.string s), (.int .i64 0)]], 2, 83, true⟩)  : PS Try.prog noDen 38 [(.pointer (some ⟨r, 0, some 0⟩))] σ (.int .i64 ((s.size : Nat) : Int)) := by
 refine PS.body (E := env) env_ok rfl rfl (by show _ ≤ _; exact of_decide_eq_true (by kernel_rfl)) (fun n hd => ?_)
 have lhr := hd.lt hr
 refine RA.sR hd env_ok <| OA.ps [(2, (.int .i64 0))] rfl <| OA.nil fun _ => RA.seq hd <| RA.sR hd env_ok <| OA.ps [(3, (.pointer (some ⟨r, 0, some 0⟩)))] rfl <| oC 4 (v := (.int .i64 0)) (hd.up (by omega)) rfl rfl (rErr r _ 0 hr) fun n1 hn1 => oP 5 yF rfl (r_bin rfl rfl rfl (b_neq rfl)) <| OA.nil fun _ => RA.condF rfl <| RA.skip env_ok ?_
 intro _
 refine RA.sR hd env_ok <| OA.ps [(6, (.pointer (some ⟨r, 0, some 0⟩))), (7, (.pointer (some ⟨r, 0, some 0⟩))), (8, (.pointer (some ⟨r, 0, some 0⟩)))] rfl <| oL 9 (.string s) hr <| OA.ps [(10, (.int .i64 ((s.size : Nat) : Int))), (2, (.int .i64 ((s.size : Nat) : Int)))] rfl <| OA.nil fun _ => ?_
 refine RA.ret env_ok ?_
 exact lf (.int .i64 ((s.size : Nat) : Int)) rfl
theorem rLeftD {σ : Store} (r : Nat) (s : ByteArray) (hr : σ r = some ⟨[[(.string s), (.int .i64 2)]], 2, 83, true⟩)  : PS Try.prog noDen 38 [(.pointer (some ⟨r, 0, some 0⟩))] σ (.int .i64 0) := by
 refine PS.body (E := env) env_ok rfl rfl (by show _ ≤ _; exact of_decide_eq_true (by kernel_rfl)) (fun n hd => ?_)
 have lhr := hd.lt hr
 refine RA.sR hd env_ok <| OA.ps [(2, (.int .i64 0))] rfl <| OA.nil fun _ => RA.seq hd <| RA.sR hd env_ok <| OA.ps [(3, (.pointer (some ⟨r, 0, some 0⟩)))] rfl <| oC 4 (v := (.int .i64 2)) (hd.up (by omega)) rfl rfl (rErr r _ 2 hr) fun n1 hn1 => oP 5 yT rfl (r_bin rfl rfl rfl (b_neq rfl)) <| OA.nil fun _ => RA.condT rfl <| RA.sR hd env_ok ?_
 refine OA.ps [(2, (.int .i64 0))] rfl <| OA.nil fun _ => ?_
 refine RA.ret env_ok ?_
 exact lf (.int .i64 0) rfl
theorem rRest {n : Nat} {σ : Store} (hd : Dom n σ) (r : Nat) (s : ByteArray) (hs : s.size < 9223372036854775808) (hr : σ r = some ⟨[[(.string s), (.int .i64 0)]], 2, 83, true⟩)  : CQ Try.prog noDen 33 [(.pointer (some ⟨r, 0, some 0⟩))] n σ (fun v n' d => v = .string (s.extract 0 s.size) ∧ d = [(r, some ⟨[[(.string (s.extract s.size s.size)), (.int .i64 0)]], 2, 83, true⟩)]) := by
 have lhr := hd.lt hr
 refine CQ.body (E := env) env_ok hd rfl rfl (by show _ ≤ _; exact of_decide_eq_true (by kernel_rfl)) ?_
 refine RA.sR hd env_ok <| OA.ps [(2, (.string (ByteArray.mk #[])))] rfl <| OA.nil fun _ => RA.sR hd env_ok <| OA.ps [(3, (.pointer (some ⟨r, 0, some 0⟩))), (4, (.pointer (some ⟨r, 0, some 0⟩)))] rfl <| oC 5 (v := (.int .i64 ((s.size : Nat) : Int))) (hd.up (by omega)) rfl rfl (rLeft r _ hr) fun n1 hn1 => ?_
 refine OA.call (dst := (some 6)) (all := [(.pointer (some ⟨r, 0, some 0⟩)), (.int .i64 ((s.size : Nat) : Int))]) rfl rfl rfl rfl rfl rfl rfl rfl (CQ.imp (rTake (hd.up (by omega)) r s s.size (Nat.le_refl _) hs hr) ?_)
 rintro _ n2 _ ⟨rfl, rfl⟩ hn2
 refine OA.app1 ?_
 refine OA.ps [(2, (.string (s.extract 0 s.size)))] rfl <| OA.nil fun _ => ?_
 refine RA.ret env_ok ?_
 refine ⟨.inr rfl, [(.string (s.extract 0 s.size))], (resL_cons rfl resL_nil), [(r, some ⟨[[(.string (s.extract s.size s.size)), (.int .i64 0)]], 2, 83, true⟩)], (Less.refl _ _ _), ⟨rfl, rfl⟩⟩
theorem rRestD {n : Nat} {σ : Store} (hd : Dom n σ) (r : Nat) (s : ByteArray) (hr : σ r = some ⟨[[(.string s), (.int .i64 2)]], 2, 83, true⟩)  : CQ Try.prog noDen 33 [(.pointer (some ⟨r, 0, some 0⟩))] n σ (fun v n' d => v = .string (ByteArray.mk #[]) ∧ d = []) := by
 have lhr := hd.lt hr
 refine CQ.body (E := env) env_ok hd rfl rfl (by show _ ≤ _; exact of_decide_eq_true (by kernel_rfl)) ?_
 refine RA.sR hd env_ok <| OA.ps [(2, (.string (ByteArray.mk #[])))] rfl <| OA.nil fun _ => RA.sR hd env_ok <| OA.ps [(3, (.pointer (some ⟨r, 0, some 0⟩))), (4, (.pointer (some ⟨r, 0, some 0⟩)))] rfl <| oC 5 (v := (.int .i64 0)) (hd.up (by omega)) rfl rfl (rLeftD r _ hr) fun n1 hn1 => ?_
 refine OA.call (dst := (some 6)) (all := [(.pointer (some ⟨r, 0, some 0⟩)), (.int .i64 0)]) rfl rfl rfl rfl rfl rfl rfl rfl (CQ.imp (rTakeD (hd.up (by omega)) r s 0 hr) ?_)
 rintro _ n2 _ ⟨rfl, rfl⟩ hn2
 refine OA.app0 ?_
 refine OA.ps [(2, (.string (ByteArray.mk #[])))] rfl <| OA.nil fun _ => ?_
 refine RA.ret env_ok ?_
 refine ⟨.inr rfl, [(.string (ByteArray.mk #[]))], (resL_cons rfl resL_nil), [], (Less.refl _ _ _), ⟨rfl, rfl⟩⟩
theorem rRestQ {n : Nat} {σ : Store} (hd : Dom n σ) (r : Nat) (s : ByteArray) (hs : s.size < 9223372036854775808) (hr : σ r = some ⟨[[(.string s), (.int .i64 0)]], 2, 83, true⟩) : CQ Try.prog noDen 33 [(.pointer (some ⟨r, 0, some 0⟩))] n σ (fun v n' d => v = .string s ∧ d = [(r, some ⟨[[(.string (s.extract s.size s.size)), (.int .i64 0)]], 2, 83, true⟩)]) := by
  refine CQ.imp (rRest hd r s hs hr) ?_
  rintro v n' d ⟨rfl, rfl⟩
  exact ⟨by rw [ext_all], rfl⟩
theorem ba_nil {s : ByteArray} (h : s.size = 0) : s = ByteArray.mk #[] := by
  apply L_ext
  rw [show L (ByteArray.mk #[]) = [] from rfl]
  exact List.length_eq_zero_iff.1 (by rw [L_len]; exact h)
end Go.Proofs.Ytdiofapingdlmaa.Vt
/- F1: walks through functions of the program, by the calculus; written by a program of this workplace. -/
namespace Go.Proofs.Ytdiofapingdlmaa.Vt
open Go Go.Proofs Go.Proofs.YtdiofapingdlmaaV
set_option maxRecDepth 100000
set_option linter.unusedVariables false
set_option linter.unusedSimpArgs false
set_option maxHeartbeats 8000000
def pAll (s : ByteArray) : Nat := (w32 s 4).toNat
def pAt (s : ByteArray) : Nat := (w32 s 8).toNat
def pOk (s : ByteArray) : Prop := 12 ≤ s.size ∧ pAll s ≤ 20000 ∧ pAt s ≤ pAll s ∧ pAt s % 500 = 0 ∧ s.size - 12 = min (pAll s - pAt s) 500 ∧ (s.size = 12 → pAll s = 0)
instance (s : ByteArray) : Decidable (pOk s) := by unfold pOk; infer_instance
def pieceV (s : ByteArray) : Value := .agg ⟨[W (w32 s 0), .int .i64 ((pAll s : Nat) : Int), .int .i64 ((pAt s : Nat) : Int), .string (s.extract 12 s.size)]⟩
def parseV (s : ByteArray) : Value := if pOk s then .tuple ⟨[pieceV s, .bool true]⟩ else .tuple ⟨[(.agg ⟨[(.int .u32 0), (.int .i64 0), (.int .i64 0), (.string ByteArray.empty)]⟩), .bool false]⟩
theorem parse_y {s : ByteArray} (h : pOk s) : parseV s = .tuple ⟨[pieceV s, .bool true]⟩ := if_pos h
theorem parse_n {s : ByteArray} (h : ¬ pOk s) : parseV s = .tuple ⟨[(.agg ⟨[(.int .u32 0), (.int .i64 0), (.int .i64 0), (.string ByteArray.empty)]⟩), .bool false]⟩ := if_neg h
theorem sParse {n : Nat} {σ : Store} (hd : Dom n σ) (s : ByteArray) (hs : s.size < 9223372036854775808)   : CQ Try.prog noDen 21 [(.string s)] n σ (fun v n' d => v = parseV s ∧ d = []) := by
 refine CQ.body (E := env) env_ok hd rfl rfl (by show _ ≤ _; exact of_decide_eq_true (by kernel_rfl)) ?_
 refine RA.sR hd env_ok <| o1 (some 2) (.pointer (some ⟨n, 0, some 0⟩)) (n + 1) (n, some ⟨[[(.int .u32 0), (.int .i64 0), (.int .i64 0), (.string ByteArray.empty)]], 4, 56, true⟩) rfl <| OA.ps [(3, yF)] rfl <| OA.nil fun _ => RA.sR hd env_ok <| OA.ps [(6, (.string s))] rfl ?_
 refine OA.call (dst := (some 7)) (all := [(.string s)]) rfl rfl rfl rfl rfl rfl rfl rfl (CQ.imp (rNew (hd.of (by omega) (kb1 (by omega))) s) ?_)
 rintro _ n2 _ ⟨q1, hq1a, hq1b, rfl, rfl⟩ hn2
 refine OA.app1 ?_
 refine OA.ps [(4, (.pointer (some ⟨q1, 0, some 0⟩)))] rfl <| OA.nil fun _ => RA.sR hd env_ok <| OA.ps [(8, (.pointer (some ⟨q1, 0, some 0⟩)))] rfl ?_
 by_cases hc1 : 4 ≤ s.size
 ·
  refine OA.call (dst := (some 9)) (all := [(.pointer (some ⟨q1, 0, some 0⟩))]) rfl rfl rfl rfl rfl rfl rfl rfl (CQ.imp (rU32 (hd.of (by omega) (kb2 (by omega))) q1 s 0 (by omega) hs get_here) ?_)
  rintro _ n3 _ ⟨rfl, rfl⟩ hn3
  refine OA.app1 ?_
  refine OA.ps [(10, (.pointer (some ⟨q1, 0, some 0⟩)))] rfl ?_
  by_cases hc2 : 8 ≤ s.size
  ·
   refine OA.call (dst := (some 11)) (all := [(.pointer (some ⟨q1, 0, some 0⟩))]) rfl rfl rfl rfl rfl rfl rfl rfl (CQ.imp (rU32 (hd.of (by omega) (kb3 (by omega))) q1 s 4 (by omega) hs get_here) ?_)
   rintro _ n4 _ ⟨rfl, rfl⟩ hn4
   refine OA.app1 ?_
   refine oP 12 (.int .i64 (((w32 s 4).toNat : Nat) : Int)) rfl (r_cvt rfl rfl rfl rfl rfl ⟨_, rfl⟩ (i64_eq (by have := ((w32 s 4)).isLt; omega))) <| OA.ps [(13, (.pointer (some ⟨q1, 0, some 0⟩)))] rfl ?_
   by_cases hc3 : 12 ≤ s.size
   ·
    refine OA.call (dst := (some 14)) (all := [(.pointer (some ⟨q1, 0, some 0⟩))]) rfl rfl rfl rfl rfl rfl rfl rfl (CQ.imp (rU32 (hd.of (by omega) (kb4 (by omega))) q1 s 8 (by omega) hs get_here) ?_)
    rintro _ n5 _ ⟨rfl, rfl⟩ hn5
    refine OA.app1 ?_
    refine oP 15 (.int .i64 (((w32 s 8).toNat : Nat) : Int)) rfl (r_cvt rfl rfl rfl rfl rfl ⟨_, rfl⟩ (i64_eq (by have := ((w32 s 8)).isLt; omega))) <| oP 16 (.agg ⟨[(W (w32 s 0)), (.int .i64 (((w32 s 4).toNat : Nat) : Int)), (.int .i64 (((w32 s 8).toNat : Nat) : Int)), (.string ByteArray.empty)]⟩) rfl (by kernel_rfl) <| o1 (some 5) (.pointer (some ⟨n5, 0, some 0⟩)) (n5 + 1) (n5, some ⟨[[(.int .u32 0), (.int .i64 0), (.int .i64 0), (.string ByteArray.empty)]], 4, 56, true⟩) rfl <| o1 none yU (n5 + 1) (n5, some ⟨[[(W (w32 s 0)), (.int .i64 (((w32 s 4).toNat : Nat) : Int)), (.int .i64 (((w32 s 8).toNat : Nat) : Int)), (.string ByteArray.empty)]], 4, 56, true⟩) (rS get_here) <| OA.nil fun _ => RA.weaken hd (LsO (fA get_here get_here (fA (get_there (by omega) get_here) (gt2 (by omega) get_here) (fA (gt2 (by omega) get_here) (gt6 (by omega) get_here) fan)))) <| RA.sR hd env_ok <| OA.ps [(17, (.pointer (some ⟨q1, 0, some 0⟩)))] rfl ?_
    refine OA.call (dst := (some 18)) (all := [(.pointer (some ⟨q1, 0, some 0⟩))]) rfl rfl rfl rfl rfl rfl rfl rfl (CQ.imp (rRestQ (hd.of (by omega) (kb3 (by omega))) q1 (s.extract 12 s.size) (by rw [size_cut _ _ _ (Nat.le_refl _)]; omega) (get_there (by omega) get_here)) ?_)
    rintro _ n6 _ ⟨rfl, rfl⟩ hn6
    refine OA.app1 ?_
    refine OA.ps [(19, (.pointer (some ⟨n5, 0, some 3⟩)))] rfl <| o1 none yU n6 (n5, some ⟨[[(W (w32 s 0)), (.int .i64 (((w32 s 4).toNat : Nat) : Int)), (.int .i64 (((w32 s 8).toNat : Nat) : Int)), (.string (s.extract 12 s.size))]], 4, 56, true⟩) (rS (get_there (by omega) get_here)) <| OA.nil fun _ => RA.weaken hd (LsO (fA get_here get_here (fA (get_there (by omega) get_here) (get_there (by omega) get_here) (fA (gt2 (by omega) get_here) (gt4 (by omega) get_here) fan)))) <| RA.seq hd <| RA.sR hd env_ok <| OA.ps [(20, (.pointer (some ⟨q1, 0, some 0⟩)))] rfl <| oC 21 (v := (.int .i64 0)) (hd.of (by omega) (kb3 (by omega))) rfl rfl (rErr q1 _ 0 (get_there (by omega) get_here)) fun n7 hn7 => oP 22 yF rfl (r_bin rfl rfl rfl (b_neq rfl)) <| OA.ps [(23, yF), (24, (.pointer (some ⟨n5, 0, some 1⟩)))] rfl <| oL 25 (.int .i64 (((w32 s 4).toNat : Nat) : Int)) get_here ?_
    by_cases hc4 : 20000 < (((w32 s 4).toNat : Nat) : Int)
    ·
     refine oP 26 yT rfl (Eq.trans (r_bin rfl rfl rfl (b_gtr rfl)) (dT hc4)) <| OA.ps [(27, yT), (28, yT)] rfl <| OA.offs 29 5 rfl <| OA.ps [(34, yT), (35, yT)] rfl <| OA.offs 36 4 rfl <| OA.ps [(40, yT), (41, yT)] rfl <| OA.offs 42 10 rfl <| OA.ps [(52, yT), (53, yT)] rfl <| OA.offs 54 8 rfl <| OA.ps [(62, yT)] rfl <| OA.nil fun _ => ?_
     refine RA.rb [(0, (.string s)), (2, (.pointer (some ⟨n, 0, some 0⟩))), (3, yF), (4, (.pointer (some ⟨q1, 0, some 0⟩))), (5, (.pointer (some ⟨n5, 0, some 0⟩))), (62, yT)] rfl (fun τr8 => ?_)
     refine RA.condT rfl <| RA.sR hd env_ok <| oP 63 (.agg ⟨[(.int .u32 0), (.int .i64 0), (.int .i64 0), (.string ByteArray.empty)]⟩) rfl (by kernel_rfl) <| o1 none yU n7 (n, some ⟨[[(.int .u32 0), (.int .i64 0), (.int .i64 0), (.string ByteArray.empty)]], 4, 56, true⟩) (rS (gt2 (by omega) get_here)) <| OA.ps [(3, yF)] rfl <| OA.nil fun _ => ?_
     refine RA.ret env_ok ?_
     have hsz : (s.extract 12 s.size).size = s.size - 12 := size_cut _ _ _ (Nat.le_refl _)
     refine ⟨.inr rfl, [(.agg ⟨[(.int .u32 0), (.int .i64 0), (.int .i64 0), (.string ByteArray.empty)]⟩), (.bool false)], (resL_cons (res_cellA rfl rfl rfl get_here rfl rfl rfl) (resL_cons rfl resL_nil)), [], (LsO fan), ⟨by rw [parse_n (by unfold pOk pAll pAt; omega)] <;> rfl, rfl⟩⟩
    ·
     refine oP 26 yF rfl (Eq.trans (r_bin rfl rfl rfl (b_gtr rfl)) (dF hc4)) <| OA.ps [(27, yF), (28, yF), (29, (.pointer (some ⟨n5, 0, some 2⟩)))] rfl <| oL 30 (.int .i64 (((w32 s 8).toNat : Nat) : Int)) get_here <| OA.ps [(31, (.pointer (some ⟨n5, 0, some 1⟩)))] rfl <| oL 32 (.int .i64 (((w32 s 4).toNat : Nat) : Int)) get_here ?_
     by_cases hc5 : (((w32 s 4).toNat : Nat) : Int) < (((w32 s 8).toNat : Nat) : Int)
     ·
      refine oP 33 yT rfl (Eq.trans (r_bin rfl rfl rfl (b_gtr rfl)) (dT hc5)) <| OA.ps [(34, yT), (35, yT)] rfl <| OA.offs 36 4 rfl <| OA.ps [(40, yT), (41, yT)] rfl <| OA.offs 42 10 rfl <| OA.ps [(52, yT), (53, yT)] rfl <| OA.offs 54 8 rfl <| OA.ps [(62, yT)] rfl <| OA.nil fun _ => RA.rb [(0, (.string s)), (2, (.pointer (some ⟨n, 0, some 0⟩))), (3, yF), (4, (.pointer (some ⟨q1, 0, some 0⟩))), (5, (.pointer (some ⟨n5, 0, some 0⟩))), (62, yT)] rfl (fun τr9 => ?_)
      refine RA.condT rfl <| RA.sR hd env_ok <| oP 63 (.agg ⟨[(.int .u32 0), (.int .i64 0), (.int .i64 0), (.string ByteArray.empty)]⟩) rfl (by kernel_rfl) <| o1 none yU n7 (n, some ⟨[[(.int .u32 0), (.int .i64 0), (.int .i64 0), (.string ByteArray.empty)]], 4, 56, true⟩) (rS (gt2 (by omega) get_here)) <| OA.ps [(3, yF)] rfl <| OA.nil fun _ => ?_
      refine RA.ret env_ok ?_
      have hsz : (s.extract 12 s.size).size = s.size - 12 := size_cut _ _ _ (Nat.le_refl _)
      refine ⟨.inr rfl, [(.agg ⟨[(.int .u32 0), (.int .i64 0), (.int .i64 0), (.string ByteArray.empty)]⟩), (.bool false)], (resL_cons (res_cellA rfl rfl rfl get_here rfl rfl rfl) (resL_cons rfl resL_nil)), [], (LsO fan), ⟨by rw [parse_n (by unfold pOk pAll pAt; omega)] <;> rfl, rfl⟩⟩
     ·
      refine oP 33 yF rfl (Eq.trans (r_bin rfl rfl rfl (b_gtr rfl)) (dF hc5)) <| OA.ps [(34, yF), (35, yF), (36, (.pointer (some ⟨n5, 0, some 2⟩)))] rfl <| oL 37 (.int .i64 (((w32 s 8).toNat : Nat) : Int)) get_here <| oP 38 (.int .i64 ((((w32 s 8).toNat % 500) : Nat) : Int)) rfl (r_bin rfl rfl rfl (b_remN (a := (w32 s 8).toNat) (c := 500) (by decide))) ?_
      by_cases hc6 : ((((w32 s 8).toNat % 500) : Nat) : Int) ≠ 0
      ·
       refine oP 39 yT rfl (Eq.trans (r_bin rfl rfl rfl (b_neq rfl)) (dT hc6)) <| OA.ps [(40, yT), (41, yT)] rfl <| OA.offs 42 10 rfl <| OA.ps [(52, yT), (53, yT)] rfl <| OA.offs 54 8 rfl <| OA.ps [(62, yT)] rfl <| OA.nil fun _ => RA.rb [(0, (.string s)), (2, (.pointer (some ⟨n, 0, some 0⟩))), (3, yF), (4, (.pointer (some ⟨q1, 0, some 0⟩))), (5, (.pointer (some ⟨n5, 0, some 0⟩))), (62, yT)] rfl (fun τr10 => ?_)
       refine RA.condT rfl <| RA.sR hd env_ok <| oP 63 (.agg ⟨[(.int .u32 0), (.int .i64 0), (.int .i64 0), (.string ByteArray.empty)]⟩) rfl (by kernel_rfl) <| o1 none yU n7 (n, some ⟨[[(.int .u32 0), (.int .i64 0), (.int .i64 0), (.string ByteArray.empty)]], 4, 56, true⟩) (rS (gt2 (by omega) get_here)) <| OA.ps [(3, yF)] rfl <| OA.nil fun _ => ?_
       refine RA.ret env_ok ?_
       have hsz : (s.extract 12 s.size).size = s.size - 12 := size_cut _ _ _ (Nat.le_refl _)
       refine ⟨.inr rfl, [(.agg ⟨[(.int .u32 0), (.int .i64 0), (.int .i64 0), (.string ByteArray.empty)]⟩), (.bool false)], (resL_cons (res_cellA rfl rfl rfl get_here rfl rfl rfl) (resL_cons rfl resL_nil)), [], (LsO fan), ⟨by rw [parse_n (by unfold pOk pAll pAt; omega)] <;> rfl, rfl⟩⟩
      ·
       refine oP 39 yF rfl (Eq.trans (r_bin rfl rfl rfl (b_neq rfl)) (dF hc6)) <| OA.ps [(40, yF), (41, yF), (42, (.pointer (some ⟨n5, 0, some 3⟩)))] rfl <| oL 43 (.string (s.extract 12 s.size)) get_here <| OA.ps [(44, (.int .i64 (((s.extract 12 s.size).size : Nat) : Int))), (45, (.pointer (some ⟨n5, 0, some 1⟩)))] rfl <| oL 46 (.int .i64 (((w32 s 4).toNat : Nat) : Int)) get_here <| OA.ps [(47, (.pointer (some ⟨n5, 0, some 2⟩)))] rfl <| oL 48 (.int .i64 (((w32 s 8).toNat : Nat) : Int)) get_here <| oP 49 (.int .i64 ((((w32 s 4).toNat - (w32 s 8).toNat) : Nat) : Int)) rfl (r_bin rfl rfl rfl (b_sub (i64_eq (by omega)))) <| oP 50 (.int .i64 (((min ((w32 s 4).toNat - (w32 s 8).toNat) 500) : Nat) : Int)) rfl (r_min (a := ((w32 s 4).toNat - (w32 s 8).toNat)) (b := 500) rfl rfl rfl) ?_
       by_cases hc7 : (((s.extract 12 s.size).size : Nat) : Int) ≠ (((min ((w32 s 4).toNat - (w32 s 8).toNat) 500) : Nat) : Int)
       ·
        refine oP 51 yT rfl (Eq.trans (r_bin rfl rfl rfl (b_neq rfl)) (dT hc7)) <| OA.ps [(52, yT), (53, yT)] rfl <| OA.offs 54 8 rfl <| OA.ps [(62, yT)] rfl <| OA.nil fun _ => RA.rb [(0, (.string s)), (2, (.pointer (some ⟨n, 0, some 0⟩))), (3, yF), (4, (.pointer (some ⟨q1, 0, some 0⟩))), (5, (.pointer (some ⟨n5, 0, some 0⟩))), (62, yT)] rfl (fun τr11 => ?_)
        refine RA.condT rfl <| RA.sR hd env_ok <| oP 63 (.agg ⟨[(.int .u32 0), (.int .i64 0), (.int .i64 0), (.string ByteArray.empty)]⟩) rfl (by kernel_rfl) <| o1 none yU n7 (n, some ⟨[[(.int .u32 0), (.int .i64 0), (.int .i64 0), (.string ByteArray.empty)]], 4, 56, true⟩) (rS (gt2 (by omega) get_here)) <| OA.ps [(3, yF)] rfl <| OA.nil fun _ => ?_
        refine RA.ret env_ok ?_
        have hsz : (s.extract 12 s.size).size = s.size - 12 := size_cut _ _ _ (Nat.le_refl _)
        refine ⟨.inr rfl, [(.agg ⟨[(.int .u32 0), (.int .i64 0), (.int .i64 0), (.string ByteArray.empty)]⟩), (.bool false)], (resL_cons (res_cellA rfl rfl rfl get_here rfl rfl rfl) (resL_cons rfl resL_nil)), [], (LsO fan), ⟨by rw [parse_n (by unfold pOk pAll pAt; omega)] <;> rfl, rfl⟩⟩
       ·
        refine oP 51 yF rfl (Eq.trans (r_bin rfl rfl rfl (b_neq rfl)) (dF hc7)) <| OA.ps [(52, yF), (53, yF), (54, (.pointer (some ⟨n5, 0, some 3⟩)))] rfl <| oL 55 (.string (s.extract 12 s.size)) get_here ?_
        by_cases hc8 : (s.extract 12 s.size) = (ByteArray.mk #[])
        ·
         refine oP 56 yT rfl (Eq.trans (r_eqlS rfl rfl rfl) (dT hc8)) <| OA.ps [(57, yT), (58, (.pointer (some ⟨n5, 0, some 1⟩)))] rfl <| oL 59 (.int .i64 (((w32 s 4).toNat : Nat) : Int)) get_here ?_
         by_cases hc9 : 0 < (((w32 s 4).toNat : Nat) : Int)
         ·
          refine oP 60 yT rfl (Eq.trans (r_bin rfl rfl rfl (b_gtr rfl)) (dT hc9)) <| OA.ps [(61, yT), (62, yT)] rfl <| OA.nil fun _ => RA.rb [(0, (.string s)), (2, (.pointer (some ⟨n, 0, some 0⟩))), (3, yF), (4, (.pointer (some ⟨q1, 0, some 0⟩))), (5, (.pointer (some ⟨n5, 0, some 0⟩))), (62, yT)] rfl (fun τr12 => ?_)
          refine RA.condT rfl <| RA.sR hd env_ok <| oP 63 (.agg ⟨[(.int .u32 0), (.int .i64 0), (.int .i64 0), (.string ByteArray.empty)]⟩) rfl (by kernel_rfl) <| o1 none yU n7 (n, some ⟨[[(.int .u32 0), (.int .i64 0), (.int .i64 0), (.string ByteArray.empty)]], 4, 56, true⟩) (rS (gt2 (by omega) get_here)) <| OA.ps [(3, yF)] rfl <| OA.nil fun _ => ?_
          refine RA.ret env_ok ?_
          have hsz : (s.extract 12 s.size).size = s.size - 12 := size_cut _ _ _ (Nat.le_refl _)
          have hz : (s.extract 12 s.size).size = 0 := by rw [hc8]; rfl
          refine ⟨.inr rfl, [(.agg ⟨[(.int .u32 0), (.int .i64 0), (.int .i64 0), (.string ByteArray.empty)]⟩), (.bool false)], (resL_cons (res_cellA rfl rfl rfl get_here rfl rfl rfl) (resL_cons rfl resL_nil)), [], (LsO fan), ⟨by rw [parse_n (by unfold pOk pAll pAt; omega)] <;> rfl, rfl⟩⟩
         ·
          refine oP 60 yF rfl (Eq.trans (r_bin rfl rfl rfl (b_gtr rfl)) (dF hc9)) <| OA.ps [(61, yF), (62, yF)] rfl <| OA.nil fun _ => RA.rb [(0, (.string s)), (2, (.pointer (some ⟨n, 0, some 0⟩))), (3, yF), (4, (.pointer (some ⟨q1, 0, some 0⟩))), (5, (.pointer (some ⟨n5, 0, some 0⟩))), (62, yF)] rfl (fun τr13 => ?_)
          refine RA.condF rfl <| RA.skip env_ok ?_
          intro _
          refine RA.sR hd env_ok <| oP 64 (.agg ⟨[(W (w32 s 0)), (.int .i64 (((w32 s 4).toNat : Nat) : Int)), (.int .i64 (((w32 s 8).toNat : Nat) : Int)), (.string (s.extract 12 s.size))]⟩) rfl (r_loadA rfl rfl rfl rfl get_here rfl rfl rfl) <| o1 none yU n7 (n, some ⟨[[(W (w32 s 0)), (.int .i64 (((w32 s 4).toNat : Nat) : Int)), (.int .i64 (((w32 s 8).toNat : Nat) : Int)), (.string (s.extract 12 s.size))]], 4, 56, true⟩) (rS (gt2 (by omega) get_here)) <| OA.ps [(3, yT)] rfl <| OA.nil fun _ => ?_
          refine RA.ret env_ok ?_
          have hsz : (s.extract 12 s.size).size = s.size - 12 := size_cut _ _ _ (Nat.le_refl _)
          have hz : (s.extract 12 s.size).size = 0 := by rw [hc8]; rfl
          refine ⟨.inr rfl, [(.agg ⟨[(W (w32 s 0)), (.int .i64 (((w32 s 4).toNat : Nat) : Int)), (.int .i64 (((w32 s 8).toNat : Nat) : Int)), (.string (s.extract 12 s.size))]⟩), (.bool true)], (resL_cons (res_cellA rfl rfl rfl get_here rfl rfl rfl) (resL_cons rfl resL_nil)), [], (LsO fan), ⟨by rw [parse_y (by unfold pOk pAll pAt; omega)] <;> rfl, rfl⟩⟩
        ·
         refine oP 56 yF rfl (Eq.trans (r_eqlS rfl rfl rfl) (dF hc8)) <| OA.ps [(57, yF)] rfl <| OA.offs 58 3 rfl <| OA.ps [(61, yF), (62, yF)] rfl <| OA.nil fun _ => RA.rb [(0, (.string s)), (2, (.pointer (some ⟨n, 0, some 0⟩))), (3, yF), (4, (.pointer (some ⟨q1, 0, some 0⟩))), (5, (.pointer (some ⟨n5, 0, some 0⟩))), (62, yF)] rfl (fun τr14 => ?_)
         refine RA.condF rfl <| RA.skip env_ok ?_
         intro _
         refine RA.sR hd env_ok <| oP 64 (.agg ⟨[(W (w32 s 0)), (.int .i64 (((w32 s 4).toNat : Nat) : Int)), (.int .i64 (((w32 s 8).toNat : Nat) : Int)), (.string (s.extract 12 s.size))]⟩) rfl (r_loadA rfl rfl rfl rfl get_here rfl rfl rfl) <| o1 none yU n7 (n, some ⟨[[(W (w32 s 0)), (.int .i64 (((w32 s 4).toNat : Nat) : Int)), (.int .i64 (((w32 s 8).toNat : Nat) : Int)), (.string (s.extract 12 s.size))]], 4, 56, true⟩) (rS (gt2 (by omega) get_here)) <| OA.ps [(3, yT)] rfl <| OA.nil fun _ => ?_
         refine RA.ret env_ok ?_
         have hsz : (s.extract 12 s.size).size = s.size - 12 := size_cut _ _ _ (Nat.le_refl _)
         have hz : (s.extract 12 s.size).size ≠ 0 := fun e => hc8 (ba_nil e)
         refine ⟨.inr rfl, [(.agg ⟨[(W (w32 s 0)), (.int .i64 (((w32 s 4).toNat : Nat) : Int)), (.int .i64 (((w32 s 8).toNat : Nat) : Int)), (.string (s.extract 12 s.size))]⟩), (.bool true)], (resL_cons (res_cellA rfl rfl rfl get_here rfl rfl rfl) (resL_cons rfl resL_nil)), [], (LsO fan), ⟨by rw [parse_y (by unfold pOk pAll pAt; omega)] <;> rfl, rfl⟩⟩
   ·
    refine OA.call (dst := (some 14)) (all := [(.pointer (some ⟨q1, 0, some 0⟩))]) rfl rfl rfl rfl rfl rfl rfl rfl (CQ.imp (rU32S (hd.of (by omega) (kb4 (by omega))) q1 s 8 (by omega) (by omega) get_here) ?_)
    rintro _ n15 _ ⟨rfl, rfl⟩ hn15
    refine OA.app1 ?_
    refine oP 15 (.int .i64 (((0#32).toNat : Nat) : Int)) rfl (r_cvt rfl rfl rfl rfl rfl ⟨_, rfl⟩ (i64_eq (by have := (0#32).isLt; omega))) <| oP 16 (.agg ⟨[(W (w32 s 0)), (.int .i64 (((w32 s 4).toNat : Nat) : Int)), (.int .i64 (((0#32).toNat : Nat) : Int)), (.string ByteArray.empty)]⟩) rfl (by kernel_rfl) <| o1 (some 5) (.pointer (some ⟨n15, 0, some 0⟩)) (n15 + 1) (n15, some ⟨[[(.int .u32 0), (.int .i64 0), (.int .i64 0), (.string ByteArray.empty)]], 4, 56, true⟩) rfl <| o1 none yU (n15 + 1) (n15, some ⟨[[(W (w32 s 0)), (.int .i64 (((w32 s 4).toNat : Nat) : Int)), (.int .i64 (((0#32).toNat : Nat) : Int)), (.string ByteArray.empty)]], 4, 56, true⟩) (rS get_here) <| OA.nil fun _ => RA.weaken hd (LsO (fA get_here get_here (fA (get_there (by omega) get_here) (gt2 (by omega) get_here) (fA (gt2 (by omega) get_here) (gt6 (by omega) get_here) fan)))) <| RA.sR hd env_ok <| OA.ps [(17, (.pointer (some ⟨q1, 0, some 0⟩)))] rfl ?_
    refine OA.call (dst := (some 18)) (all := [(.pointer (some ⟨q1, 0, some 0⟩))]) rfl rfl rfl rfl rfl rfl rfl rfl (CQ.imp (rRestD (hd.of (by omega) (kb3 (by omega))) q1 _ (get_there (by omega) get_here)) ?_)
    rintro _ n16 _ ⟨rfl, rfl⟩ hn16
    refine OA.app0 ?_
    refine OA.ps [(19, (.pointer (some ⟨n15, 0, some 3⟩)))] rfl <| o1 none yU n16 (n15, some ⟨[[(W (w32 s 0)), (.int .i64 (((w32 s 4).toNat : Nat) : Int)), (.int .i64 (((0#32).toNat : Nat) : Int)), (.string (ByteArray.mk #[]))]], 4, 56, true⟩) (rS get_here) <| OA.nil fun _ => RA.seq hd <| RA.sR hd env_ok <| OA.ps [(20, (.pointer (some ⟨q1, 0, some 0⟩)))] rfl <| oC 21 (v := (.int .i64 2)) (hd.of (by omega) (kb4 (by omega))) rfl rfl (rErr q1 _ 2 (gt2 (by omega) get_here)) fun n17 hn17 => oP 22 yT rfl (r_bin rfl rfl rfl (b_neq rfl)) <| OA.ps [(23, yT)] rfl <| OA.offs 24 3 rfl <| OA.ps [(27, yT), (28, yT)] rfl ?_
    refine OA.offs 29 5 rfl <| OA.ps [(34, yT), (35, yT)] rfl <| OA.offs 36 4 rfl <| OA.ps [(40, yT), (41, yT)] rfl <| OA.offs 42 10 rfl <| OA.ps [(52, yT), (53, yT)] rfl <| OA.offs 54 8 rfl <| OA.ps [(62, yT)] rfl <| OA.nil fun _ => RA.rb [(0, (.string s)), (2, (.pointer (some ⟨n, 0, some 0⟩))), (3, yF), (4, (.pointer (some ⟨q1, 0, some 0⟩))), (5, (.pointer (some ⟨n15, 0, some 0⟩))), (62, yT)] rfl (fun τr18 => ?_)
    refine RA.condT rfl <| RA.sR hd env_ok <| oP 63 (.agg ⟨[(.int .u32 0), (.int .i64 0), (.int .i64 0), (.string ByteArray.empty)]⟩) rfl (by kernel_rfl) <| o1 none yU n17 (n, some ⟨[[(.int .u32 0), (.int .i64 0), (.int .i64 0), (.string ByteArray.empty)]], 4, 56, true⟩) (rS (gt3 (by omega) get_here)) <| OA.ps [(3, yF)] rfl <| OA.nil fun _ => ?_
    refine RA.ret env_ok ?_
    refine ⟨.inr rfl, [(.agg ⟨[(.int .u32 0), (.int .i64 0), (.int .i64 0), (.string ByteArray.empty)]⟩), (.bool false)], (resL_cons (res_cellA rfl rfl rfl get_here rfl rfl rfl) (resL_cons rfl resL_nil)), [], (LsO fan), ⟨by rw [parse_n (by unfold pOk pAll pAt; omega)] <;> rfl, rfl⟩⟩
  ·
   refine OA.call (dst := (some 11)) (all := [(.pointer (some ⟨q1, 0, some 0⟩))]) rfl rfl rfl rfl rfl rfl rfl rfl (CQ.imp (rU32S (hd.of (by omega) (kb3 (by omega))) q1 s 4 (by omega) (by omega) get_here) ?_)
   rintro _ n19 _ ⟨rfl, rfl⟩ hn19
   refine OA.app1 ?_
   refine oP 12 (.int .i64 (((0#32).toNat : Nat) : Int)) rfl (r_cvt rfl rfl rfl rfl rfl ⟨_, rfl⟩ (i64_eq (by have := (0#32).isLt; omega))) <| OA.ps [(13, (.pointer (some ⟨q1, 0, some 0⟩)))] rfl ?_
   refine OA.call (dst := (some 14)) (all := [(.pointer (some ⟨q1, 0, some 0⟩))]) rfl rfl rfl rfl rfl rfl rfl rfl (CQ.imp (rU32D (hd.of (by omega) (kb4 (by omega))) q1 _ 0 get_here) ?_)
   rintro _ n20 _ ⟨rfl, rfl⟩ hn20
   refine OA.app0 ?_
   refine oP 15 (.int .i64 (((0#32).toNat : Nat) : Int)) rfl (r_cvt rfl rfl rfl rfl rfl ⟨_, rfl⟩ (i64_eq (by have := (0#32).isLt; omega))) <| oP 16 (.agg ⟨[(W (w32 s 0)), (.int .i64 (((0#32).toNat : Nat) : Int)), (.int .i64 (((0#32).toNat : Nat) : Int)), (.string ByteArray.empty)]⟩) rfl (by kernel_rfl) <| o1 (some 5) (.pointer (some ⟨n20, 0, some 0⟩)) (n20 + 1) (n20, some ⟨[[(.int .u32 0), (.int .i64 0), (.int .i64 0), (.string ByteArray.empty)]], 4, 56, true⟩) rfl <| o1 none yU (n20 + 1) (n20, some ⟨[[(W (w32 s 0)), (.int .i64 (((0#32).toNat : Nat) : Int)), (.int .i64 (((0#32).toNat : Nat) : Int)), (.string ByteArray.empty)]], 4, 56, true⟩) (rS get_here) <| OA.nil fun _ => RA.sR hd env_ok <| OA.ps [(17, (.pointer (some ⟨q1, 0, some 0⟩)))] rfl ?_
   refine OA.call (dst := (some 18)) (all := [(.pointer (some ⟨q1, 0, some 0⟩))]) rfl rfl rfl rfl rfl rfl rfl rfl (CQ.imp (rRestD (hd.of (by omega) (kb6 (by omega))) q1 _ (gt2 (by omega) get_here)) ?_)
   rintro _ n21 _ ⟨rfl, rfl⟩ hn21
   refine OA.app0 ?_
   refine OA.ps [(19, (.pointer (some ⟨n20, 0, some 3⟩)))] rfl <| o1 none yU n21 (n20, some ⟨[[(W (w32 s 0)), (.int .i64 (((0#32).toNat : Nat) : Int)), (.int .i64 (((0#32).toNat : Nat) : Int)), (.string (ByteArray.mk #[]))]], 4, 56, true⟩) (rS get_here) <| OA.nil fun _ => RA.weaken hd (LsO (fA get_here get_here (fA (get_there (by omega) get_here) (gt3 (by omega) get_here) (fA (gt2 (by omega) get_here) (gt6 (by omega) get_here) fan)))) <| RA.seq hd <| RA.sR hd env_ok <| OA.ps [(20, (.pointer (some ⟨q1, 0, some 0⟩)))] rfl <| oC 21 (v := (.int .i64 2)) (hd.of (by omega) (kb3 (by omega))) rfl rfl (rErr q1 _ 2 (get_there (by omega) get_here)) fun n22 hn22 => oP 22 yT rfl (r_bin rfl rfl rfl (b_neq rfl)) <| OA.ps [(23, yT)] rfl <| OA.offs 24 3 rfl ?_
   refine OA.ps [(27, yT), (28, yT)] rfl <| OA.offs 29 5 rfl <| OA.ps [(34, yT), (35, yT)] rfl <| OA.offs 36 4 rfl <| OA.ps [(40, yT), (41, yT)] rfl <| OA.offs 42 10 rfl <| OA.ps [(52, yT), (53, yT)] rfl <| OA.offs 54 8 rfl <| OA.ps [(62, yT)] rfl <| OA.nil fun _ => RA.rb [(0, (.string s)), (2, (.pointer (some ⟨n, 0, some 0⟩))), (3, yF), (4, (.pointer (some ⟨q1, 0, some 0⟩))), (5, (.pointer (some ⟨n20, 0, some 0⟩))), (62, yT)] rfl (fun τr23 => ?_)
   refine RA.condT rfl <| RA.sR hd env_ok <| oP 63 (.agg ⟨[(.int .u32 0), (.int .i64 0), (.int .i64 0), (.string ByteArray.empty)]⟩) rfl (by kernel_rfl) <| o1 none yU n22 (n, some ⟨[[(.int .u32 0), (.int .i64 0), (.int .i64 0), (.string ByteArray.empty)]], 4, 56, true⟩) (rS (gt2 (by omega) get_here)) <| OA.ps [(3, yF)] rfl <| OA.nil fun _ => ?_
   refine RA.ret env_ok ?_
   refine ⟨.inr rfl, [(.agg ⟨[(.int .u32 0), (.int .i64 0), (.int .i64 0), (.string ByteArray.empty)]⟩), (.bool false)], (resL_cons (res_cellA rfl rfl rfl get_here rfl rfl rfl) (resL_cons rfl resL_nil)), [], (LsO fan), ⟨by rw [parse_n (by unfold pOk pAll pAt; omega)] <;> rfl, rfl⟩⟩
 ·
  refine OA.call (dst := (some 9)) (all := [(.pointer (some ⟨q1, 0, some 0⟩))]) rfl rfl rfl rfl rfl rfl rfl rfl (CQ.imp (rU32S (hd.of (by omega) (kb2 (by omega))) q1 s 0 (by omega) (by omega) get_here) ?_)
  rintro _ n24 _ ⟨rfl, rfl⟩ hn24
  refine OA.app1 ?_
  refine OA.ps [(10, (.pointer (some ⟨q1, 0, some 0⟩)))] rfl ?_
  refine OA.call (dst := (some 11)) (all := [(.pointer (some ⟨q1, 0, some 0⟩))]) rfl rfl rfl rfl rfl rfl rfl rfl (CQ.imp (rU32D (hd.of (by omega) (kb3 (by omega))) q1 _ 0 get_here) ?_)
  rintro _ n25 _ ⟨rfl, rfl⟩ hn25
  refine OA.app0 ?_
  refine oP 12 (.int .i64 (((0#32).toNat : Nat) : Int)) rfl (r_cvt rfl rfl rfl rfl rfl ⟨_, rfl⟩ (i64_eq (by have := (0#32).isLt; omega))) <| OA.ps [(13, (.pointer (some ⟨q1, 0, some 0⟩)))] rfl ?_
  refine OA.call (dst := (some 14)) (all := [(.pointer (some ⟨q1, 0, some 0⟩))]) rfl rfl rfl rfl rfl rfl rfl rfl (CQ.imp (rU32D (hd.of (by omega) (kb3 (by omega))) q1 _ 0 get_here) ?_)
  rintro _ n26 _ ⟨rfl, rfl⟩ hn26
  refine OA.app0 ?_
  refine oP 15 (.int .i64 (((0#32).toNat : Nat) : Int)) rfl (r_cvt rfl rfl rfl rfl rfl ⟨_, rfl⟩ (i64_eq (by have := (0#32).isLt; omega))) <| oP 16 (.agg ⟨[(W 0#32), (.int .i64 (((0#32).toNat : Nat) : Int)), (.int .i64 (((0#32).toNat : Nat) : Int)), (.string ByteArray.empty)]⟩) rfl (by kernel_rfl) <| o1 (some 5) (.pointer (some ⟨n26, 0, some 0⟩)) (n26 + 1) (n26, some ⟨[[(.int .u32 0), (.int .i64 0), (.int .i64 0), (.string ByteArray.empty)]], 4, 56, true⟩) rfl <| o1 none yU (n26 + 1) (n26, some ⟨[[(W 0#32), (.int .i64 (((0#32).toNat : Nat) : Int)), (.int .i64 (((0#32).toNat : Nat) : Int)), (.string ByteArray.empty)]], 4, 56, true⟩) (rS get_here) <| OA.nil fun _ => RA.sR hd env_ok <| OA.ps [(17, (.pointer (some ⟨q1, 0, some 0⟩)))] rfl ?_
  refine OA.call (dst := (some 18)) (all := [(.pointer (some ⟨q1, 0, some 0⟩))]) rfl rfl rfl rfl rfl rfl rfl rfl (CQ.imp (rRestD (hd.of (by omega) (kb5 (by omega))) q1 _ (gt2 (by omega) get_here)) ?_)
  rintro _ n27 _ ⟨rfl, rfl⟩ hn27
  refine OA.app0 ?_
  refine OA.ps [(19, (.pointer (some ⟨n26, 0, some 3⟩)))] rfl <| o1 none yU n27 (n26, some ⟨[[(W 0#32), (.int .i64 (((0#32).toNat : Nat) : Int)), (.int .i64 (((0#32).toNat : Nat) : Int)), (.string (ByteArray.mk #[]))]], 4, 56, true⟩) (rS get_here) <| OA.nil fun _ => RA.weaken hd (LsO (fA get_here get_here (fA (get_there (by omega) get_here) (gt3 (by omega) get_here) (fA (gt2 (by omega) get_here) (gt5 (by omega) get_here) fan)))) <| RA.seq hd <| RA.sR hd env_ok <| OA.ps [(20, (.pointer (some ⟨q1, 0, some 0⟩)))] rfl <| oC 21 (v := (.int .i64 2)) (hd.of (by omega) (kb3 (by omega))) rfl rfl (rErr q1 _ 2 (get_there (by omega) get_here)) fun n28 hn28 => oP 22 yT rfl (r_bin rfl rfl rfl (b_neq rfl)) <| OA.ps [(23, yT)] rfl <| OA.offs 24 3 rfl ?_
  refine OA.ps [(27, yT), (28, yT)] rfl <| OA.offs 29 5 rfl <| OA.ps [(34, yT), (35, yT)] rfl <| OA.offs 36 4 rfl <| OA.ps [(40, yT), (41, yT)] rfl <| OA.offs 42 10 rfl <| OA.ps [(52, yT), (53, yT)] rfl <| OA.offs 54 8 rfl <| OA.ps [(62, yT)] rfl <| OA.nil fun _ => RA.rb [(0, (.string s)), (2, (.pointer (some ⟨n, 0, some 0⟩))), (3, yF), (4, (.pointer (some ⟨q1, 0, some 0⟩))), (5, (.pointer (some ⟨n26, 0, some 0⟩))), (62, yT)] rfl (fun τr29 => ?_)
  refine RA.condT rfl <| RA.sR hd env_ok <| oP 63 (.agg ⟨[(.int .u32 0), (.int .i64 0), (.int .i64 0), (.string ByteArray.empty)]⟩) rfl (by kernel_rfl) <| o1 none yU n28 (n, some ⟨[[(.int .u32 0), (.int .i64 0), (.int .i64 0), (.string ByteArray.empty)]], 4, 56, true⟩) (rS (gt2 (by omega) get_here)) <| OA.ps [(3, yF)] rfl <| OA.nil fun _ => ?_
  refine RA.ret env_ok ?_
  refine ⟨.inr rfl, [(.agg ⟨[(.int .u32 0), (.int .i64 0), (.int .i64 0), (.string ByteArray.empty)]⟩), (.bool false)], (resL_cons (res_cellA rfl rfl rfl get_here rfl rfl rfl) (resL_cons rfl resL_nil)), [], (LsO fan), ⟨by rw [parse_n (by unfold pOk pAll pAt; omega)] <;> rfl, rfl⟩⟩
theorem sParseY {n : Nat} {σ : Store} (hd : Dom n σ) (s : ByteArray) (hs : s.size < 9223372036854775808) (hp : pOk s) : CQ Try.prog noDen 21 [.string s] n σ (fun v n' d => v = .tuple ⟨[pieceV s, .bool true]⟩ ∧ d = []) := by
  refine CQ.imp (sParse hd s hs) ?_
  rintro v n' d ⟨rfl, rfl⟩
  exact ⟨parse_y hp, rfl⟩
theorem sParseN {n : Nat} {σ : Store} (hd : Dom n σ) (s : ByteArray) (hs : s.size < 9223372036854775808) (hp : ¬ pOk s) : CQ Try.prog noDen 21 [.string s] n σ (fun v n' d => v = .tuple ⟨[(.agg ⟨[(.int .u32 0), (.int .i64 0), (.int .i64 0), (.string ByteArray.empty)]⟩), .bool false]⟩ ∧ d = []) := by
  refine CQ.imp (sParse hd s hs) ?_
  rintro v n' d ⟨rfl, rfl⟩
  exact ⟨parse_n hp, rfl⟩
theorem pOk_f {s : ByteArray} (h : pOk s) : 12 ≤ s.size ∧ pAll s ≤ 20000 ∧ pAt s ≤ pAll s ∧ pAt s % 500 = 0 ∧ (s.extract 12 s.size).size = min (pAll s - pAt s) 500 := by
  obtain ⟨h1, h2, h3, h4, h5, h6⟩ := h
  exact ⟨h1, h2, h3, h4, by rw [size_cut _ _ _ (Nat.le_refl _)]; exact h5⟩
end Go.Proofs.Ytdiofapingdlmaa.Vt
/- F2: walks through functions of the program, by the calculus; written by a program of this workplace. -/
namespace Go.Proofs.Ytdiofapingdlmaa.Vt
open Go Go.Proofs Go.Proofs.YtdiofapingdlmaaV
set_option maxRecDepth 100000
set_option linter.unusedVariables false
set_option linter.unusedSimpArgs false
set_option maxHeartbeats 8000000
theorem kAwake {σ : Store} : PS Try.prog noDen 12 [] σ (.bool true) := PS.closed2 env_ok rfl (L := []) trivial (F := 200) (k := 60) (by kernel_rfl) rfl rfl
theorem nTake {n : Nat} {σ : Store} (hd : Dom n σ) (s : ByteArray) (hs : s.size < 9223372036854775808)   : CQ Try.prog noDen 10 [(.pointer none), (.string s)] n σ (fun v n' d => v = (.tuple ⟨[(.agg ⟨[(.int .u32 0), (.string ByteArray.empty)]⟩), (.bool false), (.int .i64 3)]⟩) ∧ d = []) := by
 refine CQ.body (E := env) env_ok hd rfl rfl (by show _ ≤ _; exact of_decide_eq_true (by kernel_rfl)) ?_
 refine RA.sR hd env_ok <| o1 (some 4) (.pointer (some ⟨n, 0, some 0⟩)) (n + 1) (n, some ⟨[[(.int .u32 0), (.string ByteArray.empty)]], 2, 26, true⟩) rfl <| OA.ps [(5, yF), (6, (.int .i64 0))] rfl <| OA.nil fun _ => RA.sR hd env_ok <| OA.ps [(14, (.string s))] rfl ?_
 by_cases hc1 : pOk s
 ·
  have hpfhc1 := pOk_f hc1
  refine OA.call (dst := (some 15)) (all := [(.string s)]) rfl rfl rfl rfl rfl rfl rfl rfl (CQ.imp (sParseY (hd.of (by omega) (kb1 (by omega))) s hs hc1) ?_)
  rintro _ n1 _ ⟨rfl, rfl⟩ hn1
  refine OA.app0 ?_
  refine OA.ps [(13, (.tuple ⟨[(.agg ⟨[(W (w32 s 0)), (.int .i64 (((pAll s) : Nat) : Int)), (.int .i64 (((pAt s) : Nat) : Int)), (.string (s.extract 12 s.size))]⟩), yT]⟩)), (16, (.agg ⟨[(W (w32 s 0)), (.int .i64 (((pAll s) : Nat) : Int)), (.int .i64 (((pAt s) : Nat) : Int)), (.string (s.extract 12 s.size))]⟩)), (17, yT)] rfl <| o1 (some 7) (.pointer (some ⟨n1, 0, some 0⟩)) (n1 + 1) (n1, some ⟨[[(.int .u32 0), (.int .i64 0), (.int .i64 0), (.string ByteArray.empty)]], 4, 56, true⟩) rfl <| o1 none yU (n1 + 1) (n1, some ⟨[[(W (w32 s 0)), (.int .i64 (((pAll s) : Nat) : Int)), (.int .i64 (((pAt s) : Nat) : Int)), (.string (s.extract 12 s.size))]], 4, 56, true⟩) (rS get_here) <| OA.ps [(8, yT)] rfl <| OA.nil fun _ => RA.seq hd <| RA.sR hd env_ok <| OA.ps [(18, (.pointer none)), (19, yT), (20, yT)] rfl <| OA.offs 21 2 rfl <| OA.ps [(23, yT)] rfl <| OA.nil fun _ => ?_
  refine RA.condT rfl <| RA.sR hd env_ok <| oP 24 (.agg ⟨[(.int .u32 0), (.string ByteArray.empty)]⟩) rfl (by kernel_rfl) <| o1 none yU (n1 + 1) (n, some ⟨[[(.int .u32 0), (.string ByteArray.empty)]], 2, 26, true⟩) (rS (gt2 (by omega) get_here)) <| OA.ps [(5, yF), (6, (.int .i64 3))] rfl <| OA.nil fun _ => ?_
  refine RA.ret env_ok ?_
  refine ⟨.inr rfl, [(.agg ⟨[(.int .u32 0), (.string ByteArray.empty)]⟩), (.bool false), (.int .i64 3)], (resL_cons (res_cellA rfl rfl rfl get_here rfl rfl rfl) (resL_cons rfl (resL_cons rfl resL_nil))), [], (LsO fan), ⟨rfl, rfl⟩⟩
 ·
  refine OA.call (dst := (some 15)) (all := [(.string s)]) rfl rfl rfl rfl rfl rfl rfl rfl (CQ.imp (sParseN (hd.of (by omega) (kb1 (by omega))) s hs hc1) ?_)
  rintro _ n2 _ ⟨rfl, rfl⟩ hn2
  refine OA.app0 ?_
  refine OA.ps [(13, (.tuple ⟨[(.agg ⟨[(.int .u32 0), (.int .i64 0), (.int .i64 0), (.string ByteArray.empty)]⟩), yF]⟩)), (16, (.agg ⟨[(.int .u32 0), (.int .i64 0), (.int .i64 0), (.string ByteArray.empty)]⟩)), (17, yF)] rfl <| o1 (some 7) (.pointer (some ⟨n2, 0, some 0⟩)) (n2 + 1) (n2, some ⟨[[(.int .u32 0), (.int .i64 0), (.int .i64 0), (.string ByteArray.empty)]], 4, 56, true⟩) rfl <| o1 none yU (n2 + 1) (n2, some ⟨[[(.int .u32 0), (.int .i64 0), (.int .i64 0), (.string ByteArray.empty)]], 4, 56, true⟩) (rS get_here) <| OA.ps [(8, yF)] rfl <| OA.nil fun _ => RA.seq hd <| RA.sR hd env_ok <| OA.ps [(18, (.pointer none)), (19, yT), (20, yT)] rfl <| OA.offs 21 2 rfl <| OA.ps [(23, yT)] rfl <| OA.nil fun _ => ?_
  refine RA.condT rfl <| RA.sR hd env_ok <| oP 24 (.agg ⟨[(.int .u32 0), (.string ByteArray.empty)]⟩) rfl (by kernel_rfl) <| o1 none yU (n2 + 1) (n, some ⟨[[(.int .u32 0), (.string ByteArray.empty)]], 2, 26, true⟩) (rS (gt2 (by omega) get_here)) <| OA.ps [(5, yF), (6, (.int .i64 3))] rfl <| OA.nil fun _ => ?_
  refine RA.ret env_ok ?_
  refine ⟨.inr rfl, [(.agg ⟨[(.int .u32 0), (.string ByteArray.empty)]⟩), (.bool false), (.int .i64 3)], (resL_cons (res_cellA rfl rfl rfl get_here rfl rfl rfl) (resL_cons rfl (resL_cons rfl resL_nil))), [], (LsO fan), ⟨rfl, rfl⟩⟩
theorem nSLen {σ : Store}    : PS Try.prog noDen 19 [(.pointer none)] σ (.int .i64 0) := by
 refine PS.body (E := env) env_ok rfl rfl (by show _ ≤ _; exact of_decide_eq_true (by kernel_rfl)) (fun n hd => ?_)
 refine RA.sR hd env_ok <| OA.ps [(2, (.int .i64 0))] rfl <| OA.nil fun _ => RA.seq hd <| RA.sR hd env_ok <| OA.ps [(3, (.pointer none)), (4, yT)] rfl <| OA.nil fun _ => RA.condT rfl <| RA.sR hd env_ok <| OA.ps [(2, (.int .i64 0))] rfl <| OA.nil fun _ => ?_
 refine RA.ret env_ok ?_
 exact lf (.int .i64 0) rfl
theorem nRLen {σ : Store}    : PS Try.prog noDen 13 [(.pointer none)] σ (.int .i64 0) := by
 refine PS.body (E := env) env_ok rfl rfl (by show _ ≤ _; exact of_decide_eq_true (by kernel_rfl)) (fun n hd => ?_)
 refine RA.sR hd env_ok <| OA.ps [(2, (.int .i64 0))] rfl <| OA.nil fun _ => RA.seq hd <| RA.sR hd env_ok <| OA.ps [(3, (.pointer none)), (4, yT)] rfl <| OA.nil fun _ => RA.condT rfl <| RA.sR hd env_ok <| OA.ps [(2, (.int .i64 0))] rfl <| OA.nil fun _ => ?_
 refine RA.ret env_ok ?_
 exact lf (.int .i64 0) rfl
theorem nPeek {σ : Store}    : PS Try.prog noDen 17 [(.pointer none)] σ (.tuple ⟨[(.string ByteArray.empty), (.bool false)]⟩) := by
 refine PS.body (E := env) env_ok rfl rfl (by show _ ≤ _; exact of_decide_eq_true (by kernel_rfl)) (fun n hd => ?_)
 refine RA.sR hd env_ok <| OA.ps [(2, (.string (ByteArray.mk #[]))), (3, yF)] rfl <| OA.nil fun _ => RA.seq hd <| RA.sR hd env_ok <| OA.ps [(5, (.pointer none))] rfl <| oC 6 (hd.up (by omega)) rfl rfl nSLen fun n1 hn1 => oP 7 yT rfl (r_bin rfl rfl rfl (b_eql rfl)) <| OA.nil fun _ => RA.condT rfl <| RA.sR hd env_ok ?_
 refine OA.ps [(2, (.string (ByteArray.mk #[]))), (3, yF)] rfl <| OA.nil fun _ => ?_
 refine RA.ret env_ok ?_
 refine ⟨.inr rfl, [(.string (ByteArray.mk #[])), (.bool false)], (resL_cons rfl (resL_cons rfl resL_nil)), rfl, (fun i hi => by cases hi)⟩
theorem nDone {σ : Store}    : PS Try.prog noDen 20 [(.pointer none)] σ (.tuple #[]) := by
 refine PS.body (E := env) env_ok rfl rfl (by show _ ≤ _; exact of_decide_eq_true (by kernel_rfl)) (fun n hd => ?_)
 refine RA.seq hd <| RA.sR hd env_ok <| OA.ps [(3, (.pointer none))] rfl <| oC 4 (hd.up (by omega)) rfl rfl nSLen fun n1 hn1 => oP 5 yT rfl (r_bin rfl rfl rfl (b_eql rfl)) <| OA.nil fun _ => RA.condT rfl ?_
 refine RA.ret env_ok ?_
 refine ⟨.inr rfl, [], resL_nil, rfl, (fun i hi => by cases hi)⟩
theorem nPut {σ : Store} (a : Int) (b : ByteArray)   : PS Try.prog noDen 16 [(.pointer none), (.agg ⟨[(.int .u32 a), (.string b)]⟩)] σ (.int .i64 1) := by
 refine PS.body (E := env) env_ok rfl rfl (by show _ ≤ _; exact of_decide_eq_true (by kernel_rfl)) (fun n hd => ?_)
 refine RA.sR hd env_ok <| o1 (some 3) (.pointer (some ⟨n, 0, some 0⟩)) (n + 1) (n, some ⟨[[(.int .u32 a), (.string b)]], 2, 26, true⟩) rfl <| OA.ps [(4, (.int .i64 0))] rfl <| OA.nil fun _ => RA.seq hd <| RA.block <| RA.sR hd env_ok <| OA.ps [(6, (.pointer none)), (7, yT), (8, yT)] rfl <| OA.offs 9 4 rfl <| OA.ps [(13, yT), (14, yT)] rfl <| OA.offs 15 6 rfl ?_
 refine OA.ps [(21, yT), (5, yT)] rfl <| OA.nil fun _ => RA.condT rfl <| RA.sR hd env_ok <| OA.ps [(4, (.int .i64 1))] rfl <| OA.nil fun _ => ?_
 refine RA.ret env_ok ?_
 exact lf (.int .i64 1) rfl
theorem lNone {n : Nat} {σ : Store} (hd : Dom n σ) (a : Int) (b s : ByteArray) (hs : s.size < 9223372036854775808)   : CQ Try.prog noDen 7 [(.agg ⟨[(.int .u32 a), (.string b)]⟩), (.string s)] n σ (fun v n' d => v = .bool true) := by
 refine CQ.body (E := env) env_ok hd rfl rfl (by show _ ≤ _; exact of_decide_eq_true (by kernel_rfl)) ?_
 refine RA.sR hd env_ok <| o1 (some 2) (.pointer (some ⟨n, 0, some 0⟩)) (n + 1) (n, some ⟨[[(.int .u32 a), (.string b)]], 2, 26, true⟩) rfl <| OA.ps [(4, yF)] rfl <| OA.nil fun _ => RA.sR hd env_ok <| OA.ps [(5, (.pointer none))] rfl <| OA.nil fun _ => RA.sR hd env_ok <| OA.ps [(6, (.pointer none))] rfl <| OA.nil fun _ => RA.sR hd env_ok ?_
 refine OA.ps [(12, (.pointer none))] rfl <| oC 13 (hd.of (by omega) (kb1 (by omega))) rfl rfl nDone fun n1 hn1 => OA.nil fun _ => RA.sR hd env_ok <| OA.ps [(15, (.pointer none))] rfl <| oC 16 (hd.of (by omega) (kb1 (by omega))) rfl rfl nPeek fun n2 hn2 => OA.ps [(14, (.tuple ⟨[(.string ByteArray.empty), yF]⟩)), (17, (.string ByteArray.empty)), (18, yF), (7, (.string ByteArray.empty)), (8, yF)] rfl <| OA.nil fun _ => RA.sR hd env_ok <| OA.ps [(20, (.pointer none)), (21, (.string s))] rfl ?_
 refine OA.call (dst := (some 22)) (all := [(.pointer none), (.string s)]) rfl rfl rfl rfl rfl rfl rfl rfl (CQ.imp (nTake (hd.of (by omega) (kb1 (by omega))) s hs) ?_)
 rintro _ n3 _ ⟨rfl, rfl⟩ hn3
 refine OA.app0 ?_
 refine OA.ps [(19, (.tuple ⟨[(.agg ⟨[(.int .u32 0), (.string ByteArray.empty)]⟩), yF, (.int .i64 3)]⟩)), (23, (.agg ⟨[(.int .u32 0), (.string ByteArray.empty)]⟩)), (24, yF), (25, (.int .i64 3))] rfl <| o1 (some 9) (.pointer (some ⟨n3, 0, some 0⟩)) (n3 + 1) (n3, some ⟨[[(.int .u32 0), (.string ByteArray.empty)]], 2, 26, true⟩) rfl <| o1 none yU (n3 + 1) (n3, some ⟨[[(.int .u32 0), (.string ByteArray.empty)]], 2, 26, true⟩) (rS get_here) <| OA.ps [(10, yF), (11, (.int .i64 3))] rfl <| OA.nil fun _ => RA.sR hd env_ok <| oC 26 (hd.of (by omega) (kb3 (by omega))) rfl rfl kAwake fun n4 hn4 => OA.ps [(27, yT), (28, (.pointer none))] rfl <| oP 29 (.agg ⟨[(.int .u32 a), (.string b)]⟩) rfl (r_loadA rfl rfl rfl rfl (gt2 (by omega) get_here) rfl rfl rfl) <| oC 30 (v := (.int .i64 1)) (hd.of (by omega) (kb3 (by omega))) rfl rfl (nPut _ _) fun n5 hn5 => oP 31 yT rfl (r_bin rfl rfl rfl (b_eql rfl)) ?_
 refine OA.ps [(32, yT), (33, yT), (34, (.pointer none))] rfl <| oC 35 (hd.of (by omega) (kb3 (by omega))) rfl rfl nSLen fun n6 hn6 => oP 36 yT rfl (r_bin rfl rfl rfl (b_eql rfl)) <| OA.ps [(37, yT), (38, yT), (39, yF), (40, yT), (41, yT), (42, yT), (43, yF), (44, yT), (45, yT), (46, yT), (47, (.int .i64 3))] rfl <| oP 48 yT rfl (r_bin rfl rfl rfl (b_eql rfl)) <| OA.ps [(49, yT), (50, yT), (51, (.pointer none))] rfl <| oC 52 (hd.of (by omega) (kb3 (by omega))) rfl rfl nRLen fun n7 hn7 => oP 53 yT rfl (r_bin rfl rfl rfl (b_eql rfl)) <| OA.ps [(54, yT), (4, yT)] rfl <| OA.nil fun _ => RA.rb [(0, (.agg ⟨[(.int .u32 a), (.string b)]⟩)), (1, (.string s)), (2, (.pointer (some ⟨n, 0, some 0⟩))), (4, yT), (5, (.pointer none)), (6, (.pointer none)), (8, yF), (10, yF), (11, (.int .i64 3))] rfl (fun τr8 => ?_)
 refine RA.ret env_ok ?_
 refine ⟨.inr rfl, [(.bool true)], (resL_cons rfl resL_nil), [], (LsO fan), rfl⟩
end Go.Proofs.Ytdiofapingdlmaa.Vt
/- The pure part of FilerNone. -/
namespace Go.Proofs.Ytdiofapingdlmaa.Vt
open Go Go.Proofs Go.Proofs.YtdiofapingdlmaaV
set_option linter.unusedVariables false
theorem runFilerNone (n : Nat) (σ : Store) (hd : Dom n σ) (x0 x1 : Value) (h0 : (∃ acs, x0 = .agg ⟨acs⟩ ∧ g26.G σ acs)) (h1 : g9.G σ [x1]) : CQ Try.prog noDen 7 [x0, x1] n σ (fun v _ _ => v = .bool true) := by
  obtain ⟨acs0, rfl, k0⟩ := h0
  obtain ⟨_, _, rfl, ⟨a2, rfl, w2⟩, _, _, rfl, ⟨a3, rfl, w3⟩, rfl⟩ := k0
  obtain ⟨b1, q1, w1⟩ := h1
  cases q1
  exact lNone hd a2 a3 b1 (Nat.lt_succ_of_le w1)
end Go.Proofs.Ytdiofapingdlmaa.Vt
