/- Part 4 of the texts that prove FilerReads: the abstract machine, its calculus, and walks through functions; joined by a program of this workplace. -/
import Derived.Test.YtdiofapingdlmaaZFilerReads3
import Derived.Test.YtdiofapingdlmaaProg
/- The tables of types and functions, for the abstract machine. -/
namespace Go.Proofs.Ytdiofapingdlmaa.Vt
open Go Go.Proofs Go.Proofs.YtdiofapingdlmaaV
set_option maxRecDepth 100000
set_option linter.unusedVariables false
def t3 : TI := ⟨.int .i64, .int .i64 0, 1, 8, false⟩
theorem t3_ok : TyOk Try.prog 3 t3 := TyOk.mk' Try.underlying3 (by kernel_rfl) (by kernel_rfl) (.inl rfl)
def t4 : TI := ⟨.bool, .bool false, 1, 1, false⟩
theorem t4_ok : TyOk Try.prog 4 t4 := TyOk.mk' Try.underlying4 (by kernel_rfl) (by kernel_rfl) (.inl rfl)
def t5 : TI := ⟨.int .u8, .int .u8 0, 1, 1, false⟩
theorem t5_ok : TyOk Try.prog 5 t5 := TyOk.mk' Try.underlying5 (by kernel_rfl) (by kernel_rfl) (.inl rfl)
def t9 : TI := ⟨.string, .string ⟨#[]⟩, 1, 16, false⟩
theorem t9_ok : TyOk Try.prog 9 t9 := TyOk.mk' Try.underlying9 (by kernel_rfl) (by kernel_rfl) (.inl rfl)
def t22 : TI := ⟨.slice 3, .slice none 0 0, 1, 24, false⟩
theorem t22_ok : TyOk Try.prog 22 t22 := TyOk.mk' Try.underlying22 (by kernel_rfl) (by kernel_rfl) (.inl rfl)
def t23 : TI := ⟨.int .u32, .int .u32 0, 1, 4, false⟩
theorem t23_ok : TyOk Try.prog 23 t23 := TyOk.mk' Try.underlying23 (by kernel_rfl) (by kernel_rfl) (.inl rfl)
def t25 : TI := ⟨.struct #[{ name := "ID", type := 23, offset := 0, embedded := false, tag := "", pkgPath := "", byteOffset := 0 }, { name := "Data", type := 9, offset := 1, embedded := false, tag := "", pkgPath := "", byteOffset := 8 }], .agg #[.int .u32 0, .string ⟨#[]⟩], 2, 24, true⟩
theorem t25_ok : TyOk Try.prog 25 t25 := TyOk.mk' Try.underlying25 (by kernel_rfl) (by kernel_rfl) (.inr ⟨by kernel_rfl, by kernel_rfl⟩)
def t26 : TI := ⟨.struct #[{ name := "ID", type := 23, offset := 0, embedded := false, tag := "", pkgPath := "", byteOffset := 0 }, { name := "Data", type := 9, offset := 1, embedded := false, tag := "", pkgPath := "", byteOffset := 8 }], .agg #[.int .u32 0, .string ⟨#[]⟩], 2, 24, true⟩
theorem t26_ok : TyOk Try.prog 26 t26 := TyOk.mk' Try.underlying26 (by kernel_rfl) (by kernel_rfl) (.inr ⟨by kernel_rfl, by kernel_rfl⟩)
def t27 : TI := ⟨.pointer 54, .pointer none, 1, 8, false⟩
theorem t27_ok : TyOk Try.prog 27 t27 := TyOk.mk' Try.underlying27 (by kernel_rfl) (by kernel_rfl) (.inl rfl)
def t29 : TI := ⟨.slice 4, .slice none 0 0, 1, 24, false⟩
theorem t29_ok : TyOk Try.prog 29 t29 := TyOk.mk' Try.underlying29 (by kernel_rfl) (by kernel_rfl) (.inl rfl)
def t30 : TI := ⟨.int .i64, .int .i64 0, 1, 8, false⟩
theorem t30_ok : TyOk Try.prog 30 t30 := TyOk.mk' Try.underlying30 (by kernel_rfl) (by kernel_rfl) (.inl rfl)
def t37 : TI := ⟨.array 2 3, .agg #[.int .i64 0, .int .i64 0], 2, 16, false⟩
theorem t37_ok : TyOk Try.prog 37 t37 := TyOk.mk' Try.underlying37 (by kernel_rfl) (by kernel_rfl) (.inl rfl)
def t39 : TI := ⟨.int .u64, .int .u64 0, 1, 8, false⟩
theorem t39_ok : TyOk Try.prog 39 t39 := TyOk.mk' Try.underlying39 (by kernel_rfl) (by kernel_rfl) (.inl rfl)
def t41 : TI := ⟨.pointer 70, .pointer none, 1, 8, false⟩
theorem t41_ok : TyOk Try.prog 41 t41 := TyOk.mk' Try.underlying41 (by kernel_rfl) (by kernel_rfl) (.inl rfl)
def t43 : TI := ⟨.slice 5, .slice none 0 0, 1, 24, false⟩
theorem t43_ok : TyOk Try.prog 43 t43 := TyOk.mk' Try.underlying43 (by kernel_rfl) (by kernel_rfl) (.inl rfl)
def t46 : TI := ⟨.slice 9, .slice none 0 0, 1, 24, false⟩
theorem t46_ok : TyOk Try.prog 46 t46 := TyOk.mk' Try.underlying46 (by kernel_rfl) (by kernel_rfl) (.inl rfl)
def t47 : TI := ⟨.slice 26, .slice none 0 0, 1, 24, false⟩
theorem t47_ok : TyOk Try.prog 47 t47 := TyOk.mk' Try.underlying47 (by kernel_rfl) (by kernel_rfl) (.inl rfl)
def t52 : TI := ⟨.slice 60, .slice none 0 0, 1, 24, false⟩
theorem t52_ok : TyOk Try.prog 52 t52 := TyOk.mk' Try.underlying52 (by kernel_rfl) (by kernel_rfl) (.inl rfl)
def t53 : TI := ⟨.struct #[{ name := "list", type := 52, offset := 0, embedded := false, tag := "", pkgPath := "crossway/filer", byteOffset := 0 }], .agg #[.slice none 0 0], 1, 24, false⟩
theorem t53_ok : TyOk Try.prog 53 t53 := TyOk.mk' Try.underlying53 (by kernel_rfl) (by kernel_rfl) (.inl rfl)
def t54 : TI := ⟨.struct #[{ name := "list", type := 52, offset := 0, embedded := false, tag := "", pkgPath := "crossway/filer", byteOffset := 0 }], .agg #[.slice none 0 0], 1, 24, false⟩
theorem t54_ok : TyOk Try.prog 54 t54 := TyOk.mk' Try.underlying54 (by kernel_rfl) (by kernel_rfl) (.inl rfl)
def t55 : TI := ⟨.struct #[{ name := "id", type := 23, offset := 0, embedded := false, tag := "", pkgPath := "crossway/filer", byteOffset := 0 }, { name := "all", type := 3, offset := 1, embedded := false, tag := "", pkgPath := "crossway/filer", byteOffset := 8 }, { name := "at", type := 3, offset := 2, embedded := false, tag := "", pkgPath := "crossway/filer", byteOffset := 16 }, { name := "data", type := 9, offset := 3, embedded := false, tag := "", pkgPath := "crossway/filer", byteOffset := 24 }], .agg #[.int .u32 0, .int .i64 0, .int .i64 0, .string ⟨#[]⟩], 4, 40, false⟩
theorem t55_ok : TyOk Try.prog 55 t55 := TyOk.mk' Try.underlying55 (by kernel_rfl) (by kernel_rfl) (.inl rfl)
def t56 : TI := ⟨.struct #[{ name := "id", type := 23, offset := 0, embedded := false, tag := "", pkgPath := "crossway/filer", byteOffset := 0 }, { name := "all", type := 3, offset := 1, embedded := false, tag := "", pkgPath := "crossway/filer", byteOffset := 8 }, { name := "at", type := 3, offset := 2, embedded := false, tag := "", pkgPath := "crossway/filer", byteOffset := 16 }, { name := "data", type := 9, offset := 3, embedded := false, tag := "", pkgPath := "crossway/filer", byteOffset := 24 }], .agg #[.int .u32 0, .int .i64 0, .int .i64 0, .string ⟨#[]⟩], 4, 40, false⟩
theorem t56_ok : TyOk Try.prog 56 t56 := TyOk.mk' Try.underlying56 (by kernel_rfl) (by kernel_rfl) (.inl rfl)
def t60 : TI := ⟨.pointer 64, .pointer none, 1, 8, false⟩
theorem t60_ok : TyOk Try.prog 60 t60 := TyOk.mk' Try.underlying60 (by kernel_rfl) (by kernel_rfl) (.inl rfl)
def t61 : TI := ⟨.func #[60] #[4] false, .nilFunc, 1, 8, false⟩
theorem t61_ok : TyOk Try.prog 61 t61 := TyOk.mk' Try.underlying61 (by kernel_rfl) (by kernel_rfl) (.inl rfl)
def t62 : TI := ⟨.map 3 9, .map none, 1, 8, false⟩
theorem t62_ok : TyOk Try.prog 62 t62 := TyOk.mk' Try.underlying62 (by kernel_rfl) (by kernel_rfl) (.inl rfl)
def t63 : TI := ⟨.struct #[{ name := "id", type := 23, offset := 0, embedded := false, tag := "", pkgPath := "crossway/filer", byteOffset := 0 }, { name := "all", type := 3, offset := 1, embedded := false, tag := "", pkgPath := "crossway/filer", byteOffset := 8 }, { name := "got", type := 62, offset := 2, embedded := false, tag := "", pkgPath := "crossway/filer", byteOffset := 16 }], .agg #[.int .u32 0, .int .i64 0, .map none], 3, 24, false⟩
theorem t63_ok : TyOk Try.prog 63 t63 := TyOk.mk' Try.underlying63 (by kernel_rfl) (by kernel_rfl) (.inl rfl)
def t64 : TI := ⟨.struct #[{ name := "id", type := 23, offset := 0, embedded := false, tag := "", pkgPath := "crossway/filer", byteOffset := 0 }, { name := "all", type := 3, offset := 1, embedded := false, tag := "", pkgPath := "crossway/filer", byteOffset := 8 }, { name := "got", type := 62, offset := 2, embedded := false, tag := "", pkgPath := "crossway/filer", byteOffset := 16 }], .agg #[.int .u32 0, .int .i64 0, .map none], 3, 24, false⟩
theorem t64_ok : TyOk Try.prog 64 t64 := TyOk.mk' Try.underlying64 (by kernel_rfl) (by kernel_rfl) (.inl rfl)
def t69 : TI := ⟨.struct #[{ name := "list", type := 47, offset := 0, embedded := false, tag := "", pkgPath := "crossway/filer", byteOffset := 0 }, { name := "at", type := 22, offset := 1, embedded := false, tag := "", pkgPath := "crossway/filer", byteOffset := 24 }, { name := "turn", type := 3, offset := 2, embedded := false, tag := "", pkgPath := "crossway/filer", byteOffset := 48 }], .agg #[.slice none 0 0, .slice none 0 0, .int .i64 0], 3, 56, false⟩
theorem t69_ok : TyOk Try.prog 69 t69 := TyOk.mk' Try.underlying69 (by kernel_rfl) (by kernel_rfl) (.inl rfl)
def t70 : TI := ⟨.struct #[{ name := "list", type := 47, offset := 0, embedded := false, tag := "", pkgPath := "crossway/filer", byteOffset := 0 }, { name := "at", type := 22, offset := 1, embedded := false, tag := "", pkgPath := "crossway/filer", byteOffset := 24 }, { name := "turn", type := 3, offset := 2, embedded := false, tag := "", pkgPath := "crossway/filer", byteOffset := 48 }], .agg #[.slice none 0 0, .slice none 0 0, .int .i64 0], 3, 56, false⟩
theorem t70_ok : TyOk Try.prog 70 t70 := TyOk.mk' Try.underlying70 (by kernel_rfl) (by kernel_rfl) (.inl rfl)
def t72 : TI := ⟨.func #[26] #[4] false, .nilFunc, 1, 8, false⟩
theorem t72_ok : TyOk Try.prog 72 t72 := TyOk.mk' Try.underlying72 (by kernel_rfl) (by kernel_rfl) (.inl rfl)
def t75 : TI := ⟨.pointer 83, .pointer none, 1, 8, false⟩
theorem t75_ok : TyOk Try.prog 75 t75 := TyOk.mk' Try.underlying75 (by kernel_rfl) (by kernel_rfl) (.inl rfl)
def t82 : TI := ⟨.struct #[{ name := "s", type := 9, offset := 0, embedded := false, tag := "", pkgPath := "crossway/octet", byteOffset := 0 }, { name := "err", type := 30, offset := 1, embedded := false, tag := "", pkgPath := "crossway/octet", byteOffset := 16 }], .agg #[.string ⟨#[]⟩, .int .i64 0], 2, 24, false⟩
theorem t82_ok : TyOk Try.prog 82 t82 := TyOk.mk' Try.underlying82 (by kernel_rfl) (by kernel_rfl) (.inl rfl)
def t83 : TI := ⟨.struct #[{ name := "s", type := 9, offset := 0, embedded := false, tag := "", pkgPath := "crossway/octet", byteOffset := 0 }, { name := "err", type := 30, offset := 1, embedded := false, tag := "", pkgPath := "crossway/octet", byteOffset := 16 }], .agg #[.string ⟨#[]⟩, .int .i64 0], 2, 24, false⟩
theorem t83_ok : TyOk Try.prog 83 t83 := TyOk.mk' Try.underlying83 (by kernel_rfl) (by kernel_rfl) (.inl rfl)
theorem f3_ok : FnOk Try.prog 3 Try.f3 := ⟨Try.func3, by kernel_rfl⟩
theorem f4_ok : FnOk Try.prog 4 Try.f4 := ⟨Try.func4, by kernel_rfl⟩
theorem f5_ok : FnOk Try.prog 5 Try.f5 := ⟨Try.func5, by kernel_rfl⟩
theorem f6_ok : FnOk Try.prog 6 Try.f6 := ⟨Try.func6, by kernel_rfl⟩
theorem f7_ok : FnOk Try.prog 7 Try.f7 := ⟨Try.func7, by kernel_rfl⟩
theorem f8_ok : FnOk Try.prog 8 Try.f8 := ⟨Try.func8, by kernel_rfl⟩
theorem f9_ok : FnOk Try.prog 9 Try.f9 := ⟨Try.func9, by kernel_rfl⟩
theorem f10_ok : FnOk Try.prog 10 Try.f10 := ⟨Try.func10, by kernel_rfl⟩
theorem f11_ok : FnOk Try.prog 11 Try.f11 := ⟨Try.func11, by kernel_rfl⟩
theorem f12_ok : FnOk Try.prog 12 Try.f12 := ⟨Try.func12, by kernel_rfl⟩
theorem f13_ok : FnOk Try.prog 13 Try.f13 := ⟨Try.func13, by kernel_rfl⟩
theorem f14_ok : FnOk Try.prog 14 Try.f14 := ⟨Try.func14, by kernel_rfl⟩
theorem f15_ok : FnOk Try.prog 15 Try.f15 := ⟨Try.func15, by kernel_rfl⟩
theorem f16_ok : FnOk Try.prog 16 Try.f16 := ⟨Try.func16, by kernel_rfl⟩
theorem f17_ok : FnOk Try.prog 17 Try.f17 := ⟨Try.func17, by kernel_rfl⟩
theorem f18_ok : FnOk Try.prog 18 Try.f18 := ⟨Try.func18, by kernel_rfl⟩
theorem f19_ok : FnOk Try.prog 19 Try.f19 := ⟨Try.func19, by kernel_rfl⟩
theorem f20_ok : FnOk Try.prog 20 Try.f20 := ⟨Try.func20, by kernel_rfl⟩
theorem f21_ok : FnOk Try.prog 21 Try.f21 := ⟨Try.func21, by kernel_rfl⟩
theorem f22_ok : FnOk Try.prog 22 Try.f22 := ⟨Try.func22, by kernel_rfl⟩
theorem f23_ok : FnOk Try.prog 23 Try.f23 := ⟨Try.func23, by kernel_rfl⟩
theorem f24_ok : FnOk Try.prog 24 Try.f24 := ⟨Try.func24, by kernel_rfl⟩
theorem f25_ok : FnOk Try.prog 25 Try.f25 := ⟨Try.func25, by kernel_rfl⟩
theorem f26_ok : FnOk Try.prog 26 Try.f26 := ⟨Try.func26, by kernel_rfl⟩
theorem f27_ok : FnOk Try.prog 27 Try.f27 := ⟨Try.func27, by kernel_rfl⟩
theorem f28_ok : FnOk Try.prog 28 Try.f28 := ⟨Try.func28, by kernel_rfl⟩
theorem f29_ok : FnOk Try.prog 29 Try.f29 := ⟨Try.func29, by kernel_rfl⟩
theorem f30_ok : FnOk Try.prog 30 Try.f30 := ⟨Try.func30, by kernel_rfl⟩
theorem f31_ok : FnOk Try.prog 31 Try.f31 := ⟨Try.func31, by kernel_rfl⟩
theorem f32_ok : FnOk Try.prog 32 Try.f32 := ⟨Try.func32, by kernel_rfl⟩
theorem f33_ok : FnOk Try.prog 33 Try.f33 := ⟨Try.func33, by kernel_rfl⟩
theorem f34_ok : FnOk Try.prog 34 Try.f34 := ⟨Try.func34, by kernel_rfl⟩
theorem f35_ok : FnOk Try.prog 35 Try.f35 := ⟨Try.func35, by kernel_rfl⟩
theorem f36_ok : FnOk Try.prog 36 Try.f36 := ⟨Try.func36, by kernel_rfl⟩
theorem f37_ok : FnOk Try.prog 37 Try.f37 := ⟨Try.func37, by kernel_rfl⟩
theorem f38_ok : FnOk Try.prog 38 Try.f38 := ⟨Try.func38, by kernel_rfl⟩
theorem f39_ok : FnOk Try.prog 39 Try.f39 := ⟨Try.func39, by kernel_rfl⟩
def g9 : Gd := Gd.str
def g3 : Gd := Gd.int .i64
theorem o3 {N : Nat} {w0 w : World} (hN : N = w.heap.size) : Opn Try.prog N w0 w 3 g3 := Opn.int Try.underlying3
def g23 : Gd := Gd.int .u32
def g37 : Gd := Gd.agg [g3, g3]
theorem o37 {N : Nat} {w0 w : World} (hN : N = w.heap.size) : Opn Try.prog N w0 w 37 g37 := Opn.array Try.underlying37 (by kernel_rfl) (show OpnAll Try.prog N w0 w [(3, 0), (3, 1)] [g3, g3] from ⟨o3 hN, o3 hN, trivial⟩)
noncomputable def tys : Tr TI := (.node 47 t47 (.node 27 t27 (.node 22 t22 (.node 5 t5 (.node 4 t4 (.node 3 t3 .leaf .leaf) .leaf) (.node 9 t9 .leaf .leaf)) (.node 25 t25 (.node 23 t23 .leaf .leaf) (.node 26 t26 .leaf .leaf))) (.node 39 t39 (.node 30 t30 (.node 29 t29 .leaf .leaf) (.node 37 t37 .leaf .leaf)) (.node 43 t43 (.node 41 t41 .leaf .leaf) (.node 46 t46 .leaf .leaf)))) (.node 63 t63 (.node 56 t56 (.node 54 t54 (.node 53 t53 (.node 52 t52 .leaf .leaf) .leaf) (.node 55 t55 .leaf .leaf)) (.node 61 t61 (.node 60 t60 .leaf .leaf) (.node 62 t62 .leaf .leaf))) (.node 72 t72 (.node 69 t69 (.node 64 t64 .leaf .leaf) (.node 70 t70 .leaf .leaf)) (.node 82 t82 (.node 75 t75 .leaf .leaf) (.node 83 t83 .leaf .leaf)))))
noncomputable def fns : Tr Func := (.node 21 Try.f21 (.node 12 Try.f12 (.node 7 Try.f7 (.node 5 Try.f5 (.node 4 Try.f4 (.node 3 Try.f3 .leaf .leaf) .leaf) (.node 6 Try.f6 .leaf .leaf)) (.node 10 Try.f10 (.node 9 Try.f9 (.node 8 Try.f8 .leaf .leaf) .leaf) (.node 11 Try.f11 .leaf .leaf))) (.node 17 Try.f17 (.node 15 Try.f15 (.node 14 Try.f14 (.node 13 Try.f13 .leaf .leaf) .leaf) (.node 16 Try.f16 .leaf .leaf)) (.node 19 Try.f19 (.node 18 Try.f18 .leaf .leaf) (.node 20 Try.f20 .leaf .leaf)))) (.node 31 Try.f31 (.node 26 Try.f26 (.node 24 Try.f24 (.node 23 Try.f23 (.node 22 Try.f22 .leaf .leaf) .leaf) (.node 25 Try.f25 .leaf .leaf)) (.node 29 Try.f29 (.node 28 Try.f28 (.node 27 Try.f27 .leaf .leaf) .leaf) (.node 30 Try.f30 .leaf .leaf))) (.node 36 Try.f36 (.node 34 Try.f34 (.node 33 Try.f33 (.node 32 Try.f32 .leaf .leaf) .leaf) (.node 35 Try.f35 .leaf .leaf)) (.node 38 Try.f38 (.node 37 Try.f37 .leaf .leaf) (.node 39 Try.f39 .leaf .leaf)))))
noncomputable def env : Env := mkEnv tys fns
theorem env_ok : EnvOk Try.prog env := mkEnv_ok (T := tys) (F := fns) ⟨t47_ok, ⟨t27_ok, ⟨t22_ok, ⟨t5_ok, ⟨t4_ok, ⟨t3_ok, trivial, trivial⟩, trivial⟩, ⟨t9_ok, trivial, trivial⟩⟩, ⟨t25_ok, ⟨t23_ok, trivial, trivial⟩, ⟨t26_ok, trivial, trivial⟩⟩⟩, ⟨t39_ok, ⟨t30_ok, ⟨t29_ok, trivial, trivial⟩, ⟨t37_ok, trivial, trivial⟩⟩, ⟨t43_ok, ⟨t41_ok, trivial, trivial⟩, ⟨t46_ok, trivial, trivial⟩⟩⟩⟩, ⟨t63_ok, ⟨t56_ok, ⟨t54_ok, ⟨t53_ok, ⟨t52_ok, trivial, trivial⟩, trivial⟩, ⟨t55_ok, trivial, trivial⟩⟩, ⟨t61_ok, ⟨t60_ok, trivial, trivial⟩, ⟨t62_ok, trivial, trivial⟩⟩⟩, ⟨t72_ok, ⟨t69_ok, ⟨t64_ok, trivial, trivial⟩, ⟨t70_ok, trivial, trivial⟩⟩, ⟨t82_ok, ⟨t75_ok, trivial, trivial⟩, ⟨t83_ok, trivial, trivial⟩⟩⟩⟩⟩ ⟨f21_ok, ⟨f12_ok, ⟨f7_ok, ⟨f5_ok, ⟨f4_ok, ⟨f3_ok, trivial, trivial⟩, trivial⟩, ⟨f6_ok, trivial, trivial⟩⟩, ⟨f10_ok, ⟨f9_ok, ⟨f8_ok, trivial, trivial⟩, trivial⟩, ⟨f11_ok, trivial, trivial⟩⟩⟩, ⟨f17_ok, ⟨f15_ok, ⟨f14_ok, ⟨f13_ok, trivial, trivial⟩, trivial⟩, ⟨f16_ok, trivial, trivial⟩⟩, ⟨f19_ok, ⟨f18_ok, trivial, trivial⟩, ⟨f20_ok, trivial, trivial⟩⟩⟩⟩, ⟨f31_ok, ⟨f26_ok, ⟨f24_ok, ⟨f23_ok, ⟨f22_ok, trivial, trivial⟩, trivial⟩, ⟨f25_ok, trivial, trivial⟩⟩, ⟨f29_ok, ⟨f28_ok, ⟨f27_ok, trivial, trivial⟩, trivial⟩, ⟨f30_ok, trivial, trivial⟩⟩⟩, ⟨f36_ok, ⟨f34_ok, ⟨f33_ok, ⟨f32_ok, trivial, trivial⟩, trivial⟩, ⟨f35_ok, trivial, trivial⟩⟩, ⟨f38_ok, ⟨f37_ok, trivial, trivial⟩, ⟨f39_ok, trivial, trivial⟩⟩⟩⟩⟩ (by kernel_rfl)
instance : Plain env := ⟨fun _ _ _ => rfl⟩
end Go.Proofs.Ytdiofapingdlmaa.Vt
/- Fd: walks through functions of the program, by the calculus; written by a program of this workplace. -/
namespace Go.Proofs.Ytdiofapingdlmaa.Vt
open Go Go.Proofs Go.Proofs.YtdiofapingdlmaaV
set_option maxRecDepth 100000
set_option linter.unusedVariables false
set_option linter.unusedSimpArgs false
set_option maxHeartbeats 8000000
def beN (l : List UInt8) : Nat := l.foldl (fun a b => a * 256 + b.toNat) 0
theorem beN_snoc (l : List UInt8) (b : UInt8) : beN (l ++ [b]) = beN l * 256 + b.toNat := by unfold beN; rw [List.foldl_append]; rfl
theorem beN_take (s : ByteArray) (i : Nat) (h : i < s.size) : beN ((L s).take (i + 1)) = beN ((L s).take i) * 256 + (s.get! i).toNat := by
  rw [List.take_add_one, L_get s i h]
  exact beN_snoc _ _
def at_ (v : ByteArray) (p k : Nat) : Nat := beN (((L v).drop p).take k)
def w32 (v : ByteArray) (p : Nat) : BitVec 32 := BitVec.ofNat 32 (at_ v p 4)
theorem ext_pos (v : ByteArray) (p k : Nat) (h : p + k ≤ v.size) : (v.extract p v.size).extract k (v.extract p v.size).size = v.extract (p + k) v.size := by
  apply L_ext
  rw [L_extract, L_extract, L_extract, size_cut _ _ _ (Nat.le_refl _), List.drop_take, List.drop_drop, List.take_take]
  congr 1
  omega
theorem beN_pos (v : ByteArray) (p k : Nat) (h : p + k ≤ v.size) : beN ((L (v.extract p v.size)).take k) = at_ v p k := by
  rw [at_, L_extract, List.take_take]
  congr 2
  omega
theorem ext_all (v : ByteArray) : v.extract 0 v.size = v := by
  apply L_ext; rw [L_extract, List.drop_zero, List.take_of_length_le (by rw [L_len]; omega)]
theorem rNew {n : Nat} {σ : Store} (hd : Dom n σ) (s : ByteArray)   : CQ Try.prog noDen 31 [(.string s)] n σ (fun v n' d => ∃ i, n ≤ i ∧ i < n' ∧ v = .pointer (some ⟨i, 0, some 0⟩) ∧ d = [(i, some ⟨[[(.string (s.extract 0 s.size)), (.int .i64 0)]], 2, 83, true⟩)]) := by
 refine CQ.body (E := env) env_ok hd rfl rfl (by show _ ≤ _; exact of_decide_eq_true (by kernel_rfl)) ?_
 refine RA.sR hd env_ok <| OA.ps [(2, (.pointer none))] rfl <| OA.nil fun _ => RA.sR hd env_ok <| OA.ps [(3, (.string s))] rfl <| oP 4 (.agg ⟨[(.string s), (.int .i64 0)]⟩) rfl (by kernel_rfl) <| o1 (some 5) (.pointer (some ⟨n, 0, some 0⟩)) (n + 1) (n, some ⟨[[(.string s), (.int .i64 0)]], 2, 83, true⟩) rfl <| OA.ps [(2, (.pointer (some ⟨n, 0, some 0⟩)))] rfl <| OA.nil fun _ => ?_
 refine RA.ret env_ok ?_
 refine ⟨.inr rfl, [(.pointer (some ⟨n, 0, some 0⟩))], (resL_cons rfl resL_nil), [(n, some ⟨[[(.string s), (.int .i64 0)]], 2, 83, true⟩)], (Less.refl _ _ _), ⟨n, by omega, by omega, rfl, by rw [ext_all]⟩⟩
theorem rErr {σ : Store} (r : Nat) (s : ByteArray) (e : Int) (hr : σ r = some ⟨[[(.string s), (.int .i64 e)]], 2, 83, true⟩)  : PS Try.prog noDen 34 [(.pointer (some ⟨r, 0, some 0⟩))] σ (.int .i64 e) := by
 refine PS.body (E := env) env_ok rfl rfl (by show _ ≤ _; exact of_decide_eq_true (by kernel_rfl)) (fun n hd => ?_)
 have lhr := hd.lt hr
 refine RA.sR hd env_ok <| OA.ps [(2, (.int .i64 0))] rfl <| OA.nil fun _ => RA.seq hd <| RA.sR hd env_ok <| OA.ps [(3, (.pointer (some ⟨r, 0, some 0⟩))), (4, yF)] rfl <| OA.nil fun _ => RA.condF rfl <| RA.skip env_ok ?_
 intro _
 refine RA.sR hd env_ok <| OA.ps [(5, (.pointer (some ⟨r, 0, some 0⟩))), (6, (.pointer (some ⟨r, 0, some 0⟩))), (7, (.pointer (some ⟨r, 0, some 1⟩)))] rfl <| oL 8 (.int .i64 e) hr <| OA.ps [(2, (.int .i64 e))] rfl <| OA.nil fun _ => ?_
 refine RA.ret env_ok ?_
 exact lf (.int .i64 e) rfl
theorem rFail {n : Nat} {σ : Store} (hd : Dom n σ) (r : Nat) (s : ByteArray) (e : Int) (hr : σ r = some ⟨[[(.string s), (.int .i64 0)]], 2, 83, true⟩)  : CQ Try.prog noDen 39 [(.pointer (some ⟨r, 0, some 0⟩)), (.int .i64 e)] n σ (fun v n' d => v = .tuple #[] ∧ d = [(r, some ⟨[[(.string s), (.int .i64 e)]], 2, 83, true⟩)]) := by
 have lhr := hd.lt hr
 refine CQ.body (E := env) env_ok hd rfl rfl (by show _ ≤ _; exact of_decide_eq_true (by kernel_rfl)) ?_
 refine RA.sR hd env_ok <| OA.ps [(4, (.pointer (some ⟨r, 0, some 0⟩))), (5, yT), (6, yT), (7, (.pointer (some ⟨r, 0, some 0⟩))), (8, (.pointer (some ⟨r, 0, some 0⟩))), (9, (.pointer (some ⟨r, 0, some 1⟩)))] rfl <| oL 10 (.int .i64 0) hr <| oP 11 yT rfl (r_bin rfl rfl rfl (b_eql rfl)) <| OA.ps [(12, yT)] rfl <| OA.nil fun _ => RA.condT rfl <| RA.region env_ok <| OA.ps [(13, (.pointer (some ⟨r, 0, some 0⟩))), (14, (.int .i64 e)), (15, (.pointer (some ⟨r, 0, some 0⟩))), (16, (.pointer (some ⟨r, 0, some 1⟩)))] rfl <| o1 none yU n (r, some ⟨[[(.string s), (.int .i64 e)]], 2, 83, true⟩) (rS hr) <| OA.nil ?_
 refine ⟨.inl rfl, [], resL_nil, [(r, some ⟨[[(.string s), (.int .i64 e)]], 2, 83, true⟩)], (Less.refl _ _ _), ⟨rfl, rfl⟩⟩
theorem rFail2 {n : Nat} {σ : Store} (hd : Dom n σ) (r : Nat) (s : ByteArray) (e : Int) (hr : σ r = some ⟨[[(.string s), (.int .i64 2)]], 2, 83, true⟩)  : CQ Try.prog noDen 39 [(.pointer (some ⟨r, 0, some 0⟩)), (.int .i64 e)] n σ (fun v n' d => v = .tuple #[] ∧ d = []) := by
 have lhr := hd.lt hr
 refine CQ.body (E := env) env_ok hd rfl rfl (by show _ ≤ _; exact of_decide_eq_true (by kernel_rfl)) ?_
 refine RA.sR hd env_ok <| OA.ps [(4, (.pointer (some ⟨r, 0, some 0⟩))), (5, yT), (6, yT), (7, (.pointer (some ⟨r, 0, some 0⟩))), (8, (.pointer (some ⟨r, 0, some 0⟩))), (9, (.pointer (some ⟨r, 0, some 1⟩)))] rfl <| oL 10 (.int .i64 2) hr <| oP 11 yF rfl (r_bin rfl rfl rfl (b_eql rfl)) <| OA.ps [(12, yF)] rfl <| OA.nil fun _ => RA.condF rfl <| RA.skip env_ok ?_
 refine ⟨.inl rfl, [], resL_nil, [], (Less.refl _ _ _), ⟨rfl, rfl⟩⟩
theorem rTake {n : Nat} {σ : Store} (hd : Dom n σ) (r : Nat) (s : ByteArray) (k : Nat) (hk : k ≤ s.size) (hs : s.size < 9223372036854775808) (hr : σ r = some ⟨[[(.string s), (.int .i64 0)]], 2, 83, true⟩)  : CQ Try.prog noDen 37 [(.pointer (some ⟨r, 0, some 0⟩)), (.int .i64 ((k : Nat) : Int))] n σ (fun v n' d => v = .string (s.extract 0 k) ∧ d = [(r, some ⟨[[(.string (s.extract k s.size)), (.int .i64 0)]], 2, 83, true⟩)]) := by
 have lhr := hd.lt hr
 refine CQ.body (E := env) env_ok hd rfl rfl (by show _ ≤ _; exact of_decide_eq_true (by kernel_rfl)) ?_
 refine RA.sR hd env_ok <| OA.ps [(4, (.string (ByteArray.mk #[])))] rfl <| OA.nil fun _ => RA.seq hd <| RA.sR hd env_ok <| OA.ps [(6, (.pointer (some ⟨r, 0, some 0⟩)))] rfl <| oC 7 (v := (.int .i64 0)) (hd.up (by omega)) rfl rfl (rErr r _ 0 hr) fun n1 hn1 => oP 8 yF rfl (r_bin rfl rfl rfl (b_neq rfl)) <| OA.ps [(9, yF), (10, (.int .i64 ((k : Nat) : Int)))] rfl ?_
 have hc1 : ¬ (((k : Nat) : Int) < 0) := fun hdd => by exfalso; omega
 refine oP 11 yF rfl (Eq.trans (r_bin rfl rfl rfl (b_lss rfl)) (dF hc1)) <| OA.ps [(12, yF), (13, yF), (14, (.int .i64 ((k : Nat) : Int))), (15, (.pointer (some ⟨r, 0, some 0⟩))), (16, (.pointer (some ⟨r, 0, some 0⟩))), (17, (.pointer (some ⟨r, 0, some 0⟩)))] rfl <| oL 18 (.string s) hr <| OA.ps [(19, (.int .i64 ((s.size : Nat) : Int)))] rfl ?_
 have hc2 : ¬ (((s.size : Nat) : Int) < ((k : Nat) : Int)) := fun hdd => by exfalso; omega
 refine oP 20 yF rfl (Eq.trans (r_bin rfl rfl rfl (b_gtr rfl)) (dF hc2)) <| OA.ps [(21, yF)] rfl <| OA.nil fun _ => RA.condF rfl <| RA.skip env_ok ?_
 intro _
 refine RA.sR hd env_ok <| OA.ps [(24, (.pointer (some ⟨r, 0, some 0⟩))), (25, (.pointer (some ⟨r, 0, some 0⟩))), (26, (.pointer (some ⟨r, 0, some 0⟩)))] rfl <| oL 27 (.string s) hr <| OA.ps [(28, (.int .i64 ((k : Nat) : Int)))] rfl <| oP 29 (.string (s.extract 0 k)) rfl (r_cut (a := 0) (b := k) rfl rfl (fun _ => rfl) (fun _ => rfl) rfl rfl rfl bound_nat (by omega) (by omega) rfl) <| OA.ps [(5, (.string (s.extract 0 k)))] rfl <| OA.nil fun _ => RA.sR hd env_ok <| OA.ps [(30, (.pointer (some ⟨r, 0, some 0⟩))), (31, (.pointer (some ⟨r, 0, some 0⟩))), (32, (.pointer (some ⟨r, 0, some 0⟩))), (33, (.pointer (some ⟨r, 0, some 0⟩)))] rfl <| oL 34 (.string s) hr <| OA.ps [(35, (.int .i64 ((k : Nat) : Int)))] rfl ?_
 refine oP 36 (.string (s.extract k s.size)) rfl (r_cut (a := k) (b := s.size) rfl rfl (fun _ => rfl) (fun _ => rfl) rfl rfl bound_nat rfl (by omega) (by omega) rfl) <| OA.ps [(37, (.pointer (some ⟨r, 0, some 0⟩))), (38, (.pointer (some ⟨r, 0, some 0⟩)))] rfl <| o1 none yU n1 (r, some ⟨[[(.string (s.extract k s.size)), (.int .i64 0)]], 2, 83, true⟩) (rS hr) <| OA.nil fun _ => RA.rb [(0, (.pointer (some ⟨r, 0, some 0⟩))), (1, (.int .i64 ((k : Nat) : Int))), (4, (.string (ByteArray.mk #[]))), (5, (.string (s.extract 0 k))), (21, yF)] rfl (fun τr2 => ?_)
 refine RA.sR hd env_ok <| OA.ps [(39, (.string (s.extract 0 k))), (4, (.string (s.extract 0 k)))] rfl <| OA.nil fun _ => ?_
 refine RA.ret env_ok ?_
 refine ⟨.inr rfl, [(.string (s.extract 0 k))], (resL_cons rfl resL_nil), [(r, some ⟨[[(.string (s.extract k s.size)), (.int .i64 0)]], 2, 83, true⟩)], (Less.refl _ _ _), ⟨rfl, rfl⟩⟩
theorem rTakeS {n : Nat} {σ : Store} (hd : Dom n σ) (r : Nat) (s : ByteArray) (k : Nat) (hk : ¬ k ≤ s.size) (hr : σ r = some ⟨[[(.string s), (.int .i64 0)]], 2, 83, true⟩)  : CQ Try.prog noDen 37 [(.pointer (some ⟨r, 0, some 0⟩)), (.int .i64 ((k : Nat) : Int))] n σ (fun v n' d => v = .string (ByteArray.mk #[]) ∧ d = [(r, some ⟨[[(.string s), (.int .i64 2)]], 2, 83, true⟩)]) := by
 have lhr := hd.lt hr
 refine CQ.body (E := env) env_ok hd rfl rfl (by show _ ≤ _; exact of_decide_eq_true (by kernel_rfl)) ?_
 refine RA.sR hd env_ok <| OA.ps [(4, (.string (ByteArray.mk #[])))] rfl <| OA.nil fun _ => RA.seq hd <| RA.sR hd env_ok <| OA.ps [(6, (.pointer (some ⟨r, 0, some 0⟩)))] rfl <| oC 7 (v := (.int .i64 0)) (hd.up (by omega)) rfl rfl (rErr r _ 0 hr) fun n1 hn1 => oP 8 yF rfl (r_bin rfl rfl rfl (b_neq rfl)) <| OA.ps [(9, yF), (10, (.int .i64 ((k : Nat) : Int)))] rfl ?_
 have hc1 : ¬ (((k : Nat) : Int) < 0) := fun hdd => by exfalso; omega
 refine oP 11 yF rfl (Eq.trans (r_bin rfl rfl rfl (b_lss rfl)) (dF hc1)) <| OA.ps [(12, yF), (13, yF), (14, (.int .i64 ((k : Nat) : Int))), (15, (.pointer (some ⟨r, 0, some 0⟩))), (16, (.pointer (some ⟨r, 0, some 0⟩))), (17, (.pointer (some ⟨r, 0, some 0⟩)))] rfl <| oL 18 (.string s) hr <| OA.ps [(19, (.int .i64 ((s.size : Nat) : Int)))] rfl ?_
 have hc2 : ((s.size : Nat) : Int) < ((k : Nat) : Int) := Classical.byContradiction (fun hdd => by exfalso; omega)
 refine oP 20 yT rfl (Eq.trans (r_bin rfl rfl rfl (b_gtr rfl)) (dT hc2)) <| OA.ps [(21, yT)] rfl <| OA.nil fun _ => RA.condT rfl <| RA.sR hd env_ok <| OA.ps [(22, (.pointer (some ⟨r, 0, some 0⟩)))] rfl ?_
 refine OA.call (dst := (some 23)) (all := [(.pointer (some ⟨r, 0, some 0⟩)), (.int .i64 2)]) rfl rfl rfl rfl rfl rfl rfl rfl (CQ.imp (rFail (hd.up (by omega)) r _ 2 hr) ?_)
 rintro _ n2 _ ⟨rfl, rfl⟩ hn2
 refine OA.app1 ?_
 refine OA.nil fun _ => RA.sR hd env_ok <| OA.ps [(4, (.string (ByteArray.mk #[])))] rfl <| OA.nil fun _ => ?_
 refine RA.ret env_ok ?_
 refine ⟨.inr rfl, [(.string (ByteArray.mk #[]))], (resL_cons rfl resL_nil), [(r, some ⟨[[(.string s), (.int .i64 2)]], 2, 83, true⟩)], (Less.refl _ _ _), ⟨rfl, rfl⟩⟩
theorem rTakeD {n : Nat} {σ : Store} (hd : Dom n σ) (r : Nat) (s : ByteArray) (k : Nat) (hr : σ r = some ⟨[[(.string s), (.int .i64 2)]], 2, 83, true⟩)  : CQ Try.prog noDen 37 [(.pointer (some ⟨r, 0, some 0⟩)), (.int .i64 ((k : Nat) : Int))] n σ (fun v n' d => v = .string (ByteArray.mk #[]) ∧ d = []) := by
 have lhr := hd.lt hr
 refine CQ.body (E := env) env_ok hd rfl rfl (by show _ ≤ _; exact of_decide_eq_true (by kernel_rfl)) ?_
 refine RA.sR hd env_ok <| OA.ps [(4, (.string (ByteArray.mk #[])))] rfl <| OA.nil fun _ => RA.seq hd <| RA.sR hd env_ok <| OA.ps [(6, (.pointer (some ⟨r, 0, some 0⟩)))] rfl <| oC 7 (v := (.int .i64 2)) (hd.up (by omega)) rfl rfl (rErr r _ 2 hr) fun n1 hn1 => oP 8 yT rfl (r_bin rfl rfl rfl (b_neq rfl)) <| OA.ps [(9, yT)] rfl <| OA.offs 10 2 rfl <| OA.ps [(12, yT), (13, yT)] rfl ?_
 refine OA.offs 14 7 rfl <| OA.ps [(21, yT)] rfl <| OA.nil fun _ => RA.condT rfl <| RA.sR hd env_ok <| OA.ps [(22, (.pointer (some ⟨r, 0, some 0⟩)))] rfl ?_
 refine OA.call (dst := (some 23)) (all := [(.pointer (some ⟨r, 0, some 0⟩)), (.int .i64 2)]) rfl rfl rfl rfl rfl rfl rfl rfl (CQ.imp (rFail2 (hd.up (by omega)) r _ 2 hr) ?_)
 rintro _ n2 _ ⟨rfl, rfl⟩ hn2
 refine OA.app0 ?_
 refine OA.nil fun _ => RA.sR hd env_ok <| OA.ps [(4, (.string (ByteArray.mk #[])))] rfl <| OA.nil fun _ => ?_
 refine RA.ret env_ok ?_
 refine ⟨.inr rfl, [(.string (ByteArray.mk #[]))], (resL_cons rfl resL_nil), [], (Less.refl _ _ _), ⟨rfl, rfl⟩⟩
theorem rNum {n : Nat} {σ : Store} (hd : Dom n σ) (r : Nat) (s : ByteArray) (k : Nat) (hk : k ≤ s.size) (hk8 : k ≤ 8) (hs : s.size < 9223372036854775808) (hr : σ r = some ⟨[[(.string s), (.int .i64 0)]], 2, 83, true⟩)  : CQ Try.prog noDen 36 [(.pointer (some ⟨r, 0, some 0⟩)), (.int .i64 ((k : Nat) : Int))] n σ (fun v n' d => v = .int .u64 ((beN ((L s).take k) : Nat) : Int) ∧ d = [(r, some ⟨[[(.string (s.extract k s.size)), (.int .i64 0)]], 2, 83, true⟩)]) := by
 have lhr := hd.lt hr
 refine CQ.body (E := env) env_ok hd rfl rfl (by show _ ≤ _; exact of_decide_eq_true (by kernel_rfl)) ?_
 refine RA.sR hd env_ok <| OA.ps [(4, (.int .u64 0))] rfl <| OA.nil fun _ => RA.sR hd env_ok <| OA.ps [(5, (.int .u64 0))] rfl <| OA.nil fun _ => RA.sR hd env_ok <| OA.ps [(8, (.pointer (some ⟨r, 0, some 0⟩))), (9, (.int .i64 ((k : Nat) : Int)))] rfl ?_
 refine OA.call (dst := (some 10)) (all := [(.pointer (some ⟨r, 0, some 0⟩)), (.int .i64 ((k : Nat) : Int))]) rfl rfl rfl rfl rfl rfl rfl rfl (CQ.imp (rTake (hd.up (by omega)) r s k hk hs hr) ?_)
 rintro _ n1 _ ⟨rfl, rfl⟩ hn1
 refine OA.app1 ?_
 refine OA.ps [(6, (.string (s.extract 0 k)))] rfl <| OA.nil fun _ => RA.seq hd <| RA.sR hd env_ok <| OA.ps [(11, (.string (s.extract 0 k))), (12, (.int .i64 (((s.extract 0 k).size : Nat) : Int))), (13, (.int .i64 0))] rfl <| OA.nil fun _ => RA.block ?_
 have hks : (s.extract 0 k).size = k := by rw [size_cut _ _ _ hk]; rfl
 refine RA.loop hd (fun kk_ τ n' D => ∃ i : Nat, ∃ m : Nat,  kk_ = (k - i) ∧ n1 ≤ n' ∧ Has τ [(5, (.int .u64 ((m : Nat) : Int))), (6, (.string (s.extract 0 k))), (12, (.int .i64 (((s.extract 0 k).size : Nat) : Int))), (13, (.int .i64 ((i : Nat) : Int)))] ∧ D = [(r, some ⟨[[(.string (s.extract k s.size)), (.int .i64 0)]], 2, 83, true⟩)] ∧ (∀ i ∈ keys D, i < n') ∧ i ≤ k ∧ m = beN ((L (s.extract 0 k)).take i) ∧ m < 256 ^ i) ((k - 0)) ⟨0, 0, rfl, by omega, ⟨rfl, rfl, rfl, rfl, trivial⟩, rfl, (kb1 (by omega)), ⟨by omega, rfl, by decide⟩⟩ ?_
 rintro kn2 τ2 n2 _ ⟨i, m, rfl, hn2, hHn2, rfl, hKn2, hIn2⟩
 rw [Has.eq hHn2]
 have hKn2_0 := kk0 hKn2
 simp only [keys, List.map, List.forall_mem_cons, List.mem_cons, List.not_mem_nil, false_imp_iff, implies_true, and_true] at hKn2
 obtain ⟨hi, hm, hb⟩ := hIn2
 have hb2 : i < k → m < 72057594037927936 := fun h => Nat.lt_of_lt_of_le hb (Nat.pow_le_pow_right (n := 256) (j := 7) (by decide) (by omega))
 refine RA.sR hd env_ok ?_
 by_cases hc1 : ((i : Nat) : Int) < (((s.extract 0 k).size : Nat) : Int)
 ·
  refine oP 14 yT rfl (Eq.trans (r_bin rfl rfl rfl (b_lss rfl)) (dT hc1)) <| OA.nil fun _ => RA.seq hd <| RA.condT rfl <| RA.skip env_ok ?_
  intro _
  refine RA.seq hd <| RA.block <| RA.sR hd env_ok <| OA.ps [(15, (.int .i64 ((i : Nat) : Int))), (7, (.int .i64 ((i : Nat) : Int)))] rfl <| OA.nil fun _ => RA.region env_ok <| OA.ps [(16, (.int .u64 ((m : Nat) : Int)))] rfl <| oP 17 (.int .u64 (((m * 256) : Nat) : Int)) rfl (r_bin rfl rfl rfl (b_shl8 (a := m) (by omega))) <| OA.ps [(18, (.string (s.extract 0 k))), (19, (.int .i64 ((i : Nat) : Int)))] rfl <| oP 20 (.int .u8 (((s.extract 0 k).get! i).toNat : Nat)) rfl (r_idxS (l := i) rfl rfl rfl rfl rfl (by omega) (by omega)) <| oP 21 (.int .u64 ((((s.extract 0 k).get! i).toNat : Nat) : Int)) rfl (r_cvt rfl rfl rfl rfl rfl ⟨_, rfl⟩ (u64_eq (by have := UInt8.toNat_lt ((s.extract 0 k).get! i); omega))) ?_
  refine oP 22 (.int .u64 (((m * 256 + ((s.extract 0 k).get! i).toNat) : Nat) : Int)) rfl (r_bin rfl rfl rfl (b_or8 (a := m) (c := ((s.extract 0 k).get! i).toNat) (by omega) (UInt8.toNat_lt _))) <| OA.ps [(5, (.int .u64 (((m * 256 + ((s.extract 0 k).get! i).toNat) : Nat) : Int)))] rfl <| OA.nil fun _ => RA.region env_ok <| oP 23 (.int .i64 (((i + 1) : Nat) : Int)) rfl (r_bin rfl rfl rfl (b_add (i64_eq (by omega)))) <| OA.ps [(13, (.int .i64 (((i + 1) : Nat) : Int)))] rfl <| OA.nil ?_
  refine ⟨(k - (i + 1)), by omega, [(r, some ⟨[[(.string (s.extract k s.size)), (.int .i64 0)]], 2, 83, true⟩)], (Less.refl _ _ _), (i + 1), (m * 256 + ((s.extract 0 k).get! i).toNat), rfl, by omega, ⟨rfl, rfl, rfl, rfl, trivial⟩, rfl, (kb1 (by omega)), ⟨by omega, by rw [beN_take _ _ (by omega), hm], by have := UInt8.toNat_lt ((s.extract 0 k).get! i); rw [Nat.pow_succ]; omega⟩⟩
 ·
  refine oP 14 yF rfl (Eq.trans (r_bin rfl rfl rfl (b_lss rfl)) (dF hc1)) <| OA.nil fun _ => RA.seq hd <| RA.condF rfl ?_
  refine RA.exit env_ok ?_
  intro _
  refine RA.sR hd env_ok <| OA.ps [(24, (.int .u64 ((m : Nat) : Int))), (4, (.int .u64 ((m : Nat) : Int)))] rfl <| OA.nil fun _ => ?_
  refine RA.ret env_ok ?_
  refine ⟨.inr rfl, [(.int .u64 ((m : Nat) : Int))], (resL_cons rfl resL_nil), [(r, some ⟨[[(.string (s.extract k s.size)), (.int .i64 0)]], 2, 83, true⟩)], (Less.refl _ _ _), ⟨by rw [one, hm, show i = k from by omega, List.take_of_length_le (by rw [L_len]; omega), L_extract, List.drop_zero]; rfl, rfl⟩⟩
theorem rNumP {n : Nat} {σ : Store} (hd : Dom n σ) (r : Nat) (s : ByteArray) (p k : Nat) (hk : p + k ≤ s.size) (hk8 : k ≤ 8) (hs : s.size < 9223372036854775808) (hr : σ r = some ⟨[[(.string (s.extract p s.size)), (.int .i64 0)]], 2, 83, true⟩) : CQ Try.prog noDen 36 [(.pointer (some ⟨r, 0, some 0⟩)), (.int .i64 ((k : Nat) : Int))] n σ (fun v n' d => v = .int .u64 ((at_ s p k : Nat) : Int) ∧ d = [(r, some ⟨[[(.string (s.extract (p + k) s.size)), (.int .i64 0)]], 2, 83, true⟩)]) := by
  refine (rNum hd r (s.extract p s.size) k (by rw [size_cut _ _ _ (Nat.le_refl _)]; omega) hk8 (by rw [size_cut _ _ _ (Nat.le_refl _)]; omega) hr).imp fun v n' d h => ?_
  obtain ⟨h1, h2⟩ := h
  rw [h1, h2, beN_pos s p k hk, ext_pos s p k hk]
  exact ⟨rfl, rfl⟩
theorem rNumS {n : Nat} {σ : Store} (hd : Dom n σ) (r : Nat) (s : ByteArray) (k : Nat) (hk : ¬ k ≤ s.size) (hr : σ r = some ⟨[[(.string s), (.int .i64 0)]], 2, 83, true⟩)  : CQ Try.prog noDen 36 [(.pointer (some ⟨r, 0, some 0⟩)), (.int .i64 ((k : Nat) : Int))] n σ (fun v n' d => v = .int .u64 0 ∧ d = [(r, some ⟨[[(.string s), (.int .i64 2)]], 2, 83, true⟩)]) := by
 have lhr := hd.lt hr
 refine CQ.body (E := env) env_ok hd rfl rfl (by show _ ≤ _; exact of_decide_eq_true (by kernel_rfl)) ?_
 refine RA.sR hd env_ok <| OA.ps [(4, (.int .u64 0))] rfl <| OA.nil fun _ => RA.sR hd env_ok <| OA.ps [(5, (.int .u64 0))] rfl <| OA.nil fun _ => RA.sR hd env_ok <| OA.ps [(8, (.pointer (some ⟨r, 0, some 0⟩))), (9, (.int .i64 ((k : Nat) : Int)))] rfl ?_
 refine OA.call (dst := (some 10)) (all := [(.pointer (some ⟨r, 0, some 0⟩)), (.int .i64 ((k : Nat) : Int))]) rfl rfl rfl rfl rfl rfl rfl rfl (CQ.imp (rTakeS (hd.up (by omega)) r s k hk hr) ?_)
 rintro _ n1 _ ⟨rfl, rfl⟩ hn1
 refine OA.app1 ?_
 refine OA.ps [(6, (.string (ByteArray.mk #[])))] rfl <| OA.nil fun _ => RA.seq hd <| RA.sR hd env_ok <| OA.ps [(11, (.string (ByteArray.mk #[])))] rfl <| oP 12 (.int .i64 0) rfl (Eq.trans (show _ = some (Value.int .i64 (((ByteArray.mk #[]).size : Nat) : Int), _, []) from rfl) (by rw [show (ByteArray.mk #[]).size = 0 from rfl] <;> rfl)) <| OA.ps [(13, (.int .i64 0))] rfl <| OA.nil fun _ => RA.block ?_
 refine RA.unroll hd ?_
 refine RA.sR hd env_ok <| oP 14 yF rfl (r_bin rfl rfl rfl (b_lss rfl)) <| OA.nil fun _ => RA.seq hd <| RA.condF rfl ?_
 refine RA.exit env_ok ?_
 intro _
 refine RA.sR hd env_ok <| OA.ps [(24, (.int .u64 0)), (4, (.int .u64 0))] rfl <| OA.nil fun _ => ?_
 refine RA.ret env_ok ?_
 refine ⟨.inr rfl, [(.int .u64 0)], (resL_cons rfl resL_nil), [(r, some ⟨[[(.string s), (.int .i64 2)]], 2, 83, true⟩)], (Less.refl _ _ _), ⟨rfl, rfl⟩⟩
theorem rNumD {n : Nat} {σ : Store} (hd : Dom n σ) (r : Nat) (s : ByteArray) (k : Nat)  (hr : σ r = some ⟨[[(.string s), (.int .i64 2)]], 2, 83, true⟩)  : CQ Try.prog noDen 36 [(.pointer (some ⟨r, 0, some 0⟩)), (.int .i64 ((k : Nat) : Int))] n σ (fun v n' d => v = .int .u64 0 ∧ d = []) := by
 have lhr := hd.lt hr
 refine CQ.body (E := env) env_ok hd rfl rfl (by show _ ≤ _; exact of_decide_eq_true (by kernel_rfl)) ?_
 refine RA.sR hd env_ok <| OA.ps [(4, (.int .u64 0))] rfl <| OA.nil fun _ => RA.sR hd env_ok <| OA.ps [(5, (.int .u64 0))] rfl <| OA.nil fun _ => RA.sR hd env_ok <| OA.ps [(8, (.pointer (some ⟨r, 0, some 0⟩))), (9, (.int .i64 ((k : Nat) : Int)))] rfl ?_
 refine OA.call (dst := (some 10)) (all := [(.pointer (some ⟨r, 0, some 0⟩)), (.int .i64 ((k : Nat) : Int))]) rfl rfl rfl rfl rfl rfl rfl rfl (CQ.imp (rTakeD (hd.up (by omega)) r s k hr) ?_)
 rintro _ n1 _ ⟨rfl, rfl⟩ hn1
 refine OA.app0 ?_
 refine OA.ps [(6, (.string (ByteArray.mk #[])))] rfl <| OA.nil fun _ => RA.seq hd <| RA.sR hd env_ok <| OA.ps [(11, (.string (ByteArray.mk #[])))] rfl <| oP 12 (.int .i64 0) rfl (Eq.trans (show _ = some (Value.int .i64 (((ByteArray.mk #[]).size : Nat) : Int), _, []) from rfl) (by rw [show (ByteArray.mk #[]).size = 0 from rfl] <;> rfl)) <| OA.ps [(13, (.int .i64 0))] rfl <| OA.nil fun _ => RA.block ?_
 refine RA.unroll hd ?_
 refine RA.sR hd env_ok <| oP 14 yF rfl (r_bin rfl rfl rfl (b_lss rfl)) <| OA.nil fun _ => RA.seq hd <| RA.condF rfl ?_
 refine RA.exit env_ok ?_
 intro _
 refine RA.sR hd env_ok <| OA.ps [(24, (.int .u64 0)), (4, (.int .u64 0))] rfl <| OA.nil fun _ => ?_
 refine RA.ret env_ok ?_
 refine ⟨.inr rfl, [(.int .u64 0)], (resL_cons rfl resL_nil), [], (Less.refl _ _ _), ⟨rfl, rfl⟩⟩
theorem rU32 {n : Nat} {σ : Store} (hd : Dom n σ) (r : Nat) (s : ByteArray) (p : Nat) (hk : p + 4 ≤ s.size) (hs : s.size < 9223372036854775808) (hr : σ r = some ⟨[[(.string (s.extract p s.size)), (.int .i64 0)]], 2, 83, true⟩)  : CQ Try.prog noDen 32 [(.pointer (some ⟨r, 0, some 0⟩))] n σ (fun v n' d => v = W (w32 s p) ∧ d = [(r, some ⟨[[(.string (s.extract (p + 4) s.size)), (.int .i64 0)]], 2, 83, true⟩)]) := by
 have lhr := hd.lt hr
 refine CQ.body (E := env) env_ok hd rfl rfl (by show _ ≤ _; exact of_decide_eq_true (by kernel_rfl)) ?_
 refine RA.sR hd env_ok <| OA.ps [(2, (.int .u32 0))] rfl <| OA.nil fun _ => RA.sR hd env_ok <| OA.ps [(3, (.pointer (some ⟨r, 0, some 0⟩)))] rfl ?_
 refine OA.call (dst := (some 4)) (all := [(.pointer (some ⟨r, 0, some 0⟩)), (.int .i64 4)]) rfl rfl rfl rfl rfl rfl rfl rfl (CQ.imp (rNumP (hd.up (by omega)) r s p 4 hk (by decide) hs hr) ?_)
 rintro _ n1 _ ⟨rfl, rfl⟩ hn1
 refine OA.app1 ?_
 refine oP 5 (W (BitVec.ofNat 32 (at_ s p 4))) rfl (r_cvt rfl rfl rfl rfl rfl ⟨_, rfl⟩ (wrap_ofNat32 _)) <| OA.ps [(2, (W (BitVec.ofNat 32 (at_ s p 4))))] rfl <| OA.nil fun _ => ?_
 refine RA.ret env_ok ?_
 refine ⟨.inr rfl, [(W (BitVec.ofNat 32 (at_ s p 4)))], (resL_cons rfl resL_nil), [(r, some ⟨[[(.string (s.extract (p + 4) s.size)), (.int .i64 0)]], 2, 83, true⟩)], (Less.refl _ _ _), ⟨rfl, rfl⟩⟩
theorem rU32S {n : Nat} {σ : Store} (hd : Dom n σ) (r : Nat) (s : ByteArray) (p : Nat) (hp : p ≤ s.size) (hk : ¬ p + 4 ≤ s.size) (hr : σ r = some ⟨[[(.string (s.extract p s.size)), (.int .i64 0)]], 2, 83, true⟩)  : CQ Try.prog noDen 32 [(.pointer (some ⟨r, 0, some 0⟩))] n σ (fun v n' d => v = W 0#32 ∧ d = [(r, some ⟨[[(.string (s.extract p s.size)), (.int .i64 2)]], 2, 83, true⟩)]) := by
 have lhr := hd.lt hr
 refine CQ.body (E := env) env_ok hd rfl rfl (by show _ ≤ _; exact of_decide_eq_true (by kernel_rfl)) ?_
 refine RA.sR hd env_ok <| OA.ps [(2, (.int .u32 0))] rfl <| OA.nil fun _ => RA.sR hd env_ok <| OA.ps [(3, (.pointer (some ⟨r, 0, some 0⟩)))] rfl ?_
 refine OA.call (dst := (some 4)) (all := [(.pointer (some ⟨r, 0, some 0⟩)), (.int .i64 4)]) rfl rfl rfl rfl rfl rfl rfl rfl (CQ.imp (rNumS (hd.up (by omega)) r (s.extract p s.size) 4 (by rw [size_cut _ _ _ (Nat.le_refl _)]; omega) hr) ?_)
 rintro _ n1 _ ⟨rfl, rfl⟩ hn1
 refine OA.app1 ?_
 refine OA.ps [(5, (.int .u32 0)), (2, (.int .u32 0))] rfl <| OA.nil fun _ => ?_
 refine RA.ret env_ok ?_
 refine ⟨.inr rfl, [(.int .u32 0)], (resL_cons rfl resL_nil), [(r, some ⟨[[(.string (s.extract p s.size)), (.int .i64 2)]], 2, 83, true⟩)], (Less.refl _ _ _), ⟨rfl, rfl⟩⟩
theorem rU32D {n : Nat} {σ : Store} (hd : Dom n σ) (r : Nat) (s : ByteArray) (p : Nat)  (hr : σ r = some ⟨[[(.string s), (.int .i64 2)]], 2, 83, true⟩)  : CQ Try.prog noDen 32 [(.pointer (some ⟨r, 0, some 0⟩))] n σ (fun v n' d => v = W 0#32 ∧ d = []) := by
 have lhr := hd.lt hr
 refine CQ.body (E := env) env_ok hd rfl rfl (by show _ ≤ _; exact of_decide_eq_true (by kernel_rfl)) ?_
 refine RA.sR hd env_ok <| OA.ps [(2, (.int .u32 0))] rfl <| OA.nil fun _ => RA.sR hd env_ok <| OA.ps [(3, (.pointer (some ⟨r, 0, some 0⟩)))] rfl ?_
 refine OA.call (dst := (some 4)) (all := [(.pointer (some ⟨r, 0, some 0⟩)), (.int .i64 4)]) rfl rfl rfl rfl rfl rfl rfl rfl (CQ.imp (rNumD (hd.up (by omega)) r s 4 hr) ?_)
 rintro _ n1 _ ⟨rfl, rfl⟩ hn1
 refine OA.app0 ?_
 refine OA.ps [(5, (.int .u32 0)), (2, (.int .u32 0))] rfl <| OA.nil fun _ => ?_
 refine RA.ret env_ok ?_
 refine ⟨.inr rfl, [(.int .u32 0)], (resL_cons rfl resL_nil), [], (Less.refl _ _ _), ⟨rfl, rfl⟩⟩
theorem rLeft {σ : Store} (r : Nat) (s : ByteArray) (hr : σ r = some ⟨[[(.string s), (.int .i64 0)]], 2, 83, true⟩)  : PS Try.prog noDen 38 [(.pointer (some ⟨r, 0, some 0⟩))] σ (.int .i64 ((s.size : Nat) : Int)) := by
 refine PS.body (E := env) env_ok rfl rfl (by show _ ≤ _; exact of_decide_eq_true (by kernel_rfl)) (fun n hd => ?_)
 have lhr := hd.lt hr
 refine RA.sR hd env_ok <| OA.ps [(2, (.int .i64 0))] rfl <| OA.nil fun _ => RA.seq hd <| RA.sR hd env_ok <| OA.ps [(3, (.pointer (some ⟨r, 0, some 0⟩)))] rfl <| oC 4 (v := (.int .i64 0)) (hd.up (by omega)) rfl rfl (rErr r _ 0 hr) fun n1 hn1 => oP 5 yF rfl (r_bin rfl rfl rfl (b_neq rfl)) <| OA.nil fun _ => RA.condF rfl <| RA.skip env_ok ?_
 intro _
 refine RA.sR hd env_ok <| OA.ps [(6, (.pointer (some ⟨r, 0, some 0⟩))), (7, (.pointer (some ⟨r, 0, some 0⟩))), (8, (.pointer (some ⟨r, 0, some 0⟩)))] rfl <| oL 9 (.string s) hr <| OA.ps [(10, (.int .i64 ((s.size : Nat) : Int))), (2, (.int .i64 ((s.size : Nat) : Int)))] rfl <| OA.nil fun _ => ?_
 refine RA.ret env_ok ?_
 exact lf (.int .i64 ((s.size : Nat) : Int)) rfl
theorem rLeftD {σ : Store} (r : Nat) (s : ByteArray) (hr : σ r = some ⟨[[(.string s), (.int .i64 2)]], 2, 83, true⟩)  : PS Try.prog noDen 38 [(.pointer (some ⟨r, 0, some 0⟩))] σ (.int .i64 0) := by
 refine PS.body (E := env) env_ok rfl rfl (by show _ ≤ _; exact of_decide_eq_true (by kernel_rfl)) (fun n hd => ?_)
 have lhr := hd.lt hr
 refine RA.sR hd env_ok <| OA.ps [(2, (.int .i64 0))] rfl <| OA.nil fun _ => RA.seq hd <| RA.sR hd env_ok <| OA.ps [(3, (.pointer (some ⟨r, 0, some 0⟩)))] rfl <| oC 4 (v := (.int .i64 2)) (hd.up (by omega)) rfl rfl (rErr r _ 2 hr) fun n1 hn1 => oP 5 yT rfl (r_bin rfl rfl rfl (b_neq rfl)) <| OA.nil fun _ => RA.condT rfl <| RA.sR hd env_ok ?_
 refine OA.ps [(2, (.int .i64 0))] rfl <| OA.nil fun _ => ?_
 refine RA.ret env_ok ?_
 exact lf (.int .i64 0) rfl
theorem rRest {n : Nat} {σ : Store} (hd : Dom n σ) (r : Nat) (s : ByteArray) (hs : s.size < 9223372036854775808) (hr : σ r = some ⟨[[(.string s), (.int .i64 0)]], 2, 83, true⟩)  : CQ Try.prog noDen 33 [(.pointer (some ⟨r, 0, some 0⟩))] n σ (fun v n' d => v = .string (s.extract 0 s.size) ∧ d = [(r, some ⟨[[(.string (s.extract s.size s.size)), (.int .i64 0)]], 2, 83, true⟩)]) := by
 have lhr := hd.lt hr
 refine CQ.body (E := env) env_ok hd rfl rfl (by show _ ≤ _; exact of_decide_eq_true (by kernel_rfl)) ?_
 refine RA.sR hd env_ok <| OA.ps [(2, (.string (ByteArray.mk #[])))] rfl <| OA.nil fun _ => RA.sR hd env_ok <| OA.ps [(3, (.pointer (some ⟨r, 0, some 0⟩))), (4, (.pointer (some ⟨r, 0, some 0⟩)))] rfl <| oC 5 (v := (.int .i64 ((s.size : Nat) : Int))) (hd.up (by omega)) rfl rfl (rLeft r _ hr) fun n1 hn1 => ?_
 refine OA.call (dst := (some 6)) (all := [(.pointer (some ⟨r, 0, some 0⟩)), (.int .i64 ((s.size : Nat) : Int))]) rfl rfl rfl rfl rfl rfl rfl rfl (CQ.imp (rTake (hd.up (by omega)) r s s.size (Nat.le_refl _) hs hr) ?_)
 rintro _ n2 _ ⟨rfl, rfl⟩ hn2
 refine OA.app1 ?_
 refine OA.ps [(2, (.string (s.extract 0 s.size)))] rfl <| OA.nil fun _ => ?_
 refine RA.ret env_ok ?_
 refine ⟨.inr rfl, [(.string (s.extract 0 s.size))], (resL_cons rfl resL_nil), [(r, some ⟨[[(.string (s.extract s.size s.size)), (.int .i64 0)]], 2, 83, true⟩)], (Less.refl _ _ _), ⟨rfl, rfl⟩⟩
theorem rRestD {n : Nat} {σ : Store} (hd : Dom n σ) (r : Nat) (s : ByteArray) (hr : σ r = some ⟨[[(.string s), (.int .i64 2)]], 2, 83, true⟩)  : CQ Try.prog noDen 33 [(.pointer (some ⟨r, 0, some 0⟩))] n σ (fun v n' d => v = .string (ByteArray.mk #[]) ∧ d = []) := by
 have lhr := hd.lt hr
 refine CQ.body (E := env) env_ok hd rfl rfl (by show _ ≤ _; exact of_decide_eq_true (by kernel_rfl)) ?_
 refine RA.sR hd env_ok <| OA.ps [(2, (.string (ByteArray.mk #[])))] rfl <| OA.nil fun _ => RA.sR hd env_ok <| OA.ps [(3, (.pointer (some ⟨r, 0, some 0⟩))), (4, (.pointer (some ⟨r, 0, some 0⟩)))] rfl <| oC 5 (v := (.int .i64 0)) (hd.up (by omega)) rfl rfl (rLeftD r _ hr) fun n1 hn1 => ?_
 refine OA.call (dst := (some 6)) (all := [(.pointer (some ⟨r, 0, some 0⟩)), (.int .i64 0)]) rfl rfl rfl rfl rfl rfl rfl rfl (CQ.imp (rTakeD (hd.up (by omega)) r s 0 hr) ?_)
 rintro _ n2 _ ⟨rfl, rfl⟩ hn2
 refine OA.app0 ?_
 refine OA.ps [(2, (.string (ByteArray.mk #[])))] rfl <| OA.nil fun _ => ?_
 refine RA.ret env_ok ?_
 refine ⟨.inr rfl, [(.string (ByteArray.mk #[]))], (resL_cons rfl resL_nil), [], (Less.refl _ _ _), ⟨rfl, rfl⟩⟩
theorem rRestQ {n : Nat} {σ : Store} (hd : Dom n σ) (r : Nat) (s : ByteArray) (hs : s.size < 9223372036854775808) (hr : σ r = some ⟨[[(.string s), (.int .i64 0)]], 2, 83, true⟩) : CQ Try.prog noDen 33 [(.pointer (some ⟨r, 0, some 0⟩))] n σ (fun v n' d => v = .string s ∧ d = [(r, some ⟨[[(.string (s.extract s.size s.size)), (.int .i64 0)]], 2, 83, true⟩)]) := by
  refine CQ.imp (rRest hd r s hs hr) ?_
  rintro v n' d ⟨rfl, rfl⟩
  exact ⟨by rw [ext_all], rfl⟩
theorem ba_nil {s : ByteArray} (h : s.size = 0) : s = ByteArray.mk #[] := by
  apply L_ext
  rw [show L (ByteArray.mk #[]) = [] from rfl]
  exact List.length_eq_zero_iff.1 (by rw [L_len]; exact h)
end Go.Proofs.Ytdiofapingdlmaa.Vt
/- F1: walks through functions of the program, by the calculus; written by a program of this workplace. -/
namespace Go.Proofs.Ytdiofapingdlmaa.Vt
open Go Go.Proofs Go.Proofs.YtdiofapingdlmaaV
set_option maxRecDepth 100000
set_option linter.unusedVariables false
set_option linter.unusedSimpArgs false
set_option maxHeartbeats 8000000
def pAll (s : ByteArray) : Nat := (w32 s 4).toNat
def pAt (s : ByteArray) : Nat := (w32 s 8).toNat
def pOk (s : ByteArray) : Prop := 12 ≤ s.size ∧ pAll s ≤ 20000 ∧ pAt s ≤ pAll s ∧ pAt s % 500 = 0 ∧ s.size - 12 = min (pAll s - pAt s) 500 ∧ (s.size = 12 → pAll s = 0)
instance (s : ByteArray) : Decidable (pOk s) := by unfold pOk; infer_instance
def pieceV (s : ByteArray) : Value := .agg ⟨[W (w32 s 0), .int .i64 ((pAll s : Nat) : Int), .int .i64 ((pAt s : Nat) : Int), .string (s.extract 12 s.size)]⟩
def parseV (s : ByteArray) : Value := if pOk s then .tuple ⟨[pieceV s, .bool true]⟩ else .tuple ⟨[(.agg ⟨[(.int .u32 0), (.int .i64 0), (.int .i64 0), (.string ByteArray.empty)]⟩), .bool false]⟩
theorem parse_y {s : ByteArray} (h : pOk s) : parseV s = .tuple ⟨[pieceV s, .bool true]⟩ := if_pos h
theorem parse_n {s : ByteArray} (h : ¬ pOk s) : parseV s = .tuple ⟨[(.agg ⟨[(.int .u32 0), (.int .i64 0), (.int .i64 0), (.string ByteArray.empty)]⟩), .bool false]⟩ := if_neg h
theorem sParse {n : Nat} {σ : Store} (hd : Dom n σ) (s : ByteArray) (hs : s.size < 9223372036854775808)   : CQ Try.prog noDen 21 [(.string s)] n σ (fun v n' d => v = parseV s ∧ d = []) := by
 refine CQ.body (E := env) env_ok hd rfl rfl (by show _ ≤ _; exact of_decide_eq_true (by kernel_rfl)) ?_
 refine RA.sR hd env_ok <| o1 (some 2) (.pointer (some ⟨n, 0, some 0⟩)) (n + 1) (n, some ⟨[[(.int .u32 0), (.int .i64 0), (.int .i64 0), (.string ByteArray.empty)]], 4, 56, true⟩) rfl <| OA.ps [(3, yF)] rfl <| OA.nil fun _ => RA.sR hd env_ok <| OA.ps [(6, (.string s))] rfl ?_
 refine OA.call (dst := (some 7)) (all := [(.string s)]) rfl rfl rfl rfl rfl rfl rfl rfl (CQ.imp (rNew (hd.of (by omega) (kb1 (by omega))) s) ?_)
 rintro _ n2 _ ⟨q1, hq1a, hq1b, rfl, rfl⟩ hn2
 refine OA.app1 ?_
 refine OA.ps [(4, (.pointer (some ⟨q1, 0, some 0⟩)))] rfl <| OA.nil fun _ => RA.sR hd env_ok <| OA.ps [(8, (.pointer (some ⟨q1, 0, some 0⟩)))] rfl ?_
 by_cases hc1 : 4 ≤ s.size
 ·
  refine OA.call (dst := (some 9)) (all := [(.pointer (some ⟨q1, 0, some 0⟩))]) rfl rfl rfl rfl rfl rfl rfl rfl (CQ.imp (rU32 (hd.of (by omega) (kb2 (by omega))) q1 s 0 (by omega) hs get_here) ?_)
  rintro _ n3 _ ⟨rfl, rfl⟩ hn3
  refine OA.app1 ?_
  refine OA.ps [(10, (.pointer (some ⟨q1, 0, some 0⟩)))] rfl ?_
  by_cases hc2 : 8 ≤ s.size
  ·
   refine OA.call (dst := (some 11)) (all := [(.pointer (some ⟨q1, 0, some 0⟩))]) rfl rfl rfl rfl rfl rfl rfl rfl (CQ.imp (rU32 (hd.of (by omega) (kb3 (by omega))) q1 s 4 (by omega) hs get_here) ?_)
   rintro _ n4 _ ⟨rfl, rfl⟩ hn4
   refine OA.app1 ?_
   refine oP 12 (.int .i64 (((w32 s 4).toNat : Nat) : Int)) rfl (r_cvt rfl rfl rfl rfl rfl ⟨_, rfl⟩ (i64_eq (by have := ((w32 s 4)).isLt; omega))) <| OA.ps [(13, (.pointer (some ⟨q1, 0, some 0⟩)))] rfl ?_
   by_cases hc3 : 12 ≤ s.size
   ·
    refine OA.call (dst := (some 14)) (all := [(.pointer (some ⟨q1, 0, some 0⟩))]) rfl rfl rfl rfl rfl rfl rfl rfl (CQ.imp (rU32 (hd.of (by omega) (kb4 (by omega))) q1 s 8 (by omega) hs get_here) ?_)
    rintro _ n5 _ ⟨rfl, rfl⟩ hn5
    refine OA.app1 ?_
    refine oP 15 (.int .i64 (((w32 s 8).toNat : Nat) : Int)) rfl (r_cvt rfl rfl rfl rfl rfl ⟨_, rfl⟩ (i64_eq (by have := ((w32 s 8)).isLt; omega))) <| oP 16 (.agg ⟨[(W (w32 s 0)), (.int .i64 (((w32 s 4).toNat : Nat) : Int)), (.int .i64 (((w32 s 8).toNat : Nat) : Int)), (.string ByteArray.empty)]⟩) rfl (by kernel_rfl) <| o1 (some 5) (.pointer (some ⟨n5, 0, some 0⟩)) (n5 + 1) (n5, some ⟨[[(.int .u32 0), (.int .i64 0), (.int .i64 0), (.string ByteArray.empty)]], 4, 56, true⟩) rfl <| o1 none yU (n5 + 1) (n5, some ⟨[[(W (w32 s 0)), (.int .i64 (((w32 s 4).toNat : Nat) : Int)), (.int .i64 (((w32 s 8).toNat : Nat) : Int)), (.string ByteArray.empty)]], 4, 56, true⟩) (rS get_here) <| OA.nil fun _ => RA.weaken hd (LsO (fA get_here get_here (fA (get_there (by omega) get_here) (gt2 (by omega) get_here) (fA (gt2 (by omega) get_here) (gt6 (by omega) get_here) fan)))) <| RA.sR hd env_ok <| OA.ps [(17, (.pointer (some ⟨q1, 0, some 0⟩)))] rfl ?_
    refine OA.call (dst := (some 18)) (all := [(.pointer (some ⟨q1, 0, some 0⟩))]) rfl rfl rfl rfl rfl rfl rfl rfl (CQ.imp (rRestQ (hd.of (by omega) (kb3 (by omega))) q1 (s.extract 12 s.size) (by rw [size_cut _ _ _ (Nat.le_refl _)]; omega) (get_there (by omega) get_here)) ?_)
    rintro _ n6 _ ⟨rfl, rfl⟩ hn6
    refine OA.app1 ?_
    refine OA.ps [(19, (.pointer (some ⟨n5, 0, some 3⟩)))] rfl <| o1 none yU n6 (n5, some ⟨[[(W (w32 s 0)), (.int .i64 (((w32 s 4).toNat : Nat) : Int)), (.int .i64 (((w32 s 8).toNat : Nat) : Int)), (.string (s.extract 12 s.size))]], 4, 56, true⟩) (rS (get_there (by omega) get_here)) <| OA.nil fun _ => RA.weaken hd (LsO (fA get_here get_here (fA (get_there (by omega) get_here) (get_there (by omega) get_here) (fA (gt2 (by omega) get_here) (gt4 (by omega) get_here) fan)))) <| RA.seq hd <| RA.sR hd env_ok <| OA.ps [(20, (.pointer (some ⟨q1, 0, some 0⟩)))] rfl <| oC 21 (v := (.int .i64 0)) (hd.of (by omega) (kb3 (by omega))) rfl rfl (rErr q1 _ 0 (get_there (by omega) get_here)) fun n7 hn7 => oP 22 yF rfl (r_bin rfl rfl rfl (b_neq rfl)) <| OA.ps [(23, yF), (24, (.pointer (some ⟨n5, 0, some 1⟩)))] rfl <| oL 25 (.int .i64 (((w32 s 4).toNat : Nat) : Int)) get_here ?_
    by_cases hc4 : 20000 < (((w32 s 4).toNat : Nat) : Int)
    ·
     refine oP 26 yT rfl (Eq.trans (r_bin rfl rfl rfl (b_gtr rfl)) (dT hc4)) <| OA.ps [(27, yT), (28, yT)] rfl <| OA.offs 29 5 rfl <| OA.ps [(34, yT), (35, yT)] rfl <| OA.offs 36 4 rfl <| OA.ps [(40, yT), (41, yT)] rfl <| OA.offs 42 10 rfl <| OA.ps [(52, yT), (53, yT)] rfl <| OA.offs 54 8 rfl <| OA.ps [(62, yT)] rfl <| OA.nil fun _ => ?_
     refine RA.rb [(0, (.string s)), (2, (.pointer (some ⟨n, 0, some 0⟩))), (3, yF), (4, (.pointer (some ⟨q1, 0, some 0⟩))), (5, (.pointer (some ⟨n5, 0, some 0⟩))), (62, yT)] rfl (fun τr8 => ?_)
     refine RA.condT rfl <| RA.sR hd env_ok <| oP 63 (.agg ⟨[(.int .u32 0), (.int .i64 0), (.int .i64 0), (.string ByteArray.empty)]⟩) rfl (by kernel_rfl) <| o1 none yU n7 (n, some ⟨[[(.int .u32 0), (.int .i64 0), (.int .i64 0), (.string ByteArray.empty)]], 4, 56, true⟩) (rS (gt2 (by omega) get_here)) <| OA.ps [(3, yF)] rfl <| OA.nil fun _ => ?_
     refine RA.ret env_ok ?_
     have hsz : (s.extract 12 s.size).size = s.size - 12 := size_cut _ _ _ (Nat.le_refl _)
     refine ⟨.inr rfl, [(.agg ⟨[(.int .u32 0), (.int .i64 0), (.int .i64 0), (.string ByteArray.empty)]⟩), (.bool false)], (resL_cons (res_cellA rfl rfl rfl get_here rfl rfl rfl) (resL_cons rfl resL_nil)), [], (LsO fan), ⟨by rw [parse_n (by unfold pOk pAll pAt; omega)] <;> rfl, rfl⟩⟩
    ·
     refine oP 26 yF rfl (Eq.trans (r_bin rfl rfl rfl (b_gtr rfl)) (dF hc4)) <| OA.ps [(27, yF), (28, yF), (29, (.pointer (some ⟨n5, 0, some 2⟩)))] rfl <| oL 30 (.int .i64 (((w32 s 8).toNat : Nat) : Int)) get_here <| OA.ps [(31, (.pointer (some ⟨n5, 0, some 1⟩)))] rfl <| oL 32 (.int .i64 (((w32 s 4).toNat : Nat) : Int)) get_here ?_
     by_cases hc5 : (((w32 s 4).toNat : Nat) : Int) < (((w32 s 8).toNat : Nat) : Int)
     ·
      refine oP 33 yT rfl (Eq.trans (r_bin rfl rfl rfl (b_gtr rfl)) (dT hc5)) <| OA.ps [(34, yT), (35, yT)] rfl <| OA.offs 36 4 rfl <| OA.ps [(40, yT), (41, yT)] rfl <| OA.offs 42 10 rfl <| OA.ps [(52, yT), (53, yT)] rfl <| OA.offs 54 8 rfl <| OA.ps [(62, yT)] rfl <| OA.nil fun _ => RA.rb [(0, (.string s)), (2, (.pointer (some ⟨n, 0, some 0⟩))), (3, yF), (4, (.pointer (some ⟨q1, 0, some 0⟩))), (5, (.pointer (some ⟨n5, 0, some 0⟩))), (62, yT)] rfl (fun τr9 => ?_)
      refine RA.condT rfl <| RA.sR hd env_ok <| oP 63 (.agg ⟨[(.int .u32 0), (.int .i64 0), (.int .i64 0), (.string ByteArray.empty)]⟩) rfl (by kernel_rfl) <| o1 none yU n7 (n, some ⟨[[(.int .u32 0), (.int .i64 0), (.int .i64 0), (.string ByteArray.empty)]], 4, 56, true⟩) (rS (gt2 (by omega) get_here)) <| OA.ps [(3, yF)] rfl <| OA.nil fun _ => ?_
      refine RA.ret env_ok ?_
      have hsz : (s.extract 12 s.size).size = s.size - 12 := size_cut _ _ _ (Nat.le_refl _)
      refine ⟨.inr rfl, [(.agg ⟨[(.int .u32 0), (.int .i64 0), (.int .i64 0), (.string ByteArray.empty)]⟩), (.bool false)], (resL_cons (res_cellA rfl rfl rfl get_here rfl rfl rfl) (resL_cons rfl resL_nil)), [], (LsO fan), ⟨by rw [parse_n (by unfold pOk pAll pAt; omega)] <;> rfl, rfl⟩⟩
     ·
      refine oP 33 yF rfl (Eq.trans (r_bin rfl rfl rfl (b_gtr rfl)) (dF hc5)) <| OA.ps [(34, yF), (35, yF), (36, (.pointer (some ⟨n5, 0, some 2⟩)))] rfl <| oL 37 (.int .i64 (((w32 s 8).toNat : Nat) : Int)) get_here <| oP 38 (.int .i64 ((((w32 s 8).toNat % 500) : Nat) : Int)) rfl (r_bin rfl rfl rfl (b_remN (a := (w32 s 8).toNat) (c := 500) (by decide))) ?_
      by_cases hc6 : ((((w32 s 8).toNat % 500) : Nat) : Int) ≠ 0
      ·
       refine oP 39 yT rfl (Eq.trans (r_bin rfl rfl rfl (b_neq rfl)) (dT hc6)) <| OA.ps [(40, yT), (41, yT)] rfl <| OA.offs 42 10 rfl <| OA.ps [(52, yT), (53, yT)] rfl <| OA.offs 54 8 rfl <| OA.ps [(62, yT)] rfl <| OA.nil fun _ => RA.rb [(0, (.string s)), (2, (.pointer (some ⟨n, 0, some 0⟩))), (3, yF), (4, (.pointer (some ⟨q1, 0, some 0⟩))), (5, (.pointer (some ⟨n5, 0, some 0⟩))), (62, yT)] rfl (fun τr10 => ?_)
       refine RA.condT rfl <| RA.sR hd env_ok <| oP 63 (.agg ⟨[(.int .u32 0), (.int .i64 0), (.int .i64 0), (.string ByteArray.empty)]⟩) rfl (by kernel_rfl) <| o1 none yU n7 (n, some ⟨[[(.int .u32 0), (.int .i64 0), (.int .i64 0), (.string ByteArray.empty)]], 4, 56, true⟩) (rS (gt2 (by omega) get_here)) <| OA.ps [(3, yF)] rfl <| OA.nil fun _ => ?_
       refine RA.ret env_ok ?_
       have hsz : (s.extract 12 s.size).size = s.size - 12 := size_cut _ _ _ (Nat.le_refl _)
       refine ⟨.inr rfl, [(.agg ⟨[(.int .u32 0), (.int .i64 0), (.int .i64 0), (.string ByteArray.empty)]⟩), (.bool false)], (resL_cons (res_cellA rfl rfl rfl get_here rfl rfl rfl) (resL_cons rfl resL_nil)), [], (LsO fan), ⟨by rw [parse_n (by unfold pOk pAll pAt; omega)] <;> rfl, rfl⟩⟩
      ·
       refine oP 39 yF rfl (Eq.trans (r_bin rfl rfl rfl (b_neq rfl)) (dF hc6)) <| OA.ps [(40, yF), (41, yF), (42, (.pointer (some ⟨n5, 0, some 3⟩)))] rfl <| oL 43 (.string (s.extract 12 s.size)) get_here <| OA.ps [(44, (.int .i64 (((s.extract 12 s.size).size : Nat) : Int))), (45, (.pointer (some ⟨n5, 0, some 1⟩)))] rfl <| oL 46 (.int .i64 (((w32 s 4).toNat : Nat) : Int)) get_here <| OA.ps [(47, (.pointer (some ⟨n5, 0, some 2⟩)))] rfl <| oL 48 (.int .i64 (((w32 s 8).toNat : Nat) : Int)) get_here <| oP 49 (.int .i64 ((((w32 s 4).toNat - (w32 s 8).toNat) : Nat) : Int)) rfl (r_bin rfl rfl rfl (b_sub (i64_eq (by omega)))) <| oP 50 (.int .i64 (((min ((w32 s 4).toNat - (w32 s 8).toNat) 500) : Nat) : Int)) rfl (r_min (a := ((w32 s 4).toNat - (w32 s 8).toNat)) (b := 500) rfl rfl rfl) ?_
       by_cases hc7 : (((s.extract 12 s.size).size : Nat) : Int) ≠ (((min ((w32 s 4).toNat - (w32 s 8).toNat) 500) : Nat) : Int)
       ·
        refine oP 51 yT rfl (Eq.trans (r_bin rfl rfl rfl (b_neq rfl)) (dT hc7)) <| OA.ps [(52, yT), (53, yT)] rfl <| OA.offs 54 8 rfl <| OA.ps [(62, yT)] rfl <| OA.nil fun _ => RA.rb [(0, (.string s)), (2, (.pointer (some ⟨n, 0, some 0⟩))), (3, yF), (4, (.pointer (some ⟨q1, 0, some 0⟩))), (5, (.pointer (some ⟨n5, 0, some 0⟩))), (62, yT)] rfl (fun τr11 => ?_)
        refine RA.condT rfl <| RA.sR hd env_ok <| oP 63 (.agg ⟨[(.int .u32 0), (.int .i64 0), (.int .i64 0), (.string ByteArray.empty)]⟩) rfl (by kernel_rfl) <| o1 none yU n7 (n, some ⟨[[(.int .u32 0), (.int .i64 0), (.int .i64 0), (.string ByteArray.empty)]], 4, 56, true⟩) (rS (gt2 (by omega) get_here)) <| OA.ps [(3, yF)] rfl <| OA.nil fun _ => ?_
        refine RA.ret env_ok ?_
        have hsz : (s.extract 12 s.size).size = s.size - 12 := size_cut _ _ _ (Nat.le_refl _)
        refine ⟨.inr rfl, [(.agg ⟨[(.int .u32 0), (.int .i64 0), (.int .i64 0), (.string ByteArray.empty)]⟩), (.bool false)], (resL_cons (res_cellA rfl rfl rfl get_here rfl rfl rfl) (resL_cons rfl resL_nil)), [], (LsO fan), ⟨by rw [parse_n (by unfold pOk pAll pAt; omega)] <;> rfl, rfl⟩⟩
       ·
        refine oP 51 yF rfl (Eq.trans (r_bin rfl rfl rfl (b_neq rfl)) (dF hc7)) <| OA.ps [(52, yF), (53, yF), (54, (.pointer (some ⟨n5, 0, some 3⟩)))] rfl <| oL 55 (.string (s.extract 12 s.size)) get_here ?_
        by_cases hc8 : (s.extract 12 s.size) = (ByteArray.mk #[])
        ·
         refine oP 56 yT rfl (Eq.trans (r_eqlS rfl rfl rfl) (dT hc8)) <| OA.ps [(57, yT), (58, (.pointer (some ⟨n5, 0, some 1⟩)))] rfl <| oL 59 (.int .i64 (((w32 s 4).toNat : Nat) : Int)) get_here ?_
         by_cases hc9 : 0 < (((w32 s 4).toNat : Nat) : Int)
         ·
          refine oP 60 yT rfl (Eq.trans (r_bin rfl rfl rfl (b_gtr rfl)) (dT hc9)) <| OA.ps [(61, yT), (62, yT)] rfl <| OA.nil fun _ => RA.rb [(0, (.string s)), (2, (.pointer (some ⟨n, 0, some 0⟩))), (3, yF), (4, (.pointer (some ⟨q1, 0, some 0⟩))), (5, (.pointer (some ⟨n5, 0, some 0⟩))), (62, yT)] rfl (fun τr12 => ?_)
          refine RA.condT rfl <| RA.sR hd env_ok <| oP 63 (.agg ⟨[(.int .u32 0), (.int .i64 0), (.int .i64 0), (.string ByteArray.empty)]⟩) rfl (by kernel_rfl) <| o1 none yU n7 (n, some ⟨[[(.int .u32 0), (.int .i64 0), (.int .i64 0), (.string ByteArray.empty)]], 4, 56, true⟩) (rS (gt2 (by omega) get_here)) <| OA.ps [(3, yF)] rfl <| OA.nil fun _ => ?_
          refine RA.ret env_ok ?_
          have hsz : (s.extract 12 s.size).size = s.size - 12 := size_cut _ _ _ (Nat.le_refl _)
          have hz : (s.extract 12 s.size).size = 0 := by rw [hc8]; rfl
          refine ⟨.inr rfl, [(.agg ⟨[(.int .u32 0), (.int .i64 0), (.int .i64 0), (.string ByteArray.empty)]⟩), (.bool false)], (resL_cons (res_cellA rfl rfl rfl get_here rfl rfl rfl) (resL_cons rfl resL_nil)), [], (LsO fan), ⟨by rw [parse_n (by unfold pOk pAll pAt; omega)] <;> rfl, rfl⟩⟩
         ·
          refine oP 60 yF rfl (Eq.trans (r_bin rfl rfl rfl (b_gtr rfl)) (dF hc9)) <| OA.ps [(61, yF), (62, yF)] rfl <| OA.nil fun _ => RA.rb [(0, (.string s)), (2, (.pointer (some ⟨n, 0, some 0⟩))), (3, yF), (4, (.pointer (some ⟨q1, 0, some 0⟩))), (5, (.pointer (some ⟨n5, 0, some 0⟩))), (62, yF)] rfl (fun τr13 => ?_)
          refine RA.condF rfl <| RA.skip env_ok ?_
          intro _
          refine RA.sR hd env_ok <| oP 64 (.agg ⟨[(W (w32 s 0)), (.int .i64 (((w32 s 4).toNat : Nat) : Int)), (.int .i64 (((w32 s 8).toNat : Nat) : Int)), (.string (s.extract 12 s.size))]⟩) rfl (r_loadA rfl rfl rfl rfl get_here rfl rfl rfl) <| o1 none yU n7 (n, some ⟨[[(W (w32 s 0)), (.int .i64 (((w32 s 4).toNat : Nat) : Int)), (.int .i64 (((w32 s 8).toNat : Nat) : Int)), (.string (s.extract 12 s.size))]], 4, 56, true⟩) (rS (gt2 (by omega) get_here)) <| OA.ps [(3, yT)] rfl <| OA.nil fun _ => ?_
          refine RA.ret env_ok ?_
          have hsz : (s.extract 12 s.size).size = s.size - 12 := size_cut _ _ _ (Nat.le_refl _)
          have hz : (s.extract 12 s.size).size = 0 := by rw [hc8]; rfl
          refine ⟨.inr rfl, [(.agg ⟨[(W (w32 s 0)), (.int .i64 (((w32 s 4).toNat : Nat) : Int)), (.int .i64 (((w32 s 8).toNat : Nat) : Int)), (.string (s.extract 12 s.size))]⟩), (.bool true)], (resL_cons (res_cellA rfl rfl rfl get_here rfl rfl rfl) (resL_cons rfl resL_nil)), [], (LsO fan), ⟨by rw [parse_y (by unfold pOk pAll pAt; omega)] <;> rfl, rfl⟩⟩
        ·
         refine oP 56 yF rfl (Eq.trans (r_eqlS rfl rfl rfl) (dF hc8)) <| OA.ps [(57, yF)] rfl <| OA.offs 58 3 rfl <| OA.ps [(61, yF), (62, yF)] rfl <| OA.nil fun _ => RA.rb [(0, (.string s)), (2, (.pointer (some ⟨n, 0, some 0⟩))), (3, yF), (4, (.pointer (some ⟨q1, 0, some 0⟩))), (5, (.pointer (some ⟨n5, 0, some 0⟩))), (62, yF)] rfl (fun τr14 => ?_)
         refine RA.condF rfl <| RA.skip env_ok ?_
         intro _
         refine RA.sR hd env_ok <| oP 64 (.agg ⟨[(W (w32 s 0)), (.int .i64 (((w32 s 4).toNat : Nat) : Int)), (.int .i64 (((w32 s 8).toNat : Nat) : Int)), (.string (s.extract 12 s.size))]⟩) rfl (r_loadA rfl rfl rfl rfl get_here rfl rfl rfl) <| o1 none yU n7 (n, some ⟨[[(W (w32 s 0)), (.int .i64 (((w32 s 4).toNat : Nat) : Int)), (.int .i64 (((w32 s 8).toNat : Nat) : Int)), (.string (s.extract 12 s.size))]], 4, 56, true⟩) (rS (gt2 (by omega) get_here)) <| OA.ps [(3, yT)] rfl <| OA.nil fun _ => ?_
         refine RA.ret env_ok ?_
         have hsz : (s.extract 12 s.size).size = s.size - 12 := size_cut _ _ _ (Nat.le_refl _)
         have hz : (s.extract 12 s.size).size ≠ 0 := fun e => hc8 (ba_nil e)
         refine ⟨.inr rfl, [(.agg ⟨[(W (w32 s 0)), (.int .i64 (((w32 s 4).toNat : Nat) : Int)), (.int .i64 (((w32 s 8).toNat : Nat) : Int)), (.string (s.extract 12 s.size))]⟩), (.bool true)], (resL_cons (res_cellA rfl rfl rfl get_here rfl rfl rfl) (resL_cons rfl resL_nil)), [], (LsO fan), ⟨by rw [parse_y (by unfold pOk pAll pAt; omega)] <;> rfl, rfl⟩⟩
   ·
    refine OA.call (dst := (some 14)) (all := [(.pointer (some ⟨q1, 0, some 0⟩))]) rfl rfl rfl rfl rfl rfl rfl rfl (CQ.imp (rU32S (hd.of (by omega) (kb4 (by omega))) q1 s 8 (by omega) (by omega) get_here) ?_)
    rintro _ n15 _ ⟨rfl, rfl⟩ hn15
    refine OA.app1 ?_
    refine oP 15 (.int .i64 (((0#32).toNat : Nat) : Int)) rfl (r_cvt rfl rfl rfl rfl rfl ⟨_, rfl⟩ (i64_eq (by have := (0#32).isLt; omega))) <| oP 16 (.agg ⟨[(W (w32 s 0)), (.int .i64 (((w32 s 4).toNat : Nat) : Int)), (.int .i64 (((0#32).toNat : Nat) : Int)), (.string ByteArray.empty)]⟩) rfl (by kernel_rfl) <| o1 (some 5) (.pointer (some ⟨n15, 0, some 0⟩)) (n15 + 1) (n15, some ⟨[[(.int .u32 0), (.int .i64 0), (.int .i64 0), (.string ByteArray.empty)]], 4, 56, true⟩) rfl <| o1 none yU (n15 + 1) (n15, some ⟨[[(W (w32 s 0)), (.int .i64 (((w32 s 4).toNat : Nat) : Int)), (.int .i64 (((0#32).toNat : Nat) : Int)), (.string ByteArray.empty)]], 4, 56, true⟩) (rS get_here) <| OA.nil fun _ => RA.weaken hd (LsO (fA get_here get_here (fA (get_there (by omega) get_here) (gt2 (by omega) get_here) (fA (gt2 (by omega) get_here) (gt6 (by omega) get_here) fan)))) <| RA.sR hd env_ok <| OA.ps [(17, (.pointer (some ⟨q1, 0, some 0⟩)))] rfl ?_
    refine OA.call (dst := (some 18)) (all := [(.pointer (some ⟨q1, 0, some 0⟩))]) rfl rfl rfl rfl rfl rfl rfl rfl (CQ.imp (rRestD (hd.of (by omega) (kb3 (by omega))) q1 _ (get_there (by omega) get_here)) ?_)
    rintro _ n16 _ ⟨rfl, rfl⟩ hn16
    refine OA.app0 ?_
    refine OA.ps [(19, (.pointer (some ⟨n15, 0, some 3⟩)))] rfl <| o1 none yU n16 (n15, some ⟨[[(W (w32 s 0)), (.int .i64 (((w32 s 4).toNat : Nat) : Int)), (.int .i64 (((0#32).toNat : Nat) : Int)), (.string (ByteArray.mk #[]))]], 4, 56, true⟩) (rS get_here) <| OA.nil fun _ => RA.seq hd <| RA.sR hd env_ok <| OA.ps [(20, (.pointer (some ⟨q1, 0, some 0⟩)))] rfl <| oC 21 (v := (.int .i64 2)) (hd.of (by omega) (kb4 (by omega))) rfl rfl (rErr q1 _ 2 (gt2 (by omega) get_here)) fun n17 hn17 => oP 22 yT rfl (r_bin rfl rfl rfl (b_neq rfl)) <| OA.ps [(23, yT)] rfl <| OA.offs 24 3 rfl <| OA.ps [(27, yT), (28, yT)] rfl ?_
    refine OA.offs 29 5 rfl <| OA.ps [(34, yT), (35, yT)] rfl <| OA.offs 36 4 rfl <| OA.ps [(40, yT), (41, yT)] rfl <| OA.offs 42 10 rfl <| OA.ps [(52, yT), (53, yT)] rfl <| OA.offs 54 8 rfl <| OA.ps [(62, yT)] rfl <| OA.nil fun _ => RA.rb [(0, (.string s)), (2, (.pointer (some ⟨n, 0, some 0⟩))), (3, yF), (4, (.pointer (some ⟨q1, 0, some 0⟩))), (5, (.pointer (some ⟨n15, 0, some 0⟩))), (62, yT)] rfl (fun τr18 => ?_)
    refine RA.condT rfl <| RA.sR hd env_ok <| oP 63 (.agg ⟨[(.int .u32 0), (.int .i64 0), (.int .i64 0), (.string ByteArray.empty)]⟩) rfl (by kernel_rfl) <| o1 none yU n17 (n, some ⟨[[(.int .u32 0), (.int .i64 0), (.int .i64 0), (.string ByteArray.empty)]], 4, 56, true⟩) (rS (gt3 (by omega) get_here)) <| OA.ps [(3, yF)] rfl <| OA.nil fun _ => ?_
    refine RA.ret env_ok ?_
    refine ⟨.inr rfl, [(.agg ⟨[(.int .u32 0), (.int .i64 0), (.int .i64 0), (.string ByteArray.empty)]⟩), (.bool false)], (resL_cons (res_cellA rfl rfl rfl get_here rfl rfl rfl) (resL_cons rfl resL_nil)), [], (LsO fan), ⟨by rw [parse_n (by unfold pOk pAll pAt; omega)] <;> rfl, rfl⟩⟩
  ·
   refine OA.call (dst := (some 11)) (all := [(.pointer (some ⟨q1, 0, some 0⟩))]) rfl rfl rfl rfl rfl rfl rfl rfl (CQ.imp (rU32S (hd.of (by omega) (kb3 (by omega))) q1 s 4 (by omega) (by omega) get_here) ?_)
   rintro _ n19 _ ⟨rfl, rfl⟩ hn19
   refine OA.app1 ?_
   refine oP 12 (.int .i64 (((0#32).toNat : Nat) : Int)) rfl (r_cvt rfl rfl rfl rfl rfl ⟨_, rfl⟩ (i64_eq (by have := (0#32).isLt; omega))) <| OA.ps [(13, (.pointer (some ⟨q1, 0, some 0⟩)))] rfl ?_
   refine OA.call (dst := (some 14)) (all := [(.pointer (some ⟨q1, 0, some 0⟩))]) rfl rfl rfl rfl rfl rfl rfl rfl (CQ.imp (rU32D (hd.of (by omega) (kb4 (by omega))) q1 _ 0 get_here) ?_)
   rintro _ n20 _ ⟨rfl, rfl⟩ hn20
   refine OA.app0 ?_
   refine oP 15 (.int .i64 (((0#32).toNat : Nat) : Int)) rfl (r_cvt rfl rfl rfl rfl rfl ⟨_, rfl⟩ (i64_eq (by have := (0#32).isLt; omega))) <| oP 16 (.agg ⟨[(W (w32 s 0)), (.int .i64 (((0#32).toNat : Nat) : Int)), (.int .i64 (((0#32).toNat : Nat) : Int)), (.string ByteArray.empty)]⟩) rfl (by kernel_rfl) <| o1 (some 5) (.pointer (some ⟨n20, 0, some 0⟩)) (n20 + 1) (n20, some ⟨[[(.int .u32 0), (.int .i64 0), (.int .i64 0), (.string ByteArray.empty)]], 4, 56, true⟩) rfl <| o1 none yU (n20 + 1) (n20, some ⟨[[(W (w32 s 0)), (.int .i64 (((0#32).toNat : Nat) : Int)), (.int .i64 (((0#32).toNat : Nat) : Int)), (.string ByteArray.empty)]], 4, 56, true⟩) (rS get_here) <| OA.nil fun _ => RA.sR hd env_ok <| OA.ps [(17, (.pointer (some ⟨q1, 0, some 0⟩)))] rfl ?_
   refine OA.call (dst := (some 18)) (all := [(.pointer (some ⟨q1, 0, some 0⟩))]) rfl rfl rfl rfl rfl rfl rfl rfl (CQ.imp (rRestD (hd.of (by omega) (kb6 (by omega))) q1 _ (gt2 (by omega) get_here)) ?_)
   rintro _ n21 _ ⟨rfl, rfl⟩ hn21
   refine OA.app0 ?_
   refine OA.ps [(19, (.pointer (some ⟨n20, 0, some 3⟩)))] rfl <| o1 none yU n21 (n20, some ⟨[[(W (w32 s 0)), (.int .i64 (((0#32).toNat : Nat) : Int)), (.int .i64 (((0#32).toNat : Nat) : Int)), (.string (ByteArray.mk #[]))]], 4, 56, true⟩) (rS get_here) <| OA.nil fun _ => RA.weaken hd (LsO (fA get_here get_here (fA (get_there (by omega) get_here) (gt3 (by omega) get_here) (fA (gt2 (by omega) get_here) (gt6 (by omega) get_here) fan)))) <| RA.seq hd <| RA.sR hd env_ok <| OA.ps [(20, (.pointer (some ⟨q1, 0, some 0⟩)))] rfl <| oC 21 (v := (.int .i64 2)) (hd.of (by omega) (kb3 (by omega))) rfl rfl (rErr q1 _ 2 (get_there (by omega) get_here)) fun n22 hn22 => oP 22 yT rfl (r_bin rfl rfl rfl (b_neq rfl)) <| OA.ps [(23, yT)] rfl <| OA.offs 24 3 rfl ?_
   refine OA.ps [(27, yT), (28, yT)] rfl <| OA.offs 29 5 rfl <| OA.ps [(34, yT), (35, yT)] rfl <| OA.offs 36 4 rfl <| OA.ps [(40, yT), (41, yT)] rfl <| OA.offs 42 10 rfl <| OA.ps [(52, yT), (53, yT)] rfl <| OA.offs 54 8 rfl <| OA.ps [(62, yT)] rfl <| OA.nil fun _ => RA.rb [(0, (.string s)), (2, (.pointer (some ⟨n, 0, some 0⟩))), (3, yF), (4, (.pointer (some ⟨q1, 0, some 0⟩))), (5, (.pointer (some ⟨n20, 0, some 0⟩))), (62, yT)] rfl (fun τr23 => ?_)
   refine RA.condT rfl <| RA.sR hd env_ok <| oP 63 (.agg ⟨[(.int .u32 0), (.int .i64 0), (.int .i64 0), (.string ByteArray.empty)]⟩) rfl (by kernel_rfl) <| o1 none yU n22 (n, some ⟨[[(.int .u32 0), (.int .i64 0), (.int .i64 0), (.string ByteArray.empty)]], 4, 56, true⟩) (rS (gt2 (by omega) get_here)) <| OA.ps [(3, yF)] rfl <| OA.nil fun _ => ?_
   refine RA.ret env_ok ?_
   refine ⟨.inr rfl, [(.agg ⟨[(.int .u32 0), (.int .i64 0), (.int .i64 0), (.string ByteArray.empty)]⟩), (.bool false)], (resL_cons (res_cellA rfl rfl rfl get_here rfl rfl rfl) (resL_cons rfl resL_nil)), [], (LsO fan), ⟨by rw [parse_n (by unfold pOk pAll pAt; omega)] <;> rfl, rfl⟩⟩
 ·
  refine OA.call (dst := (some 9)) (all := [(.pointer (some ⟨q1, 0, some 0⟩))]) rfl rfl rfl rfl rfl rfl rfl rfl (CQ.imp (rU32S (hd.of (by omega) (kb2 (by omega))) q1 s 0 (by omega) (by omega) get_here) ?_)
  rintro _ n24 _ ⟨rfl, rfl⟩ hn24
  refine OA.app1 ?_
  refine OA.ps [(10, (.pointer (some ⟨q1, 0, some 0⟩)))] rfl ?_
  refine OA.call (dst := (some 11)) (all := [(.pointer (some ⟨q1, 0, some 0⟩))]) rfl rfl rfl rfl rfl rfl rfl rfl (CQ.imp (rU32D (hd.of (by omega) (kb3 (by omega))) q1 _ 0 get_here) ?_)
  rintro _ n25 _ ⟨rfl, rfl⟩ hn25
  refine OA.app0 ?_
  refine oP 12 (.int .i64 (((0#32).toNat : Nat) : Int)) rfl (r_cvt rfl rfl rfl rfl rfl ⟨_, rfl⟩ (i64_eq (by have := (0#32).isLt; omega))) <| OA.ps [(13, (.pointer (some ⟨q1, 0, some 0⟩)))] rfl ?_
  refine OA.call (dst := (some 14)) (all := [(.pointer (some ⟨q1, 0, some 0⟩))]) rfl rfl rfl rfl rfl rfl rfl rfl (CQ.imp (rU32D (hd.of (by omega) (kb3 (by omega))) q1 _ 0 get_here) ?_)
  rintro _ n26 _ ⟨rfl, rfl⟩ hn26
  refine OA.app0 ?_
  refine oP 15 (.int .i64 (((0#32).toNat : Nat) : Int)) rfl (r_cvt rfl rfl rfl rfl rfl ⟨_, rfl⟩ (i64_eq (by have := (0#32).isLt; omega))) <| oP 16 (.agg ⟨[(W 0#32), (.int .i64 (((0#32).toNat : Nat) : Int)), (.int .i64 (((0#32).toNat : Nat) : Int)), (.string ByteArray.empty)]⟩) rfl (by kernel_rfl) <| o1 (some 5) (.pointer (some ⟨n26, 0, some 0⟩)) (n26 + 1) (n26, some ⟨[[(.int .u32 0), (.int .i64 0), (.int .i64 0), (.string ByteArray.empty)]], 4, 56, true⟩) rfl <| o1 none yU (n26 + 1) (n26, some ⟨[[(W 0#32), (.int .i64 (((0#32).toNat : Nat) : Int)), (.int .i64 (((0#32).toNat : Nat) : Int)), (.string ByteArray.empty)]], 4, 56, true⟩) (rS get_here) <| OA.nil fun _ => RA.sR hd env_ok <| OA.ps [(17, (.pointer (some ⟨q1, 0, some 0⟩)))] rfl ?_
  refine OA.call (dst := (some 18)) (all := [(.pointer (some ⟨q1, 0, some 0⟩))]) rfl rfl rfl rfl rfl rfl rfl rfl (CQ.imp (rRestD (hd.of (by omega) (kb5 (by omega))) q1 _ (gt2 (by omega) get_here)) ?_)
  rintro _ n27 _ ⟨rfl, rfl⟩ hn27
  refine OA.app0 ?_
  refine OA.ps [(19, (.pointer (some ⟨n26, 0, some 3⟩)))] rfl <| o1 none yU n27 (n26, some ⟨[[(W 0#32), (.int .i64 (((0#32).toNat : Nat) : Int)), (.int .i64 (((0#32).toNat : Nat) : Int)), (.string (ByteArray.mk #[]))]], 4, 56, true⟩) (rS get_here) <| OA.nil fun _ => RA.weaken hd (LsO (fA get_here get_here (fA (get_there (by omega) get_here) (gt3 (by omega) get_here) (fA (gt2 (by omega) get_here) (gt5 (by omega) get_here) fan)))) <| RA.seq hd <| RA.sR hd env_ok <| OA.ps [(20, (.pointer (some ⟨q1, 0, some 0⟩)))] rfl <| oC 21 (v := (.int .i64 2)) (hd.of (by omega) (kb3 (by omega))) rfl rfl (rErr q1 _ 2 (get_there (by omega) get_here)) fun n28 hn28 => oP 22 yT rfl (r_bin rfl rfl rfl (b_neq rfl)) <| OA.ps [(23, yT)] rfl <| OA.offs 24 3 rfl ?_
  refine OA.ps [(27, yT), (28, yT)] rfl <| OA.offs 29 5 rfl <| OA.ps [(34, yT), (35, yT)] rfl <| OA.offs 36 4 rfl <| OA.ps [(40, yT), (41, yT)] rfl <| OA.offs 42 10 rfl <| OA.ps [(52, yT), (53, yT)] rfl <| OA.offs 54 8 rfl <| OA.ps [(62, yT)] rfl <| OA.nil fun _ => RA.rb [(0, (.string s)), (2, (.pointer (some ⟨n, 0, some 0⟩))), (3, yF), (4, (.pointer (some ⟨q1, 0, some 0⟩))), (5, (.pointer (some ⟨n26, 0, some 0⟩))), (62, yT)] rfl (fun τr29 => ?_)
  refine RA.condT rfl <| RA.sR hd env_ok <| oP 63 (.agg ⟨[(.int .u32 0), (.int .i64 0), (.int .i64 0), (.string ByteArray.empty)]⟩) rfl (by kernel_rfl) <| o1 none yU n28 (n, some ⟨[[(.int .u32 0), (.int .i64 0), (.int .i64 0), (.string ByteArray.empty)]], 4, 56, true⟩) (rS (gt2 (by omega) get_here)) <| OA.ps [(3, yF)] rfl <| OA.nil fun _ => ?_
  refine RA.ret env_ok ?_
  refine ⟨.inr rfl, [(.agg ⟨[(.int .u32 0), (.int .i64 0), (.int .i64 0), (.string ByteArray.empty)]⟩), (.bool false)], (resL_cons (res_cellA rfl rfl rfl get_here rfl rfl rfl) (resL_cons rfl resL_nil)), [], (LsO fan), ⟨by rw [parse_n (by unfold pOk pAll pAt; omega)] <;> rfl, rfl⟩⟩
theorem sParseY {n : Nat} {σ : Store} (hd : Dom n σ) (s : ByteArray) (hs : s.size < 9223372036854775808) (hp : pOk s) : CQ Try.prog noDen 21 [.string s] n σ (fun v n' d => v = .tuple ⟨[pieceV s, .bool true]⟩ ∧ d = []) := by
  refine CQ.imp (sParse hd s hs) ?_
  rintro v n' d ⟨rfl, rfl⟩
  exact ⟨parse_y hp, rfl⟩
theorem sParseN {n : Nat} {σ : Store} (hd : Dom n σ) (s : ByteArray) (hs : s.size < 9223372036854775808) (hp : ¬ pOk s) : CQ Try.prog noDen 21 [.string s] n σ (fun v n' d => v = .tuple ⟨[(.agg ⟨[(.int .u32 0), (.int .i64 0), (.int .i64 0), (.string ByteArray.empty)]⟩), .bool false]⟩ ∧ d = []) := by
  refine CQ.imp (sParse hd s hs) ?_
  rintro v n' d ⟨rfl, rfl⟩
  exact ⟨parse_n hp, rfl⟩
theorem pOk_f {s : ByteArray} (h : pOk s) : 12 ≤ s.size ∧ pAll s ≤ 20000 ∧ pAt s ≤ pAll s ∧ pAt s % 500 = 0 ∧ (s.extract 12 s.size).size = min (pAll s - pAt s) 500 := by
  obtain ⟨h1, h2, h3, h4, h5, h6⟩ := h
  exact ⟨h1, h2, h3, h4, by rw [size_cut _ _ _ (Nat.le_refl _)]; exact h5⟩
end Go.Proofs.Ytdiofapingdlmaa.Vt
/- F2: walks through functions of the program, by the calculus; written by a program of this workplace. -/
namespace Go.Proofs.Ytdiofapingdlmaa.Vt
open Go Go.Proofs Go.Proofs.YtdiofapingdlmaaV
set_option maxRecDepth 100000
set_option linter.unusedVariables false
set_option linter.unusedSimpArgs false
set_option maxHeartbeats 8000000
theorem kAwake {σ : Store} : PS Try.prog noDen 12 [] σ (.bool true) := PS.closed2 env_ok rfl (L := []) trivial (F := 200) (k := 60) (by kernel_rfl) rfl rfl
end Go.Proofs.Ytdiofapingdlmaa.Vt
/- F3: walks through functions of the program, by the calculus; written by a program of this workplace. -/
namespace Go.Proofs.Ytdiofapingdlmaa.Vt
open Go Go.Proofs Go.Proofs.YtdiofapingdlmaaV
set_option maxRecDepth 100000
set_option linter.unusedVariables false
set_option linter.unusedSimpArgs false
set_option maxHeartbeats 8000000
theorem take_all' {α : Type} {l : List α} {k : Nat} (h : l.length = k) : (l.drop 0).take k = l := by subst h; simp
theorem bstr_L (d : ByteArray) : bstr (L d) = d := by
  unfold bstr
  cases d with
  | mk a => simp
theorem r_b2sL {E : Env} [hP : Plain E] {τ : Tm} {o : Oper} {n : Nat} {σ : Store} {t : Nat} {x : Operand} {ti ei : TI} {i : Nat} {s elem c : Nat} {si : TI} {d : ByteArray} {ty : Nat} (ho : o.op = .convert s t x) (hx : args1 τ x = some (.slice (some ⟨i, 0, none⟩) d.size c)) (hs : E.ty s = some si) (ht : E.ty t = some ti) (hsd : si.d = .slice elem) (htd : ti.d = .string) (he : E.ty elem = some ei) (hd : ei.d = .int .u8) {w : Bool} (hσ : σ i = some ⟨bc (L d), 1, ty, w⟩) : (aop E τ o).run n σ = some (.string d, n, []) := by
  have h := r_b2s (E := E) (n := n) (O := 0) ho hx hs ht hsd htd he hd hσ (by rw [L_len]; omega)
  rw [h, take_all' (L_len d), bstr_L]
theorem L_app (a b : ByteArray) : L (a ++ b) = L a ++ L b := by
  show (a ++ b).data.toList = _
  rw [ByteArray.data_append, Array.toList_append]
theorem r_appS2 {E : Env} [hP : Plain E] {τ : Tm} {o : Oper} {n : Nat} {σ : Store} {t u : Nat} {cl : Call} {r : List Nat} {ti ui ei : TI} {elem j : Nat} {d s : ByteArray} (ho : o.op = .call cl) (hc : cl.callee = .builtin .append) (hat : cl.argTypes.toList = t :: u :: r) (ha : evL τ cl.args.toList = some [.slice (some ⟨j, 0, none⟩) d.size 2, .string s]) (ht : E.ty t = some ti) (hu : E.ty u = some ui) (hd : ti.d = .slice elem) (hud : ui.d = .string) (he : E.ty elem = some ei) (hsz : ei.size = 1) (hj : σ j = some ⟨bc (L d), 1, elem, true⟩) (hs : d.size + s.size ≤ 1073741824) (hb : ei.bytes ≤ 65536) :
    (aop E τ o).run n σ = some (.slice (some ⟨n, 0, none⟩) (d ++ s).size 2, n + 1, [(n, some ⟨bc (L (d ++ s)), 1, elem, true⟩), (j, none)]) := by
  rw [aop_plain]
  unfold aop0
  simp only [ho, hc, ha, hat, abuiltin, ht, hu, hd, hud, he, hsz]
  rw [if_neg (by omega)]
  unfold Go.Proofs.YtdiofapingdlmaaV.seen
  simp only [if_true]
  unfold aappend
  simp only
  rw [if_pos (by decide)]
  unfold aappend23
  rw [if_neg (by decide), if_pos rfl]
  have e2 : (s.data.toList.map fun b => [Value.int .u8 b.toNat]) = bc (L s) := rfl
  rw [e2]
  have hl1 : ((bc (L d)).drop 0).take d.size = bc (L d) := take_all' (by rw [bc_len, L_len])
  have hl2 : (bc (L s)).length = s.size := by rw [bc_len, L_len]
  have hl3 : (bc (L d)).length = d.size := by rw [bc_len, L_len]
  refine run_get hj ?_
  rw [if_pos ⟨hsz.symm, by rw [hl1, hl3], rfl, by rw [hl2]; simp [small, hs, hb], by omega, rfl⟩, hl1]
  have e1 : bc (L d) ++ bc (L s) = bc (L (d ++ s)) := by rw [L_app]; simp [bc]
  simp only [newRow2T, T.run, e1, hsz]
  rw [bc_len, L_len]
theorem ba_app (s : ByteArray) : ByteArray.mk #[] ++ s = s := by
  apply L_ext
  rw [L_app]; rfl
theorem mk0_size : (ByteArray.mk #[]).size = 0 := rfl
theorem sWholeA {n : Nat} {σ : Store} (hd : Dom n σ) (p j : Nat) (i : BitVec 32) (a k : Nat) (s : ByteArray) (ha : a ≤ 20000) (hs : s.size ≤ 500) (hlt : s.size < a) (hp : σ p = some ⟨[[(W i), (.int .i64 ((a : Nat) : Int)), (.map (some j))]], 3, 64, true⟩) (hj : σ j = some (mobj (.map [(k, s)])))  : CQ Try.prog noDen 24 [(.pointer (some ⟨p, 0, some 0⟩))] n σ (fun v n' d => v = (.tuple ⟨[(.agg ⟨[(.int .u32 0), (.string ByteArray.empty)]⟩), (.bool false)]⟩) ∧ d = []) := by
 have lhp := hd.lt hp
 have lhj := hd.lt hj
 refine CQ.body (E := env) env_ok hd rfl rfl (by show _ ≤ _; exact of_decide_eq_true (by kernel_rfl)) ?_
 refine RA.sR hd env_ok <| o1 (some 2) (.pointer (some ⟨n, 0, some 0⟩)) (n + 1) (n, some ⟨[[(.int .u32 0), (.string ByteArray.empty)]], 2, 26, true⟩) rfl <| OA.ps [(3, yF)] rfl <| OA.nil fun _ => RA.sR hd env_ok <| OA.ps [(4, (.int .i64 0))] rfl <| OA.nil fun _ => RA.seq hd <| RA.sR hd env_ok <| OA.ps [(12, (.pointer (some ⟨p, 0, some 0⟩))), (13, (.pointer (some ⟨p, 0, some 0⟩))), (14, (.pointer (some ⟨p, 0, some 2⟩)))] rfl <| oL 15 (.map (some j)) (get_there (by omega) hp) ?_
 refine o1 (some 16) (.pointer (some ⟨(n + 1), 0, none⟩)) (n + 2) ((n + 1), some (mobj (.it j [] 1))) (r_range (i := j) (l := [(k, s)]) rfl rfl rfl (get_there (by omega) hj)) <| OA.nil fun _ => RA.block ?_
 refine RA.unroll hd ?_
 refine RA.sR hd env_ok <| o1 (some 17) (.tuple ⟨[yT, (.int .i64 ((k : Nat) : Int)), (.string s)]⟩) (n + 2) ((n + 1), some (mobj (.it j [0] 1))) (r_next1 (i := (n + 1)) (l := [(k, s)]) rfl rfl get_here (gt2 (by omega) hj) rfl) <| OA.ps [(18, yT)] rfl <| OA.nil fun _ => RA.seq hd <| RA.condT rfl <| RA.skip env_ok ?_
 intro _
 refine RA.block <| RA.sR hd env_ok <| oP 19 (.tuple ⟨[(.int .i64 ((k : Nat) : Int)), (.string s)]⟩) rfl (r_entry (i := (n + 1)) (l := [(k, s)]) rfl rfl get_here (gt3 (by omega) hj) rfl rfl) <| OA.ps [(20, (.string s)), (6, (.string s))] rfl <| OA.nil fun _ => RA.region env_ok <| OA.ps [(21, (.int .i64 0)), (22, (.string s)), (23, (.int .i64 ((s.size : Nat) : Int)))] rfl <| oP 24 (.int .i64 (((0 + s.size) : Nat) : Int)) rfl (r_bin rfl rfl rfl (b_add (i64_eq (by omega)))) <| OA.ps [(4, (.int .i64 (((0 + s.size) : Nat) : Int)))] rfl <| OA.nil fun _ => ?_
 refine RA.unroll hd ?_
 refine RA.sR hd env_ok <| oP 17 (.tuple ⟨[yF]⟩) rfl (r_next0 (i := (n + 1)) (l := [(k, s)]) rfl rfl get_here (gt3 (by omega) hj) rfl) <| OA.ps [(18, yF)] rfl <| OA.nil fun _ => RA.seq hd <| RA.condF rfl ?_
 refine RA.exit env_ok ?_
 intro _
 refine RA.seq hd <| RA.sR hd env_ok <| OA.ps [(25, (.int .i64 (((0 + s.size) : Nat) : Int))), (26, (.pointer (some ⟨p, 0, some 0⟩))), (27, (.pointer (some ⟨p, 0, some 0⟩))), (28, (.pointer (some ⟨p, 0, some 1⟩)))] rfl <| oL 29 (.int .i64 ((a : Nat) : Int)) (gt3 (by omega) hp) ?_
 have hc1 : (((0 + s.size) : Nat) : Int) < ((a : Nat) : Int) := Classical.byContradiction (fun hdd => by exfalso; omega)
 refine oP 30 yT rfl (Eq.trans (r_bin rfl rfl rfl (b_lss rfl)) (dT hc1)) <| OA.nil fun _ => RA.rb [(0, (.pointer (some ⟨p, 0, some 0⟩))), (2, (.pointer (some ⟨n, 0, some 0⟩))), (3, yF), (4, (.int .i64 (((0 + s.size) : Nat) : Int))), (6, (.string s)), (18, yF), (30, yT)] rfl (fun τr1 => ?_)
 refine RA.condT rfl <| RA.sR hd env_ok <| oP 31 (.agg ⟨[(.int .u32 0), (.string ByteArray.empty)]⟩) rfl (by kernel_rfl) <| o1 none yU (n + 2) (n, some ⟨[[(.int .u32 0), (.string ByteArray.empty)]], 2, 26, true⟩) (rS (gt2 (by omega) get_here)) <| OA.ps [(3, yF)] rfl <| OA.nil fun _ => ?_
 refine RA.ret env_ok ?_
 refine ⟨.inr rfl, [(.agg ⟨[(.int .u32 0), (.string ByteArray.empty)]⟩), (.bool false)], (resL_cons (res_cellA rfl rfl rfl get_here rfl rfl rfl) (resL_cons rfl resL_nil)), [], (LsO fan), ⟨rfl, rfl⟩⟩
theorem sWholeB {n : Nat} {σ : Store} (hd : Dom n σ) (p j : Nat) (i : BitVec 32) (a k : Nat) (s : ByteArray) (ha : a ≤ 20000) (hs : s.size ≤ 500) (hk : k = 0) (hge : s.size = a) (ha5 : a ≤ 500) (hp : σ p = some ⟨[[(W i), (.int .i64 ((a : Nat) : Int)), (.map (some j))]], 3, 64, true⟩) (hj : σ j = some (mobj (.map [(k, s)])))  : CQ Try.prog noDen 24 [(.pointer (some ⟨p, 0, some 0⟩))] n σ (fun v n' d => v = (.tuple ⟨[(.agg ⟨[(W i), (.string s)]⟩), (.bool true)]⟩) ∧ d = []) := by
 have lhp := hd.lt hp
 have lhj := hd.lt hj
 refine CQ.body (E := env) env_ok hd rfl rfl (by show _ ≤ _; exact of_decide_eq_true (by kernel_rfl)) ?_
 refine RA.sR hd env_ok <| o1 (some 2) (.pointer (some ⟨n, 0, some 0⟩)) (n + 1) (n, some ⟨[[(.int .u32 0), (.string ByteArray.empty)]], 2, 26, true⟩) rfl <| OA.ps [(3, yF)] rfl <| OA.nil fun _ => RA.sR hd env_ok <| OA.ps [(4, (.int .i64 0))] rfl <| OA.nil fun _ => RA.seq hd <| RA.sR hd env_ok <| OA.ps [(12, (.pointer (some ⟨p, 0, some 0⟩))), (13, (.pointer (some ⟨p, 0, some 0⟩))), (14, (.pointer (some ⟨p, 0, some 2⟩)))] rfl <| oL 15 (.map (some j)) (get_there (by omega) hp) ?_
 refine o1 (some 16) (.pointer (some ⟨(n + 1), 0, none⟩)) (n + 2) ((n + 1), some (mobj (.it j [] 1))) (r_range (i := j) (l := [(k, s)]) rfl rfl rfl (get_there (by omega) hj)) <| OA.nil fun _ => RA.block ?_
 refine RA.unroll hd ?_
 refine RA.sR hd env_ok <| o1 (some 17) (.tuple ⟨[yT, (.int .i64 ((k : Nat) : Int)), (.string s)]⟩) (n + 2) ((n + 1), some (mobj (.it j [0] 1))) (r_next1 (i := (n + 1)) (l := [(k, s)]) rfl rfl get_here (gt2 (by omega) hj) rfl) <| OA.ps [(18, yT)] rfl <| OA.nil fun _ => RA.seq hd <| RA.condT rfl <| RA.skip env_ok ?_
 intro _
 refine RA.block <| RA.sR hd env_ok <| oP 19 (.tuple ⟨[(.int .i64 ((k : Nat) : Int)), (.string s)]⟩) rfl (r_entry (i := (n + 1)) (l := [(k, s)]) rfl rfl get_here (gt3 (by omega) hj) rfl rfl) <| OA.ps [(20, (.string s)), (6, (.string s))] rfl <| OA.nil fun _ => RA.region env_ok <| OA.ps [(21, (.int .i64 0)), (22, (.string s)), (23, (.int .i64 ((s.size : Nat) : Int)))] rfl <| oP 24 (.int .i64 (((0 + s.size) : Nat) : Int)) rfl (r_bin rfl rfl rfl (b_add (i64_eq (by omega)))) <| OA.ps [(4, (.int .i64 (((0 + s.size) : Nat) : Int)))] rfl <| OA.nil fun _ => ?_
 refine RA.unroll hd ?_
 refine RA.sR hd env_ok <| oP 17 (.tuple ⟨[yF]⟩) rfl (r_next0 (i := (n + 1)) (l := [(k, s)]) rfl rfl get_here (gt3 (by omega) hj) rfl) <| OA.ps [(18, yF)] rfl <| OA.nil fun _ => RA.seq hd <| RA.condF rfl ?_
 refine RA.exit env_ok ?_
 intro _
 refine RA.seq hd <| RA.sR hd env_ok <| OA.ps [(25, (.int .i64 (((0 + s.size) : Nat) : Int))), (26, (.pointer (some ⟨p, 0, some 0⟩))), (27, (.pointer (some ⟨p, 0, some 0⟩))), (28, (.pointer (some ⟨p, 0, some 1⟩)))] rfl <| oL 29 (.int .i64 ((a : Nat) : Int)) (gt3 (by omega) hp) ?_
 have hc1 : ¬ ((((0 + s.size) : Nat) : Int) < ((a : Nat) : Int)) := fun hdd => by exfalso; omega
 refine oP 30 yF rfl (Eq.trans (r_bin rfl rfl rfl (b_lss rfl)) (dF hc1)) <| OA.nil fun _ => RA.rb [(0, (.pointer (some ⟨p, 0, some 0⟩))), (2, (.pointer (some ⟨n, 0, some 0⟩))), (3, yF), (4, (.int .i64 (((0 + s.size) : Nat) : Int))), (6, (.string s)), (18, yF), (30, yF)] rfl (fun τr1 => ?_)
 refine RA.condF rfl <| RA.skip env_ok ?_
 intro _
 refine RA.sR hd env_ok <| OA.ps [(32, (.pointer (some ⟨p, 0, some 0⟩))), (33, (.pointer (some ⟨p, 0, some 0⟩))), (34, (.pointer (some ⟨p, 0, some 0⟩)))] rfl <| oL 35 (W i) (gt3 (by omega) hp) <| oP 36 (.agg ⟨[(W i), (.string ByteArray.empty)]⟩) rfl (by kernel_rfl) <| o1 (some 7) (.pointer (some ⟨(n + 2), 0, some 0⟩)) (n + 3) ((n + 2), some ⟨[[(.int .u32 0), (.string ByteArray.empty)]], 2, 26, true⟩) rfl <| o1 none yU (n + 3) ((n + 2), some ⟨[[(W i), (.string ByteArray.empty)]], 2, 26, true⟩) (rS get_here) <| OA.nil fun _ => RA.sR hd env_ok <| OA.ps [(8, (.slice none 0 0))] rfl <| OA.nil fun _ => ?_
 have hz0 := mk0_size
 refine RA.ph (sz := 1) (t := 5) (by decide) ?_
 show RA _ _ _ _ _ _ _ _ [((n + 3), some ⟨(bc (L (ByteArray.mk #[]))), 1, 5, true⟩), ((n + 2), some ⟨[[(W i), (.string ByteArray.empty)]], 2, 26, true⟩), ((n + 2), some ⟨[[(.int .u32 0), (.string ByteArray.empty)]], 2, 26, true⟩), ((n + 1), some (mobj (.it j [0] 1))), ((n + 1), some (mobj (.it j [] 1))), (n, some ⟨[[(.int .u32 0), (.string ByteArray.empty)]], 2, 26, true⟩)] _
 refine RA.leT (t := 8) (v := (.slice none 0 0)) (v' := (.slice (some ⟨(n + 3), 0, none⟩) (ByteArray.mk #[]).size 2)) rfl (vle_nil _ _) ?_
 refine RA.seq hd <| RA.sR hd env_ok <| OA.ps [(9, (.int .i64 0))] rfl <| OA.nil fun _ => RA.block ?_
 refine RA.unroll hd ?_
 refine RA.seq hd <| RA.sR hd env_ok <| OA.ps [(37, (.int .i64 0)), (38, (.pointer (some ⟨p, 0, some 0⟩))), (39, (.pointer (some ⟨p, 0, some 0⟩))), (40, (.pointer (some ⟨p, 0, some 1⟩)))] rfl <| oL 41 (.int .i64 ((a : Nat) : Int)) (gt6 (by omega) hp) <| oP 42 (.int .i64 (((max a 1) : Nat) : Int)) rfl (r_max (a := a) (b := 1) rfl rfl rfl) ?_
 have hc2 : 0 < (((max a 1) : Nat) : Int) := Classical.byContradiction (fun hdd => by exfalso; omega)
 refine oP 43 yT rfl (Eq.trans (r_bin rfl rfl rfl (b_lss rfl)) (dT hc2)) <| OA.nil fun _ => RA.condT rfl <| RA.skip env_ok ?_
 intro _
 refine RA.seq hd <| RA.block <| RA.sR hd env_ok <| OA.ps [(47, (.pointer (some ⟨p, 0, some 0⟩))), (48, (.pointer (some ⟨p, 0, some 0⟩))), (49, (.pointer (some ⟨p, 0, some 2⟩)))] rfl <| oL 50 (.map (some j)) (gt6 (by omega) hp) <| OA.ps [(51, (.int .i64 0))] rfl <| oP 52 (.tuple ⟨[(.string s), yT]⟩) rfl (r_mapget (i := j) (l := [(k, s)]) rfl rfl rfl rfl (gt6 (by omega) hj) (by rw [hk]; rfl)) <| OA.ps [(46, (.tuple ⟨[(.string s), yT]⟩)), (53, (.string s)), (54, yT), (10, (.string s)), (11, yT)] rfl <| OA.nil fun _ => RA.rb [(0, (.pointer (some ⟨p, 0, some 0⟩))), (2, (.pointer (some ⟨n, 0, some 0⟩))), (3, yF), (4, (.int .i64 (((0 + s.size) : Nat) : Int))), (6, (.string s)), (7, (.pointer (some ⟨(n + 2), 0, some 0⟩))), (8, (.slice (some ⟨(n + 3), 0, none⟩) (ByteArray.mk #[]).size 2)), (9, (.int .i64 0)), (10, (.string s)), (11, yT), (18, yF), (30, yF), (43, yT)] rfl (fun τr2 => ?_)
 refine RA.seq hd <| RA.sR hd env_ok <| OA.ps [(55, yT), (56, yF)] rfl <| OA.nil fun _ => RA.condF rfl <| RA.skip env_ok ?_
 intro _
 refine RA.region env_ok <| OA.ps [(58, (.slice (some ⟨(n + 3), 0, none⟩) (ByteArray.mk #[]).size 2)), (59, (.string s))] rfl <| OA.op (dst := (some 60)) (v := (.slice (some ⟨(n + 4), 0, none⟩) ((ByteArray.mk #[]) ++ s).size 2)) (n1 := (n + 5)) (d1 := [((n + 4), some ⟨(bc (L ((ByteArray.mk #[]) ++ s))), 1, 5, true⟩), ((n + 3), none)]) (D' := [((n + 4), some ⟨(bc (L ((ByteArray.mk #[]) ++ s))), 1, 5, true⟩), ((n + 3), none), ((n + 3), some ⟨(bc (L (ByteArray.mk #[]))), 1, 5, true⟩), ((n + 2), some ⟨[[(W i), (.string ByteArray.empty)]], 2, 26, true⟩), ((n + 2), some ⟨[[(.int .u32 0), (.string ByteArray.empty)]], 2, 26, true⟩), ((n + 1), some (mobj (.it j [0] 1))), ((n + 1), some (mobj (.it j [] 1))), (n, some ⟨[[(.int .u32 0), (.string ByteArray.empty)]], 2, 26, true⟩)]) rfl rfl rfl (r_appS2 (d := (ByteArray.mk #[])) (s := s) rfl rfl rfl rfl rfl rfl rfl rfl rfl rfl get_here (by omega) (of_decide_eq_true (by kernel_rfl))) (by omega) rfl <| OA.ps [(8, (.slice (some ⟨(n + 4), 0, none⟩) ((ByteArray.mk #[]) ++ s).size 2))] rfl <| OA.nil fun _ => RA.region env_ok <| OA.ps [(44, (.int .i64 0))] rfl <| oP 45 (.int .i64 500) rfl (r_bin rfl rfl rfl (b_add (i64_eq (by omega)))) <| OA.ps [(9, (.int .i64 500))] rfl <| OA.nil fun _ => ?_
 refine RA.unroll hd ?_
 refine RA.seq hd <| RA.sR hd env_ok <| OA.ps [(37, (.int .i64 500)), (38, (.pointer (some ⟨p, 0, some 0⟩))), (39, (.pointer (some ⟨p, 0, some 0⟩))), (40, (.pointer (some ⟨p, 0, some 1⟩)))] rfl <| oL 41 (.int .i64 ((a : Nat) : Int)) (gt8 (by omega) hp) <| oP 42 (.int .i64 (((max a 1) : Nat) : Int)) rfl (r_max (a := a) (b := 1) rfl rfl rfl) ?_
 have hc3 : ¬ (500 < (((max a 1) : Nat) : Int)) := fun hdd => by exfalso; omega
 refine oP 43 yF rfl (Eq.trans (r_bin rfl rfl rfl (b_lss rfl)) (dF hc3)) <| OA.nil fun _ => RA.condF rfl ?_
 refine RA.exit env_ok ?_
 intro _
 refine RA.sR hd env_ok <| OA.ps [(61, (.slice (some ⟨(n + 4), 0, none⟩) ((ByteArray.mk #[]) ++ s).size 2))] rfl <| oP 62 (.string ((ByteArray.mk #[]) ++ s)) rfl (r_b2sL (d := ((ByteArray.mk #[]) ++ s)) rfl rfl rfl rfl rfl rfl rfl rfl get_here) <| OA.ps [(63, (.pointer (some ⟨(n + 2), 0, some 1⟩)))] rfl <| o1 none yU (n + 5) ((n + 2), some ⟨[[(W i), (.string ((ByteArray.mk #[]) ++ s))]], 2, 26, true⟩) (rS (gt3 (by omega) get_here)) <| OA.nil fun _ => RA.sR hd env_ok <| oP 64 (.agg ⟨[(W i), (.string ((ByteArray.mk #[]) ++ s))]⟩) rfl (r_loadA rfl rfl rfl rfl get_here rfl rfl rfl) <| o1 none yU (n + 5) (n, some ⟨[[(W i), (.string ((ByteArray.mk #[]) ++ s))]], 2, 26, true⟩) (rS (gt8 (by omega) get_here)) <| OA.ps [(3, yT)] rfl <| OA.nil fun _ => ?_
 refine RA.ret env_ok ?_
 refine ⟨.inr rfl, [(.agg ⟨[(W i), (.string ((ByteArray.mk #[]) ++ s))]⟩), (.bool true)], (resL_cons (res_cellA rfl rfl rfl get_here rfl rfl rfl) (resL_cons rfl resL_nil)), [], (LsO fan), ⟨by rw [ba_app] <;> rfl, rfl⟩⟩
end Go.Proofs.Ytdiofapingdlmaa.Vt
/- F4: walks through functions of the program, by the calculus; written by a program of this workplace. -/
namespace Go.Proofs.Ytdiofapingdlmaa.Vt
open Go Go.Proofs Go.Proofs.YtdiofapingdlmaaV
set_option maxRecDepth 100000
set_option linter.unusedVariables false
set_option linter.unusedSimpArgs false
set_option maxHeartbeats 8000000
structure Pq where
  pv : Value
def dPq : Pq := ⟨.pointer none⟩
abbrev cPq (e : Pq) : List Value := [e.pv]
abbrev oPq (l : List Pq) : AObj := ⟨l.map cPq, 1, 60, true⟩
theorem cDelP0 {n : Nat} {σ : Store} (hd : Dom n σ) (j N i : Nat) (l : List Pq) (hl : l.length = N) (hi : i < N) (hN : N ≤ 1000000) (hj : σ j = some (oPq l))  : CQ Try.prog noDen 25 [(.slice (some ⟨j, 0, none⟩) N 0), (.int .i64 ((i : Nat) : Int)), (.int .i64 (((i + 1) : Nat) : Int))] n σ (fun v n' d => ∃ LL : List Pq, v = .slice (some ⟨j, 0, none⟩) (N - 1) 0 ∧ LL.take (N - 1) = l.eraseIdx i ∧ d = [(j, some (oPq LL))]) := by
 have lhj := hd.lt hj
 refine CQ.body (E := env) env_ok hd rfl rfl (by show _ ≤ _; exact of_decide_eq_true (by kernel_rfl)) ?_
 refine RA.sR hd env_ok <| OA.ps [(6, (.slice none 0 0))] rfl <| OA.nil fun _ => RA.sR hd env_ok <| OA.ps [(8, (.slice (some ⟨j, 0, none⟩) N 0)), (9, (.int .i64 ((i : Nat) : Int))), (10, (.int .i64 (((i + 1) : Nat) : Int))), (11, (.slice (some ⟨j, 0, none⟩) N 0)), (12, (.int .i64 ((N : Nat) : Int)))] rfl ?_
 by_cases hc1 : i + 1 = N
 ·
  refine oP 13 (.slice (some ⟨j, i, none⟩) 1 1) rfl (r_cut3e (a := i) (b := (i + 1)) (m := N) rfl rfl rfl rfl rfl rfl rfl rfl hj rfl (by omega) (by rw [List.length_map, hl]; omega) (by omega) (by omega)) <| OA.nil fun _ => RA.seq hd <| RA.sR hd env_ok <| OA.ps [(14, (.int .i64 ((i : Nat) : Int))), (15, (.int .i64 (((i + 1) : Nat) : Int)))] rfl ?_
  have hc2 : ¬ (((i : Nat) : Int) = (((i + 1) : Nat) : Int)) := fun hdd => by exfalso; omega
  refine oP 16 yF rfl (Eq.trans (r_bin rfl rfl rfl (b_eql rfl)) (dF hc2)) <| OA.nil fun _ => RA.condF rfl <| RA.skip env_ok ?_
  intro _
  refine RA.sR hd env_ok <| OA.ps [(18, (.slice (some ⟨j, 0, none⟩) N 0)), (19, (.int .i64 ((N : Nat) : Int))), (7, (.int .i64 ((N : Nat) : Int)))] rfl <| OA.nil fun _ => RA.seq hd <| RA.par (md := [some [], some [], some [j], some [], some [], some [j], none, some []]) env_ok (hd.up (by omega)) (by kernel_rfl) <| PQ.ps [(20, (.slice (some ⟨j, 0, none⟩) N 0)), (21, (.int .i64 ((i : Nat) : Int)))] rfl <| pQL 22 (.slice (some ⟨j, 0, none⟩) i 0) (V := []) rfl (by kernel_rfl) (by kernel_rfl) hj (r_cutG (a := 0) (b := i) rfl rfl (fun _ => rfl) (fun _ => rfl) rfl rfl rfl rfl (bound_int (by omega)) get_here rfl (by omega) (by rw [List.length_map, hl]; omega) (by omega) (by omega)) <| PQ.ps [(23, (.slice (some ⟨j, 0, none⟩) N 0)), (24, (.int .i64 (((i + 1) : Nat) : Int)))] rfl <| pQL 25 (.slice (some ⟨j, (i + 1), none⟩) (N - (i + 1)) 0) (V := []) rfl (by kernel_rfl) (by kernel_rfl) hj (r_cutG (a := (i + 1)) (b := N) rfl rfl (fun _ => rfl) (fun _ => rfl) rfl rfl rfl (bound_int (by omega)) rfl get_here rfl (by omega) (by rw [List.length_map, hl]; omega) (by omega) (by omega)) <| PQ.pure (dst := (some 26)) (v := (.slice (some ⟨j, 0, none⟩) i 0)) rfl rfl rfl _ (sA (V := []) (by kernel_rfl) (by kernel_rfl)) (r_appendZ rfl rfl rfl rfl (.inl ⟨_, _, _, rfl, by decide⟩) rfl rfl rfl rfl rfl (by decide) (by omega)) <| PQ.ps [(0, (.slice (some ⟨j, 0, none⟩) i 0))] rfl ?_
  refine PQ.done (d := []) (by kernel_rfl) fun _ => RA.sR hd env_ok <| OA.ps [(27, (.slice (some ⟨j, 0, none⟩) i 0)), (28, (.slice (some ⟨j, 0, none⟩) i 0)), (29, (.int .i64 ((i : Nat) : Int))), (30, (.int .i64 ((N : Nat) : Int)))] rfl <| oP 31 (.slice (some ⟨j, i, none⟩) 1 0) rfl (r_cutG (a := i) (b := N) rfl rfl (fun _ => rfl) (fun _ => rfl) rfl rfl rfl (bound_int (by omega)) (bound_int (by omega)) hj rfl (by omega) (by rw [List.length_map, hl]; omega) (by omega) (by omega)) <| o1 none yU n (j, some (oPq (l.take i ++ List.replicate 1 dPq ++ l.drop (i + 1)))) (r_clearR (c := cPq) (z := dPq) (l' := (l.take i ++ List.replicate 1 dPq ++ l.drop (i + 1))) rfl rfl rfl rfl rfl rfl rfl rfl rfl hj (by omega) (by rw [hl]; omega) rfl) <| OA.nil fun _ => RA.rb [(0, (.slice (some ⟨j, 0, none⟩) i 0)), (1, (.int .i64 ((i : Nat) : Int))), (2, (.int .i64 (((i + 1) : Nat) : Int))), (6, (.slice none 0 0)), (7, (.int .i64 ((N : Nat) : Int))), (16, yF)] rfl (fun τr1 => ?_)
  refine RA.sR hd env_ok <| OA.ps [(32, (.slice (some ⟨j, 0, none⟩) i 0)), (6, (.slice (some ⟨j, 0, none⟩) i 0))] rfl <| OA.nil fun _ => ?_
  refine RA.ret env_ok ?_
  refine ⟨.inr rfl, [(.slice (some ⟨j, 0, none⟩) i 0)], (resL_cons rfl resL_nil), [(j, some (oPq (l.take i ++ List.replicate 1 dPq ++ l.drop (i + 1))))], (Less.refl _ _ _), ⟨(l.take i ++ List.replicate 1 dPq ++ l.drop (i + 1)), congrArg (fun z => Value.slice (some ⟨j, 0, none⟩) z 0) (by omega), del_last hl (by omega), rfl⟩⟩
 ·
  refine OA.op (dst := (some 13)) (v := (.slice (some ⟨n, 0, none⟩) 1 0)) (n1 := (n + 1)) (d1 := []) (D' := []) rfl rfl rfl (r_cut3 (a := i) (b := (i + 1)) (m := N) rfl rfl rfl rfl rfl rfl rfl rfl (by omega) (by omega)) (by omega) rfl <| OA.nil fun _ => RA.seq hd <| RA.sR hd env_ok <| OA.ps [(14, (.int .i64 ((i : Nat) : Int))), (15, (.int .i64 (((i + 1) : Nat) : Int)))] rfl ?_
  have hc3 : ¬ (((i : Nat) : Int) = (((i + 1) : Nat) : Int)) := fun hdd => by exfalso; omega
  refine oP 16 yF rfl (Eq.trans (r_bin rfl rfl rfl (b_eql rfl)) (dF hc3)) <| OA.nil fun _ => RA.condF rfl <| RA.skip env_ok ?_
  intro _
  refine RA.sR hd env_ok <| OA.ps [(18, (.slice (some ⟨j, 0, none⟩) N 0)), (19, (.int .i64 ((N : Nat) : Int))), (7, (.int .i64 ((N : Nat) : Int)))] rfl <| OA.nil fun _ => RA.seq hd <| RA.par (md := [some [], some [], some [j], some [], some [], some [j], none, some []]) env_ok (hd.up (by omega)) (by kernel_rfl) <| PQ.ps [(20, (.slice (some ⟨j, 0, none⟩) N 0)), (21, (.int .i64 ((i : Nat) : Int)))] rfl <| pQL 22 (.slice (some ⟨j, 0, none⟩) i 0) (V := []) rfl (by kernel_rfl) (by kernel_rfl) hj (r_cutG (a := 0) (b := i) rfl rfl (fun _ => rfl) (fun _ => rfl) rfl rfl rfl rfl (bound_int (by omega)) get_here rfl (by omega) (by rw [List.length_map, hl]; omega) (by omega) (by omega)) <| PQ.ps [(23, (.slice (some ⟨j, 0, none⟩) N 0)), (24, (.int .i64 (((i + 1) : Nat) : Int)))] rfl <| pQL 25 (.slice (some ⟨j, (i + 1), none⟩) (N - (i + 1)) 0) (V := []) rfl (by kernel_rfl) (by kernel_rfl) hj (r_cutG (a := (i + 1)) (b := N) rfl rfl (fun _ => rfl) (fun _ => rfl) rfl rfl rfl (bound_int (by omega)) rfl get_here rfl (by omega) (by rw [List.length_map, hl]; omega) (by omega) (by omega)) <| PQ.op (dst := (some 26)) (v := (.slice (some ⟨j, 0, none⟩) (N - 1) 0)) (n1 := (n + 1)) (d1 := [(j, some (oPq (l.take i ++ (l.drop (i + 1)).take (N - (i + 1)) ++ l.drop (i + (N - (i + 1))))))]) rfl rfl rfl _ (sA (V := []) (by kernel_rfl) (by kernel_rfl)) (r_appendIn (c := cPq) (l' := (l.take i ++ (l.drop (i + 1)).take (N - (i + 1)) ++ l.drop (i + (N - (i + 1))))) rfl rfl rfl rfl rfl rfl rfl rfl rfl rfl (by decide) hj (by omega) (by rw [hl]; omega) (by rw [hl]; omega) rfl (by omega) (of_decide_eq_true (by kernel_rfl)) (by omega)) (by omega) (kp1 (wr_tight (by kernel_rfl) (by omega))) <| PQ.ps [(0, (.slice (some ⟨j, 0, none⟩) (N - 1) 0))] rfl ?_
  refine PQ.done (d := [(j, some (oPq (l.take i ++ (l.drop (i + 1)).take (N - (i + 1)) ++ l.drop (i + (N - (i + 1))))))]) (by kernel_rfl) fun _ => RA.sR hd env_ok <| OA.ps [(27, (.slice (some ⟨j, 0, none⟩) (N - 1) 0)), (28, (.slice (some ⟨j, 0, none⟩) (N - 1) 0)), (29, (.int .i64 (((N - 1) : Nat) : Int))), (30, (.int .i64 ((N : Nat) : Int)))] rfl <| oP 31 (.slice (some ⟨j, (N - 1), none⟩) 1 0) rfl (r_cutG (a := (N - 1)) (b := N) rfl rfl (fun _ => rfl) (fun _ => rfl) rfl rfl rfl (bound_int (by omega)) (bound_int (by omega)) get_here rfl (by omega) (by rw [List.length_map, show (l.take i ++ (l.drop (i + 1)).take (N - (i + 1)) ++ l.drop (i + (N - (i + 1)))).length = N from by simp only [List.length_append, List.length_take, List.length_drop, hl]; omega]; omega) (by omega) (by omega)) <| o1 none yU (n + 1) (j, some (oPq ((l.take i ++ (l.drop (i + 1)).take (N - (i + 1)) ++ l.drop (i + (N - (i + 1)))).take (N - 1) ++ List.replicate 1 dPq ++ (l.take i ++ (l.drop (i + 1)).take (N - (i + 1)) ++ l.drop (i + (N - (i + 1)))).drop ((N - 1) + 1)))) (r_clearR (c := cPq) (z := dPq) (l' := ((l.take i ++ (l.drop (i + 1)).take (N - (i + 1)) ++ l.drop (i + (N - (i + 1)))).take (N - 1) ++ List.replicate 1 dPq ++ (l.take i ++ (l.drop (i + 1)).take (N - (i + 1)) ++ l.drop (i + (N - (i + 1)))).drop ((N - 1) + 1))) rfl rfl rfl rfl rfl rfl rfl rfl rfl get_here (by omega) (by have hlo := (show (l.take i ++ (l.drop (i + 1)).take (N - (i + 1)) ++ l.drop (i + (N - (i + 1)))).length = N from by simp only [List.length_append, List.length_take, List.length_drop, hl]; omega); omega) rfl) <| OA.nil fun _ => RA.rb [(0, (.slice (some ⟨j, 0, none⟩) (N - 1) 0)), (1, (.int .i64 ((i : Nat) : Int))), (2, (.int .i64 (((i + 1) : Nat) : Int))), (6, (.slice none 0 0)), (7, (.int .i64 ((N : Nat) : Int))), (16, yF)] rfl (fun τr2 => ?_)
  refine RA.sR hd env_ok <| OA.ps [(32, (.slice (some ⟨j, 0, none⟩) (N - 1) 0)), (6, (.slice (some ⟨j, 0, none⟩) (N - 1) 0))] rfl <| OA.nil fun _ => ?_
  refine RA.ret env_ok ?_
  refine ⟨.inr rfl, [(.slice (some ⟨j, 0, none⟩) (N - 1) 0)], (resL_cons rfl resL_nil), [(j, some (oPq ((l.take i ++ (l.drop (i + 1)).take (N - (i + 1)) ++ l.drop (i + (N - (i + 1)))).take (N - 1) ++ List.replicate 1 dPq ++ (l.take i ++ (l.drop (i + 1)).take (N - (i + 1)) ++ l.drop (i + (N - (i + 1)))).drop ((N - 1) + 1))))], (LsO (fA get_here get_here fan)), ⟨((l.take i ++ (l.drop (i + 1)).take (N - (i + 1)) ++ l.drop (i + (N - (i + 1)))).take (N - 1) ++ List.replicate 1 dPq ++ (l.take i ++ (l.drop (i + 1)).take (N - (i + 1)) ++ l.drop (i + (N - (i + 1)))).drop ((N - 1) + 1)), congrArg (fun z => Value.slice (some ⟨j, 0, none⟩) z 0) (by omega), del_mid hl (by omega) rfl rfl, rfl⟩⟩
theorem cDelP {n : Nat} {σ : Store} (hd : Dom n σ) (j N i : Nat) (l : List Pq) (hl : l.length = N) (hi : i < N) (hN : N ≤ 1000000) (hj : σ j = some (oPq l)) : CQ Try.prog noDen 25 [(.slice (some ⟨j, 0, none⟩) N 0), (.int .i64 ((i : Nat) : Int)), (.int .i64 (((i + 1) : Nat) : Int))] n σ (fun v n' d => v = .slice (some ⟨j, 0, none⟩) (N - 1) 0 ∧ d = [(j, some (oPq (l.eraseIdx i)))]) := by
  refine CQ.less (CQ.shr (cDelP0 hd j N i l hl hi hN hj) (R := fun v n' d => v = .slice (some ⟨j, 0, none⟩) (N - 1) 0 ∧ ∃ o, d = [(j, some (oPq (l.eraseIdx i))), (j, some o)]) ?_) ?_
  · rintro v n' d ⟨LL, rfl, h2, rfl⟩
    refine ⟨j, _, N - 1, get_here, rfl, (oPq LL), ?_⟩
    simp only [shr, ← List.map_take, h2]
  · rintro v n' d ⟨rfl, o, rfl⟩
    exact ⟨_, Less.of (fac (mm (fun _ => get_here) (fun _ => get_here)) fan) (gone_of (by simp only [goneP, memP, true_or, or_true, true_and, and_true])), rfl, rfl⟩
end Go.Proofs.Ytdiofapingdlmaa.Vt
/- F5: walks through functions of the program, by the calculus; written by a program of this workplace. -/
namespace Go.Proofs.Ytdiofapingdlmaa.Vt
open Go Go.Proofs Go.Proofs.YtdiofapingdlmaaV
set_option maxRecDepth 100000
set_option linter.unusedVariables false
set_option linter.unusedSimpArgs false
set_option maxHeartbeats 8000000
theorem cIdx0 {σ : Store} (a b c d : Value)   : PS Try.prog noDen 22 [(.slice none 0 0), (.func (.func 23) ⟨[(.agg ⟨[a, b, c, d]⟩)]⟩ ⟨[]⟩)] σ (.int .i64 (-1)) := by
 refine PS.body (E := env) env_ok rfl rfl (by show _ ≤ _; exact of_decide_eq_true (by kernel_rfl)) (fun n hd => ?_)
 refine RA.sR hd env_ok <| OA.ps [(4, (.int .i64 0))] rfl <| OA.nil fun _ => RA.seq hd <| RA.sR hd env_ok <| OA.ps [(6, (.slice none 0 0)), (7, (.int .i64 0)), (8, (.int .i64 0))] rfl <| OA.nil fun _ => RA.block ?_
 refine RA.unroll hd ?_
 refine RA.sR hd env_ok <| oP 9 yF rfl (r_bin rfl rfl rfl (b_lss rfl)) <| OA.nil fun _ => RA.seq hd <| RA.condF rfl ?_
 refine RA.exit env_ok ?_
 intro _
 refine RA.sR hd env_ok <| OA.ps [(4, (.int .i64 (-1)))] rfl <| OA.nil fun _ => ?_
 refine RA.ret env_ok ?_
 exact lf (.int .i64 (-1)) rfl
theorem sTakeN {n : Nat} {σ : Store} (hd : Dom n σ) (r : Nat) (x : ByteArray) (hs : x.size < 9223372036854775808) (hp : ¬ pOk x)   : CQ Try.prog noDen 10 [(.pointer (some ⟨r, 0, some 0⟩)), (.string x)] n σ (fun v n' d => v = (.tuple ⟨[(.agg ⟨[(.int .u32 0), (.string ByteArray.empty)]⟩), (.bool false), (.int .i64 3)]⟩) ∧ d = []) := by
 refine CQ.body (E := env) env_ok hd rfl rfl (by show _ ≤ _; exact of_decide_eq_true (by kernel_rfl)) ?_
 refine RA.sR hd env_ok <| o1 (some 4) (.pointer (some ⟨n, 0, some 0⟩)) (n + 1) (n, some ⟨[[(.int .u32 0), (.string ByteArray.empty)]], 2, 26, true⟩) rfl <| OA.ps [(5, yF), (6, (.int .i64 0))] rfl <| OA.nil fun _ => RA.sR hd env_ok <| OA.ps [(14, (.string x))] rfl ?_
 refine OA.call (dst := (some 15)) (all := [(.string x)]) rfl rfl rfl rfl rfl rfl rfl rfl (CQ.imp (sParseN (hd.of (by omega) (kb1 (by omega))) x hs hp) ?_)
 rintro _ n1 _ ⟨rfl, rfl⟩ hn1
 refine OA.app0 ?_
 refine OA.ps [(13, (.tuple ⟨[(.agg ⟨[(.int .u32 0), (.int .i64 0), (.int .i64 0), (.string ByteArray.empty)]⟩), yF]⟩)), (16, (.agg ⟨[(.int .u32 0), (.int .i64 0), (.int .i64 0), (.string ByteArray.empty)]⟩)), (17, yF)] rfl <| o1 (some 7) (.pointer (some ⟨n1, 0, some 0⟩)) (n1 + 1) (n1, some ⟨[[(.int .u32 0), (.int .i64 0), (.int .i64 0), (.string ByteArray.empty)]], 4, 56, true⟩) rfl <| o1 none yU (n1 + 1) (n1, some ⟨[[(.int .u32 0), (.int .i64 0), (.int .i64 0), (.string ByteArray.empty)]], 4, 56, true⟩) (rS get_here) <| OA.ps [(8, yF)] rfl <| OA.nil fun _ => RA.seq hd <| RA.sR hd env_ok <| OA.ps [(18, (.pointer (some ⟨r, 0, some 0⟩))), (19, yF), (20, yF), (21, yF), (22, yT), (23, yT)] rfl <| OA.nil fun _ => RA.condT rfl <| RA.sR hd env_ok ?_
 refine oP 24 (.agg ⟨[(.int .u32 0), (.string ByteArray.empty)]⟩) rfl (by kernel_rfl) <| o1 none yU (n1 + 1) (n, some ⟨[[(.int .u32 0), (.string ByteArray.empty)]], 2, 26, true⟩) (rS (gt2 (by omega) get_here)) <| OA.ps [(5, yF), (6, (.int .i64 3))] rfl <| OA.nil fun _ => ?_
 refine RA.ret env_ok ?_
 refine ⟨.inr rfl, [(.agg ⟨[(.int .u32 0), (.string ByteArray.empty)]⟩), (.bool false), (.int .i64 3)], (resL_cons (res_cellA rfl rfl rfl get_here rfl rfl rfl) (resL_cons rfl (resL_cons rfl resL_nil))), [], (LsO fan), ⟨rfl, rfl⟩⟩
theorem sTakeA {n : Nat} {σ : Store} (hd : Dom n σ) (r : Nat) (x : ByteArray) (hs : x.size < 9223372036854775808) (hp : pOk x) (hlt : (x.extract 12 x.size).size < pAll x) (hr : σ r = some ⟨[[(.slice none 0 0)]], 1, 54, true⟩)  : CQ Try.prog noDen 10 [(.pointer (some ⟨r, 0, some 0⟩)), (.string x)] n σ (fun v n' d => v = (.tuple ⟨[(.agg ⟨[(.int .u32 0), (.string ByteArray.empty)]⟩), (.bool false), (.int .i64 0)]⟩) ∧ ∃ k m, d = [(r, some ⟨[[(.slice (some ⟨k, 0, none⟩) m 0)]], 1, 54, true⟩)]) := by
 have lhr := hd.lt hr
 refine CQ.body (E := env) env_ok hd rfl rfl (by show _ ≤ _; exact of_decide_eq_true (by kernel_rfl)) ?_
 refine RA.sR hd env_ok <| o1 (some 4) (.pointer (some ⟨n, 0, some 0⟩)) (n + 1) (n, some ⟨[[(.int .u32 0), (.string ByteArray.empty)]], 2, 26, true⟩) rfl <| OA.ps [(5, yF), (6, (.int .i64 0))] rfl <| OA.nil fun _ => RA.sR hd env_ok <| OA.ps [(14, (.string x))] rfl ?_
 have hpf := pOk_f hp
 refine OA.call (dst := (some 15)) (all := [(.string x)]) rfl rfl rfl rfl rfl rfl rfl rfl (CQ.imp (sParseY (hd.of (by omega) (kb1 (by omega))) x hs hp) ?_)
 rintro _ n1 _ ⟨rfl, rfl⟩ hn1
 refine OA.app0 ?_
 refine OA.ps [(13, (.tuple ⟨[(.agg ⟨[(W (w32 x 0)), (.int .i64 (((pAll x) : Nat) : Int)), (.int .i64 (((pAt x) : Nat) : Int)), (.string (x.extract 12 x.size))]⟩), yT]⟩)), (16, (.agg ⟨[(W (w32 x 0)), (.int .i64 (((pAll x) : Nat) : Int)), (.int .i64 (((pAt x) : Nat) : Int)), (.string (x.extract 12 x.size))]⟩)), (17, yT)] rfl <| o1 (some 7) (.pointer (some ⟨n1, 0, some 0⟩)) (n1 + 1) (n1, some ⟨[[(.int .u32 0), (.int .i64 0), (.int .i64 0), (.string ByteArray.empty)]], 4, 56, true⟩) rfl <| o1 none yU (n1 + 1) (n1, some ⟨[[(W (w32 x 0)), (.int .i64 (((pAll x) : Nat) : Int)), (.int .i64 (((pAt x) : Nat) : Int)), (.string (x.extract 12 x.size))]], 4, 56, true⟩) (rS get_here) <| OA.ps [(8, yT)] rfl <| OA.nil fun _ => RA.seq hd <| RA.sR hd env_ok <| OA.ps [(18, (.pointer (some ⟨r, 0, some 0⟩))), (19, yF), (20, yF), (21, yT), (22, yF), (23, yF)] rfl <| OA.nil fun _ => RA.condF rfl <| RA.skip env_ok ?_
 intro _
 refine RA.seq hd <| RA.par (md := [some [], some [], some [], some [r], some [n1], some [], none, some []]) env_ok (hd.of (by omega) (kb3 (by omega))) (by kernel_rfl) <| PQ.ps [(25, (.pointer (some ⟨r, 0, some 0⟩))), (26, (.pointer (some ⟨r, 0, some 0⟩))), (27, (.pointer (some ⟨r, 0, some 0⟩)))] rfl <| pQl 28 (.slice none 0 0) (gt3 (by omega) hr) <| pQL 29 (.agg ⟨[(W (w32 x 0)), (.int .i64 (((pAll x) : Nat) : Int)), (.int .i64 (((pAt x) : Nat) : Int)), (.string (x.extract 12 x.size))]⟩) (V := []) rfl (by kernel_rfl) (by kernel_rfl) get_here (r_loadA rfl rfl rfl rfl get_here rfl rfl rfl) <| PQ.ps [(30, (.func (.func 23) ⟨[(.agg ⟨[(W (w32 x 0)), (.int .i64 (((pAll x) : Nat) : Int)), (.int .i64 (((pAt x) : Nat) : Int)), (.string (x.extract 12 x.size))]⟩)]⟩ ⟨[]⟩))] rfl <| pA 31 (v := (.int .i64 (-1))) (V := []) (hd.of (by omega) (kb3 (by omega))) rfl rfl (by kernel_rfl) (by kernel_rfl) (cIdx0 _ _ _ _) fun n2 hn2 => PQ.ps [(9, (.int .i64 (-1)))] rfl <| PQ.done (d := []) (by kernel_rfl) fun _ => RA.rb [(0, (.pointer (some ⟨r, 0, some 0⟩))), (1, (.string x)), (4, (.pointer (some ⟨n, 0, some 0⟩))), (5, yF), (6, (.int .i64 0)), (7, (.pointer (some ⟨n1, 0, some 0⟩))), (8, yT), (9, (.int .i64 (-1))), (23, yF)] rfl (fun τr3 => ?_)
 refine RA.seq hd <| RA.sR hd env_ok <| OA.ps [(32, (.int .i64 (-1)))] rfl <| oP 33 yT rfl (r_bin rfl rfl rfl (b_lss rfl)) <| OA.nil fun _ => RA.condT rfl <| RA.seq hd <| RA.sR hd env_ok <| OA.ps [(34, (.pointer (some ⟨r, 0, some 0⟩))), (35, (.pointer (some ⟨r, 0, some 0⟩))), (36, (.pointer (some ⟨r, 0, some 0⟩)))] rfl <| oL 37 (.slice none 0 0) (gt3 (by omega) hr) <| OA.ps [(38, (.int .i64 0))] rfl ?_
 refine oP 39 yF rfl (r_bin rfl rfl rfl (b_geq rfl)) <| OA.nil fun _ => RA.condF rfl <| RA.skip env_ok ?_
 intro _
 refine RA.sR hd env_ok <| OA.ps [(41, (.pointer (some ⟨r, 0, some 0⟩))), (42, (.pointer (some ⟨r, 0, some 0⟩))), (43, (.pointer (some ⟨r, 0, some 0⟩)))] rfl <| oL 44 (.slice none 0 0) (gt3 (by omega) hr) <| OA.ps [(45, (.int .i64 0)), (9, (.int .i64 0))] rfl <| OA.nil fun _ => RA.par (md := [some [], some [], some [], some [], some [r], some [], some [n1], some [], some [n1], none, some [], some [], some [], none, some [], some [], none]) env_ok (hd.of (by omega) (kb3 (by omega))) (by kernel_rfl) <| PQ.ps [(46, (.pointer (some ⟨r, 0, some 0⟩))), (47, (.pointer (some ⟨r, 0, some 0⟩))), (48, (.pointer (some ⟨r, 0, some 0⟩))), (49, (.pointer (some ⟨r, 0, some 0⟩)))] rfl <| pQl 50 (.slice none 0 0) (gt3 (by omega) hr) <| PQ.ps [(51, (.pointer (some ⟨n1, 0, some 0⟩)))] rfl <| pQl 52 (W (w32 x 0)) get_here <| PQ.ps [(53, (.pointer (some ⟨n1, 0, some 1⟩)))] rfl ?_
 refine pQl 54 (.int .i64 (((pAll x) : Nat) : Int)) get_here <| PQ.op (dst := (some 55)) (v := (.map (some n2))) (n1 := (n2 + 1)) (d1 := [(n2, some (mobj (.map [])))]) rfl rfl rfl _ (sA (V := []) (by kernel_rfl) (by kernel_rfl)) (r_mkmap rfl) (by omega) (kp1 (wr_new (by omega) (by omega))) <| pP 56 (.agg ⟨[(W (w32 x 0)), (.int .i64 (((pAll x) : Nat) : Int)), (.map (some n2))]⟩) rfl (by kernel_rfl) <| PQ.op (dst := (some 57)) (v := (.pointer (some ⟨(n2 + 1), 0, some 0⟩))) (n1 := (n2 + 2)) (d1 := [((n2 + 1), some ⟨[[(W (w32 x 0)), (.int .i64 (((pAll x) : Nat) : Int)), (.map (some n2))]], 3, 64, true⟩)]) rfl rfl rfl noStore nOK rfl (by omega) (kp1 (wr_new (by omega) (by omega))) <| PQ.op (dst := (some 58)) (v := (.slice (some ⟨(n2 + 2), 0, none⟩) 1 0)) (n1 := (n2 + 3)) (d1 := [((n2 + 2), some ⟨[[(.pointer (some ⟨(n2 + 1), 0, some 0⟩))]], 1, 60, true⟩)]) rfl rfl rfl noStore nOK (by kernel_rfl) (by omega) (kp1 (wr_new (by omega) (by omega))) <| PQ.op (dst := (some 59)) (v := (.slice (some ⟨(n2 + 3), 0, none⟩) 1 0)) (n1 := (n2 + 4)) (d1 := [((n2 + 3), some (oPq [(Pq.mk (.pointer (some ⟨(n2 + 1), 0, some 0⟩)))]))]) rfl rfl rfl _ (sA (V := [((n2 + 2), some ⟨[[(.pointer (some ⟨(n2 + 1), 0, some 0⟩))]], 1, 60, true⟩), ((n2 + 1), some ⟨[[(W (w32 x 0)), (.int .i64 (((pAll x) : Nat) : Int)), (.map (some n2))]], 3, 64, true⟩), (n2, some (mobj (.map [])))]) (by kernel_rfl) (by kernel_rfl)) (r_append0R (c := cPq) (x := (Pq.mk (.pointer (some ⟨(n2 + 1), 0, some 0⟩)))) rfl rfl rfl rfl rfl rfl rfl rfl rfl rfl (by decide) get_here (of_decide_eq_true (by kernel_rfl))) (by omega) (kp1 (wr_new (by omega) (by omega))) <| PQ.ps [(60, (.pointer (some ⟨r, 0, some 0⟩))), (61, (.pointer (some ⟨r, 0, some 0⟩)))] rfl <| PQ.op (dst := none) (v := (.tuple #[])) (n1 := (n2 + 4)) (d1 := [(r, some ⟨[[(.slice (some ⟨(n2 + 3), 0, none⟩) 1 0)]], 1, 54, true⟩)]) rfl rfl rfl _ (sA (V := [((n2 + 3), some (oPq [(Pq.mk (.pointer (some ⟨(n2 + 1), 0, some 0⟩)))])), ((n2 + 2), some ⟨[[(.pointer (some ⟨(n2 + 1), 0, some 0⟩))]], 1, 60, true⟩), ((n2 + 1), some ⟨[[(W (w32 x 0)), (.int .i64 (((pAll x) : Nat) : Int)), (.map (some n2))]], 3, 64, true⟩), (n2, some (mobj (.map [])))]) (by kernel_rfl) (by kernel_rfl)) (rS (gt7 (by omega) hr)) (by omega) (kp1 (wr_tight (by kernel_rfl) (by omega))) <| PQ.done (d := [(r, some ⟨[[(.slice (some ⟨(n2 + 3), 0, none⟩) 1 0)]], 1, 54, true⟩), ((n2 + 3), some (oPq [(Pq.mk (.pointer (some ⟨(n2 + 1), 0, some 0⟩)))])), ((n2 + 2), some ⟨[[(.pointer (some ⟨(n2 + 1), 0, some 0⟩))]], 1, 60, true⟩), ((n2 + 1), some ⟨[[(W (w32 x 0)), (.int .i64 (((pAll x) : Nat) : Int)), (.map (some n2))]], 3, 64, true⟩), (n2, some (mobj (.map [])))]) (by kernel_rfl) fun _ => RA.weaken hd (LsO (fA get_here get_here (fA (get_there (by omega) get_here) (get_there (by omega) get_here) (fA (gt2 (by omega) get_here) (gt2 (by omega) get_here) (fA (gt3 (by omega) get_here) (gt3 (by omega) get_here) (fA (gt4 (by omega) get_here) (gt4 (by omega) get_here) (fA (gt5 (by omega) get_here) (gt5 (by omega) get_here) (fA (gt6 (by omega) get_here) (gt7 (by omega) get_here) fan)))))))) <| RA.rb [(0, (.pointer (some ⟨r, 0, some 0⟩))), (1, (.string x)), (4, (.pointer (some ⟨n, 0, some 0⟩))), (5, yF), (6, (.int .i64 0)), (7, (.pointer (some ⟨n1, 0, some 0⟩))), (8, yT), (9, (.int .i64 0)), (23, yF), (33, yT), (39, yF)] rfl (fun τr4 => ?_)
 refine RA.sR hd env_ok <| OA.ps [(62, (.pointer (some ⟨r, 0, some 0⟩))), (63, (.pointer (some ⟨r, 0, some 0⟩))), (64, (.pointer (some ⟨r, 0, some 0⟩)))] rfl <| oL 65 (.slice (some ⟨(n2 + 3), 0, none⟩) 1 0) get_here <| OA.ps [(66, (.int .i64 0))] rfl <| oP 67 (.pointer (some ⟨(n2 + 3), 0, some 0⟩)) rfl (r_iaS (l := 0) rfl rfl rfl rfl rfl rfl (by omega) (by omega) (get_there (by omega) get_here) rfl (by omega)) <| oP 68 (.pointer (some ⟨(n2 + 1), 0, some 0⟩)) rfl (r_loadF (c := cPq) dPq rfl rfl rfl rfl rfl (get_there (by omega) get_here) (by have := (show [(Pq.mk (.pointer (some ⟨(n2 + 1), 0, some 0⟩)))].length = 1 from rfl); omega) rfl) <| OA.ps [(10, (.pointer (some ⟨(n2 + 1), 0, some 0⟩)))] rfl <| OA.nil fun _ => RA.seq hd <| RA.seq hd <| RA.par (md := [some [], some [], some [], some [(n2 + 1)], some [], some [n1], some []]) env_ok (hd.of (by omega) (kb7 (by omega))) (by kernel_rfl) ?_
 refine PQ.ps [(69, (.pointer (some ⟨(n2 + 1), 0, some 0⟩))), (70, (.pointer (some ⟨(n2 + 1), 0, some 0⟩))), (71, (.pointer (some ⟨(n2 + 1), 0, some 1⟩)))] rfl <| pQl 72 (.int .i64 (((pAll x) : Nat) : Int)) (gt3 (by omega) get_here) <| PQ.ps [(73, (.pointer (some ⟨n1, 0, some 1⟩)))] rfl <| pQl 74 (.int .i64 (((pAll x) : Nat) : Int)) (gt5 (by omega) get_here) <| pP 75 yF rfl (r_bin rfl rfl rfl (b_neq (decide_eq_false (fun h => h rfl)))) <| PQ.done (d := []) (by kernel_rfl) fun _ => RA.condF rfl <| RA.skip env_ok ?_
 intro _
 refine RA.seq hd <| RA.par (md := [some [], some [], some [], some [(n2 + 1)], some [], some [n1], some [], some [n1], none]) env_ok (hd.of (by omega) (kb7 (by omega))) (by kernel_rfl) <| PQ.ps [(77, (.pointer (some ⟨(n2 + 1), 0, some 0⟩))), (78, (.pointer (some ⟨(n2 + 1), 0, some 0⟩))), (79, (.pointer (some ⟨(n2 + 1), 0, some 2⟩)))] rfl <| pQl 80 (.map (some n2)) (gt3 (by omega) get_here) <| PQ.ps [(81, (.pointer (some ⟨n1, 0, some 2⟩)))] rfl <| pQl 82 (.int .i64 (((pAt x) : Nat) : Int)) (gt5 (by omega) get_here) <| PQ.ps [(83, (.pointer (some ⟨n1, 0, some 3⟩)))] rfl <| pQl 84 (.string (x.extract 12 x.size)) (gt5 (by omega) get_here) <| PQ.op (dst := none) (v := undef) (n1 := (n2 + 4)) (d1 := [(n2, some (mobj (.map [((pAt x), (x.extract 12 x.size))])))]) rfl rfl rfl _ (sA (V := []) (by kernel_rfl) (by kernel_rfl)) (r_mapset (i := n2) (l := []) rfl rfl rfl rfl rfl (gt4 (by omega) get_here)) (by omega) (kp1 (wr_tight (by kernel_rfl) (by omega))) <| PQ.done (d := [(n2, some (mobj (.map [((pAt x), (x.extract 12 x.size))])))]) (by kernel_rfl) fun _ => RA.weaken hd (LsO (fA get_here get_here (fA (get_there (by omega) get_here) (get_there (by omega) get_here) (fA (gt2 (by omega) get_here) (gt2 (by omega) get_here) (fA (gt3 (by omega) get_here) (gt3 (by omega) get_here) (fA (gt4 (by omega) get_here) (gt4 (by omega) get_here) (fA (gt5 (by omega) get_here) (gt6 (by omega) get_here) (fA (gt6 (by omega) get_here) (gt7 (by omega) get_here) fan)))))))) ?_
 refine RA.sR hd env_ok <| OA.ps [(86, (.pointer (some ⟨(n2 + 1), 0, some 0⟩)))] rfl ?_
 refine OA.call (dst := (some 87)) (all := [(.pointer (some ⟨(n2 + 1), 0, some 0⟩))]) rfl rfl rfl rfl rfl rfl rfl rfl (CQ.imp (sWholeA (hd.of (by omega) (kb7 (by omega))) (n2 + 1) n2 (w32 x 0) (pAll x) (pAt x) (x.extract 12 x.size) (by omega) (by omega) hlt (gt4 (by omega) get_here) get_here) ?_)
 rintro _ n5 _ ⟨rfl, rfl⟩ hn5
 refine OA.app0 ?_
 refine OA.ps [(85, (.tuple ⟨[(.agg ⟨[(.int .u32 0), (.string ByteArray.empty)]⟩), yF]⟩)), (88, (.agg ⟨[(.int .u32 0), (.string ByteArray.empty)]⟩)), (89, yF)] rfl <| o1 (some 11) (.pointer (some ⟨n5, 0, some 0⟩)) (n5 + 1) (n5, some ⟨[[(.int .u32 0), (.string ByteArray.empty)]], 2, 26, true⟩) rfl <| o1 none yU (n5 + 1) (n5, some ⟨[[(.int .u32 0), (.string ByteArray.empty)]], 2, 26, true⟩) (rS get_here) <| OA.ps [(12, yF)] rfl <| OA.nil fun _ => RA.weaken hd (LsO (fA get_here get_here (fA (get_there (by omega) get_here) (gt2 (by omega) get_here) (fA (gt2 (by omega) get_here) (gt3 (by omega) get_here) (fA (gt3 (by omega) get_here) (gt4 (by omega) get_here) (fA (gt4 (by omega) get_here) (gt5 (by omega) get_here) (fA (gt5 (by omega) get_here) (gt6 (by omega) get_here) (fA (gt6 (by omega) get_here) (gt7 (by omega) get_here) (fA (gt7 (by omega) get_here) (gt8 (by omega) get_here) fan))))))))) <| RA.rb [(0, (.pointer (some ⟨r, 0, some 0⟩))), (1, (.string x)), (4, (.pointer (some ⟨n, 0, some 0⟩))), (5, yF), (6, (.int .i64 0)), (7, (.pointer (some ⟨n1, 0, some 0⟩))), (8, yT), (9, (.int .i64 0)), (10, (.pointer (some ⟨(n2 + 1), 0, some 0⟩))), (11, (.pointer (some ⟨n5, 0, some 0⟩))), (12, yF), (23, yF), (33, yT), (39, yF), (75, yF)] rfl (fun τr6 => ?_)
 refine RA.seq hd <| RA.sR hd env_ok <| OA.ps [(90, yF)] rfl <| OA.nil fun _ => RA.condF rfl <| RA.skip env_ok ?_
 intro _
 refine RA.sR hd env_ok <| oP 102 (.agg ⟨[(.int .u32 0), (.string ByteArray.empty)]⟩) rfl (r_loadA rfl rfl rfl rfl get_here rfl rfl rfl) <| OA.ps [(103, yF)] rfl <| o1 none yU (n5 + 1) (n, some ⟨[[(.int .u32 0), (.string ByteArray.empty)]], 2, 26, true⟩) (rS (gt7 (by omega) get_here)) <| OA.ps [(5, yF), (6, (.int .i64 0))] rfl <| OA.nil fun _ => RA.weaken hd (LsO (fA get_here get_here (fA (get_there (by omega) get_here) (get_there (by omega) get_here) (fA (gt2 (by omega) get_here) (gt2 (by omega) get_here) (fA (gt3 (by omega) get_here) (gt3 (by omega) get_here) (fA (gt4 (by omega) get_here) (gt4 (by omega) get_here) (fA (gt5 (by omega) get_here) (gt5 (by omega) get_here) (fA (gt6 (by omega) get_here) (gt6 (by omega) get_here) (fA (gt7 (by omega) get_here) (gt7 (by omega) get_here) fan))))))))) ?_
 refine RA.ret env_ok ?_
 refine ⟨.inr rfl, [(.agg ⟨[(.int .u32 0), (.string ByteArray.empty)]⟩), (.bool false), (.int .i64 0)], (resL_cons (res_cellA rfl rfl rfl get_here rfl rfl rfl) (resL_cons rfl (resL_cons rfl resL_nil))), [(r, some ⟨[[(.slice (some ⟨(n2 + 3), 0, none⟩) 1 0)]], 1, 54, true⟩)], (LsO (fA get_here (gt3 (by omega) get_here) fan)), ⟨rfl, _, _, rfl⟩⟩
theorem sTakeB {n : Nat} {σ : Store} (hd : Dom n σ) (r : Nat) (x : ByteArray) (hs : x.size < 9223372036854775808) (hp : pOk x) (hk : pAt x = 0) (hge : (x.extract 12 x.size).size = pAll x) (ha5 : pAll x ≤ 500) (hr : σ r = some ⟨[[(.slice none 0 0)]], 1, 54, true⟩)  : CQ Try.prog noDen 10 [(.pointer (some ⟨r, 0, some 0⟩)), (.string x)] n σ (fun v n' d => v = (.tuple ⟨[(.agg ⟨[(W (w32 x 0)), (.string (x.extract 12 x.size))]⟩), (.bool true), (.int .i64 0)]⟩) ∧ ∃ k m, d = [(r, some ⟨[[(.slice (some ⟨k, 0, none⟩) m 0)]], 1, 54, true⟩)]) := by
 have lhr := hd.lt hr
 refine CQ.body (E := env) env_ok hd rfl rfl (by show _ ≤ _; exact of_decide_eq_true (by kernel_rfl)) ?_
 refine RA.sR hd env_ok <| o1 (some 4) (.pointer (some ⟨n, 0, some 0⟩)) (n + 1) (n, some ⟨[[(.int .u32 0), (.string ByteArray.empty)]], 2, 26, true⟩) rfl <| OA.ps [(5, yF), (6, (.int .i64 0))] rfl <| OA.nil fun _ => RA.sR hd env_ok <| OA.ps [(14, (.string x))] rfl ?_
 have hpf := pOk_f hp
 refine OA.call (dst := (some 15)) (all := [(.string x)]) rfl rfl rfl rfl rfl rfl rfl rfl (CQ.imp (sParseY (hd.of (by omega) (kb1 (by omega))) x hs hp) ?_)
 rintro _ n1 _ ⟨rfl, rfl⟩ hn1
 refine OA.app0 ?_
 refine OA.ps [(13, (.tuple ⟨[(.agg ⟨[(W (w32 x 0)), (.int .i64 (((pAll x) : Nat) : Int)), (.int .i64 (((pAt x) : Nat) : Int)), (.string (x.extract 12 x.size))]⟩), yT]⟩)), (16, (.agg ⟨[(W (w32 x 0)), (.int .i64 (((pAll x) : Nat) : Int)), (.int .i64 (((pAt x) : Nat) : Int)), (.string (x.extract 12 x.size))]⟩)), (17, yT)] rfl <| o1 (some 7) (.pointer (some ⟨n1, 0, some 0⟩)) (n1 + 1) (n1, some ⟨[[(.int .u32 0), (.int .i64 0), (.int .i64 0), (.string ByteArray.empty)]], 4, 56, true⟩) rfl <| o1 none yU (n1 + 1) (n1, some ⟨[[(W (w32 x 0)), (.int .i64 (((pAll x) : Nat) : Int)), (.int .i64 (((pAt x) : Nat) : Int)), (.string (x.extract 12 x.size))]], 4, 56, true⟩) (rS get_here) <| OA.ps [(8, yT)] rfl <| OA.nil fun _ => RA.seq hd <| RA.sR hd env_ok <| OA.ps [(18, (.pointer (some ⟨r, 0, some 0⟩))), (19, yF), (20, yF), (21, yT), (22, yF), (23, yF)] rfl <| OA.nil fun _ => RA.condF rfl <| RA.skip env_ok ?_
 intro _
 refine RA.seq hd <| RA.par (md := [some [], some [], some [], some [r], some [n1], some [], none, some []]) env_ok (hd.of (by omega) (kb3 (by omega))) (by kernel_rfl) <| PQ.ps [(25, (.pointer (some ⟨r, 0, some 0⟩))), (26, (.pointer (some ⟨r, 0, some 0⟩))), (27, (.pointer (some ⟨r, 0, some 0⟩)))] rfl <| pQl 28 (.slice none 0 0) (gt3 (by omega) hr) <| pQL 29 (.agg ⟨[(W (w32 x 0)), (.int .i64 (((pAll x) : Nat) : Int)), (.int .i64 (((pAt x) : Nat) : Int)), (.string (x.extract 12 x.size))]⟩) (V := []) rfl (by kernel_rfl) (by kernel_rfl) get_here (r_loadA rfl rfl rfl rfl get_here rfl rfl rfl) <| PQ.ps [(30, (.func (.func 23) ⟨[(.agg ⟨[(W (w32 x 0)), (.int .i64 (((pAll x) : Nat) : Int)), (.int .i64 (((pAt x) : Nat) : Int)), (.string (x.extract 12 x.size))]⟩)]⟩ ⟨[]⟩))] rfl <| pA 31 (v := (.int .i64 (-1))) (V := []) (hd.of (by omega) (kb3 (by omega))) rfl rfl (by kernel_rfl) (by kernel_rfl) (cIdx0 _ _ _ _) fun n2 hn2 => PQ.ps [(9, (.int .i64 (-1)))] rfl <| PQ.done (d := []) (by kernel_rfl) fun _ => RA.rb [(0, (.pointer (some ⟨r, 0, some 0⟩))), (1, (.string x)), (4, (.pointer (some ⟨n, 0, some 0⟩))), (5, yF), (6, (.int .i64 0)), (7, (.pointer (some ⟨n1, 0, some 0⟩))), (8, yT), (9, (.int .i64 (-1))), (23, yF)] rfl (fun τr3 => ?_)
 refine RA.seq hd <| RA.sR hd env_ok <| OA.ps [(32, (.int .i64 (-1)))] rfl <| oP 33 yT rfl (r_bin rfl rfl rfl (b_lss rfl)) <| OA.nil fun _ => RA.condT rfl <| RA.seq hd <| RA.sR hd env_ok <| OA.ps [(34, (.pointer (some ⟨r, 0, some 0⟩))), (35, (.pointer (some ⟨r, 0, some 0⟩))), (36, (.pointer (some ⟨r, 0, some 0⟩)))] rfl <| oL 37 (.slice none 0 0) (gt3 (by omega) hr) <| OA.ps [(38, (.int .i64 0))] rfl ?_
 refine oP 39 yF rfl (r_bin rfl rfl rfl (b_geq rfl)) <| OA.nil fun _ => RA.condF rfl <| RA.skip env_ok ?_
 intro _
 refine RA.sR hd env_ok <| OA.ps [(41, (.pointer (some ⟨r, 0, some 0⟩))), (42, (.pointer (some ⟨r, 0, some 0⟩))), (43, (.pointer (some ⟨r, 0, some 0⟩)))] rfl <| oL 44 (.slice none 0 0) (gt3 (by omega) hr) <| OA.ps [(45, (.int .i64 0)), (9, (.int .i64 0))] rfl <| OA.nil fun _ => RA.par (md := [some [], some [], some [], some [], some [r], some [], some [n1], some [], some [n1], none, some [], some [], some [], none, some [], some [], none]) env_ok (hd.of (by omega) (kb3 (by omega))) (by kernel_rfl) <| PQ.ps [(46, (.pointer (some ⟨r, 0, some 0⟩))), (47, (.pointer (some ⟨r, 0, some 0⟩))), (48, (.pointer (some ⟨r, 0, some 0⟩))), (49, (.pointer (some ⟨r, 0, some 0⟩)))] rfl <| pQl 50 (.slice none 0 0) (gt3 (by omega) hr) <| PQ.ps [(51, (.pointer (some ⟨n1, 0, some 0⟩)))] rfl <| pQl 52 (W (w32 x 0)) get_here <| PQ.ps [(53, (.pointer (some ⟨n1, 0, some 1⟩)))] rfl ?_
 refine pQl 54 (.int .i64 (((pAll x) : Nat) : Int)) get_here <| PQ.op (dst := (some 55)) (v := (.map (some n2))) (n1 := (n2 + 1)) (d1 := [(n2, some (mobj (.map [])))]) rfl rfl rfl _ (sA (V := []) (by kernel_rfl) (by kernel_rfl)) (r_mkmap rfl) (by omega) (kp1 (wr_new (by omega) (by omega))) <| pP 56 (.agg ⟨[(W (w32 x 0)), (.int .i64 (((pAll x) : Nat) : Int)), (.map (some n2))]⟩) rfl (by kernel_rfl) <| PQ.op (dst := (some 57)) (v := (.pointer (some ⟨(n2 + 1), 0, some 0⟩))) (n1 := (n2 + 2)) (d1 := [((n2 + 1), some ⟨[[(W (w32 x 0)), (.int .i64 (((pAll x) : Nat) : Int)), (.map (some n2))]], 3, 64, true⟩)]) rfl rfl rfl noStore nOK rfl (by omega) (kp1 (wr_new (by omega) (by omega))) <| PQ.op (dst := (some 58)) (v := (.slice (some ⟨(n2 + 2), 0, none⟩) 1 0)) (n1 := (n2 + 3)) (d1 := [((n2 + 2), some ⟨[[(.pointer (some ⟨(n2 + 1), 0, some 0⟩))]], 1, 60, true⟩)]) rfl rfl rfl noStore nOK (by kernel_rfl) (by omega) (kp1 (wr_new (by omega) (by omega))) <| PQ.op (dst := (some 59)) (v := (.slice (some ⟨(n2 + 3), 0, none⟩) 1 0)) (n1 := (n2 + 4)) (d1 := [((n2 + 3), some (oPq [(Pq.mk (.pointer (some ⟨(n2 + 1), 0, some 0⟩)))]))]) rfl rfl rfl _ (sA (V := [((n2 + 2), some ⟨[[(.pointer (some ⟨(n2 + 1), 0, some 0⟩))]], 1, 60, true⟩), ((n2 + 1), some ⟨[[(W (w32 x 0)), (.int .i64 (((pAll x) : Nat) : Int)), (.map (some n2))]], 3, 64, true⟩), (n2, some (mobj (.map [])))]) (by kernel_rfl) (by kernel_rfl)) (r_append0R (c := cPq) (x := (Pq.mk (.pointer (some ⟨(n2 + 1), 0, some 0⟩)))) rfl rfl rfl rfl rfl rfl rfl rfl rfl rfl (by decide) get_here (of_decide_eq_true (by kernel_rfl))) (by omega) (kp1 (wr_new (by omega) (by omega))) <| PQ.ps [(60, (.pointer (some ⟨r, 0, some 0⟩))), (61, (.pointer (some ⟨r, 0, some 0⟩)))] rfl <| PQ.op (dst := none) (v := (.tuple #[])) (n1 := (n2 + 4)) (d1 := [(r, some ⟨[[(.slice (some ⟨(n2 + 3), 0, none⟩) 1 0)]], 1, 54, true⟩)]) rfl rfl rfl _ (sA (V := [((n2 + 3), some (oPq [(Pq.mk (.pointer (some ⟨(n2 + 1), 0, some 0⟩)))])), ((n2 + 2), some ⟨[[(.pointer (some ⟨(n2 + 1), 0, some 0⟩))]], 1, 60, true⟩), ((n2 + 1), some ⟨[[(W (w32 x 0)), (.int .i64 (((pAll x) : Nat) : Int)), (.map (some n2))]], 3, 64, true⟩), (n2, some (mobj (.map [])))]) (by kernel_rfl) (by kernel_rfl)) (rS (gt7 (by omega) hr)) (by omega) (kp1 (wr_tight (by kernel_rfl) (by omega))) <| PQ.done (d := [(r, some ⟨[[(.slice (some ⟨(n2 + 3), 0, none⟩) 1 0)]], 1, 54, true⟩), ((n2 + 3), some (oPq [(Pq.mk (.pointer (some ⟨(n2 + 1), 0, some 0⟩)))])), ((n2 + 2), some ⟨[[(.pointer (some ⟨(n2 + 1), 0, some 0⟩))]], 1, 60, true⟩), ((n2 + 1), some ⟨[[(W (w32 x 0)), (.int .i64 (((pAll x) : Nat) : Int)), (.map (some n2))]], 3, 64, true⟩), (n2, some (mobj (.map [])))]) (by kernel_rfl) fun _ => RA.weaken hd (LsO (fA get_here get_here (fA (get_there (by omega) get_here) (get_there (by omega) get_here) (fA (gt2 (by omega) get_here) (gt2 (by omega) get_here) (fA (gt3 (by omega) get_here) (gt3 (by omega) get_here) (fA (gt4 (by omega) get_here) (gt4 (by omega) get_here) (fA (gt5 (by omega) get_here) (gt5 (by omega) get_here) (fA (gt6 (by omega) get_here) (gt7 (by omega) get_here) fan)))))))) <| RA.rb [(0, (.pointer (some ⟨r, 0, some 0⟩))), (1, (.string x)), (4, (.pointer (some ⟨n, 0, some 0⟩))), (5, yF), (6, (.int .i64 0)), (7, (.pointer (some ⟨n1, 0, some 0⟩))), (8, yT), (9, (.int .i64 0)), (23, yF), (33, yT), (39, yF)] rfl (fun τr4 => ?_)
 refine RA.sR hd env_ok <| OA.ps [(62, (.pointer (some ⟨r, 0, some 0⟩))), (63, (.pointer (some ⟨r, 0, some 0⟩))), (64, (.pointer (some ⟨r, 0, some 0⟩)))] rfl <| oL 65 (.slice (some ⟨(n2 + 3), 0, none⟩) 1 0) get_here <| OA.ps [(66, (.int .i64 0))] rfl <| oP 67 (.pointer (some ⟨(n2 + 3), 0, some 0⟩)) rfl (r_iaS (l := 0) rfl rfl rfl rfl rfl rfl (by omega) (by omega) (get_there (by omega) get_here) rfl (by omega)) <| oP 68 (.pointer (some ⟨(n2 + 1), 0, some 0⟩)) rfl (r_loadF (c := cPq) dPq rfl rfl rfl rfl rfl (get_there (by omega) get_here) (by have := (show [(Pq.mk (.pointer (some ⟨(n2 + 1), 0, some 0⟩)))].length = 1 from rfl); omega) rfl) <| OA.ps [(10, (.pointer (some ⟨(n2 + 1), 0, some 0⟩)))] rfl <| OA.nil fun _ => RA.seq hd <| RA.seq hd <| RA.par (md := [some [], some [], some [], some [(n2 + 1)], some [], some [n1], some []]) env_ok (hd.of (by omega) (kb7 (by omega))) (by kernel_rfl) ?_
 refine PQ.ps [(69, (.pointer (some ⟨(n2 + 1), 0, some 0⟩))), (70, (.pointer (some ⟨(n2 + 1), 0, some 0⟩))), (71, (.pointer (some ⟨(n2 + 1), 0, some 1⟩)))] rfl <| pQl 72 (.int .i64 (((pAll x) : Nat) : Int)) (gt3 (by omega) get_here) <| PQ.ps [(73, (.pointer (some ⟨n1, 0, some 1⟩)))] rfl <| pQl 74 (.int .i64 (((pAll x) : Nat) : Int)) (gt5 (by omega) get_here) <| pP 75 yF rfl (r_bin rfl rfl rfl (b_neq (decide_eq_false (fun h => h rfl)))) <| PQ.done (d := []) (by kernel_rfl) fun _ => RA.condF rfl <| RA.skip env_ok ?_
 intro _
 refine RA.seq hd <| RA.par (md := [some [], some [], some [], some [(n2 + 1)], some [], some [n1], some [], some [n1], none]) env_ok (hd.of (by omega) (kb7 (by omega))) (by kernel_rfl) <| PQ.ps [(77, (.pointer (some ⟨(n2 + 1), 0, some 0⟩))), (78, (.pointer (some ⟨(n2 + 1), 0, some 0⟩))), (79, (.pointer (some ⟨(n2 + 1), 0, some 2⟩)))] rfl <| pQl 80 (.map (some n2)) (gt3 (by omega) get_here) <| PQ.ps [(81, (.pointer (some ⟨n1, 0, some 2⟩)))] rfl <| pQl 82 (.int .i64 (((pAt x) : Nat) : Int)) (gt5 (by omega) get_here) <| PQ.ps [(83, (.pointer (some ⟨n1, 0, some 3⟩)))] rfl <| pQl 84 (.string (x.extract 12 x.size)) (gt5 (by omega) get_here) <| PQ.op (dst := none) (v := undef) (n1 := (n2 + 4)) (d1 := [(n2, some (mobj (.map [((pAt x), (x.extract 12 x.size))])))]) rfl rfl rfl _ (sA (V := []) (by kernel_rfl) (by kernel_rfl)) (r_mapset (i := n2) (l := []) rfl rfl rfl rfl rfl (gt4 (by omega) get_here)) (by omega) (kp1 (wr_tight (by kernel_rfl) (by omega))) <| PQ.done (d := [(n2, some (mobj (.map [((pAt x), (x.extract 12 x.size))])))]) (by kernel_rfl) fun _ => RA.weaken hd (LsO (fA get_here get_here (fA (get_there (by omega) get_here) (get_there (by omega) get_here) (fA (gt2 (by omega) get_here) (gt2 (by omega) get_here) (fA (gt3 (by omega) get_here) (gt3 (by omega) get_here) (fA (gt4 (by omega) get_here) (gt4 (by omega) get_here) (fA (gt5 (by omega) get_here) (gt6 (by omega) get_here) (fA (gt6 (by omega) get_here) (gt7 (by omega) get_here) fan)))))))) ?_
 refine RA.sR hd env_ok <| OA.ps [(86, (.pointer (some ⟨(n2 + 1), 0, some 0⟩)))] rfl ?_
 refine OA.call (dst := (some 87)) (all := [(.pointer (some ⟨(n2 + 1), 0, some 0⟩))]) rfl rfl rfl rfl rfl rfl rfl rfl (CQ.imp (sWholeB (hd.of (by omega) (kb7 (by omega))) (n2 + 1) n2 (w32 x 0) (pAll x) (pAt x) (x.extract 12 x.size) (by omega) (by omega) hk hge ha5 (gt4 (by omega) get_here) get_here) ?_)
 rintro _ n5 _ ⟨rfl, rfl⟩ hn5
 refine OA.app0 ?_
 refine OA.ps [(85, (.tuple ⟨[(.agg ⟨[(W (w32 x 0)), (.string (x.extract 12 x.size))]⟩), yT]⟩)), (88, (.agg ⟨[(W (w32 x 0)), (.string (x.extract 12 x.size))]⟩)), (89, yT)] rfl <| o1 (some 11) (.pointer (some ⟨n5, 0, some 0⟩)) (n5 + 1) (n5, some ⟨[[(.int .u32 0), (.string ByteArray.empty)]], 2, 26, true⟩) rfl <| o1 none yU (n5 + 1) (n5, some ⟨[[(W (w32 x 0)), (.string (x.extract 12 x.size))]], 2, 26, true⟩) (rS get_here) <| OA.ps [(12, yT)] rfl <| OA.nil fun _ => RA.weaken hd (LsO (fA get_here get_here (fA (get_there (by omega) get_here) (gt2 (by omega) get_here) (fA (gt2 (by omega) get_here) (gt3 (by omega) get_here) (fA (gt3 (by omega) get_here) (gt4 (by omega) get_here) (fA (gt4 (by omega) get_here) (gt5 (by omega) get_here) (fA (gt5 (by omega) get_here) (gt6 (by omega) get_here) (fA (gt6 (by omega) get_here) (gt7 (by omega) get_here) (fA (gt7 (by omega) get_here) (gt8 (by omega) get_here) fan))))))))) <| RA.rb [(0, (.pointer (some ⟨r, 0, some 0⟩))), (1, (.string x)), (4, (.pointer (some ⟨n, 0, some 0⟩))), (5, yF), (6, (.int .i64 0)), (7, (.pointer (some ⟨n1, 0, some 0⟩))), (8, yT), (9, (.int .i64 0)), (10, (.pointer (some ⟨(n2 + 1), 0, some 0⟩))), (11, (.pointer (some ⟨n5, 0, some 0⟩))), (12, yT), (23, yF), (33, yT), (39, yF), (75, yF)] rfl (fun τr6 => ?_)
 refine RA.seq hd <| RA.sR hd env_ok <| OA.ps [(90, yT)] rfl <| OA.nil fun _ => RA.condT rfl <| RA.region env_ok <| OA.ps [(91, (.pointer (some ⟨r, 0, some 0⟩))), (92, (.pointer (some ⟨r, 0, some 0⟩))), (93, (.pointer (some ⟨r, 0, some 0⟩))), (94, (.pointer (some ⟨r, 0, some 0⟩)))] rfl <| oL 95 (.slice (some ⟨(n2 + 3), 0, none⟩) 1 0) (gt2 (by omega) get_here) <| OA.ps [(96, (.int .i64 0)), (97, (.int .i64 0))] rfl <| oP 98 (.int .i64 1) rfl (r_bin rfl rfl rfl (b_add (i64_eq (by omega)))) ?_
 refine OA.call (dst := (some 99)) (all := [(.slice (some ⟨(n2 + 3), 0, none⟩) 1 0), (.int .i64 0), (.int .i64 1)]) rfl rfl rfl rfl rfl rfl rfl rfl (CQ.imp (cDelP (hd.of (by omega) (kb8 (by omega))) (n2 + 3) 1 0 [(Pq.mk (.pointer (some ⟨(n2 + 1), 0, some 0⟩)))] rfl (by decide) (by decide) (gt3 (by omega) get_here)) ?_)
 rintro _ n7 _ ⟨rfl, rfl⟩ hn7
 refine OA.app1 ?_
 refine OA.ps [(100, (.pointer (some ⟨r, 0, some 0⟩))), (101, (.pointer (some ⟨r, 0, some 0⟩)))] rfl <| o1 none yU n7 (r, some ⟨[[(.slice (some ⟨(n2 + 3), 0, none⟩) 0 0)]], 1, 54, true⟩) (rS (gt3 (by omega) get_here)) <| OA.nil fun _ => RA.weaken hd (LsO (fA get_here get_here (fA (get_there (by omega) get_here) (get_there (by omega) get_here) (fA (gt2 (by omega) get_here) (gt2 (by omega) get_here) (fA (gt3 (by omega) get_here) (gt3 (by omega) get_here) (fA (gt4 (by omega) get_here) (gt6 (by omega) get_here) (fA (gt5 (by omega) get_here) (gt7 (by omega) get_here) (fA (gt6 (by omega) get_here) (gt8 (by omega) get_here) (fA (gt7 (by omega) get_here) (gt9 (by omega) get_here) fan))))))))) <| RA.sR hd env_ok <| oP 102 (.agg ⟨[(W (w32 x 0)), (.string (x.extract 12 x.size))]⟩) rfl (r_loadA rfl rfl rfl rfl (gt2 (by omega) get_here) rfl rfl rfl) <| OA.ps [(103, yT)] rfl <| o1 none yU n7 (n, some ⟨[[(W (w32 x 0)), (.string (x.extract 12 x.size))]], 2, 26, true⟩) (rS (gt7 (by omega) get_here)) <| OA.ps [(5, yT), (6, (.int .i64 0))] rfl <| OA.nil fun _ => RA.weaken hd (LsO (fA get_here get_here (fA (get_there (by omega) get_here) (get_there (by omega) get_here) (fA (gt2 (by omega) get_here) (gt2 (by omega) get_here) (fA (gt3 (by omega) get_here) (gt3 (by omega) get_here) (fA (gt4 (by omega) get_here) (gt4 (by omega) get_here) (fA (gt5 (by omega) get_here) (gt5 (by omega) get_here) (fA (gt6 (by omega) get_here) (gt6 (by omega) get_here) (fA (gt7 (by omega) get_here) (gt7 (by omega) get_here) fan))))))))) ?_
 refine RA.ret env_ok ?_
 refine ⟨.inr rfl, [(.agg ⟨[(W (w32 x 0)), (.string (x.extract 12 x.size))]⟩), (.bool true), (.int .i64 0)], (resL_cons (res_cellA rfl rfl rfl get_here rfl rfl rfl) (resL_cons rfl (resL_cons rfl resL_nil))), [(r, some ⟨[[(.slice (some ⟨(n2 + 3), 0, none⟩) 0 0)]], 1, 54, true⟩)], (LsO (fA get_here (get_there (by omega) get_here) fan)), ⟨rfl, _, _, rfl⟩⟩
end Go.Proofs.Ytdiofapingdlmaa.Vt
/- F6: walks through functions of the program, by the calculus; written by a program of this workplace. -/
namespace Go.Proofs.Ytdiofapingdlmaa.Vt
open Go Go.Proofs Go.Proofs.YtdiofapingdlmaaV
set_option maxRecDepth 100000
set_option linter.unusedVariables false
set_option linter.unusedSimpArgs false
set_option maxHeartbeats 8000000
def putL (m : Nat) : Nat → List UInt8
  | 0 => []
  | k + 1 => putL (m / 256) k ++ [UInt8.ofNat (m % 256)]
theorem putL_len : ∀ (k m : Nat), (putL m k).length = k
  | 0, _ => rfl
  | k + 1, m => by simp [putL, putL_len k]
theorem beN_putL : ∀ (k m : Nat), beN (putL m k) = m % 256 ^ k
  | 0, m => by simp [putL, beN, Nat.mod_one]
  | k + 1, m => by
    rw [putL, beN_snoc, beN_putL k (m / 256), UInt8.toNat_ofNat']
    have h2 : m % 256 ^ (k + 1) = m % 256 + 256 * (m / 256 % 256 ^ k) := by rw [Nat.pow_succ, Nat.mul_comm (256 ^ k) 256, Nat.mod_mul]
    rw [h2]; omega
def mkX (i : BitVec 32) (n k : Nat) (t : ByteArray) : ByteArray := bstr (putL i.toNat 4) ++ bstr (putL n 4) ++ bstr (putL k 4) ++ t
theorem mkX_L (i : BitVec 32) (n k : Nat) (t : ByteArray) : L (mkX i n k t) = putL i.toNat 4 ++ (putL n 4 ++ (putL k 4 ++ L t)) := by
  unfold mkX
  rw [L_app, L_app, L_app, L_bstr, L_bstr, L_bstr]
  simp only [List.append_assoc]
theorem mkX_size (i : BitVec 32) (n k : Nat) (t : ByteArray) : (mkX i n k t).size = 12 + t.size := by
  rw [← L_len (mkX i n k t), mkX_L]
  simp only [List.length_append, putL_len, L_len]; omega
theorem at0 (i : BitVec 32) (n k : Nat) (t : ByteArray) : w32 (mkX i n k t) 0 = i := by
  have h : at_ (mkX i n k t) 0 4 = i.toNat := by
    unfold at_
    rw [mkX_L, List.drop_zero, List.take_append_of_le_length (by rw [putL_len] <;> omega), List.take_of_length_le (by rw [putL_len] <;> omega), beN_putL]
    have := i.isLt; omega
  unfold w32; rw [h]; simp
theorem at4 (i : BitVec 32) (n k : Nat) (t : ByteArray) (hn : n < 4294967296) : pAll (mkX i n k t) = n := by
  have h : at_ (mkX i n k t) 4 4 = n := by
    unfold at_
    rw [mkX_L, List.drop_append, putL_len, List.drop_of_length_le (by rw [putL_len] <;> omega), List.nil_append, List.drop_zero, List.take_append_of_le_length (by rw [putL_len] <;> omega), List.take_of_length_le (by rw [putL_len] <;> omega), beN_putL]
    omega
  unfold pAll w32; rw [h, BitVec.toNat_ofNat]; omega
theorem at8 (i : BitVec 32) (n k : Nat) (t : ByteArray) (hk : k < 4294967296) : pAt (mkX i n k t) = k := by
  have h : at_ (mkX i n k t) 8 4 = k := by
    unfold at_
    rw [mkX_L, List.drop_append, putL_len, List.drop_of_length_le (by rw [putL_len] <;> omega), List.nil_append, List.drop_append, putL_len, List.drop_of_length_le (by rw [putL_len] <;> omega), List.nil_append, List.drop_zero, List.take_append_of_le_length (by rw [putL_len] <;> omega), List.take_of_length_le (by rw [putL_len] <;> omega), beN_putL]
    omega
  unfold pAt w32; rw [h, BitVec.toNat_ofNat]; omega
theorem atR (i : BitVec 32) (n k : Nat) (t : ByteArray) : (mkX i n k t).extract 12 (mkX i n k t).size = t := by
  apply L_ext
  rw [L_extract, mkX_size]
  rw [mkX_L, ← List.append_assoc, ← List.append_assoc, List.drop_append, List.drop_of_length_le (by simp only [List.length_append, putL_len]; omega), List.nil_append]
  simp only [List.length_append, putL_len, Nat.sub_self, List.drop_zero]
  exact List.take_of_length_le (by rw [L_len]; omega)
theorem bPutz {σ : Store} (m : Nat)   : PS Try.prog noDen 14 [(.int .u64 ((m : Nat) : Int)), (.int .i64 0)] σ (.string (bstr (putL m 0))) := by
 refine PS.body (E := env) env_ok rfl rfl (by show _ ≤ _; exact of_decide_eq_true (by kernel_rfl)) (fun n hd => ?_)
 refine RA.sR hd env_ok <| OA.ps [(4, (.string (ByteArray.mk #[])))] rfl <| OA.nil fun _ => RA.seq hd <| RA.sR hd env_ok <| OA.ps [(5, (.int .i64 0))] rfl <| oP 6 yT rfl (r_bin rfl rfl rfl (b_leq rfl)) <| OA.nil fun _ => RA.condT rfl <| RA.sR hd env_ok <| OA.ps [(4, (.string (ByteArray.mk #[])))] rfl ?_
 refine OA.nil fun _ => ?_
 refine RA.ret env_ok ?_
 exact lf (.string (ByteArray.mk #[])) rfl
theorem bPut : ∀ (k m : Nat) (hm : m < 18446744073709551616) (hk : k ≤ 8) {σ : Store}, PS Try.prog noDen 14 [(.int .u64 ((m : Nat) : Int)), (.int .i64 ((k : Nat) : Int))] σ (.string (bstr (putL m k))) := by
  intro k
  induction k with
  | zero => intro m _ _ σ; exact bPutz m
  | succ k ih =>
    intro m hm hk σ
    refine PS.body (E := env) env_ok rfl rfl (by show _ ≤ _; exact of_decide_eq_true (by kernel_rfl)) (fun n hd => ?_)
    refine RA.sR hd env_ok <| OA.ps [(4, (.string (ByteArray.mk #[])))] rfl <| OA.nil fun _ => RA.seq hd <| RA.sR hd env_ok <| OA.ps [(5, (.int .i64 (((k + 1) : Nat) : Int)))] rfl ?_
    have hc1 : ¬ ((((k + 1) : Nat) : Int) ≤ 0) := fun hdd => by exfalso; omega
    refine oP 6 yF rfl (Eq.trans (r_bin rfl rfl rfl (b_leq rfl)) (dF hc1)) <| OA.nil fun _ => RA.condF rfl <| RA.skip env_ok ?_
    intro _
    refine RA.seq hd <| RA.par (md := [some [], some [], some [], some [], some [], some [], some [], some [], some [], none, some [], some []]) env_ok (hd.up (by omega)) (by kernel_rfl) <| PQ.ps [(7, (.int .u64 ((m : Nat) : Int)))] rfl <| pP 8 (.int .u64 (((m / 256) : Nat) : Int)) rfl (r_bin rfl rfl rfl (b_quoN (a := m) (c := 256) (by decide) (u64_eq (by omega)))) <| PQ.ps [(9, (.int .i64 (((k + 1) : Nat) : Int)))] rfl <| pP 10 (.int .i64 ((((k + 1) - 1) : Nat) : Int)) rfl (r_bin rfl rfl rfl (b_sub (i64_eq (by omega)))) <| pC 11 rfl rfl (ih (m / 256) (by omega) (by omega)) fun n1 hn1 => PQ.ps [(12, (.int .u64 ((m : Nat) : Int)))] rfl <| pP 13 (.int .u64 (((m % 256) : Nat) : Int)) rfl (r_bin rfl rfl rfl (b_remN (a := m) (c := 256) (by decide))) <| pP 14 (.int .u8 (((UInt8.ofNat (m % 256)).toNat : Nat) : Int)) rfl (r_cvt rfl rfl rfl rfl rfl ⟨_, rfl⟩ (wrap_u8n _)) <| PQ.op (dst := (some 15)) (v := (.slice (some ⟨n1, 0, none⟩) 1 0)) (n1 := (n1 + 1)) (d1 := [(n1, some ⟨(bc [(UInt8.ofNat (m % 256))]), 1, 5, true⟩)]) rfl rfl rfl noStore nOK (by kernel_rfl) (by omega) (kp1 (wr_new (by omega) (by omega))) ?_
    refine PQ.pure (dst := (some 16)) (v := (.string (bstr (([(UInt8.ofNat (m % 256))].drop 0).take 1)))) rfl rfl rfl _ (sA (V := [(n1, some ⟨(bc [(UInt8.ofNat (m % 256))]), 1, 5, true⟩)]) (by kernel_rfl) (by kernel_rfl)) (r_b2s rfl rfl rfl rfl rfl rfl rfl rfl get_here (by rw [show ([(UInt8.ofNat (m % 256))] : List UInt8).length = 1 from rfl]; omega)) <| pP 17 (.string ((bstr (putL (m / 256) k)) ++ (bstr (([(UInt8.ofNat (m % 256))].drop 0).take 1)))) rfl (r_cat rfl rfl rfl (by (try simp only [ByteArray.size_append, bstr_size, size_lit, List.size_toArray, List.length_cons, List.length_nil, List.length_take, List.length_drop, List.length_replicate, putL_len]); try omega)) <| PQ.ps [(4, (.string ((bstr (putL (m / 256) k)) ++ (bstr (([(UInt8.ofNat (m % 256))].drop 0).take 1)))))] rfl <| PQ.done (d := [(n1, some ⟨(bc [(UInt8.ofNat (m % 256))]), 1, 5, true⟩)]) (by kernel_rfl) fun _ => ?_
    refine RA.ret env_ok ?_
    exact lf (.string ((bstr (putL (m / 256) k)) ++ (bstr (([(UInt8.ofNat (m % 256))].drop 0).take 1)))) (by rw [one]; exact congrArg Value.string (L_ext (by rw [L_append, L_bstr, L_bstr, L_bstr]; rfl)))
   end Go.Proofs.Ytdiofapingdlmaa.Vt
/- F7: walks through functions of the program, by the calculus; written by a program of this workplace. -/
namespace Go.Proofs.Ytdiofapingdlmaa.Vt
open Go Go.Proofs Go.Proofs.YtdiofapingdlmaaV
set_option maxRecDepth 100000
set_option linter.unusedVariables false
set_option linter.unusedSimpArgs false
set_option maxHeartbeats 8000000
theorem sNewR {n : Nat} {σ : Store} (hd : Dom n σ)    : CQ Try.prog noDen 9 [] n σ (fun v n' d => ∃ i, n ≤ i ∧ i < n' ∧ v = .pointer (some ⟨i, 0, some 0⟩) ∧ d = [(i, some ⟨[[(.slice none 0 0)]], 1, 54, true⟩)]) := by
 refine CQ.body (E := env) env_ok hd rfl rfl (by show _ ≤ _; exact of_decide_eq_true (by kernel_rfl)) ?_
 refine RA.sR hd env_ok <| OA.ps [(0, (.pointer none))] rfl <| OA.nil fun _ => RA.sR hd env_ok <| oP 1 (.agg ⟨[(.slice none 0 0)]⟩) rfl (by kernel_rfl) <| o1 (some 2) (.pointer (some ⟨n, 0, some 0⟩)) (n + 1) (n, some ⟨[[(.slice none 0 0)]], 1, 54, true⟩) rfl <| OA.ps [(0, (.pointer (some ⟨n, 0, some 0⟩)))] rfl <| OA.nil fun _ => ?_
 refine RA.ret env_ok ?_
 refine ⟨.inr rfl, [(.pointer (some ⟨n, 0, some 0⟩))], (resL_cons rfl resL_nil), [(n, some ⟨[[(.slice none 0 0)]], 1, 54, true⟩)], (Less.refl _ _ _), ⟨n, by omega, by omega, rfl, rfl⟩⟩
theorem sLen0 {σ : Store} (r : Nat) (hr : σ r = some ⟨[[(.slice none 0 0)]], 1, 54, true⟩)  : PS Try.prog noDen 13 [(.pointer (some ⟨r, 0, some 0⟩))] σ (.int .i64 0) := by
 refine PS.body (E := env) env_ok rfl rfl (by show _ ≤ _; exact of_decide_eq_true (by kernel_rfl)) (fun n hd => ?_)
 have lhr := hd.lt hr
 refine RA.sR hd env_ok <| OA.ps [(2, (.int .i64 0))] rfl <| OA.nil fun _ => RA.seq hd <| RA.sR hd env_ok <| OA.ps [(3, (.pointer (some ⟨r, 0, some 0⟩))), (4, yF)] rfl <| OA.nil fun _ => RA.condF rfl <| RA.skip env_ok ?_
 intro _
 refine RA.sR hd env_ok <| OA.ps [(5, (.pointer (some ⟨r, 0, some 0⟩))), (6, (.pointer (some ⟨r, 0, some 0⟩))), (7, (.pointer (some ⟨r, 0, some 0⟩)))] rfl <| oL 8 (.slice none 0 0) hr <| OA.ps [(9, (.int .i64 0)), (2, (.int .i64 0))] rfl <| OA.nil fun _ => ?_
 refine RA.ret env_ok ?_
 exact lf (.int .i64 0) rfl
theorem sTakeB2 {n : Nat} {σ : Store} (hd : Dom n σ) (r : Nat) (i : BitVec 32) (N K : Nat) (t : ByteArray) (hs : (mkX i N K t).size < 9223372036854775808) (hN : N < 4294967296) (hK : K < 4294967296) (hp : pOk (mkX i N K t)) (hk : K = 0) (hge : t.size = N) (ha5 : N ≤ 500) (hr : σ r = some ⟨[[(.slice none 0 0)]], 1, 54, true⟩) : CQ Try.prog noDen 10 [(.pointer (some ⟨r, 0, some 0⟩)), (.string (mkX i N K t))] n σ (fun v n' d => v = (.tuple ⟨[(.agg ⟨[(W i), (.string t)]⟩), (.bool true), (.int .i64 0)]⟩) ∧ ∃ k m, d = [(r, some ⟨[[(.slice (some ⟨k, 0, none⟩) m 0)]], 1, 54, true⟩)]) := by
  have h := sTakeB hd r (mkX i N K t) hs hp (by rw [at8 i N K t hK]; exact hk) (by rw [atR, at4 i N K t hN]; exact hge) (by rw [at4 i N K t hN]; exact ha5) hr
  rw [at0, atR] at h
  exact h
theorem lReads {n : Nat} {σ : Store} (hd : Dom n σ) (s : ByteArray) (i : BitVec 32) (a0 a1 : Int) (hs : s.size < 9223372036854775808)   : CQ Try.prog noDen 4 [(.string s), (W i), (.agg ⟨[(.int .i64 a0), (.int .i64 a1)]⟩)] n σ (fun v n' d => v = .bool true) := by
 refine CQ.body (E := env) env_ok hd rfl rfl (by show _ ≤ _; exact of_decide_eq_true (by kernel_rfl)) ?_
 refine RA.sR hd env_ok <| o1 (some 5) (.pointer (some ⟨n, 0, some 0⟩)) (n + 1) (n, some ⟨[[(.int .i64 a0), (.int .i64 a1)]], 2, 37, true⟩) rfl <| OA.ps [(6, yF)] rfl <| OA.nil fun _ => RA.sR hd env_ok <| OA.ps [(19, (.string s)), (20, (.string s)), (21, (.int .i64 ((s.size : Nat) : Int)))] rfl <| oP 22 (.int .i64 (((min s.size 600) : Nat) : Int)) rfl (r_min (a := s.size) (b := 600) rfl rfl rfl) <| oP 23 (.string (s.extract 0 (min s.size 600))) rfl (r_cut (a := 0) (b := (min s.size 600)) rfl rfl (fun _ => rfl) (fun _ => rfl) rfl rfl rfl bound_nat (by omega) (by omega) rfl) <| OA.ps [(7, (.string (s.extract 0 (min s.size 600))))] rfl <| OA.nil fun _ => ?_
 have hts : (s.extract 0 (min s.size 600)).size = min s.size 600 := by rw [size_cut _ _ _ (by omega)]; omega
 refine RA.seq hd <| RA.par (md := [some [], some [n], some [], some [], some [n], some [], some [], some []]) env_ok (hd.of (by omega) (kb1 (by omega))) (by kernel_rfl) <| pP 24 (.pointer (some ⟨n, 0, some 0⟩)) rfl (r_iaA (l := 0) rfl rfl rfl rfl rfl rfl (by omega) (by omega) (by show 0 + 0 * 1 = 0; omega)) <| pQl 25 (.int .i64 a0) get_here ?_
 have hm1 := andN_le a0 1023 (by decide)
 refine pP 26 (.int .i64 (((andN a0 1023) : Nat) : Int)) rfl (r_bin rfl rfl rfl (b_andN a0 1023 (by decide))) <| pP 27 (.pointer (some ⟨n, 0, some 1⟩)) rfl (r_iaA (l := 1) rfl rfl rfl rfl rfl rfl (by omega) (by omega) (by show 0 + 1 * 1 = 1; omega)) <| pQl 28 (.int .i64 a1) get_here ?_
 have hm2 := andN_le a1 1023 (by decide)
 refine pP 29 (.int .i64 (((andN a1 1023) : Nat) : Int)) rfl (r_bin rfl rfl rfl (b_andN a1 1023 (by decide))) <| PQ.ps [(8, (.int .i64 (((andN a0 1023) : Nat) : Int))), (9, (.int .i64 (((andN a1 1023) : Nat) : Int)))] rfl <| PQ.done (d := []) (by kernel_rfl) fun _ => RA.sR hd env_ok <| OA.ps [(30, (W i))] rfl <| oP 31 (.int .u64 ((i.toNat : Nat) : Int)) rfl (r_cvt rfl rfl rfl rfl rfl ⟨_, rfl⟩ (u64_eq (by have := (i).isLt; omega))) <| oC 32 (hd.of (by omega) (kb1 (by omega))) rfl rfl (bPut 4 i.toNat (by have := i.isLt; omega) (by decide)) fun n3 hn3 => OA.ps [(33, (.int .i64 (((andN a0 1023) : Nat) : Int)))] rfl <| oP 34 (.int .u64 (((andN a0 1023) : Nat) : Int)) rfl (r_cvt rfl rfl rfl rfl rfl ⟨_, rfl⟩ (u64_eq (by omega))) <| oC 35 (hd.of (by omega) (kb1 (by omega))) rfl rfl (bPut 4 (andN a0 1023) (by have := i.isLt; omega) (by decide)) fun n4 hn4 => oP 36 (.string ((bstr (putL i.toNat 4)) ++ (bstr (putL (andN a0 1023) 4)))) rfl (r_cat rfl rfl rfl (by (try simp only [ByteArray.size_append, bstr_size, size_lit, List.size_toArray, List.length_cons, List.length_nil, List.length_take, List.length_drop, List.length_replicate, putL_len, hts]); try omega)) ?_
 refine OA.ps [(37, (.int .i64 (((andN a1 1023) : Nat) : Int)))] rfl <| oP 38 (.int .u64 (((andN a1 1023) : Nat) : Int)) rfl (r_cvt rfl rfl rfl rfl rfl ⟨_, rfl⟩ (u64_eq (by omega))) <| oC 39 (hd.of (by omega) (kb1 (by omega))) rfl rfl (bPut 4 (andN a1 1023) (by have := i.isLt; omega) (by decide)) fun n5 hn5 => oP 40 (.string (((bstr (putL i.toNat 4)) ++ (bstr (putL (andN a0 1023) 4))) ++ (bstr (putL (andN a1 1023) 4)))) rfl (r_cat rfl rfl rfl (by (try simp only [ByteArray.size_append, bstr_size, size_lit, List.size_toArray, List.length_cons, List.length_nil, List.length_take, List.length_drop, List.length_replicate, putL_len, hts]); try omega)) <| OA.ps [(41, (.string (s.extract 0 (min s.size 600))))] rfl <| oP 42 (.string ((((bstr (putL i.toNat 4)) ++ (bstr (putL (andN a0 1023) 4))) ++ (bstr (putL (andN a1 1023) 4))) ++ (s.extract 0 (min s.size 600)))) rfl (r_cat rfl rfl rfl (by (try simp only [ByteArray.size_append, bstr_size, size_lit, List.size_toArray, List.length_cons, List.length_nil, List.length_take, List.length_drop, List.length_replicate, putL_len, hts]); try omega)) <| OA.ps [(10, (.string ((((bstr (putL i.toNat 4)) ++ (bstr (putL (andN a0 1023) 4))) ++ (bstr (putL (andN a1 1023) 4))) ++ (s.extract 0 (min s.size 600)))))] rfl <| OA.nil fun _ => ?_
 have hxs := mkX_size i (andN a0 1023) (andN a1 1023) (s.extract 0 (min s.size 600))
 have hx4 := at4 i (andN a0 1023) (andN a1 1023) (s.extract 0 (min s.size 600)) (by omega)
 have hx8 := at8 i (andN a0 1023) (andN a1 1023) (s.extract 0 (min s.size 600)) (by omega)
 have hx0 := at0 i (andN a0 1023) (andN a1 1023) (s.extract 0 (min s.size 600))
 have hxr := atR i (andN a0 1023) (andN a1 1023) (s.extract 0 (min s.size 600))
 refine RA.rb [(0, (.string s)), (1, (W i)), (2, (.agg ⟨[(.int .i64 a0), (.int .i64 a1)]⟩)), (5, (.pointer (some ⟨n, 0, some 0⟩))), (6, yF), (7, (.string (s.extract 0 (min s.size 600)))), (8, (.int .i64 (((andN a0 1023) : Nat) : Int))), (9, (.int .i64 (((andN a1 1023) : Nat) : Int))), (10, (.string (mkX i (andN a0 1023) (andN a1 1023) (s.extract 0 (min s.size 600)))))] rfl (fun τr6 => ?_)
 refine RA.sR hd env_ok ?_
 refine OA.call (dst := (some 43)) (all := []) rfl rfl rfl rfl rfl rfl rfl rfl (CQ.imp (sNewR (hd.of (by omega) (kb1 (by omega)))) ?_)
 rintro _ n7 _ ⟨rn7, p1n7, p2n7, rfl, rfl⟩ hn7
 refine OA.app1 ?_
 refine OA.ps [(11, (.pointer (some ⟨rn7, 0, some 0⟩)))] rfl <| OA.nil fun _ => RA.sR hd env_ok <| OA.ps [(45, (.pointer (some ⟨rn7, 0, some 0⟩))), (46, (.string (mkX i (andN a0 1023) (andN a1 1023) (s.extract 0 (min s.size 600)))))] rfl ?_
 by_cases hc1 : pOk (mkX i (andN a0 1023) (andN a1 1023) (s.extract 0 (min s.size 600)))
 ·
  by_cases hc2 : (s.extract 0 (min s.size 600)).size < (andN a0 1023)
  ·
   have hpf := pOk_f hc1
   rw [hx4, hx8, hxr] at hpf
   refine OA.call (dst := (some 47)) (all := [(.pointer (some ⟨rn7, 0, some 0⟩)), (.string (mkX i (andN a0 1023) (andN a1 1023) (s.extract 0 (min s.size 600))))]) rfl rfl rfl rfl rfl rfl rfl rfl (CQ.imp (sTakeA (hd.of (by omega) (kb2 (by omega))) rn7 (mkX i (andN a0 1023) (andN a1 1023) (s.extract 0 (min s.size 600))) (by omega) hc1 (by rw [hxr, hx4]; exact hc2) get_here) ?_)
   rintro _ n8 _ ⟨rfl, kn8, mn8, rfl⟩ hn8
   refine OA.app1 ?_
   refine OA.ps [(44, (.tuple ⟨[(.agg ⟨[(.int .u32 0), (.string ByteArray.empty)]⟩), yF, (.int .i64 0)]⟩)), (48, (.agg ⟨[(.int .u32 0), (.string ByteArray.empty)]⟩)), (49, yF), (50, (.int .i64 0))] rfl <| o1 (some 12) (.pointer (some ⟨n8, 0, some 0⟩)) (n8 + 1) (n8, some ⟨[[(.int .u32 0), (.string ByteArray.empty)]], 2, 26, true⟩) rfl <| o1 none yU (n8 + 1) (n8, some ⟨[[(.int .u32 0), (.string ByteArray.empty)]], 2, 26, true⟩) (rS get_here) <| OA.ps [(13, yF), (14, (.int .i64 0))] rfl <| OA.nil fun _ => RA.sR hd env_ok <| OA.ps [(51, (.int .i64 (((andN a1 1023) : Nat) : Int)))] rfl <| oP 52 (.int .i64 ((((andN a1 1023) % 500) : Nat) : Int)) rfl (r_bin rfl rfl rfl (b_remN (a := (andN a1 1023)) (c := 500) (by decide))) ?_
   by_cases hc3 : ((((andN a1 1023) % 500) : Nat) : Int) = 0
   ·
    refine oP 53 yT rfl (Eq.trans (r_bin rfl rfl rfl (b_eql rfl)) (dT hc3)) <| OA.ps [(54, yT), (55, (.int .i64 (((andN a1 1023) : Nat) : Int))), (56, (.int .i64 (((andN a0 1023) : Nat) : Int)))] rfl ?_
    by_cases hc4 : (((andN a1 1023) : Nat) : Int) ≤ (((andN a0 1023) : Nat) : Int)
    ·
     refine oP 57 yT rfl (Eq.trans (r_bin rfl rfl rfl (b_leq rfl)) (dT hc4)) <| OA.ps [(58, yT), (59, yT), (60, (.string (s.extract 0 (min s.size 600)))), (61, (.int .i64 (((s.extract 0 (min s.size 600)).size : Nat) : Int))), (62, (.int .i64 (((andN a0 1023) : Nat) : Int))), (63, (.int .i64 (((andN a1 1023) : Nat) : Int)))] rfl <| oP 64 (.int .i64 ((((andN a0 1023) - (andN a1 1023)) : Nat) : Int)) rfl (r_bin rfl rfl rfl (b_sub (i64_eq (by omega)))) <| oP 65 (.int .i64 (((min ((andN a0 1023) - (andN a1 1023)) 500) : Nat) : Int)) rfl (r_min (a := ((andN a0 1023) - (andN a1 1023))) (b := 500) rfl rfl rfl) ?_
     by_cases hc5 : (((s.extract 0 (min s.size 600)).size : Nat) : Int) = (((min ((andN a0 1023) - (andN a1 1023)) 500) : Nat) : Int)
     ·
      refine oP 66 yT rfl (Eq.trans (r_bin rfl rfl rfl (b_eql rfl)) (dT hc5)) <| OA.ps [(67, yT), (68, yT), (69, (.string (s.extract 0 (min s.size 600)))), (70, (.int .i64 (((s.extract 0 (min s.size 600)).size : Nat) : Int)))] rfl ?_
      by_cases hc6 : 0 < (((s.extract 0 (min s.size 600)).size : Nat) : Int)
      ·
       refine oP 71 yT rfl (Eq.trans (r_bin rfl rfl rfl (b_gtr rfl)) (dT hc6)) <| OA.ps [(72, yT)] rfl <| OA.offs 73 2 rfl <| OA.ps [(75, yT), (76, yT), (15, yT)] rfl <| OA.nil fun _ => RA.rb [(0, (.string s)), (1, (W i)), (2, (.agg ⟨[(.int .i64 a0), (.int .i64 a1)]⟩)), (5, (.pointer (some ⟨n, 0, some 0⟩))), (6, yF), (7, (.string (s.extract 0 (min s.size 600)))), (8, (.int .i64 (((andN a0 1023) : Nat) : Int))), (9, (.int .i64 (((andN a1 1023) : Nat) : Int))), (10, (.string (mkX i (andN a0 1023) (andN a1 1023) (s.extract 0 (min s.size 600))))), (11, (.pointer (some ⟨rn7, 0, some 0⟩))), (12, (.pointer (some ⟨n8, 0, some 0⟩))), (13, yF), (14, (.int .i64 0)), (15, yT)] rfl (fun τr9 => ?_)
       refine RA.sR hd env_ok <| OA.ps [(78, (.pointer (some ⟨rn7, 0, some 0⟩))), (79, (.string (s.extract 0 (min s.size 600)))), (80, (.string (s.extract 0 (min s.size 600)))), (81, (.int .i64 (((s.extract 0 (min s.size 600)).size : Nat) : Int)))] rfl <| oP 82 (.int .i64 (((min (s.extract 0 (min s.size 600)).size 11) : Nat) : Int)) rfl (r_min (a := (s.extract 0 (min s.size 600)).size) (b := 11) rfl rfl rfl) <| oP 83 (.string ((s.extract 0 (min s.size 600)).extract 0 (min (s.extract 0 (min s.size 600)).size 11))) rfl (r_cut (a := 0) (b := (min (s.extract 0 (min s.size 600)).size 11)) rfl rfl (fun _ => rfl) (fun _ => rfl) rfl rfl rfl bound_nat (by omega) (by omega) rfl) ?_
       refine OA.call (dst := (some 84)) (all := [(.pointer (some ⟨rn7, 0, some 0⟩)), (.string ((s.extract 0 (min s.size 600)).extract 0 (min (s.extract 0 (min s.size 600)).size 11)))]) rfl rfl rfl rfl rfl rfl rfl rfl (CQ.imp (sTakeN (hd.of (by omega) (kb5 (by omega))) rn7 ((s.extract 0 (min s.size 600)).extract 0 (min (s.extract 0 (min s.size 600)).size 11)) (by rw [size_cut _ _ _ (by omega)]; omega) (fun hq => by have hq1 := (pOk_f hq).1; rw [size_cut _ _ _ (by omega)] at hq1; omega)) ?_)
       rintro _ n10 _ ⟨rfl, rfl⟩ hn10
       refine OA.app0 ?_
       refine OA.ps [(77, (.tuple ⟨[(.agg ⟨[(.int .u32 0), (.string ByteArray.empty)]⟩), yF, (.int .i64 3)]⟩)), (85, (.agg ⟨[(.int .u32 0), (.string ByteArray.empty)]⟩)), (86, yF), (87, (.int .i64 3))] rfl <| o1 (some 16) (.pointer (some ⟨n10, 0, some 0⟩)) (n10 + 1) (n10, some ⟨[[(.int .u32 0), (.string ByteArray.empty)]], 2, 26, true⟩) rfl <| o1 none yU (n10 + 1) (n10, some ⟨[[(.int .u32 0), (.string ByteArray.empty)]], 2, 26, true⟩) (rS get_here) <| OA.ps [(17, yF), (18, (.int .i64 3))] rfl <| OA.nil fun _ => RA.seq hd <| RA.sR hd env_ok <| OA.ps [(88, yT), (89, yF)] rfl <| OA.nil fun _ => RA.condF rfl <| RA.skip env_ok ?_
       intro _
       refine RA.sR hd env_ok <| oC 108 (hd.of (by omega) (kb7 (by omega))) rfl rfl kAwake fun n11 hn11 => OA.ps [(109, yT), (110, (.int .i64 0))] rfl <| oP 111 yT rfl (r_bin rfl rfl rfl (b_eql rfl)) <| OA.ps [(112, yT), (113, yT), (114, yF), (115, (.int .i64 (((andN a0 1023) : Nat) : Int)))] rfl ?_
       by_cases hc7 : (((andN a0 1023) : Nat) : Int) ≤ 500
       ·
        refine oP 116 yT rfl (Eq.trans (r_bin rfl rfl rfl (b_leq rfl)) (dT hc7)) <| OA.ps [(117, yF), (118, yF), (119, yF)] rfl <| OA.offs 120 9 rfl <| OA.ps [(129, yF), (130, yF)] rfl <| OA.offs 131 2 rfl <| OA.ps [(133, yF), (6, yF)] rfl <| OA.nil fun _ => RA.rb [(0, (.string s)), (1, (W i)), (2, (.agg ⟨[(.int .i64 a0), (.int .i64 a1)]⟩)), (5, (.pointer (some ⟨n, 0, some 0⟩))), (6, yF), (7, (.string (s.extract 0 (min s.size 600)))), (8, (.int .i64 (((andN a0 1023) : Nat) : Int))), (9, (.int .i64 (((andN a1 1023) : Nat) : Int))), (10, (.string (mkX i (andN a0 1023) (andN a1 1023) (s.extract 0 (min s.size 600))))), (11, (.pointer (some ⟨rn7, 0, some 0⟩))), (12, (.pointer (some ⟨n8, 0, some 0⟩))), (13, yF), (14, (.int .i64 0)), (15, yT), (18, (.int .i64 3)), (89, yF)] rfl (fun τr12 => ?_)
        refine RA.ret env_ok ?_
        have hq9 := hc1
        unfold pOk at hq9
        rw [hx4, hx8, hxs] at hq9
        refine ⟨.inr rfl, [(.bool false)], (resL_cons rfl resL_nil), [], (LsO fan), (by exfalso; omega)⟩
       ·
        refine oP 116 yF rfl (Eq.trans (r_bin rfl rfl rfl (b_leq rfl)) (dF hc7)) <| OA.ps [(117, yT), (118, yT), (119, yT), (120, yF), (121, yT), (122, yT)] rfl <| OA.offs 123 5 rfl <| OA.ps [(128, yT), (129, yT), (130, yT), (131, (.int .i64 3))] rfl <| oP 132 yT rfl (r_bin rfl rfl rfl (b_eql rfl)) <| OA.ps [(133, yT), (6, yT)] rfl <| OA.nil fun _ => RA.rb [(0, (.string s)), (1, (W i)), (2, (.agg ⟨[(.int .i64 a0), (.int .i64 a1)]⟩)), (5, (.pointer (some ⟨n, 0, some 0⟩))), (6, yT), (7, (.string (s.extract 0 (min s.size 600)))), (8, (.int .i64 (((andN a0 1023) : Nat) : Int))), (9, (.int .i64 (((andN a1 1023) : Nat) : Int))), (10, (.string (mkX i (andN a0 1023) (andN a1 1023) (s.extract 0 (min s.size 600))))), (11, (.pointer (some ⟨rn7, 0, some 0⟩))), (12, (.pointer (some ⟨n8, 0, some 0⟩))), (13, yF), (14, (.int .i64 0)), (15, yT), (18, (.int .i64 3)), (89, yF)] rfl (fun τr13 => ?_)
        refine RA.ret env_ok ?_
        refine ⟨.inr rfl, [(.bool true)], (resL_cons rfl resL_nil), [], (LsO fan), rfl⟩
      ·
       refine oP 71 yF rfl (Eq.trans (r_bin rfl rfl rfl (b_gtr rfl)) (dF hc6)) <| OA.ps [(72, yF), (73, (.int .i64 (((andN a0 1023) : Nat) : Int)))] rfl ?_
       by_cases hc8 : (((andN a0 1023) : Nat) : Int) = 0
       ·
        refine oP 74 yT rfl (Eq.trans (r_bin rfl rfl rfl (b_eql rfl)) (dT hc8)) <| OA.ps [(75, yT), (76, yT), (15, yT)] rfl <| OA.nil fun _ => RA.rb [(0, (.string s)), (1, (W i)), (2, (.agg ⟨[(.int .i64 a0), (.int .i64 a1)]⟩)), (5, (.pointer (some ⟨n, 0, some 0⟩))), (6, yF), (7, (.string (s.extract 0 (min s.size 600)))), (8, (.int .i64 (((andN a0 1023) : Nat) : Int))), (9, (.int .i64 (((andN a1 1023) : Nat) : Int))), (10, (.string (mkX i (andN a0 1023) (andN a1 1023) (s.extract 0 (min s.size 600))))), (11, (.pointer (some ⟨rn7, 0, some 0⟩))), (12, (.pointer (some ⟨n8, 0, some 0⟩))), (13, yF), (14, (.int .i64 0)), (15, yT)] rfl (fun τr14 => ?_)
        refine RA.sR hd env_ok <| OA.ps [(78, (.pointer (some ⟨rn7, 0, some 0⟩))), (79, (.string (s.extract 0 (min s.size 600)))), (80, (.string (s.extract 0 (min s.size 600)))), (81, (.int .i64 (((s.extract 0 (min s.size 600)).size : Nat) : Int)))] rfl <| oP 82 (.int .i64 (((min (s.extract 0 (min s.size 600)).size 11) : Nat) : Int)) rfl (r_min (a := (s.extract 0 (min s.size 600)).size) (b := 11) rfl rfl rfl) <| oP 83 (.string ((s.extract 0 (min s.size 600)).extract 0 (min (s.extract 0 (min s.size 600)).size 11))) rfl (r_cut (a := 0) (b := (min (s.extract 0 (min s.size 600)).size 11)) rfl rfl (fun _ => rfl) (fun _ => rfl) rfl rfl rfl bound_nat (by omega) (by omega) rfl) ?_
        refine OA.call (dst := (some 84)) (all := [(.pointer (some ⟨rn7, 0, some 0⟩)), (.string ((s.extract 0 (min s.size 600)).extract 0 (min (s.extract 0 (min s.size 600)).size 11)))]) rfl rfl rfl rfl rfl rfl rfl rfl (CQ.imp (sTakeN (hd.of (by omega) (kb5 (by omega))) rn7 ((s.extract 0 (min s.size 600)).extract 0 (min (s.extract 0 (min s.size 600)).size 11)) (by rw [size_cut _ _ _ (by omega)]; omega) (fun hq => by have hq1 := (pOk_f hq).1; rw [size_cut _ _ _ (by omega)] at hq1; omega)) ?_)
        rintro _ n15 _ ⟨rfl, rfl⟩ hn15
        refine OA.app0 ?_
        refine OA.ps [(77, (.tuple ⟨[(.agg ⟨[(.int .u32 0), (.string ByteArray.empty)]⟩), yF, (.int .i64 3)]⟩)), (85, (.agg ⟨[(.int .u32 0), (.string ByteArray.empty)]⟩)), (86, yF), (87, (.int .i64 3))] rfl <| o1 (some 16) (.pointer (some ⟨n15, 0, some 0⟩)) (n15 + 1) (n15, some ⟨[[(.int .u32 0), (.string ByteArray.empty)]], 2, 26, true⟩) rfl <| o1 none yU (n15 + 1) (n15, some ⟨[[(.int .u32 0), (.string ByteArray.empty)]], 2, 26, true⟩) (rS get_here) <| OA.ps [(17, yF), (18, (.int .i64 3))] rfl <| OA.nil fun _ => RA.seq hd <| RA.sR hd env_ok <| OA.ps [(88, yT), (89, yF)] rfl <| OA.nil fun _ => RA.condF rfl <| RA.skip env_ok ?_
        intro _
        refine RA.sR hd env_ok <| oC 108 (hd.of (by omega) (kb7 (by omega))) rfl rfl kAwake fun n16 hn16 => OA.ps [(109, yT), (110, (.int .i64 0))] rfl <| oP 111 yT rfl (r_bin rfl rfl rfl (b_eql rfl)) <| OA.ps [(112, yT), (113, yT), (114, yF), (115, (.int .i64 (((andN a0 1023) : Nat) : Int)))] rfl ?_
        by_cases hc9 : (((andN a0 1023) : Nat) : Int) ≤ 500
        ·
         refine oP 116 yT rfl (Eq.trans (r_bin rfl rfl rfl (b_leq rfl)) (dT hc9)) <| OA.ps [(117, yF), (118, yF), (119, yF)] rfl <| OA.offs 120 9 rfl <| OA.ps [(129, yF), (130, yF)] rfl <| OA.offs 131 2 rfl <| OA.ps [(133, yF), (6, yF)] rfl <| OA.nil fun _ => RA.rb [(0, (.string s)), (1, (W i)), (2, (.agg ⟨[(.int .i64 a0), (.int .i64 a1)]⟩)), (5, (.pointer (some ⟨n, 0, some 0⟩))), (6, yF), (7, (.string (s.extract 0 (min s.size 600)))), (8, (.int .i64 (((andN a0 1023) : Nat) : Int))), (9, (.int .i64 (((andN a1 1023) : Nat) : Int))), (10, (.string (mkX i (andN a0 1023) (andN a1 1023) (s.extract 0 (min s.size 600))))), (11, (.pointer (some ⟨rn7, 0, some 0⟩))), (12, (.pointer (some ⟨n8, 0, some 0⟩))), (13, yF), (14, (.int .i64 0)), (15, yT), (18, (.int .i64 3)), (89, yF)] rfl (fun τr17 => ?_)
         refine RA.ret env_ok ?_
         have hq9 := hc1
         unfold pOk at hq9
         rw [hx4, hx8, hxs] at hq9
         refine ⟨.inr rfl, [(.bool false)], (resL_cons rfl resL_nil), [], (LsO fan), (by exfalso; omega)⟩
        ·
         refine oP 116 yF rfl (Eq.trans (r_bin rfl rfl rfl (b_leq rfl)) (dF hc9)) <| OA.ps [(117, yT), (118, yT), (119, yT), (120, yF), (121, yT), (122, yT)] rfl <| OA.offs 123 5 rfl <| OA.ps [(128, yT), (129, yT), (130, yT), (131, (.int .i64 3))] rfl <| oP 132 yT rfl (r_bin rfl rfl rfl (b_eql rfl)) <| OA.ps [(133, yT), (6, yT)] rfl <| OA.nil fun _ => RA.rb [(0, (.string s)), (1, (W i)), (2, (.agg ⟨[(.int .i64 a0), (.int .i64 a1)]⟩)), (5, (.pointer (some ⟨n, 0, some 0⟩))), (6, yT), (7, (.string (s.extract 0 (min s.size 600)))), (8, (.int .i64 (((andN a0 1023) : Nat) : Int))), (9, (.int .i64 (((andN a1 1023) : Nat) : Int))), (10, (.string (mkX i (andN a0 1023) (andN a1 1023) (s.extract 0 (min s.size 600))))), (11, (.pointer (some ⟨rn7, 0, some 0⟩))), (12, (.pointer (some ⟨n8, 0, some 0⟩))), (13, yF), (14, (.int .i64 0)), (15, yT), (18, (.int .i64 3)), (89, yF)] rfl (fun τr18 => ?_)
         refine RA.ret env_ok ?_
         refine ⟨.inr rfl, [(.bool true)], (resL_cons rfl resL_nil), [], (LsO fan), rfl⟩
       ·
        refine oP 74 yF rfl (Eq.trans (r_bin rfl rfl rfl (b_eql rfl)) (dF hc8)) <| OA.ps [(75, yF), (76, yF), (15, yF)] rfl <| OA.nil fun _ => RA.rb [(0, (.string s)), (1, (W i)), (2, (.agg ⟨[(.int .i64 a0), (.int .i64 a1)]⟩)), (5, (.pointer (some ⟨n, 0, some 0⟩))), (6, yF), (7, (.string (s.extract 0 (min s.size 600)))), (8, (.int .i64 (((andN a0 1023) : Nat) : Int))), (9, (.int .i64 (((andN a1 1023) : Nat) : Int))), (10, (.string (mkX i (andN a0 1023) (andN a1 1023) (s.extract 0 (min s.size 600))))), (11, (.pointer (some ⟨rn7, 0, some 0⟩))), (12, (.pointer (some ⟨n8, 0, some 0⟩))), (13, yF), (14, (.int .i64 0)), (15, yF)] rfl (fun τr19 => ?_)
        refine RA.sR hd env_ok <| OA.ps [(78, (.pointer (some ⟨rn7, 0, some 0⟩))), (79, (.string (s.extract 0 (min s.size 600)))), (80, (.string (s.extract 0 (min s.size 600)))), (81, (.int .i64 (((s.extract 0 (min s.size 600)).size : Nat) : Int)))] rfl <| oP 82 (.int .i64 (((min (s.extract 0 (min s.size 600)).size 11) : Nat) : Int)) rfl (r_min (a := (s.extract 0 (min s.size 600)).size) (b := 11) rfl rfl rfl) <| oP 83 (.string ((s.extract 0 (min s.size 600)).extract 0 (min (s.extract 0 (min s.size 600)).size 11))) rfl (r_cut (a := 0) (b := (min (s.extract 0 (min s.size 600)).size 11)) rfl rfl (fun _ => rfl) (fun _ => rfl) rfl rfl rfl bound_nat (by omega) (by omega) rfl) ?_
        refine OA.call (dst := (some 84)) (all := [(.pointer (some ⟨rn7, 0, some 0⟩)), (.string ((s.extract 0 (min s.size 600)).extract 0 (min (s.extract 0 (min s.size 600)).size 11)))]) rfl rfl rfl rfl rfl rfl rfl rfl (CQ.imp (sTakeN (hd.of (by omega) (kb5 (by omega))) rn7 ((s.extract 0 (min s.size 600)).extract 0 (min (s.extract 0 (min s.size 600)).size 11)) (by rw [size_cut _ _ _ (by omega)]; omega) (fun hq => by have hq1 := (pOk_f hq).1; rw [size_cut _ _ _ (by omega)] at hq1; omega)) ?_)
        rintro _ n20 _ ⟨rfl, rfl⟩ hn20
        refine OA.app0 ?_
        refine OA.ps [(77, (.tuple ⟨[(.agg ⟨[(.int .u32 0), (.string ByteArray.empty)]⟩), yF, (.int .i64 3)]⟩)), (85, (.agg ⟨[(.int .u32 0), (.string ByteArray.empty)]⟩)), (86, yF), (87, (.int .i64 3))] rfl <| o1 (some 16) (.pointer (some ⟨n20, 0, some 0⟩)) (n20 + 1) (n20, some ⟨[[(.int .u32 0), (.string ByteArray.empty)]], 2, 26, true⟩) rfl <| o1 none yU (n20 + 1) (n20, some ⟨[[(.int .u32 0), (.string ByteArray.empty)]], 2, 26, true⟩) (rS get_here) <| OA.ps [(17, yF), (18, (.int .i64 3))] rfl <| OA.nil fun _ => RA.seq hd <| RA.sR hd env_ok <| OA.ps [(88, yF), (89, yT)] rfl <| OA.nil fun _ => RA.condT rfl <| RA.sR hd env_ok ?_
        refine oC 90 (hd.of (by omega) (kb7 (by omega))) rfl rfl kAwake fun n21 hn21 => OA.ps [(91, yT), (92, (.int .i64 0))] rfl <| oP 93 yF rfl (r_bin rfl rfl rfl (b_eql rfl)) <| OA.ps [(94, yF), (95, yF)] rfl <| OA.offs 96 2 rfl <| OA.ps [(98, yF), (99, yF)] rfl <| OA.offs 100 3 rfl <| OA.ps [(103, yF), (104, yF)] rfl <| OA.offs 105 2 rfl <| OA.ps [(107, yF), (6, yF)] rfl <| OA.nil fun _ => ?_
        refine RA.rb [(0, (.string s)), (1, (W i)), (2, (.agg ⟨[(.int .i64 a0), (.int .i64 a1)]⟩)), (5, (.pointer (some ⟨n, 0, some 0⟩))), (6, yF), (7, (.string (s.extract 0 (min s.size 600)))), (8, (.int .i64 (((andN a0 1023) : Nat) : Int))), (9, (.int .i64 (((andN a1 1023) : Nat) : Int))), (10, (.string (mkX i (andN a0 1023) (andN a1 1023) (s.extract 0 (min s.size 600))))), (11, (.pointer (some ⟨rn7, 0, some 0⟩))), (12, (.pointer (some ⟨n8, 0, some 0⟩))), (13, yF), (14, (.int .i64 0)), (15, yF), (18, (.int .i64 3)), (89, yT)] rfl (fun τr22 => ?_)
        refine RA.ret env_ok ?_
        have hq9 := hc1
        unfold pOk at hq9
        rw [hx4, hx8, hxs] at hq9
        refine ⟨.inr rfl, [(.bool false)], (resL_cons rfl resL_nil), [], (LsO fan), (by exfalso; omega)⟩
     ·
      refine oP 66 yF rfl (Eq.trans (r_bin rfl rfl rfl (b_eql rfl)) (dF hc5)) <| OA.ps [(67, yF), (68, yF)] rfl <| OA.offs 69 7 rfl <| OA.ps [(76, yF), (15, yF)] rfl <| OA.nil fun _ => RA.rb [(0, (.string s)), (1, (W i)), (2, (.agg ⟨[(.int .i64 a0), (.int .i64 a1)]⟩)), (5, (.pointer (some ⟨n, 0, some 0⟩))), (6, yF), (7, (.string (s.extract 0 (min s.size 600)))), (8, (.int .i64 (((andN a0 1023) : Nat) : Int))), (9, (.int .i64 (((andN a1 1023) : Nat) : Int))), (10, (.string (mkX i (andN a0 1023) (andN a1 1023) (s.extract 0 (min s.size 600))))), (11, (.pointer (some ⟨rn7, 0, some 0⟩))), (12, (.pointer (some ⟨n8, 0, some 0⟩))), (13, yF), (14, (.int .i64 0)), (15, yF)] rfl (fun τr23 => ?_)
      refine RA.sR hd env_ok <| OA.ps [(78, (.pointer (some ⟨rn7, 0, some 0⟩))), (79, (.string (s.extract 0 (min s.size 600)))), (80, (.string (s.extract 0 (min s.size 600)))), (81, (.int .i64 (((s.extract 0 (min s.size 600)).size : Nat) : Int)))] rfl <| oP 82 (.int .i64 (((min (s.extract 0 (min s.size 600)).size 11) : Nat) : Int)) rfl (r_min (a := (s.extract 0 (min s.size 600)).size) (b := 11) rfl rfl rfl) <| oP 83 (.string ((s.extract 0 (min s.size 600)).extract 0 (min (s.extract 0 (min s.size 600)).size 11))) rfl (r_cut (a := 0) (b := (min (s.extract 0 (min s.size 600)).size 11)) rfl rfl (fun _ => rfl) (fun _ => rfl) rfl rfl rfl bound_nat (by omega) (by omega) rfl) ?_
      refine OA.call (dst := (some 84)) (all := [(.pointer (some ⟨rn7, 0, some 0⟩)), (.string ((s.extract 0 (min s.size 600)).extract 0 (min (s.extract 0 (min s.size 600)).size 11)))]) rfl rfl rfl rfl rfl rfl rfl rfl (CQ.imp (sTakeN (hd.of (by omega) (kb5 (by omega))) rn7 ((s.extract 0 (min s.size 600)).extract 0 (min (s.extract 0 (min s.size 600)).size 11)) (by rw [size_cut _ _ _ (by omega)]; omega) (fun hq => by have hq1 := (pOk_f hq).1; rw [size_cut _ _ _ (by omega)] at hq1; omega)) ?_)
      rintro _ n24 _ ⟨rfl, rfl⟩ hn24
      refine OA.app0 ?_
      refine OA.ps [(77, (.tuple ⟨[(.agg ⟨[(.int .u32 0), (.string ByteArray.empty)]⟩), yF, (.int .i64 3)]⟩)), (85, (.agg ⟨[(.int .u32 0), (.string ByteArray.empty)]⟩)), (86, yF), (87, (.int .i64 3))] rfl <| o1 (some 16) (.pointer (some ⟨n24, 0, some 0⟩)) (n24 + 1) (n24, some ⟨[[(.int .u32 0), (.string ByteArray.empty)]], 2, 26, true⟩) rfl <| o1 none yU (n24 + 1) (n24, some ⟨[[(.int .u32 0), (.string ByteArray.empty)]], 2, 26, true⟩) (rS get_here) <| OA.ps [(17, yF), (18, (.int .i64 3))] rfl <| OA.nil fun _ => RA.seq hd <| RA.sR hd env_ok <| OA.ps [(88, yF), (89, yT)] rfl <| OA.nil fun _ => RA.condT rfl <| RA.sR hd env_ok ?_
      refine oC 90 (hd.of (by omega) (kb7 (by omega))) rfl rfl kAwake fun n25 hn25 => OA.ps [(91, yT), (92, (.int .i64 0))] rfl <| oP 93 yF rfl (r_bin rfl rfl rfl (b_eql rfl)) <| OA.ps [(94, yF), (95, yF)] rfl <| OA.offs 96 2 rfl <| OA.ps [(98, yF), (99, yF)] rfl <| OA.offs 100 3 rfl <| OA.ps [(103, yF), (104, yF)] rfl <| OA.offs 105 2 rfl <| OA.ps [(107, yF), (6, yF)] rfl <| OA.nil fun _ => ?_
      refine RA.rb [(0, (.string s)), (1, (W i)), (2, (.agg ⟨[(.int .i64 a0), (.int .i64 a1)]⟩)), (5, (.pointer (some ⟨n, 0, some 0⟩))), (6, yF), (7, (.string (s.extract 0 (min s.size 600)))), (8, (.int .i64 (((andN a0 1023) : Nat) : Int))), (9, (.int .i64 (((andN a1 1023) : Nat) : Int))), (10, (.string (mkX i (andN a0 1023) (andN a1 1023) (s.extract 0 (min s.size 600))))), (11, (.pointer (some ⟨rn7, 0, some 0⟩))), (12, (.pointer (some ⟨n8, 0, some 0⟩))), (13, yF), (14, (.int .i64 0)), (15, yF), (18, (.int .i64 3)), (89, yT)] rfl (fun τr26 => ?_)
      refine RA.ret env_ok ?_
      have hq9 := hc1
      unfold pOk at hq9
      rw [hx4, hx8, hxs] at hq9
      refine ⟨.inr rfl, [(.bool false)], (resL_cons rfl resL_nil), [], (LsO fan), (by exfalso; omega)⟩
    ·
     refine oP 57 yF rfl (Eq.trans (r_bin rfl rfl rfl (b_leq rfl)) (dF hc4)) <| OA.ps [(58, yF), (59, yF)] rfl <| OA.offs 60 7 rfl <| OA.ps [(67, yF), (68, yF)] rfl <| OA.offs 69 7 rfl <| OA.ps [(76, yF), (15, yF)] rfl <| OA.nil fun _ => RA.rb [(0, (.string s)), (1, (W i)), (2, (.agg ⟨[(.int .i64 a0), (.int .i64 a1)]⟩)), (5, (.pointer (some ⟨n, 0, some 0⟩))), (6, yF), (7, (.string (s.extract 0 (min s.size 600)))), (8, (.int .i64 (((andN a0 1023) : Nat) : Int))), (9, (.int .i64 (((andN a1 1023) : Nat) : Int))), (10, (.string (mkX i (andN a0 1023) (andN a1 1023) (s.extract 0 (min s.size 600))))), (11, (.pointer (some ⟨rn7, 0, some 0⟩))), (12, (.pointer (some ⟨n8, 0, some 0⟩))), (13, yF), (14, (.int .i64 0)), (15, yF)] rfl (fun τr27 => ?_)
     refine RA.sR hd env_ok <| OA.ps [(78, (.pointer (some ⟨rn7, 0, some 0⟩))), (79, (.string (s.extract 0 (min s.size 600)))), (80, (.string (s.extract 0 (min s.size 600)))), (81, (.int .i64 (((s.extract 0 (min s.size 600)).size : Nat) : Int)))] rfl <| oP 82 (.int .i64 (((min (s.extract 0 (min s.size 600)).size 11) : Nat) : Int)) rfl (r_min (a := (s.extract 0 (min s.size 600)).size) (b := 11) rfl rfl rfl) <| oP 83 (.string ((s.extract 0 (min s.size 600)).extract 0 (min (s.extract 0 (min s.size 600)).size 11))) rfl (r_cut (a := 0) (b := (min (s.extract 0 (min s.size 600)).size 11)) rfl rfl (fun _ => rfl) (fun _ => rfl) rfl rfl rfl bound_nat (by omega) (by omega) rfl) ?_
     refine OA.call (dst := (some 84)) (all := [(.pointer (some ⟨rn7, 0, some 0⟩)), (.string ((s.extract 0 (min s.size 600)).extract 0 (min (s.extract 0 (min s.size 600)).size 11)))]) rfl rfl rfl rfl rfl rfl rfl rfl (CQ.imp (sTakeN (hd.of (by omega) (kb5 (by omega))) rn7 ((s.extract 0 (min s.size 600)).extract 0 (min (s.extract 0 (min s.size 600)).size 11)) (by rw [size_cut _ _ _ (by omega)]; omega) (fun hq => by have hq1 := (pOk_f hq).1; rw [size_cut _ _ _ (by omega)] at hq1; omega)) ?_)
     rintro _ n28 _ ⟨rfl, rfl⟩ hn28
     refine OA.app0 ?_
     refine OA.ps [(77, (.tuple ⟨[(.agg ⟨[(.int .u32 0), (.string ByteArray.empty)]⟩), yF, (.int .i64 3)]⟩)), (85, (.agg ⟨[(.int .u32 0), (.string ByteArray.empty)]⟩)), (86, yF), (87, (.int .i64 3))] rfl <| o1 (some 16) (.pointer (some ⟨n28, 0, some 0⟩)) (n28 + 1) (n28, some ⟨[[(.int .u32 0), (.string ByteArray.empty)]], 2, 26, true⟩) rfl <| o1 none yU (n28 + 1) (n28, some ⟨[[(.int .u32 0), (.string ByteArray.empty)]], 2, 26, true⟩) (rS get_here) <| OA.ps [(17, yF), (18, (.int .i64 3))] rfl <| OA.nil fun _ => RA.seq hd <| RA.sR hd env_ok <| OA.ps [(88, yF), (89, yT)] rfl <| OA.nil fun _ => RA.condT rfl <| RA.sR hd env_ok ?_
     refine oC 90 (hd.of (by omega) (kb7 (by omega))) rfl rfl kAwake fun n29 hn29 => OA.ps [(91, yT), (92, (.int .i64 0))] rfl <| oP 93 yF rfl (r_bin rfl rfl rfl (b_eql rfl)) <| OA.ps [(94, yF), (95, yF)] rfl <| OA.offs 96 2 rfl <| OA.ps [(98, yF), (99, yF)] rfl <| OA.offs 100 3 rfl <| OA.ps [(103, yF), (104, yF)] rfl <| OA.offs 105 2 rfl <| OA.ps [(107, yF), (6, yF)] rfl <| OA.nil fun _ => ?_
     refine RA.rb [(0, (.string s)), (1, (W i)), (2, (.agg ⟨[(.int .i64 a0), (.int .i64 a1)]⟩)), (5, (.pointer (some ⟨n, 0, some 0⟩))), (6, yF), (7, (.string (s.extract 0 (min s.size 600)))), (8, (.int .i64 (((andN a0 1023) : Nat) : Int))), (9, (.int .i64 (((andN a1 1023) : Nat) : Int))), (10, (.string (mkX i (andN a0 1023) (andN a1 1023) (s.extract 0 (min s.size 600))))), (11, (.pointer (some ⟨rn7, 0, some 0⟩))), (12, (.pointer (some ⟨n8, 0, some 0⟩))), (13, yF), (14, (.int .i64 0)), (15, yF), (18, (.int .i64 3)), (89, yT)] rfl (fun τr30 => ?_)
     refine RA.ret env_ok ?_
     have hq9 := hc1
     unfold pOk at hq9
     rw [hx4, hx8, hxs] at hq9
     refine ⟨.inr rfl, [(.bool false)], (resL_cons rfl resL_nil), [], (LsO fan), (by exfalso; omega)⟩
   ·
    refine oP 53 yF rfl (Eq.trans (r_bin rfl rfl rfl (b_eql rfl)) (dF hc3)) <| OA.ps [(54, yF)] rfl <| OA.offs 55 3 rfl <| OA.ps [(58, yF), (59, yF)] rfl <| OA.offs 60 7 rfl <| OA.ps [(67, yF), (68, yF)] rfl <| OA.offs 69 7 rfl <| OA.ps [(76, yF), (15, yF)] rfl <| OA.nil fun _ => RA.rb [(0, (.string s)), (1, (W i)), (2, (.agg ⟨[(.int .i64 a0), (.int .i64 a1)]⟩)), (5, (.pointer (some ⟨n, 0, some 0⟩))), (6, yF), (7, (.string (s.extract 0 (min s.size 600)))), (8, (.int .i64 (((andN a0 1023) : Nat) : Int))), (9, (.int .i64 (((andN a1 1023) : Nat) : Int))), (10, (.string (mkX i (andN a0 1023) (andN a1 1023) (s.extract 0 (min s.size 600))))), (11, (.pointer (some ⟨rn7, 0, some 0⟩))), (12, (.pointer (some ⟨n8, 0, some 0⟩))), (13, yF), (14, (.int .i64 0)), (15, yF)] rfl (fun τr31 => ?_)
    refine RA.sR hd env_ok <| OA.ps [(78, (.pointer (some ⟨rn7, 0, some 0⟩))), (79, (.string (s.extract 0 (min s.size 600)))), (80, (.string (s.extract 0 (min s.size 600)))), (81, (.int .i64 (((s.extract 0 (min s.size 600)).size : Nat) : Int)))] rfl <| oP 82 (.int .i64 (((min (s.extract 0 (min s.size 600)).size 11) : Nat) : Int)) rfl (r_min (a := (s.extract 0 (min s.size 600)).size) (b := 11) rfl rfl rfl) <| oP 83 (.string ((s.extract 0 (min s.size 600)).extract 0 (min (s.extract 0 (min s.size 600)).size 11))) rfl (r_cut (a := 0) (b := (min (s.extract 0 (min s.size 600)).size 11)) rfl rfl (fun _ => rfl) (fun _ => rfl) rfl rfl rfl bound_nat (by omega) (by omega) rfl) ?_
    refine OA.call (dst := (some 84)) (all := [(.pointer (some ⟨rn7, 0, some 0⟩)), (.string ((s.extract 0 (min s.size 600)).extract 0 (min (s.extract 0 (min s.size 600)).size 11)))]) rfl rfl rfl rfl rfl rfl rfl rfl (CQ.imp (sTakeN (hd.of (by omega) (kb5 (by omega))) rn7 ((s.extract 0 (min s.size 600)).extract 0 (min (s.extract 0 (min s.size 600)).size 11)) (by rw [size_cut _ _ _ (by omega)]; omega) (fun hq => by have hq1 := (pOk_f hq).1; rw [size_cut _ _ _ (by omega)] at hq1; omega)) ?_)
    rintro _ n32 _ ⟨rfl, rfl⟩ hn32
    refine OA.app0 ?_
    refine OA.ps [(77, (.tuple ⟨[(.agg ⟨[(.int .u32 0), (.string ByteArray.empty)]⟩), yF, (.int .i64 3)]⟩)), (85, (.agg ⟨[(.int .u32 0), (.string ByteArray.empty)]⟩)), (86, yF), (87, (.int .i64 3))] rfl <| o1 (some 16) (.pointer (some ⟨n32, 0, some 0⟩)) (n32 + 1) (n32, some ⟨[[(.int .u32 0), (.string ByteArray.empty)]], 2, 26, true⟩) rfl <| o1 none yU (n32 + 1) (n32, some ⟨[[(.int .u32 0), (.string ByteArray.empty)]], 2, 26, true⟩) (rS get_here) <| OA.ps [(17, yF), (18, (.int .i64 3))] rfl <| OA.nil fun _ => RA.seq hd <| RA.sR hd env_ok <| OA.ps [(88, yF), (89, yT)] rfl <| OA.nil fun _ => RA.condT rfl <| RA.sR hd env_ok ?_
    refine oC 90 (hd.of (by omega) (kb7 (by omega))) rfl rfl kAwake fun n33 hn33 => OA.ps [(91, yT), (92, (.int .i64 0))] rfl <| oP 93 yF rfl (r_bin rfl rfl rfl (b_eql rfl)) <| OA.ps [(94, yF), (95, yF)] rfl <| OA.offs 96 2 rfl <| OA.ps [(98, yF), (99, yF)] rfl <| OA.offs 100 3 rfl <| OA.ps [(103, yF), (104, yF)] rfl <| OA.offs 105 2 rfl <| OA.ps [(107, yF), (6, yF)] rfl <| OA.nil fun _ => ?_
    refine RA.rb [(0, (.string s)), (1, (W i)), (2, (.agg ⟨[(.int .i64 a0), (.int .i64 a1)]⟩)), (5, (.pointer (some ⟨n, 0, some 0⟩))), (6, yF), (7, (.string (s.extract 0 (min s.size 600)))), (8, (.int .i64 (((andN a0 1023) : Nat) : Int))), (9, (.int .i64 (((andN a1 1023) : Nat) : Int))), (10, (.string (mkX i (andN a0 1023) (andN a1 1023) (s.extract 0 (min s.size 600))))), (11, (.pointer (some ⟨rn7, 0, some 0⟩))), (12, (.pointer (some ⟨n8, 0, some 0⟩))), (13, yF), (14, (.int .i64 0)), (15, yF), (18, (.int .i64 3)), (89, yT)] rfl (fun τr34 => ?_)
    refine RA.ret env_ok ?_
    have hq9 := hc1
    unfold pOk at hq9
    rw [hx4, hx8, hxs] at hq9
    refine ⟨.inr rfl, [(.bool false)], (resL_cons rfl resL_nil), [], (LsO fan), (by exfalso; omega)⟩
  ·
   have hpf := pOk_f hc1
   rw [hx4, hx8, hxr] at hpf
   refine OA.call (dst := (some 47)) (all := [(.pointer (some ⟨rn7, 0, some 0⟩)), (.string (mkX i (andN a0 1023) (andN a1 1023) (s.extract 0 (min s.size 600))))]) rfl rfl rfl rfl rfl rfl rfl rfl (CQ.imp (sTakeB2 (hd.of (by omega) (kb2 (by omega))) rn7 i (andN a0 1023) (andN a1 1023) (s.extract 0 (min s.size 600)) (by omega) (by omega) (by omega) hc1 (by omega) (by omega) (by omega) get_here) ?_)
   rintro _ n35 _ ⟨rfl, kn35, mn35, rfl⟩ hn35
   refine OA.app1 ?_
   refine OA.ps [(44, (.tuple ⟨[(.agg ⟨[(W i), (.string (s.extract 0 (min s.size 600)))]⟩), yT, (.int .i64 0)]⟩)), (48, (.agg ⟨[(W i), (.string (s.extract 0 (min s.size 600)))]⟩)), (49, yT), (50, (.int .i64 0))] rfl <| o1 (some 12) (.pointer (some ⟨n35, 0, some 0⟩)) (n35 + 1) (n35, some ⟨[[(.int .u32 0), (.string ByteArray.empty)]], 2, 26, true⟩) rfl <| o1 none yU (n35 + 1) (n35, some ⟨[[(W i), (.string (s.extract 0 (min s.size 600)))]], 2, 26, true⟩) (rS get_here) <| OA.ps [(13, yT), (14, (.int .i64 0))] rfl <| OA.nil fun _ => RA.sR hd env_ok <| OA.ps [(51, (.int .i64 (((andN a1 1023) : Nat) : Int)))] rfl <| oP 52 (.int .i64 ((((andN a1 1023) % 500) : Nat) : Int)) rfl (r_bin rfl rfl rfl (b_remN (a := (andN a1 1023)) (c := 500) (by decide))) ?_
   by_cases hc10 : ((((andN a1 1023) % 500) : Nat) : Int) = 0
   ·
    refine oP 53 yT rfl (Eq.trans (r_bin rfl rfl rfl (b_eql rfl)) (dT hc10)) <| OA.ps [(54, yT), (55, (.int .i64 (((andN a1 1023) : Nat) : Int))), (56, (.int .i64 (((andN a0 1023) : Nat) : Int)))] rfl ?_
    by_cases hc11 : (((andN a1 1023) : Nat) : Int) ≤ (((andN a0 1023) : Nat) : Int)
    ·
     refine oP 57 yT rfl (Eq.trans (r_bin rfl rfl rfl (b_leq rfl)) (dT hc11)) <| OA.ps [(58, yT), (59, yT), (60, (.string (s.extract 0 (min s.size 600)))), (61, (.int .i64 (((s.extract 0 (min s.size 600)).size : Nat) : Int))), (62, (.int .i64 (((andN a0 1023) : Nat) : Int))), (63, (.int .i64 (((andN a1 1023) : Nat) : Int)))] rfl <| oP 64 (.int .i64 ((((andN a0 1023) - (andN a1 1023)) : Nat) : Int)) rfl (r_bin rfl rfl rfl (b_sub (i64_eq (by omega)))) <| oP 65 (.int .i64 (((min ((andN a0 1023) - (andN a1 1023)) 500) : Nat) : Int)) rfl (r_min (a := ((andN a0 1023) - (andN a1 1023))) (b := 500) rfl rfl rfl) ?_
     by_cases hc12 : (((s.extract 0 (min s.size 600)).size : Nat) : Int) = (((min ((andN a0 1023) - (andN a1 1023)) 500) : Nat) : Int)
     ·
      refine oP 66 yT rfl (Eq.trans (r_bin rfl rfl rfl (b_eql rfl)) (dT hc12)) <| OA.ps [(67, yT), (68, yT), (69, (.string (s.extract 0 (min s.size 600)))), (70, (.int .i64 (((s.extract 0 (min s.size 600)).size : Nat) : Int)))] rfl ?_
      by_cases hc13 : 0 < (((s.extract 0 (min s.size 600)).size : Nat) : Int)
      ·
       refine oP 71 yT rfl (Eq.trans (r_bin rfl rfl rfl (b_gtr rfl)) (dT hc13)) <| OA.ps [(72, yT)] rfl <| OA.offs 73 2 rfl <| OA.ps [(75, yT), (76, yT), (15, yT)] rfl <| OA.nil fun _ => RA.rb [(0, (.string s)), (1, (W i)), (2, (.agg ⟨[(.int .i64 a0), (.int .i64 a1)]⟩)), (5, (.pointer (some ⟨n, 0, some 0⟩))), (6, yF), (7, (.string (s.extract 0 (min s.size 600)))), (8, (.int .i64 (((andN a0 1023) : Nat) : Int))), (9, (.int .i64 (((andN a1 1023) : Nat) : Int))), (10, (.string (mkX i (andN a0 1023) (andN a1 1023) (s.extract 0 (min s.size 600))))), (11, (.pointer (some ⟨rn7, 0, some 0⟩))), (12, (.pointer (some ⟨n35, 0, some 0⟩))), (13, yT), (14, (.int .i64 0)), (15, yT)] rfl (fun τr36 => ?_)
       refine RA.sR hd env_ok <| OA.ps [(78, (.pointer (some ⟨rn7, 0, some 0⟩))), (79, (.string (s.extract 0 (min s.size 600)))), (80, (.string (s.extract 0 (min s.size 600)))), (81, (.int .i64 (((s.extract 0 (min s.size 600)).size : Nat) : Int)))] rfl <| oP 82 (.int .i64 (((min (s.extract 0 (min s.size 600)).size 11) : Nat) : Int)) rfl (r_min (a := (s.extract 0 (min s.size 600)).size) (b := 11) rfl rfl rfl) <| oP 83 (.string ((s.extract 0 (min s.size 600)).extract 0 (min (s.extract 0 (min s.size 600)).size 11))) rfl (r_cut (a := 0) (b := (min (s.extract 0 (min s.size 600)).size 11)) rfl rfl (fun _ => rfl) (fun _ => rfl) rfl rfl rfl bound_nat (by omega) (by omega) rfl) ?_
       refine OA.call (dst := (some 84)) (all := [(.pointer (some ⟨rn7, 0, some 0⟩)), (.string ((s.extract 0 (min s.size 600)).extract 0 (min (s.extract 0 (min s.size 600)).size 11)))]) rfl rfl rfl rfl rfl rfl rfl rfl (CQ.imp (sTakeN (hd.of (by omega) (kb5 (by omega))) rn7 ((s.extract 0 (min s.size 600)).extract 0 (min (s.extract 0 (min s.size 600)).size 11)) (by rw [size_cut _ _ _ (by omega)]; omega) (fun hq => by have hq1 := (pOk_f hq).1; rw [size_cut _ _ _ (by omega)] at hq1; omega)) ?_)
       rintro _ n37 _ ⟨rfl, rfl⟩ hn37
       refine OA.app0 ?_
       refine OA.ps [(77, (.tuple ⟨[(.agg ⟨[(.int .u32 0), (.string ByteArray.empty)]⟩), yF, (.int .i64 3)]⟩)), (85, (.agg ⟨[(.int .u32 0), (.string ByteArray.empty)]⟩)), (86, yF), (87, (.int .i64 3))] rfl <| o1 (some 16) (.pointer (some ⟨n37, 0, some 0⟩)) (n37 + 1) (n37, some ⟨[[(.int .u32 0), (.string ByteArray.empty)]], 2, 26, true⟩) rfl <| o1 none yU (n37 + 1) (n37, some ⟨[[(.int .u32 0), (.string ByteArray.empty)]], 2, 26, true⟩) (rS get_here) <| OA.ps [(17, yF), (18, (.int .i64 3))] rfl <| OA.nil fun _ => RA.seq hd <| RA.sR hd env_ok <| OA.ps [(88, yT), (89, yF)] rfl <| OA.nil fun _ => RA.condF rfl <| RA.skip env_ok ?_
       intro _
       refine RA.sR hd env_ok <| oC 108 (hd.of (by omega) (kb7 (by omega))) rfl rfl kAwake fun n38 hn38 => OA.ps [(109, yT), (110, (.int .i64 0))] rfl <| oP 111 yT rfl (r_bin rfl rfl rfl (b_eql rfl)) <| OA.ps [(112, yT), (113, yT), (114, yT), (115, (.int .i64 (((andN a0 1023) : Nat) : Int)))] rfl ?_
       by_cases hc14 : (((andN a0 1023) : Nat) : Int) ≤ 500
       ·
        refine oP 116 yT rfl (Eq.trans (r_bin rfl rfl rfl (b_leq rfl)) (dT hc14)) <| OA.ps [(117, yT), (118, yT), (119, yT), (120, yT), (121, yF), (122, yF)] rfl <| oP 123 (.agg ⟨[(W i), (.string (s.extract 0 (min s.size 600)))]⟩) rfl (r_loadA rfl rfl rfl rfl (gt2 (by omega) get_here) rfl rfl rfl) <| OA.ps [(124, (W i)), (125, (.string (s.extract 0 (min s.size 600))))] rfl <| oP 126 (.agg ⟨[(W i), (.string (s.extract 0 (min s.size 600)))]⟩) rfl (by kernel_rfl) <| oP 127 yT rfl (r_eqlA (r := true) rfl rfl rfl (by kernel_rfl) (aeq_self _ _ _ (by kernel_rfl))) <| OA.ps [(128, yT), (129, yT), (130, yT), (131, (.int .i64 3))] rfl <| oP 132 yT rfl (r_bin rfl rfl rfl (b_eql rfl)) <| OA.ps [(133, yT), (6, yT)] rfl <| OA.nil fun _ => RA.rb [(0, (.string s)), (1, (W i)), (2, (.agg ⟨[(.int .i64 a0), (.int .i64 a1)]⟩)), (5, (.pointer (some ⟨n, 0, some 0⟩))), (6, yT), (7, (.string (s.extract 0 (min s.size 600)))), (8, (.int .i64 (((andN a0 1023) : Nat) : Int))), (9, (.int .i64 (((andN a1 1023) : Nat) : Int))), (10, (.string (mkX i (andN a0 1023) (andN a1 1023) (s.extract 0 (min s.size 600))))), (11, (.pointer (some ⟨rn7, 0, some 0⟩))), (12, (.pointer (some ⟨n35, 0, some 0⟩))), (13, yT), (14, (.int .i64 0)), (15, yT), (18, (.int .i64 3)), (89, yF)] rfl (fun τr39 => ?_)
        refine RA.ret env_ok ?_
        refine ⟨.inr rfl, [(.bool true)], (resL_cons rfl resL_nil), [], (LsO fan), rfl⟩
       ·
        refine oP 116 yF rfl (Eq.trans (r_bin rfl rfl rfl (b_leq rfl)) (dF hc14)) <| OA.ps [(117, yF), (118, yF), (119, yF)] rfl <| OA.offs 120 9 rfl <| OA.ps [(129, yF), (130, yF)] rfl <| OA.offs 131 2 rfl <| OA.ps [(133, yF), (6, yF)] rfl <| OA.nil fun _ => RA.rb [(0, (.string s)), (1, (W i)), (2, (.agg ⟨[(.int .i64 a0), (.int .i64 a1)]⟩)), (5, (.pointer (some ⟨n, 0, some 0⟩))), (6, yF), (7, (.string (s.extract 0 (min s.size 600)))), (8, (.int .i64 (((andN a0 1023) : Nat) : Int))), (9, (.int .i64 (((andN a1 1023) : Nat) : Int))), (10, (.string (mkX i (andN a0 1023) (andN a1 1023) (s.extract 0 (min s.size 600))))), (11, (.pointer (some ⟨rn7, 0, some 0⟩))), (12, (.pointer (some ⟨n35, 0, some 0⟩))), (13, yT), (14, (.int .i64 0)), (15, yT), (18, (.int .i64 3)), (89, yF)] rfl (fun τr40 => ?_)
        refine RA.ret env_ok ?_
        have hq9 := hc1
        unfold pOk at hq9
        rw [hx4, hx8, hxs] at hq9
        refine ⟨.inr rfl, [(.bool false)], (resL_cons rfl resL_nil), [], (LsO fan), (by exfalso; omega)⟩
      ·
       refine oP 71 yF rfl (Eq.trans (r_bin rfl rfl rfl (b_gtr rfl)) (dF hc13)) <| OA.ps [(72, yF), (73, (.int .i64 (((andN a0 1023) : Nat) : Int)))] rfl ?_
       by_cases hc15 : (((andN a0 1023) : Nat) : Int) = 0
       ·
        refine oP 74 yT rfl (Eq.trans (r_bin rfl rfl rfl (b_eql rfl)) (dT hc15)) <| OA.ps [(75, yT), (76, yT), (15, yT)] rfl <| OA.nil fun _ => RA.rb [(0, (.string s)), (1, (W i)), (2, (.agg ⟨[(.int .i64 a0), (.int .i64 a1)]⟩)), (5, (.pointer (some ⟨n, 0, some 0⟩))), (6, yF), (7, (.string (s.extract 0 (min s.size 600)))), (8, (.int .i64 (((andN a0 1023) : Nat) : Int))), (9, (.int .i64 (((andN a1 1023) : Nat) : Int))), (10, (.string (mkX i (andN a0 1023) (andN a1 1023) (s.extract 0 (min s.size 600))))), (11, (.pointer (some ⟨rn7, 0, some 0⟩))), (12, (.pointer (some ⟨n35, 0, some 0⟩))), (13, yT), (14, (.int .i64 0)), (15, yT)] rfl (fun τr41 => ?_)
        refine RA.sR hd env_ok <| OA.ps [(78, (.pointer (some ⟨rn7, 0, some 0⟩))), (79, (.string (s.extract 0 (min s.size 600)))), (80, (.string (s.extract 0 (min s.size 600)))), (81, (.int .i64 (((s.extract 0 (min s.size 600)).size : Nat) : Int)))] rfl <| oP 82 (.int .i64 (((min (s.extract 0 (min s.size 600)).size 11) : Nat) : Int)) rfl (r_min (a := (s.extract 0 (min s.size 600)).size) (b := 11) rfl rfl rfl) <| oP 83 (.string ((s.extract 0 (min s.size 600)).extract 0 (min (s.extract 0 (min s.size 600)).size 11))) rfl (r_cut (a := 0) (b := (min (s.extract 0 (min s.size 600)).size 11)) rfl rfl (fun _ => rfl) (fun _ => rfl) rfl rfl rfl bound_nat (by omega) (by omega) rfl) ?_
        refine OA.call (dst := (some 84)) (all := [(.pointer (some ⟨rn7, 0, some 0⟩)), (.string ((s.extract 0 (min s.size 600)).extract 0 (min (s.extract 0 (min s.size 600)).size 11)))]) rfl rfl rfl rfl rfl rfl rfl rfl (CQ.imp (sTakeN (hd.of (by omega) (kb5 (by omega))) rn7 ((s.extract 0 (min s.size 600)).extract 0 (min (s.extract 0 (min s.size 600)).size 11)) (by rw [size_cut _ _ _ (by omega)]; omega) (fun hq => by have hq1 := (pOk_f hq).1; rw [size_cut _ _ _ (by omega)] at hq1; omega)) ?_)
        rintro _ n42 _ ⟨rfl, rfl⟩ hn42
        refine OA.app0 ?_
        refine OA.ps [(77, (.tuple ⟨[(.agg ⟨[(.int .u32 0), (.string ByteArray.empty)]⟩), yF, (.int .i64 3)]⟩)), (85, (.agg ⟨[(.int .u32 0), (.string ByteArray.empty)]⟩)), (86, yF), (87, (.int .i64 3))] rfl <| o1 (some 16) (.pointer (some ⟨n42, 0, some 0⟩)) (n42 + 1) (n42, some ⟨[[(.int .u32 0), (.string ByteArray.empty)]], 2, 26, true⟩) rfl <| o1 none yU (n42 + 1) (n42, some ⟨[[(.int .u32 0), (.string ByteArray.empty)]], 2, 26, true⟩) (rS get_here) <| OA.ps [(17, yF), (18, (.int .i64 3))] rfl <| OA.nil fun _ => RA.seq hd <| RA.sR hd env_ok <| OA.ps [(88, yT), (89, yF)] rfl <| OA.nil fun _ => RA.condF rfl <| RA.skip env_ok ?_
        intro _
        refine RA.sR hd env_ok <| oC 108 (hd.of (by omega) (kb7 (by omega))) rfl rfl kAwake fun n43 hn43 => OA.ps [(109, yT), (110, (.int .i64 0))] rfl <| oP 111 yT rfl (r_bin rfl rfl rfl (b_eql rfl)) <| OA.ps [(112, yT), (113, yT), (114, yT), (115, (.int .i64 (((andN a0 1023) : Nat) : Int)))] rfl ?_
        by_cases hc16 : (((andN a0 1023) : Nat) : Int) ≤ 500
        ·
         refine oP 116 yT rfl (Eq.trans (r_bin rfl rfl rfl (b_leq rfl)) (dT hc16)) <| OA.ps [(117, yT), (118, yT), (119, yT), (120, yT), (121, yF), (122, yF)] rfl <| oP 123 (.agg ⟨[(W i), (.string (s.extract 0 (min s.size 600)))]⟩) rfl (r_loadA rfl rfl rfl rfl (gt2 (by omega) get_here) rfl rfl rfl) <| OA.ps [(124, (W i)), (125, (.string (s.extract 0 (min s.size 600))))] rfl <| oP 126 (.agg ⟨[(W i), (.string (s.extract 0 (min s.size 600)))]⟩) rfl (by kernel_rfl) <| oP 127 yT rfl (r_eqlA (r := true) rfl rfl rfl (by kernel_rfl) (aeq_self _ _ _ (by kernel_rfl))) <| OA.ps [(128, yT), (129, yT), (130, yT), (131, (.int .i64 3))] rfl <| oP 132 yT rfl (r_bin rfl rfl rfl (b_eql rfl)) <| OA.ps [(133, yT), (6, yT)] rfl <| OA.nil fun _ => RA.rb [(0, (.string s)), (1, (W i)), (2, (.agg ⟨[(.int .i64 a0), (.int .i64 a1)]⟩)), (5, (.pointer (some ⟨n, 0, some 0⟩))), (6, yT), (7, (.string (s.extract 0 (min s.size 600)))), (8, (.int .i64 (((andN a0 1023) : Nat) : Int))), (9, (.int .i64 (((andN a1 1023) : Nat) : Int))), (10, (.string (mkX i (andN a0 1023) (andN a1 1023) (s.extract 0 (min s.size 600))))), (11, (.pointer (some ⟨rn7, 0, some 0⟩))), (12, (.pointer (some ⟨n35, 0, some 0⟩))), (13, yT), (14, (.int .i64 0)), (15, yT), (18, (.int .i64 3)), (89, yF)] rfl (fun τr44 => ?_)
         refine RA.ret env_ok ?_
         refine ⟨.inr rfl, [(.bool true)], (resL_cons rfl resL_nil), [], (LsO fan), rfl⟩
        ·
         refine oP 116 yF rfl (Eq.trans (r_bin rfl rfl rfl (b_leq rfl)) (dF hc16)) <| OA.ps [(117, yF), (118, yF), (119, yF)] rfl <| OA.offs 120 9 rfl <| OA.ps [(129, yF), (130, yF)] rfl <| OA.offs 131 2 rfl <| OA.ps [(133, yF), (6, yF)] rfl <| OA.nil fun _ => RA.rb [(0, (.string s)), (1, (W i)), (2, (.agg ⟨[(.int .i64 a0), (.int .i64 a1)]⟩)), (5, (.pointer (some ⟨n, 0, some 0⟩))), (6, yF), (7, (.string (s.extract 0 (min s.size 600)))), (8, (.int .i64 (((andN a0 1023) : Nat) : Int))), (9, (.int .i64 (((andN a1 1023) : Nat) : Int))), (10, (.string (mkX i (andN a0 1023) (andN a1 1023) (s.extract 0 (min s.size 600))))), (11, (.pointer (some ⟨rn7, 0, some 0⟩))), (12, (.pointer (some ⟨n35, 0, some 0⟩))), (13, yT), (14, (.int .i64 0)), (15, yT), (18, (.int .i64 3)), (89, yF)] rfl (fun τr45 => ?_)
         refine RA.ret env_ok ?_
         have hq9 := hc1
         unfold pOk at hq9
         rw [hx4, hx8, hxs] at hq9
         refine ⟨.inr rfl, [(.bool false)], (resL_cons rfl resL_nil), [], (LsO fan), (by exfalso; omega)⟩
       ·
        refine oP 74 yF rfl (Eq.trans (r_bin rfl rfl rfl (b_eql rfl)) (dF hc15)) <| OA.ps [(75, yF), (76, yF), (15, yF)] rfl <| OA.nil fun _ => RA.rb [(0, (.string s)), (1, (W i)), (2, (.agg ⟨[(.int .i64 a0), (.int .i64 a1)]⟩)), (5, (.pointer (some ⟨n, 0, some 0⟩))), (6, yF), (7, (.string (s.extract 0 (min s.size 600)))), (8, (.int .i64 (((andN a0 1023) : Nat) : Int))), (9, (.int .i64 (((andN a1 1023) : Nat) : Int))), (10, (.string (mkX i (andN a0 1023) (andN a1 1023) (s.extract 0 (min s.size 600))))), (11, (.pointer (some ⟨rn7, 0, some 0⟩))), (12, (.pointer (some ⟨n35, 0, some 0⟩))), (13, yT), (14, (.int .i64 0)), (15, yF)] rfl (fun τr46 => ?_)
        refine RA.sR hd env_ok <| OA.ps [(78, (.pointer (some ⟨rn7, 0, some 0⟩))), (79, (.string (s.extract 0 (min s.size 600)))), (80, (.string (s.extract 0 (min s.size 600)))), (81, (.int .i64 (((s.extract 0 (min s.size 600)).size : Nat) : Int)))] rfl <| oP 82 (.int .i64 (((min (s.extract 0 (min s.size 600)).size 11) : Nat) : Int)) rfl (r_min (a := (s.extract 0 (min s.size 600)).size) (b := 11) rfl rfl rfl) <| oP 83 (.string ((s.extract 0 (min s.size 600)).extract 0 (min (s.extract 0 (min s.size 600)).size 11))) rfl (r_cut (a := 0) (b := (min (s.extract 0 (min s.size 600)).size 11)) rfl rfl (fun _ => rfl) (fun _ => rfl) rfl rfl rfl bound_nat (by omega) (by omega) rfl) ?_
        refine OA.call (dst := (some 84)) (all := [(.pointer (some ⟨rn7, 0, some 0⟩)), (.string ((s.extract 0 (min s.size 600)).extract 0 (min (s.extract 0 (min s.size 600)).size 11)))]) rfl rfl rfl rfl rfl rfl rfl rfl (CQ.imp (sTakeN (hd.of (by omega) (kb5 (by omega))) rn7 ((s.extract 0 (min s.size 600)).extract 0 (min (s.extract 0 (min s.size 600)).size 11)) (by rw [size_cut _ _ _ (by omega)]; omega) (fun hq => by have hq1 := (pOk_f hq).1; rw [size_cut _ _ _ (by omega)] at hq1; omega)) ?_)
        rintro _ n47 _ ⟨rfl, rfl⟩ hn47
        refine OA.app0 ?_
        refine OA.ps [(77, (.tuple ⟨[(.agg ⟨[(.int .u32 0), (.string ByteArray.empty)]⟩), yF, (.int .i64 3)]⟩)), (85, (.agg ⟨[(.int .u32 0), (.string ByteArray.empty)]⟩)), (86, yF), (87, (.int .i64 3))] rfl <| o1 (some 16) (.pointer (some ⟨n47, 0, some 0⟩)) (n47 + 1) (n47, some ⟨[[(.int .u32 0), (.string ByteArray.empty)]], 2, 26, true⟩) rfl <| o1 none yU (n47 + 1) (n47, some ⟨[[(.int .u32 0), (.string ByteArray.empty)]], 2, 26, true⟩) (rS get_here) <| OA.ps [(17, yF), (18, (.int .i64 3))] rfl <| OA.nil fun _ => RA.seq hd <| RA.sR hd env_ok <| OA.ps [(88, yF), (89, yT)] rfl <| OA.nil fun _ => RA.condT rfl <| RA.sR hd env_ok ?_
        refine oC 90 (hd.of (by omega) (kb7 (by omega))) rfl rfl kAwake fun n48 hn48 => OA.ps [(91, yT), (92, (.int .i64 0))] rfl <| oP 93 yF rfl (r_bin rfl rfl rfl (b_eql rfl)) <| OA.ps [(94, yF), (95, yF)] rfl <| OA.offs 96 2 rfl <| OA.ps [(98, yF), (99, yF)] rfl <| OA.offs 100 3 rfl <| OA.ps [(103, yF), (104, yF)] rfl <| OA.offs 105 2 rfl <| OA.ps [(107, yF), (6, yF)] rfl <| OA.nil fun _ => ?_
        refine RA.rb [(0, (.string s)), (1, (W i)), (2, (.agg ⟨[(.int .i64 a0), (.int .i64 a1)]⟩)), (5, (.pointer (some ⟨n, 0, some 0⟩))), (6, yF), (7, (.string (s.extract 0 (min s.size 600)))), (8, (.int .i64 (((andN a0 1023) : Nat) : Int))), (9, (.int .i64 (((andN a1 1023) : Nat) : Int))), (10, (.string (mkX i (andN a0 1023) (andN a1 1023) (s.extract 0 (min s.size 600))))), (11, (.pointer (some ⟨rn7, 0, some 0⟩))), (12, (.pointer (some ⟨n35, 0, some 0⟩))), (13, yT), (14, (.int .i64 0)), (15, yF), (18, (.int .i64 3)), (89, yT)] rfl (fun τr49 => ?_)
        refine RA.ret env_ok ?_
        have hq9 := hc1
        unfold pOk at hq9
        rw [hx4, hx8, hxs] at hq9
        refine ⟨.inr rfl, [(.bool false)], (resL_cons rfl resL_nil), [], (LsO fan), (by exfalso; omega)⟩
     ·
      refine oP 66 yF rfl (Eq.trans (r_bin rfl rfl rfl (b_eql rfl)) (dF hc12)) <| OA.ps [(67, yF), (68, yF)] rfl <| OA.offs 69 7 rfl <| OA.ps [(76, yF), (15, yF)] rfl <| OA.nil fun _ => RA.rb [(0, (.string s)), (1, (W i)), (2, (.agg ⟨[(.int .i64 a0), (.int .i64 a1)]⟩)), (5, (.pointer (some ⟨n, 0, some 0⟩))), (6, yF), (7, (.string (s.extract 0 (min s.size 600)))), (8, (.int .i64 (((andN a0 1023) : Nat) : Int))), (9, (.int .i64 (((andN a1 1023) : Nat) : Int))), (10, (.string (mkX i (andN a0 1023) (andN a1 1023) (s.extract 0 (min s.size 600))))), (11, (.pointer (some ⟨rn7, 0, some 0⟩))), (12, (.pointer (some ⟨n35, 0, some 0⟩))), (13, yT), (14, (.int .i64 0)), (15, yF)] rfl (fun τr50 => ?_)
      refine RA.sR hd env_ok <| OA.ps [(78, (.pointer (some ⟨rn7, 0, some 0⟩))), (79, (.string (s.extract 0 (min s.size 600)))), (80, (.string (s.extract 0 (min s.size 600)))), (81, (.int .i64 (((s.extract 0 (min s.size 600)).size : Nat) : Int)))] rfl <| oP 82 (.int .i64 (((min (s.extract 0 (min s.size 600)).size 11) : Nat) : Int)) rfl (r_min (a := (s.extract 0 (min s.size 600)).size) (b := 11) rfl rfl rfl) <| oP 83 (.string ((s.extract 0 (min s.size 600)).extract 0 (min (s.extract 0 (min s.size 600)).size 11))) rfl (r_cut (a := 0) (b := (min (s.extract 0 (min s.size 600)).size 11)) rfl rfl (fun _ => rfl) (fun _ => rfl) rfl rfl rfl bound_nat (by omega) (by omega) rfl) ?_
      refine OA.call (dst := (some 84)) (all := [(.pointer (some ⟨rn7, 0, some 0⟩)), (.string ((s.extract 0 (min s.size 600)).extract 0 (min (s.extract 0 (min s.size 600)).size 11)))]) rfl rfl rfl rfl rfl rfl rfl rfl (CQ.imp (sTakeN (hd.of (by omega) (kb5 (by omega))) rn7 ((s.extract 0 (min s.size 600)).extract 0 (min (s.extract 0 (min s.size 600)).size 11)) (by rw [size_cut _ _ _ (by omega)]; omega) (fun hq => by have hq1 := (pOk_f hq).1; rw [size_cut _ _ _ (by omega)] at hq1; omega)) ?_)
      rintro _ n51 _ ⟨rfl, rfl⟩ hn51
      refine OA.app0 ?_
      refine OA.ps [(77, (.tuple ⟨[(.agg ⟨[(.int .u32 0), (.string ByteArray.empty)]⟩), yF, (.int .i64 3)]⟩)), (85, (.agg ⟨[(.int .u32 0), (.string ByteArray.empty)]⟩)), (86, yF), (87, (.int .i64 3))] rfl <| o1 (some 16) (.pointer (some ⟨n51, 0, some 0⟩)) (n51 + 1) (n51, some ⟨[[(.int .u32 0), (.string ByteArray.empty)]], 2, 26, true⟩) rfl <| o1 none yU (n51 + 1) (n51, some ⟨[[(.int .u32 0), (.string ByteArray.empty)]], 2, 26, true⟩) (rS get_here) <| OA.ps [(17, yF), (18, (.int .i64 3))] rfl <| OA.nil fun _ => RA.seq hd <| RA.sR hd env_ok <| OA.ps [(88, yF), (89, yT)] rfl <| OA.nil fun _ => RA.condT rfl <| RA.sR hd env_ok ?_
      refine oC 90 (hd.of (by omega) (kb7 (by omega))) rfl rfl kAwake fun n52 hn52 => OA.ps [(91, yT), (92, (.int .i64 0))] rfl <| oP 93 yF rfl (r_bin rfl rfl rfl (b_eql rfl)) <| OA.ps [(94, yF), (95, yF)] rfl <| OA.offs 96 2 rfl <| OA.ps [(98, yF), (99, yF)] rfl <| OA.offs 100 3 rfl <| OA.ps [(103, yF), (104, yF)] rfl <| OA.offs 105 2 rfl <| OA.ps [(107, yF), (6, yF)] rfl <| OA.nil fun _ => ?_
      refine RA.rb [(0, (.string s)), (1, (W i)), (2, (.agg ⟨[(.int .i64 a0), (.int .i64 a1)]⟩)), (5, (.pointer (some ⟨n, 0, some 0⟩))), (6, yF), (7, (.string (s.extract 0 (min s.size 600)))), (8, (.int .i64 (((andN a0 1023) : Nat) : Int))), (9, (.int .i64 (((andN a1 1023) : Nat) : Int))), (10, (.string (mkX i (andN a0 1023) (andN a1 1023) (s.extract 0 (min s.size 600))))), (11, (.pointer (some ⟨rn7, 0, some 0⟩))), (12, (.pointer (some ⟨n35, 0, some 0⟩))), (13, yT), (14, (.int .i64 0)), (15, yF), (18, (.int .i64 3)), (89, yT)] rfl (fun τr53 => ?_)
      refine RA.ret env_ok ?_
      have hq9 := hc1
      unfold pOk at hq9
      rw [hx4, hx8, hxs] at hq9
      refine ⟨.inr rfl, [(.bool false)], (resL_cons rfl resL_nil), [], (LsO fan), (by exfalso; omega)⟩
    ·
     refine oP 57 yF rfl (Eq.trans (r_bin rfl rfl rfl (b_leq rfl)) (dF hc11)) <| OA.ps [(58, yF), (59, yF)] rfl <| OA.offs 60 7 rfl <| OA.ps [(67, yF), (68, yF)] rfl <| OA.offs 69 7 rfl <| OA.ps [(76, yF), (15, yF)] rfl <| OA.nil fun _ => RA.rb [(0, (.string s)), (1, (W i)), (2, (.agg ⟨[(.int .i64 a0), (.int .i64 a1)]⟩)), (5, (.pointer (some ⟨n, 0, some 0⟩))), (6, yF), (7, (.string (s.extract 0 (min s.size 600)))), (8, (.int .i64 (((andN a0 1023) : Nat) : Int))), (9, (.int .i64 (((andN a1 1023) : Nat) : Int))), (10, (.string (mkX i (andN a0 1023) (andN a1 1023) (s.extract 0 (min s.size 600))))), (11, (.pointer (some ⟨rn7, 0, some 0⟩))), (12, (.pointer (some ⟨n35, 0, some 0⟩))), (13, yT), (14, (.int .i64 0)), (15, yF)] rfl (fun τr54 => ?_)
     refine RA.sR hd env_ok <| OA.ps [(78, (.pointer (some ⟨rn7, 0, some 0⟩))), (79, (.string (s.extract 0 (min s.size 600)))), (80, (.string (s.extract 0 (min s.size 600)))), (81, (.int .i64 (((s.extract 0 (min s.size 600)).size : Nat) : Int)))] rfl <| oP 82 (.int .i64 (((min (s.extract 0 (min s.size 600)).size 11) : Nat) : Int)) rfl (r_min (a := (s.extract 0 (min s.size 600)).size) (b := 11) rfl rfl rfl) <| oP 83 (.string ((s.extract 0 (min s.size 600)).extract 0 (min (s.extract 0 (min s.size 600)).size 11))) rfl (r_cut (a := 0) (b := (min (s.extract 0 (min s.size 600)).size 11)) rfl rfl (fun _ => rfl) (fun _ => rfl) rfl rfl rfl bound_nat (by omega) (by omega) rfl) ?_
     refine OA.call (dst := (some 84)) (all := [(.pointer (some ⟨rn7, 0, some 0⟩)), (.string ((s.extract 0 (min s.size 600)).extract 0 (min (s.extract 0 (min s.size 600)).size 11)))]) rfl rfl rfl rfl rfl rfl rfl rfl (CQ.imp (sTakeN (hd.of (by omega) (kb5 (by omega))) rn7 ((s.extract 0 (min s.size 600)).extract 0 (min (s.extract 0 (min s.size 600)).size 11)) (by rw [size_cut _ _ _ (by omega)]; omega) (fun hq => by have hq1 := (pOk_f hq).1; rw [size_cut _ _ _ (by omega)] at hq1; omega)) ?_)
     rintro _ n55 _ ⟨rfl, rfl⟩ hn55
     refine OA.app0 ?_
     refine OA.ps [(77, (.tuple ⟨[(.agg ⟨[(.int .u32 0), (.string ByteArray.empty)]⟩), yF, (.int .i64 3)]⟩)), (85, (.agg ⟨[(.int .u32 0), (.string ByteArray.empty)]⟩)), (86, yF), (87, (.int .i64 3))] rfl <| o1 (some 16) (.pointer (some ⟨n55, 0, some 0⟩)) (n55 + 1) (n55, some ⟨[[(.int .u32 0), (.string ByteArray.empty)]], 2, 26, true⟩) rfl <| o1 none yU (n55 + 1) (n55, some ⟨[[(.int .u32 0), (.string ByteArray.empty)]], 2, 26, true⟩) (rS get_here) <| OA.ps [(17, yF), (18, (.int .i64 3))] rfl <| OA.nil fun _ => RA.seq hd <| RA.sR hd env_ok <| OA.ps [(88, yF), (89, yT)] rfl <| OA.nil fun _ => RA.condT rfl <| RA.sR hd env_ok ?_
     refine oC 90 (hd.of (by omega) (kb7 (by omega))) rfl rfl kAwake fun n56 hn56 => OA.ps [(91, yT), (92, (.int .i64 0))] rfl <| oP 93 yF rfl (r_bin rfl rfl rfl (b_eql rfl)) <| OA.ps [(94, yF), (95, yF)] rfl <| OA.offs 96 2 rfl <| OA.ps [(98, yF), (99, yF)] rfl <| OA.offs 100 3 rfl <| OA.ps [(103, yF), (104, yF)] rfl <| OA.offs 105 2 rfl <| OA.ps [(107, yF), (6, yF)] rfl <| OA.nil fun _ => ?_
     refine RA.rb [(0, (.string s)), (1, (W i)), (2, (.agg ⟨[(.int .i64 a0), (.int .i64 a1)]⟩)), (5, (.pointer (some ⟨n, 0, some 0⟩))), (6, yF), (7, (.string (s.extract 0 (min s.size 600)))), (8, (.int .i64 (((andN a0 1023) : Nat) : Int))), (9, (.int .i64 (((andN a1 1023) : Nat) : Int))), (10, (.string (mkX i (andN a0 1023) (andN a1 1023) (s.extract 0 (min s.size 600))))), (11, (.pointer (some ⟨rn7, 0, some 0⟩))), (12, (.pointer (some ⟨n35, 0, some 0⟩))), (13, yT), (14, (.int .i64 0)), (15, yF), (18, (.int .i64 3)), (89, yT)] rfl (fun τr57 => ?_)
     refine RA.ret env_ok ?_
     have hq9 := hc1
     unfold pOk at hq9
     rw [hx4, hx8, hxs] at hq9
     refine ⟨.inr rfl, [(.bool false)], (resL_cons rfl resL_nil), [], (LsO fan), (by exfalso; omega)⟩
   ·
    refine oP 53 yF rfl (Eq.trans (r_bin rfl rfl rfl (b_eql rfl)) (dF hc10)) <| OA.ps [(54, yF)] rfl <| OA.offs 55 3 rfl <| OA.ps [(58, yF), (59, yF)] rfl <| OA.offs 60 7 rfl <| OA.ps [(67, yF), (68, yF)] rfl <| OA.offs 69 7 rfl <| OA.ps [(76, yF), (15, yF)] rfl <| OA.nil fun _ => RA.rb [(0, (.string s)), (1, (W i)), (2, (.agg ⟨[(.int .i64 a0), (.int .i64 a1)]⟩)), (5, (.pointer (some ⟨n, 0, some 0⟩))), (6, yF), (7, (.string (s.extract 0 (min s.size 600)))), (8, (.int .i64 (((andN a0 1023) : Nat) : Int))), (9, (.int .i64 (((andN a1 1023) : Nat) : Int))), (10, (.string (mkX i (andN a0 1023) (andN a1 1023) (s.extract 0 (min s.size 600))))), (11, (.pointer (some ⟨rn7, 0, some 0⟩))), (12, (.pointer (some ⟨n35, 0, some 0⟩))), (13, yT), (14, (.int .i64 0)), (15, yF)] rfl (fun τr58 => ?_)
    refine RA.sR hd env_ok <| OA.ps [(78, (.pointer (some ⟨rn7, 0, some 0⟩))), (79, (.string (s.extract 0 (min s.size 600)))), (80, (.string (s.extract 0 (min s.size 600)))), (81, (.int .i64 (((s.extract 0 (min s.size 600)).size : Nat) : Int)))] rfl <| oP 82 (.int .i64 (((min (s.extract 0 (min s.size 600)).size 11) : Nat) : Int)) rfl (r_min (a := (s.extract 0 (min s.size 600)).size) (b := 11) rfl rfl rfl) <| oP 83 (.string ((s.extract 0 (min s.size 600)).extract 0 (min (s.extract 0 (min s.size 600)).size 11))) rfl (r_cut (a := 0) (b := (min (s.extract 0 (min s.size 600)).size 11)) rfl rfl (fun _ => rfl) (fun _ => rfl) rfl rfl rfl bound_nat (by omega) (by omega) rfl) ?_
    refine OA.call (dst := (some 84)) (all := [(.pointer (some ⟨rn7, 0, some 0⟩)), (.string ((s.extract 0 (min s.size 600)).extract 0 (min (s.extract 0 (min s.size 600)).size 11)))]) rfl rfl rfl rfl rfl rfl rfl rfl (CQ.imp (sTakeN (hd.of (by omega) (kb5 (by omega))) rn7 ((s.extract 0 (min s.size 600)).extract 0 (min (s.extract 0 (min s.size 600)).size 11)) (by rw [size_cut _ _ _ (by omega)]; omega) (fun hq => by have hq1 := (pOk_f hq).1; rw [size_cut _ _ _ (by omega)] at hq1; omega)) ?_)
    rintro _ n59 _ ⟨rfl, rfl⟩ hn59
    refine OA.app0 ?_
    refine OA.ps [(77, (.tuple ⟨[(.agg ⟨[(.int .u32 0), (.string ByteArray.empty)]⟩), yF, (.int .i64 3)]⟩)), (85, (.agg ⟨[(.int .u32 0), (.string ByteArray.empty)]⟩)), (86, yF), (87, (.int .i64 3))] rfl <| o1 (some 16) (.pointer (some ⟨n59, 0, some 0⟩)) (n59 + 1) (n59, some ⟨[[(.int .u32 0), (.string ByteArray.empty)]], 2, 26, true⟩) rfl <| o1 none yU (n59 + 1) (n59, some ⟨[[(.int .u32 0), (.string ByteArray.empty)]], 2, 26, true⟩) (rS get_here) <| OA.ps [(17, yF), (18, (.int .i64 3))] rfl <| OA.nil fun _ => RA.seq hd <| RA.sR hd env_ok <| OA.ps [(88, yF), (89, yT)] rfl <| OA.nil fun _ => RA.condT rfl <| RA.sR hd env_ok ?_
    refine oC 90 (hd.of (by omega) (kb7 (by omega))) rfl rfl kAwake fun n60 hn60 => OA.ps [(91, yT), (92, (.int .i64 0))] rfl <| oP 93 yF rfl (r_bin rfl rfl rfl (b_eql rfl)) <| OA.ps [(94, yF), (95, yF)] rfl <| OA.offs 96 2 rfl <| OA.ps [(98, yF), (99, yF)] rfl <| OA.offs 100 3 rfl <| OA.ps [(103, yF), (104, yF)] rfl <| OA.offs 105 2 rfl <| OA.ps [(107, yF), (6, yF)] rfl <| OA.nil fun _ => ?_
    refine RA.rb [(0, (.string s)), (1, (W i)), (2, (.agg ⟨[(.int .i64 a0), (.int .i64 a1)]⟩)), (5, (.pointer (some ⟨n, 0, some 0⟩))), (6, yF), (7, (.string (s.extract 0 (min s.size 600)))), (8, (.int .i64 (((andN a0 1023) : Nat) : Int))), (9, (.int .i64 (((andN a1 1023) : Nat) : Int))), (10, (.string (mkX i (andN a0 1023) (andN a1 1023) (s.extract 0 (min s.size 600))))), (11, (.pointer (some ⟨rn7, 0, some 0⟩))), (12, (.pointer (some ⟨n35, 0, some 0⟩))), (13, yT), (14, (.int .i64 0)), (15, yF), (18, (.int .i64 3)), (89, yT)] rfl (fun τr61 => ?_)
    refine RA.ret env_ok ?_
    have hq9 := hc1
    unfold pOk at hq9
    rw [hx4, hx8, hxs] at hq9
    refine ⟨.inr rfl, [(.bool false)], (resL_cons rfl resL_nil), [], (LsO fan), (by exfalso; omega)⟩
 ·
  refine OA.call (dst := (some 47)) (all := [(.pointer (some ⟨rn7, 0, some 0⟩)), (.string (mkX i (andN a0 1023) (andN a1 1023) (s.extract 0 (min s.size 600))))]) rfl rfl rfl rfl rfl rfl rfl rfl (CQ.imp (sTakeN (hd.of (by omega) (kb2 (by omega))) rn7 (mkX i (andN a0 1023) (andN a1 1023) (s.extract 0 (min s.size 600))) (by omega) hc1) ?_)
  rintro _ n62 _ ⟨rfl, rfl⟩ hn62
  refine OA.app0 ?_
  refine OA.ps [(44, (.tuple ⟨[(.agg ⟨[(.int .u32 0), (.string ByteArray.empty)]⟩), yF, (.int .i64 3)]⟩)), (48, (.agg ⟨[(.int .u32 0), (.string ByteArray.empty)]⟩)), (49, yF), (50, (.int .i64 3))] rfl <| o1 (some 12) (.pointer (some ⟨n62, 0, some 0⟩)) (n62 + 1) (n62, some ⟨[[(.int .u32 0), (.string ByteArray.empty)]], 2, 26, true⟩) rfl <| o1 none yU (n62 + 1) (n62, some ⟨[[(.int .u32 0), (.string ByteArray.empty)]], 2, 26, true⟩) (rS get_here) <| OA.ps [(13, yF), (14, (.int .i64 3))] rfl <| OA.nil fun _ => RA.sR hd env_ok <| OA.ps [(51, (.int .i64 (((andN a1 1023) : Nat) : Int)))] rfl <| oP 52 (.int .i64 ((((andN a1 1023) % 500) : Nat) : Int)) rfl (r_bin rfl rfl rfl (b_remN (a := (andN a1 1023)) (c := 500) (by decide))) ?_
  by_cases hc17 : ((((andN a1 1023) % 500) : Nat) : Int) = 0
  ·
   refine oP 53 yT rfl (Eq.trans (r_bin rfl rfl rfl (b_eql rfl)) (dT hc17)) <| OA.ps [(54, yT), (55, (.int .i64 (((andN a1 1023) : Nat) : Int))), (56, (.int .i64 (((andN a0 1023) : Nat) : Int)))] rfl ?_
   by_cases hc18 : (((andN a1 1023) : Nat) : Int) ≤ (((andN a0 1023) : Nat) : Int)
   ·
    refine oP 57 yT rfl (Eq.trans (r_bin rfl rfl rfl (b_leq rfl)) (dT hc18)) <| OA.ps [(58, yT), (59, yT), (60, (.string (s.extract 0 (min s.size 600)))), (61, (.int .i64 (((s.extract 0 (min s.size 600)).size : Nat) : Int))), (62, (.int .i64 (((andN a0 1023) : Nat) : Int))), (63, (.int .i64 (((andN a1 1023) : Nat) : Int)))] rfl <| oP 64 (.int .i64 ((((andN a0 1023) - (andN a1 1023)) : Nat) : Int)) rfl (r_bin rfl rfl rfl (b_sub (i64_eq (by omega)))) <| oP 65 (.int .i64 (((min ((andN a0 1023) - (andN a1 1023)) 500) : Nat) : Int)) rfl (r_min (a := ((andN a0 1023) - (andN a1 1023))) (b := 500) rfl rfl rfl) ?_
    by_cases hc19 : (((s.extract 0 (min s.size 600)).size : Nat) : Int) = (((min ((andN a0 1023) - (andN a1 1023)) 500) : Nat) : Int)
    ·
     refine oP 66 yT rfl (Eq.trans (r_bin rfl rfl rfl (b_eql rfl)) (dT hc19)) <| OA.ps [(67, yT), (68, yT), (69, (.string (s.extract 0 (min s.size 600)))), (70, (.int .i64 (((s.extract 0 (min s.size 600)).size : Nat) : Int)))] rfl ?_
     by_cases hc20 : 0 < (((s.extract 0 (min s.size 600)).size : Nat) : Int)
     ·
      refine oP 71 yT rfl (Eq.trans (r_bin rfl rfl rfl (b_gtr rfl)) (dT hc20)) <| OA.ps [(72, yT)] rfl <| OA.offs 73 2 rfl <| OA.ps [(75, yT), (76, yT), (15, yT)] rfl <| OA.nil fun _ => RA.rb [(0, (.string s)), (1, (W i)), (2, (.agg ⟨[(.int .i64 a0), (.int .i64 a1)]⟩)), (5, (.pointer (some ⟨n, 0, some 0⟩))), (6, yF), (7, (.string (s.extract 0 (min s.size 600)))), (8, (.int .i64 (((andN a0 1023) : Nat) : Int))), (9, (.int .i64 (((andN a1 1023) : Nat) : Int))), (10, (.string (mkX i (andN a0 1023) (andN a1 1023) (s.extract 0 (min s.size 600))))), (11, (.pointer (some ⟨rn7, 0, some 0⟩))), (12, (.pointer (some ⟨n62, 0, some 0⟩))), (13, yF), (14, (.int .i64 3)), (15, yT)] rfl (fun τr63 => ?_)
      refine RA.sR hd env_ok <| OA.ps [(78, (.pointer (some ⟨rn7, 0, some 0⟩))), (79, (.string (s.extract 0 (min s.size 600)))), (80, (.string (s.extract 0 (min s.size 600)))), (81, (.int .i64 (((s.extract 0 (min s.size 600)).size : Nat) : Int)))] rfl <| oP 82 (.int .i64 (((min (s.extract 0 (min s.size 600)).size 11) : Nat) : Int)) rfl (r_min (a := (s.extract 0 (min s.size 600)).size) (b := 11) rfl rfl rfl) <| oP 83 (.string ((s.extract 0 (min s.size 600)).extract 0 (min (s.extract 0 (min s.size 600)).size 11))) rfl (r_cut (a := 0) (b := (min (s.extract 0 (min s.size 600)).size 11)) rfl rfl (fun _ => rfl) (fun _ => rfl) rfl rfl rfl bound_nat (by omega) (by omega) rfl) ?_
      refine OA.call (dst := (some 84)) (all := [(.pointer (some ⟨rn7, 0, some 0⟩)), (.string ((s.extract 0 (min s.size 600)).extract 0 (min (s.extract 0 (min s.size 600)).size 11)))]) rfl rfl rfl rfl rfl rfl rfl rfl (CQ.imp (sTakeN (hd.of (by omega) (kb4 (by omega))) rn7 ((s.extract 0 (min s.size 600)).extract 0 (min (s.extract 0 (min s.size 600)).size 11)) (by rw [size_cut _ _ _ (by omega)]; omega) (fun hq => by have hq1 := (pOk_f hq).1; rw [size_cut _ _ _ (by omega)] at hq1; omega)) ?_)
      rintro _ n64 _ ⟨rfl, rfl⟩ hn64
      refine OA.app0 ?_
      refine OA.ps [(77, (.tuple ⟨[(.agg ⟨[(.int .u32 0), (.string ByteArray.empty)]⟩), yF, (.int .i64 3)]⟩)), (85, (.agg ⟨[(.int .u32 0), (.string ByteArray.empty)]⟩)), (86, yF), (87, (.int .i64 3))] rfl <| o1 (some 16) (.pointer (some ⟨n64, 0, some 0⟩)) (n64 + 1) (n64, some ⟨[[(.int .u32 0), (.string ByteArray.empty)]], 2, 26, true⟩) rfl <| o1 none yU (n64 + 1) (n64, some ⟨[[(.int .u32 0), (.string ByteArray.empty)]], 2, 26, true⟩) (rS get_here) <| OA.ps [(17, yF), (18, (.int .i64 3))] rfl <| OA.nil fun _ => RA.seq hd <| RA.sR hd env_ok <| OA.ps [(88, yT), (89, yF)] rfl <| OA.nil fun _ => RA.condF rfl <| RA.skip env_ok ?_
      intro _
      refine RA.sR hd env_ok <| oC 108 (hd.of (by omega) (kb6 (by omega))) rfl rfl kAwake fun n65 hn65 => OA.ps [(109, yT), (110, (.int .i64 3))] rfl <| oP 111 yF rfl (r_bin rfl rfl rfl (b_eql rfl)) <| OA.ps [(112, yF), (113, yF)] rfl <| OA.offs 114 4 rfl <| OA.ps [(118, yF), (119, yF)] rfl <| OA.offs 120 9 rfl <| OA.ps [(129, yF), (130, yF)] rfl <| OA.offs 131 2 rfl <| OA.ps [(133, yF), (6, yF)] rfl ?_
      refine OA.nil fun _ => RA.rb [(0, (.string s)), (1, (W i)), (2, (.agg ⟨[(.int .i64 a0), (.int .i64 a1)]⟩)), (5, (.pointer (some ⟨n, 0, some 0⟩))), (6, yF), (7, (.string (s.extract 0 (min s.size 600)))), (8, (.int .i64 (((andN a0 1023) : Nat) : Int))), (9, (.int .i64 (((andN a1 1023) : Nat) : Int))), (10, (.string (mkX i (andN a0 1023) (andN a1 1023) (s.extract 0 (min s.size 600))))), (11, (.pointer (some ⟨rn7, 0, some 0⟩))), (12, (.pointer (some ⟨n62, 0, some 0⟩))), (13, yF), (14, (.int .i64 3)), (15, yT), (18, (.int .i64 3)), (89, yF)] rfl (fun τr66 => ?_)
      refine RA.ret env_ok ?_
      have hq9 := hc1
      unfold pOk at hq9
      rw [hx4, hx8, hxs] at hq9
      refine ⟨.inr rfl, [(.bool false)], (resL_cons rfl resL_nil), [], (LsO fan), (by exfalso; omega)⟩
     ·
      refine oP 71 yF rfl (Eq.trans (r_bin rfl rfl rfl (b_gtr rfl)) (dF hc20)) <| OA.ps [(72, yF), (73, (.int .i64 (((andN a0 1023) : Nat) : Int)))] rfl ?_
      by_cases hc21 : (((andN a0 1023) : Nat) : Int) = 0
      ·
       refine oP 74 yT rfl (Eq.trans (r_bin rfl rfl rfl (b_eql rfl)) (dT hc21)) <| OA.ps [(75, yT), (76, yT), (15, yT)] rfl <| OA.nil fun _ => RA.rb [(0, (.string s)), (1, (W i)), (2, (.agg ⟨[(.int .i64 a0), (.int .i64 a1)]⟩)), (5, (.pointer (some ⟨n, 0, some 0⟩))), (6, yF), (7, (.string (s.extract 0 (min s.size 600)))), (8, (.int .i64 (((andN a0 1023) : Nat) : Int))), (9, (.int .i64 (((andN a1 1023) : Nat) : Int))), (10, (.string (mkX i (andN a0 1023) (andN a1 1023) (s.extract 0 (min s.size 600))))), (11, (.pointer (some ⟨rn7, 0, some 0⟩))), (12, (.pointer (some ⟨n62, 0, some 0⟩))), (13, yF), (14, (.int .i64 3)), (15, yT)] rfl (fun τr67 => ?_)
       refine RA.sR hd env_ok <| OA.ps [(78, (.pointer (some ⟨rn7, 0, some 0⟩))), (79, (.string (s.extract 0 (min s.size 600)))), (80, (.string (s.extract 0 (min s.size 600)))), (81, (.int .i64 (((s.extract 0 (min s.size 600)).size : Nat) : Int)))] rfl <| oP 82 (.int .i64 (((min (s.extract 0 (min s.size 600)).size 11) : Nat) : Int)) rfl (r_min (a := (s.extract 0 (min s.size 600)).size) (b := 11) rfl rfl rfl) <| oP 83 (.string ((s.extract 0 (min s.size 600)).extract 0 (min (s.extract 0 (min s.size 600)).size 11))) rfl (r_cut (a := 0) (b := (min (s.extract 0 (min s.size 600)).size 11)) rfl rfl (fun _ => rfl) (fun _ => rfl) rfl rfl rfl bound_nat (by omega) (by omega) rfl) ?_
       refine OA.call (dst := (some 84)) (all := [(.pointer (some ⟨rn7, 0, some 0⟩)), (.string ((s.extract 0 (min s.size 600)).extract 0 (min (s.extract 0 (min s.size 600)).size 11)))]) rfl rfl rfl rfl rfl rfl rfl rfl (CQ.imp (sTakeN (hd.of (by omega) (kb4 (by omega))) rn7 ((s.extract 0 (min s.size 600)).extract 0 (min (s.extract 0 (min s.size 600)).size 11)) (by rw [size_cut _ _ _ (by omega)]; omega) (fun hq => by have hq1 := (pOk_f hq).1; rw [size_cut _ _ _ (by omega)] at hq1; omega)) ?_)
       rintro _ n68 _ ⟨rfl, rfl⟩ hn68
       refine OA.app0 ?_
       refine OA.ps [(77, (.tuple ⟨[(.agg ⟨[(.int .u32 0), (.string ByteArray.empty)]⟩), yF, (.int .i64 3)]⟩)), (85, (.agg ⟨[(.int .u32 0), (.string ByteArray.empty)]⟩)), (86, yF), (87, (.int .i64 3))] rfl <| o1 (some 16) (.pointer (some ⟨n68, 0, some 0⟩)) (n68 + 1) (n68, some ⟨[[(.int .u32 0), (.string ByteArray.empty)]], 2, 26, true⟩) rfl <| o1 none yU (n68 + 1) (n68, some ⟨[[(.int .u32 0), (.string ByteArray.empty)]], 2, 26, true⟩) (rS get_here) <| OA.ps [(17, yF), (18, (.int .i64 3))] rfl <| OA.nil fun _ => RA.seq hd <| RA.sR hd env_ok <| OA.ps [(88, yT), (89, yF)] rfl <| OA.nil fun _ => RA.condF rfl <| RA.skip env_ok ?_
       intro _
       refine RA.sR hd env_ok <| oC 108 (hd.of (by omega) (kb6 (by omega))) rfl rfl kAwake fun n69 hn69 => OA.ps [(109, yT), (110, (.int .i64 3))] rfl <| oP 111 yF rfl (r_bin rfl rfl rfl (b_eql rfl)) <| OA.ps [(112, yF), (113, yF)] rfl <| OA.offs 114 4 rfl <| OA.ps [(118, yF), (119, yF)] rfl <| OA.offs 120 9 rfl <| OA.ps [(129, yF), (130, yF)] rfl <| OA.offs 131 2 rfl <| OA.ps [(133, yF), (6, yF)] rfl ?_
       refine OA.nil fun _ => RA.rb [(0, (.string s)), (1, (W i)), (2, (.agg ⟨[(.int .i64 a0), (.int .i64 a1)]⟩)), (5, (.pointer (some ⟨n, 0, some 0⟩))), (6, yF), (7, (.string (s.extract 0 (min s.size 600)))), (8, (.int .i64 (((andN a0 1023) : Nat) : Int))), (9, (.int .i64 (((andN a1 1023) : Nat) : Int))), (10, (.string (mkX i (andN a0 1023) (andN a1 1023) (s.extract 0 (min s.size 600))))), (11, (.pointer (some ⟨rn7, 0, some 0⟩))), (12, (.pointer (some ⟨n62, 0, some 0⟩))), (13, yF), (14, (.int .i64 3)), (15, yT), (18, (.int .i64 3)), (89, yF)] rfl (fun τr70 => ?_)
       refine RA.ret env_ok ?_
       have hq9 := hc1
       unfold pOk at hq9
       rw [hx4, hx8, hxs] at hq9
       refine ⟨.inr rfl, [(.bool false)], (resL_cons rfl resL_nil), [], (LsO fan), (by exfalso; omega)⟩
      ·
       refine oP 74 yF rfl (Eq.trans (r_bin rfl rfl rfl (b_eql rfl)) (dF hc21)) <| OA.ps [(75, yF), (76, yF), (15, yF)] rfl <| OA.nil fun _ => RA.rb [(0, (.string s)), (1, (W i)), (2, (.agg ⟨[(.int .i64 a0), (.int .i64 a1)]⟩)), (5, (.pointer (some ⟨n, 0, some 0⟩))), (6, yF), (7, (.string (s.extract 0 (min s.size 600)))), (8, (.int .i64 (((andN a0 1023) : Nat) : Int))), (9, (.int .i64 (((andN a1 1023) : Nat) : Int))), (10, (.string (mkX i (andN a0 1023) (andN a1 1023) (s.extract 0 (min s.size 600))))), (11, (.pointer (some ⟨rn7, 0, some 0⟩))), (12, (.pointer (some ⟨n62, 0, some 0⟩))), (13, yF), (14, (.int .i64 3)), (15, yF)] rfl (fun τr71 => ?_)
       refine RA.sR hd env_ok <| OA.ps [(78, (.pointer (some ⟨rn7, 0, some 0⟩))), (79, (.string (s.extract 0 (min s.size 600)))), (80, (.string (s.extract 0 (min s.size 600)))), (81, (.int .i64 (((s.extract 0 (min s.size 600)).size : Nat) : Int)))] rfl <| oP 82 (.int .i64 (((min (s.extract 0 (min s.size 600)).size 11) : Nat) : Int)) rfl (r_min (a := (s.extract 0 (min s.size 600)).size) (b := 11) rfl rfl rfl) <| oP 83 (.string ((s.extract 0 (min s.size 600)).extract 0 (min (s.extract 0 (min s.size 600)).size 11))) rfl (r_cut (a := 0) (b := (min (s.extract 0 (min s.size 600)).size 11)) rfl rfl (fun _ => rfl) (fun _ => rfl) rfl rfl rfl bound_nat (by omega) (by omega) rfl) ?_
       refine OA.call (dst := (some 84)) (all := [(.pointer (some ⟨rn7, 0, some 0⟩)), (.string ((s.extract 0 (min s.size 600)).extract 0 (min (s.extract 0 (min s.size 600)).size 11)))]) rfl rfl rfl rfl rfl rfl rfl rfl (CQ.imp (sTakeN (hd.of (by omega) (kb4 (by omega))) rn7 ((s.extract 0 (min s.size 600)).extract 0 (min (s.extract 0 (min s.size 600)).size 11)) (by rw [size_cut _ _ _ (by omega)]; omega) (fun hq => by have hq1 := (pOk_f hq).1; rw [size_cut _ _ _ (by omega)] at hq1; omega)) ?_)
       rintro _ n72 _ ⟨rfl, rfl⟩ hn72
       refine OA.app0 ?_
       refine OA.ps [(77, (.tuple ⟨[(.agg ⟨[(.int .u32 0), (.string ByteArray.empty)]⟩), yF, (.int .i64 3)]⟩)), (85, (.agg ⟨[(.int .u32 0), (.string ByteArray.empty)]⟩)), (86, yF), (87, (.int .i64 3))] rfl <| o1 (some 16) (.pointer (some ⟨n72, 0, some 0⟩)) (n72 + 1) (n72, some ⟨[[(.int .u32 0), (.string ByteArray.empty)]], 2, 26, true⟩) rfl <| o1 none yU (n72 + 1) (n72, some ⟨[[(.int .u32 0), (.string ByteArray.empty)]], 2, 26, true⟩) (rS get_here) <| OA.ps [(17, yF), (18, (.int .i64 3))] rfl <| OA.nil fun _ => RA.seq hd <| RA.sR hd env_ok <| OA.ps [(88, yF), (89, yT)] rfl <| OA.nil fun _ => RA.condT rfl <| RA.sR hd env_ok ?_
       refine oC 90 (hd.of (by omega) (kb6 (by omega))) rfl rfl kAwake fun n73 hn73 => OA.ps [(91, yT), (92, (.int .i64 3))] rfl <| oP 93 yT rfl (r_bin rfl rfl rfl (b_eql rfl)) <| OA.ps [(94, yT), (95, yT), (96, yF), (97, yT), (98, yT), (99, yT), (100, (.pointer (some ⟨rn7, 0, some 0⟩)))] rfl <| oC 101 (hd.of (by omega) (kb6 (by omega))) rfl rfl (sLen0 rn7 (gt4 (by omega) get_here)) fun n74 hn74 => oP 102 yT rfl (r_bin rfl rfl rfl (b_eql rfl)) <| OA.ps [(103, yT), (104, yT), (105, (.int .i64 3))] rfl <| oP 106 yT rfl (r_bin rfl rfl rfl (b_eql rfl)) <| OA.ps [(107, yT), (6, yT)] rfl <| OA.nil fun _ => RA.rb [(0, (.string s)), (1, (W i)), (2, (.agg ⟨[(.int .i64 a0), (.int .i64 a1)]⟩)), (5, (.pointer (some ⟨n, 0, some 0⟩))), (6, yT), (7, (.string (s.extract 0 (min s.size 600)))), (8, (.int .i64 (((andN a0 1023) : Nat) : Int))), (9, (.int .i64 (((andN a1 1023) : Nat) : Int))), (10, (.string (mkX i (andN a0 1023) (andN a1 1023) (s.extract 0 (min s.size 600))))), (11, (.pointer (some ⟨rn7, 0, some 0⟩))), (12, (.pointer (some ⟨n62, 0, some 0⟩))), (13, yF), (14, (.int .i64 3)), (15, yF), (18, (.int .i64 3)), (89, yT)] rfl (fun τr75 => ?_)
       refine RA.ret env_ok ?_
       refine ⟨.inr rfl, [(.bool true)], (resL_cons rfl resL_nil), [], (LsO fan), rfl⟩
    ·
     refine oP 66 yF rfl (Eq.trans (r_bin rfl rfl rfl (b_eql rfl)) (dF hc19)) <| OA.ps [(67, yF), (68, yF)] rfl <| OA.offs 69 7 rfl <| OA.ps [(76, yF), (15, yF)] rfl <| OA.nil fun _ => RA.rb [(0, (.string s)), (1, (W i)), (2, (.agg ⟨[(.int .i64 a0), (.int .i64 a1)]⟩)), (5, (.pointer (some ⟨n, 0, some 0⟩))), (6, yF), (7, (.string (s.extract 0 (min s.size 600)))), (8, (.int .i64 (((andN a0 1023) : Nat) : Int))), (9, (.int .i64 (((andN a1 1023) : Nat) : Int))), (10, (.string (mkX i (andN a0 1023) (andN a1 1023) (s.extract 0 (min s.size 600))))), (11, (.pointer (some ⟨rn7, 0, some 0⟩))), (12, (.pointer (some ⟨n62, 0, some 0⟩))), (13, yF), (14, (.int .i64 3)), (15, yF)] rfl (fun τr76 => ?_)
     refine RA.sR hd env_ok <| OA.ps [(78, (.pointer (some ⟨rn7, 0, some 0⟩))), (79, (.string (s.extract 0 (min s.size 600)))), (80, (.string (s.extract 0 (min s.size 600)))), (81, (.int .i64 (((s.extract 0 (min s.size 600)).size : Nat) : Int)))] rfl <| oP 82 (.int .i64 (((min (s.extract 0 (min s.size 600)).size 11) : Nat) : Int)) rfl (r_min (a := (s.extract 0 (min s.size 600)).size) (b := 11) rfl rfl rfl) <| oP 83 (.string ((s.extract 0 (min s.size 600)).extract 0 (min (s.extract 0 (min s.size 600)).size 11))) rfl (r_cut (a := 0) (b := (min (s.extract 0 (min s.size 600)).size 11)) rfl rfl (fun _ => rfl) (fun _ => rfl) rfl rfl rfl bound_nat (by omega) (by omega) rfl) ?_
     refine OA.call (dst := (some 84)) (all := [(.pointer (some ⟨rn7, 0, some 0⟩)), (.string ((s.extract 0 (min s.size 600)).extract 0 (min (s.extract 0 (min s.size 600)).size 11)))]) rfl rfl rfl rfl rfl rfl rfl rfl (CQ.imp (sTakeN (hd.of (by omega) (kb4 (by omega))) rn7 ((s.extract 0 (min s.size 600)).extract 0 (min (s.extract 0 (min s.size 600)).size 11)) (by rw [size_cut _ _ _ (by omega)]; omega) (fun hq => by have hq1 := (pOk_f hq).1; rw [size_cut _ _ _ (by omega)] at hq1; omega)) ?_)
     rintro _ n77 _ ⟨rfl, rfl⟩ hn77
     refine OA.app0 ?_
     refine OA.ps [(77, (.tuple ⟨[(.agg ⟨[(.int .u32 0), (.string ByteArray.empty)]⟩), yF, (.int .i64 3)]⟩)), (85, (.agg ⟨[(.int .u32 0), (.string ByteArray.empty)]⟩)), (86, yF), (87, (.int .i64 3))] rfl <| o1 (some 16) (.pointer (some ⟨n77, 0, some 0⟩)) (n77 + 1) (n77, some ⟨[[(.int .u32 0), (.string ByteArray.empty)]], 2, 26, true⟩) rfl <| o1 none yU (n77 + 1) (n77, some ⟨[[(.int .u32 0), (.string ByteArray.empty)]], 2, 26, true⟩) (rS get_here) <| OA.ps [(17, yF), (18, (.int .i64 3))] rfl <| OA.nil fun _ => RA.seq hd <| RA.sR hd env_ok <| OA.ps [(88, yF), (89, yT)] rfl <| OA.nil fun _ => RA.condT rfl <| RA.sR hd env_ok ?_
     refine oC 90 (hd.of (by omega) (kb6 (by omega))) rfl rfl kAwake fun n78 hn78 => OA.ps [(91, yT), (92, (.int .i64 3))] rfl <| oP 93 yT rfl (r_bin rfl rfl rfl (b_eql rfl)) <| OA.ps [(94, yT), (95, yT), (96, yF), (97, yT), (98, yT), (99, yT), (100, (.pointer (some ⟨rn7, 0, some 0⟩)))] rfl <| oC 101 (hd.of (by omega) (kb6 (by omega))) rfl rfl (sLen0 rn7 (gt4 (by omega) get_here)) fun n79 hn79 => oP 102 yT rfl (r_bin rfl rfl rfl (b_eql rfl)) <| OA.ps [(103, yT), (104, yT), (105, (.int .i64 3))] rfl <| oP 106 yT rfl (r_bin rfl rfl rfl (b_eql rfl)) <| OA.ps [(107, yT), (6, yT)] rfl <| OA.nil fun _ => RA.rb [(0, (.string s)), (1, (W i)), (2, (.agg ⟨[(.int .i64 a0), (.int .i64 a1)]⟩)), (5, (.pointer (some ⟨n, 0, some 0⟩))), (6, yT), (7, (.string (s.extract 0 (min s.size 600)))), (8, (.int .i64 (((andN a0 1023) : Nat) : Int))), (9, (.int .i64 (((andN a1 1023) : Nat) : Int))), (10, (.string (mkX i (andN a0 1023) (andN a1 1023) (s.extract 0 (min s.size 600))))), (11, (.pointer (some ⟨rn7, 0, some 0⟩))), (12, (.pointer (some ⟨n62, 0, some 0⟩))), (13, yF), (14, (.int .i64 3)), (15, yF), (18, (.int .i64 3)), (89, yT)] rfl (fun τr80 => ?_)
     refine RA.ret env_ok ?_
     refine ⟨.inr rfl, [(.bool true)], (resL_cons rfl resL_nil), [], (LsO fan), rfl⟩
   ·
    refine oP 57 yF rfl (Eq.trans (r_bin rfl rfl rfl (b_leq rfl)) (dF hc18)) <| OA.ps [(58, yF), (59, yF)] rfl <| OA.offs 60 7 rfl <| OA.ps [(67, yF), (68, yF)] rfl <| OA.offs 69 7 rfl <| OA.ps [(76, yF), (15, yF)] rfl <| OA.nil fun _ => RA.rb [(0, (.string s)), (1, (W i)), (2, (.agg ⟨[(.int .i64 a0), (.int .i64 a1)]⟩)), (5, (.pointer (some ⟨n, 0, some 0⟩))), (6, yF), (7, (.string (s.extract 0 (min s.size 600)))), (8, (.int .i64 (((andN a0 1023) : Nat) : Int))), (9, (.int .i64 (((andN a1 1023) : Nat) : Int))), (10, (.string (mkX i (andN a0 1023) (andN a1 1023) (s.extract 0 (min s.size 600))))), (11, (.pointer (some ⟨rn7, 0, some 0⟩))), (12, (.pointer (some ⟨n62, 0, some 0⟩))), (13, yF), (14, (.int .i64 3)), (15, yF)] rfl (fun τr81 => ?_)
    refine RA.sR hd env_ok <| OA.ps [(78, (.pointer (some ⟨rn7, 0, some 0⟩))), (79, (.string (s.extract 0 (min s.size 600)))), (80, (.string (s.extract 0 (min s.size 600)))), (81, (.int .i64 (((s.extract 0 (min s.size 600)).size : Nat) : Int)))] rfl <| oP 82 (.int .i64 (((min (s.extract 0 (min s.size 600)).size 11) : Nat) : Int)) rfl (r_min (a := (s.extract 0 (min s.size 600)).size) (b := 11) rfl rfl rfl) <| oP 83 (.string ((s.extract 0 (min s.size 600)).extract 0 (min (s.extract 0 (min s.size 600)).size 11))) rfl (r_cut (a := 0) (b := (min (s.extract 0 (min s.size 600)).size 11)) rfl rfl (fun _ => rfl) (fun _ => rfl) rfl rfl rfl bound_nat (by omega) (by omega) rfl) ?_
    refine OA.call (dst := (some 84)) (all := [(.pointer (some ⟨rn7, 0, some 0⟩)), (.string ((s.extract 0 (min s.size 600)).extract 0 (min (s.extract 0 (min s.size 600)).size 11)))]) rfl rfl rfl rfl rfl rfl rfl rfl (CQ.imp (sTakeN (hd.of (by omega) (kb4 (by omega))) rn7 ((s.extract 0 (min s.size 600)).extract 0 (min (s.extract 0 (min s.size 600)).size 11)) (by rw [size_cut _ _ _ (by omega)]; omega) (fun hq => by have hq1 := (pOk_f hq).1; rw [size_cut _ _ _ (by omega)] at hq1; omega)) ?_)
    rintro _ n82 _ ⟨rfl, rfl⟩ hn82
    refine OA.app0 ?_
    refine OA.ps [(77, (.tuple ⟨[(.agg ⟨[(.int .u32 0), (.string ByteArray.empty)]⟩), yF, (.int .i64 3)]⟩)), (85, (.agg ⟨[(.int .u32 0), (.string ByteArray.empty)]⟩)), (86, yF), (87, (.int .i64 3))] rfl <| o1 (some 16) (.pointer (some ⟨n82, 0, some 0⟩)) (n82 + 1) (n82, some ⟨[[(.int .u32 0), (.string ByteArray.empty)]], 2, 26, true⟩) rfl <| o1 none yU (n82 + 1) (n82, some ⟨[[(.int .u32 0), (.string ByteArray.empty)]], 2, 26, true⟩) (rS get_here) <| OA.ps [(17, yF), (18, (.int .i64 3))] rfl <| OA.nil fun _ => RA.seq hd <| RA.sR hd env_ok <| OA.ps [(88, yF), (89, yT)] rfl <| OA.nil fun _ => RA.condT rfl <| RA.sR hd env_ok ?_
    refine oC 90 (hd.of (by omega) (kb6 (by omega))) rfl rfl kAwake fun n83 hn83 => OA.ps [(91, yT), (92, (.int .i64 3))] rfl <| oP 93 yT rfl (r_bin rfl rfl rfl (b_eql rfl)) <| OA.ps [(94, yT), (95, yT), (96, yF), (97, yT), (98, yT), (99, yT), (100, (.pointer (some ⟨rn7, 0, some 0⟩)))] rfl <| oC 101 (hd.of (by omega) (kb6 (by omega))) rfl rfl (sLen0 rn7 (gt4 (by omega) get_here)) fun n84 hn84 => oP 102 yT rfl (r_bin rfl rfl rfl (b_eql rfl)) <| OA.ps [(103, yT), (104, yT), (105, (.int .i64 3))] rfl <| oP 106 yT rfl (r_bin rfl rfl rfl (b_eql rfl)) <| OA.ps [(107, yT), (6, yT)] rfl <| OA.nil fun _ => RA.rb [(0, (.string s)), (1, (W i)), (2, (.agg ⟨[(.int .i64 a0), (.int .i64 a1)]⟩)), (5, (.pointer (some ⟨n, 0, some 0⟩))), (6, yT), (7, (.string (s.extract 0 (min s.size 600)))), (8, (.int .i64 (((andN a0 1023) : Nat) : Int))), (9, (.int .i64 (((andN a1 1023) : Nat) : Int))), (10, (.string (mkX i (andN a0 1023) (andN a1 1023) (s.extract 0 (min s.size 600))))), (11, (.pointer (some ⟨rn7, 0, some 0⟩))), (12, (.pointer (some ⟨n62, 0, some 0⟩))), (13, yF), (14, (.int .i64 3)), (15, yF), (18, (.int .i64 3)), (89, yT)] rfl (fun τr85 => ?_)
    refine RA.ret env_ok ?_
    refine ⟨.inr rfl, [(.bool true)], (resL_cons rfl resL_nil), [], (LsO fan), rfl⟩
  ·
   refine oP 53 yF rfl (Eq.trans (r_bin rfl rfl rfl (b_eql rfl)) (dF hc17)) <| OA.ps [(54, yF)] rfl <| OA.offs 55 3 rfl <| OA.ps [(58, yF), (59, yF)] rfl <| OA.offs 60 7 rfl <| OA.ps [(67, yF), (68, yF)] rfl <| OA.offs 69 7 rfl <| OA.ps [(76, yF), (15, yF)] rfl <| OA.nil fun _ => RA.rb [(0, (.string s)), (1, (W i)), (2, (.agg ⟨[(.int .i64 a0), (.int .i64 a1)]⟩)), (5, (.pointer (some ⟨n, 0, some 0⟩))), (6, yF), (7, (.string (s.extract 0 (min s.size 600)))), (8, (.int .i64 (((andN a0 1023) : Nat) : Int))), (9, (.int .i64 (((andN a1 1023) : Nat) : Int))), (10, (.string (mkX i (andN a0 1023) (andN a1 1023) (s.extract 0 (min s.size 600))))), (11, (.pointer (some ⟨rn7, 0, some 0⟩))), (12, (.pointer (some ⟨n62, 0, some 0⟩))), (13, yF), (14, (.int .i64 3)), (15, yF)] rfl (fun τr86 => ?_)
   refine RA.sR hd env_ok <| OA.ps [(78, (.pointer (some ⟨rn7, 0, some 0⟩))), (79, (.string (s.extract 0 (min s.size 600)))), (80, (.string (s.extract 0 (min s.size 600)))), (81, (.int .i64 (((s.extract 0 (min s.size 600)).size : Nat) : Int)))] rfl <| oP 82 (.int .i64 (((min (s.extract 0 (min s.size 600)).size 11) : Nat) : Int)) rfl (r_min (a := (s.extract 0 (min s.size 600)).size) (b := 11) rfl rfl rfl) <| oP 83 (.string ((s.extract 0 (min s.size 600)).extract 0 (min (s.extract 0 (min s.size 600)).size 11))) rfl (r_cut (a := 0) (b := (min (s.extract 0 (min s.size 600)).size 11)) rfl rfl (fun _ => rfl) (fun _ => rfl) rfl rfl rfl bound_nat (by omega) (by omega) rfl) ?_
   refine OA.call (dst := (some 84)) (all := [(.pointer (some ⟨rn7, 0, some 0⟩)), (.string ((s.extract 0 (min s.size 600)).extract 0 (min (s.extract 0 (min s.size 600)).size 11)))]) rfl rfl rfl rfl rfl rfl rfl rfl (CQ.imp (sTakeN (hd.of (by omega) (kb4 (by omega))) rn7 ((s.extract 0 (min s.size 600)).extract 0 (min (s.extract 0 (min s.size 600)).size 11)) (by rw [size_cut _ _ _ (by omega)]; omega) (fun hq => by have hq1 := (pOk_f hq).1; rw [size_cut _ _ _ (by omega)] at hq1; omega)) ?_)
   rintro _ n87 _ ⟨rfl, rfl⟩ hn87
   refine OA.app0 ?_
   refine OA.ps [(77, (.tuple ⟨[(.agg ⟨[(.int .u32 0), (.string ByteArray.empty)]⟩), yF, (.int .i64 3)]⟩)), (85, (.agg ⟨[(.int .u32 0), (.string ByteArray.empty)]⟩)), (86, yF), (87, (.int .i64 3))] rfl <| o1 (some 16) (.pointer (some ⟨n87, 0, some 0⟩)) (n87 + 1) (n87, some ⟨[[(.int .u32 0), (.string ByteArray.empty)]], 2, 26, true⟩) rfl <| o1 none yU (n87 + 1) (n87, some ⟨[[(.int .u32 0), (.string ByteArray.empty)]], 2, 26, true⟩) (rS get_here) <| OA.ps [(17, yF), (18, (.int .i64 3))] rfl <| OA.nil fun _ => RA.seq hd <| RA.sR hd env_ok <| OA.ps [(88, yF), (89, yT)] rfl <| OA.nil fun _ => RA.condT rfl <| RA.sR hd env_ok ?_
   refine oC 90 (hd.of (by omega) (kb6 (by omega))) rfl rfl kAwake fun n88 hn88 => OA.ps [(91, yT), (92, (.int .i64 3))] rfl <| oP 93 yT rfl (r_bin rfl rfl rfl (b_eql rfl)) <| OA.ps [(94, yT), (95, yT), (96, yF), (97, yT), (98, yT), (99, yT), (100, (.pointer (some ⟨rn7, 0, some 0⟩)))] rfl <| oC 101 (hd.of (by omega) (kb6 (by omega))) rfl rfl (sLen0 rn7 (gt4 (by omega) get_here)) fun n89 hn89 => oP 102 yT rfl (r_bin rfl rfl rfl (b_eql rfl)) <| OA.ps [(103, yT), (104, yT), (105, (.int .i64 3))] rfl <| oP 106 yT rfl (r_bin rfl rfl rfl (b_eql rfl)) <| OA.ps [(107, yT), (6, yT)] rfl <| OA.nil fun _ => RA.rb [(0, (.string s)), (1, (W i)), (2, (.agg ⟨[(.int .i64 a0), (.int .i64 a1)]⟩)), (5, (.pointer (some ⟨n, 0, some 0⟩))), (6, yT), (7, (.string (s.extract 0 (min s.size 600)))), (8, (.int .i64 (((andN a0 1023) : Nat) : Int))), (9, (.int .i64 (((andN a1 1023) : Nat) : Int))), (10, (.string (mkX i (andN a0 1023) (andN a1 1023) (s.extract 0 (min s.size 600))))), (11, (.pointer (some ⟨rn7, 0, some 0⟩))), (12, (.pointer (some ⟨n62, 0, some 0⟩))), (13, yF), (14, (.int .i64 3)), (15, yF), (18, (.int .i64 3)), (89, yT)] rfl (fun τr90 => ?_)
   refine RA.ret env_ok ?_
   refine ⟨.inr rfl, [(.bool true)], (resL_cons rfl resL_nil), [], (LsO fan), rfl⟩
end Go.Proofs.Ytdiofapingdlmaa.Vt
/- The pure part of FilerReads. -/
namespace Go.Proofs.Ytdiofapingdlmaa.Vt
open Go Go.Proofs Go.Proofs.YtdiofapingdlmaaV
set_option linter.unusedVariables false
theorem wf_word {b : Int} (h : (Lit.int .u32 b).wf = true) : ∃ x : BitVec 32, b = ((x.toNat : Nat) : Int) := by
  have h2 : 0 ≤ b ∧ b < 4294967296 := by
    simp [Lit.wf, IntKind.min, IntKind.max, IntKind.signed, IntKind.bits] at h
    omega
  exact ⟨BitVec.ofNat 32 b.toNat, by rw [BitVec.toNat_ofNat]; omega⟩
theorem runFilerReads (n : Nat) (σ : Store) (hd : Dom n σ) (x0 x1 x2 : Value) (h0 : g9.G σ [x0]) (h1 : g23.G σ [x1]) (h2 : (∃ acs, x2 = .agg ⟨acs⟩ ∧ g37.G σ acs)) : CQ Try.prog noDen 4 [x0, x1, x2] n σ (fun v _ _ => v = .bool true) := by
  obtain ⟨b0, q0, w0⟩ := h0
  cases q0
  obtain ⟨b1, q1, w1⟩ := h1
  cases q1
  obtain ⟨acs2, rfl, k2⟩ := h2
  obtain ⟨_, _, rfl, ⟨a2, rfl, w2⟩, _, _, rfl, ⟨a3, rfl, w3⟩, rfl⟩ := k2
  obtain ⟨i, rfl⟩ := wf_word w1
  exact lReads hd b0 i a2 a3 (Nat.lt_succ_of_le w0)
end Go.Proofs.Ytdiofapingdlmaa.Vt
