/- The tables of types and functions, for the abstract machine. -/
import Derived.Test.YtgajcmanompmcaaVm2
import Derived.Test.YtgajcmanompmcaaProg
namespace Go.Proofs.Ytgajcmanompmcaa.Vt
open Go Go.Proofs Go.Proofs.YtgajcmanompmcaaV
set_option maxRecDepth 100000
set_option linter.unusedVariables false
def t3 : TI := ⟨.int .i64, .int .i64 0, 1, 8, false⟩
theorem t3_ok : TyOk Try.prog 3 t3 := TyOk.mk' Try.underlying3 (by kernel_rfl) (by kernel_rfl) (.inl rfl)
def t4 : TI := ⟨.bool, .bool false, 1, 1, false⟩
theorem t4_ok : TyOk Try.prog 4 t4 := TyOk.mk' Try.underlying4 (by kernel_rfl) (by kernel_rfl) (.inl rfl)
def t5 : TI := ⟨.int .u8, .int .u8 0, 1, 1, false⟩
theorem t5_ok : TyOk Try.prog 5 t5 := TyOk.mk' Try.underlying5 (by kernel_rfl) (by kernel_rfl) (.inl rfl)
def t9 : TI := ⟨.string, .string ⟨#[]⟩, 1, 16, false⟩
theorem t9_ok : TyOk Try.prog 9 t9 := TyOk.mk' Try.underlying9 (by kernel_rfl) (by kernel_rfl) (.inl rfl)
def t28 : TI := ⟨.int .i64, .int .i64 0, 1, 8, false⟩
theorem t28_ok : TyOk Try.prog 28 t28 := TyOk.mk' Try.underlying28 (by kernel_rfl) (by kernel_rfl) (.inl rfl)
def t34 : TI := ⟨.struct #[{ name := "Type", type := 3, offset := 0, embedded := false, tag := "", pkgPath := "", byteOffset := 0 }, { name := "Value", type := 9, offset := 1, embedded := false, tag := "", pkgPath := "", byteOffset := 8 }], .agg #[.int .i64 0, .string ⟨#[]⟩], 2, 24, true⟩
theorem t34_ok : TyOk Try.prog 34 t34 := TyOk.mk' Try.underlying34 (by kernel_rfl) (by kernel_rfl) (.inr ⟨by kernel_rfl, by kernel_rfl⟩)
def t35 : TI := ⟨.struct #[{ name := "Type", type := 3, offset := 0, embedded := false, tag := "", pkgPath := "", byteOffset := 0 }, { name := "Value", type := 9, offset := 1, embedded := false, tag := "", pkgPath := "", byteOffset := 8 }], .agg #[.int .i64 0, .string ⟨#[]⟩], 2, 24, true⟩
theorem t35_ok : TyOk Try.prog 35 t35 := TyOk.mk' Try.underlying35 (by kernel_rfl) (by kernel_rfl) (.inr ⟨by kernel_rfl, by kernel_rfl⟩)
def t36 : TI := ⟨.int .u32, .int .u32 0, 1, 4, false⟩
theorem t36_ok : TyOk Try.prog 36 t36 := TyOk.mk' Try.underlying36 (by kernel_rfl) (by kernel_rfl) (.inl rfl)
def t41 : TI := ⟨.int .u64, .int .u64 0, 1, 8, false⟩
theorem t41_ok : TyOk Try.prog 41 t41 := TyOk.mk' Try.underlying41 (by kernel_rfl) (by kernel_rfl) (.inl rfl)
def t44 : TI := ⟨.slice 3, .slice none 0 0, 1, 24, false⟩
theorem t44_ok : TyOk Try.prog 44 t44 := TyOk.mk' Try.underlying44 (by kernel_rfl) (by kernel_rfl) (.inl rfl)
def t45 : TI := ⟨.pointer 94, .pointer none, 1, 8, false⟩
theorem t45_ok : TyOk Try.prog 45 t45 := TyOk.mk' Try.underlying45 (by kernel_rfl) (by kernel_rfl) (.inl rfl)
def t48 : TI := ⟨.slice 35, .slice none 0 0, 1, 24, false⟩
theorem t48_ok : TyOk Try.prog 48 t48 := TyOk.mk' Try.underlying48 (by kernel_rfl) (by kernel_rfl) (.inl rfl)
def t49 : TI := ⟨.slice 99, .slice none 0 0, 1, 24, false⟩
theorem t49_ok : TyOk Try.prog 49 t49 := TyOk.mk' Try.underlying49 (by kernel_rfl) (by kernel_rfl) (.inl rfl)
def t50 : TI := ⟨.slice 101, .slice none 0 0, 1, 24, false⟩
theorem t50_ok : TyOk Try.prog 50 t50 := TyOk.mk' Try.underlying50 (by kernel_rfl) (by kernel_rfl) (.inl rfl)
def t51 : TI := ⟨.slice 36, .slice none 0 0, 1, 24, false⟩
theorem t51_ok : TyOk Try.prog 51 t51 := TyOk.mk' Try.underlying51 (by kernel_rfl) (by kernel_rfl) (.inl rfl)
def t52 : TI := ⟨.struct #[{ name := "Type", type := 3, offset := 0, embedded := false, tag := "", pkgPath := "", byteOffset := 0 }, { name := "Flags", type := 3, offset := 1, embedded := false, tag := "", pkgPath := "", byteOffset := 8 }, { name := "Tsn", type := 36, offset := 2, embedded := false, tag := "", pkgPath := "", byteOffset := 16 }, { name := "Stream", type := 3, offset := 3, embedded := false, tag := "", pkgPath := "", byteOffset := 24 }, { name := "Ssn", type := 3, offset := 4, embedded := false, tag := "", pkgPath := "", byteOffset := 32 }, { name := "Proto", type := 36, offset := 5, embedded := false, tag := "", pkgPath := "", byteOffset := 40 }, { name := "Data", type := 9, offset := 6, embedded := false, tag := "", pkgPath := "", byteOffset := 48 }, { name := "Tag", type := 36, offset := 7, embedded := false, tag := "", pkgPath := "", byteOffset := 64 }, { name := "Rwnd", type := 36, offset := 8, embedded := false, tag := "", pkgPath := "", byteOffset := 68 }, { name := "Out", type := 3, offset := 9, embedded := false, tag := "", pkgPath := "", byteOffset := 72 }, { name := "In", type := 3, offset := 10, embedded := false, tag := "", pkgPath := "", byteOffset := 80 }, { name := "Params", type := 48, offset := 11, embedded := false, tag := "", pkgPath := "", byteOffset := 88 }, { name := "Causes", type := 49, offset := 12, embedded := false, tag := "", pkgPath := "", byteOffset := 112 }, { name := "Gaps", type := 50, offset := 13, embedded := false, tag := "", pkgPath := "", byteOffset := 136 }, { name := "Dups", type := 51, offset := 14, embedded := false, tag := "", pkgPath := "", byteOffset := 160 }], .agg #[.int .i64 0, .int .i64 0, .int .u32 0, .int .i64 0, .int .i64 0, .int .u32 0, .string ⟨#[]⟩, .int .u32 0, .int .u32 0, .int .i64 0, .int .i64 0, .slice none 0 0, .slice none 0 0, .slice none 0 0, .slice none 0 0], 15, 184, false⟩
theorem t52_ok : TyOk Try.prog 52 t52 := TyOk.mk' Try.underlying52 (by kernel_rfl) (by kernel_rfl) (.inl rfl)
def t53 : TI := ⟨.struct #[{ name := "Type", type := 3, offset := 0, embedded := false, tag := "", pkgPath := "", byteOffset := 0 }, { name := "Flags", type := 3, offset := 1, embedded := false, tag := "", pkgPath := "", byteOffset := 8 }, { name := "Tsn", type := 36, offset := 2, embedded := false, tag := "", pkgPath := "", byteOffset := 16 }, { name := "Stream", type := 3, offset := 3, embedded := false, tag := "", pkgPath := "", byteOffset := 24 }, { name := "Ssn", type := 3, offset := 4, embedded := false, tag := "", pkgPath := "", byteOffset := 32 }, { name := "Proto", type := 36, offset := 5, embedded := false, tag := "", pkgPath := "", byteOffset := 40 }, { name := "Data", type := 9, offset := 6, embedded := false, tag := "", pkgPath := "", byteOffset := 48 }, { name := "Tag", type := 36, offset := 7, embedded := false, tag := "", pkgPath := "", byteOffset := 64 }, { name := "Rwnd", type := 36, offset := 8, embedded := false, tag := "", pkgPath := "", byteOffset := 68 }, { name := "Out", type := 3, offset := 9, embedded := false, tag := "", pkgPath := "", byteOffset := 72 }, { name := "In", type := 3, offset := 10, embedded := false, tag := "", pkgPath := "", byteOffset := 80 }, { name := "Params", type := 48, offset := 11, embedded := false, tag := "", pkgPath := "", byteOffset := 88 }, { name := "Causes", type := 49, offset := 12, embedded := false, tag := "", pkgPath := "", byteOffset := 112 }, { name := "Gaps", type := 50, offset := 13, embedded := false, tag := "", pkgPath := "", byteOffset := 136 }, { name := "Dups", type := 51, offset := 14, embedded := false, tag := "", pkgPath := "", byteOffset := 160 }], .agg #[.int .i64 0, .int .i64 0, .int .u32 0, .int .i64 0, .int .i64 0, .int .u32 0, .string ⟨#[]⟩, .int .u32 0, .int .u32 0, .int .i64 0, .int .i64 0, .slice none 0 0, .slice none 0 0, .slice none 0 0, .slice none 0 0], 15, 184, false⟩
theorem t53_ok : TyOk Try.prog 53 t53 := TyOk.mk' Try.underlying53 (by kernel_rfl) (by kernel_rfl) (.inl rfl)
def t85 : TI := ⟨.pointer 121, .pointer none, 1, 8, false⟩
theorem t85_ok : TyOk Try.prog 85 t85 := TyOk.mk' Try.underlying85 (by kernel_rfl) (by kernel_rfl) (.inl rfl)
def t92 : TI := ⟨.slice 5, .slice none 0 0, 1, 24, false⟩
theorem t92_ok : TyOk Try.prog 92 t92 := TyOk.mk' Try.underlying92 (by kernel_rfl) (by kernel_rfl) (.inl rfl)
def t93 : TI := ⟨.struct #[{ name := "want", type := 3, offset := 0, embedded := false, tag := "", pkgPath := "crossway/reconf", byteOffset := 0 }, { name := "next", type := 36, offset := 1, embedded := false, tag := "", pkgPath := "crossway/reconf", byteOffset := 8 }, { name := "at", type := 3, offset := 2, embedded := false, tag := "", pkgPath := "crossway/reconf", byteOffset := 16 }, { name := "many", type := 3, offset := 3, embedded := false, tag := "", pkgPath := "crossway/reconf", byteOffset := 24 }, { name := "peer", type := 36, offset := 4, embedded := false, tag := "", pkgPath := "crossway/reconf", byteOffset := 32 }, { name := "last", type := 3, offset := 5, embedded := false, tag := "", pkgPath := "crossway/reconf", byteOffset := 40 }], .agg #[.int .i64 0, .int .u32 0, .int .i64 0, .int .i64 0, .int .u32 0, .int .i64 0], 6, 48, false⟩
theorem t93_ok : TyOk Try.prog 93 t93 := TyOk.mk' Try.underlying93 (by kernel_rfl) (by kernel_rfl) (.inl rfl)
def t94 : TI := ⟨.struct #[{ name := "want", type := 3, offset := 0, embedded := false, tag := "", pkgPath := "crossway/reconf", byteOffset := 0 }, { name := "next", type := 36, offset := 1, embedded := false, tag := "", pkgPath := "crossway/reconf", byteOffset := 8 }, { name := "at", type := 3, offset := 2, embedded := false, tag := "", pkgPath := "crossway/reconf", byteOffset := 16 }, { name := "many", type := 3, offset := 3, embedded := false, tag := "", pkgPath := "crossway/reconf", byteOffset := 24 }, { name := "peer", type := 36, offset := 4, embedded := false, tag := "", pkgPath := "crossway/reconf", byteOffset := 32 }, { name := "last", type := 3, offset := 5, embedded := false, tag := "", pkgPath := "crossway/reconf", byteOffset := 40 }], .agg #[.int .i64 0, .int .u32 0, .int .i64 0, .int .i64 0, .int .u32 0, .int .i64 0], 6, 48, false⟩
theorem t94_ok : TyOk Try.prog 94 t94 := TyOk.mk' Try.underlying94 (by kernel_rfl) (by kernel_rfl) (.inl rfl)
def t98 : TI := ⟨.struct #[{ name := "Code", type := 3, offset := 0, embedded := false, tag := "", pkgPath := "", byteOffset := 0 }, { name := "Info", type := 9, offset := 1, embedded := false, tag := "", pkgPath := "", byteOffset := 8 }], .agg #[.int .i64 0, .string ⟨#[]⟩], 2, 24, true⟩
theorem t98_ok : TyOk Try.prog 98 t98 := TyOk.mk' Try.underlying98 (by kernel_rfl) (by kernel_rfl) (.inr ⟨by kernel_rfl, by kernel_rfl⟩)
def t99 : TI := ⟨.struct #[{ name := "Code", type := 3, offset := 0, embedded := false, tag := "", pkgPath := "", byteOffset := 0 }, { name := "Info", type := 9, offset := 1, embedded := false, tag := "", pkgPath := "", byteOffset := 8 }], .agg #[.int .i64 0, .string ⟨#[]⟩], 2, 24, true⟩
theorem t99_ok : TyOk Try.prog 99 t99 := TyOk.mk' Try.underlying99 (by kernel_rfl) (by kernel_rfl) (.inr ⟨by kernel_rfl, by kernel_rfl⟩)
def t100 : TI := ⟨.struct #[{ name := "From", type := 3, offset := 0, embedded := false, tag := "", pkgPath := "", byteOffset := 0 }, { name := "To", type := 3, offset := 1, embedded := false, tag := "", pkgPath := "", byteOffset := 8 }], .agg #[.int .i64 0, .int .i64 0], 2, 16, true⟩
theorem t100_ok : TyOk Try.prog 100 t100 := TyOk.mk' Try.underlying100 (by kernel_rfl) (by kernel_rfl) (.inr ⟨by kernel_rfl, by kernel_rfl⟩)
def t101 : TI := ⟨.struct #[{ name := "From", type := 3, offset := 0, embedded := false, tag := "", pkgPath := "", byteOffset := 0 }, { name := "To", type := 3, offset := 1, embedded := false, tag := "", pkgPath := "", byteOffset := 8 }], .agg #[.int .i64 0, .int .i64 0], 2, 16, true⟩
theorem t101_ok : TyOk Try.prog 101 t101 := TyOk.mk' Try.underlying101 (by kernel_rfl) (by kernel_rfl) (.inr ⟨by kernel_rfl, by kernel_rfl⟩)
def t120 : TI := ⟨.struct #[{ name := "s", type := 9, offset := 0, embedded := false, tag := "", pkgPath := "crossway/octet", byteOffset := 0 }, { name := "err", type := 28, offset := 1, embedded := false, tag := "", pkgPath := "crossway/octet", byteOffset := 16 }], .agg #[.string ⟨#[]⟩, .int .i64 0], 2, 24, false⟩
theorem t120_ok : TyOk Try.prog 120 t120 := TyOk.mk' Try.underlying120 (by kernel_rfl) (by kernel_rfl) (.inl rfl)
def t121 : TI := ⟨.struct #[{ name := "s", type := 9, offset := 0, embedded := false, tag := "", pkgPath := "crossway/octet", byteOffset := 0 }, { name := "err", type := 28, offset := 1, embedded := false, tag := "", pkgPath := "crossway/octet", byteOffset := 16 }], .agg #[.string ⟨#[]⟩, .int .i64 0], 2, 24, false⟩
theorem t121_ok : TyOk Try.prog 121 t121 := TyOk.mk' Try.underlying121 (by kernel_rfl) (by kernel_rfl) (.inl rfl)
theorem f5_ok : FnOk Try.prog 5 Try.f5 := ⟨Try.func5, by kernel_rfl⟩
theorem f6_ok : FnOk Try.prog 6 Try.f6 := ⟨Try.func6, by kernel_rfl⟩
theorem f7_ok : FnOk Try.prog 7 Try.f7 := ⟨Try.func7, by kernel_rfl⟩
theorem f17_ok : FnOk Try.prog 17 Try.f17 := ⟨Try.func17, by kernel_rfl⟩
theorem f18_ok : FnOk Try.prog 18 Try.f18 := ⟨Try.func18, by kernel_rfl⟩
theorem f19_ok : FnOk Try.prog 19 Try.f19 := ⟨Try.func19, by kernel_rfl⟩
theorem f20_ok : FnOk Try.prog 20 Try.f20 := ⟨Try.func20, by kernel_rfl⟩
theorem f21_ok : FnOk Try.prog 21 Try.f21 := ⟨Try.func21, by kernel_rfl⟩
theorem f22_ok : FnOk Try.prog 22 Try.f22 := ⟨Try.func22, by kernel_rfl⟩
theorem f23_ok : FnOk Try.prog 23 Try.f23 := ⟨Try.func23, by kernel_rfl⟩
theorem f24_ok : FnOk Try.prog 24 Try.f24 := ⟨Try.func24, by kernel_rfl⟩
theorem f25_ok : FnOk Try.prog 25 Try.f25 := ⟨Try.func25, by kernel_rfl⟩
theorem f26_ok : FnOk Try.prog 26 Try.f26 := ⟨Try.func26, by kernel_rfl⟩
theorem f27_ok : FnOk Try.prog 27 Try.f27 := ⟨Try.func27, by kernel_rfl⟩
theorem f28_ok : FnOk Try.prog 28 Try.f28 := ⟨Try.func28, by kernel_rfl⟩
theorem f29_ok : FnOk Try.prog 29 Try.f29 := ⟨Try.func29, by kernel_rfl⟩
theorem f30_ok : FnOk Try.prog 30 Try.f30 := ⟨Try.func30, by kernel_rfl⟩
theorem f31_ok : FnOk Try.prog 31 Try.f31 := ⟨Try.func31, by kernel_rfl⟩
theorem f32_ok : FnOk Try.prog 32 Try.f32 := ⟨Try.func32, by kernel_rfl⟩
theorem f49_ok : FnOk Try.prog 49 Try.f49 := ⟨Try.func49, by kernel_rfl⟩
theorem f51_ok : FnOk Try.prog 51 Try.f51 := ⟨Try.func51, by kernel_rfl⟩
theorem f55_ok : FnOk Try.prog 55 Try.f55 := ⟨Try.func55, by kernel_rfl⟩
theorem f59_ok : FnOk Try.prog 59 Try.f59 := ⟨Try.func59, by kernel_rfl⟩
theorem f60_ok : FnOk Try.prog 60 Try.f60 := ⟨Try.func60, by kernel_rfl⟩
theorem f61_ok : FnOk Try.prog 61 Try.f61 := ⟨Try.func61, by kernel_rfl⟩
theorem f62_ok : FnOk Try.prog 62 Try.f62 := ⟨Try.func62, by kernel_rfl⟩
theorem f63_ok : FnOk Try.prog 63 Try.f63 := ⟨Try.func63, by kernel_rfl⟩
theorem f64_ok : FnOk Try.prog 64 Try.f64 := ⟨Try.func64, by kernel_rfl⟩
theorem f87_ok : FnOk Try.prog 87 Try.f87 := ⟨Try.func87, by kernel_rfl⟩
theorem f88_ok : FnOk Try.prog 88 Try.f88 := ⟨Try.func88, by kernel_rfl⟩
theorem f93_ok : FnOk Try.prog 93 Try.f93 := ⟨Try.func93, by kernel_rfl⟩
def g3 : Gd := Gd.int .i64
theorem o3 {N : Nat} {w0 w : World} (hN : N = w.heap.size) : Opn Try.prog N w0 w 3 g3 := Opn.int Try.underlying3
def g9 : Gd := Gd.str
theorem o9 {N : Nat} {w0 w : World} (hN : N = w.heap.size) : Opn Try.prog N w0 w 9 g9 := Opn.str Try.underlying9
def g35 : Gd := Gd.agg [g3, g9]
theorem o35 {N : Nat} {w0 w : World} (hN : N = w.heap.size) : Opn Try.prog N w0 w 35 g35 := Opn.struct Try.underlying35 (by kernel_rfl) (show OpnAll Try.prog N w0 w [(3, 0), (9, 1)] [g3, g9] from ⟨o3 hN, o9 hN, trivial⟩)
def g36 : Gd := Gd.int .u32
theorem o36 {N : Nat} {w0 w : World} (hN : N = w.heap.size) : Opn Try.prog N w0 w 36 g36 := Opn.int Try.underlying36
def g44 : Gd := Gd.row 3 1 g3
theorem o44 {N : Nat} {w0 w : World} (hN : N = w.heap.size) : Opn Try.prog N w0 w 44 g44 := Opn.slice Try.underlying44 (by kernel_rfl) (by decide) (o3 hN) hN
noncomputable def tys : Tr TI := (.node 50 t50 (.node 35 t35 (.node 9 t9 (.node 4 t4 (.node 3 t3 .leaf .leaf) (.node 5 t5 .leaf .leaf)) (.node 34 t34 (.node 28 t28 .leaf .leaf) .leaf)) (.node 45 t45 (.node 41 t41 (.node 36 t36 .leaf .leaf) (.node 44 t44 .leaf .leaf)) (.node 49 t49 (.node 48 t48 .leaf .leaf) .leaf))) (.node 94 t94 (.node 85 t85 (.node 52 t52 (.node 51 t51 .leaf .leaf) (.node 53 t53 .leaf .leaf)) (.node 93 t93 (.node 92 t92 .leaf .leaf) .leaf)) (.node 101 t101 (.node 99 t99 (.node 98 t98 .leaf .leaf) (.node 100 t100 .leaf .leaf)) (.node 121 t121 (.node 120 t120 .leaf .leaf) .leaf))))
noncomputable def fns : Tr Func := (.node 29 Try.f29 (.node 21 Try.f21 (.node 17 Try.f17 (.node 6 Try.f6 (.node 5 Try.f5 .leaf .leaf) (.node 7 Try.f7 .leaf .leaf)) (.node 19 Try.f19 (.node 18 Try.f18 .leaf .leaf) (.node 20 Try.f20 .leaf .leaf))) (.node 25 Try.f25 (.node 23 Try.f23 (.node 22 Try.f22 .leaf .leaf) (.node 24 Try.f24 .leaf .leaf)) (.node 27 Try.f27 (.node 26 Try.f26 .leaf .leaf) (.node 28 Try.f28 .leaf .leaf)))) (.node 60 Try.f60 (.node 49 Try.f49 (.node 31 Try.f31 (.node 30 Try.f30 .leaf .leaf) (.node 32 Try.f32 .leaf .leaf)) (.node 55 Try.f55 (.node 51 Try.f51 .leaf .leaf) (.node 59 Try.f59 .leaf .leaf))) (.node 64 Try.f64 (.node 62 Try.f62 (.node 61 Try.f61 .leaf .leaf) (.node 63 Try.f63 .leaf .leaf)) (.node 88 Try.f88 (.node 87 Try.f87 .leaf .leaf) (.node 93 Try.f93 .leaf .leaf)))))
noncomputable def env : Env := mkEnv tys fns
theorem env_ok : EnvOk Try.prog env := mkEnv_ok (T := tys) (F := fns) ⟨t50_ok, ⟨t35_ok, ⟨t9_ok, ⟨t4_ok, ⟨t3_ok, trivial, trivial⟩, ⟨t5_ok, trivial, trivial⟩⟩, ⟨t34_ok, ⟨t28_ok, trivial, trivial⟩, trivial⟩⟩, ⟨t45_ok, ⟨t41_ok, ⟨t36_ok, trivial, trivial⟩, ⟨t44_ok, trivial, trivial⟩⟩, ⟨t49_ok, ⟨t48_ok, trivial, trivial⟩, trivial⟩⟩⟩, ⟨t94_ok, ⟨t85_ok, ⟨t52_ok, ⟨t51_ok, trivial, trivial⟩, ⟨t53_ok, trivial, trivial⟩⟩, ⟨t93_ok, ⟨t92_ok, trivial, trivial⟩, trivial⟩⟩, ⟨t101_ok, ⟨t99_ok, ⟨t98_ok, trivial, trivial⟩, ⟨t100_ok, trivial, trivial⟩⟩, ⟨t121_ok, ⟨t120_ok, trivial, trivial⟩, trivial⟩⟩⟩⟩ ⟨f29_ok, ⟨f21_ok, ⟨f17_ok, ⟨f6_ok, ⟨f5_ok, trivial, trivial⟩, ⟨f7_ok, trivial, trivial⟩⟩, ⟨f19_ok, ⟨f18_ok, trivial, trivial⟩, ⟨f20_ok, trivial, trivial⟩⟩⟩, ⟨f25_ok, ⟨f23_ok, ⟨f22_ok, trivial, trivial⟩, ⟨f24_ok, trivial, trivial⟩⟩, ⟨f27_ok, ⟨f26_ok, trivial, trivial⟩, ⟨f28_ok, trivial, trivial⟩⟩⟩⟩, ⟨f60_ok, ⟨f49_ok, ⟨f31_ok, ⟨f30_ok, trivial, trivial⟩, ⟨f32_ok, trivial, trivial⟩⟩, ⟨f55_ok, ⟨f51_ok, trivial, trivial⟩, ⟨f59_ok, trivial, trivial⟩⟩⟩, ⟨f64_ok, ⟨f62_ok, ⟨f61_ok, trivial, trivial⟩, ⟨f63_ok, trivial, trivial⟩⟩, ⟨f88_ok, ⟨f87_ok, trivial, trivial⟩, ⟨f93_ok, trivial, trivial⟩⟩⟩⟩⟩ (by kernel_rfl)
instance : Plain env := ⟨fun _ _ _ => rfl⟩
end Go.Proofs.Ytgajcmanompmcaa.Vt
