/- The tables of types and functions, for the abstract machine. -/
import Derived.Test.YtgajcmanompmcaaVmU
import Derived.Test.YtgajcmanompmcaaProg
namespace Go.Proofs.Ytgajcmanompmcaa.Vt
open Go Go.Proofs Go.Proofs.YtgajcmanompmcaaV
set_option maxRecDepth 100000
set_option linter.unusedVariables false
def t3 : TI := ⟨.int .i64, .int .i64 0, 1, 8, false⟩
theorem t3_ok : TyOk Try.prog 3 t3 := TyOk.mk' Try.underlying3 (by kernel_rfl) (by kernel_rfl) (.inl rfl)
def t4 : TI := ⟨.bool, .bool false, 1, 1, false⟩
theorem t4_ok : TyOk Try.prog 4 t4 := TyOk.mk' Try.underlying4 (by kernel_rfl) (by kernel_rfl) (.inl rfl)
def t5 : TI := ⟨.int .u8, .int .u8 0, 1, 1, false⟩
theorem t5_ok : TyOk Try.prog 5 t5 := TyOk.mk' Try.underlying5 (by kernel_rfl) (by kernel_rfl) (.inl rfl)
def t9 : TI := ⟨.string, .string ⟨#[]⟩, 1, 16, false⟩
theorem t9_ok : TyOk Try.prog 9 t9 := TyOk.mk' Try.underlying9 (by kernel_rfl) (by kernel_rfl) (.inl rfl)
def t34 : TI := ⟨.struct #[{ name := "Type", type := 3, offset := 0, embedded := false, tag := "", pkgPath := "", byteOffset := 0 }, { name := "Value", type := 9, offset := 1, embedded := false, tag := "", pkgPath := "", byteOffset := 8 }], .agg #[.int .i64 0, .string ⟨#[]⟩], 2, 24, false⟩
theorem t34_ok : TyOk Try.prog 34 t34 := TyOk.mk' Try.underlying34 (by kernel_rfl) (by kernel_rfl) (.inl rfl)
def t35 : TI := ⟨.struct #[{ name := "Type", type := 3, offset := 0, embedded := false, tag := "", pkgPath := "", byteOffset := 0 }, { name := "Value", type := 9, offset := 1, embedded := false, tag := "", pkgPath := "", byteOffset := 8 }], .agg #[.int .i64 0, .string ⟨#[]⟩], 2, 24, false⟩
theorem t35_ok : TyOk Try.prog 35 t35 := TyOk.mk' Try.underlying35 (by kernel_rfl) (by kernel_rfl) (.inl rfl)
def t36 : TI := ⟨.int .u32, .int .u32 0, 1, 4, false⟩
theorem t36_ok : TyOk Try.prog 36 t36 := TyOk.mk' Try.underlying36 (by kernel_rfl) (by kernel_rfl) (.inl rfl)
def t48 : TI := ⟨.slice 35, .slice none 0 0, 1, 24, false⟩
theorem t48_ok : TyOk Try.prog 48 t48 := TyOk.mk' Try.underlying48 (by kernel_rfl) (by kernel_rfl) (.inl rfl)
def t49 : TI := ⟨.slice 99, .slice none 0 0, 1, 24, false⟩
theorem t49_ok : TyOk Try.prog 49 t49 := TyOk.mk' Try.underlying49 (by kernel_rfl) (by kernel_rfl) (.inl rfl)
def t50 : TI := ⟨.slice 101, .slice none 0 0, 1, 24, false⟩
theorem t50_ok : TyOk Try.prog 50 t50 := TyOk.mk' Try.underlying50 (by kernel_rfl) (by kernel_rfl) (.inl rfl)
def t51 : TI := ⟨.slice 36, .slice none 0 0, 1, 24, false⟩
theorem t51_ok : TyOk Try.prog 51 t51 := TyOk.mk' Try.underlying51 (by kernel_rfl) (by kernel_rfl) (.inl rfl)
def t52 : TI := ⟨.struct #[{ name := "Type", type := 3, offset := 0, embedded := false, tag := "", pkgPath := "", byteOffset := 0 }, { name := "Flags", type := 3, offset := 1, embedded := false, tag := "", pkgPath := "", byteOffset := 8 }, { name := "Tsn", type := 36, offset := 2, embedded := false, tag := "", pkgPath := "", byteOffset := 16 }, { name := "Stream", type := 3, offset := 3, embedded := false, tag := "", pkgPath := "", byteOffset := 24 }, { name := "Ssn", type := 3, offset := 4, embedded := false, tag := "", pkgPath := "", byteOffset := 32 }, { name := "Proto", type := 36, offset := 5, embedded := false, tag := "", pkgPath := "", byteOffset := 40 }, { name := "Data", type := 9, offset := 6, embedded := false, tag := "", pkgPath := "", byteOffset := 48 }, { name := "Tag", type := 36, offset := 7, embedded := false, tag := "", pkgPath := "", byteOffset := 64 }, { name := "Rwnd", type := 36, offset := 8, embedded := false, tag := "", pkgPath := "", byteOffset := 68 }, { name := "Out", type := 3, offset := 9, embedded := false, tag := "", pkgPath := "", byteOffset := 72 }, { name := "In", type := 3, offset := 10, embedded := false, tag := "", pkgPath := "", byteOffset := 80 }, { name := "Params", type := 48, offset := 11, embedded := false, tag := "", pkgPath := "", byteOffset := 88 }, { name := "Causes", type := 49, offset := 12, embedded := false, tag := "", pkgPath := "", byteOffset := 112 }, { name := "Gaps", type := 50, offset := 13, embedded := false, tag := "", pkgPath := "", byteOffset := 136 }, { name := "Dups", type := 51, offset := 14, embedded := false, tag := "", pkgPath := "", byteOffset := 160 }], .agg #[.int .i64 0, .int .i64 0, .int .u32 0, .int .i64 0, .int .i64 0, .int .u32 0, .string ⟨#[]⟩, .int .u32 0, .int .u32 0, .int .i64 0, .int .i64 0, .slice none 0 0, .slice none 0 0, .slice none 0 0, .slice none 0 0], 15, 184, false⟩
theorem t52_ok : TyOk Try.prog 52 t52 := TyOk.mk' Try.underlying52 (by kernel_rfl) (by kernel_rfl) (.inl rfl)
def t53 : TI := ⟨.struct #[{ name := "Type", type := 3, offset := 0, embedded := false, tag := "", pkgPath := "", byteOffset := 0 }, { name := "Flags", type := 3, offset := 1, embedded := false, tag := "", pkgPath := "", byteOffset := 8 }, { name := "Tsn", type := 36, offset := 2, embedded := false, tag := "", pkgPath := "", byteOffset := 16 }, { name := "Stream", type := 3, offset := 3, embedded := false, tag := "", pkgPath := "", byteOffset := 24 }, { name := "Ssn", type := 3, offset := 4, embedded := false, tag := "", pkgPath := "", byteOffset := 32 }, { name := "Proto", type := 36, offset := 5, embedded := false, tag := "", pkgPath := "", byteOffset := 40 }, { name := "Data", type := 9, offset := 6, embedded := false, tag := "", pkgPath := "", byteOffset := 48 }, { name := "Tag", type := 36, offset := 7, embedded := false, tag := "", pkgPath := "", byteOffset := 64 }, { name := "Rwnd", type := 36, offset := 8, embedded := false, tag := "", pkgPath := "", byteOffset := 68 }, { name := "Out", type := 3, offset := 9, embedded := false, tag := "", pkgPath := "", byteOffset := 72 }, { name := "In", type := 3, offset := 10, embedded := false, tag := "", pkgPath := "", byteOffset := 80 }, { name := "Params", type := 48, offset := 11, embedded := false, tag := "", pkgPath := "", byteOffset := 88 }, { name := "Causes", type := 49, offset := 12, embedded := false, tag := "", pkgPath := "", byteOffset := 112 }, { name := "Gaps", type := 50, offset := 13, embedded := false, tag := "", pkgPath := "", byteOffset := 136 }, { name := "Dups", type := 51, offset := 14, embedded := false, tag := "", pkgPath := "", byteOffset := 160 }], .agg #[.int .i64 0, .int .i64 0, .int .u32 0, .int .i64 0, .int .i64 0, .int .u32 0, .string ⟨#[]⟩, .int .u32 0, .int .u32 0, .int .i64 0, .int .i64 0, .slice none 0 0, .slice none 0 0, .slice none 0 0, .slice none 0 0], 15, 184, false⟩
theorem t53_ok : TyOk Try.prog 53 t53 := TyOk.mk' Try.underlying53 (by kernel_rfl) (by kernel_rfl) (.inl rfl)
def t92 : TI := ⟨.slice 5, .slice none 0 0, 1, 24, false⟩
theorem t92_ok : TyOk Try.prog 92 t92 := TyOk.mk' Try.underlying92 (by kernel_rfl) (by kernel_rfl) (.inl rfl)
def t98 : TI := ⟨.struct #[{ name := "Code", type := 3, offset := 0, embedded := false, tag := "", pkgPath := "", byteOffset := 0 }, { name := "Info", type := 9, offset := 1, embedded := false, tag := "", pkgPath := "", byteOffset := 8 }], .agg #[.int .i64 0, .string ⟨#[]⟩], 2, 24, false⟩
theorem t98_ok : TyOk Try.prog 98 t98 := TyOk.mk' Try.underlying98 (by kernel_rfl) (by kernel_rfl) (.inl rfl)
def t99 : TI := ⟨.struct #[{ name := "Code", type := 3, offset := 0, embedded := false, tag := "", pkgPath := "", byteOffset := 0 }, { name := "Info", type := 9, offset := 1, embedded := false, tag := "", pkgPath := "", byteOffset := 8 }], .agg #[.int .i64 0, .string ⟨#[]⟩], 2, 24, false⟩
theorem t99_ok : TyOk Try.prog 99 t99 := TyOk.mk' Try.underlying99 (by kernel_rfl) (by kernel_rfl) (.inl rfl)
def t100 : TI := ⟨.struct #[{ name := "From", type := 3, offset := 0, embedded := false, tag := "", pkgPath := "", byteOffset := 0 }, { name := "To", type := 3, offset := 1, embedded := false, tag := "", pkgPath := "", byteOffset := 8 }], .agg #[.int .i64 0, .int .i64 0], 2, 16, false⟩
theorem t100_ok : TyOk Try.prog 100 t100 := TyOk.mk' Try.underlying100 (by kernel_rfl) (by kernel_rfl) (.inl rfl)
def t101 : TI := ⟨.struct #[{ name := "From", type := 3, offset := 0, embedded := false, tag := "", pkgPath := "", byteOffset := 0 }, { name := "To", type := 3, offset := 1, embedded := false, tag := "", pkgPath := "", byteOffset := 8 }], .agg #[.int .i64 0, .int .i64 0], 2, 16, false⟩
theorem t101_ok : TyOk Try.prog 101 t101 := TyOk.mk' Try.underlying101 (by kernel_rfl) (by kernel_rfl) (.inl rfl)
theorem f8_ok : FnOk Try.prog 8 Try.f8 := ⟨Try.func8, by kernel_rfl⟩
theorem f33_ok : FnOk Try.prog 33 Try.f33 := ⟨Try.func33, by kernel_rfl⟩
theorem f34_ok : FnOk Try.prog 34 Try.f34 := ⟨Try.func34, by kernel_rfl⟩
theorem f35_ok : FnOk Try.prog 35 Try.f35 := ⟨Try.func35, by kernel_rfl⟩
theorem f46_ok : FnOk Try.prog 46 Try.f46 := ⟨Try.func46, by kernel_rfl⟩
theorem f48_ok : FnOk Try.prog 48 Try.f48 := ⟨Try.func48, by kernel_rfl⟩
theorem f53_ok : FnOk Try.prog 53 Try.f53 := ⟨Try.func53, by kernel_rfl⟩
theorem f55_ok : FnOk Try.prog 55 Try.f55 := ⟨Try.func55, by kernel_rfl⟩
theorem f62_ok : FnOk Try.prog 62 Try.f62 := ⟨Try.func62, by kernel_rfl⟩
theorem f71_ok : FnOk Try.prog 71 Try.f71 := ⟨Try.func71, by kernel_rfl⟩
theorem f75_ok : FnOk Try.prog 75 Try.f75 := ⟨Try.func75, by kernel_rfl⟩
theorem f76_ok : FnOk Try.prog 76 Try.f76 := ⟨Try.func76, by kernel_rfl⟩
theorem f80_ok : FnOk Try.prog 80 Try.f80 := ⟨Try.func80, by kernel_rfl⟩
theorem f81_ok : FnOk Try.prog 81 Try.f81 := ⟨Try.func81, by kernel_rfl⟩
theorem f82_ok : FnOk Try.prog 82 Try.f82 := ⟨Try.func82, by kernel_rfl⟩
theorem f83_ok : FnOk Try.prog 83 Try.f83 := ⟨Try.func83, by kernel_rfl⟩
theorem f84_ok : FnOk Try.prog 84 Try.f84 := ⟨Try.func84, by kernel_rfl⟩
theorem f85_ok : FnOk Try.prog 85 Try.f85 := ⟨Try.func85, by kernel_rfl⟩
theorem f89_ok : FnOk Try.prog 89 Try.f89 := ⟨Try.func89, by kernel_rfl⟩
theorem f101_ok : FnOk Try.prog 101 Try.f101 := ⟨Try.func101, by kernel_rfl⟩
theorem f102_ok : FnOk Try.prog 102 Try.f102 := ⟨Try.func102, by kernel_rfl⟩
theorem f103_ok : FnOk Try.prog 103 Try.f103 := ⟨Try.func103, by kernel_rfl⟩
theorem f104_ok : FnOk Try.prog 104 Try.f104 := ⟨Try.func104, by kernel_rfl⟩
theorem f112_ok : FnOk Try.prog 112 Try.f112 := ⟨Try.func112, by kernel_rfl⟩
theorem f113_ok : FnOk Try.prog 113 Try.f113 := ⟨Try.func113, by kernel_rfl⟩
def g3 : Gd := Gd.int .i64
theorem o3 {N : Nat} {w0 w : World} (hN : N = w.heap.size) : Opn Try.prog N w0 w 3 g3 := Opn.int Try.underlying3
noncomputable def tys : Tr TI := (.node 50 t50 (.node 34 t34 (.node 5 t5 (.node 4 t4 (.node 3 t3 .leaf .leaf) .leaf) (.node 9 t9 .leaf .leaf)) (.node 48 t48 (.node 36 t36 (.node 35 t35 .leaf .leaf) .leaf) (.node 49 t49 .leaf .leaf))) (.node 98 t98 (.node 53 t53 (.node 52 t52 (.node 51 t51 .leaf .leaf) .leaf) (.node 92 t92 .leaf .leaf)) (.node 100 t100 (.node 99 t99 .leaf .leaf) (.node 101 t101 .leaf .leaf))))
noncomputable def fns : Tr Func := (.node 80 Try.f80 (.node 53 Try.f53 (.node 35 Try.f35 (.node 33 Try.f33 (.node 8 Try.f8 .leaf .leaf) (.node 34 Try.f34 .leaf .leaf)) (.node 48 Try.f48 (.node 46 Try.f46 .leaf .leaf) .leaf)) (.node 71 Try.f71 (.node 62 Try.f62 (.node 55 Try.f55 .leaf .leaf) .leaf) (.node 76 Try.f76 (.node 75 Try.f75 .leaf .leaf) .leaf))) (.node 101 Try.f101 (.node 84 Try.f84 (.node 82 Try.f82 (.node 81 Try.f81 .leaf .leaf) (.node 83 Try.f83 .leaf .leaf)) (.node 89 Try.f89 (.node 85 Try.f85 .leaf .leaf) .leaf)) (.node 104 Try.f104 (.node 103 Try.f103 (.node 102 Try.f102 .leaf .leaf) .leaf) (.node 113 Try.f113 (.node 112 Try.f112 .leaf .leaf) .leaf))))
noncomputable def env : Env := mkEnv tys fns
theorem env_ok : EnvOk Try.prog env := mkEnv_ok (T := tys) (F := fns) ⟨t50_ok, ⟨t34_ok, ⟨t5_ok, ⟨t4_ok, ⟨t3_ok, trivial, trivial⟩, trivial⟩, ⟨t9_ok, trivial, trivial⟩⟩, ⟨t48_ok, ⟨t36_ok, ⟨t35_ok, trivial, trivial⟩, trivial⟩, ⟨t49_ok, trivial, trivial⟩⟩⟩, ⟨t98_ok, ⟨t53_ok, ⟨t52_ok, ⟨t51_ok, trivial, trivial⟩, trivial⟩, ⟨t92_ok, trivial, trivial⟩⟩, ⟨t100_ok, ⟨t99_ok, trivial, trivial⟩, ⟨t101_ok, trivial, trivial⟩⟩⟩⟩ ⟨f80_ok, ⟨f53_ok, ⟨f35_ok, ⟨f33_ok, ⟨f8_ok, trivial, trivial⟩, ⟨f34_ok, trivial, trivial⟩⟩, ⟨f48_ok, ⟨f46_ok, trivial, trivial⟩, trivial⟩⟩, ⟨f71_ok, ⟨f62_ok, ⟨f55_ok, trivial, trivial⟩, trivial⟩, ⟨f76_ok, ⟨f75_ok, trivial, trivial⟩, trivial⟩⟩⟩, ⟨f101_ok, ⟨f84_ok, ⟨f82_ok, ⟨f81_ok, trivial, trivial⟩, ⟨f83_ok, trivial, trivial⟩⟩, ⟨f89_ok, ⟨f85_ok, trivial, trivial⟩, trivial⟩⟩, ⟨f104_ok, ⟨f103_ok, ⟨f102_ok, trivial, trivial⟩, trivial⟩, ⟨f113_ok, ⟨f112_ok, trivial, trivial⟩, trivial⟩⟩⟩⟩ (by kernel_rfl)
end Go.Proofs.Ytgajcmanompmcaa.Vt
