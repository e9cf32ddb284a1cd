/- The tables of types and functions, for the abstract machine. -/
import Derived.Test.YtgajcmanompmcaaVm2
import Derived.Test.YtgajcmanompmcaaProg
namespace Go.Proofs.Ytgajcmanompmcaa.Vt
open Go Go.Proofs Go.Proofs.YtgajcmanompmcaaV
set_option maxRecDepth 100000
set_option linter.unusedVariables false
def t3 : TI := ⟨.int .i64, .int .i64 0, 1, 8, false⟩
theorem t3_ok : TyOk Try.prog 3 t3 := TyOk.mk' Try.underlying3 (by kernel_rfl) (by kernel_rfl) (.inl rfl)
def t4 : TI := ⟨.bool, .bool false, 1, 1, false⟩
theorem t4_ok : TyOk Try.prog 4 t4 := TyOk.mk' Try.underlying4 (by kernel_rfl) (by kernel_rfl) (.inl rfl)
def t5 : TI := ⟨.int .u8, .int .u8 0, 1, 1, false⟩
theorem t5_ok : TyOk Try.prog 5 t5 := TyOk.mk' Try.underlying5 (by kernel_rfl) (by kernel_rfl) (.inl rfl)
def t9 : TI := ⟨.string, .string ⟨#[]⟩, 1, 16, false⟩
theorem t9_ok : TyOk Try.prog 9 t9 := TyOk.mk' Try.underlying9 (by kernel_rfl) (by kernel_rfl) (.inl rfl)
def t21 : TI := ⟨.int .i32, .int .i32 0, 1, 4, false⟩
theorem t21_ok : TyOk Try.prog 21 t21 := TyOk.mk' Try.underlying21 (by kernel_rfl) (by kernel_rfl) (.inl rfl)
def t22 : TI := ⟨.slice 24, .slice none 0 0, 1, 24, false⟩
theorem t22_ok : TyOk Try.prog 22 t22 := TyOk.mk' Try.underlying22 (by kernel_rfl) (by kernel_rfl) (.inl rfl)
def t23 : TI := ⟨.struct #[{ name := "What", type := 3, offset := 0, embedded := false, tag := "", pkgPath := "", byteOffset := 0 }, { name := "Host", type := 3, offset := 1, embedded := false, tag := "", pkgPath := "", byteOffset := 8 }, { name := "A", type := 3, offset := 2, embedded := false, tag := "", pkgPath := "", byteOffset := 16 }, { name := "B", type := 3, offset := 3, embedded := false, tag := "", pkgPath := "", byteOffset := 24 }, { name := "C", type := 3, offset := 4, embedded := false, tag := "", pkgPath := "", byteOffset := 32 }, { name := "D", type := 3, offset := 5, embedded := false, tag := "", pkgPath := "", byteOffset := 40 }, { name := "E", type := 3, offset := 6, embedded := false, tag := "", pkgPath := "", byteOffset := 48 }, { name := "F", type := 3, offset := 7, embedded := false, tag := "", pkgPath := "", byteOffset := 56 }, { name := "S", type := 9, offset := 8, embedded := false, tag := "", pkgPath := "", byteOffset := 64 }], .agg #[.int .i64 0, .int .i64 0, .int .i64 0, .int .i64 0, .int .i64 0, .int .i64 0, .int .i64 0, .int .i64 0, .string ⟨#[]⟩], 9, 80, true⟩
theorem t23_ok : TyOk Try.prog 23 t23 := TyOk.mk' Try.underlying23 (by kernel_rfl) (by kernel_rfl) (.inr ⟨by kernel_rfl, by kernel_rfl⟩)
def t24 : TI := ⟨.struct #[{ name := "What", type := 3, offset := 0, embedded := false, tag := "", pkgPath := "", byteOffset := 0 }, { name := "Host", type := 3, offset := 1, embedded := false, tag := "", pkgPath := "", byteOffset := 8 }, { name := "A", type := 3, offset := 2, embedded := false, tag := "", pkgPath := "", byteOffset := 16 }, { name := "B", type := 3, offset := 3, embedded := false, tag := "", pkgPath := "", byteOffset := 24 }, { name := "C", type := 3, offset := 4, embedded := false, tag := "", pkgPath := "", byteOffset := 32 }, { name := "D", type := 3, offset := 5, embedded := false, tag := "", pkgPath := "", byteOffset := 40 }, { name := "E", type := 3, offset := 6, embedded := false, tag := "", pkgPath := "", byteOffset := 48 }, { name := "F", type := 3, offset := 7, embedded := false, tag := "", pkgPath := "", byteOffset := 56 }, { name := "S", type := 9, offset := 8, embedded := false, tag := "", pkgPath := "", byteOffset := 64 }], .agg #[.int .i64 0, .int .i64 0, .int .i64 0, .int .i64 0, .int .i64 0, .int .i64 0, .int .i64 0, .int .i64 0, .string ⟨#[]⟩], 9, 80, true⟩
theorem t24_ok : TyOk Try.prog 24 t24 := TyOk.mk' Try.underlying24 (by kernel_rfl) (by kernel_rfl) (.inr ⟨by kernel_rfl, by kernel_rfl⟩)
def t28 : TI := ⟨.int .i64, .int .i64 0, 1, 8, false⟩
theorem t28_ok : TyOk Try.prog 28 t28 := TyOk.mk' Try.underlying28 (by kernel_rfl) (by kernel_rfl) (.inl rfl)
def t34 : TI := ⟨.struct #[{ name := "Type", type := 3, offset := 0, embedded := false, tag := "", pkgPath := "", byteOffset := 0 }, { name := "Value", type := 9, offset := 1, embedded := false, tag := "", pkgPath := "", byteOffset := 8 }], .agg #[.int .i64 0, .string ⟨#[]⟩], 2, 24, true⟩
theorem t34_ok : TyOk Try.prog 34 t34 := TyOk.mk' Try.underlying34 (by kernel_rfl) (by kernel_rfl) (.inr ⟨by kernel_rfl, by kernel_rfl⟩)
def t35 : TI := ⟨.struct #[{ name := "Type", type := 3, offset := 0, embedded := false, tag := "", pkgPath := "", byteOffset := 0 }, { name := "Value", type := 9, offset := 1, embedded := false, tag := "", pkgPath := "", byteOffset := 8 }], .agg #[.int .i64 0, .string ⟨#[]⟩], 2, 24, true⟩
theorem t35_ok : TyOk Try.prog 35 t35 := TyOk.mk' Try.underlying35 (by kernel_rfl) (by kernel_rfl) (.inr ⟨by kernel_rfl, by kernel_rfl⟩)
def t36 : TI := ⟨.int .u32, .int .u32 0, 1, 4, false⟩
theorem t36_ok : TyOk Try.prog 36 t36 := TyOk.mk' Try.underlying36 (by kernel_rfl) (by kernel_rfl) (.inl rfl)
def t41 : TI := ⟨.int .u64, .int .u64 0, 1, 8, false⟩
theorem t41_ok : TyOk Try.prog 41 t41 := TyOk.mk' Try.underlying41 (by kernel_rfl) (by kernel_rfl) (.inl rfl)
def t44 : TI := ⟨.slice 3, .slice none 0 0, 1, 24, false⟩
theorem t44_ok : TyOk Try.prog 44 t44 := TyOk.mk' Try.underlying44 (by kernel_rfl) (by kernel_rfl) (.inl rfl)
def t45 : TI := ⟨.pointer 94, .pointer none, 1, 8, false⟩
theorem t45_ok : TyOk Try.prog 45 t45 := TyOk.mk' Try.underlying45 (by kernel_rfl) (by kernel_rfl) (.inl rfl)
def t48 : TI := ⟨.slice 35, .slice none 0 0, 1, 24, false⟩
theorem t48_ok : TyOk Try.prog 48 t48 := TyOk.mk' Try.underlying48 (by kernel_rfl) (by kernel_rfl) (.inl rfl)
def t49 : TI := ⟨.slice 99, .slice none 0 0, 1, 24, false⟩
theorem t49_ok : TyOk Try.prog 49 t49 := TyOk.mk' Try.underlying49 (by kernel_rfl) (by kernel_rfl) (.inl rfl)
def t50 : TI := ⟨.slice 101, .slice none 0 0, 1, 24, false⟩
theorem t50_ok : TyOk Try.prog 50 t50 := TyOk.mk' Try.underlying50 (by kernel_rfl) (by kernel_rfl) (.inl rfl)
def t51 : TI := ⟨.slice 36, .slice none 0 0, 1, 24, false⟩
theorem t51_ok : TyOk Try.prog 51 t51 := TyOk.mk' Try.underlying51 (by kernel_rfl) (by kernel_rfl) (.inl rfl)
def t52 : TI := ⟨.struct #[{ name := "Type", type := 3, offset := 0, embedded := false, tag := "", pkgPath := "", byteOffset := 0 }, { name := "Flags", type := 3, offset := 1, embedded := false, tag := "", pkgPath := "", byteOffset := 8 }, { name := "Tsn", type := 36, offset := 2, embedded := false, tag := "", pkgPath := "", byteOffset := 16 }, { name := "Stream", type := 3, offset := 3, embedded := false, tag := "", pkgPath := "", byteOffset := 24 }, { name := "Ssn", type := 3, offset := 4, embedded := false, tag := "", pkgPath := "", byteOffset := 32 }, { name := "Proto", type := 36, offset := 5, embedded := false, tag := "", pkgPath := "", byteOffset := 40 }, { name := "Data", type := 9, offset := 6, embedded := false, tag := "", pkgPath := "", byteOffset := 48 }, { name := "Tag", type := 36, offset := 7, embedded := false, tag := "", pkgPath := "", byteOffset := 64 }, { name := "Rwnd", type := 36, offset := 8, embedded := false, tag := "", pkgPath := "", byteOffset := 68 }, { name := "Out", type := 3, offset := 9, embedded := false, tag := "", pkgPath := "", byteOffset := 72 }, { name := "In", type := 3, offset := 10, embedded := false, tag := "", pkgPath := "", byteOffset := 80 }, { name := "Params", type := 48, offset := 11, embedded := false, tag := "", pkgPath := "", byteOffset := 88 }, { name := "Causes", type := 49, offset := 12, embedded := false, tag := "", pkgPath := "", byteOffset := 112 }, { name := "Gaps", type := 50, offset := 13, embedded := false, tag := "", pkgPath := "", byteOffset := 136 }, { name := "Dups", type := 51, offset := 14, embedded := false, tag := "", pkgPath := "", byteOffset := 160 }], .agg #[.int .i64 0, .int .i64 0, .int .u32 0, .int .i64 0, .int .i64 0, .int .u32 0, .string ⟨#[]⟩, .int .u32 0, .int .u32 0, .int .i64 0, .int .i64 0, .slice none 0 0, .slice none 0 0, .slice none 0 0, .slice none 0 0], 15, 184, false⟩
theorem t52_ok : TyOk Try.prog 52 t52 := TyOk.mk' Try.underlying52 (by kernel_rfl) (by kernel_rfl) (.inl rfl)
def t53 : TI := ⟨.struct #[{ name := "Type", type := 3, offset := 0, embedded := false, tag := "", pkgPath := "", byteOffset := 0 }, { name := "Flags", type := 3, offset := 1, embedded := false, tag := "", pkgPath := "", byteOffset := 8 }, { name := "Tsn", type := 36, offset := 2, embedded := false, tag := "", pkgPath := "", byteOffset := 16 }, { name := "Stream", type := 3, offset := 3, embedded := false, tag := "", pkgPath := "", byteOffset := 24 }, { name := "Ssn", type := 3, offset := 4, embedded := false, tag := "", pkgPath := "", byteOffset := 32 }, { name := "Proto", type := 36, offset := 5, embedded := false, tag := "", pkgPath := "", byteOffset := 40 }, { name := "Data", type := 9, offset := 6, embedded := false, tag := "", pkgPath := "", byteOffset := 48 }, { name := "Tag", type := 36, offset := 7, embedded := false, tag := "", pkgPath := "", byteOffset := 64 }, { name := "Rwnd", type := 36, offset := 8, embedded := false, tag := "", pkgPath := "", byteOffset := 68 }, { name := "Out", type := 3, offset := 9, embedded := false, tag := "", pkgPath := "", byteOffset := 72 }, { name := "In", type := 3, offset := 10, embedded := false, tag := "", pkgPath := "", byteOffset := 80 }, { name := "Params", type := 48, offset := 11, embedded := false, tag := "", pkgPath := "", byteOffset := 88 }, { name := "Causes", type := 49, offset := 12, embedded := false, tag := "", pkgPath := "", byteOffset := 112 }, { name := "Gaps", type := 50, offset := 13, embedded := false, tag := "", pkgPath := "", byteOffset := 136 }, { name := "Dups", type := 51, offset := 14, embedded := false, tag := "", pkgPath := "", byteOffset := 160 }], .agg #[.int .i64 0, .int .i64 0, .int .u32 0, .int .i64 0, .int .i64 0, .int .u32 0, .string ⟨#[]⟩, .int .u32 0, .int .u32 0, .int .i64 0, .int .i64 0, .slice none 0 0, .slice none 0 0, .slice none 0 0, .slice none 0 0], 15, 184, false⟩
theorem t53_ok : TyOk Try.prog 53 t53 := TyOk.mk' Try.underlying53 (by kernel_rfl) (by kernel_rfl) (.inl rfl)
def t68 : TI := ⟨.pointer 103, .pointer none, 1, 8, false⟩
theorem t68_ok : TyOk Try.prog 68 t68 := TyOk.mk' Try.underlying68 (by kernel_rfl) (by kernel_rfl) (.inl rfl)
def t71 : TI := ⟨.int .u32, .int .u32 0, 1, 4, false⟩
theorem t71_ok : TyOk Try.prog 71 t71 := TyOk.mk' Try.underlying71 (by kernel_rfl) (by kernel_rfl) (.inl rfl)
def t72 : TI := ⟨.struct #[{ name := "What", type := 3, offset := 0, embedded := false, tag := "", pkgPath := "", byteOffset := 0 }, { name := "Addr", type := 71, offset := 1, embedded := false, tag := "", pkgPath := "", byteOffset := 8 }, { name := "Local", type := 71, offset := 2, embedded := false, tag := "", pkgPath := "", byteOffset := 12 }], .agg #[.int .i64 0, .int .u32 0, .int .u32 0], 3, 16, false⟩
theorem t72_ok : TyOk Try.prog 72 t72 := TyOk.mk' Try.underlying72 (by kernel_rfl) (by kernel_rfl) (.inl rfl)
def t73 : TI := ⟨.struct #[{ name := "What", type := 3, offset := 0, embedded := false, tag := "", pkgPath := "", byteOffset := 0 }, { name := "Addr", type := 71, offset := 1, embedded := false, tag := "", pkgPath := "", byteOffset := 8 }, { name := "Local", type := 71, offset := 2, embedded := false, tag := "", pkgPath := "", byteOffset := 12 }], .agg #[.int .i64 0, .int .u32 0, .int .u32 0], 3, 16, false⟩
theorem t73_ok : TyOk Try.prog 73 t73 := TyOk.mk' Try.underlying73 (by kernel_rfl) (by kernel_rfl) (.inl rfl)
def t79 : TI := ⟨.struct #[{ name := "Type", type := 3, offset := 0, embedded := false, tag := "", pkgPath := "", byteOffset := 0 }, { name := "Value", type := 9, offset := 1, embedded := false, tag := "", pkgPath := "", byteOffset := 8 }], .agg #[.int .i64 0, .string ⟨#[]⟩], 2, 24, false⟩
theorem t79_ok : TyOk Try.prog 79 t79 := TyOk.mk' Try.underlying79 (by kernel_rfl) (by kernel_rfl) (.inl rfl)
def t85 : TI := ⟨.pointer 121, .pointer none, 1, 8, false⟩
theorem t85_ok : TyOk Try.prog 85 t85 := TyOk.mk' Try.underlying85 (by kernel_rfl) (by kernel_rfl) (.inl rfl)
def t92 : TI := ⟨.slice 5, .slice none 0 0, 1, 24, false⟩
theorem t92_ok : TyOk Try.prog 92 t92 := TyOk.mk' Try.underlying92 (by kernel_rfl) (by kernel_rfl) (.inl rfl)
def t93 : TI := ⟨.struct #[{ name := "want", type := 3, offset := 0, embedded := false, tag := "", pkgPath := "crossway/reconf", byteOffset := 0 }, { name := "next", type := 36, offset := 1, embedded := false, tag := "", pkgPath := "crossway/reconf", byteOffset := 8 }, { name := "at", type := 3, offset := 2, embedded := false, tag := "", pkgPath := "crossway/reconf", byteOffset := 16 }, { name := "many", type := 3, offset := 3, embedded := false, tag := "", pkgPath := "crossway/reconf", byteOffset := 24 }, { name := "peer", type := 36, offset := 4, embedded := false, tag := "", pkgPath := "crossway/reconf", byteOffset := 32 }, { name := "last", type := 3, offset := 5, embedded := false, tag := "", pkgPath := "crossway/reconf", byteOffset := 40 }], .agg #[.int .i64 0, .int .u32 0, .int .i64 0, .int .i64 0, .int .u32 0, .int .i64 0], 6, 48, false⟩
theorem t93_ok : TyOk Try.prog 93 t93 := TyOk.mk' Try.underlying93 (by kernel_rfl) (by kernel_rfl) (.inl rfl)
def t94 : TI := ⟨.struct #[{ name := "want", type := 3, offset := 0, embedded := false, tag := "", pkgPath := "crossway/reconf", byteOffset := 0 }, { name := "next", type := 36, offset := 1, embedded := false, tag := "", pkgPath := "crossway/reconf", byteOffset := 8 }, { name := "at", type := 3, offset := 2, embedded := false, tag := "", pkgPath := "crossway/reconf", byteOffset := 16 }, { name := "many", type := 3, offset := 3, embedded := false, tag := "", pkgPath := "crossway/reconf", byteOffset := 24 }, { name := "peer", type := 36, offset := 4, embedded := false, tag := "", pkgPath := "crossway/reconf", byteOffset := 32 }, { name := "last", type := 3, offset := 5, embedded := false, tag := "", pkgPath := "crossway/reconf", byteOffset := 40 }], .agg #[.int .i64 0, .int .u32 0, .int .i64 0, .int .i64 0, .int .u32 0, .int .i64 0], 6, 48, false⟩
theorem t94_ok : TyOk Try.prog 94 t94 := TyOk.mk' Try.underlying94 (by kernel_rfl) (by kernel_rfl) (.inl rfl)
def t98 : TI := ⟨.struct #[{ name := "Code", type := 3, offset := 0, embedded := false, tag := "", pkgPath := "", byteOffset := 0 }, { name := "Info", type := 9, offset := 1, embedded := false, tag := "", pkgPath := "", byteOffset := 8 }], .agg #[.int .i64 0, .string ⟨#[]⟩], 2, 24, true⟩
theorem t98_ok : TyOk Try.prog 98 t98 := TyOk.mk' Try.underlying98 (by kernel_rfl) (by kernel_rfl) (.inr ⟨by kernel_rfl, by kernel_rfl⟩)
def t99 : TI := ⟨.struct #[{ name := "Code", type := 3, offset := 0, embedded := false, tag := "", pkgPath := "", byteOffset := 0 }, { name := "Info", type := 9, offset := 1, embedded := false, tag := "", pkgPath := "", byteOffset := 8 }], .agg #[.int .i64 0, .string ⟨#[]⟩], 2, 24, true⟩
theorem t99_ok : TyOk Try.prog 99 t99 := TyOk.mk' Try.underlying99 (by kernel_rfl) (by kernel_rfl) (.inr ⟨by kernel_rfl, by kernel_rfl⟩)
def t100 : TI := ⟨.struct #[{ name := "From", type := 3, offset := 0, embedded := false, tag := "", pkgPath := "", byteOffset := 0 }, { name := "To", type := 3, offset := 1, embedded := false, tag := "", pkgPath := "", byteOffset := 8 }], .agg #[.int .i64 0, .int .i64 0], 2, 16, true⟩
theorem t100_ok : TyOk Try.prog 100 t100 := TyOk.mk' Try.underlying100 (by kernel_rfl) (by kernel_rfl) (.inr ⟨by kernel_rfl, by kernel_rfl⟩)
def t101 : TI := ⟨.struct #[{ name := "From", type := 3, offset := 0, embedded := false, tag := "", pkgPath := "", byteOffset := 0 }, { name := "To", type := 3, offset := 1, embedded := false, tag := "", pkgPath := "", byteOffset := 8 }], .agg #[.int .i64 0, .int .i64 0], 2, 16, true⟩
theorem t101_ok : TyOk Try.prog 101 t101 := TyOk.mk' Try.underlying101 (by kernel_rfl) (by kernel_rfl) (.inr ⟨by kernel_rfl, by kernel_rfl⟩)
def t102 : TI := ⟨.struct #[{ name := "next", type := 36, offset := 0, embedded := false, tag := "", pkgPath := "crossway/asconf", byteOffset := 0 }, { name := "last", type := 53, offset := 1, embedded := false, tag := "", pkgPath := "crossway/asconf", byteOffset := 8 }, { name := "any", type := 4, offset := 16, embedded := false, tag := "", pkgPath := "crossway/asconf", byteOffset := 192 }], .agg #[.int .u32 0, .int .i64 0, .int .i64 0, .int .u32 0, .int .i64 0, .int .i64 0, .int .u32 0, .string ⟨#[]⟩, .int .u32 0, .int .u32 0, .int .i64 0, .int .i64 0, .slice none 0 0, .slice none 0 0, .slice none 0 0, .slice none 0 0, .bool false], 17, 200, false⟩
theorem t102_ok : TyOk Try.prog 102 t102 := TyOk.mk' Try.underlying102 (by kernel_rfl) (by kernel_rfl) (.inl rfl)
def t103 : TI := ⟨.struct #[{ name := "next", type := 36, offset := 0, embedded := false, tag := "", pkgPath := "crossway/asconf", byteOffset := 0 }, { name := "last", type := 53, offset := 1, embedded := false, tag := "", pkgPath := "crossway/asconf", byteOffset := 8 }, { name := "any", type := 4, offset := 16, embedded := false, tag := "", pkgPath := "crossway/asconf", byteOffset := 192 }], .agg #[.int .u32 0, .int .i64 0, .int .i64 0, .int .u32 0, .int .i64 0, .int .i64 0, .int .u32 0, .string ⟨#[]⟩, .int .u32 0, .int .u32 0, .int .i64 0, .int .i64 0, .slice none 0 0, .slice none 0 0, .slice none 0 0, .slice none 0 0, .bool false], 17, 200, false⟩
theorem t103_ok : TyOk Try.prog 103 t103 := TyOk.mk' Try.underlying103 (by kernel_rfl) (by kernel_rfl) (.inl rfl)
def t104 : TI := ⟨.pointer 129, .pointer none, 1, 8, false⟩
theorem t104_ok : TyOk Try.prog 104 t104 := TyOk.mk' Try.underlying104 (by kernel_rfl) (by kernel_rfl) (.inl rfl)
def t108 : TI := ⟨.struct #[{ name := "Ask", type := 73, offset := 0, embedded := false, tag := "", pkgPath := "", byteOffset := 0 }, { name := "OK", type := 4, offset := 3, embedded := false, tag := "", pkgPath := "", byteOffset := 16 }], .agg #[.int .i64 0, .int .u32 0, .int .u32 0, .bool false], 4, 24, false⟩
theorem t108_ok : TyOk Try.prog 108 t108 := TyOk.mk' Try.underlying108 (by kernel_rfl) (by kernel_rfl) (.inl rfl)
def t109 : TI := ⟨.struct #[{ name := "Ask", type := 73, offset := 0, embedded := false, tag := "", pkgPath := "", byteOffset := 0 }, { name := "OK", type := 4, offset := 3, embedded := false, tag := "", pkgPath := "", byteOffset := 16 }], .agg #[.int .i64 0, .int .u32 0, .int .u32 0, .bool false], 4, 24, false⟩
theorem t109_ok : TyOk Try.prog 109 t109 := TyOk.mk' Try.underlying109 (by kernel_rfl) (by kernel_rfl) (.inl rfl)
def t120 : TI := ⟨.struct #[{ name := "s", type := 9, offset := 0, embedded := false, tag := "", pkgPath := "crossway/octet", byteOffset := 0 }, { name := "err", type := 28, offset := 1, embedded := false, tag := "", pkgPath := "crossway/octet", byteOffset := 16 }], .agg #[.string ⟨#[]⟩, .int .i64 0], 2, 24, false⟩
theorem t120_ok : TyOk Try.prog 120 t120 := TyOk.mk' Try.underlying120 (by kernel_rfl) (by kernel_rfl) (.inl rfl)
def t121 : TI := ⟨.struct #[{ name := "s", type := 9, offset := 0, embedded := false, tag := "", pkgPath := "crossway/octet", byteOffset := 0 }, { name := "err", type := 28, offset := 1, embedded := false, tag := "", pkgPath := "crossway/octet", byteOffset := 16 }], .agg #[.string ⟨#[]⟩, .int .i64 0], 2, 24, false⟩
theorem t121_ok : TyOk Try.prog 121 t121 := TyOk.mk' Try.underlying121 (by kernel_rfl) (by kernel_rfl) (.inl rfl)
def t125 : TI := ⟨.pointer 53, .pointer none, 1, 8, false⟩
theorem t125_ok : TyOk Try.prog 125 t125 := TyOk.mk' Try.underlying125 (by kernel_rfl) (by kernel_rfl) (.inl rfl)
def t127 : TI := ⟨.slice 73, .slice none 0 0, 1, 24, false⟩
theorem t127_ok : TyOk Try.prog 127 t127 := TyOk.mk' Try.underlying127 (by kernel_rfl) (by kernel_rfl) (.inl rfl)
def t128 : TI := ⟨.struct #[{ name := "wait", type := 127, offset := 0, embedded := false, tag := "", pkgPath := "crossway/asconf", byteOffset := 0 }, { name := "now", type := 4, offset := 1, embedded := false, tag := "", pkgPath := "crossway/asconf", byteOffset := 24 }, { name := "next", type := 36, offset := 2, embedded := false, tag := "", pkgPath := "crossway/asconf", byteOffset := 28 }, { name := "many", type := 3, offset := 3, embedded := false, tag := "", pkgPath := "crossway/asconf", byteOffset := 32 }, { name := "at", type := 3, offset := 4, embedded := false, tag := "", pkgPath := "crossway/asconf", byteOffset := 40 }], .agg #[.slice none 0 0, .bool false, .int .u32 0, .int .i64 0, .int .i64 0], 5, 48, false⟩
theorem t128_ok : TyOk Try.prog 128 t128 := TyOk.mk' Try.underlying128 (by kernel_rfl) (by kernel_rfl) (.inl rfl)
def t129 : TI := ⟨.struct #[{ name := "wait", type := 127, offset := 0, embedded := false, tag := "", pkgPath := "crossway/asconf", byteOffset := 0 }, { name := "now", type := 4, offset := 1, embedded := false, tag := "", pkgPath := "crossway/asconf", byteOffset := 24 }, { name := "next", type := 36, offset := 2, embedded := false, tag := "", pkgPath := "crossway/asconf", byteOffset := 28 }, { name := "many", type := 3, offset := 3, embedded := false, tag := "", pkgPath := "crossway/asconf", byteOffset := 32 }, { name := "at", type := 3, offset := 4, embedded := false, tag := "", pkgPath := "crossway/asconf", byteOffset := 40 }], .agg #[.slice none 0 0, .bool false, .int .u32 0, .int .i64 0, .int .i64 0], 5, 48, false⟩
theorem t129_ok : TyOk Try.prog 129 t129 := TyOk.mk' Try.underlying129 (by kernel_rfl) (by kernel_rfl) (.inl rfl)
def t143 : TI := ⟨.slice 79, .slice none 0 0, 1, 24, false⟩
theorem t143_ok : TyOk Try.prog 143 t143 := TyOk.mk' Try.underlying143 (by kernel_rfl) (by kernel_rfl) (.inl rfl)
theorem f3_ok : FnOk Try.prog 3 Try.f3 := ⟨Try.func3, by kernel_rfl⟩
theorem f4_ok : FnOk Try.prog 4 Try.f4 := ⟨Try.func4, by kernel_rfl⟩
theorem f5_ok : FnOk Try.prog 5 Try.f5 := ⟨Try.func5, by kernel_rfl⟩
theorem f6_ok : FnOk Try.prog 6 Try.f6 := ⟨Try.func6, by kernel_rfl⟩
theorem f7_ok : FnOk Try.prog 7 Try.f7 := ⟨Try.func7, by kernel_rfl⟩
theorem f8_ok : FnOk Try.prog 8 Try.f8 := ⟨Try.func8, by kernel_rfl⟩
theorem f9_ok : FnOk Try.prog 9 Try.f9 := ⟨Try.func9, by kernel_rfl⟩
theorem f10_ok : FnOk Try.prog 10 Try.f10 := ⟨Try.func10, by kernel_rfl⟩
theorem f11_ok : FnOk Try.prog 11 Try.f11 := ⟨Try.func11, by kernel_rfl⟩
theorem f12_ok : FnOk Try.prog 12 Try.f12 := ⟨Try.func12, by kernel_rfl⟩
theorem f13_ok : FnOk Try.prog 13 Try.f13 := ⟨Try.func13, by kernel_rfl⟩
theorem f14_ok : FnOk Try.prog 14 Try.f14 := ⟨Try.func14, by kernel_rfl⟩
theorem f15_ok : FnOk Try.prog 15 Try.f15 := ⟨Try.func15, by kernel_rfl⟩
theorem f16_ok : FnOk Try.prog 16 Try.f16 := ⟨Try.func16, by kernel_rfl⟩
theorem f17_ok : FnOk Try.prog 17 Try.f17 := ⟨Try.func17, by kernel_rfl⟩
theorem f18_ok : FnOk Try.prog 18 Try.f18 := ⟨Try.func18, by kernel_rfl⟩
theorem f19_ok : FnOk Try.prog 19 Try.f19 := ⟨Try.func19, by kernel_rfl⟩
theorem f20_ok : FnOk Try.prog 20 Try.f20 := ⟨Try.func20, by kernel_rfl⟩
theorem f21_ok : FnOk Try.prog 21 Try.f21 := ⟨Try.func21, by kernel_rfl⟩
theorem f22_ok : FnOk Try.prog 22 Try.f22 := ⟨Try.func22, by kernel_rfl⟩
theorem f23_ok : FnOk Try.prog 23 Try.f23 := ⟨Try.func23, by kernel_rfl⟩
theorem f24_ok : FnOk Try.prog 24 Try.f24 := ⟨Try.func24, by kernel_rfl⟩
theorem f25_ok : FnOk Try.prog 25 Try.f25 := ⟨Try.func25, by kernel_rfl⟩
theorem f26_ok : FnOk Try.prog 26 Try.f26 := ⟨Try.func26, by kernel_rfl⟩
theorem f27_ok : FnOk Try.prog 27 Try.f27 := ⟨Try.func27, by kernel_rfl⟩
theorem f28_ok : FnOk Try.prog 28 Try.f28 := ⟨Try.func28, by kernel_rfl⟩
theorem f29_ok : FnOk Try.prog 29 Try.f29 := ⟨Try.func29, by kernel_rfl⟩
theorem f30_ok : FnOk Try.prog 30 Try.f30 := ⟨Try.func30, by kernel_rfl⟩
theorem f31_ok : FnOk Try.prog 31 Try.f31 := ⟨Try.func31, by kernel_rfl⟩
theorem f32_ok : FnOk Try.prog 32 Try.f32 := ⟨Try.func32, by kernel_rfl⟩
theorem f33_ok : FnOk Try.prog 33 Try.f33 := ⟨Try.func33, by kernel_rfl⟩
theorem f34_ok : FnOk Try.prog 34 Try.f34 := ⟨Try.func34, by kernel_rfl⟩
theorem f35_ok : FnOk Try.prog 35 Try.f35 := ⟨Try.func35, by kernel_rfl⟩
theorem f36_ok : FnOk Try.prog 36 Try.f36 := ⟨Try.func36, by kernel_rfl⟩
theorem f37_ok : FnOk Try.prog 37 Try.f37 := ⟨Try.func37, by kernel_rfl⟩
theorem f38_ok : FnOk Try.prog 38 Try.f38 := ⟨Try.func38, by kernel_rfl⟩
theorem f39_ok : FnOk Try.prog 39 Try.f39 := ⟨Try.func39, by kernel_rfl⟩
theorem f40_ok : FnOk Try.prog 40 Try.f40 := ⟨Try.func40, by kernel_rfl⟩
theorem f41_ok : FnOk Try.prog 41 Try.f41 := ⟨Try.func41, by kernel_rfl⟩
theorem f42_ok : FnOk Try.prog 42 Try.f42 := ⟨Try.func42, by kernel_rfl⟩
theorem f43_ok : FnOk Try.prog 43 Try.f43 := ⟨Try.func43, by kernel_rfl⟩
theorem f44_ok : FnOk Try.prog 44 Try.f44 := ⟨Try.func44, by kernel_rfl⟩
theorem f45_ok : FnOk Try.prog 45 Try.f45 := ⟨Try.func45, by kernel_rfl⟩
theorem f46_ok : FnOk Try.prog 46 Try.f46 := ⟨Try.func46, by kernel_rfl⟩
theorem f47_ok : FnOk Try.prog 47 Try.f47 := ⟨Try.func47, by kernel_rfl⟩
theorem f48_ok : FnOk Try.prog 48 Try.f48 := ⟨Try.func48, by kernel_rfl⟩
theorem f49_ok : FnOk Try.prog 49 Try.f49 := ⟨Try.func49, by kernel_rfl⟩
theorem f50_ok : FnOk Try.prog 50 Try.f50 := ⟨Try.func50, by kernel_rfl⟩
theorem f51_ok : FnOk Try.prog 51 Try.f51 := ⟨Try.func51, by kernel_rfl⟩
theorem f52_ok : FnOk Try.prog 52 Try.f52 := ⟨Try.func52, by kernel_rfl⟩
theorem f53_ok : FnOk Try.prog 53 Try.f53 := ⟨Try.func53, by kernel_rfl⟩
theorem f54_ok : FnOk Try.prog 54 Try.f54 := ⟨Try.func54, by kernel_rfl⟩
theorem f55_ok : FnOk Try.prog 55 Try.f55 := ⟨Try.func55, by kernel_rfl⟩
theorem f56_ok : FnOk Try.prog 56 Try.f56 := ⟨Try.func56, by kernel_rfl⟩
theorem f57_ok : FnOk Try.prog 57 Try.f57 := ⟨Try.func57, by kernel_rfl⟩
theorem f58_ok : FnOk Try.prog 58 Try.f58 := ⟨Try.func58, by kernel_rfl⟩
theorem f59_ok : FnOk Try.prog 59 Try.f59 := ⟨Try.func59, by kernel_rfl⟩
theorem f60_ok : FnOk Try.prog 60 Try.f60 := ⟨Try.func60, by kernel_rfl⟩
theorem f61_ok : FnOk Try.prog 61 Try.f61 := ⟨Try.func61, by kernel_rfl⟩
theorem f62_ok : FnOk Try.prog 62 Try.f62 := ⟨Try.func62, by kernel_rfl⟩
theorem f63_ok : FnOk Try.prog 63 Try.f63 := ⟨Try.func63, by kernel_rfl⟩
theorem f64_ok : FnOk Try.prog 64 Try.f64 := ⟨Try.func64, by kernel_rfl⟩
theorem f65_ok : FnOk Try.prog 65 Try.f65 := ⟨Try.func65, by kernel_rfl⟩
theorem f66_ok : FnOk Try.prog 66 Try.f66 := ⟨Try.func66, by kernel_rfl⟩
theorem f67_ok : FnOk Try.prog 67 Try.f67 := ⟨Try.func67, by kernel_rfl⟩
theorem f68_ok : FnOk Try.prog 68 Try.f68 := ⟨Try.func68, by kernel_rfl⟩
theorem f69_ok : FnOk Try.prog 69 Try.f69 := ⟨Try.func69, by kernel_rfl⟩
theorem f70_ok : FnOk Try.prog 70 Try.f70 := ⟨Try.func70, by kernel_rfl⟩
theorem f71_ok : FnOk Try.prog 71 Try.f71 := ⟨Try.func71, by kernel_rfl⟩
theorem f72_ok : FnOk Try.prog 72 Try.f72 := ⟨Try.func72, by kernel_rfl⟩
theorem f73_ok : FnOk Try.prog 73 Try.f73 := ⟨Try.func73, by kernel_rfl⟩
theorem f74_ok : FnOk Try.prog 74 Try.f74 := ⟨Try.func74, by kernel_rfl⟩
theorem f75_ok : FnOk Try.prog 75 Try.f75 := ⟨Try.func75, by kernel_rfl⟩
theorem f76_ok : FnOk Try.prog 76 Try.f76 := ⟨Try.func76, by kernel_rfl⟩
theorem f77_ok : FnOk Try.prog 77 Try.f77 := ⟨Try.func77, by kernel_rfl⟩
theorem f78_ok : FnOk Try.prog 78 Try.f78 := ⟨Try.func78, by kernel_rfl⟩
theorem f79_ok : FnOk Try.prog 79 Try.f79 := ⟨Try.func79, by kernel_rfl⟩
theorem f80_ok : FnOk Try.prog 80 Try.f80 := ⟨Try.func80, by kernel_rfl⟩
theorem f81_ok : FnOk Try.prog 81 Try.f81 := ⟨Try.func81, by kernel_rfl⟩
theorem f82_ok : FnOk Try.prog 82 Try.f82 := ⟨Try.func82, by kernel_rfl⟩
theorem f83_ok : FnOk Try.prog 83 Try.f83 := ⟨Try.func83, by kernel_rfl⟩
theorem f84_ok : FnOk Try.prog 84 Try.f84 := ⟨Try.func84, by kernel_rfl⟩
theorem f85_ok : FnOk Try.prog 85 Try.f85 := ⟨Try.func85, by kernel_rfl⟩
theorem f86_ok : FnOk Try.prog 86 Try.f86 := ⟨Try.func86, by kernel_rfl⟩
theorem f87_ok : FnOk Try.prog 87 Try.f87 := ⟨Try.func87, by kernel_rfl⟩
theorem f88_ok : FnOk Try.prog 88 Try.f88 := ⟨Try.func88, by kernel_rfl⟩
theorem f89_ok : FnOk Try.prog 89 Try.f89 := ⟨Try.func89, by kernel_rfl⟩
theorem f90_ok : FnOk Try.prog 90 Try.f90 := ⟨Try.func90, by kernel_rfl⟩
theorem f91_ok : FnOk Try.prog 91 Try.f91 := ⟨Try.func91, by kernel_rfl⟩
theorem f92_ok : FnOk Try.prog 92 Try.f92 := ⟨Try.func92, by kernel_rfl⟩
theorem f93_ok : FnOk Try.prog 93 Try.f93 := ⟨Try.func93, by kernel_rfl⟩
theorem f94_ok : FnOk Try.prog 94 Try.f94 := ⟨Try.func94, by kernel_rfl⟩
theorem f95_ok : FnOk Try.prog 95 Try.f95 := ⟨Try.func95, by kernel_rfl⟩
theorem f96_ok : FnOk Try.prog 96 Try.f96 := ⟨Try.func96, by kernel_rfl⟩
theorem f97_ok : FnOk Try.prog 97 Try.f97 := ⟨Try.func97, by kernel_rfl⟩
theorem f98_ok : FnOk Try.prog 98 Try.f98 := ⟨Try.func98, by kernel_rfl⟩
theorem f99_ok : FnOk Try.prog 99 Try.f99 := ⟨Try.func99, by kernel_rfl⟩
theorem f100_ok : FnOk Try.prog 100 Try.f100 := ⟨Try.func100, by kernel_rfl⟩
theorem f101_ok : FnOk Try.prog 101 Try.f101 := ⟨Try.func101, by kernel_rfl⟩
theorem f102_ok : FnOk Try.prog 102 Try.f102 := ⟨Try.func102, by kernel_rfl⟩
theorem f103_ok : FnOk Try.prog 103 Try.f103 := ⟨Try.func103, by kernel_rfl⟩
theorem f104_ok : FnOk Try.prog 104 Try.f104 := ⟨Try.func104, by kernel_rfl⟩
theorem f105_ok : FnOk Try.prog 105 Try.f105 := ⟨Try.func105, by kernel_rfl⟩
theorem f106_ok : FnOk Try.prog 106 Try.f106 := ⟨Try.func106, by kernel_rfl⟩
theorem f107_ok : FnOk Try.prog 107 Try.f107 := ⟨Try.func107, by kernel_rfl⟩
theorem f108_ok : FnOk Try.prog 108 Try.f108 := ⟨Try.func108, by kernel_rfl⟩
theorem f109_ok : FnOk Try.prog 109 Try.f109 := ⟨Try.func109, by kernel_rfl⟩
theorem f110_ok : FnOk Try.prog 110 Try.f110 := ⟨Try.func110, by kernel_rfl⟩
theorem f111_ok : FnOk Try.prog 111 Try.f111 := ⟨Try.func111, by kernel_rfl⟩
theorem f112_ok : FnOk Try.prog 112 Try.f112 := ⟨Try.func112, by kernel_rfl⟩
theorem f113_ok : FnOk Try.prog 113 Try.f113 := ⟨Try.func113, by kernel_rfl⟩
theorem f114_ok : FnOk Try.prog 114 Try.f114 := ⟨Try.func114, by kernel_rfl⟩
theorem f115_ok : FnOk Try.prog 115 Try.f115 := ⟨Try.func115, by kernel_rfl⟩
theorem f116_ok : FnOk Try.prog 116 Try.f116 := ⟨Try.func116, by kernel_rfl⟩
theorem f117_ok : FnOk Try.prog 117 Try.f117 := ⟨Try.func117, by kernel_rfl⟩
theorem f118_ok : FnOk Try.prog 118 Try.f118 := ⟨Try.func118, by kernel_rfl⟩
def g3 : Gd := Gd.int .i64
theorem o3 {N : Nat} {w0 w : World} (hN : N = w.heap.size) : Opn Try.prog N w0 w 3 g3 := Opn.int Try.underlying3
def g9 : Gd := Gd.str
theorem o9 {N : Nat} {w0 w : World} (hN : N = w.heap.size) : Opn Try.prog N w0 w 9 g9 := Opn.str Try.underlying9
def g24 : Gd := Gd.agg [g3, g3, g3, g3, g3, g3, g3, g3, g9]
theorem o24 {N : Nat} {w0 w : World} (hN : N = w.heap.size) : Opn Try.prog N w0 w 24 g24 := Opn.struct Try.underlying24 (by kernel_rfl) (show OpnAll Try.prog N w0 w [(3, 0), (3, 1), (3, 2), (3, 3), (3, 4), (3, 5), (3, 6), (3, 7), (9, 8)] [g3, g3, g3, g3, g3, g3, g3, g3, g9] from ⟨o3 hN, o3 hN, o3 hN, o3 hN, o3 hN, o3 hN, o3 hN, o3 hN, o9 hN, trivial⟩)
def g22 : Gd := Gd.row 24 9 g24
theorem o22 {N : Nat} {w0 w : World} (hN : N = w.heap.size) : Opn Try.prog N w0 w 22 g22 := Opn.slice Try.underlying22 (by kernel_rfl) (by decide) (o24 hN) hN
def g35 : Gd := Gd.agg [g3, g9]
theorem o35 {N : Nat} {w0 w : World} (hN : N = w.heap.size) : Opn Try.prog N w0 w 35 g35 := Opn.struct Try.underlying35 (by kernel_rfl) (show OpnAll Try.prog N w0 w [(3, 0), (9, 1)] [g3, g9] from ⟨o3 hN, o9 hN, trivial⟩)
def g36 : Gd := Gd.int .u32
theorem o36 {N : Nat} {w0 w : World} (hN : N = w.heap.size) : Opn Try.prog N w0 w 36 g36 := Opn.int Try.underlying36
def g44 : Gd := Gd.row 3 1 g3
theorem o44 {N : Nat} {w0 w : World} (hN : N = w.heap.size) : Opn Try.prog N w0 w 44 g44 := Opn.slice Try.underlying44 (by kernel_rfl) (by decide) (o3 hN) hN
def g48 : Gd := Gd.row 35 2 g35
theorem o48 {N : Nat} {w0 w : World} (hN : N = w.heap.size) : Opn Try.prog N w0 w 48 g48 := Opn.slice Try.underlying48 (by kernel_rfl) (by decide) (o35 hN) hN
def g99 : Gd := Gd.agg [g3, g9]
theorem o99 {N : Nat} {w0 w : World} (hN : N = w.heap.size) : Opn Try.prog N w0 w 99 g99 := Opn.struct Try.underlying99 (by kernel_rfl) (show OpnAll Try.prog N w0 w [(3, 0), (9, 1)] [g3, g9] from ⟨o3 hN, o9 hN, trivial⟩)
def g49 : Gd := Gd.row 99 2 g99
theorem o49 {N : Nat} {w0 w : World} (hN : N = w.heap.size) : Opn Try.prog N w0 w 49 g49 := Opn.slice Try.underlying49 (by kernel_rfl) (by decide) (o99 hN) hN
def g101 : Gd := Gd.agg [g3, g3]
theorem o101 {N : Nat} {w0 w : World} (hN : N = w.heap.size) : Opn Try.prog N w0 w 101 g101 := Opn.struct Try.underlying101 (by kernel_rfl) (show OpnAll Try.prog N w0 w [(3, 0), (3, 1)] [g3, g3] from ⟨o3 hN, o3 hN, trivial⟩)
def g50 : Gd := Gd.row 101 2 g101
theorem o50 {N : Nat} {w0 w : World} (hN : N = w.heap.size) : Opn Try.prog N w0 w 50 g50 := Opn.slice Try.underlying50 (by kernel_rfl) (by decide) (o101 hN) hN
def g51 : Gd := Gd.row 36 1 g36
theorem o51 {N : Nat} {w0 w : World} (hN : N = w.heap.size) : Opn Try.prog N w0 w 51 g51 := Opn.slice Try.underlying51 (by kernel_rfl) (by decide) (o36 hN) hN
def g53 : Gd := Gd.agg [g3, g3, g36, g3, g3, g36, g9, g36, g36, g3, g3, g48, g49, g50, g51]
theorem o53 {N : Nat} {w0 w : World} (hN : N = w.heap.size) : Opn Try.prog N w0 w 53 g53 := Opn.struct Try.underlying53 (by kernel_rfl) (show OpnAll Try.prog N w0 w [(3, 0), (3, 1), (36, 2), (3, 3), (3, 4), (36, 5), (9, 6), (36, 7), (36, 8), (3, 9), (3, 10), (48, 11), (49, 12), (50, 13), (51, 14)] [g3, g3, g36, g3, g3, g36, g9, g36, g36, g3, g3, g48, g49, g50, g51] from ⟨o3 hN, o3 hN, o36 hN, o3 hN, o3 hN, o36 hN, o9 hN, o36 hN, o36 hN, o3 hN, o3 hN, o48 hN, o49 hN, o50 hN, o51 hN, trivial⟩)
noncomputable def tys : Tr TI := (.node 72 t72 (.node 36 t36 (.node 22 t22 (.node 5 t5 (.node 4 t4 (.node 3 t3 .leaf .leaf) .leaf) (.node 21 t21 (.node 9 t9 .leaf .leaf) .leaf)) (.node 28 t28 (.node 24 t24 (.node 23 t23 .leaf .leaf) .leaf) (.node 35 t35 (.node 34 t34 .leaf .leaf) .leaf))) (.node 50 t50 (.node 45 t45 (.node 44 t44 (.node 41 t41 .leaf .leaf) .leaf) (.node 49 t49 (.node 48 t48 .leaf .leaf) .leaf)) (.node 53 t53 (.node 52 t52 (.node 51 t51 .leaf .leaf) .leaf) (.node 71 t71 (.node 68 t68 .leaf .leaf) .leaf)))) (.node 103 t103 (.node 94 t94 (.node 85 t85 (.node 79 t79 (.node 73 t73 .leaf .leaf) .leaf) (.node 93 t93 (.node 92 t92 .leaf .leaf) .leaf)) (.node 100 t100 (.node 99 t99 (.node 98 t98 .leaf .leaf) .leaf) (.node 102 t102 (.node 101 t101 .leaf .leaf) .leaf))) (.node 125 t125 (.node 109 t109 (.node 108 t108 (.node 104 t104 .leaf .leaf) .leaf) (.node 121 t121 (.node 120 t120 .leaf .leaf) .leaf)) (.node 129 t129 (.node 128 t128 (.node 127 t127 .leaf .leaf) .leaf) (.node 143 t143 .leaf .leaf)))))
noncomputable def fns : Tr Func := (.node 61 Try.f61 (.node 32 Try.f32 (.node 17 Try.f17 (.node 10 Try.f10 (.node 6 Try.f6 (.node 4 Try.f4 (.node 3 Try.f3 .leaf .leaf) (.node 5 Try.f5 .leaf .leaf)) (.node 8 Try.f8 (.node 7 Try.f7 .leaf .leaf) (.node 9 Try.f9 .leaf .leaf))) (.node 14 Try.f14 (.node 12 Try.f12 (.node 11 Try.f11 .leaf .leaf) (.node 13 Try.f13 .leaf .leaf)) (.node 16 Try.f16 (.node 15 Try.f15 .leaf .leaf) .leaf))) (.node 25 Try.f25 (.node 21 Try.f21 (.node 19 Try.f19 (.node 18 Try.f18 .leaf .leaf) (.node 20 Try.f20 .leaf .leaf)) (.node 23 Try.f23 (.node 22 Try.f22 .leaf .leaf) (.node 24 Try.f24 .leaf .leaf))) (.node 29 Try.f29 (.node 27 Try.f27 (.node 26 Try.f26 .leaf .leaf) (.node 28 Try.f28 .leaf .leaf)) (.node 31 Try.f31 (.node 30 Try.f30 .leaf .leaf) .leaf)))) (.node 47 Try.f47 (.node 40 Try.f40 (.node 36 Try.f36 (.node 34 Try.f34 (.node 33 Try.f33 .leaf .leaf) (.node 35 Try.f35 .leaf .leaf)) (.node 38 Try.f38 (.node 37 Try.f37 .leaf .leaf) (.node 39 Try.f39 .leaf .leaf))) (.node 44 Try.f44 (.node 42 Try.f42 (.node 41 Try.f41 .leaf .leaf) (.node 43 Try.f43 .leaf .leaf)) (.node 46 Try.f46 (.node 45 Try.f45 .leaf .leaf) .leaf))) (.node 54 Try.f54 (.node 51 Try.f51 (.node 49 Try.f49 (.node 48 Try.f48 .leaf .leaf) (.node 50 Try.f50 .leaf .leaf)) (.node 53 Try.f53 (.node 52 Try.f52 .leaf .leaf) .leaf)) (.node 58 Try.f58 (.node 56 Try.f56 (.node 55 Try.f55 .leaf .leaf) (.node 57 Try.f57 .leaf .leaf)) (.node 60 Try.f60 (.node 59 Try.f59 .leaf .leaf) .leaf))))) (.node 90 Try.f90 (.node 76 Try.f76 (.node 69 Try.f69 (.node 65 Try.f65 (.node 63 Try.f63 (.node 62 Try.f62 .leaf .leaf) (.node 64 Try.f64 .leaf .leaf)) (.node 67 Try.f67 (.node 66 Try.f66 .leaf .leaf) (.node 68 Try.f68 .leaf .leaf))) (.node 73 Try.f73 (.node 71 Try.f71 (.node 70 Try.f70 .leaf .leaf) (.node 72 Try.f72 .leaf .leaf)) (.node 75 Try.f75 (.node 74 Try.f74 .leaf .leaf) .leaf))) (.node 83 Try.f83 (.node 80 Try.f80 (.node 78 Try.f78 (.node 77 Try.f77 .leaf .leaf) (.node 79 Try.f79 .leaf .leaf)) (.node 82 Try.f82 (.node 81 Try.f81 .leaf .leaf) .leaf)) (.node 87 Try.f87 (.node 85 Try.f85 (.node 84 Try.f84 .leaf .leaf) (.node 86 Try.f86 .leaf .leaf)) (.node 89 Try.f89 (.node 88 Try.f88 .leaf .leaf) .leaf)))) (.node 105 Try.f105 (.node 98 Try.f98 (.node 94 Try.f94 (.node 92 Try.f92 (.node 91 Try.f91 .leaf .leaf) (.node 93 Try.f93 .leaf .leaf)) (.node 96 Try.f96 (.node 95 Try.f95 .leaf .leaf) (.node 97 Try.f97 .leaf .leaf))) (.node 102 Try.f102 (.node 100 Try.f100 (.node 99 Try.f99 .leaf .leaf) (.node 101 Try.f101 .leaf .leaf)) (.node 104 Try.f104 (.node 103 Try.f103 .leaf .leaf) .leaf))) (.node 112 Try.f112 (.node 109 Try.f109 (.node 107 Try.f107 (.node 106 Try.f106 .leaf .leaf) (.node 108 Try.f108 .leaf .leaf)) (.node 111 Try.f111 (.node 110 Try.f110 .leaf .leaf) .leaf)) (.node 116 Try.f116 (.node 114 Try.f114 (.node 113 Try.f113 .leaf .leaf) (.node 115 Try.f115 .leaf .leaf)) (.node 118 Try.f118 (.node 117 Try.f117 .leaf .leaf) .leaf))))))
noncomputable def env : Env := mkEnv tys fns
theorem env_ok : EnvOk Try.prog env := mkEnv_ok (T := tys) (F := fns) ⟨t72_ok, ⟨t36_ok, ⟨t22_ok, ⟨t5_ok, ⟨t4_ok, ⟨t3_ok, trivial, trivial⟩, trivial⟩, ⟨t21_ok, ⟨t9_ok, trivial, trivial⟩, trivial⟩⟩, ⟨t28_ok, ⟨t24_ok, ⟨t23_ok, trivial, trivial⟩, trivial⟩, ⟨t35_ok, ⟨t34_ok, trivial, trivial⟩, trivial⟩⟩⟩, ⟨t50_ok, ⟨t45_ok, ⟨t44_ok, ⟨t41_ok, trivial, trivial⟩, trivial⟩, ⟨t49_ok, ⟨t48_ok, trivial, trivial⟩, trivial⟩⟩, ⟨t53_ok, ⟨t52_ok, ⟨t51_ok, trivial, trivial⟩, trivial⟩, ⟨t71_ok, ⟨t68_ok, trivial, trivial⟩, trivial⟩⟩⟩⟩, ⟨t103_ok, ⟨t94_ok, ⟨t85_ok, ⟨t79_ok, ⟨t73_ok, trivial, trivial⟩, trivial⟩, ⟨t93_ok, ⟨t92_ok, trivial, trivial⟩, trivial⟩⟩, ⟨t100_ok, ⟨t99_ok, ⟨t98_ok, trivial, trivial⟩, trivial⟩, ⟨t102_ok, ⟨t101_ok, trivial, trivial⟩, trivial⟩⟩⟩, ⟨t125_ok, ⟨t109_ok, ⟨t108_ok, ⟨t104_ok, trivial, trivial⟩, trivial⟩, ⟨t121_ok, ⟨t120_ok, trivial, trivial⟩, trivial⟩⟩, ⟨t129_ok, ⟨t128_ok, ⟨t127_ok, trivial, trivial⟩, trivial⟩, ⟨t143_ok, trivial, trivial⟩⟩⟩⟩⟩ ⟨f61_ok, ⟨f32_ok, ⟨f17_ok, ⟨f10_ok, ⟨f6_ok, ⟨f4_ok, ⟨f3_ok, trivial, trivial⟩, ⟨f5_ok, trivial, trivial⟩⟩, ⟨f8_ok, ⟨f7_ok, trivial, trivial⟩, ⟨f9_ok, trivial, trivial⟩⟩⟩, ⟨f14_ok, ⟨f12_ok, ⟨f11_ok, trivial, trivial⟩, ⟨f13_ok, trivial, trivial⟩⟩, ⟨f16_ok, ⟨f15_ok, trivial, trivial⟩, trivial⟩⟩⟩, ⟨f25_ok, ⟨f21_ok, ⟨f19_ok, ⟨f18_ok, trivial, trivial⟩, ⟨f20_ok, trivial, trivial⟩⟩, ⟨f23_ok, ⟨f22_ok, trivial, trivial⟩, ⟨f24_ok, trivial, trivial⟩⟩⟩, ⟨f29_ok, ⟨f27_ok, ⟨f26_ok, trivial, trivial⟩, ⟨f28_ok, trivial, trivial⟩⟩, ⟨f31_ok, ⟨f30_ok, trivial, trivial⟩, trivial⟩⟩⟩⟩, ⟨f47_ok, ⟨f40_ok, ⟨f36_ok, ⟨f34_ok, ⟨f33_ok, trivial, trivial⟩, ⟨f35_ok, trivial, trivial⟩⟩, ⟨f38_ok, ⟨f37_ok, trivial, trivial⟩, ⟨f39_ok, trivial, trivial⟩⟩⟩, ⟨f44_ok, ⟨f42_ok, ⟨f41_ok, trivial, trivial⟩, ⟨f43_ok, trivial, trivial⟩⟩, ⟨f46_ok, ⟨f45_ok, trivial, trivial⟩, trivial⟩⟩⟩, ⟨f54_ok, ⟨f51_ok, ⟨f49_ok, ⟨f48_ok, trivial, trivial⟩, ⟨f50_ok, trivial, trivial⟩⟩, ⟨f53_ok, ⟨f52_ok, trivial, trivial⟩, trivial⟩⟩, ⟨f58_ok, ⟨f56_ok, ⟨f55_ok, trivial, trivial⟩, ⟨f57_ok, trivial, trivial⟩⟩, ⟨f60_ok, ⟨f59_ok, trivial, trivial⟩, trivial⟩⟩⟩⟩⟩, ⟨f90_ok, ⟨f76_ok, ⟨f69_ok, ⟨f65_ok, ⟨f63_ok, ⟨f62_ok, trivial, trivial⟩, ⟨f64_ok, trivial, trivial⟩⟩, ⟨f67_ok, ⟨f66_ok, trivial, trivial⟩, ⟨f68_ok, trivial, trivial⟩⟩⟩, ⟨f73_ok, ⟨f71_ok, ⟨f70_ok, trivial, trivial⟩, ⟨f72_ok, trivial, trivial⟩⟩, ⟨f75_ok, ⟨f74_ok, trivial, trivial⟩, trivial⟩⟩⟩, ⟨f83_ok, ⟨f80_ok, ⟨f78_ok, ⟨f77_ok, trivial, trivial⟩, ⟨f79_ok, trivial, trivial⟩⟩, ⟨f82_ok, ⟨f81_ok, trivial, trivial⟩, trivial⟩⟩, ⟨f87_ok, ⟨f85_ok, ⟨f84_ok, trivial, trivial⟩, ⟨f86_ok, trivial, trivial⟩⟩, ⟨f89_ok, ⟨f88_ok, trivial, trivial⟩, trivial⟩⟩⟩⟩, ⟨f105_ok, ⟨f98_ok, ⟨f94_ok, ⟨f92_ok, ⟨f91_ok, trivial, trivial⟩, ⟨f93_ok, trivial, trivial⟩⟩, ⟨f96_ok, ⟨f95_ok, trivial, trivial⟩, ⟨f97_ok, trivial, trivial⟩⟩⟩, ⟨f102_ok, ⟨f100_ok, ⟨f99_ok, trivial, trivial⟩, ⟨f101_ok, trivial, trivial⟩⟩, ⟨f104_ok, ⟨f103_ok, trivial, trivial⟩, trivial⟩⟩⟩, ⟨f112_ok, ⟨f109_ok, ⟨f107_ok, ⟨f106_ok, trivial, trivial⟩, ⟨f108_ok, trivial, trivial⟩⟩, ⟨f111_ok, ⟨f110_ok, trivial, trivial⟩, trivial⟩⟩, ⟨f116_ok, ⟨f114_ok, ⟨f113_ok, trivial, trivial⟩, ⟨f115_ok, trivial, trivial⟩⟩, ⟨f118_ok, ⟨f117_ok, trivial, trivial⟩, trivial⟩⟩⟩⟩⟩⟩ (by kernel_rfl)
instance : Plain env := ⟨fun _ _ _ => rfl⟩
end Go.Proofs.Ytgajcmanompmcaa.Vt
