/- Part 3 of the texts that prove ChunkPuts: the abstract machine, its calculus, and walks through functions; joined by a program of this workplace. -/
import Derived.Test.YtgajcmanompmcaaZChunkPuts2
import Derived.Test.YtgajcmanompmcaaProg
/- The tables of types and functions, for the abstract machine. -/
namespace Go.Proofs.Ytgajcmanompmcaa.Vt
open Go Go.Proofs Go.Proofs.YtgajcmanompmcaaV
set_option maxRecDepth 100000
set_option linter.unusedVariables false
def t3 : TI := ⟨.int .i64, .int .i64 0, 1, 8, false⟩
theorem t3_ok : TyOk Try.prog 3 t3 := TyOk.mk' Try.underlying3 (by kernel_rfl) (by kernel_rfl) (.inl rfl)
def t4 : TI := ⟨.bool, .bool false, 1, 1, false⟩
theorem t4_ok : TyOk Try.prog 4 t4 := TyOk.mk' Try.underlying4 (by kernel_rfl) (by kernel_rfl) (.inl rfl)
def t5 : TI := ⟨.int .u8, .int .u8 0, 1, 1, false⟩
theorem t5_ok : TyOk Try.prog 5 t5 := TyOk.mk' Try.underlying5 (by kernel_rfl) (by kernel_rfl) (.inl rfl)
def t9 : TI := ⟨.string, .string ⟨#[]⟩, 1, 16, false⟩
theorem t9_ok : TyOk Try.prog 9 t9 := TyOk.mk' Try.underlying9 (by kernel_rfl) (by kernel_rfl) (.inl rfl)
def t21 : TI := ⟨.int .i32, .int .i32 0, 1, 4, false⟩
theorem t21_ok : TyOk Try.prog 21 t21 := TyOk.mk' Try.underlying21 (by kernel_rfl) (by kernel_rfl) (.inl rfl)
def t22 : TI := ⟨.slice 24, .slice none 0 0, 1, 24, false⟩
theorem t22_ok : TyOk Try.prog 22 t22 := TyOk.mk' Try.underlying22 (by kernel_rfl) (by kernel_rfl) (.inl rfl)
def t23 : TI := ⟨.struct #[{ name := "What", type := 3, offset := 0, embedded := false, tag := "", pkgPath := "", byteOffset := 0 }, { name := "Host", type := 3, offset := 1, embedded := false, tag := "", pkgPath := "", byteOffset := 8 }, { name := "A", type := 3, offset := 2, embedded := false, tag := "", pkgPath := "", byteOffset := 16 }, { name := "B", type := 3, offset := 3, embedded := false, tag := "", pkgPath := "", byteOffset := 24 }, { name := "C", type := 3, offset := 4, embedded := false, tag := "", pkgPath := "", byteOffset := 32 }, { name := "D", type := 3, offset := 5, embedded := false, tag := "", pkgPath := "", byteOffset := 40 }, { name := "E", type := 3, offset := 6, embedded := false, tag := "", pkgPath := "", byteOffset := 48 }, { name := "F", type := 3, offset := 7, embedded := false, tag := "", pkgPath := "", byteOffset := 56 }, { name := "S", type := 9, offset := 8, embedded := false, tag := "", pkgPath := "", byteOffset := 64 }], .agg #[.int .i64 0, .int .i64 0, .int .i64 0, .int .i64 0, .int .i64 0, .int .i64 0, .int .i64 0, .int .i64 0, .string ⟨#[]⟩], 9, 80, true⟩
theorem t23_ok : TyOk Try.prog 23 t23 := TyOk.mk' Try.underlying23 (by kernel_rfl) (by kernel_rfl) (.inr ⟨by kernel_rfl, by kernel_rfl⟩)
def t24 : TI := ⟨.struct #[{ name := "What", type := 3, offset := 0, embedded := false, tag := "", pkgPath := "", byteOffset := 0 }, { name := "Host", type := 3, offset := 1, embedded := false, tag := "", pkgPath := "", byteOffset := 8 }, { name := "A", type := 3, offset := 2, embedded := false, tag := "", pkgPath := "", byteOffset := 16 }, { name := "B", type := 3, offset := 3, embedded := false, tag := "", pkgPath := "", byteOffset := 24 }, { name := "C", type := 3, offset := 4, embedded := false, tag := "", pkgPath := "", byteOffset := 32 }, { name := "D", type := 3, offset := 5, embedded := false, tag := "", pkgPath := "", byteOffset := 40 }, { name := "E", type := 3, offset := 6, embedded := false, tag := "", pkgPath := "", byteOffset := 48 }, { name := "F", type := 3, offset := 7, embedded := false, tag := "", pkgPath := "", byteOffset := 56 }, { name := "S", type := 9, offset := 8, embedded := false, tag := "", pkgPath := "", byteOffset := 64 }], .agg #[.int .i64 0, .int .i64 0, .int .i64 0, .int .i64 0, .int .i64 0, .int .i64 0, .int .i64 0, .int .i64 0, .string ⟨#[]⟩], 9, 80, true⟩
theorem t24_ok : TyOk Try.prog 24 t24 := TyOk.mk' Try.underlying24 (by kernel_rfl) (by kernel_rfl) (.inr ⟨by kernel_rfl, by kernel_rfl⟩)
def t28 : TI := ⟨.int .i64, .int .i64 0, 1, 8, false⟩
theorem t28_ok : TyOk Try.prog 28 t28 := TyOk.mk' Try.underlying28 (by kernel_rfl) (by kernel_rfl) (.inl rfl)
def t34 : TI := ⟨.struct #[{ name := "Type", type := 3, offset := 0, embedded := false, tag := "", pkgPath := "", byteOffset := 0 }, { name := "Value", type := 9, offset := 1, embedded := false, tag := "", pkgPath := "", byteOffset := 8 }], .agg #[.int .i64 0, .string ⟨#[]⟩], 2, 24, true⟩
theorem t34_ok : TyOk Try.prog 34 t34 := TyOk.mk' Try.underlying34 (by kernel_rfl) (by kernel_rfl) (.inr ⟨by kernel_rfl, by kernel_rfl⟩)
def t35 : TI := ⟨.struct #[{ name := "Type", type := 3, offset := 0, embedded := false, tag := "", pkgPath := "", byteOffset := 0 }, { name := "Value", type := 9, offset := 1, embedded := false, tag := "", pkgPath := "", byteOffset := 8 }], .agg #[.int .i64 0, .string ⟨#[]⟩], 2, 24, true⟩
theorem t35_ok : TyOk Try.prog 35 t35 := TyOk.mk' Try.underlying35 (by kernel_rfl) (by kernel_rfl) (.inr ⟨by kernel_rfl, by kernel_rfl⟩)
def t36 : TI := ⟨.int .u32, .int .u32 0, 1, 4, false⟩
theorem t36_ok : TyOk Try.prog 36 t36 := TyOk.mk' Try.underlying36 (by kernel_rfl) (by kernel_rfl) (.inl rfl)
def t41 : TI := ⟨.int .u64, .int .u64 0, 1, 8, false⟩
theorem t41_ok : TyOk Try.prog 41 t41 := TyOk.mk' Try.underlying41 (by kernel_rfl) (by kernel_rfl) (.inl rfl)
def t44 : TI := ⟨.slice 3, .slice none 0 0, 1, 24, false⟩
theorem t44_ok : TyOk Try.prog 44 t44 := TyOk.mk' Try.underlying44 (by kernel_rfl) (by kernel_rfl) (.inl rfl)
def t45 : TI := ⟨.pointer 94, .pointer none, 1, 8, false⟩
theorem t45_ok : TyOk Try.prog 45 t45 := TyOk.mk' Try.underlying45 (by kernel_rfl) (by kernel_rfl) (.inl rfl)
def t48 : TI := ⟨.slice 35, .slice none 0 0, 1, 24, false⟩
theorem t48_ok : TyOk Try.prog 48 t48 := TyOk.mk' Try.underlying48 (by kernel_rfl) (by kernel_rfl) (.inl rfl)
def t49 : TI := ⟨.slice 99, .slice none 0 0, 1, 24, false⟩
theorem t49_ok : TyOk Try.prog 49 t49 := TyOk.mk' Try.underlying49 (by kernel_rfl) (by kernel_rfl) (.inl rfl)
def t50 : TI := ⟨.slice 101, .slice none 0 0, 1, 24, false⟩
theorem t50_ok : TyOk Try.prog 50 t50 := TyOk.mk' Try.underlying50 (by kernel_rfl) (by kernel_rfl) (.inl rfl)
def t51 : TI := ⟨.slice 36, .slice none 0 0, 1, 24, false⟩
theorem t51_ok : TyOk Try.prog 51 t51 := TyOk.mk' Try.underlying51 (by kernel_rfl) (by kernel_rfl) (.inl rfl)
def t52 : TI := ⟨.struct #[{ name := "Type", type := 3, offset := 0, embedded := false, tag := "", pkgPath := "", byteOffset := 0 }, { name := "Flags", type := 3, offset := 1, embedded := false, tag := "", pkgPath := "", byteOffset := 8 }, { name := "Tsn", type := 36, offset := 2, embedded := false, tag := "", pkgPath := "", byteOffset := 16 }, { name := "Stream", type := 3, offset := 3, embedded := false, tag := "", pkgPath := "", byteOffset := 24 }, { name := "Ssn", type := 3, offset := 4, embedded := false, tag := "", pkgPath := "", byteOffset := 32 }, { name := "Proto", type := 36, offset := 5, embedded := false, tag := "", pkgPath := "", byteOffset := 40 }, { name := "Data", type := 9, offset := 6, embedded := false, tag := "", pkgPath := "", byteOffset := 48 }, { name := "Tag", type := 36, offset := 7, embedded := false, tag := "", pkgPath := "", byteOffset := 64 }, { name := "Rwnd", type := 36, offset := 8, embedded := false, tag := "", pkgPath := "", byteOffset := 68 }, { name := "Out", type := 3, offset := 9, embedded := false, tag := "", pkgPath := "", byteOffset := 72 }, { name := "In", type := 3, offset := 10, embedded := false, tag := "", pkgPath := "", byteOffset := 80 }, { name := "Params", type := 48, offset := 11, embedded := false, tag := "", pkgPath := "", byteOffset := 88 }, { name := "Causes", type := 49, offset := 12, embedded := false, tag := "", pkgPath := "", byteOffset := 112 }, { name := "Gaps", type := 50, offset := 13, embedded := false, tag := "", pkgPath := "", byteOffset := 136 }, { name := "Dups", type := 51, offset := 14, embedded := false, tag := "", pkgPath := "", byteOffset := 160 }], .agg #[.int .i64 0, .int .i64 0, .int .u32 0, .int .i64 0, .int .i64 0, .int .u32 0, .string ⟨#[]⟩, .int .u32 0, .int .u32 0, .int .i64 0, .int .i64 0, .slice none 0 0, .slice none 0 0, .slice none 0 0, .slice none 0 0], 15, 184, false⟩
theorem t52_ok : TyOk Try.prog 52 t52 := TyOk.mk' Try.underlying52 (by kernel_rfl) (by kernel_rfl) (.inl rfl)
def t53 : TI := ⟨.struct #[{ name := "Type", type := 3, offset := 0, embedded := false, tag := "", pkgPath := "", byteOffset := 0 }, { name := "Flags", type := 3, offset := 1, embedded := false, tag := "", pkgPath := "", byteOffset := 8 }, { name := "Tsn", type := 36, offset := 2, embedded := false, tag := "", pkgPath := "", byteOffset := 16 }, { name := "Stream", type := 3, offset := 3, embedded := false, tag := "", pkgPath := "", byteOffset := 24 }, { name := "Ssn", type := 3, offset := 4, embedded := false, tag := "", pkgPath := "", byteOffset := 32 }, { name := "Proto", type := 36, offset := 5, embedded := false, tag := "", pkgPath := "", byteOffset := 40 }, { name := "Data", type := 9, offset := 6, embedded := false, tag := "", pkgPath := "", byteOffset := 48 }, { name := "Tag", type := 36, offset := 7, embedded := false, tag := "", pkgPath := "", byteOffset := 64 }, { name := "Rwnd", type := 36, offset := 8, embedded := false, tag := "", pkgPath := "", byteOffset := 68 }, { name := "Out", type := 3, offset := 9, embedded := false, tag := "", pkgPath := "", byteOffset := 72 }, { name := "In", type := 3, offset := 10, embedded := false, tag := "", pkgPath := "", byteOffset := 80 }, { name := "Params", type := 48, offset := 11, embedded := false, tag := "", pkgPath := "", byteOffset := 88 }, { name := "Causes", type := 49, offset := 12, embedded := false, tag := "", pkgPath := "", byteOffset := 112 }, { name := "Gaps", type := 50, offset := 13, embedded := false, tag := "", pkgPath := "", byteOffset := 136 }, { name := "Dups", type := 51, offset := 14, embedded := false, tag := "", pkgPath := "", byteOffset := 160 }], .agg #[.int .i64 0, .int .i64 0, .int .u32 0, .int .i64 0, .int .i64 0, .int .u32 0, .string ⟨#[]⟩, .int .u32 0, .int .u32 0, .int .i64 0, .int .i64 0, .slice none 0 0, .slice none 0 0, .slice none 0 0, .slice none 0 0], 15, 184, false⟩
theorem t53_ok : TyOk Try.prog 53 t53 := TyOk.mk' Try.underlying53 (by kernel_rfl) (by kernel_rfl) (.inl rfl)
def t68 : TI := ⟨.pointer 103, .pointer none, 1, 8, false⟩
theorem t68_ok : TyOk Try.prog 68 t68 := TyOk.mk' Try.underlying68 (by kernel_rfl) (by kernel_rfl) (.inl rfl)
def t71 : TI := ⟨.int .u32, .int .u32 0, 1, 4, false⟩
theorem t71_ok : TyOk Try.prog 71 t71 := TyOk.mk' Try.underlying71 (by kernel_rfl) (by kernel_rfl) (.inl rfl)
def t72 : TI := ⟨.struct #[{ name := "What", type := 3, offset := 0, embedded := false, tag := "", pkgPath := "", byteOffset := 0 }, { name := "Addr", type := 71, offset := 1, embedded := false, tag := "", pkgPath := "", byteOffset := 8 }, { name := "Local", type := 71, offset := 2, embedded := false, tag := "", pkgPath := "", byteOffset := 12 }], .agg #[.int .i64 0, .int .u32 0, .int .u32 0], 3, 16, false⟩
theorem t72_ok : TyOk Try.prog 72 t72 := TyOk.mk' Try.underlying72 (by kernel_rfl) (by kernel_rfl) (.inl rfl)
def t73 : TI := ⟨.struct #[{ name := "What", type := 3, offset := 0, embedded := false, tag := "", pkgPath := "", byteOffset := 0 }, { name := "Addr", type := 71, offset := 1, embedded := false, tag := "", pkgPath := "", byteOffset := 8 }, { name := "Local", type := 71, offset := 2, embedded := false, tag := "", pkgPath := "", byteOffset := 12 }], .agg #[.int .i64 0, .int .u32 0, .int .u32 0], 3, 16, false⟩
theorem t73_ok : TyOk Try.prog 73 t73 := TyOk.mk' Try.underlying73 (by kernel_rfl) (by kernel_rfl) (.inl rfl)
def t79 : TI := ⟨.struct #[{ name := "Type", type := 3, offset := 0, embedded := false, tag := "", pkgPath := "", byteOffset := 0 }, { name := "Value", type := 9, offset := 1, embedded := false, tag := "", pkgPath := "", byteOffset := 8 }], .agg #[.int .i64 0, .string ⟨#[]⟩], 2, 24, false⟩
theorem t79_ok : TyOk Try.prog 79 t79 := TyOk.mk' Try.underlying79 (by kernel_rfl) (by kernel_rfl) (.inl rfl)
def t85 : TI := ⟨.pointer 121, .pointer none, 1, 8, false⟩
theorem t85_ok : TyOk Try.prog 85 t85 := TyOk.mk' Try.underlying85 (by kernel_rfl) (by kernel_rfl) (.inl rfl)
def t92 : TI := ⟨.slice 5, .slice none 0 0, 1, 24, false⟩
theorem t92_ok : TyOk Try.prog 92 t92 := TyOk.mk' Try.underlying92 (by kernel_rfl) (by kernel_rfl) (.inl rfl)
def t93 : TI := ⟨.struct #[{ name := "want", type := 3, offset := 0, embedded := false, tag := "", pkgPath := "crossway/reconf", byteOffset := 0 }, { name := "next", type := 36, offset := 1, embedded := false, tag := "", pkgPath := "crossway/reconf", byteOffset := 8 }, { name := "at", type := 3, offset := 2, embedded := false, tag := "", pkgPath := "crossway/reconf", byteOffset := 16 }, { name := "many", type := 3, offset := 3, embedded := false, tag := "", pkgPath := "crossway/reconf", byteOffset := 24 }, { name := "peer", type := 36, offset := 4, embedded := false, tag := "", pkgPath := "crossway/reconf", byteOffset := 32 }, { name := "last", type := 3, offset := 5, embedded := false, tag := "", pkgPath := "crossway/reconf", byteOffset := 40 }], .agg #[.int .i64 0, .int .u32 0, .int .i64 0, .int .i64 0, .int .u32 0, .int .i64 0], 6, 48, false⟩
theorem t93_ok : TyOk Try.prog 93 t93 := TyOk.mk' Try.underlying93 (by kernel_rfl) (by kernel_rfl) (.inl rfl)
def t94 : TI := ⟨.struct #[{ name := "want", type := 3, offset := 0, embedded := false, tag := "", pkgPath := "crossway/reconf", byteOffset := 0 }, { name := "next", type := 36, offset := 1, embedded := false, tag := "", pkgPath := "crossway/reconf", byteOffset := 8 }, { name := "at", type := 3, offset := 2, embedded := false, tag := "", pkgPath := "crossway/reconf", byteOffset := 16 }, { name := "many", type := 3, offset := 3, embedded := false, tag := "", pkgPath := "crossway/reconf", byteOffset := 24 }, { name := "peer", type := 36, offset := 4, embedded := false, tag := "", pkgPath := "crossway/reconf", byteOffset := 32 }, { name := "last", type := 3, offset := 5, embedded := false, tag := "", pkgPath := "crossway/reconf", byteOffset := 40 }], .agg #[.int .i64 0, .int .u32 0, .int .i64 0, .int .i64 0, .int .u32 0, .int .i64 0], 6, 48, false⟩
theorem t94_ok : TyOk Try.prog 94 t94 := TyOk.mk' Try.underlying94 (by kernel_rfl) (by kernel_rfl) (.inl rfl)
def t98 : TI := ⟨.struct #[{ name := "Code", type := 3, offset := 0, embedded := false, tag := "", pkgPath := "", byteOffset := 0 }, { name := "Info", type := 9, offset := 1, embedded := false, tag := "", pkgPath := "", byteOffset := 8 }], .agg #[.int .i64 0, .string ⟨#[]⟩], 2, 24, true⟩
theorem t98_ok : TyOk Try.prog 98 t98 := TyOk.mk' Try.underlying98 (by kernel_rfl) (by kernel_rfl) (.inr ⟨by kernel_rfl, by kernel_rfl⟩)
def t99 : TI := ⟨.struct #[{ name := "Code", type := 3, offset := 0, embedded := false, tag := "", pkgPath := "", byteOffset := 0 }, { name := "Info", type := 9, offset := 1, embedded := false, tag := "", pkgPath := "", byteOffset := 8 }], .agg #[.int .i64 0, .string ⟨#[]⟩], 2, 24, true⟩
theorem t99_ok : TyOk Try.prog 99 t99 := TyOk.mk' Try.underlying99 (by kernel_rfl) (by kernel_rfl) (.inr ⟨by kernel_rfl, by kernel_rfl⟩)
def t100 : TI := ⟨.struct #[{ name := "From", type := 3, offset := 0, embedded := false, tag := "", pkgPath := "", byteOffset := 0 }, { name := "To", type := 3, offset := 1, embedded := false, tag := "", pkgPath := "", byteOffset := 8 }], .agg #[.int .i64 0, .int .i64 0], 2, 16, true⟩
theorem t100_ok : TyOk Try.prog 100 t100 := TyOk.mk' Try.underlying100 (by kernel_rfl) (by kernel_rfl) (.inr ⟨by kernel_rfl, by kernel_rfl⟩)
def t101 : TI := ⟨.struct #[{ name := "From", type := 3, offset := 0, embedded := false, tag := "", pkgPath := "", byteOffset := 0 }, { name := "To", type := 3, offset := 1, embedded := false, tag := "", pkgPath := "", byteOffset := 8 }], .agg #[.int .i64 0, .int .i64 0], 2, 16, true⟩
theorem t101_ok : TyOk Try.prog 101 t101 := TyOk.mk' Try.underlying101 (by kernel_rfl) (by kernel_rfl) (.inr ⟨by kernel_rfl, by kernel_rfl⟩)
def t102 : TI := ⟨.struct #[{ name := "next", type := 36, offset := 0, embedded := false, tag := "", pkgPath := "crossway/asconf", byteOffset := 0 }, { name := "last", type := 53, offset := 1, embedded := false, tag := "", pkgPath := "crossway/asconf", byteOffset := 8 }, { name := "any", type := 4, offset := 16, embedded := false, tag := "", pkgPath := "crossway/asconf", byteOffset := 192 }], .agg #[.int .u32 0, .int .i64 0, .int .i64 0, .int .u32 0, .int .i64 0, .int .i64 0, .int .u32 0, .string ⟨#[]⟩, .int .u32 0, .int .u32 0, .int .i64 0, .int .i64 0, .slice none 0 0, .slice none 0 0, .slice none 0 0, .slice none 0 0, .bool false], 17, 200, false⟩
theorem t102_ok : TyOk Try.prog 102 t102 := TyOk.mk' Try.underlying102 (by kernel_rfl) (by kernel_rfl) (.inl rfl)
def t103 : TI := ⟨.struct #[{ name := "next", type := 36, offset := 0, embedded := false, tag := "", pkgPath := "crossway/asconf", byteOffset := 0 }, { name := "last", type := 53, offset := 1, embedded := false, tag := "", pkgPath := "crossway/asconf", byteOffset := 8 }, { name := "any", type := 4, offset := 16, embedded := false, tag := "", pkgPath := "crossway/asconf", byteOffset := 192 }], .agg #[.int .u32 0, .int .i64 0, .int .i64 0, .int .u32 0, .int .i64 0, .int .i64 0, .int .u32 0, .string ⟨#[]⟩, .int .u32 0, .int .u32 0, .int .i64 0, .int .i64 0, .slice none 0 0, .slice none 0 0, .slice none 0 0, .slice none 0 0, .bool false], 17, 200, false⟩
theorem t103_ok : TyOk Try.prog 103 t103 := TyOk.mk' Try.underlying103 (by kernel_rfl) (by kernel_rfl) (.inl rfl)
def t104 : TI := ⟨.pointer 129, .pointer none, 1, 8, false⟩
theorem t104_ok : TyOk Try.prog 104 t104 := TyOk.mk' Try.underlying104 (by kernel_rfl) (by kernel_rfl) (.inl rfl)
def t108 : TI := ⟨.struct #[{ name := "Ask", type := 73, offset := 0, embedded := false, tag := "", pkgPath := "", byteOffset := 0 }, { name := "OK", type := 4, offset := 3, embedded := false, tag := "", pkgPath := "", byteOffset := 16 }], .agg #[.int .i64 0, .int .u32 0, .int .u32 0, .bool false], 4, 24, false⟩
theorem t108_ok : TyOk Try.prog 108 t108 := TyOk.mk' Try.underlying108 (by kernel_rfl) (by kernel_rfl) (.inl rfl)
def t109 : TI := ⟨.struct #[{ name := "Ask", type := 73, offset := 0, embedded := false, tag := "", pkgPath := "", byteOffset := 0 }, { name := "OK", type := 4, offset := 3, embedded := false, tag := "", pkgPath := "", byteOffset := 16 }], .agg #[.int .i64 0, .int .u32 0, .int .u32 0, .bool false], 4, 24, false⟩
theorem t109_ok : TyOk Try.prog 109 t109 := TyOk.mk' Try.underlying109 (by kernel_rfl) (by kernel_rfl) (.inl rfl)
def t120 : TI := ⟨.struct #[{ name := "s", type := 9, offset := 0, embedded := false, tag := "", pkgPath := "crossway/octet", byteOffset := 0 }, { name := "err", type := 28, offset := 1, embedded := false, tag := "", pkgPath := "crossway/octet", byteOffset := 16 }], .agg #[.string ⟨#[]⟩, .int .i64 0], 2, 24, false⟩
theorem t120_ok : TyOk Try.prog 120 t120 := TyOk.mk' Try.underlying120 (by kernel_rfl) (by kernel_rfl) (.inl rfl)
def t121 : TI := ⟨.struct #[{ name := "s", type := 9, offset := 0, embedded := false, tag := "", pkgPath := "crossway/octet", byteOffset := 0 }, { name := "err", type := 28, offset := 1, embedded := false, tag := "", pkgPath := "crossway/octet", byteOffset := 16 }], .agg #[.string ⟨#[]⟩, .int .i64 0], 2, 24, false⟩
theorem t121_ok : TyOk Try.prog 121 t121 := TyOk.mk' Try.underlying121 (by kernel_rfl) (by kernel_rfl) (.inl rfl)
def t125 : TI := ⟨.pointer 53, .pointer none, 1, 8, false⟩
theorem t125_ok : TyOk Try.prog 125 t125 := TyOk.mk' Try.underlying125 (by kernel_rfl) (by kernel_rfl) (.inl rfl)
def t127 : TI := ⟨.slice 73, .slice none 0 0, 1, 24, false⟩
theorem t127_ok : TyOk Try.prog 127 t127 := TyOk.mk' Try.underlying127 (by kernel_rfl) (by kernel_rfl) (.inl rfl)
def t128 : TI := ⟨.struct #[{ name := "wait", type := 127, offset := 0, embedded := false, tag := "", pkgPath := "crossway/asconf", byteOffset := 0 }, { name := "now", type := 4, offset := 1, embedded := false, tag := "", pkgPath := "crossway/asconf", byteOffset := 24 }, { name := "next", type := 36, offset := 2, embedded := false, tag := "", pkgPath := "crossway/asconf", byteOffset := 28 }, { name := "many", type := 3, offset := 3, embedded := false, tag := "", pkgPath := "crossway/asconf", byteOffset := 32 }, { name := "at", type := 3, offset := 4, embedded := false, tag := "", pkgPath := "crossway/asconf", byteOffset := 40 }], .agg #[.slice none 0 0, .bool false, .int .u32 0, .int .i64 0, .int .i64 0], 5, 48, false⟩
theorem t128_ok : TyOk Try.prog 128 t128 := TyOk.mk' Try.underlying128 (by kernel_rfl) (by kernel_rfl) (.inl rfl)
def t129 : TI := ⟨.struct #[{ name := "wait", type := 127, offset := 0, embedded := false, tag := "", pkgPath := "crossway/asconf", byteOffset := 0 }, { name := "now", type := 4, offset := 1, embedded := false, tag := "", pkgPath := "crossway/asconf", byteOffset := 24 }, { name := "next", type := 36, offset := 2, embedded := false, tag := "", pkgPath := "crossway/asconf", byteOffset := 28 }, { name := "many", type := 3, offset := 3, embedded := false, tag := "", pkgPath := "crossway/asconf", byteOffset := 32 }, { name := "at", type := 3, offset := 4, embedded := false, tag := "", pkgPath := "crossway/asconf", byteOffset := 40 }], .agg #[.slice none 0 0, .bool false, .int .u32 0, .int .i64 0, .int .i64 0], 5, 48, false⟩
theorem t129_ok : TyOk Try.prog 129 t129 := TyOk.mk' Try.underlying129 (by kernel_rfl) (by kernel_rfl) (.inl rfl)
def t143 : TI := ⟨.slice 79, .slice none 0 0, 1, 24, false⟩
theorem t143_ok : TyOk Try.prog 143 t143 := TyOk.mk' Try.underlying143 (by kernel_rfl) (by kernel_rfl) (.inl rfl)
theorem f3_ok : FnOk Try.prog 3 Try.f3 := ⟨Try.func3, by kernel_rfl⟩
theorem f4_ok : FnOk Try.prog 4 Try.f4 := ⟨Try.func4, by kernel_rfl⟩
theorem f5_ok : FnOk Try.prog 5 Try.f5 := ⟨Try.func5, by kernel_rfl⟩
theorem f6_ok : FnOk Try.prog 6 Try.f6 := ⟨Try.func6, by kernel_rfl⟩
theorem f7_ok : FnOk Try.prog 7 Try.f7 := ⟨Try.func7, by kernel_rfl⟩
theorem f8_ok : FnOk Try.prog 8 Try.f8 := ⟨Try.func8, by kernel_rfl⟩
theorem f9_ok : FnOk Try.prog 9 Try.f9 := ⟨Try.func9, by kernel_rfl⟩
theorem f10_ok : FnOk Try.prog 10 Try.f10 := ⟨Try.func10, by kernel_rfl⟩
theorem f11_ok : FnOk Try.prog 11 Try.f11 := ⟨Try.func11, by kernel_rfl⟩
theorem f12_ok : FnOk Try.prog 12 Try.f12 := ⟨Try.func12, by kernel_rfl⟩
theorem f13_ok : FnOk Try.prog 13 Try.f13 := ⟨Try.func13, by kernel_rfl⟩
theorem f14_ok : FnOk Try.prog 14 Try.f14 := ⟨Try.func14, by kernel_rfl⟩
theorem f15_ok : FnOk Try.prog 15 Try.f15 := ⟨Try.func15, by kernel_rfl⟩
theorem f16_ok : FnOk Try.prog 16 Try.f16 := ⟨Try.func16, by kernel_rfl⟩
theorem f17_ok : FnOk Try.prog 17 Try.f17 := ⟨Try.func17, by kernel_rfl⟩
theorem f18_ok : FnOk Try.prog 18 Try.f18 := ⟨Try.func18, by kernel_rfl⟩
theorem f19_ok : FnOk Try.prog 19 Try.f19 := ⟨Try.func19, by kernel_rfl⟩
theorem f20_ok : FnOk Try.prog 20 Try.f20 := ⟨Try.func20, by kernel_rfl⟩
theorem f21_ok : FnOk Try.prog 21 Try.f21 := ⟨Try.func21, by kernel_rfl⟩
theorem f22_ok : FnOk Try.prog 22 Try.f22 := ⟨Try.func22, by kernel_rfl⟩
theorem f23_ok : FnOk Try.prog 23 Try.f23 := ⟨Try.func23, by kernel_rfl⟩
theorem f24_ok : FnOk Try.prog 24 Try.f24 := ⟨Try.func24, by kernel_rfl⟩
theorem f25_ok : FnOk Try.prog 25 Try.f25 := ⟨Try.func25, by kernel_rfl⟩
theorem f26_ok : FnOk Try.prog 26 Try.f26 := ⟨Try.func26, by kernel_rfl⟩
theorem f27_ok : FnOk Try.prog 27 Try.f27 := ⟨Try.func27, by kernel_rfl⟩
theorem f28_ok : FnOk Try.prog 28 Try.f28 := ⟨Try.func28, by kernel_rfl⟩
theorem f29_ok : FnOk Try.prog 29 Try.f29 := ⟨Try.func29, by kernel_rfl⟩
theorem f30_ok : FnOk Try.prog 30 Try.f30 := ⟨Try.func30, by kernel_rfl⟩
theorem f31_ok : FnOk Try.prog 31 Try.f31 := ⟨Try.func31, by kernel_rfl⟩
theorem f32_ok : FnOk Try.prog 32 Try.f32 := ⟨Try.func32, by kernel_rfl⟩
theorem f33_ok : FnOk Try.prog 33 Try.f33 := ⟨Try.func33, by kernel_rfl⟩
theorem f34_ok : FnOk Try.prog 34 Try.f34 := ⟨Try.func34, by kernel_rfl⟩
theorem f35_ok : FnOk Try.prog 35 Try.f35 := ⟨Try.func35, by kernel_rfl⟩
theorem f36_ok : FnOk Try.prog 36 Try.f36 := ⟨Try.func36, by kernel_rfl⟩
theorem f37_ok : FnOk Try.prog 37 Try.f37 := ⟨Try.func37, by kernel_rfl⟩
theorem f38_ok : FnOk Try.prog 38 Try.f38 := ⟨Try.func38, by kernel_rfl⟩
theorem f39_ok : FnOk Try.prog 39 Try.f39 := ⟨Try.func39, by kernel_rfl⟩
theorem f40_ok : FnOk Try.prog 40 Try.f40 := ⟨Try.func40, by kernel_rfl⟩
theorem f41_ok : FnOk Try.prog 41 Try.f41 := ⟨Try.func41, by kernel_rfl⟩
theorem f42_ok : FnOk Try.prog 42 Try.f42 := ⟨Try.func42, by kernel_rfl⟩
theorem f43_ok : FnOk Try.prog 43 Try.f43 := ⟨Try.func43, by kernel_rfl⟩
theorem f44_ok : FnOk Try.prog 44 Try.f44 := ⟨Try.func44, by kernel_rfl⟩
theorem f45_ok : FnOk Try.prog 45 Try.f45 := ⟨Try.func45, by kernel_rfl⟩
theorem f46_ok : FnOk Try.prog 46 Try.f46 := ⟨Try.func46, by kernel_rfl⟩
theorem f47_ok : FnOk Try.prog 47 Try.f47 := ⟨Try.func47, by kernel_rfl⟩
theorem f48_ok : FnOk Try.prog 48 Try.f48 := ⟨Try.func48, by kernel_rfl⟩
theorem f49_ok : FnOk Try.prog 49 Try.f49 := ⟨Try.func49, by kernel_rfl⟩
theorem f50_ok : FnOk Try.prog 50 Try.f50 := ⟨Try.func50, by kernel_rfl⟩
theorem f51_ok : FnOk Try.prog 51 Try.f51 := ⟨Try.func51, by kernel_rfl⟩
theorem f52_ok : FnOk Try.prog 52 Try.f52 := ⟨Try.func52, by kernel_rfl⟩
theorem f53_ok : FnOk Try.prog 53 Try.f53 := ⟨Try.func53, by kernel_rfl⟩
theorem f54_ok : FnOk Try.prog 54 Try.f54 := ⟨Try.func54, by kernel_rfl⟩
theorem f55_ok : FnOk Try.prog 55 Try.f55 := ⟨Try.func55, by kernel_rfl⟩
theorem f56_ok : FnOk Try.prog 56 Try.f56 := ⟨Try.func56, by kernel_rfl⟩
theorem f57_ok : FnOk Try.prog 57 Try.f57 := ⟨Try.func57, by kernel_rfl⟩
theorem f58_ok : FnOk Try.prog 58 Try.f58 := ⟨Try.func58, by kernel_rfl⟩
theorem f59_ok : FnOk Try.prog 59 Try.f59 := ⟨Try.func59, by kernel_rfl⟩
theorem f60_ok : FnOk Try.prog 60 Try.f60 := ⟨Try.func60, by kernel_rfl⟩
theorem f61_ok : FnOk Try.prog 61 Try.f61 := ⟨Try.func61, by kernel_rfl⟩
theorem f62_ok : FnOk Try.prog 62 Try.f62 := ⟨Try.func62, by kernel_rfl⟩
theorem f63_ok : FnOk Try.prog 63 Try.f63 := ⟨Try.func63, by kernel_rfl⟩
theorem f64_ok : FnOk Try.prog 64 Try.f64 := ⟨Try.func64, by kernel_rfl⟩
theorem f65_ok : FnOk Try.prog 65 Try.f65 := ⟨Try.func65, by kernel_rfl⟩
theorem f66_ok : FnOk Try.prog 66 Try.f66 := ⟨Try.func66, by kernel_rfl⟩
theorem f67_ok : FnOk Try.prog 67 Try.f67 := ⟨Try.func67, by kernel_rfl⟩
theorem f68_ok : FnOk Try.prog 68 Try.f68 := ⟨Try.func68, by kernel_rfl⟩
theorem f69_ok : FnOk Try.prog 69 Try.f69 := ⟨Try.func69, by kernel_rfl⟩
theorem f70_ok : FnOk Try.prog 70 Try.f70 := ⟨Try.func70, by kernel_rfl⟩
theorem f71_ok : FnOk Try.prog 71 Try.f71 := ⟨Try.func71, by kernel_rfl⟩
theorem f72_ok : FnOk Try.prog 72 Try.f72 := ⟨Try.func72, by kernel_rfl⟩
theorem f73_ok : FnOk Try.prog 73 Try.f73 := ⟨Try.func73, by kernel_rfl⟩
theorem f74_ok : FnOk Try.prog 74 Try.f74 := ⟨Try.func74, by kernel_rfl⟩
theorem f75_ok : FnOk Try.prog 75 Try.f75 := ⟨Try.func75, by kernel_rfl⟩
theorem f76_ok : FnOk Try.prog 76 Try.f76 := ⟨Try.func76, by kernel_rfl⟩
theorem f77_ok : FnOk Try.prog 77 Try.f77 := ⟨Try.func77, by kernel_rfl⟩
theorem f78_ok : FnOk Try.prog 78 Try.f78 := ⟨Try.func78, by kernel_rfl⟩
theorem f79_ok : FnOk Try.prog 79 Try.f79 := ⟨Try.func79, by kernel_rfl⟩
theorem f80_ok : FnOk Try.prog 80 Try.f80 := ⟨Try.func80, by kernel_rfl⟩
theorem f81_ok : FnOk Try.prog 81 Try.f81 := ⟨Try.func81, by kernel_rfl⟩
theorem f82_ok : FnOk Try.prog 82 Try.f82 := ⟨Try.func82, by kernel_rfl⟩
theorem f83_ok : FnOk Try.prog 83 Try.f83 := ⟨Try.func83, by kernel_rfl⟩
theorem f84_ok : FnOk Try.prog 84 Try.f84 := ⟨Try.func84, by kernel_rfl⟩
theorem f85_ok : FnOk Try.prog 85 Try.f85 := ⟨Try.func85, by kernel_rfl⟩
theorem f86_ok : FnOk Try.prog 86 Try.f86 := ⟨Try.func86, by kernel_rfl⟩
theorem f87_ok : FnOk Try.prog 87 Try.f87 := ⟨Try.func87, by kernel_rfl⟩
theorem f88_ok : FnOk Try.prog 88 Try.f88 := ⟨Try.func88, by kernel_rfl⟩
theorem f89_ok : FnOk Try.prog 89 Try.f89 := ⟨Try.func89, by kernel_rfl⟩
theorem f90_ok : FnOk Try.prog 90 Try.f90 := ⟨Try.func90, by kernel_rfl⟩
theorem f91_ok : FnOk Try.prog 91 Try.f91 := ⟨Try.func91, by kernel_rfl⟩
theorem f92_ok : FnOk Try.prog 92 Try.f92 := ⟨Try.func92, by kernel_rfl⟩
theorem f93_ok : FnOk Try.prog 93 Try.f93 := ⟨Try.func93, by kernel_rfl⟩
theorem f94_ok : FnOk Try.prog 94 Try.f94 := ⟨Try.func94, by kernel_rfl⟩
theorem f95_ok : FnOk Try.prog 95 Try.f95 := ⟨Try.func95, by kernel_rfl⟩
theorem f96_ok : FnOk Try.prog 96 Try.f96 := ⟨Try.func96, by kernel_rfl⟩
theorem f97_ok : FnOk Try.prog 97 Try.f97 := ⟨Try.func97, by kernel_rfl⟩
theorem f98_ok : FnOk Try.prog 98 Try.f98 := ⟨Try.func98, by kernel_rfl⟩
theorem f99_ok : FnOk Try.prog 99 Try.f99 := ⟨Try.func99, by kernel_rfl⟩
theorem f100_ok : FnOk Try.prog 100 Try.f100 := ⟨Try.func100, by kernel_rfl⟩
theorem f101_ok : FnOk Try.prog 101 Try.f101 := ⟨Try.func101, by kernel_rfl⟩
theorem f102_ok : FnOk Try.prog 102 Try.f102 := ⟨Try.func102, by kernel_rfl⟩
theorem f103_ok : FnOk Try.prog 103 Try.f103 := ⟨Try.func103, by kernel_rfl⟩
theorem f104_ok : FnOk Try.prog 104 Try.f104 := ⟨Try.func104, by kernel_rfl⟩
theorem f105_ok : FnOk Try.prog 105 Try.f105 := ⟨Try.func105, by kernel_rfl⟩
theorem f106_ok : FnOk Try.prog 106 Try.f106 := ⟨Try.func106, by kernel_rfl⟩
theorem f107_ok : FnOk Try.prog 107 Try.f107 := ⟨Try.func107, by kernel_rfl⟩
theorem f108_ok : FnOk Try.prog 108 Try.f108 := ⟨Try.func108, by kernel_rfl⟩
theorem f109_ok : FnOk Try.prog 109 Try.f109 := ⟨Try.func109, by kernel_rfl⟩
theorem f110_ok : FnOk Try.prog 110 Try.f110 := ⟨Try.func110, by kernel_rfl⟩
theorem f111_ok : FnOk Try.prog 111 Try.f111 := ⟨Try.func111, by kernel_rfl⟩
theorem f112_ok : FnOk Try.prog 112 Try.f112 := ⟨Try.func112, by kernel_rfl⟩
theorem f113_ok : FnOk Try.prog 113 Try.f113 := ⟨Try.func113, by kernel_rfl⟩
theorem f114_ok : FnOk Try.prog 114 Try.f114 := ⟨Try.func114, by kernel_rfl⟩
theorem f115_ok : FnOk Try.prog 115 Try.f115 := ⟨Try.func115, by kernel_rfl⟩
theorem f116_ok : FnOk Try.prog 116 Try.f116 := ⟨Try.func116, by kernel_rfl⟩
theorem f117_ok : FnOk Try.prog 117 Try.f117 := ⟨Try.func117, by kernel_rfl⟩
theorem f118_ok : FnOk Try.prog 118 Try.f118 := ⟨Try.func118, by kernel_rfl⟩
def g3 : Gd := Gd.int .i64
theorem o3 {N : Nat} {w0 w : World} (hN : N = w.heap.size) : Opn Try.prog N w0 w 3 g3 := Opn.int Try.underlying3
def g9 : Gd := Gd.str
theorem o9 {N : Nat} {w0 w : World} (hN : N = w.heap.size) : Opn Try.prog N w0 w 9 g9 := Opn.str Try.underlying9
def g35 : Gd := Gd.agg [g3, g9]
theorem o35 {N : Nat} {w0 w : World} (hN : N = w.heap.size) : Opn Try.prog N w0 w 35 g35 := Opn.struct Try.underlying35 (by kernel_rfl) (show OpnAll Try.prog N w0 w [(3, 0), (9, 1)] [g3, g9] from ⟨o3 hN, o9 hN, trivial⟩)
def g36 : Gd := Gd.int .u32
theorem o36 {N : Nat} {w0 w : World} (hN : N = w.heap.size) : Opn Try.prog N w0 w 36 g36 := Opn.int Try.underlying36
def g48 : Gd := Gd.row 35 2 g35
theorem o48 {N : Nat} {w0 w : World} (hN : N = w.heap.size) : Opn Try.prog N w0 w 48 g48 := Opn.slice Try.underlying48 (by kernel_rfl) (by decide) (o35 hN) hN
def g99 : Gd := Gd.agg [g3, g9]
theorem o99 {N : Nat} {w0 w : World} (hN : N = w.heap.size) : Opn Try.prog N w0 w 99 g99 := Opn.struct Try.underlying99 (by kernel_rfl) (show OpnAll Try.prog N w0 w [(3, 0), (9, 1)] [g3, g9] from ⟨o3 hN, o9 hN, trivial⟩)
def g49 : Gd := Gd.row 99 2 g99
theorem o49 {N : Nat} {w0 w : World} (hN : N = w.heap.size) : Opn Try.prog N w0 w 49 g49 := Opn.slice Try.underlying49 (by kernel_rfl) (by decide) (o99 hN) hN
def g101 : Gd := Gd.agg [g3, g3]
theorem o101 {N : Nat} {w0 w : World} (hN : N = w.heap.size) : Opn Try.prog N w0 w 101 g101 := Opn.struct Try.underlying101 (by kernel_rfl) (show OpnAll Try.prog N w0 w [(3, 0), (3, 1)] [g3, g3] from ⟨o3 hN, o3 hN, trivial⟩)
def g50 : Gd := Gd.row 101 2 g101
theorem o50 {N : Nat} {w0 w : World} (hN : N = w.heap.size) : Opn Try.prog N w0 w 50 g50 := Opn.slice Try.underlying50 (by kernel_rfl) (by decide) (o101 hN) hN
def g51 : Gd := Gd.row 36 1 g36
theorem o51 {N : Nat} {w0 w : World} (hN : N = w.heap.size) : Opn Try.prog N w0 w 51 g51 := Opn.slice Try.underlying51 (by kernel_rfl) (by decide) (o36 hN) hN
def g53 : Gd := Gd.agg [g3, g3, g36, g3, g3, g36, g9, g36, g36, g3, g3, g48, g49, g50, g51]
theorem o53 {N : Nat} {w0 w : World} (hN : N = w.heap.size) : Opn Try.prog N w0 w 53 g53 := Opn.struct Try.underlying53 (by kernel_rfl) (show OpnAll Try.prog N w0 w [(3, 0), (3, 1), (36, 2), (3, 3), (3, 4), (36, 5), (9, 6), (36, 7), (36, 8), (3, 9), (3, 10), (48, 11), (49, 12), (50, 13), (51, 14)] [g3, g3, g36, g3, g3, g36, g9, g36, g36, g3, g3, g48, g49, g50, g51] from ⟨o3 hN, o3 hN, o36 hN, o3 hN, o3 hN, o36 hN, o9 hN, o36 hN, o36 hN, o3 hN, o3 hN, o48 hN, o49 hN, o50 hN, o51 hN, trivial⟩)
noncomputable def tys : Tr TI := (.node 72 t72 (.node 36 t36 (.node 22 t22 (.node 5 t5 (.node 4 t4 (.node 3 t3 .leaf .leaf) .leaf) (.node 21 t21 (.node 9 t9 .leaf .leaf) .leaf)) (.node 28 t28 (.node 24 t24 (.node 23 t23 .leaf .leaf) .leaf) (.node 35 t35 (.node 34 t34 .leaf .leaf) .leaf))) (.node 50 t50 (.node 45 t45 (.node 44 t44 (.node 41 t41 .leaf .leaf) .leaf) (.node 49 t49 (.node 48 t48 .leaf .leaf) .leaf)) (.node 53 t53 (.node 52 t52 (.node 51 t51 .leaf .leaf) .leaf) (.node 71 t71 (.node 68 t68 .leaf .leaf) .leaf)))) (.node 103 t103 (.node 94 t94 (.node 85 t85 (.node 79 t79 (.node 73 t73 .leaf .leaf) .leaf) (.node 93 t93 (.node 92 t92 .leaf .leaf) .leaf)) (.node 100 t100 (.node 99 t99 (.node 98 t98 .leaf .leaf) .leaf) (.node 102 t102 (.node 101 t101 .leaf .leaf) .leaf))) (.node 125 t125 (.node 109 t109 (.node 108 t108 (.node 104 t104 .leaf .leaf) .leaf) (.node 121 t121 (.node 120 t120 .leaf .leaf) .leaf)) (.node 129 t129 (.node 128 t128 (.node 127 t127 .leaf .leaf) .leaf) (.node 143 t143 .leaf .leaf)))))
noncomputable def fns : Tr Func := (.node 61 Try.f61 (.node 32 Try.f32 (.node 17 Try.f17 (.node 10 Try.f10 (.node 6 Try.f6 (.node 4 Try.f4 (.node 3 Try.f3 .leaf .leaf) (.node 5 Try.f5 .leaf .leaf)) (.node 8 Try.f8 (.node 7 Try.f7 .leaf .leaf) (.node 9 Try.f9 .leaf .leaf))) (.node 14 Try.f14 (.node 12 Try.f12 (.node 11 Try.f11 .leaf .leaf) (.node 13 Try.f13 .leaf .leaf)) (.node 16 Try.f16 (.node 15 Try.f15 .leaf .leaf) .leaf))) (.node 25 Try.f25 (.node 21 Try.f21 (.node 19 Try.f19 (.node 18 Try.f18 .leaf .leaf) (.node 20 Try.f20 .leaf .leaf)) (.node 23 Try.f23 (.node 22 Try.f22 .leaf .leaf) (.node 24 Try.f24 .leaf .leaf))) (.node 29 Try.f29 (.node 27 Try.f27 (.node 26 Try.f26 .leaf .leaf) (.node 28 Try.f28 .leaf .leaf)) (.node 31 Try.f31 (.node 30 Try.f30 .leaf .leaf) .leaf)))) (.node 47 Try.f47 (.node 40 Try.f40 (.node 36 Try.f36 (.node 34 Try.f34 (.node 33 Try.f33 .leaf .leaf) (.node 35 Try.f35 .leaf .leaf)) (.node 38 Try.f38 (.node 37 Try.f37 .leaf .leaf) (.node 39 Try.f39 .leaf .leaf))) (.node 44 Try.f44 (.node 42 Try.f42 (.node 41 Try.f41 .leaf .leaf) (.node 43 Try.f43 .leaf .leaf)) (.node 46 Try.f46 (.node 45 Try.f45 .leaf .leaf) .leaf))) (.node 54 Try.f54 (.node 51 Try.f51 (.node 49 Try.f49 (.node 48 Try.f48 .leaf .leaf) (.node 50 Try.f50 .leaf .leaf)) (.node 53 Try.f53 (.node 52 Try.f52 .leaf .leaf) .leaf)) (.node 58 Try.f58 (.node 56 Try.f56 (.node 55 Try.f55 .leaf .leaf) (.node 57 Try.f57 .leaf .leaf)) (.node 60 Try.f60 (.node 59 Try.f59 .leaf .leaf) .leaf))))) (.node 90 Try.f90 (.node 76 Try.f76 (.node 69 Try.f69 (.node 65 Try.f65 (.node 63 Try.f63 (.node 62 Try.f62 .leaf .leaf) (.node 64 Try.f64 .leaf .leaf)) (.node 67 Try.f67 (.node 66 Try.f66 .leaf .leaf) (.node 68 Try.f68 .leaf .leaf))) (.node 73 Try.f73 (.node 71 Try.f71 (.node 70 Try.f70 .leaf .leaf) (.node 72 Try.f72 .leaf .leaf)) (.node 75 Try.f75 (.node 74 Try.f74 .leaf .leaf) .leaf))) (.node 83 Try.f83 (.node 80 Try.f80 (.node 78 Try.f78 (.node 77 Try.f77 .leaf .leaf) (.node 79 Try.f79 .leaf .leaf)) (.node 82 Try.f82 (.node 81 Try.f81 .leaf .leaf) .leaf)) (.node 87 Try.f87 (.node 85 Try.f85 (.node 84 Try.f84 .leaf .leaf) (.node 86 Try.f86 .leaf .leaf)) (.node 89 Try.f89 (.node 88 Try.f88 .leaf .leaf) .leaf)))) (.node 105 Try.f105 (.node 98 Try.f98 (.node 94 Try.f94 (.node 92 Try.f92 (.node 91 Try.f91 .leaf .leaf) (.node 93 Try.f93 .leaf .leaf)) (.node 96 Try.f96 (.node 95 Try.f95 .leaf .leaf) (.node 97 Try.f97 .leaf .leaf))) (.node 102 Try.f102 (.node 100 Try.f100 (.node 99 Try.f99 .leaf .leaf) (.node 101 Try.f101 .leaf .leaf)) (.node 104 Try.f104 (.node 103 Try.f103 .leaf .leaf) .leaf))) (.node 112 Try.f112 (.node 109 Try.f109 (.node 107 Try.f107 (.node 106 Try.f106 .leaf .leaf) (.node 108 Try.f108 .leaf .leaf)) (.node 111 Try.f111 (.node 110 Try.f110 .leaf .leaf) .leaf)) (.node 116 Try.f116 (.node 114 Try.f114 (.node 113 Try.f113 .leaf .leaf) (.node 115 Try.f115 .leaf .leaf)) (.node 118 Try.f118 (.node 117 Try.f117 .leaf .leaf) .leaf))))))
noncomputable def env : Env := mkEnv tys fns
theorem env_ok : EnvOk Try.prog env := mkEnv_ok (T := tys) (F := fns) ⟨t72_ok, ⟨t36_ok, ⟨t22_ok, ⟨t5_ok, ⟨t4_ok, ⟨t3_ok, trivial, trivial⟩, trivial⟩, ⟨t21_ok, ⟨t9_ok, trivial, trivial⟩, trivial⟩⟩, ⟨t28_ok, ⟨t24_ok, ⟨t23_ok, trivial, trivial⟩, trivial⟩, ⟨t35_ok, ⟨t34_ok, trivial, trivial⟩, trivial⟩⟩⟩, ⟨t50_ok, ⟨t45_ok, ⟨t44_ok, ⟨t41_ok, trivial, trivial⟩, trivial⟩, ⟨t49_ok, ⟨t48_ok, trivial, trivial⟩, trivial⟩⟩, ⟨t53_ok, ⟨t52_ok, ⟨t51_ok, trivial, trivial⟩, trivial⟩, ⟨t71_ok, ⟨t68_ok, trivial, trivial⟩, trivial⟩⟩⟩⟩, ⟨t103_ok, ⟨t94_ok, ⟨t85_ok, ⟨t79_ok, ⟨t73_ok, trivial, trivial⟩, trivial⟩, ⟨t93_ok, ⟨t92_ok, trivial, trivial⟩, trivial⟩⟩, ⟨t100_ok, ⟨t99_ok, ⟨t98_ok, trivial, trivial⟩, trivial⟩, ⟨t102_ok, ⟨t101_ok, trivial, trivial⟩, trivial⟩⟩⟩, ⟨t125_ok, ⟨t109_ok, ⟨t108_ok, ⟨t104_ok, trivial, trivial⟩, trivial⟩, ⟨t121_ok, ⟨t120_ok, trivial, trivial⟩, trivial⟩⟩, ⟨t129_ok, ⟨t128_ok, ⟨t127_ok, trivial, trivial⟩, trivial⟩, ⟨t143_ok, trivial, trivial⟩⟩⟩⟩⟩ ⟨f61_ok, ⟨f32_ok, ⟨f17_ok, ⟨f10_ok, ⟨f6_ok, ⟨f4_ok, ⟨f3_ok, trivial, trivial⟩, ⟨f5_ok, trivial, trivial⟩⟩, ⟨f8_ok, ⟨f7_ok, trivial, trivial⟩, ⟨f9_ok, trivial, trivial⟩⟩⟩, ⟨f14_ok, ⟨f12_ok, ⟨f11_ok, trivial, trivial⟩, ⟨f13_ok, trivial, trivial⟩⟩, ⟨f16_ok, ⟨f15_ok, trivial, trivial⟩, trivial⟩⟩⟩, ⟨f25_ok, ⟨f21_ok, ⟨f19_ok, ⟨f18_ok, trivial, trivial⟩, ⟨f20_ok, trivial, trivial⟩⟩, ⟨f23_ok, ⟨f22_ok, trivial, trivial⟩, ⟨f24_ok, trivial, trivial⟩⟩⟩, ⟨f29_ok, ⟨f27_ok, ⟨f26_ok, trivial, trivial⟩, ⟨f28_ok, trivial, trivial⟩⟩, ⟨f31_ok, ⟨f30_ok, trivial, trivial⟩, trivial⟩⟩⟩⟩, ⟨f47_ok, ⟨f40_ok, ⟨f36_ok, ⟨f34_ok, ⟨f33_ok, trivial, trivial⟩, ⟨f35_ok, trivial, trivial⟩⟩, ⟨f38_ok, ⟨f37_ok, trivial, trivial⟩, ⟨f39_ok, trivial, trivial⟩⟩⟩, ⟨f44_ok, ⟨f42_ok, ⟨f41_ok, trivial, trivial⟩, ⟨f43_ok, trivial, trivial⟩⟩, ⟨f46_ok, ⟨f45_ok, trivial, trivial⟩, trivial⟩⟩⟩, ⟨f54_ok, ⟨f51_ok, ⟨f49_ok, ⟨f48_ok, trivial, trivial⟩, ⟨f50_ok, trivial, trivial⟩⟩, ⟨f53_ok, ⟨f52_ok, trivial, trivial⟩, trivial⟩⟩, ⟨f58_ok, ⟨f56_ok, ⟨f55_ok, trivial, trivial⟩, ⟨f57_ok, trivial, trivial⟩⟩, ⟨f60_ok, ⟨f59_ok, trivial, trivial⟩, trivial⟩⟩⟩⟩⟩, ⟨f90_ok, ⟨f76_ok, ⟨f69_ok, ⟨f65_ok, ⟨f63_ok, ⟨f62_ok, trivial, trivial⟩, ⟨f64_ok, trivial, trivial⟩⟩, ⟨f67_ok, ⟨f66_ok, trivial, trivial⟩, ⟨f68_ok, trivial, trivial⟩⟩⟩, ⟨f73_ok, ⟨f71_ok, ⟨f70_ok, trivial, trivial⟩, ⟨f72_ok, trivial, trivial⟩⟩, ⟨f75_ok, ⟨f74_ok, trivial, trivial⟩, trivial⟩⟩⟩, ⟨f83_ok, ⟨f80_ok, ⟨f78_ok, ⟨f77_ok, trivial, trivial⟩, ⟨f79_ok, trivial, trivial⟩⟩, ⟨f82_ok, ⟨f81_ok, trivial, trivial⟩, trivial⟩⟩, ⟨f87_ok, ⟨f85_ok, ⟨f84_ok, trivial, trivial⟩, ⟨f86_ok, trivial, trivial⟩⟩, ⟨f89_ok, ⟨f88_ok, trivial, trivial⟩, trivial⟩⟩⟩⟩, ⟨f105_ok, ⟨f98_ok, ⟨f94_ok, ⟨f92_ok, ⟨f91_ok, trivial, trivial⟩, ⟨f93_ok, trivial, trivial⟩⟩, ⟨f96_ok, ⟨f95_ok, trivial, trivial⟩, ⟨f97_ok, trivial, trivial⟩⟩⟩, ⟨f102_ok, ⟨f100_ok, ⟨f99_ok, trivial, trivial⟩, ⟨f101_ok, trivial, trivial⟩⟩, ⟨f104_ok, ⟨f103_ok, trivial, trivial⟩, trivial⟩⟩⟩, ⟨f112_ok, ⟨f109_ok, ⟨f107_ok, ⟨f106_ok, trivial, trivial⟩, ⟨f108_ok, trivial, trivial⟩⟩, ⟨f111_ok, ⟨f110_ok, trivial, trivial⟩, trivial⟩⟩, ⟨f116_ok, ⟨f114_ok, ⟨f113_ok, trivial, trivial⟩, ⟨f115_ok, trivial, trivial⟩⟩, ⟨f118_ok, ⟨f117_ok, trivial, trivial⟩, trivial⟩⟩⟩⟩⟩⟩ (by kernel_rfl)
instance : Plain env := ⟨fun _ _ _ => rfl⟩
end Go.Proofs.Ytgajcmanompmcaa.Vt
/- Rd: walks through functions of the program, by the calculus; written by a program of this workplace. -/
namespace Go.Proofs.Ytgajcmanompmcaa.Vt
open Go Go.Proofs Go.Proofs.YtgajcmanompmcaaV
set_option maxRecDepth 100000
set_option linter.unusedVariables false
set_option linter.unusedSimpArgs false
set_option maxHeartbeats 8000000
def beN (l : List UInt8) : Nat := l.foldl (fun a b => a * 256 + b.toNat) 0
theorem beN_snoc (l : List UInt8) (b : UInt8) : beN (l ++ [b]) = beN l * 256 + b.toNat := by unfold beN; rw [List.foldl_append]; rfl
theorem beN_take (s : ByteArray) (i : Nat) (h : i < s.size) : beN ((L s).take (i + 1)) = beN ((L s).take i) * 256 + (s.get! i).toNat := by
  rw [List.take_add_one, L_get s i h]
  exact beN_snoc _ _
def at_ (v : ByteArray) (p k : Nat) : Nat := beN (((L v).drop p).take k)
theorem ext_all (v : ByteArray) : v.extract 0 v.size = v := by
  apply L_ext; rw [L_extract, List.drop_zero, List.take_of_length_le (by rw [L_len]; omega)]
theorem rNew {n : Nat} {σ : Store} (hd : Dom n σ) (s : ByteArray)   : CQ Try.prog noDen 49 [(.string s)] n σ (fun v n' d => ∃ i, n ≤ i ∧ i < n' ∧ v = .pointer (some ⟨i, 0, some 0⟩) ∧ d = [(i, some ⟨[[(.string (s.extract 0 s.size)), (.int .i64 0)]], 2, 121, true⟩)]) := by
 refine CQ.body (E := env) env_ok hd rfl rfl (by show _ ≤ _; exact of_decide_eq_true (by kernel_rfl)) ?_
 refine RA.sR hd env_ok <| OA.ps [(2, (.pointer none))] rfl <| OA.nil fun _ => RA.sR hd env_ok <| OA.ps [(3, (.string s))] rfl <| oP 4 (.agg ⟨[(.string s), (.int .i64 0)]⟩) rfl (by kernel_rfl) <| o1 (some 5) (.pointer (some ⟨n, 0, some 0⟩)) (n + 1) (n, some ⟨[[(.string s), (.int .i64 0)]], 2, 121, true⟩) rfl <| OA.ps [(2, (.pointer (some ⟨n, 0, some 0⟩)))] rfl <| OA.nil fun _ => ?_
 refine RA.ret env_ok ?_
 refine ⟨.inr rfl, [(.pointer (some ⟨n, 0, some 0⟩))], (resL_cons rfl resL_nil), [(n, some ⟨[[(.string s), (.int .i64 0)]], 2, 121, true⟩)], (Less.refl _ _ _), ⟨n, by omega, by omega, rfl, by rw [ext_all]⟩⟩
theorem rErr {σ : Store} (r : Nat) (s : ByteArray) (e : Int) (hr : σ r = some ⟨[[(.string s), (.int .i64 e)]], 2, 121, true⟩)  : PS Try.prog noDen 59 [(.pointer (some ⟨r, 0, some 0⟩))] σ (.int .i64 e) := by
 refine PS.body (E := env) env_ok rfl rfl (by show _ ≤ _; exact of_decide_eq_true (by kernel_rfl)) (fun n hd => ?_)
 have lhr := hd.lt hr
 refine RA.sR hd env_ok <| OA.ps [(2, (.int .i64 0))] rfl <| OA.nil fun _ => RA.seq hd <| RA.sR hd env_ok <| OA.ps [(3, (.pointer (some ⟨r, 0, some 0⟩))), (4, yF)] rfl <| OA.nil fun _ => RA.condF rfl <| RA.skip env_ok ?_
 intro _
 refine RA.sR hd env_ok <| OA.ps [(5, (.pointer (some ⟨r, 0, some 0⟩))), (6, (.pointer (some ⟨r, 0, some 0⟩))), (7, (.pointer (some ⟨r, 0, some 1⟩)))] rfl <| oL 8 (.int .i64 e) hr <| OA.ps [(2, (.int .i64 e))] rfl <| OA.nil fun _ => ?_
 refine RA.ret env_ok ?_
 exact lf (.int .i64 e) rfl
theorem rFail {n : Nat} {σ : Store} (hd : Dom n σ) (r : Nat) (s : ByteArray) (e : Int) (hr : σ r = some ⟨[[(.string s), (.int .i64 0)]], 2, 121, true⟩)  : CQ Try.prog noDen 87 [(.pointer (some ⟨r, 0, some 0⟩)), (.int .i64 e)] n σ (fun v n' d => v = .tuple #[] ∧ d = [(r, some ⟨[[(.string s), (.int .i64 e)]], 2, 121, true⟩)]) := by
 have lhr := hd.lt hr
 refine CQ.body (E := env) env_ok hd rfl rfl (by show _ ≤ _; exact of_decide_eq_true (by kernel_rfl)) ?_
 refine RA.sR hd env_ok <| OA.ps [(4, (.pointer (some ⟨r, 0, some 0⟩))), (5, yT), (6, yT), (7, (.pointer (some ⟨r, 0, some 0⟩))), (8, (.pointer (some ⟨r, 0, some 0⟩))), (9, (.pointer (some ⟨r, 0, some 1⟩)))] rfl <| oL 10 (.int .i64 0) hr <| oP 11 yT rfl (r_bin rfl rfl rfl (b_eql rfl)) <| OA.ps [(12, yT)] rfl <| OA.nil fun _ => RA.condT rfl <| RA.region env_ok <| OA.ps [(13, (.pointer (some ⟨r, 0, some 0⟩))), (14, (.int .i64 e)), (15, (.pointer (some ⟨r, 0, some 0⟩))), (16, (.pointer (some ⟨r, 0, some 1⟩)))] rfl <| o1 none yU n (r, some ⟨[[(.string s), (.int .i64 e)]], 2, 121, true⟩) (rS hr) <| OA.nil ?_
 refine ⟨.inl rfl, [], resL_nil, [(r, some ⟨[[(.string s), (.int .i64 e)]], 2, 121, true⟩)], (Less.refl _ _ _), ⟨rfl, rfl⟩⟩
theorem rFail2 {n : Nat} {σ : Store} (hd : Dom n σ) (r : Nat) (s : ByteArray) (e : Int) (hr : σ r = some ⟨[[(.string s), (.int .i64 2)]], 2, 121, true⟩)  : CQ Try.prog noDen 87 [(.pointer (some ⟨r, 0, some 0⟩)), (.int .i64 e)] n σ (fun v n' d => v = .tuple #[] ∧ d = []) := by
 have lhr := hd.lt hr
 refine CQ.body (E := env) env_ok hd rfl rfl (by show _ ≤ _; exact of_decide_eq_true (by kernel_rfl)) ?_
 refine RA.sR hd env_ok <| OA.ps [(4, (.pointer (some ⟨r, 0, some 0⟩))), (5, yT), (6, yT), (7, (.pointer (some ⟨r, 0, some 0⟩))), (8, (.pointer (some ⟨r, 0, some 0⟩))), (9, (.pointer (some ⟨r, 0, some 1⟩)))] rfl <| oL 10 (.int .i64 2) hr <| oP 11 yF rfl (r_bin rfl rfl rfl (b_eql rfl)) <| OA.ps [(12, yF)] rfl <| OA.nil fun _ => RA.condF rfl <| RA.skip env_ok ?_
 refine ⟨.inl rfl, [], resL_nil, [], (Less.refl _ _ _), ⟨rfl, rfl⟩⟩
theorem rTake {n : Nat} {σ : Store} (hd : Dom n σ) (r : Nat) (s : ByteArray) (k : Nat) (hk : k ≤ s.size) (hs : s.size < 4294967296) (hr : σ r = some ⟨[[(.string s), (.int .i64 0)]], 2, 121, true⟩)  : CQ Try.prog noDen 88 [(.pointer (some ⟨r, 0, some 0⟩)), (.int .i64 ((k : Nat) : Int))] n σ (fun v n' d => v = .string (s.extract 0 k) ∧ d = [(r, some ⟨[[(.string (s.extract k s.size)), (.int .i64 0)]], 2, 121, true⟩)]) := by
 have lhr := hd.lt hr
 refine CQ.body (E := env) env_ok hd rfl rfl (by show _ ≤ _; exact of_decide_eq_true (by kernel_rfl)) ?_
 refine RA.sR hd env_ok <| OA.ps [(4, (.string (ByteArray.mk #[])))] rfl <| OA.nil fun _ => RA.seq hd <| RA.sR hd env_ok <| OA.ps [(6, (.pointer (some ⟨r, 0, some 0⟩)))] rfl <| oC 7 (v := (.int .i64 0)) (hd.up (by omega)) rfl rfl (rErr r _ 0 hr) fun n1 hn1 => oP 8 yF rfl (r_bin rfl rfl rfl (b_neq rfl)) <| OA.ps [(9, yF), (10, (.int .i64 ((k : Nat) : Int)))] rfl ?_
 have hc1 : ¬ (((k : Nat) : Int) < 0) := fun hdd => by exfalso; omega
 refine oP 11 yF rfl (Eq.trans (r_bin rfl rfl rfl (b_lss rfl)) (dF hc1)) <| OA.ps [(12, yF), (13, yF), (14, (.int .i64 ((k : Nat) : Int))), (15, (.pointer (some ⟨r, 0, some 0⟩))), (16, (.pointer (some ⟨r, 0, some 0⟩))), (17, (.pointer (some ⟨r, 0, some 0⟩)))] rfl <| oL 18 (.string s) hr <| OA.ps [(19, (.int .i64 ((s.size : Nat) : Int)))] rfl ?_
 have hc2 : ¬ (((s.size : Nat) : Int) < ((k : Nat) : Int)) := fun hdd => by exfalso; omega
 refine oP 20 yF rfl (Eq.trans (r_bin rfl rfl rfl (b_gtr rfl)) (dF hc2)) <| OA.ps [(21, yF)] rfl <| OA.nil fun _ => RA.condF rfl <| RA.skip env_ok ?_
 intro _
 refine RA.sR hd env_ok <| OA.ps [(24, (.pointer (some ⟨r, 0, some 0⟩))), (25, (.pointer (some ⟨r, 0, some 0⟩))), (26, (.pointer (some ⟨r, 0, some 0⟩)))] rfl <| oL 27 (.string s) hr <| OA.ps [(28, (.int .i64 ((k : Nat) : Int)))] rfl <| oP 29 (.string (s.extract 0 k)) rfl (r_cut (a := 0) (b := k) rfl rfl (fun _ => rfl) (fun _ => rfl) rfl rfl rfl bound_nat (by omega) (by omega) rfl) <| OA.ps [(5, (.string (s.extract 0 k)))] rfl <| OA.nil fun _ => RA.sR hd env_ok <| OA.ps [(30, (.pointer (some ⟨r, 0, some 0⟩))), (31, (.pointer (some ⟨r, 0, some 0⟩))), (32, (.pointer (some ⟨r, 0, some 0⟩))), (33, (.pointer (some ⟨r, 0, some 0⟩)))] rfl <| oL 34 (.string s) hr <| OA.ps [(35, (.int .i64 ((k : Nat) : Int)))] rfl ?_
 refine oP 36 (.string (s.extract k s.size)) rfl (r_cut (a := k) (b := s.size) rfl rfl (fun _ => rfl) (fun _ => rfl) rfl rfl bound_nat rfl (by omega) (by omega) rfl) <| OA.ps [(37, (.pointer (some ⟨r, 0, some 0⟩))), (38, (.pointer (some ⟨r, 0, some 0⟩)))] rfl <| o1 none yU n1 (r, some ⟨[[(.string (s.extract k s.size)), (.int .i64 0)]], 2, 121, true⟩) (rS hr) <| OA.nil fun _ => RA.rb [(0, (.pointer (some ⟨r, 0, some 0⟩))), (1, (.int .i64 ((k : Nat) : Int))), (4, (.string (ByteArray.mk #[]))), (5, (.string (s.extract 0 k))), (21, yF)] rfl (fun τr2 => ?_)
 refine RA.sR hd env_ok <| OA.ps [(39, (.string (s.extract 0 k))), (4, (.string (s.extract 0 k)))] rfl <| OA.nil fun _ => ?_
 refine RA.ret env_ok ?_
 refine ⟨.inr rfl, [(.string (s.extract 0 k))], (resL_cons rfl resL_nil), [(r, some ⟨[[(.string (s.extract k s.size)), (.int .i64 0)]], 2, 121, true⟩)], (Less.refl _ _ _), ⟨rfl, rfl⟩⟩
theorem rTakeS {n : Nat} {σ : Store} (hd : Dom n σ) (r : Nat) (s : ByteArray) (k : Nat) (hk : ¬ k ≤ s.size) (hr : σ r = some ⟨[[(.string s), (.int .i64 0)]], 2, 121, true⟩)  : CQ Try.prog noDen 88 [(.pointer (some ⟨r, 0, some 0⟩)), (.int .i64 ((k : Nat) : Int))] n σ (fun v n' d => v = .string (ByteArray.mk #[]) ∧ d = [(r, some ⟨[[(.string s), (.int .i64 2)]], 2, 121, true⟩)]) := by
 have lhr := hd.lt hr
 refine CQ.body (E := env) env_ok hd rfl rfl (by show _ ≤ _; exact of_decide_eq_true (by kernel_rfl)) ?_
 refine RA.sR hd env_ok <| OA.ps [(4, (.string (ByteArray.mk #[])))] rfl <| OA.nil fun _ => RA.seq hd <| RA.sR hd env_ok <| OA.ps [(6, (.pointer (some ⟨r, 0, some 0⟩)))] rfl <| oC 7 (v := (.int .i64 0)) (hd.up (by omega)) rfl rfl (rErr r _ 0 hr) fun n1 hn1 => oP 8 yF rfl (r_bin rfl rfl rfl (b_neq rfl)) <| OA.ps [(9, yF), (10, (.int .i64 ((k : Nat) : Int)))] rfl ?_
 have hc1 : ¬ (((k : Nat) : Int) < 0) := fun hdd => by exfalso; omega
 refine oP 11 yF rfl (Eq.trans (r_bin rfl rfl rfl (b_lss rfl)) (dF hc1)) <| OA.ps [(12, yF), (13, yF), (14, (.int .i64 ((k : Nat) : Int))), (15, (.pointer (some ⟨r, 0, some 0⟩))), (16, (.pointer (some ⟨r, 0, some 0⟩))), (17, (.pointer (some ⟨r, 0, some 0⟩)))] rfl <| oL 18 (.string s) hr <| OA.ps [(19, (.int .i64 ((s.size : Nat) : Int)))] rfl ?_
 have hc2 : ((s.size : Nat) : Int) < ((k : Nat) : Int) := Classical.byContradiction (fun hdd => by exfalso; omega)
 refine oP 20 yT rfl (Eq.trans (r_bin rfl rfl rfl (b_gtr rfl)) (dT hc2)) <| OA.ps [(21, yT)] rfl <| OA.nil fun _ => RA.condT rfl <| RA.sR hd env_ok <| OA.ps [(22, (.pointer (some ⟨r, 0, some 0⟩)))] rfl ?_
 refine OA.call (dst := (some 23)) (all := [(.pointer (some ⟨r, 0, some 0⟩)), (.int .i64 2)]) rfl rfl rfl rfl rfl rfl rfl rfl (CQ.imp (rFail (hd.up (by omega)) r _ 2 hr) ?_)
 rintro _ n2 _ ⟨rfl, rfl⟩ hn2
 refine OA.app1 ?_
 refine OA.nil fun _ => RA.sR hd env_ok <| OA.ps [(4, (.string (ByteArray.mk #[])))] rfl <| OA.nil fun _ => ?_
 refine RA.ret env_ok ?_
 refine ⟨.inr rfl, [(.string (ByteArray.mk #[]))], (resL_cons rfl resL_nil), [(r, some ⟨[[(.string s), (.int .i64 2)]], 2, 121, true⟩)], (Less.refl _ _ _), ⟨rfl, rfl⟩⟩
theorem rTakeD {n : Nat} {σ : Store} (hd : Dom n σ) (r : Nat) (s : ByteArray) (k : Nat) (hr : σ r = some ⟨[[(.string s), (.int .i64 2)]], 2, 121, true⟩)  : CQ Try.prog noDen 88 [(.pointer (some ⟨r, 0, some 0⟩)), (.int .i64 ((k : Nat) : Int))] n σ (fun v n' d => v = .string (ByteArray.mk #[]) ∧ d = []) := by
 have lhr := hd.lt hr
 refine CQ.body (E := env) env_ok hd rfl rfl (by show _ ≤ _; exact of_decide_eq_true (by kernel_rfl)) ?_
 refine RA.sR hd env_ok <| OA.ps [(4, (.string (ByteArray.mk #[])))] rfl <| OA.nil fun _ => RA.seq hd <| RA.sR hd env_ok <| OA.ps [(6, (.pointer (some ⟨r, 0, some 0⟩)))] rfl <| oC 7 (v := (.int .i64 2)) (hd.up (by omega)) rfl rfl (rErr r _ 2 hr) fun n1 hn1 => oP 8 yT rfl (r_bin rfl rfl rfl (b_neq rfl)) <| OA.ps [(9, yT)] rfl <| OA.offs 10 2 rfl <| OA.ps [(12, yT), (13, yT)] rfl ?_
 refine OA.offs 14 7 rfl <| OA.ps [(21, yT)] rfl <| OA.nil fun _ => RA.condT rfl <| RA.sR hd env_ok <| OA.ps [(22, (.pointer (some ⟨r, 0, some 0⟩)))] rfl ?_
 refine OA.call (dst := (some 23)) (all := [(.pointer (some ⟨r, 0, some 0⟩)), (.int .i64 2)]) rfl rfl rfl rfl rfl rfl rfl rfl (CQ.imp (rFail2 (hd.up (by omega)) r _ 2 hr) ?_)
 rintro _ n2 _ ⟨rfl, rfl⟩ hn2
 refine OA.app0 ?_
 refine OA.nil fun _ => RA.sR hd env_ok <| OA.ps [(4, (.string (ByteArray.mk #[])))] rfl <| OA.nil fun _ => ?_
 refine RA.ret env_ok ?_
 refine ⟨.inr rfl, [(.string (ByteArray.mk #[]))], (resL_cons rfl resL_nil), [], (Less.refl _ _ _), ⟨rfl, rfl⟩⟩
theorem rNum {n : Nat} {σ : Store} (hd : Dom n σ) (r : Nat) (s : ByteArray) (k : Nat) (hk : k ≤ s.size) (hk8 : k ≤ 8) (hs : s.size < 4294967296) (hr : σ r = some ⟨[[(.string s), (.int .i64 0)]], 2, 121, true⟩)  : CQ Try.prog noDen 93 [(.pointer (some ⟨r, 0, some 0⟩)), (.int .i64 ((k : Nat) : Int))] n σ (fun v n' d => v = .int .u64 ((beN ((L s).take k) : Nat) : Int) ∧ d = [(r, some ⟨[[(.string (s.extract k s.size)), (.int .i64 0)]], 2, 121, true⟩)]) := by
 have lhr := hd.lt hr
 refine CQ.body (E := env) env_ok hd rfl rfl (by show _ ≤ _; exact of_decide_eq_true (by kernel_rfl)) ?_
 refine RA.sR hd env_ok <| OA.ps [(4, (.int .u64 0))] rfl <| OA.nil fun _ => RA.sR hd env_ok <| OA.ps [(5, (.int .u64 0))] rfl <| OA.nil fun _ => RA.sR hd env_ok <| OA.ps [(8, (.pointer (some ⟨r, 0, some 0⟩))), (9, (.int .i64 ((k : Nat) : Int)))] rfl ?_
 refine OA.call (dst := (some 10)) (all := [(.pointer (some ⟨r, 0, some 0⟩)), (.int .i64 ((k : Nat) : Int))]) rfl rfl rfl rfl rfl rfl rfl rfl (CQ.imp (rTake (hd.up (by omega)) r s k hk hs hr) ?_)
 rintro _ n1 _ ⟨rfl, rfl⟩ hn1
 refine OA.app1 ?_
 refine OA.ps [(6, (.string (s.extract 0 k)))] rfl <| OA.nil fun _ => RA.seq hd <| RA.sR hd env_ok <| OA.ps [(11, (.string (s.extract 0 k))), (12, (.int .i64 (((s.extract 0 k).size : Nat) : Int))), (13, (.int .i64 0))] rfl <| OA.nil fun _ => RA.block ?_
 have hks : (s.extract 0 k).size = k := by rw [size_cut _ _ _ hk]; rfl
 refine RA.loop hd (fun kk_ τ n' D => ∃ i : Nat, ∃ m : Nat,  kk_ = (k - i) ∧ n1 ≤ n' ∧ Has τ [(5, (.int .u64 ((m : Nat) : Int))), (6, (.string (s.extract 0 k))), (12, (.int .i64 (((s.extract 0 k).size : Nat) : Int))), (13, (.int .i64 ((i : Nat) : Int)))] ∧ D = [(r, some ⟨[[(.string (s.extract k s.size)), (.int .i64 0)]], 2, 121, true⟩)] ∧ (∀ i ∈ keys D, i < n') ∧ i ≤ k ∧ m = beN ((L (s.extract 0 k)).take i) ∧ m < 256 ^ i) ((k - 0)) ⟨0, 0, rfl, by omega, ⟨rfl, rfl, rfl, rfl, trivial⟩, rfl, (kb1 (by omega)), ⟨by omega, rfl, by decide⟩⟩ ?_
 rintro kn2 τ2 n2 _ ⟨i, m, rfl, hn2, hHn2, rfl, hKn2, hIn2⟩
 rw [Has.eq hHn2]
 have hKn2_0 := kk0 hKn2
 simp only [keys, List.map, List.forall_mem_cons, List.mem_cons, List.not_mem_nil, false_imp_iff, implies_true, and_true] at hKn2
 obtain ⟨hi, hm, hb⟩ := hIn2
 have hb2 : i < k → m < 72057594037927936 := fun h => Nat.lt_of_lt_of_le hb (Nat.pow_le_pow_right (n := 256) (j := 7) (by decide) (by omega))
 refine RA.sR hd env_ok ?_
 by_cases hc1 : ((i : Nat) : Int) < (((s.extract 0 k).size : Nat) : Int)
 ·
  refine oP 14 yT rfl (Eq.trans (r_bin rfl rfl rfl (b_lss rfl)) (dT hc1)) <| OA.nil fun _ => RA.seq hd <| RA.condT rfl <| RA.skip env_ok ?_
  intro _
  refine RA.seq hd <| RA.block <| RA.sR hd env_ok <| OA.ps [(15, (.int .i64 ((i : Nat) : Int))), (7, (.int .i64 ((i : Nat) : Int)))] rfl <| OA.nil fun _ => RA.region env_ok <| OA.ps [(16, (.int .u64 ((m : Nat) : Int)))] rfl <| oP 17 (.int .u64 (((m * 256) : Nat) : Int)) rfl (r_bin rfl rfl rfl (b_shl8 (a := m) (by omega))) <| OA.ps [(18, (.string (s.extract 0 k))), (19, (.int .i64 ((i : Nat) : Int)))] rfl <| oP 20 (.int .u8 (((s.extract 0 k).get! i).toNat : Nat)) rfl (r_idxS (l := i) rfl rfl rfl rfl rfl (by omega) (by omega)) <| oP 21 (.int .u64 ((((s.extract 0 k).get! i).toNat : Nat) : Int)) rfl (r_cvt rfl rfl rfl rfl rfl ⟨_, rfl⟩ (u64_eq (by have := UInt8.toNat_lt ((s.extract 0 k).get! i); omega))) ?_
  refine oP 22 (.int .u64 (((m * 256 + ((s.extract 0 k).get! i).toNat) : Nat) : Int)) rfl (r_bin rfl rfl rfl (b_or8 (a := m) (c := ((s.extract 0 k).get! i).toNat) (by omega) (UInt8.toNat_lt _))) <| OA.ps [(5, (.int .u64 (((m * 256 + ((s.extract 0 k).get! i).toNat) : Nat) : Int)))] rfl <| OA.nil fun _ => RA.region env_ok <| oP 23 (.int .i64 (((i + 1) : Nat) : Int)) rfl (r_bin rfl rfl rfl (b_add (i64_eq (by omega)))) <| OA.ps [(13, (.int .i64 (((i + 1) : Nat) : Int)))] rfl <| OA.nil ?_
  refine ⟨(k - (i + 1)), by omega, [(r, some ⟨[[(.string (s.extract k s.size)), (.int .i64 0)]], 2, 121, true⟩)], (Less.refl _ _ _), (i + 1), (m * 256 + ((s.extract 0 k).get! i).toNat), rfl, by omega, ⟨rfl, rfl, rfl, rfl, trivial⟩, rfl, (kb1 (by omega)), ⟨by omega, by rw [beN_take _ _ (by omega), hm], by have := UInt8.toNat_lt ((s.extract 0 k).get! i); rw [Nat.pow_succ]; omega⟩⟩
 ·
  refine oP 14 yF rfl (Eq.trans (r_bin rfl rfl rfl (b_lss rfl)) (dF hc1)) <| OA.nil fun _ => RA.seq hd <| RA.condF rfl ?_
  refine RA.exit env_ok ?_
  intro _
  refine RA.sR hd env_ok <| OA.ps [(24, (.int .u64 ((m : Nat) : Int))), (4, (.int .u64 ((m : Nat) : Int)))] rfl <| OA.nil fun _ => ?_
  refine RA.ret env_ok ?_
  refine ⟨.inr rfl, [(.int .u64 ((m : Nat) : Int))], (resL_cons rfl resL_nil), [(r, some ⟨[[(.string (s.extract k s.size)), (.int .i64 0)]], 2, 121, true⟩)], (Less.refl _ _ _), ⟨by rw [one, hm, show i = k from by omega, List.take_of_length_le (by rw [L_len]; omega), L_extract, List.drop_zero]; rfl, rfl⟩⟩
theorem rNumS {n : Nat} {σ : Store} (hd : Dom n σ) (r : Nat) (s : ByteArray) (k : Nat) (hk : ¬ k ≤ s.size) (hr : σ r = some ⟨[[(.string s), (.int .i64 0)]], 2, 121, true⟩)  : CQ Try.prog noDen 93 [(.pointer (some ⟨r, 0, some 0⟩)), (.int .i64 ((k : Nat) : Int))] n σ (fun v n' d => v = .int .u64 0 ∧ d = [(r, some ⟨[[(.string s), (.int .i64 2)]], 2, 121, true⟩)]) := by
 have lhr := hd.lt hr
 refine CQ.body (E := env) env_ok hd rfl rfl (by show _ ≤ _; exact of_decide_eq_true (by kernel_rfl)) ?_
 refine RA.sR hd env_ok <| OA.ps [(4, (.int .u64 0))] rfl <| OA.nil fun _ => RA.sR hd env_ok <| OA.ps [(5, (.int .u64 0))] rfl <| OA.nil fun _ => RA.sR hd env_ok <| OA.ps [(8, (.pointer (some ⟨r, 0, some 0⟩))), (9, (.int .i64 ((k : Nat) : Int)))] rfl ?_
 refine OA.call (dst := (some 10)) (all := [(.pointer (some ⟨r, 0, some 0⟩)), (.int .i64 ((k : Nat) : Int))]) rfl rfl rfl rfl rfl rfl rfl rfl (CQ.imp (rTakeS (hd.up (by omega)) r s k hk hr) ?_)
 rintro _ n1 _ ⟨rfl, rfl⟩ hn1
 refine OA.app1 ?_
 refine OA.ps [(6, (.string (ByteArray.mk #[])))] rfl <| OA.nil fun _ => RA.seq hd <| RA.sR hd env_ok <| OA.ps [(11, (.string (ByteArray.mk #[])))] rfl <| oP 12 (.int .i64 0) rfl (Eq.trans (show _ = some (Value.int .i64 (((ByteArray.mk #[]).size : Nat) : Int), _, []) from rfl) (by rw [show (ByteArray.mk #[]).size = 0 from rfl] <;> rfl)) <| OA.ps [(13, (.int .i64 0))] rfl <| OA.nil fun _ => RA.block ?_
 refine RA.unroll hd ?_
 refine RA.sR hd env_ok <| oP 14 yF rfl (r_bin rfl rfl rfl (b_lss rfl)) <| OA.nil fun _ => RA.seq hd <| RA.condF rfl ?_
 refine RA.exit env_ok ?_
 intro _
 refine RA.sR hd env_ok <| OA.ps [(24, (.int .u64 0)), (4, (.int .u64 0))] rfl <| OA.nil fun _ => ?_
 refine RA.ret env_ok ?_
 refine ⟨.inr rfl, [(.int .u64 0)], (resL_cons rfl resL_nil), [(r, some ⟨[[(.string s), (.int .i64 2)]], 2, 121, true⟩)], (Less.refl _ _ _), ⟨rfl, rfl⟩⟩
theorem rNumD {n : Nat} {σ : Store} (hd : Dom n σ) (r : Nat) (s : ByteArray) (k : Nat)  (hr : σ r = some ⟨[[(.string s), (.int .i64 2)]], 2, 121, true⟩)  : CQ Try.prog noDen 93 [(.pointer (some ⟨r, 0, some 0⟩)), (.int .i64 ((k : Nat) : Int))] n σ (fun v n' d => v = .int .u64 0 ∧ d = []) := by
 have lhr := hd.lt hr
 refine CQ.body (E := env) env_ok hd rfl rfl (by show _ ≤ _; exact of_decide_eq_true (by kernel_rfl)) ?_
 refine RA.sR hd env_ok <| OA.ps [(4, (.int .u64 0))] rfl <| OA.nil fun _ => RA.sR hd env_ok <| OA.ps [(5, (.int .u64 0))] rfl <| OA.nil fun _ => RA.sR hd env_ok <| OA.ps [(8, (.pointer (some ⟨r, 0, some 0⟩))), (9, (.int .i64 ((k : Nat) : Int)))] rfl ?_
 refine OA.call (dst := (some 10)) (all := [(.pointer (some ⟨r, 0, some 0⟩)), (.int .i64 ((k : Nat) : Int))]) rfl rfl rfl rfl rfl rfl rfl rfl (CQ.imp (rTakeD (hd.up (by omega)) r s k hr) ?_)
 rintro _ n1 _ ⟨rfl, rfl⟩ hn1
 refine OA.app0 ?_
 refine OA.ps [(6, (.string (ByteArray.mk #[])))] rfl <| OA.nil fun _ => RA.seq hd <| RA.sR hd env_ok <| OA.ps [(11, (.string (ByteArray.mk #[])))] rfl <| oP 12 (.int .i64 0) rfl (Eq.trans (show _ = some (Value.int .i64 (((ByteArray.mk #[]).size : Nat) : Int), _, []) from rfl) (by rw [show (ByteArray.mk #[]).size = 0 from rfl] <;> rfl)) <| OA.ps [(13, (.int .i64 0))] rfl <| OA.nil fun _ => RA.block ?_
 refine RA.unroll hd ?_
 refine RA.sR hd env_ok <| oP 14 yF rfl (r_bin rfl rfl rfl (b_lss rfl)) <| OA.nil fun _ => RA.seq hd <| RA.condF rfl ?_
 refine RA.exit env_ok ?_
 intro _
 refine RA.sR hd env_ok <| OA.ps [(24, (.int .u64 0)), (4, (.int .u64 0))] rfl <| OA.nil fun _ => ?_
 refine RA.ret env_ok ?_
 refine ⟨.inr rfl, [(.int .u64 0)], (resL_cons rfl resL_nil), [], (Less.refl _ _ _), ⟨rfl, rfl⟩⟩
theorem rU16D {n : Nat} {σ : Store} (hd : Dom n σ) (r : Nat) (s : ByteArray) (p : Nat)  (hr : σ r = some ⟨[[(.string s), (.int .i64 2)]], 2, 121, true⟩)  : CQ Try.prog noDen 61 [(.pointer (some ⟨r, 0, some 0⟩))] n σ (fun v n' d => v = .int .i64 0 ∧ d = []) := by
 have lhr := hd.lt hr
 refine CQ.body (E := env) env_ok hd rfl rfl (by show _ ≤ _; exact of_decide_eq_true (by kernel_rfl)) ?_
 refine RA.sR hd env_ok <| OA.ps [(2, (.int .i64 0))] rfl <| OA.nil fun _ => RA.sR hd env_ok <| OA.ps [(3, (.pointer (some ⟨r, 0, some 0⟩)))] rfl ?_
 refine OA.call (dst := (some 4)) (all := [(.pointer (some ⟨r, 0, some 0⟩)), (.int .i64 2)]) rfl rfl rfl rfl rfl rfl rfl rfl (CQ.imp (rNumD (hd.up (by omega)) r s 2 hr) ?_)
 rintro _ n1 _ ⟨rfl, rfl⟩ hn1
 refine OA.app0 ?_
 refine OA.ps [(5, (.int .i64 0)), (2, (.int .i64 0))] rfl <| OA.nil fun _ => ?_
 refine RA.ret env_ok ?_
 refine ⟨.inr rfl, [(.int .i64 0)], (resL_cons rfl resL_nil), [], (Less.refl _ _ _), ⟨rfl, rfl⟩⟩
theorem rEnd {n : Nat} {σ : Store} (hd : Dom n σ) (r : Nat) (s : ByteArray) (hz : s.size = 0) (hr : σ r = some ⟨[[(.string s), (.int .i64 0)]], 2, 121, true⟩)  : CQ Try.prog noDen 51 [(.pointer (some ⟨r, 0, some 0⟩))] n σ (fun v n' d => v = .int .i64 0 ∧ d = []) := by
 have lhr := hd.lt hr
 refine CQ.body (E := env) env_ok hd rfl rfl (by show _ ≤ _; exact of_decide_eq_true (by kernel_rfl)) ?_
 refine RA.sR hd env_ok <| OA.ps [(2, (.int .i64 0))] rfl <| OA.nil fun _ => RA.seq hd <| RA.sR hd env_ok <| OA.ps [(3, (.pointer (some ⟨r, 0, some 0⟩)))] rfl <| oC 4 (v := (.int .i64 0)) (hd.up (by omega)) rfl rfl (rErr r _ 0 hr) fun n1 hn1 => oP 5 yT rfl (r_bin rfl rfl rfl (b_eql rfl)) <| OA.ps [(6, yT), (7, (.pointer (some ⟨r, 0, some 0⟩))), (8, (.pointer (some ⟨r, 0, some 0⟩))), (9, (.pointer (some ⟨r, 0, some 0⟩)))] rfl <| oL 10 (.string s) hr <| OA.ps [(11, (.int .i64 ((s.size : Nat) : Int)))] rfl ?_
 have hc1 : ¬ (0 < ((s.size : Nat) : Int)) := fun hdd => by exfalso; omega
 refine oP 12 yF rfl (Eq.trans (r_bin rfl rfl rfl (b_gtr rfl)) (dF hc1)) <| OA.ps [(13, yF)] rfl <| OA.nil fun _ => RA.condF rfl <| RA.skip env_ok ?_
 intro _
 refine RA.sR hd env_ok <| OA.ps [(16, (.pointer (some ⟨r, 0, some 0⟩)))] rfl <| oC 17 (v := (.int .i64 0)) (hd.up (by omega)) rfl rfl (rErr r _ 0 hr) fun n2 hn2 => OA.ps [(2, (.int .i64 0))] rfl <| OA.nil fun _ => ?_
 refine RA.ret env_ok ?_
 refine ⟨.inr rfl, [(.int .i64 0)], (resL_cons rfl resL_nil), [], (Less.refl _ _ _), ⟨rfl, rfl⟩⟩
end Go.Proofs.Ytgajcmanompmcaa.Vt
/- Rp: walks through functions of the program, by the calculus; written by a program of this workplace. -/
namespace Go.Proofs.Ytgajcmanompmcaa.Vt
open Go Go.Proofs Go.Proofs.YtgajcmanompmcaaV
set_option maxRecDepth 100000
set_option linter.unusedVariables false
set_option linter.unusedSimpArgs false
set_option maxHeartbeats 8000000
def be4 (x : BitVec 32) : List UInt8 := [UInt8.ofNat (x >>> 24).toNat, UInt8.ofNat (x >>> 16).toNat, UInt8.ofNat (x >>> 8).toNat, UInt8.ofNat x.toNat]
theorem be4_len (x : BitVec 32) : (be4 x).length = 4 := rfl
theorem beN_be4 (x : BitVec 32) : beN (be4 x) = x.toNat := by
  have h := x.isLt
  simp only [beN, be4, List.foldl, BitVec.toNat_ushiftRight, Nat.shiftRight_eq_div_pow, UInt8.toNat_ofNat']
  omega
def be2 (m : Nat) : List UInt8 := [UInt8.ofNat (m / 256), UInt8.ofNat m]
theorem be2_len (m : Nat) : (be2 m).length = 2 := rfl
theorem beN_be2 (m : Nat) (h : m < 65536) : beN (be2 m) = m := by
  simp only [beN, be2, List.foldl, UInt8.toNat_ofNat']
  omega
theorem beN_inj : ∀ (k : Nat) (l m : List UInt8), l.length = k → m.length = k → beN l = beN m → l = m := by
  intro k
  induction k with
  | zero => intro l m h1 h2 _; rw [List.length_eq_zero_iff.1 h1, List.length_eq_zero_iff.1 h2]
  | succ k ih =>
    intro l m h1 h2 h
    have hl : l ≠ [] := fun e => by rw [e] at h1; cases h1
    have hm : m ≠ [] := fun e => by rw [e] at h2; cases h2
    rw [← List.dropLast_concat_getLast hl, ← List.dropLast_concat_getLast hm] at h ⊢
    rw [beN_snoc, beN_snoc] at h
    have a1 := UInt8.toNat_lt (l.getLast hl)
    have a2 := UInt8.toNat_lt (m.getLast hm)
    have e1 : (l.getLast hl).toNat = (m.getLast hm).toNat := by omega
    have e2 : beN l.dropLast = beN m.dropLast := by omega
    rw [UInt8.toNat_inj.1 e1, ih _ _ (by rw [List.length_dropLast]; omega) (by rw [List.length_dropLast]; omega) e2]
def putL (m : Nat) : Nat → List UInt8
  | 0 => []
  | k + 1 => putL (m / 256) k ++ [UInt8.ofNat (m % 256)]
theorem putL_len : ∀ (k m : Nat), (putL m k).length = k
  | 0, _ => rfl
  | k + 1, m => by simp [putL, putL_len k]
theorem beN_putL : ∀ (k m : Nat), m < 256 ^ k → beN (putL m k) = m
  | 0, m, h => by simp at h; subst h; rfl
  | k + 1, m, h => by
    rw [putL, beN_snoc, beN_putL k (m / 256) (by rw [Nat.pow_succ] at h; omega), UInt8.toNat_ofNat']
    omega
theorem sU32 {σ : Store} (x : BitVec 32)   : PS Try.prog noDen 62 [(W x)] σ (.string (bstr (be4 x))) := by
 refine PS.body (E := env) env_ok rfl rfl (by show _ ≤ _; exact of_decide_eq_true (by kernel_rfl)) (fun n hd => ?_)
 refine RA.sR hd env_ok <| OA.ps [(2, (.string (ByteArray.mk #[])))] rfl <| OA.nil fun _ => RA.sR hd env_ok <| OA.ps [(3, (W x))] rfl <| oP 4 (W (x >>> 24)) rfl (r_bin rfl rfl rfl (b_shrW _ (s := 24) (by omega))) <| oP 5 (.int .u8 (((UInt8.ofNat ((x >>> 24)).toNat).toNat : Nat) : Int)) rfl (r_cvt rfl rfl rfl rfl rfl ⟨_, rfl⟩ (wrap_u8n _)) <| OA.ps [(6, (W x))] rfl <| oP 7 (W (x >>> 16)) rfl (r_bin rfl rfl rfl (b_shrW _ (s := 16) (by omega))) <| oP 8 (.int .u8 (((UInt8.ofNat ((x >>> 16)).toNat).toNat : Nat) : Int)) rfl (r_cvt rfl rfl rfl rfl rfl ⟨_, rfl⟩ (wrap_u8n _)) <| OA.ps [(9, (W x))] rfl ?_
 refine oP 10 (W (x >>> 8)) rfl (r_bin rfl rfl rfl (b_shrW _ (s := 8) (by omega))) <| oP 11 (.int .u8 (((UInt8.ofNat ((x >>> 8)).toNat).toNat : Nat) : Int)) rfl (r_cvt rfl rfl rfl rfl rfl ⟨_, rfl⟩ (wrap_u8n _)) <| OA.ps [(12, (W x))] rfl <| oP 13 (.int .u8 (((UInt8.ofNat (x).toNat).toNat : Nat) : Int)) rfl (r_cvt rfl rfl rfl rfl rfl ⟨_, rfl⟩ (wrap_u8n _)) <| o1 (some 14) (.slice (some ⟨n, 0, none⟩) 4 0) (n + 1) (n, some ⟨(bc [(UInt8.ofNat ((x >>> 24)).toNat), (UInt8.ofNat ((x >>> 16)).toNat), (UInt8.ofNat ((x >>> 8)).toNat), (UInt8.ofNat (x).toNat)]), 1, 5, true⟩) (by kernel_rfl) <| oP 15 (.string (bstr (([(UInt8.ofNat ((x >>> 24)).toNat), (UInt8.ofNat ((x >>> 16)).toNat), (UInt8.ofNat ((x >>> 8)).toNat), (UInt8.ofNat (x).toNat)].drop 0).take 4))) rfl (r_b2s rfl rfl rfl rfl rfl rfl rfl rfl get_here (by rw [show ([(UInt8.ofNat ((x >>> 24)).toNat), (UInt8.ofNat ((x >>> 16)).toNat), (UInt8.ofNat ((x >>> 8)).toNat), (UInt8.ofNat (x).toNat)] : List UInt8).length = 4 from rfl]; omega)) <| OA.ps [(2, (.string (bstr (([(UInt8.ofNat ((x >>> 24)).toNat), (UInt8.ofNat ((x >>> 16)).toNat), (UInt8.ofNat ((x >>> 8)).toNat), (UInt8.ofNat (x).toNat)].drop 0).take 4))))] rfl <| OA.nil fun _ => ?_
 refine RA.ret env_ok ?_
 exact lf (.string (bstr (([(UInt8.ofNat ((x >>> 24)).toNat), (UInt8.ofNat ((x >>> 16)).toNat), (UInt8.ofNat ((x >>> 8)).toNat), (UInt8.ofNat (x).toNat)].drop 0).take 4))) rfl
theorem sU16 {σ : Store} (m : Nat) (hm : m < 65536)   : PS Try.prog noDen 55 [(.int .i64 ((m : Nat) : Int))] σ (.string (bstr (be2 m))) := by
 refine PS.body (E := env) env_ok rfl rfl (by show _ ≤ _; exact of_decide_eq_true (by kernel_rfl)) (fun n hd => ?_)
 refine RA.sR hd env_ok <| OA.ps [(2, (.string (ByteArray.mk #[])))] rfl <| OA.nil fun _ => RA.sR hd env_ok <| OA.ps [(3, (.int .i64 ((m : Nat) : Int)))] rfl <| oP 4 (.int .i64 (((m / 256) : Nat) : Int)) rfl (r_bin rfl rfl rfl (b_shrN (a := m) (c := 8) (D := 256) (by decide))) <| oP 5 (.int .u8 (((UInt8.ofNat (m / 256)).toNat : Nat) : Int)) rfl (r_cvt rfl rfl rfl rfl rfl ⟨_, rfl⟩ (wrap_u8n _)) <| OA.ps [(6, (.int .i64 ((m : Nat) : Int)))] rfl <| oP 7 (.int .u8 (((UInt8.ofNat m).toNat : Nat) : Int)) rfl (r_cvt rfl rfl rfl rfl rfl ⟨_, rfl⟩ (wrap_u8n _)) <| o1 (some 8) (.slice (some ⟨n, 0, none⟩) 2 0) (n + 1) (n, some ⟨(bc [(UInt8.ofNat (m / 256)), (UInt8.ofNat m)]), 1, 5, true⟩) (by kernel_rfl) <| oP 9 (.string (bstr (([(UInt8.ofNat (m / 256)), (UInt8.ofNat m)].drop 0).take 2))) rfl (r_b2s rfl rfl rfl rfl rfl rfl rfl rfl get_here (by rw [show ([(UInt8.ofNat (m / 256)), (UInt8.ofNat m)] : List UInt8).length = 2 from rfl]; omega)) ?_
 refine OA.ps [(2, (.string (bstr (([(UInt8.ofNat (m / 256)), (UInt8.ofNat m)].drop 0).take 2))))] rfl <| OA.nil fun _ => ?_
 refine RA.ret env_ok ?_
 exact lf (.string (bstr (([(UInt8.ofNat (m / 256)), (UInt8.ofNat m)].drop 0).take 2))) rfl
theorem sPutz {σ : Store} (m : Nat)   : PS Try.prog noDen 22 [(.int .u64 ((m : Nat) : Int)), (.int .i64 0)] σ (.string (bstr (putL m 0))) := by
 refine PS.body (E := env) env_ok rfl rfl (by show _ ≤ _; exact of_decide_eq_true (by kernel_rfl)) (fun n hd => ?_)
 refine RA.sR hd env_ok <| OA.ps [(4, (.string (ByteArray.mk #[])))] rfl <| OA.nil fun _ => RA.seq hd <| RA.sR hd env_ok <| OA.ps [(5, (.int .i64 0))] rfl <| oP 6 yT rfl (r_bin rfl rfl rfl (b_leq rfl)) <| OA.nil fun _ => RA.condT rfl <| RA.sR hd env_ok <| OA.ps [(4, (.string (ByteArray.mk #[])))] rfl ?_
 refine OA.nil fun _ => ?_
 refine RA.ret env_ok ?_
 exact lf (.string (ByteArray.mk #[])) rfl
theorem sPut : ∀ (k m : Nat) (hm : m < 18446744073709551616) (hk : k ≤ 8) {σ : Store}, PS Try.prog noDen 22 [(.int .u64 ((m : Nat) : Int)), (.int .i64 ((k : Nat) : Int))] σ (.string (bstr (putL m k))) := by
  intro k
  induction k with
  | zero => intro m _ _ σ; exact sPutz m
  | succ k ih =>
    intro m hm hk σ
    refine PS.body (E := env) env_ok rfl rfl (by show _ ≤ _; exact of_decide_eq_true (by kernel_rfl)) (fun n hd => ?_)
    refine RA.sR hd env_ok <| OA.ps [(4, (.string (ByteArray.mk #[])))] rfl <| OA.nil fun _ => RA.seq hd <| RA.sR hd env_ok <| OA.ps [(5, (.int .i64 (((k + 1) : Nat) : Int)))] rfl ?_
    have hc1 : ¬ ((((k + 1) : Nat) : Int) ≤ 0) := fun hdd => by exfalso; omega
    refine oP 6 yF rfl (Eq.trans (r_bin rfl rfl rfl (b_leq rfl)) (dF hc1)) <| OA.nil fun _ => RA.condF rfl <| RA.skip env_ok ?_
    intro _
    refine RA.seq hd <| RA.par (md := [some [], some [], some [], some [], some [], some [], some [], some [], some [], none, some [], some []]) env_ok (hd.up (by omega)) (by kernel_rfl) <| PQ.ps [(7, (.int .u64 ((m : Nat) : Int)))] rfl <| pP 8 (.int .u64 (((m / 256) : Nat) : Int)) rfl (r_bin rfl rfl rfl (b_quoN (a := m) (c := 256) (by decide) (u64_eq (by omega)))) <| PQ.ps [(9, (.int .i64 (((k + 1) : Nat) : Int)))] rfl <| pP 10 (.int .i64 ((((k + 1) - 1) : Nat) : Int)) rfl (r_bin rfl rfl rfl (b_sub (i64_eq (by omega)))) <| pC 11 rfl rfl (ih (m / 256) (by omega) (by omega)) fun n1 hn1 => PQ.ps [(12, (.int .u64 ((m : Nat) : Int)))] rfl <| pP 13 (.int .u64 (((m % 256) : Nat) : Int)) rfl (r_bin rfl rfl rfl (b_remN (a := m) (c := 256) (by decide))) <| pP 14 (.int .u8 (((UInt8.ofNat (m % 256)).toNat : Nat) : Int)) rfl (r_cvt rfl rfl rfl rfl rfl ⟨_, rfl⟩ (wrap_u8n _)) <| PQ.op (dst := (some 15)) (v := (.slice (some ⟨n1, 0, none⟩) 1 0)) (n1 := (n1 + 1)) (d1 := [(n1, some ⟨(bc [(UInt8.ofNat (m % 256))]), 1, 5, true⟩)]) rfl rfl rfl noStore nOK (by kernel_rfl) (by omega) (kp1 (wr_new (by omega) (by omega))) ?_
    refine PQ.pure (dst := (some 16)) (v := (.string (bstr (([(UInt8.ofNat (m % 256))].drop 0).take 1)))) rfl rfl rfl _ (sA (V := [(n1, some ⟨(bc [(UInt8.ofNat (m % 256))]), 1, 5, true⟩)]) (by kernel_rfl) (by kernel_rfl)) (r_b2s rfl rfl rfl rfl rfl rfl rfl rfl get_here (by rw [show ([(UInt8.ofNat (m % 256))] : List UInt8).length = 1 from rfl]; omega)) <| pP 17 (.string ((bstr (putL (m / 256) k)) ++ (bstr (([(UInt8.ofNat (m % 256))].drop 0).take 1)))) rfl (r_cat rfl rfl rfl (by (try simp only [ByteArray.size_append, bstr_size, size_lit, List.size_toArray, List.length_cons, List.length_nil, List.length_take, List.length_drop, List.length_replicate, putL_len]); try omega)) <| PQ.ps [(4, (.string ((bstr (putL (m / 256) k)) ++ (bstr (([(UInt8.ofNat (m % 256))].drop 0).take 1)))))] rfl <| PQ.done (d := [(n1, some ⟨(bc [(UInt8.ofNat (m % 256))]), 1, 5, true⟩)]) (by kernel_rfl) fun _ => ?_
    refine RA.ret env_ok ?_
    exact lf (.string ((bstr (putL (m / 256) k)) ++ (bstr (([(UInt8.ofNat (m % 256))].drop 0).take 1)))) (by rw [one]; exact congrArg Value.string (L_ext (by rw [L_append, L_bstr, L_bstr, L_bstr]; rfl)))
   
end Go.Proofs.Ytgajcmanompmcaa.Vt
/- Ac1: walks through functions of the program, by the calculus; written by a program of this workplace. -/
namespace Go.Proofs.Ytgajcmanompmcaa.Vt
open Go Go.Proofs Go.Proofs.YtgajcmanompmcaaV
set_option maxRecDepth 100000
set_option linter.unusedVariables false
set_option linter.unusedSimpArgs false
set_option maxHeartbeats 8000000
theorem bstr_size (l : List UInt8) : (bstr l).size = l.length := by rw [← L_len, L_bstr]
theorem cut_front (l1 l2 : List UInt8) {k : Nat} (h : l1.length = k) : (bstr (l1 ++ l2)).extract 0 k = bstr l1 := by
  apply L_ext
  rw [L_extract, L_bstr, L_bstr, List.drop_zero, List.take_append_of_le_length (by omega), List.take_of_length_le (by omega)]
theorem cut_back (l1 l2 : List UInt8) {k : Nat} (h : l1.length = k) : (bstr (l1 ++ l2)).extract k (bstr (l1 ++ l2)).size = bstr l2 := by
  apply L_ext
  subst h
  rw [L_extract, L_bstr, L_bstr, bstr_size]
  simp
theorem bstr_app (a b : List UInt8) : bstr a ++ bstr b = bstr (a ++ b) := by apply L_ext; rw [L_append, L_bstr, L_bstr, L_bstr]
theorem bstr_Lr (d : ByteArray) : bstr (L d) = d := by apply L_ext; rw [L_bstr]
theorem putL_be4 (x : BitVec 32) : putL x.toNat 4 = be4 x := beN_inj 4 _ _ (putL_len 4 _) rfl ((beN_putL 4 x.toNat x.isLt).trans (beN_be4 x).symm)
theorem putL_be2 (m : Nat) (hm : m < 65536) : putL m 2 = be2 m := beN_inj 2 _ _ (putL_len 2 _) rfl ((beN_putL 2 m hm).trans (beN_be2 m hm).symm)
def fillL (l : List UInt8) : List UInt8 := l ++ List.replicate ((4 - l.length % 4) % 4) 0
def pL (t : Nat) (v : List UInt8) : List UInt8 := fillL (be2 t ++ be2 (v.length + 4) ++ v)
theorem bit_rfl (x : BitVec 32) : BitVec.ofNat 32 x.toNat = x := by simp
theorem cNum {n : Nat} {σ : Store} (hd : Dom n σ) (r : Nat) (l1 l2 : List UInt8) (k : Nat) (h1 : l1.length = k) (hk : k ≤ 8) (hs : (l1 ++ l2).length < 4294967296) (hr : σ r = some ⟨[[(.string (bstr (l1 ++ l2))), (.int .i64 0)]], 2, 121, true⟩) : CQ Try.prog noDen 93 [(Pt r 0 0), (.int .i64 ((k : Nat) : Int))] n σ (fun v n' d => v = .int .u64 ((beN l1 : Nat) : Int) ∧ d = [(r, some ⟨[[(.string (bstr l2)), (.int .i64 0)]], 2, 121, true⟩)]) := by
  refine (rNum hd r (bstr (l1 ++ l2)) k (by rw [bstr_size, List.length_append]; omega) hk (by rw [bstr_size]; exact hs) hr).imp fun v n' d h => ?_
  obtain ⟨h2, h3⟩ := h
  rw [h2, h3, L_bstr, cut_back l1 l2 h1, List.take_append_of_le_length (by omega), List.take_of_length_le (by omega)]
  exact ⟨rfl, rfl⟩
theorem cTake {n : Nat} {σ : Store} (hd : Dom n σ) (r : Nat) (l1 l2 : List UInt8) (k : Nat) (h1 : l1.length = k) (hs : (l1 ++ l2).length < 4294967296) (hr : σ r = some ⟨[[(.string (bstr (l1 ++ l2))), (.int .i64 0)]], 2, 121, true⟩) : CQ Try.prog noDen 88 [(Pt r 0 0), (.int .i64 ((k : Nat) : Int))] n σ (fun v n' d => v = .string (bstr l1) ∧ d = [(r, some ⟨[[(.string (bstr l2)), (.int .i64 0)]], 2, 121, true⟩)]) := by
  refine (rTake hd r (bstr (l1 ++ l2)) k (by rw [bstr_size, List.length_append]; omega) (by rw [bstr_size]; exact hs) hr).imp fun v n' d h => ?_
  obtain ⟨h2, h3⟩ := h
  rw [h2, h3, cut_back l1 l2 h1, cut_front l1 l2 h1]
  exact ⟨rfl, rfl⟩
theorem cU16 {n : Nat} {σ : Store} (hd : Dom n σ) (r : Nat) (m : Nat) (hm : m < 65536) (l2 : List UInt8) (hs : ((be2 m) ++ l2).length < 4294967296) (hr : σ r = some ⟨[[(.string (bstr ((be2 m) ++ l2))), (.int .i64 0)]], 2, 121, true⟩)  : CQ Try.prog noDen 61 [(Pt r 0 0)] n σ (fun v n' d => v = (.int .i64 ((m : Nat) : Int)) ∧ d = [(r, some ⟨[[(.string (bstr l2)), (.int .i64 0)]], 2, 121, true⟩)]) := by
 have lhr := hd.lt hr
 refine CQ.body (E := env) env_ok hd rfl rfl (by show _ ≤ _; exact of_decide_eq_true (by kernel_rfl)) ?_
 refine RA.sR hd env_ok <| OA.ps [(2, (.int .i64 0))] rfl <| OA.nil fun _ => RA.sR hd env_ok <| OA.ps [(3, (Pt r 0 0))] rfl ?_
 refine OA.call (dst := (some 4)) (all := [(Pt r 0 0), (.int .i64 2)]) rfl rfl rfl rfl rfl rfl rfl rfl (CQ.imp (cNum (hd.up (by omega)) r (be2 m) l2 2 rfl (by decide) hs hr) ?_)
 rintro _ n1 _ ⟨rfl, rfl⟩ hn1
 refine OA.app1 ?_
 refine oP 5 (.int .i64 (((beN (be2 m)) : Nat) : Int)) rfl (r_cvt rfl rfl rfl rfl rfl ⟨_, rfl⟩ (i64_eq (by have := (show beN (be2 m) < 65536 by rw [beN_be2 m hm]; exact hm); omega))) <| OA.ps [(2, (.int .i64 (((beN (be2 m)) : Nat) : Int)))] rfl <| OA.nil fun _ => ?_
 refine RA.ret env_ok ?_
 refine ⟨.inr rfl, [(.int .i64 (((beN (be2 m)) : Nat) : Int))], (resL_cons rfl resL_nil), [(r, some ⟨[[(.string (bstr l2)), (.int .i64 0)]], 2, 121, true⟩)], (Less.refl _ _ _), ⟨by rw [beN_be2 m hm] <;> rfl, rfl⟩⟩
theorem cU32 {n : Nat} {σ : Store} (hd : Dom n σ) (r : Nat) (x : BitVec 32) (l2 : List UInt8) (hs : ((be4 x) ++ l2).length < 4294967296) (hr : σ r = some ⟨[[(.string (bstr ((be4 x) ++ l2))), (.int .i64 0)]], 2, 121, true⟩)  : CQ Try.prog noDen 60 [(Pt r 0 0)] n σ (fun v n' d => v = (W x) ∧ d = [(r, some ⟨[[(.string (bstr l2)), (.int .i64 0)]], 2, 121, true⟩)]) := by
 have lhr := hd.lt hr
 refine CQ.body (E := env) env_ok hd rfl rfl (by show _ ≤ _; exact of_decide_eq_true (by kernel_rfl)) ?_
 refine RA.sR hd env_ok <| OA.ps [(2, (.int .u32 0))] rfl <| OA.nil fun _ => RA.sR hd env_ok <| OA.ps [(3, (Pt r 0 0))] rfl ?_
 refine OA.call (dst := (some 4)) (all := [(Pt r 0 0), (.int .i64 4)]) rfl rfl rfl rfl rfl rfl rfl rfl (CQ.imp (cNum (hd.up (by omega)) r (be4 x) l2 4 rfl (by decide) hs hr) ?_)
 rintro _ n1 _ ⟨rfl, rfl⟩ hn1
 refine OA.app1 ?_
 refine oP 5 (W (BitVec.ofNat 32 (beN (be4 x)))) rfl (r_cvt rfl rfl rfl rfl rfl ⟨_, rfl⟩ (wrap_ofNat32 _)) <| OA.ps [(2, (W (BitVec.ofNat 32 (beN (be4 x)))))] rfl <| OA.nil fun _ => ?_
 refine RA.ret env_ok ?_
 refine ⟨.inr rfl, [(W (BitVec.ofNat 32 (beN (be4 x))))], (resL_cons rfl resL_nil), [(r, some ⟨[[(.string (bstr l2)), (.int .i64 0)]], 2, 121, true⟩)], (Less.refl _ _ _), ⟨by rw [show W (BitVec.ofNat 32 (beN (be4 x))) = W x from by rw [beN_be4, bit_rfl]] <;> rfl, rfl⟩⟩
theorem cNewR {n : Nat} {σ : Store} (hd : Dom n σ) (l : List UInt8) : CQ Try.prog noDen 49 [.string (bstr l)] n σ (fun v n' d => ∃ i, n ≤ i ∧ i < n' ∧ v = .pointer (some ⟨i, 0, some 0⟩) ∧ d = [(i, some ⟨[[(.string (bstr l)), (.int .i64 0)]], 2, 121, true⟩)]) := by
  refine (rNew hd (bstr l)).imp fun v n' d h => ?_
  obtain ⟨i, h1, h2, h3, h4⟩ := h
  exact ⟨i, h1, h2, h3, by rw [h4, ext_all]⟩
theorem cLeft {σ : Store} (r : Nat) (l : List UInt8) (hr : σ r = some ⟨[[(.string (bstr l)), (.int .i64 0)]], 2, 121, true⟩)  : PS Try.prog noDen 57 [(Pt r 0 0)] σ (.int .i64 ((l.length : Nat) : Int)) := by
 refine PS.body (E := env) env_ok rfl rfl (by show _ ≤ _; exact of_decide_eq_true (by kernel_rfl)) (fun n hd => ?_)
 have lhr := hd.lt hr
 refine RA.sR hd env_ok <| OA.ps [(2, (.int .i64 0))] rfl <| OA.nil fun _ => RA.seq hd <| RA.sR hd env_ok <| OA.ps [(3, (Pt r 0 0))] rfl <| oC 4 (v := (.int .i64 0)) (hd.up (by omega)) rfl rfl (rErr r _ 0 hr) fun n1 hn1 => oP 5 yF rfl (r_bin rfl rfl rfl (b_neq rfl)) <| OA.nil fun _ => RA.condF rfl <| RA.skip env_ok ?_
 intro _
 refine RA.sR hd env_ok <| OA.ps [(6, (Pt r 0 0)), (7, (Pt r 0 0)), (8, (Pt r 0 0))] rfl <| oL 9 (.string (bstr l)) hr <| OA.ps [(10, (.int .i64 (((bstr l).size : Nat) : Int))), (2, (.int .i64 (((bstr l).size : Nat) : Int)))] rfl <| OA.nil fun _ => ?_
 refine RA.ret env_ok ?_
 exact lf (.int .i64 (((bstr l).size : Nat) : Int)) (by show Value.int _ _ = Value.int _ _; rw [bstr_size])
end Go.Proofs.Ytgajcmanompmcaa.Vt
/- Ac2: walks through functions of the program, by the calculus; written by a program of this workplace. -/
namespace Go.Proofs.Ytgajcmanompmcaa.Vt
open Go Go.Proofs Go.Proofs.YtgajcmanompmcaaV
set_option maxRecDepth 100000
set_option linter.unusedVariables false
set_option linter.unusedSimpArgs false
set_option maxHeartbeats 8000000
theorem andN_3 (x : Int) : andN x 3 = (x % 4).toNat := by
  unfold andN
  rw [BitVec.toNat_and, BitVec.toNat_ofInt, show (BitVec.ofInt 64 ((3 : Nat) : Int)).toNat = 2 ^ 2 - 1 from rfl, Nat.and_two_pow_sub_one_eq_mod]
  omega
theorem zeros_cut {p : Nat} (hp : p ≤ 3) : (ByteArray.mk #[0, 0, 0]).extract 0 p = bstr (List.replicate p 0) := by
  rcases (show p = 0 ∨ p = 1 ∨ p = 2 ∨ p = 3 by omega) with rfl | rfl | rfl | rfl <;> rfl
def padN (n : Nat) : Nat := (4 - n % 4) % 4
theorem fillL_eq (l : List UInt8) : fillL l = l ++ List.replicate (padN l.length) 0 := rfl
theorem pL_len (t : Nat) (v : List UInt8) : (be2 t ++ be2 (v.length + 4) ++ v).length = 4 + v.length := by simp only [List.length_append, be2_len]
def be1 (m : Nat) : List UInt8 := [UInt8.ofNat m]
theorem be1_len (m : Nat) : (be1 m).length = 1 := rfl
theorem lPad {σ : Store} (k : Nat) (hk : k < 2147483648)   : PS Try.prog noDen 89 [(.int .i64 ((k : Nat) : Int))] σ (.int .i64 ((padN k : Nat) : Int)) := by
 refine PS.body (E := env) env_ok rfl rfl (by show _ ≤ _; exact of_decide_eq_true (by kernel_rfl)) (fun n hd => ?_)
 refine RA.sR hd env_ok <| OA.ps [(2, (.int .i64 0))] rfl <| OA.nil fun _ => RA.sR hd env_ok <| OA.ps [(3, (.int .i64 ((k : Nat) : Int)))] rfl <| oP 4 (.int .i64 (-((k : Nat) : Int))) rfl (r_neg rfl rfl (i64_eq (by omega))) <| oP 5 (.int .i64 (((andN (-((k : Nat) : Int)) 3) : Nat) : Int)) rfl (r_bin rfl rfl rfl (b_andN (-((k : Nat) : Int)) 3 (by decide))) <| OA.ps [(2, (.int .i64 (((andN (-((k : Nat) : Int)) 3) : Nat) : Int)))] rfl <| OA.nil fun _ => ?_
 refine RA.ret env_ok ?_
 exact lf (.int .i64 (((andN (-((k : Nat) : Int)) 3) : Nat) : Int)) (by show Value.int _ _ = Value.int _ _; rw [andN_3, show ((-((k : Nat) : Int)) % 4).toNat = padN k from by unfold padN; omega])
theorem lFilled {σ : Store} (l : List UInt8) (hl : l.length < 1000000)   : PS Try.prog noDen 76 [(.string (bstr l))] σ (.string (bstr (fillL l))) := by
 refine PS.body (E := env) env_ok rfl rfl (by show _ ≤ _; exact of_decide_eq_true (by kernel_rfl)) (fun n hd => ?_)
 refine RA.sR hd env_ok <| OA.ps [(2, (.string (ByteArray.mk #[])))] rfl <| OA.nil fun _ => RA.sR hd env_ok <| OA.ps [(3, (.string (bstr l))), (4, (.string (bstr l)))] rfl <| oP 5 (.int .i64 ((l.length : Nat) : Int)) rfl (Eq.trans (show _ = some (Value.int .i64 (((bstr l).size : Nat) : Int), _, []) from rfl) (by rw [bstr_size] <;> rfl)) <| oC 6 (hd.up (by omega)) rfl rfl (lPad l.length (by omega)) fun n1 hn1 => oP 7 (.string (bstr (List.replicate (padN l.length) 0))) rfl (Eq.trans (r_cut (a := 0) (b := (padN l.length)) rfl rfl (fun _ => rfl) (fun _ => rfl) rfl rfl rfl bound_nat (by omega) (by show (padN l.length) ≤ 3; unfold padN; omega) rfl) (by rw [zeros_cut (by unfold padN; omega)] <;> rfl)) <| oP 8 (.string (bstr (l ++ (List.replicate (padN l.length) 0)))) rfl (Eq.trans (r_cat rfl rfl rfl (by simp only [bstr_size, size_lit, List.length_append, be2_len, be4_len, be1_len, List.length_replicate, List.length_cons, List.length_nil, List.size_toArray]; unfold padN; omega)) (by rw [bstr_app] <;> rfl)) <| OA.ps [(2, (.string (bstr (l ++ (List.replicate (padN l.length) 0)))))] rfl <| OA.nil fun _ => ?_
 refine RA.ret env_ok ?_
 exact lf (.string (bstr (l ++ (List.replicate (padN l.length) 0)))) rfl
theorem lRF {σ : Store} (l : List UInt8) (hl : l.length < 1000000)   : PS Try.prog noDen 74 [(.string (bstr l))] σ (.string (bstr (fillL l))) := by
 refine PS.body (E := env) env_ok rfl rfl (by show _ ≤ _; exact of_decide_eq_true (by kernel_rfl)) (fun n hd => ?_)
 refine RA.sR hd env_ok <| OA.ps [(2, (.string (ByteArray.mk #[])))] rfl <| OA.nil fun _ => RA.sR hd env_ok <| OA.ps [(4, (.string (bstr l))), (3, (.string (bstr l)))] rfl <| OA.nil fun _ => RA.seq hd <| RA.block ?_
 refine RA.loop hd (fun kk_ τ n' D => ∃ k : Nat,  kk_ = (padN l.length - k) ∧ n ≤ n' ∧ Has τ [(3, (.string (bstr (l ++ List.replicate k 0))))] ∧ D = [] ∧ (∀ i ∈ keys D, i < n') ∧ k ≤ padN l.length) ((padN l.length - 0)) ⟨0, rfl, by omega, ⟨(by rw [List.replicate_zero, List.append_nil] <;> rfl), trivial⟩, rfl, (fun i hi => by cases hi), (by omega)⟩ ?_
 rintro kn1 τ1 n1 _ ⟨k, rfl, hn1, hHn1, rfl, hKn1, hIn1⟩
 rw [Has.eq hHn1]
 simp only [keys, List.map, List.forall_mem_cons, List.mem_cons, List.not_mem_nil, false_imp_iff, implies_true, and_true] at hKn1
 obtain hk1 := hIn1
 have hcl : (l ++ List.replicate k 0).length = l.length + k := by rw [List.length_append, List.length_replicate]
 have hpl : padN l.length ≤ 3 := by unfold padN; omega
 have hpe : padN l.length = (4 - l.length % 4) % 4 := rfl
 refine RA.seq hd <| RA.sR hd env_ok <| OA.ps [(5, (.string (bstr (l ++ List.replicate k 0))))] rfl <| oP 6 (.int .i64 (((l ++ List.replicate k 0).length : Nat) : Int)) rfl (Eq.trans (show _ = some (Value.int .i64 (((bstr (l ++ List.replicate k 0)).size : Nat) : Int), _, []) from rfl) (by rw [bstr_size] <;> rfl)) <| oP 7 (.int .i64 ((((l ++ List.replicate k 0).length % 4) : Nat) : Int)) rfl (r_bin rfl rfl rfl (b_remN (a := (l ++ List.replicate k 0).length) (c := 4) (by decide))) ?_
 by_cases hc1 : ((((l ++ List.replicate k 0).length % 4) : Nat) : Int) ≠ 0
 ·
  refine oP 8 yT rfl (Eq.trans (r_bin rfl rfl rfl (b_neq rfl)) (dT hc1)) <| OA.nil fun _ => RA.condT rfl <| RA.skip env_ok ?_
  intro _
  refine RA.block <| RA.region env_ok <| OA.ps [(9, (.string (bstr (l ++ List.replicate k 0))))] rfl <| oP 10 (.string (bstr ((l ++ List.replicate k 0) ++ ([0] : List UInt8)))) rfl (Eq.trans (r_cat rfl rfl rfl (by simp only [bstr_size, size_lit, List.length_append, be2_len, be4_len, be1_len, List.length_replicate, List.length_cons, List.length_nil, List.size_toArray]; omega)) (by rw [(show bstr (l ++ List.replicate k 0) ++ ByteArray.mk #[0] = bstr ((l ++ List.replicate k 0) ++ ([0] : List UInt8)) from bstr_app _ [0])] <;> rfl)) <| OA.ps [(3, (.string (bstr ((l ++ List.replicate k 0) ++ ([0] : List UInt8)))))] rfl <| OA.nil ?_
  refine ⟨(padN l.length - (k + 1)), by omega, [], (Less.refl _ _ _), (k + 1), rfl, by omega, ⟨(by rw [List.append_assoc, ← List.replicate_succ'] <;> rfl), trivial⟩, rfl, (fun i hi => by cases hi), (by omega)⟩
 ·
  refine oP 8 yF rfl (Eq.trans (r_bin rfl rfl rfl (b_neq rfl)) (dF hc1)) <| OA.nil fun _ => RA.condF rfl ?_
  refine RA.exit env_ok ?_
  intro _
  refine RA.sR hd env_ok <| OA.ps [(11, (.string (bstr (l ++ List.replicate k 0)))), (2, (.string (bstr (l ++ List.replicate k 0))))] rfl <| OA.nil fun _ => ?_
  refine RA.ret env_ok ?_
  exact lf (.string (bstr (l ++ List.replicate k 0))) (by show Value.string _ = Value.string _; rw [fillL_eq, show k = padN l.length from by omega])
theorem lPut2 {σ : Store} (m : Nat) (hm : m < 65536) : PS Try.prog noDen 22 [.int .u64 ((m : Nat) : Int), .int .i64 2] σ (.string (bstr (be2 m))) := (sPut 2 m (by omega) (by decide)).to (by rw [putL_be2 m hm])
end Go.Proofs.Ytgajcmanompmcaa.Vt
/- Ch: walks through functions of the program, by the calculus; written by a program of this workplace. -/
namespace Go.Proofs.Ytgajcmanompmcaa.Vt
open Go Go.Proofs Go.Proofs.YtgajcmanompmcaaV
set_option maxRecDepth 100000
set_option linter.unusedVariables false
set_option linter.unusedSimpArgs false
set_option maxHeartbeats 8000000
structure Prm where
  typ : Int
  val : ByteArray
deriving DecidableEq
def dPrm : Prm := ⟨0, ByteArray.empty⟩
abbrev cPrm (e : Prm) : List Value := [(.int .i64 e.typ), (.string e.val)]
abbrev oPrm (l : List Prm) : AObj := ⟨l.map cPrm, 2, 35, true⟩
structure Cau where
  code : Int
  info : ByteArray
deriving DecidableEq
def dCau : Cau := ⟨0, ByteArray.empty⟩
abbrev cCau (e : Cau) : List Value := [(.int .i64 e.code), (.string e.info)]
abbrev oCau (l : List Cau) : AObj := ⟨l.map cCau, 2, 99, true⟩
structure Gp where
  lo : Int
  hi : Int
deriving DecidableEq
def dGp : Gp := ⟨0, 0⟩
abbrev cGp (e : Gp) : List Value := [(.int .i64 e.lo), (.int .i64 e.hi)]
abbrev oGp (l : List Gp) : AObj := ⟨l.map cGp, 2, 101, true⟩
structure Dp where
  x : BitVec 32
deriving DecidableEq
def dDp : Dp := ⟨0#32⟩
abbrev cDp (e : Dp) : List Value := [(W e.x)]
abbrev oDp (l : List Dp) : AObj := ⟨l.map cDp, 1, 36, true⟩
structure Chk where
  typ : Int
  flags : Int
  tsn : BitVec 32
  stream : Int
  ssn : Int
  proto : BitVec 32
  data : ByteArray
  tag : BitVec 32
  rwnd : BitVec 32
  outs : Int
  ins : Int
  pv : Value
  cv : Value
  gv : Value
  dv : Value
  ps : List Prm
  cs : List Cau
  gs : List Gp
  ds : List Dp
abbrev cChk (e : Chk) : List Value := [(.int .i64 e.typ), (.int .i64 e.flags), (W e.tsn), (.int .i64 e.stream), (.int .i64 e.ssn), (W e.proto), (.string e.data), (W e.tag), (W e.rwnd), (.int .i64 e.outs), (.int .i64 e.ins), e.pv, e.cv, e.gv, e.dv]
def okChk (σ : Store) (c : Chk) : Prop := RowP σ 35 2 c.pv (c.ps.map cPrm) ∧ RowP σ 99 2 c.cv (c.cs.map cCau) ∧ RowP σ 101 2 c.gv (c.gs.map cGp) ∧ RowP σ 36 1 c.dv (c.ds.map cDp)
def cutPrm (e : Prm) : Prm := ⟨e.typ, e.val.extract 0 (min e.val.size 60)⟩
theorem cutPrm_snoc {l : List Prm} {i : Nat} (h : i < l.length) : (((l.take i).map cutPrm).map cPrm) ++ [cPrm (Prm.mk (l.getD i dPrm).typ ((l.getD i dPrm).val.extract 0 (min (l.getD i dPrm).val.size 60)))] = ((l.take (i + 1)).map cutPrm).map cPrm := by
  rw [← take_snoc (d0 := dPrm) h, List.map_append, List.map_append]; rfl
theorem cutPrm_len {l : List Prm} {i : Nat} (h : i ≤ l.length) : ((l.take i).map cutPrm).length = i := by rw [List.length_map, List.length_take]; omega
def cutCau (e : Cau) : Cau := ⟨e.code, e.info.extract 0 (min e.info.size 60)⟩
theorem cutCau_snoc {l : List Cau} {i : Nat} (h : i < l.length) : (((l.take i).map cutCau).map cCau) ++ [cCau (Cau.mk (l.getD i dCau).code ((l.getD i dCau).info.extract 0 (min (l.getD i dCau).info.size 60)))] = ((l.take (i + 1)).map cutCau).map cCau := by
  rw [← take_snoc (d0 := dCau) h, List.map_append, List.map_append]; rfl
theorem cutCau_len {l : List Cau} {i : Nat} (h : i ≤ l.length) : ((l.take i).map cutCau).length = i := by rw [List.length_map, List.length_take]; omega
abbrev xCh1 (c : Chk) (j0 : Nat) (j1 : Nat) : List Value := [(.int .i64 c.typ), (.int .i64 c.flags), (W c.tsn), (.int .i64 c.stream), (.int .i64 c.ssn), (W c.proto), (.string (c.data.extract 0 (min c.data.size 950))), (W c.tag), (W c.rwnd), (.int .i64 c.outs), (.int .i64 c.ins), (.slice (some ⟨j0, 0, none⟩) (min c.ps.length 18) 0), (.slice (some ⟨j1, 0, none⟩) (min c.cs.length 18) 0), (cutV c.gv (min c.gs.length 18)), (cutV c.dv (min c.ds.length 18))]
abbrev xCh2 (c : Chk) (j0 : Nat) (j1 : Nat) : List Value := [(.int .i64 c.typ), (.int .i64 c.flags), (W c.tsn), (.int .i64 c.stream), (.int .i64 c.ssn), (W c.proto), (.string (c.data.extract 0 (min c.data.size 950))), (W c.tag), (W c.rwnd), (.int .i64 c.outs), (.int .i64 c.ins), (.slice (some ⟨j0, 0, none⟩) (min c.ps.length 18) 0), (.slice (some ⟨j1, 0, none⟩) (min c.cs.length 18) 0), (cutV c.gv (min c.gs.length 18)), c.dv]
abbrev xCh3 (c : Chk) (j0 : Nat) (j1 : Nat) : List Value := [(.int .i64 c.typ), (.int .i64 c.flags), (W c.tsn), (.int .i64 c.stream), (.int .i64 c.ssn), (W c.proto), (.string (c.data.extract 0 (min c.data.size 950))), (W c.tag), (W c.rwnd), (.int .i64 c.outs), (.int .i64 c.ins), (.slice (some ⟨j0, 0, none⟩) (min c.ps.length 18) 0), (.slice (some ⟨j1, 0, none⟩) (min c.cs.length 18) 0), c.gv, c.dv]
abbrev xCh4 (c : Chk) (j0 : Nat) (n4 : Nat) (i : Nat) : List Value := [(.int .i64 c.typ), (.int .i64 c.flags), (W c.tsn), (.int .i64 c.stream), (.int .i64 c.ssn), (W c.proto), (.string (c.data.extract 0 (min c.data.size 950))), (W c.tag), (W c.rwnd), (.int .i64 c.outs), (.int .i64 c.ins), (.slice (some ⟨j0, 0, none⟩) (min c.ps.length 18) 0), (.slice (some ⟨(n4 + 1), 0, none⟩) (i + 1) 0), c.gv, c.dv]
abbrev xCh5 (c : Chk) (j0 : Nat) (j : Nat) (i : Nat) : List Value := [(.int .i64 c.typ), (.int .i64 c.flags), (W c.tsn), (.int .i64 c.stream), (.int .i64 c.ssn), (W c.proto), (.string (c.data.extract 0 (min c.data.size 950))), (W c.tag), (W c.rwnd), (.int .i64 c.outs), (.int .i64 c.ins), (.slice (some ⟨j0, 0, none⟩) (min c.ps.length 18) 0), (.slice (some ⟨j, 0, none⟩) i 0), c.gv, c.dv]
abbrev xCh6 (c : Chk) (n1 : Nat) (i : Nat) (n : Nat) : List Value := [(.int .i64 c.typ), (.int .i64 c.flags), (W c.tsn), (.int .i64 c.stream), (.int .i64 c.ssn), (W c.proto), (.string (c.data.extract 0 (min c.data.size 950))), (W c.tag), (W c.rwnd), (.int .i64 c.outs), (.int .i64 c.ins), (.slice (some ⟨(n1 + 1), 0, none⟩) (i + 1) 0), (.slice (some ⟨(n + 4), 0, none⟩) 0 0), c.gv, c.dv]
abbrev xCh7 (c : Chk) (n : Nat) : List Value := [(.int .i64 c.typ), (.int .i64 c.flags), (W c.tsn), (.int .i64 c.stream), (.int .i64 c.ssn), (W c.proto), (.string (c.data.extract 0 (min c.data.size 950))), (W c.tag), (W c.rwnd), (.int .i64 c.outs), (.int .i64 c.ins), (.slice (some ⟨(n + 3), 0, none⟩) 0 0), (.slice (some ⟨(n + 4), 0, none⟩) 0 0), c.gv, c.dv]
abbrev xCh8 (c : Chk) (j : Nat) (i : Nat) (n : Nat) : List Value := [(.int .i64 c.typ), (.int .i64 c.flags), (W c.tsn), (.int .i64 c.stream), (.int .i64 c.ssn), (W c.proto), (.string (c.data.extract 0 (min c.data.size 950))), (W c.tag), (W c.rwnd), (.int .i64 c.outs), (.int .i64 c.ins), (.slice (some ⟨j, 0, none⟩) i 0), (.slice (some ⟨(n + 4), 0, none⟩) 0 0), c.gv, c.dv]
abbrev xCh9 : List Value := [(.int .i64 0), (.int .i64 0), (.int .u32 0), (.int .i64 0), (.int .i64 0), (.int .u32 0), (.string ByteArray.empty), (.int .u32 0), (.int .u32 0), (.int .i64 0), (.int .i64 0), (.slice none 0 0), (.slice none 0 0), (.slice none 0 0), (.slice none 0 0)]
abbrev xCh10 (c : Chk) : List Value := [(.int .i64 c.typ), (.int .i64 c.flags), (W c.tsn), (.int .i64 c.stream), (.int .i64 c.ssn), (W c.proto), (.string c.data), (W c.tag), (W c.rwnd), (.int .i64 c.outs), (.int .i64 c.ins), c.pv, c.cv, c.gv, c.dv]
abbrev xCh11 (c : Chk) (i : Nat) : List Value := [(.int .i64 (c.cs.getD i dCau).code), (.string ((c.cs.getD i dCau).info.extract 0 (min (c.cs.getD i dCau).info.size 60)))]
abbrev xCh12 (c : Chk) (i : Nat) : List Value := [(.int .i64 (c.ps.getD i dPrm).typ), (.string ((c.ps.getD i dPrm).val.extract 0 (min (c.ps.getD i dPrm).val.size 60)))]
theorem chCut {n : Nat} {σ : Store} (hd : Dom n σ) (hn0 : 0 < n) (c : Chk) (hok : okChk σ c)   : CQ Try.prog noDen 45 [(.agg ⟨(cChk c)⟩)] n σ (fun v n' d => ∃ j0 j1, n ≤ j0 ∧ j0 < n' ∧ n ≤ j1 ∧ j1 < n' ∧ j0 ≠ j1 ∧ v = .agg ⟨[(.int .i64 c.typ), (.int .i64 c.flags), (W c.tsn), (.int .i64 c.stream), (.int .i64 c.ssn), (W c.proto), (.string (c.data.extract 0 (min c.data.size 950))), (W c.tag), (W c.rwnd), (.int .i64 c.outs), (.int .i64 c.ins), (.slice (some ⟨j0, 0, none⟩) (min c.ps.length 18) 0), (.slice (some ⟨j1, 0, none⟩) (min c.cs.length 18) 0), (cutV c.gv (min c.gs.length 18)), (cutV c.dv (min c.ds.length 18))]⟩ ∧ d = [(j0, some (oPrm ((c.ps.take (min c.ps.length 18)).map cutPrm))), (j1, some (oCau ((c.cs.take (min c.cs.length 18)).map cutCau)))]) := by
 have rl0 := (hok.1).lt hd hn0
 have rl1 := (hok.2.1).lt hd hn0
 have rl2 := (hok.2.2.1).lt hd hn0
 have rl3 := (hok.2.2.2).lt hd hn0
 refine CQ.body (E := env) env_ok hd rfl rfl (by show _ ≤ _; exact of_decide_eq_true (by kernel_rfl)) ?_
 refine RA.sR hd env_ok <| o1 (some 1) (Pt n 0 0) (n + 1) (n, some ⟨[(cChk c)], 15, 53, true⟩) (r_box (cs := (cChk c)) rfl rfl rfl (Nat.le_of_ble_eq_true rfl) (by simp only [List.all_cons, List.all_nil, Bool.and_true, Bool.and_eq_true, cChk]; exact ⟨rfl, rfl, rfl, rfl, rfl, rfl, rfl, rfl, rfl, rfl, rfl, (hok.1).one, (hok.2.1).one, (hok.2.2.1).one, (hok.2.2.2).one⟩)) <| o1 (some 2) (.pointer (some ⟨(n + 1), 0, some 0⟩)) (n + 2) ((n + 1), some ⟨[xCh9], 15, 53, true⟩) rfl <| OA.nil fun _ => RA.sR hd env_ok <| oP 6 (.agg ⟨(xCh10 c)⟩) rfl (r_loadA rfl rfl rfl rfl (get_there (by omega) get_here) rfl rfl rfl) <| o1 (some 3) (.pointer (some ⟨(n + 2), 0, some 0⟩)) (n + 3) ((n + 2), some ⟨[xCh9], 15, 53, true⟩) rfl <| o1 none yU (n + 3) ((n + 2), some ⟨[(xCh10 c)], 15, 53, true⟩) (r_store (cs := (xCh10 c)) rfl rfl rfl rfl rfl rfl (by simp only [List.all_cons, List.all_nil, Bool.and_true, Bool.and_eq_true]; exact ⟨rfl, rfl, rfl, rfl, rfl, rfl, rfl, rfl, rfl, rfl, rfl, (hok.1).one, (hok.2.1).one, (hok.2.2.1).one, (hok.2.2.2).one⟩) get_here rfl rfl (Nat.le_of_ble_eq_true rfl) rfl) <| OA.nil fun _ => RA.weaken hd (LsO (fA get_here get_here (fA (get_there (by omega) get_here) (gt2 (by omega) get_here) (fA (gt2 (by omega) get_here) (gt3 (by omega) get_here) fan)))) <| RA.sR hd env_ok ?_
 refine OA.ps [(7, (Pt n 0 6))] rfl <| oL 8 (.string c.data) (gt2 (by omega) get_here) <| OA.ps [(9, (Pt n 0 6))] rfl <| oL 10 (.string c.data) (gt2 (by omega) get_here) <| OA.ps [(11, (.int .i64 ((c.data.size : Nat) : Int)))] rfl <| oP 12 (.int .i64 (((min c.data.size 950) : Nat) : Int)) rfl (r_min (a := c.data.size) (b := 950) rfl rfl rfl) <| oP 13 (.string (c.data.extract 0 (min c.data.size 950))) rfl (r_cut (a := 0) (b := (min c.data.size 950)) rfl rfl (fun _ => rfl) (fun _ => rfl) rfl rfl rfl bound_nat (by omega) (by omega) rfl) <| OA.ps [(14, (.pointer (some ⟨(n + 2), 0, some 6⟩)))] rfl <| o1 none yU (n + 3) ((n + 2), some ⟨[[(.int .i64 c.typ), (.int .i64 c.flags), (W c.tsn), (.int .i64 c.stream), (.int .i64 c.ssn), (W c.proto), (.string (c.data.extract 0 (min c.data.size 950))), (W c.tag), (W c.rwnd), (.int .i64 c.outs), (.int .i64 c.ins), c.pv, c.cv, c.gv, c.dv]], 15, 53, true⟩) (rS get_here) <| OA.nil fun _ => RA.weaken hd (LsO (fA get_here get_here (fA (get_there (by omega) get_here) (gt2 (by omega) get_here) (fA (gt2 (by omega) get_here) (gt3 (by omega) get_here) fan)))) ?_
 refine RA.sR hd env_ok <| o1 (some 15) (.slice (some ⟨(n + 3), 0, none⟩) 0 0) (n + 4) ((n + 3), some (oPrm ([] : List Prm))) (by kernel_rfl) <| o1 (some 16) (.slice (some ⟨(n + 4), 0, none⟩) 0 0) (n + 5) ((n + 4), some (oCau ([] : List Cau))) (by kernel_rfl) <| OA.ps [(17, (.pointer (some ⟨(n + 2), 0, some 11⟩)))] rfl <| o1 none yU (n + 5) ((n + 2), some ⟨[[(.int .i64 c.typ), (.int .i64 c.flags), (W c.tsn), (.int .i64 c.stream), (.int .i64 c.ssn), (W c.proto), (.string (c.data.extract 0 (min c.data.size 950))), (W c.tag), (W c.rwnd), (.int .i64 c.outs), (.int .i64 c.ins), (.slice (some ⟨(n + 3), 0, none⟩) 0 0), c.cv, c.gv, c.dv]], 15, 53, true⟩) (rS (gt2 (by omega) get_here)) <| OA.ps [(18, (.pointer (some ⟨(n + 2), 0, some 12⟩)))] rfl <| o1 none yU (n + 5) ((n + 2), some ⟨[(xCh7 c n)], 15, 53, true⟩) (rS get_here) <| OA.nil fun _ => RA.weaken hd (LsO (fA get_here get_here (fA (get_there (by omega) get_here) (gt2 (by omega) get_here) (fA (gt2 (by omega) get_here) (gt3 (by omega) get_here) (fA (gt3 (by omega) get_here) (gt5 (by omega) get_here) (fA (gt4 (by omega) get_here) (gt6 (by omega) get_here) fan)))))) <| RA.seq hd (RA.imp (Q := fun x τ' n' D' => x = .normal ∧ ((∃ j0 : Nat, Has τ' [(1, (Pt n 0 0)), (2, (.pointer (some ⟨(n + 1), 0, some 0⟩))), (3, (.pointer (some ⟨(n + 2), 0, some 0⟩)))] ∧ (∃ D2, Less n n' D' D2 ∧ D2 = [(n, some ⟨[(cChk c)], 15, 53, true⟩), ((n + 1), some ⟨[xCh9], 15, 53, true⟩), ((n + 2), some ⟨[[(.int .i64 c.typ), (.int .i64 c.flags), (W c.tsn), (.int .i64 c.stream), (.int .i64 c.ssn), (W c.proto), (.string (c.data.extract 0 (min c.data.size 950))), (W c.tag), (W c.rwnd), (.int .i64 c.outs), (.int .i64 c.ins), (.slice (some ⟨j0, 0, none⟩) (min c.ps.length 18) 0), (.slice (some ⟨(n + 4), 0, none⟩) 0 0), c.gv, c.dv]], 15, 53, true⟩), (j0, some (oPrm ((c.ps.take (min c.ps.length 18)).map cutPrm))), ((n + 4), some (oCau ([] : List Cau)))]) ∧ (n + 5) ≤ n' ∧ (∀ i_ ∈ keys [(n, some ⟨[(cChk c)], 15, 53, true⟩), ((n + 1), some ⟨[xCh9], 15, 53, true⟩), ((n + 2), some ⟨[[(.int .i64 c.typ), (.int .i64 c.flags), (W c.tsn), (.int .i64 c.stream), (.int .i64 c.ssn), (W c.proto), (.string (c.data.extract 0 (min c.data.size 950))), (W c.tag), (W c.rwnd), (.int .i64 c.outs), (.int .i64 c.ins), (.slice (some ⟨j0, 0, none⟩) (min c.ps.length 18) 0), (.slice (some ⟨(n + 4), 0, none⟩) 0 0), c.gv, c.dv]], 15, 53, true⟩), (j0, some (oPrm ((c.ps.take (min c.ps.length 18)).map cutPrm))), ((n + 4), some (oCau ([] : List Cau)))], i_ < n') ∧ n + 3 ≤ j0 ∧ j0 ≠ n + 4))) ?_ ?_)
 ·
  refine RA.sR hd env_ok <| OA.ps [(4, (.int .i64 0))] rfl <| OA.nil fun _ => RA.block <| RA.weaken hd (LsO (fA get_here (gt4 (by omega) get_here) (fA (get_there (by omega) get_here) (gt3 (by omega) get_here) (fA (gt2 (by omega) get_here) get_here (fA (gt3 (by omega) get_here) (gt2 (by omega) get_here) (fA (gt4 (by omega) get_here) (get_there (by omega) get_here) fan)))))) ?_
  refine RA.loop hd (fun kk_ τ n' D => (∃ i : Nat, ∃ j : Nat, kk_ = (18 - i) ∧ (n + 5) ≤ n' ∧ Has τ [(1, (Pt n 0 0)), (2, (.pointer (some ⟨(n + 1), 0, some 0⟩))), (3, (.pointer (some ⟨(n + 2), 0, some 0⟩))), (4, (.int .i64 ((i : Nat) : Int)))] ∧ D = [(n, some ⟨[(cChk c)], 15, 53, true⟩), ((n + 1), some ⟨[xCh9], 15, 53, true⟩), ((n + 2), some ⟨[(xCh8 c j i n)], 15, 53, true⟩), (j, some (oPrm ((c.ps.take i).map cutPrm))), ((n + 4), some (oCau ([] : List Cau)))] ∧ (∀ i ∈ keys D, i < n') ∧ i ≤ c.ps.length ∧ i ≤ 18 ∧ n + 3 ≤ j ∧ j ≠ n + 4)) ((18 - 0)) (⟨0, (n + 3), rfl, by omega, ⟨rfl, rfl, rfl, rfl, trivial⟩, rfl, (kb5 (by omega)), ⟨by omega, by omega, by omega, by omega⟩⟩) ?_
  rintro kn1 τ1 n1 _ ⟨i, j, rfl, hn1, hHn1, rfl, hKn1, hIn1⟩
  rw [Has.eq hHn1]
  have hKn1_0 := kk0 hKn1
  have hKn1_1 := kk1 hKn1
  have hKn1_2 := kk2 hKn1
  have hKn1_3 := kk3 hKn1
  have hKn1_4 := kk4 hKn1
  clear hKn1
  obtain ⟨hi1, hi2, hj1, hj2⟩ := hIn1
  refine RA.seq hd <| RA.sR hd env_ok <| OA.ps [(19, (.int .i64 ((i : Nat) : Int))), (20, (Pt n 0 11))] rfl <| oL 21 c.pv get_here <| oP 22 (.int .i64 ((c.ps.length : Nat) : Int)) rfl (r_lenP (c := cPrm) rfl rfl rfl rfl rfl rfl hok.1 rfl) ?_
  by_cases hc1 : ((i : Nat) : Int) < ((c.ps.length : Nat) : Int)
  ·
   obtain ⟨rps, hatps⟩ := hok.1.get (m := i) (by omega)
   have lathatps := hd.lt hatps
   refine oP 23 yT rfl (Eq.trans (r_bin rfl rfl rfl (b_lss rfl)) (dT hc1)) <| OA.ps [(24, yT), (25, (.int .i64 ((i : Nat) : Int)))] rfl ?_
   by_cases hc2 : ((i : Nat) : Int) < 18
   ·
    refine oP 26 yT rfl (Eq.trans (r_bin rfl rfl rfl (b_lss rfl)) (dT hc2)) <| OA.ps [(27, yT)] rfl <| OA.nil fun _ => RA.condT rfl <| RA.skip env_ok ?_
    intro _
    refine RA.seq hd <| RA.block <| RA.par (md := [some [], some [(n + 2)], some [], some [n], some [], none, some [], none, some [], some [n], some [], none, some [], none, some [], some [n], some [], none, some [], none, some [], some [], some [], some [], some [], none, some [], none]) env_ok (hd.of (by omega) (kb5 (by omega))) (by kernel_rfl) <| PQ.ps [(30, (.pointer (some ⟨(n + 2), 0, some 11⟩)))] rfl <| pQl 31 (.slice (some ⟨j, 0, none⟩) i 0) (gt2 (by omega) get_here) <| PQ.ps [(32, (Pt n 0 11))] rfl <| pQl 33 c.pv get_here <| PQ.ps [(34, (.int .i64 ((i : Nat) : Int)))] rfl <| PQ.pure (dst := (some 35)) (v := (.pointer (some ⟨(rk c.pv), i, some 0⟩))) rfl rfl rfl _ (sA (V := []) (by kernel_rfl) (by kernel_rfl)) (r_iaP (c := cPrm) (m := i) rfl rfl rfl rfl rfl rfl hok.1 rfl (by omega) (gt5 (by omega) hatps) rfl) <| PQ.ps [(36, (.pointer (some ⟨(rk c.pv), i, some 0⟩)))] rfl <| PQ.pure (dst := (some 37)) (v := (.int .i64 (c.ps.getD i dPrm).typ)) rfl rfl rfl _ (sA (V := []) (by kernel_rfl) (by kernel_rfl)) (r_load1 (e := cPrm (c.ps.getD i dPrm)) rfl rfl rfl rfl rfl (gt5 (by omega) hatps) (mp_getA (by omega)) rfl) ?_
    refine PQ.ps [(38, (Pt n 0 11))] rfl <| pQl 39 c.pv get_here <| PQ.ps [(40, (.int .i64 ((i : Nat) : Int)))] rfl <| PQ.pure (dst := (some 41)) (v := (.pointer (some ⟨(rk c.pv), i, some 0⟩))) rfl rfl rfl _ (sA (V := []) (by kernel_rfl) (by kernel_rfl)) (r_iaP (c := cPrm) (m := i) rfl rfl rfl rfl rfl rfl hok.1 rfl (by omega) (gt5 (by omega) hatps) rfl) <| PQ.ps [(42, (.pointer (some ⟨(rk c.pv), i, some 1⟩)))] rfl <| PQ.pure (dst := (some 43)) (v := (.string (c.ps.getD i dPrm).val)) rfl rfl rfl _ (sA (V := []) (by kernel_rfl) (by kernel_rfl)) (r_load1 (e := cPrm (c.ps.getD i dPrm)) rfl rfl rfl rfl rfl (gt5 (by omega) hatps) (mp_getA (by omega)) rfl) <| PQ.ps [(44, (Pt n 0 11))] rfl <| pQl 45 c.pv get_here <| PQ.ps [(46, (.int .i64 ((i : Nat) : Int)))] rfl <| PQ.pure (dst := (some 47)) (v := (.pointer (some ⟨(rk c.pv), i, some 0⟩))) rfl rfl rfl _ (sA (V := []) (by kernel_rfl) (by kernel_rfl)) (r_iaP (c := cPrm) (m := i) rfl rfl rfl rfl rfl rfl hok.1 rfl (by omega) (gt5 (by omega) hatps) rfl) <| PQ.ps [(48, (.pointer (some ⟨(rk c.pv), i, some 1⟩)))] rfl ?_
    refine PQ.pure (dst := (some 49)) (v := (.string (c.ps.getD i dPrm).val)) rfl rfl rfl _ (sA (V := []) (by kernel_rfl) (by kernel_rfl)) (r_load1 (e := cPrm (c.ps.getD i dPrm)) rfl rfl rfl rfl rfl (gt5 (by omega) hatps) (mp_getA (by omega)) rfl) <| PQ.ps [(50, (.int .i64 (((c.ps.getD i dPrm).val.size : Nat) : Int)))] rfl <| pP 51 (.int .i64 (((min (c.ps.getD i dPrm).val.size 60) : Nat) : Int)) rfl (r_min (a := (c.ps.getD i dPrm).val.size) (b := 60) rfl rfl rfl) <| pP 52 (.string ((c.ps.getD i dPrm).val.extract 0 (min (c.ps.getD i dPrm).val.size 60))) rfl (r_cut (a := 0) (b := (min (c.ps.getD i dPrm).val.size 60)) rfl rfl (fun _ => rfl) (fun _ => rfl) rfl rfl rfl bound_nat (by omega) (by omega) rfl) <| pP 53 (.agg ⟨(xCh12 c i)⟩) rfl (by kernel_rfl) <| PQ.op (dst := (some 54)) (v := (.slice (some ⟨n1, 0, none⟩) 1 0)) (n1 := (n1 + 1)) (d1 := [(n1, some ⟨[(xCh12 c i)], 2, 35, true⟩)]) rfl rfl rfl noStore nOK (by kernel_rfl) (by omega) (kp1 (wr_new (by omega) (by omega))) <| PQ.op (dst := (some 55)) (v := (.slice (some ⟨(n1 + 1), 0, none⟩) (i + 1) 0)) (n1 := (n1 + 2)) (d1 := [((n1 + 1), some (oPrm ((c.ps.take (i + 1)).map cutPrm))), (j, none)]) rfl rfl rfl _ (sA (V := [(n1, some ⟨[(xCh12 c i)], 2, 35, true⟩)]) (by kernel_rfl) (by kernel_rfl)) (r_appendR (c := cPrm) (l' := ((c.ps.take (i + 1)).map cutPrm)) rfl rfl rfl rfl rfl rfl rfl rfl rfl rfl (by decide) (gt4 (by omega) get_here) get_here (by rw [cutPrm_len (by omega)]) (cutPrm_snoc (by omega)) (by omega) (of_decide_eq_true (by kernel_rfl)) (by omega)) (by omega) (kp2 (wr_new (by omega) (by omega)) (wr_tight (by kernel_rfl) (by omega))) <| PQ.ps [(56, (.pointer (some ⟨(n + 2), 0, some 11⟩)))] rfl <| PQ.op (dst := none) (v := (.tuple #[])) (n1 := (n1 + 2)) (d1 := [((n + 2), some ⟨[(xCh6 c n1 i n)], 15, 53, true⟩)]) rfl rfl rfl _ (sA (V := [((n1 + 1), some (oPrm ((c.ps.take (i + 1)).map cutPrm))), (j, none), (n1, some ⟨[(xCh12 c i)], 2, 35, true⟩)]) (by kernel_rfl) (by kernel_rfl)) (rS (gt5 (by omega) get_here)) (by omega) (kp1 (wr_tight (by kernel_rfl) (by omega))) <| PQ.done (d := [((n + 2), some ⟨[(xCh6 c n1 i n)], 15, 53, true⟩), ((n1 + 1), some (oPrm ((c.ps.take (i + 1)).map cutPrm))), (j, none), (n1, some ⟨[(xCh12 c i)], 2, 35, true⟩)]) (by kernel_rfl) fun _ => RA.weaken hd (LsO (fA get_here get_here (fA (get_there (by omega) get_here) (get_there (by omega) get_here) (fA (gt2 (by omega) get_here) (gt2 (by omega) get_here) (fA (gt3 (by omega) get_here) (gt3 (by omega) get_here) (fA (gt4 (by omega) get_here) (gt4 (by omega) get_here) (fA (gt5 (by omega) get_here) (gt5 (by omega) get_here) (fA (gt6 (by omega) get_here) (gt8 (by omega) get_here) fan)))))))) ?_
    refine RA.rb [(1, (Pt n 0 0)), (2, (.pointer (some ⟨(n + 1), 0, some 0⟩))), (3, (.pointer (some ⟨(n + 2), 0, some 0⟩))), (4, (.int .i64 ((i : Nat) : Int))), (27, yT)] rfl (fun τr2 => ?_)
    refine RA.region env_ok <| OA.ps [(28, (.int .i64 ((i : Nat) : Int)))] rfl <| oP 29 (.int .i64 (((i + 1) : Nat) : Int)) rfl (r_bin rfl rfl rfl (b_add (i64_eq (by omega)))) <| OA.ps [(4, (.int .i64 (((i + 1) : Nat) : Int)))] rfl <| OA.nil ?_
    refine ⟨(18 - (i + 1)), by omega, [(n, some ⟨[(cChk c)], 15, 53, true⟩), ((n + 1), some ⟨[xCh9], 15, 53, true⟩), ((n + 2), some ⟨[(xCh6 c n1 i n)], 15, 53, true⟩), ((n1 + 1), some (oPrm ((c.ps.take (i + 1)).map cutPrm))), ((n + 4), some (oCau ([] : List Cau)))], (LsO (fA get_here (gt4 (by omega) get_here) (fA (get_there (by omega) get_here) (gt5 (by omega) get_here) (fA (gt2 (by omega) get_here) get_here (fA (gt3 (by omega) get_here) (get_there (by omega) get_here) (fA (gt4 (by omega) get_here) (gt6 (by omega) get_here) fan)))))), ⟨(i + 1), (n1 + 1), rfl, by omega, ⟨rfl, rfl, rfl, rfl, trivial⟩, rfl, (kb5 (by omega)), ⟨by omega, by omega, by omega, by omega⟩⟩⟩
   ·
    refine oP 26 yF rfl (Eq.trans (r_bin rfl rfl rfl (b_lss rfl)) (dF hc2)) <| OA.ps [(27, yF)] rfl <| OA.nil fun _ => RA.condF rfl ?_
    refine RA.exit env_ok ?_
    exact ⟨rfl, ⟨j, ⟨rfl, rfl, rfl, trivial⟩, ⟨[(n, some ⟨[(cChk c)], 15, 53, true⟩), ((n + 1), some ⟨[xCh9], 15, 53, true⟩), ((n + 2), some ⟨[(xCh8 c j i n)], 15, 53, true⟩), (j, some (oPrm ((c.ps.take i).map cutPrm))), ((n + 4), some (oCau ([] : List Cau)))], (Less.refl _ _ _), (by rw [show i = (min c.ps.length 18) from by omega])⟩, by omega, (kb5 (by omega)), ⟨by omega, by omega⟩⟩⟩
  ·
   refine oP 23 yF rfl (Eq.trans (r_bin rfl rfl rfl (b_lss rfl)) (dF hc1)) <| OA.ps [(24, yF)] rfl <| OA.offs 25 2 rfl <| OA.ps [(27, yF)] rfl <| OA.nil fun _ => RA.condF rfl ?_
   refine RA.exit env_ok ?_
   exact ⟨rfl, ⟨j, ⟨rfl, rfl, rfl, trivial⟩, ⟨[(n, some ⟨[(cChk c)], 15, 53, true⟩), ((n + 1), some ⟨[xCh9], 15, 53, true⟩), ((n + 2), some ⟨[(xCh8 c j i n)], 15, 53, true⟩), (j, some (oPrm ((c.ps.take i).map cutPrm))), ((n + 4), some (oCau ([] : List Cau)))], (Less.refl _ _ _), (by rw [show i = (min c.ps.length 18) from by omega])⟩, by omega, (kb5 (by omega)), ⟨by omega, by omega⟩⟩⟩
 ·
  rintro _ τ3 n3 Dn3 hmn3 ⟨rfl, hSn3⟩
  rcases hSn3 with ⟨j0, hHn3, ⟨_, hLn3, rfl⟩, hn3, hKn3, hIn3⟩
  intro _
  refine RA.weaken hd hLn3 ?_
  rw [Has.eq hHn3]
  have hKn3_0 := kk0 hKn3
  have hKn3_1 := kk1 hKn3
  have hKn3_2 := kk2 hKn3
  have hKn3_3 := kk3 hKn3
  have hKn3_4 := kk4 hKn3
  clear hKn3
  obtain ⟨hj1, hj2⟩ := hIn3
  refine RA.seq hd (RA.imp (Q := fun x τ' n' D' => x = .normal ∧ ((∃ j1 : Nat, Has τ' [(1, (Pt n 0 0)), (2, (.pointer (some ⟨(n + 1), 0, some 0⟩))), (3, (.pointer (some ⟨(n + 2), 0, some 0⟩)))] ∧ (∃ D2, Less n n' D' D2 ∧ D2 = [(n, some ⟨[(cChk c)], 15, 53, true⟩), ((n + 1), some ⟨[xCh9], 15, 53, true⟩), ((n + 2), some ⟨[(xCh3 c j0 j1)], 15, 53, true⟩), (j0, some (oPrm ((c.ps.take (min c.ps.length 18)).map cutPrm))), (j1, some (oCau ((c.cs.take (min c.cs.length 18)).map cutCau)))]) ∧ n3 ≤ n' ∧ (∀ i_ ∈ keys [(n, some ⟨[(cChk c)], 15, 53, true⟩), ((n + 1), some ⟨[xCh9], 15, 53, true⟩), ((n + 2), some ⟨[(xCh3 c j0 j1)], 15, 53, true⟩), (j0, some (oPrm ((c.ps.take (min c.ps.length 18)).map cutPrm))), (j1, some (oCau ((c.cs.take (min c.cs.length 18)).map cutCau)))], i_ < n') ∧ n + 3 ≤ j1 ∧ j0 ≠ j1))) ?_ ?_)
  ·
   refine RA.sR hd env_ok <| OA.ps [(5, (.int .i64 0))] rfl <| OA.nil fun _ => RA.block ?_
   refine RA.loop hd (fun kk_ τ n' D => (∃ i : Nat, ∃ j : Nat, kk_ = (18 - i) ∧ n3 ≤ n' ∧ Has τ [(1, (Pt n 0 0)), (2, (.pointer (some ⟨(n + 1), 0, some 0⟩))), (3, (.pointer (some ⟨(n + 2), 0, some 0⟩))), (5, (.int .i64 ((i : Nat) : Int)))] ∧ D = [(n, some ⟨[(cChk c)], 15, 53, true⟩), ((n + 1), some ⟨[xCh9], 15, 53, true⟩), ((n + 2), some ⟨[(xCh5 c j0 j i)], 15, 53, true⟩), (j0, some (oPrm ((c.ps.take (min c.ps.length 18)).map cutPrm))), (j, some (oCau ((c.cs.take i).map cutCau)))] ∧ (∀ i ∈ keys D, i < n') ∧ i ≤ c.cs.length ∧ i ≤ 18 ∧ n + 3 ≤ j ∧ j0 ≠ j)) ((18 - 0)) (⟨0, (n + 4), rfl, by omega, ⟨rfl, rfl, rfl, rfl, trivial⟩, rfl, (kb5 (by omega)), ⟨by omega, by omega, by omega, by omega⟩⟩) ?_
   rintro kn4 τ4 n4 _ ⟨i, j, rfl, hn4, hHn4, rfl, hKn4, hIn4⟩
   rw [Has.eq hHn4]
   have hKn4_0 := kk0 hKn4
   have hKn4_1 := kk1 hKn4
   have hKn4_2 := kk2 hKn4
   have hKn4_3 := kk3 hKn4
   have hKn4_4 := kk4 hKn4
   clear hKn4
   obtain ⟨hi1, hi2, hj3, hj4⟩ := hIn4
   refine RA.seq hd <| RA.sR hd env_ok <| OA.ps [(57, (.int .i64 ((i : Nat) : Int))), (58, (Pt n 0 12))] rfl <| oL 59 c.cv get_here <| oP 60 (.int .i64 ((c.cs.length : Nat) : Int)) rfl (r_lenP (c := cCau) rfl rfl rfl rfl rfl rfl hok.2.1 rfl) ?_
   by_cases hc3 : ((i : Nat) : Int) < ((c.cs.length : Nat) : Int)
   ·
    obtain ⟨rcs, hatcs⟩ := hok.2.1.get (m := i) (by omega)
    have lathatcs := hd.lt hatcs
    refine oP 61 yT rfl (Eq.trans (r_bin rfl rfl rfl (b_lss rfl)) (dT hc3)) <| OA.ps [(62, yT), (63, (.int .i64 ((i : Nat) : Int)))] rfl ?_
    by_cases hc4 : ((i : Nat) : Int) < 18
    ·
     refine oP 64 yT rfl (Eq.trans (r_bin rfl rfl rfl (b_lss rfl)) (dT hc4)) <| OA.ps [(65, yT)] rfl <| OA.nil fun _ => RA.condT rfl <| RA.skip env_ok ?_
     intro _
     refine RA.seq hd <| RA.block <| RA.par (md := [some [], some [(n + 2)], some [], some [n], some [], none, some [], none, some [], some [n], some [], none, some [], none, some [], some [n], some [], none, some [], none, some [], some [], some [], some [], some [], none, some [], none]) env_ok (hd.of (by omega) (kb5 (by omega))) (by kernel_rfl) <| PQ.ps [(68, (.pointer (some ⟨(n + 2), 0, some 12⟩)))] rfl <| pQl 69 (.slice (some ⟨j, 0, none⟩) i 0) (gt2 (by omega) get_here) <| PQ.ps [(70, (Pt n 0 12))] rfl <| pQl 71 c.cv get_here <| PQ.ps [(72, (.int .i64 ((i : Nat) : Int)))] rfl <| PQ.pure (dst := (some 73)) (v := (.pointer (some ⟨(rk c.cv), i, some 0⟩))) rfl rfl rfl _ (sA (V := []) (by kernel_rfl) (by kernel_rfl)) (r_iaP (c := cCau) (m := i) rfl rfl rfl rfl rfl rfl hok.2.1 rfl (by omega) (gt5 (by omega) hatcs) rfl) <| PQ.ps [(74, (.pointer (some ⟨(rk c.cv), i, some 0⟩)))] rfl <| PQ.pure (dst := (some 75)) (v := (.int .i64 (c.cs.getD i dCau).code)) rfl rfl rfl _ (sA (V := []) (by kernel_rfl) (by kernel_rfl)) (r_load1 (e := cCau (c.cs.getD i dCau)) rfl rfl rfl rfl rfl (gt5 (by omega) hatcs) (mp_getA (by omega)) rfl) ?_
     refine PQ.ps [(76, (Pt n 0 12))] rfl <| pQl 77 c.cv get_here <| PQ.ps [(78, (.int .i64 ((i : Nat) : Int)))] rfl <| PQ.pure (dst := (some 79)) (v := (.pointer (some ⟨(rk c.cv), i, some 0⟩))) rfl rfl rfl _ (sA (V := []) (by kernel_rfl) (by kernel_rfl)) (r_iaP (c := cCau) (m := i) rfl rfl rfl rfl rfl rfl hok.2.1 rfl (by omega) (gt5 (by omega) hatcs) rfl) <| PQ.ps [(80, (.pointer (some ⟨(rk c.cv), i, some 1⟩)))] rfl <| PQ.pure (dst := (some 81)) (v := (.string (c.cs.getD i dCau).info)) rfl rfl rfl _ (sA (V := []) (by kernel_rfl) (by kernel_rfl)) (r_load1 (e := cCau (c.cs.getD i dCau)) rfl rfl rfl rfl rfl (gt5 (by omega) hatcs) (mp_getA (by omega)) rfl) <| PQ.ps [(82, (Pt n 0 12))] rfl <| pQl 83 c.cv get_here <| PQ.ps [(84, (.int .i64 ((i : Nat) : Int)))] rfl <| PQ.pure (dst := (some 85)) (v := (.pointer (some ⟨(rk c.cv), i, some 0⟩))) rfl rfl rfl _ (sA (V := []) (by kernel_rfl) (by kernel_rfl)) (r_iaP (c := cCau) (m := i) rfl rfl rfl rfl rfl rfl hok.2.1 rfl (by omega) (gt5 (by omega) hatcs) rfl) <| PQ.ps [(86, (.pointer (some ⟨(rk c.cv), i, some 1⟩)))] rfl ?_
     refine PQ.pure (dst := (some 87)) (v := (.string (c.cs.getD i dCau).info)) rfl rfl rfl _ (sA (V := []) (by kernel_rfl) (by kernel_rfl)) (r_load1 (e := cCau (c.cs.getD i dCau)) rfl rfl rfl rfl rfl (gt5 (by omega) hatcs) (mp_getA (by omega)) rfl) <| PQ.ps [(88, (.int .i64 (((c.cs.getD i dCau).info.size : Nat) : Int)))] rfl <| pP 89 (.int .i64 (((min (c.cs.getD i dCau).info.size 60) : Nat) : Int)) rfl (r_min (a := (c.cs.getD i dCau).info.size) (b := 60) rfl rfl rfl) <| pP 90 (.string ((c.cs.getD i dCau).info.extract 0 (min (c.cs.getD i dCau).info.size 60))) rfl (r_cut (a := 0) (b := (min (c.cs.getD i dCau).info.size 60)) rfl rfl (fun _ => rfl) (fun _ => rfl) rfl rfl rfl bound_nat (by omega) (by omega) rfl) <| pP 91 (.agg ⟨(xCh11 c i)⟩) rfl (by kernel_rfl) <| PQ.op (dst := (some 92)) (v := (.slice (some ⟨n4, 0, none⟩) 1 0)) (n1 := (n4 + 1)) (d1 := [(n4, some ⟨[(xCh11 c i)], 2, 99, true⟩)]) rfl rfl rfl noStore nOK (by kernel_rfl) (by omega) (kp1 (wr_new (by omega) (by omega))) <| PQ.op (dst := (some 93)) (v := (.slice (some ⟨(n4 + 1), 0, none⟩) (i + 1) 0)) (n1 := (n4 + 2)) (d1 := [((n4 + 1), some (oCau ((c.cs.take (i + 1)).map cutCau))), (j, none)]) rfl rfl rfl _ (sA (V := [(n4, some ⟨[(xCh11 c i)], 2, 99, true⟩)]) (by kernel_rfl) (by kernel_rfl)) (r_appendR (c := cCau) (l' := ((c.cs.take (i + 1)).map cutCau)) rfl rfl rfl rfl rfl rfl rfl rfl rfl rfl (by decide) (gt5 (by omega) get_here) get_here (by rw [cutCau_len (by omega)]) (cutCau_snoc (by omega)) (by omega) (of_decide_eq_true (by kernel_rfl)) (by omega)) (by omega) (kp2 (wr_new (by omega) (by omega)) (wr_tight (by kernel_rfl) (by omega))) <| PQ.ps [(94, (.pointer (some ⟨(n + 2), 0, some 12⟩)))] rfl <| PQ.op (dst := none) (v := (.tuple #[])) (n1 := (n4 + 2)) (d1 := [((n + 2), some ⟨[(xCh4 c j0 n4 i)], 15, 53, true⟩)]) rfl rfl rfl _ (sA (V := [((n4 + 1), some (oCau ((c.cs.take (i + 1)).map cutCau))), (j, none), (n4, some ⟨[(xCh11 c i)], 2, 99, true⟩)]) (by kernel_rfl) (by kernel_rfl)) (rS (gt5 (by omega) get_here)) (by omega) (kp1 (wr_tight (by kernel_rfl) (by omega))) <| PQ.done (d := [((n + 2), some ⟨[(xCh4 c j0 n4 i)], 15, 53, true⟩), ((n4 + 1), some (oCau ((c.cs.take (i + 1)).map cutCau))), (j, none), (n4, some ⟨[(xCh11 c i)], 2, 99, true⟩)]) (by kernel_rfl) fun _ => RA.weaken hd (LsO (fA get_here get_here (fA (get_there (by omega) get_here) (get_there (by omega) get_here) (fA (gt2 (by omega) get_here) (gt2 (by omega) get_here) (fA (gt3 (by omega) get_here) (gt3 (by omega) get_here) (fA (gt4 (by omega) get_here) (gt4 (by omega) get_here) (fA (gt5 (by omega) get_here) (gt5 (by omega) get_here) (fA (gt6 (by omega) get_here) (gt7 (by omega) get_here) fan)))))))) ?_
     refine RA.rb [(1, (Pt n 0 0)), (2, (.pointer (some ⟨(n + 1), 0, some 0⟩))), (3, (.pointer (some ⟨(n + 2), 0, some 0⟩))), (5, (.int .i64 ((i : Nat) : Int))), (65, yT)] rfl (fun τr5 => ?_)
     refine RA.region env_ok <| OA.ps [(66, (.int .i64 ((i : Nat) : Int)))] rfl <| oP 67 (.int .i64 (((i + 1) : Nat) : Int)) rfl (r_bin rfl rfl rfl (b_add (i64_eq (by omega)))) <| OA.ps [(5, (.int .i64 (((i + 1) : Nat) : Int)))] rfl <| OA.nil ?_
     refine ⟨(18 - (i + 1)), by omega, [(n, some ⟨[(cChk c)], 15, 53, true⟩), ((n + 1), some ⟨[xCh9], 15, 53, true⟩), ((n + 2), some ⟨[(xCh4 c j0 n4 i)], 15, 53, true⟩), (j0, some (oPrm ((c.ps.take (min c.ps.length 18)).map cutPrm))), ((n4 + 1), some (oCau ((c.cs.take (i + 1)).map cutCau)))], (LsO (fA get_here (gt4 (by omega) get_here) (fA (get_there (by omega) get_here) (gt5 (by omega) get_here) (fA (gt2 (by omega) get_here) get_here (fA (gt3 (by omega) get_here) (gt6 (by omega) get_here) (fA (gt4 (by omega) get_here) (get_there (by omega) get_here) fan)))))), ⟨(i + 1), (n4 + 1), rfl, by omega, ⟨rfl, rfl, rfl, rfl, trivial⟩, rfl, (kb5 (by omega)), ⟨by omega, by omega, by omega, by omega⟩⟩⟩
    ·
     refine oP 64 yF rfl (Eq.trans (r_bin rfl rfl rfl (b_lss rfl)) (dF hc4)) <| OA.ps [(65, yF)] rfl <| OA.nil fun _ => RA.condF rfl ?_
     refine RA.exit env_ok ?_
     exact ⟨rfl, ⟨j, ⟨rfl, rfl, rfl, trivial⟩, ⟨[(n, some ⟨[(cChk c)], 15, 53, true⟩), ((n + 1), some ⟨[xCh9], 15, 53, true⟩), ((n + 2), some ⟨[(xCh5 c j0 j i)], 15, 53, true⟩), (j0, some (oPrm ((c.ps.take (min c.ps.length 18)).map cutPrm))), (j, some (oCau ((c.cs.take i).map cutCau)))], (Less.refl _ _ _), (by rw [show i = (min c.cs.length 18) from by omega])⟩, by omega, (kb5 (by omega)), ⟨by omega, by omega⟩⟩⟩
   ·
    refine oP 61 yF rfl (Eq.trans (r_bin rfl rfl rfl (b_lss rfl)) (dF hc3)) <| OA.ps [(62, yF)] rfl <| OA.offs 63 2 rfl <| OA.ps [(65, yF)] rfl <| OA.nil fun _ => RA.condF rfl ?_
    refine RA.exit env_ok ?_
    exact ⟨rfl, ⟨j, ⟨rfl, rfl, rfl, trivial⟩, ⟨[(n, some ⟨[(cChk c)], 15, 53, true⟩), ((n + 1), some ⟨[xCh9], 15, 53, true⟩), ((n + 2), some ⟨[(xCh5 c j0 j i)], 15, 53, true⟩), (j0, some (oPrm ((c.ps.take (min c.ps.length 18)).map cutPrm))), (j, some (oCau ((c.cs.take i).map cutCau)))], (Less.refl _ _ _), (by rw [show i = (min c.cs.length 18) from by omega])⟩, by omega, (kb5 (by omega)), ⟨by omega, by omega⟩⟩⟩
  ·
   rintro _ τ6 n6 Dn6 hmn6 ⟨rfl, hSn6⟩
   rcases hSn6 with ⟨j1, hHn6, ⟨_, hLn6, rfl⟩, hn6, hKn6, hIn6⟩
   intro _
   refine RA.weaken hd hLn6 ?_
   rw [Has.eq hHn6]
   have hKn6_0 := kk0 hKn6
   have hKn6_1 := kk1 hKn6
   have hKn6_2 := kk2 hKn6
   have hKn6_3 := kk3 hKn6
   have hKn6_4 := kk4 hKn6
   clear hKn6
   obtain ⟨hj3, hj4⟩ := hIn6
   refine RA.seq hd <| RA.par (md := [some [], some [n], some [], some [n], some [], some [], some [(rk c.gv)], some [], some [n], some [], some [n], some [], some [], some [(rk c.dv)], some [], none, some [], none]) env_ok (hd.of (by omega) (kb5 (by omega))) (by kernel_rfl) <| PQ.ps [(95, (Pt n 0 13))] rfl <| pQl 96 c.gv get_here <| PQ.ps [(97, (Pt n 0 13))] rfl <| pQl 98 c.gv get_here <| pP 99 (.int .i64 ((c.gs.length : Nat) : Int)) rfl (r_lenP (c := cGp) rfl rfl rfl rfl rfl rfl hok.2.2.1 rfl) <| pP 100 (.int .i64 (((min c.gs.length 18) : Nat) : Int)) rfl (r_min (a := c.gs.length) (b := 18) rfl rfl rfl) <| PQ.pure (dst := (some 101)) (v := (cutV c.gv (min c.gs.length 18))) rfl rfl rfl _ (seen_key (k := (rk c.gv)) (V := []) (D := [(n, some ⟨[(cChk c)], 15, 53, true⟩), ((n + 1), some ⟨[xCh9], 15, 53, true⟩), ((n + 2), some ⟨[(xCh3 c j0 j1)], 15, 53, true⟩), (j0, some (oPrm ((c.ps.take (min c.ps.length 18)).map cutPrm))), (j1, some (oCau ((c.cs.take (min c.cs.length 18)).map cutCau)))]) (by kernel_rfl)) (r_cutP (c := cGp) (q := (min c.gs.length 18)) (v := c.gv) rfl rfl rfl rfl rfl rfl hok.2.2.1 (.inr (fun _ hh => by have hlt := hd.lt hh; rw [only_self]; exact (gt5 (by omega) rfl))) rfl (by omega)) <| PQ.ps [(102, (Pt n 0 14))] rfl <| pQl 103 c.dv get_here ?_
   refine PQ.ps [(104, (Pt n 0 14))] rfl <| pQl 105 c.dv get_here <| pP 106 (.int .i64 ((c.ds.length : Nat) : Int)) rfl (r_lenP (c := cDp) rfl rfl rfl rfl rfl rfl hok.2.2.2 rfl) <| pP 107 (.int .i64 (((min c.ds.length 18) : Nat) : Int)) rfl (r_min (a := c.ds.length) (b := 18) rfl rfl rfl) <| PQ.pure (dst := (some 108)) (v := (cutV c.dv (min c.ds.length 18))) rfl rfl rfl _ (seen_key (k := (rk c.dv)) (V := []) (D := [(n, some ⟨[(cChk c)], 15, 53, true⟩), ((n + 1), some ⟨[xCh9], 15, 53, true⟩), ((n + 2), some ⟨[(xCh3 c j0 j1)], 15, 53, true⟩), (j0, some (oPrm ((c.ps.take (min c.ps.length 18)).map cutPrm))), (j1, some (oCau ((c.cs.take (min c.cs.length 18)).map cutCau)))]) (by kernel_rfl)) (r_cutP (c := cDp) (q := (min c.ds.length 18)) (v := c.dv) rfl rfl rfl rfl rfl rfl hok.2.2.2 (.inr (fun _ hh => by have hlt := hd.lt hh; rw [only_self]; exact (gt5 (by omega) rfl))) rfl (by omega)) <| PQ.ps [(109, (.pointer (some ⟨(n + 2), 0, some 13⟩)))] rfl <| PQ.op (dst := none) (v := (.tuple #[])) (n1 := n6) (d1 := [((n + 2), some ⟨[(xCh2 c j0 j1)], 15, 53, true⟩)]) rfl rfl rfl _ (sA (V := []) (by kernel_rfl) (by kernel_rfl)) (r_store (cs := [(cutV c.gv (min c.gs.length 18))]) rfl rfl rfl rfl ((hok.2.2.1.cutR (min c.gs.length 18) (by omega))).cells rfl (by simp only [List.all_cons, List.all_nil, Bool.and_true]; exact ((hok.2.2.1.cutR (min c.gs.length 18) (by omega))).one) (gt2 (by omega) get_here) rfl rfl (Nat.le_of_ble_eq_true rfl) rfl) (by omega) (kp1 (wr_old [7, 8, 9, 10, 11, 12, 13] (by kernel_rfl) (by omega) (by omega) (fac (lo0 rfl) (fac (lo1 rfl (by omega)) (fac (lo0 rfl) (fac (lo1 rfl (by omega)) (fac (lo0 rfl) (fac (lo0 rfl) (fac (lo1 rfl (by omega)) fan))))))))) <| PQ.ps [(110, (.pointer (some ⟨(n + 2), 0, some 14⟩)))] rfl <| PQ.op (dst := none) (v := (.tuple #[])) (n1 := n6) (d1 := [((n + 2), some ⟨[(xCh1 c j0 j1)], 15, 53, true⟩)]) rfl rfl rfl _ (sA (V := [((n + 2), some ⟨[(xCh2 c j0 j1)], 15, 53, true⟩)]) (by kernel_rfl) (by kernel_rfl)) (r_store (cs := [(cutV c.dv (min c.ds.length 18))]) rfl rfl rfl rfl ((hok.2.2.2.cutR (min c.ds.length 18) (by omega))).cells rfl (by simp only [List.all_cons, List.all_nil, Bool.and_true]; exact ((hok.2.2.2.cutR (min c.ds.length 18) (by omega))).one) get_here rfl rfl (Nat.le_of_ble_eq_true rfl) rfl) (by omega) (kp1 (wr_tight (by kernel_rfl) (by omega))) <| PQ.done (d := [((n + 2), some ⟨[(xCh1 c j0 j1)], 15, 53, true⟩), ((n + 2), some ⟨[(xCh2 c j0 j1)], 15, 53, true⟩)]) (by kernel_rfl) fun _ => RA.weaken hd (LsO (fA get_here get_here (fA (get_there (by omega) get_here) (gt2 (by omega) get_here) (fA (gt2 (by omega) get_here) (gt3 (by omega) get_here) (fA (gt3 (by omega) get_here) (gt5 (by omega) get_here) (fA (gt4 (by omega) get_here) (gt6 (by omega) get_here) fan)))))) ?_
   refine RA.sR hd env_ok <| oP 111 (.agg ⟨(xCh1 c j0 j1)⟩) rfl (r_loadA rfl rfl rfl rfl get_here rfl rfl rfl) <| o1 none yU n6 ((n + 1), some ⟨[(xCh1 c j0 j1)], 15, 53, true⟩) (r_store (cs := (xCh1 c j0 j1)) rfl rfl rfl rfl rfl rfl (by simp only [List.all_cons, List.all_nil, Bool.and_true, Bool.and_eq_true]; exact ⟨rfl, rfl, rfl, rfl, rfl, rfl, rfl, rfl, rfl, rfl, rfl, rfl, rfl, ((hok.2.2.1.cutR (min c.gs.length 18) (by omega))).one, ((hok.2.2.2.cutR (min c.ds.length 18) (by omega))).one⟩) (gt2 (by omega) get_here) rfl rfl (Nat.le_of_ble_eq_true rfl) rfl) <| OA.nil fun _ => RA.weaken hd (LsO (fA get_here get_here (fA (get_there (by omega) get_here) (get_there (by omega) get_here) (fA (gt2 (by omega) get_here) (gt2 (by omega) get_here) (fA (gt3 (by omega) get_here) (gt4 (by omega) get_here) (fA (gt4 (by omega) get_here) (gt5 (by omega) get_here) fan)))))) ?_
   refine RA.ret env_ok ?_
   refine ⟨.inr rfl, [(.agg ⟨(xCh1 c j0 j1)⟩)], (resL_cons (res_cellA rfl rfl rfl get_here rfl rfl rfl) resL_nil), [(j0, some (oPrm ((c.ps.take (min c.ps.length 18)).map cutPrm))), (j1, some (oCau ((c.cs.take (min c.cs.length 18)).map cutCau)))], (LsO (fA get_here (gt3 (by omega) get_here) (fA (get_there (by omega) get_here) (gt4 (by omega) get_here) fan))), ⟨j0, j1, by omega, by omega, by omega, by omega, by omega, rfl, rfl⟩⟩
end Go.Proofs.Ytgajcmanompmcaa.Vt
/- Cp1: walks through functions of the program, by the calculus; written by a program of this workplace. -/
namespace Go.Proofs.Ytgajcmanompmcaa.Vt
open Go Go.Proofs Go.Proofs.YtgajcmanompmcaaV
set_option maxRecDepth 100000
set_option linter.unusedVariables false
set_option linter.unusedSimpArgs false
set_option maxHeartbeats 8000000
theorem bT {P : Prop} (h : P) : (true = true) ↔ P := ⟨fun _ => h, fun _ => rfl⟩
theorem bF {P : Prop} (h : ¬ P) : (false = true) ↔ P := ⟨fun q => (Bool.noConfusion q), fun q => absurd q h⟩
theorem bstr_appL (a : List UInt8) (s : ByteArray) : bstr a ++ s = bstr (a ++ L s) := by apply L_ext; rw [L_append, L_bstr, L_bstr]
def clrN (n : Int) (M : Nat) : Int := IntKind.wrap .i64 ((BitVec.ofInt 64 n &&& ~~~BitVec.ofInt 64 (M : Int)).toNat : Int)
theorem b_clrN {E : Env} {t : Nat} (n : Int) (M : Nat) : abin0 E .andNot t (.int .i64 n) (.int .i64 (M : Int)) = .ret (.int .i64 (clrN n M)) [] := by
  unfold abin0; simp only [ne_eq, not_true_eq_false, if_false, Op.intBits]
  rfl
def prmOk (t : Int) (v : ByteArray) : Prop := 0 ≤ t ∧ t < 65536 ∧ v.size ≤ 1000
def pB (t : Int) (v : ByteArray) : List UInt8 := pL t.toNat (L v)
theorem pad_len (l : List UInt8) : (fillL l).length ≤ l.length + 3 := by rw [fillL_eq, List.length_append, List.length_replicate]; unfold padN; omega
theorem pB_len {t : Int} {v : ByteArray} (h : prmOk t v) : (pB t v).length ≤ 1007 := by
  have h1 := pad_len (be2 t.toNat ++ be2 ((L v).length + 4) ++ L v)
  rw [pL_len, L_len] at h1
  have := h.2.2
  unfold pB pL; rw [L_len]; omega
def psL (l : List Prm) : List UInt8 := l.flatMap fun p => pB p.typ p.val
def csL (l : List Cau) : List UInt8 := l.flatMap fun p => pB p.code p.info
theorem fm_snoc {α : Type} {f : α → List UInt8} {l : List α} {i : Nat} {d0 : α} (h : i < l.length) : (l.take i).flatMap f ++ f (l.getD i d0) = (l.take (i + 1)).flatMap f := by
  rw [← take_snoc (d0 := d0) h, List.flatMap_append]; simp
theorem psL_snoc {l : List Prm} {i : Nat} (h : i < l.length) : psL (l.take i) ++ pB (l.getD i dPrm).typ (l.getD i dPrm).val = psL (l.take (i + 1)) := fm_snoc (f := fun p : Prm => pB p.typ p.val) h
theorem csL_snoc {l : List Cau} {i : Nat} (h : i < l.length) : csL (l.take i) ++ pB (l.getD i dCau).code (l.getD i dCau).info = csL (l.take (i + 1)) := fm_snoc (f := fun p : Cau => pB p.code p.info) h
theorem fm_len {α : Type} {f : α → List UInt8} {k : Nat} : ∀ (l : List α), (∀ x ∈ l, (f x).length ≤ k) → (l.flatMap f).length ≤ l.length * k
  | [], _ => by simp
  | x :: l, h => by
    have h1 := fm_len l (fun y hy => h y (List.mem_cons_of_mem _ hy))
    have h2 := h x (List.mem_cons_self ..)
    rw [List.flatMap_cons, List.length_append, List.length_cons, Nat.succ_mul]
    omega
theorem take_all {α : Type} {P : α → Prop} {l : List α} {i : Nat} {d0 : α} (h : i < l.length) (H : ∀ p ∈ l.take i, P p) (hp : P (l.getD i d0)) : ∀ p ∈ l.take (i + 1), P p := by
  rw [← take_snoc (d0 := d0) h]
  intro p hm
  rcases List.mem_append.1 hm with hm | hm
  · exact H p hm
  · rw [List.mem_singleton.1 hm]; exact hp
theorem take_full {α : Type} {l : List α} {i : Nat} (h : l.length ≤ i) : l.take i = l := List.take_of_length_le h
def prmsOk (l : List Prm) : Prop := ∀ p ∈ l, prmOk p.typ p.val
def causOk (l : List Cau) : Prop := ∀ p ∈ l, prmOk p.code p.info
def listsP (d : Chk) : Prop := prmsOk d.ps ∧ causOk d.cs ∧ d.ps.length ≤ 16 ∧ d.cs.length ≤ 16
theorem psL_len {l : List Prm} (h : prmsOk l) {i : Nat} (hi : i ≤ 16) : (psL (l.take i)).length ≤ 16112 := by
  have h1 := fm_len (f := fun p : Prm => pB p.typ p.val) (k := 1007) (l.take i) (fun x hx => pB_len (h x (List.mem_of_mem_take hx)))
  have h2 : (l.take i).length ≤ 16 := by rw [List.length_take]; omega
  have h3 := Nat.mul_le_mul_right 1007 h2
  unfold psL; omega
theorem csL_len {l : List Cau} (h : causOk l) {i : Nat} (hi : i ≤ 16) : (csL (l.take i)).length ≤ 16112 := by
  have h1 := fm_len (f := fun p : Cau => pB p.code p.info) (k := 1007) (l.take i) (fun x hx => pB_len (h x (List.mem_of_mem_take hx)))
  have h2 : (l.take i).length ≤ 16 := by rw [List.length_take]; omega
  have h3 := Nat.mul_le_mul_right 1007 h2
  unfold csL; omega
def risP : Int → List Gp → Prop
  | _, [] => True
  | a, g :: l => a + 2 ≤ g.lo ∧ g.lo ≤ g.hi ∧ g.hi < 65536 ∧ risP g.hi l
theorem ris_cons {a : Int} {l : List Gp} {i : Nat} (h : i < l.length) : risP a (l.drop i) ↔ (a + 2 ≤ (l.getD i dGp).lo ∧ (l.getD i dGp).lo ≤ (l.getD i dGp).hi ∧ (l.getD i dGp).hi < 65536 ∧ risP (l.getD i dGp).hi (l.drop (i + 1))) := by
  rw [List.drop_eq_getElem_cons h, show l.getD i dGp = l[i] from by simp [List.getD, List.getElem?_eq_getElem h]]
  exact Iff.rfl
theorem ris_nil {a : Int} {l : List Gp} {i : Nat} (h : l.length ≤ i) : risP a (l.drop i) := by rw [List.drop_of_length_le h]; trivial
def gapsP (l : List Gp) : Prop := risP 0 l ∧ l.length ≤ 16
theorem ris_mem : ∀ {l : List Gp} {a : Int}, 0 ≤ a → risP a l → ∀ g ∈ l, 0 ≤ g.lo ∧ g.lo < 65536 ∧ 0 ≤ g.hi ∧ g.hi < 65536
  | [], _, _, _ => fun _ h => by cases h
  | x :: l, a, ha, h => fun g hg => by
    obtain ⟨h1, h2, h3, h4⟩ := h
    rcases List.mem_cons.1 hg with rfl | hg
    · omega
    · exact ris_mem (by omega) h4 g hg
def wordP (t : Int) : Prop := 0 ≤ t ∧ t < 65536
def kd (t : Int) : Nat := if t = 0 then 0 else if t = 1 ∨ t = 2 then 1 else if t = 3 then 3 else if t = 4 ∨ t = 5 then 4 else if t = 6 ∨ t = 9 then 6 else if t = 7 then 7 else if t = 8 ∨ t = 11 ∨ t = 14 then 8 else if t = 10 then 10 else if t = 15 then 15 else if t = 193 ∨ t = 128 ∨ t = 130 then 16 else 20
theorem kd_cases (t : Int) : (kd t = 0 ∧ t = 0) ∨ (kd t = 1 ∧ (t = 1 ∨ t = 2)) ∨ (kd t = 3 ∧ t = 3) ∨ (kd t = 4 ∧ (t = 4 ∨ t = 5)) ∨ (kd t = 6 ∧ (t = 6 ∨ t = 9)) ∨ (kd t = 7 ∧ t = 7) ∨ (kd t = 8 ∧ (t = 8 ∨ t = 11 ∨ t = 14)) ∨ (kd t = 10 ∧ t = 10) ∨ (kd t = 15 ∧ t = 15) ∨ (kd t = 16 ∧ (t = 193 ∨ t = 128 ∨ t = 130)) ∨ (kd t = 20 ∧ ¬ (t = 0 ∨ t = 1 ∨ t = 2 ∨ t = 3 ∨ t = 4 ∨ t = 5 ∨ t = 6 ∨ t = 9 ∨ t = 7 ∨ t = 8 ∨ t = 11 ∨ t = 14 ∨ t = 10 ∨ t = 15 ∨ t = 193 ∨ t = 128 ∨ t = 130)) := by
  by_cases h0 : t = 0
  · exact .inl ⟨by unfold kd; rw [if_pos h0], h0⟩
  by_cases h1 : t = 1 ∨ t = 2
  · exact .inr (.inl ⟨by unfold kd; rw [if_neg h0, if_pos h1], h1⟩)
  by_cases h2 : t = 3
  · exact .inr (.inr (.inl ⟨by unfold kd; rw [if_neg h0, if_neg h1, if_pos h2], h2⟩))
  by_cases h3 : t = 4 ∨ t = 5
  · exact .inr (.inr (.inr (.inl ⟨by unfold kd; rw [if_neg h0, if_neg h1, if_neg h2, if_pos h3], h3⟩)))
  by_cases h4 : t = 6 ∨ t = 9
  · exact .inr (.inr (.inr (.inr (.inl ⟨by unfold kd; rw [if_neg h0, if_neg h1, if_neg h2, if_neg h3, if_pos h4], h4⟩))))
  by_cases h5 : t = 7
  · exact .inr (.inr (.inr (.inr (.inr (.inl ⟨by unfold kd; rw [if_neg h0, if_neg h1, if_neg h2, if_neg h3, if_neg h4, if_pos h5], h5⟩)))))
  by_cases h6 : t = 8 ∨ t = 11 ∨ t = 14
  · exact .inr (.inr (.inr (.inr (.inr (.inr (.inl ⟨by unfold kd; rw [if_neg h0, if_neg h1, if_neg h2, if_neg h3, if_neg h4, if_neg h5, if_pos h6], h6⟩))))))
  by_cases h7 : t = 10
  · exact .inr (.inr (.inr (.inr (.inr (.inr (.inr (.inl ⟨by unfold kd; rw [if_neg h0, if_neg h1, if_neg h2, if_neg h3, if_neg h4, if_neg h5, if_neg h6, if_pos h7], h7⟩)))))))
  by_cases h8 : t = 15
  · exact .inr (.inr (.inr (.inr (.inr (.inr (.inr (.inr (.inl ⟨by unfold kd; rw [if_neg h0, if_neg h1, if_neg h2, if_neg h3, if_neg h4, if_neg h5, if_neg h6, if_neg h7, if_pos h8], h8⟩))))))))
  by_cases h9 : t = 193 ∨ t = 128 ∨ t = 130
  · exact .inr (.inr (.inr (.inr (.inr (.inr (.inr (.inr (.inr (.inl ⟨by unfold kd; rw [if_neg h0, if_neg h1, if_neg h2, if_neg h3, if_neg h4, if_neg h5, if_neg h6, if_neg h7, if_neg h8, if_pos h9], h9⟩)))))))))
  refine .inr (.inr (.inr (.inr (.inr (.inr (.inr (.inr (.inr (.inr (⟨by unfold kd; rw [if_neg h0, if_neg h1, if_neg h2, if_neg h3, if_neg h4, if_neg h5, if_neg h6, if_neg h7, if_neg h8, if_neg h9], ?_⟩))))))))))
  rintro (h | h | h | h | h | h | h | h | h | h | h | h | h | h | h | h | h) <;> omega
def fl (t : Int) : Nat := if t = 0 then 7 else if t = 6 ∨ t = 9 then 3 else if t = 14 then 1 else if kd t = 20 then 255 else 0
theorem fl_cases (t : Int) : (fl t = 7 ∧ t = 0) ∨ (fl t = 3 ∧ (t = 6 ∨ t = 9)) ∨ (fl t = 1 ∧ t = 14) ∨ (fl t = 255 ∧ kd t = 20) ∨ (fl t = 0 ∧ kd t ≠ 20 ∧ t ≠ 0 ∧ t ≠ 6 ∧ t ≠ 9 ∧ t ≠ 14) := by
  have := kd_cases t
  unfold fl
  repeat' split
  all_goals omega
def gsL (l : List Gp) : List UInt8 := l.flatMap fun g => be2 g.lo.toNat ++ be2 g.hi.toNat
def dsL (l : List Dp) : List UInt8 := l.flatMap fun x => be4 x.x
theorem gsL_len : ∀ (l : List Gp), (gsL l).length = 4 * l.length
  | [] => rfl
  | x :: l => by
    have := gsL_len l
    unfold gsL at this ⊢
    rw [List.flatMap_cons, List.length_append, List.length_append, be2_len, be2_len, List.length_cons, this]; omega
theorem dsL_len : ∀ (l : List Dp), (dsL l).length = 4 * l.length
  | [] => rfl
  | x :: l => by
    have := dsL_len l
    unfold dsL at this ⊢
    rw [List.flatMap_cons, List.length_append, be4_len, List.length_cons, this]; omega
def gapsL (d : Chk) : List UInt8 := be2 d.gs.length ++ be2 d.ds.length ++ gsL d.gs ++ dsL d.ds
def bodyL (d : Chk) : List UInt8 :=
  if kd d.typ = 0 then be4 d.tsn ++ be2 d.stream.toNat ++ be2 d.ssn.toNat ++ be4 d.proto ++ L d.data
  else if kd d.typ = 1 then be4 d.tag ++ be4 d.rwnd ++ be2 d.outs.toNat ++ be2 d.ins.toNat ++ be4 d.tsn ++ psL d.ps
  else if kd d.typ = 3 then be4 d.tsn ++ be4 d.rwnd ++ gapsL d
  else if kd d.typ = 4 then pB 1 d.data
  else if kd d.typ = 6 then csL d.cs
  else if kd d.typ = 7 then be4 d.tsn
  else if kd d.typ = 8 then []
  else if kd d.typ = 15 then be2 d.stream.toNat ++ be2 d.ssn.toNat ++ L d.data
  else if kd d.typ = 16 then be4 d.tsn ++ psL d.ps
  else L d.data
structure bodyOk (d : Chk) : Prop where
  lists : listsP d
  w1 : wordP d.stream
  w2 : wordP d.ssn
  w3 : wordP d.outs
  w4 : wordP d.ins
  data : d.data.size ≤ 900
  gaps : gapsP d.gs
  dups : d.ds.length ≤ 16
theorem bodyL_len {d : Chk} (h : bodyOk d) : (bodyL d).length ≤ 17000 := by
  have h1 := psL_len h.lists.1 (i := d.ps.length) h.lists.2.2.1
  have h2 := csL_len h.lists.2.1 (i := d.cs.length) h.lists.2.2.2
  rw [List.take_length] at h1 h2
  have h3 := gsL_len d.gs
  have h4 := dsL_len d.ds
  have h5 := L_len d.data
  have h6 := h.data
  have h7 := pB_len (t := 1) (v := d.data) ⟨by omega, by omega, by omega⟩
  have h8 := h.gaps.2
  have h9 := h.dups
  unfold bodyL gapsL
  repeat' split
  all_goals try simp only [List.length_append, be2_len, be4_len, List.length_nil]
  all_goals omega
structure gd (σ : Store) (d : Chk) : Prop where
  hp : RowQ σ 35 2 d.pv (d.ps.map cPrm)
  hc : RowQ σ 99 2 d.cv (d.cs.map cCau)
  hg : RowQ σ 101 2 d.gv (d.gs.map cGp)
  hu : RowQ σ 36 1 d.dv (d.ds.map cDp)
  p18 : d.ps.length ≤ 18
  c18 : d.cs.length ≤ 18
  g18 : d.gs.length ≤ 18
  u18 : d.ds.length ≤ 18
  fl : d.flags < 9223372036854775808
  gr : ∀ g ∈ d.gs, g.lo < 9223372036854775808
theorem gd.mono {σ σ' : Store} {d : Chk} (h : gd σ d) (hs : Sub σ σ') : gd σ' d := ⟨h.hp.mono hs, h.hc.mono hs, h.hg.mono hs, h.hu.mono hs, h.p18, h.c18, h.g18, h.u18, h.fl, h.gr⟩
theorem sub_app {n n' : Nat} {σ : Store} {D : Delta} (hd : Dom n σ) (hk : ∀ i ∈ keys D, n ≤ i ∧ i < n') : Sub σ (app D σ) := by
  intro i o h
  have hi := hd.lt h
  rw [app_off (fun hm => by have := (hk i hm).1; omega)]
  exact h
theorem sub_a1 {n : Nat} {σ : Store} {o : Option AObj} (hd : Dom n σ) : Sub σ (app [(n, o)] σ) := sub_app (n' := n + 1) hd (by intro i hi; simp only [keys, List.map_cons, List.map_nil, List.mem_cons, List.not_mem_nil, or_false] at hi; omega)
def plainQ (q : Nat) (d : Chk) : Chk := ⟨d.typ, d.flags, if q = 0 ∨ q = 1 ∨ q = 3 ∨ q = 7 ∨ q = 16 then d.tsn else 0#32, if q = 0 ∨ q = 15 then d.stream else 0, if q = 0 ∨ q = 15 then d.ssn else 0, if q = 0 then d.proto else 0#32, if q = 0 ∨ q = 4 ∨ q = 10 ∨ q = 15 ∨ q = 20 then d.data else ByteArray.empty, if q = 1 then d.tag else 0#32, if q = 1 ∨ q = 3 then d.rwnd else 0#32, if q = 1 then d.outs else 0, if q = 1 then d.ins else 0, if q = 1 ∨ q = 16 then d.pv else .slice none 0 0, if q = 6 then d.cv else .slice none 0 0, if q = 3 then d.gv else .slice none 0 0, if q = 3 then d.dv else .slice none 0 0, if q = 1 ∨ q = 16 then d.ps else [], if q = 6 then d.cs else [], if q = 3 then d.gs else [], if q = 3 then d.ds else []⟩
def plainD (d : Chk) : Chk := plainQ (kd d.typ) d
theorem gd.plain {σ : Store} {d : Chk} (h : gd σ d) : gd σ (plainD d) := by
  refine ⟨?_, ?_, ?_, ?_, ?_, ?_, ?_, ?_, h.fl, ?_⟩ <;> (unfold plainD plainQ; dsimp only; split)
  · exact h.hp
  · exact .nil
  · exact h.hc
  · exact .nil
  · exact h.hg
  · exact .nil
  · exact h.hu
  · exact .nil
  · exact h.p18
  · exact Nat.zero_le _
  · exact h.c18
  · exact Nat.zero_le _
  · exact h.g18
  · exact Nat.zero_le _
  · exact h.u18
  · exact Nat.zero_le _
  · exact h.gr
  · exact fun g hg => by cases hg
theorem sU8 {σ : Store} (m : Nat) (hm : m < 256)   : PS Try.prog noDen 53 [(.int .i64 ((m : Nat) : Int))] σ (.string (bstr (be1 m))) := by
 refine PS.body (E := env) env_ok rfl rfl (by show _ ≤ _; exact of_decide_eq_true (by kernel_rfl)) (fun n hd => ?_)
 refine RA.sR hd env_ok <| OA.ps [(2, (.string (ByteArray.mk #[])))] rfl <| OA.nil fun _ => RA.sR hd env_ok <| OA.ps [(3, (.int .i64 ((m : Nat) : Int)))] rfl <| oP 4 (.int .u8 (((UInt8.ofNat m).toNat : Nat) : Int)) rfl (r_cvt rfl rfl rfl rfl rfl ⟨_, rfl⟩ (wrap_u8n _)) <| o1 (some 5) (.slice (some ⟨n, 0, none⟩) 1 0) (n + 1) (n, some ⟨(bc [(UInt8.ofNat m)]), 1, 5, true⟩) (by kernel_rfl) <| oP 6 (.string (bstr (([(UInt8.ofNat m)].drop 0).take 1))) rfl (r_b2s rfl rfl rfl rfl rfl rfl rfl rfl get_here (by rw [show ([(UInt8.ofNat m)] : List UInt8).length = 1 from rfl]; omega)) <| OA.ps [(2, (.string (bstr (([(UInt8.ofNat m)].drop 0).take 1))))] rfl <| OA.nil fun _ => ?_
 refine RA.ret env_ok ?_
 exact lf (.string (bstr (([(UInt8.ofNat m)].drop 0).take 1))) rfl
theorem zU8 {σ : Store} (z : Int) (h0 : 0 ≤ z) (h1 : z < 256) : PS Try.prog noDen 53 [.int .i64 z] σ (.string (bstr (be1 z.toNat))) := by
  obtain ⟨m, rfl⟩ := Int.eq_ofNat_of_zero_le h0
  exact sU8 m (by omega)
theorem zU16 {σ : Store} (z : Int) (h0 : 0 ≤ z) (h1 : z < 65536) : PS Try.prog noDen 55 [.int .i64 z] σ (.string (bstr (be2 z.toNat))) := by
  obtain ⟨m, rfl⟩ := Int.eq_ofNat_of_zero_le h0
  exact sU16 m (by omega)
theorem sPMay {σ : Store} (t : Int) (v : ByteArray) (b : Bool) (hb : b = true ↔ prmOk t v)   : PS Try.prog noDen 112 [(.agg ⟨[(.int .i64 t), (.string v)]⟩)] σ (.bool b) := by
 refine PS.body (E := env) env_ok rfl rfl (by show _ ≤ _; exact of_decide_eq_true (by kernel_rfl)) (fun n hd => ?_)
 refine RA.sR hd env_ok <| o1 (some 1) (Pt n 0 0) (n + 1) (n, some ⟨[[(.int .i64 t), (.string v)]], 2, 35, true⟩) rfl <| OA.ps [(2, yF)] rfl <| OA.nil fun _ => RA.sR hd env_ok <| OA.ps [(3, (Pt n 0 0))] rfl <| oL 4 (.int .i64 t) get_here ?_
 by_cases hc1 : 0 ≤ t
 ·
  refine oP 5 yT rfl (Eq.trans (r_bin rfl rfl rfl (b_geq rfl)) (dT hc1)) <| OA.ps [(6, yT), (7, (Pt n 0 0))] rfl <| oL 8 (.int .i64 t) get_here ?_
  by_cases hc2 : t < 65536
  ·
   refine oP 9 yT rfl (Eq.trans (r_bin rfl rfl rfl (b_lss rfl)) (dT hc2)) <| OA.ps [(10, yT), (11, yT), (12, (Pt n 0 1))] rfl <| oL 13 (.string v) get_here <| OA.ps [(14, (.int .i64 ((v.size : Nat) : Int)))] rfl ?_
   by_cases hc3 : ((v.size : Nat) : Int) ≤ 1000
   ·
    refine oP 15 yT rfl (Eq.trans (r_bin rfl rfl rfl (b_leq rfl)) (dT hc3)) <| OA.ps [(16, yT), (2, yT)] rfl <| OA.nil fun _ => ?_
    refine RA.ret env_ok ?_
    exact lf yT (bt hb (by first | omega | (unfold prmOk; omega)))
   ·
    refine oP 15 yF rfl (Eq.trans (r_bin rfl rfl rfl (b_leq rfl)) (dF hc3)) <| OA.ps [(16, yF), (2, yF)] rfl <| OA.nil fun _ => ?_
    refine RA.ret env_ok ?_
    exact lf yF (bf hb (fun q => by first | omega | (unfold prmOk at q; omega)))
  ·
   refine oP 9 yF rfl (Eq.trans (r_bin rfl rfl rfl (b_lss rfl)) (dF hc2)) <| OA.ps [(10, yF), (11, yF)] rfl <| OA.offs 12 4 rfl <| OA.ps [(16, yF), (2, yF)] rfl <| OA.nil fun _ => ?_
   refine RA.ret env_ok ?_
   exact lf yF (bf hb (fun q => by first | omega | (unfold prmOk at q; omega)))
 ·
  refine oP 5 yF rfl (Eq.trans (r_bin rfl rfl rfl (b_geq rfl)) (dF hc1)) <| OA.ps [(6, yF)] rfl <| OA.offs 7 3 rfl <| OA.ps [(10, yF), (11, yF)] rfl <| OA.offs 12 4 rfl <| OA.ps [(16, yF), (2, yF)] rfl <| OA.nil fun _ => ?_
  refine RA.ret env_ok ?_
  exact lf yF (bf hb (fun q => by first | omega | (unfold prmOk at q; omega)))
theorem sCMay {σ : Store} (t : Int) (v : ByteArray) (b : Bool) (hb : b = true ↔ prmOk t v)   : PS Try.prog noDen 113 [(.agg ⟨[(.int .i64 t), (.string v)]⟩)] σ (.bool b) := by
 refine PS.body (E := env) env_ok rfl rfl (by show _ ≤ _; exact of_decide_eq_true (by kernel_rfl)) (fun n hd => ?_)
 refine RA.sR hd env_ok <| o1 (some 1) (Pt n 0 0) (n + 1) (n, some ⟨[[(.int .i64 t), (.string v)]], 2, 99, true⟩) rfl <| OA.ps [(2, yF)] rfl <| OA.nil fun _ => RA.sR hd env_ok <| OA.ps [(3, (Pt n 0 0))] rfl <| oL 4 (.int .i64 t) get_here <| OA.ps [(5, (Pt n 0 1))] rfl <| oL 6 (.string v) get_here <| oP 7 (.agg ⟨[(.int .i64 t), (.string v)]⟩) rfl (by kernel_rfl) ?_
 by_cases hc1 : prmOk (t) v
 ·
  refine oC 8 (hd.of (by omega) (kb1 (by omega))) rfl rfl (sPMay (t) v true (bT hc1)) fun n1 hn1 => OA.ps [(2, yT)] rfl <| OA.nil fun _ => ?_
  refine RA.ret env_ok ?_
  exact lf yT (bt hb (by assumption))
 ·
  refine oC 8 (hd.of (by omega) (kb1 (by omega))) rfl rfl (sPMay (t) v false (bF hc1)) fun n2 hn2 => OA.ps [(2, yF)] rfl <| OA.nil fun _ => ?_
  refine RA.ret env_ok ?_
  exact lf yF (bf hb (fun q => absurd q (by assumption)))
theorem sPPut {σ : Store} (t : Int) (v : ByteArray) (h : prmOk t v)   : PS Try.prog noDen 101 [(.agg ⟨[(.int .i64 t), (.string v)]⟩)] σ (.string (bstr (pB t v))) := by
 have h1 := h.1
 have h2 := h.2.1
 have h3 := h.2.2
 refine PS.body (E := env) env_ok rfl rfl (by show _ ≤ _; exact of_decide_eq_true (by kernel_rfl)) (fun n hd => ?_)
 refine RA.sR hd env_ok <| o1 (some 1) (Pt n 0 0) (n + 1) (n, some ⟨[[(.int .i64 t), (.string v)]], 2, 35, true⟩) rfl <| OA.ps [(2, (.string (ByteArray.mk #[])))] rfl <| OA.nil fun _ => RA.seq hd <| RA.sR hd env_ok <| oP 3 (.agg ⟨[(.int .i64 t), (.string v)]⟩) rfl (r_loadA rfl rfl rfl rfl get_here rfl rfl rfl) <| oC 4 (hd.of (by omega) (kb1 (by omega))) rfl rfl (sPMay t v true (bT h)) fun n1 hn1 => OA.ps [(5, yF)] rfl <| OA.nil fun _ => RA.condF rfl ?_
 refine RA.skip env_ok ?_
 intro _
 refine RA.seq hd <| RA.par (md := [some [], some [n], none, some [], some [n], some [], some [], none, some [], some [], some [n], some [], none, some []]) env_ok (hd.of (by omega) (kb1 (by omega))) (by kernel_rfl) <| PQ.ps [(6, (Pt n 0 0))] rfl <| pQl 7 (.int .i64 t) get_here <| pA 8 (V := []) (hd.of (by omega) (kb1 (by omega))) rfl rfl (by kernel_rfl) (by kernel_rfl) (zU16 t (by omega) (by omega)) fun n2 hn2 => PQ.ps [(9, (Pt n 0 1))] rfl <| pQl 10 (.string v) get_here <| PQ.ps [(11, (.int .i64 ((v.size : Nat) : Int)))] rfl <| pP 12 (.int .i64 (((v.size + 4) : Nat) : Int)) rfl (r_bin rfl rfl rfl (b_add (i64_eq (by omega)))) <| pA 13 (V := []) (hd.of (by omega) (kb1 (by omega))) rfl rfl (by kernel_rfl) (by kernel_rfl) (sU16 (v.size + 4) (by omega)) fun n3 hn3 => pP 14 (.string (bstr ((be2 (t).toNat) ++ (be2 (v.size + 4))))) rfl (Eq.trans (r_cat rfl rfl rfl (by simp only [bstr_size, size_lit, List.length_append, be2_len, be4_len, be1_len, List.length_replicate, List.length_cons, List.length_nil, List.size_toArray]; omega)) (by rw [bstr_app] <;> rfl)) ?_
 refine PQ.ps [(15, (Pt n 0 1))] rfl <| pQl 16 (.string v) get_here <| pP 17 (.string (bstr (((be2 (t).toNat) ++ (be2 (v.size + 4))) ++ L v))) rfl (Eq.trans (r_cat rfl rfl rfl (by simp only [bstr_size, List.length_append, be2_len, be4_len, be1_len]; omega)) (by rw [bstr_appL] <;> rfl)) <| pA 18 (v := (.string (bstr (pB t v)))) (V := []) (hd.of (by omega) (kb1 (by omega))) rfl rfl (by kernel_rfl) (by kernel_rfl) (PS.to (lFilled (be2 t.toNat ++ be2 (v.size + 4) ++ L v) (by simp only [List.length_append, be2_len, L_len]; omega)) (by unfold pB pL; rw [L_len])) fun n4 hn4 => PQ.ps [(2, (.string (bstr (pB t v))))] rfl <| PQ.done (d := []) (by kernel_rfl) fun _ => ?_
 refine RA.ret env_ok ?_
 exact lf (.string (bstr (pB t v))) rfl
theorem sCPut {σ : Store} (t : Int) (v : ByteArray) (h : prmOk t v)   : PS Try.prog noDen 71 [(.agg ⟨[(.int .i64 t), (.string v)]⟩)] σ (.string (bstr (pB t v))) := by
 refine PS.body (E := env) env_ok rfl rfl (by show _ ≤ _; exact of_decide_eq_true (by kernel_rfl)) (fun n hd => ?_)
 refine RA.sR hd env_ok <| o1 (some 1) (Pt n 0 0) (n + 1) (n, some ⟨[[(.int .i64 t), (.string v)]], 2, 99, true⟩) rfl <| OA.ps [(2, (.string (ByteArray.mk #[])))] rfl <| OA.nil fun _ => RA.sR hd env_ok <| OA.ps [(3, (Pt n 0 0))] rfl <| oL 4 (.int .i64 t) get_here <| OA.ps [(5, (Pt n 0 1))] rfl <| oL 6 (.string v) get_here <| oP 7 (.agg ⟨[(.int .i64 t), (.string v)]⟩) rfl (by kernel_rfl) <| oC 8 (hd.of (by omega) (kb1 (by omega))) rfl rfl (sPPut (t) v (by assumption)) fun n1 hn1 => ?_
 refine OA.ps [(2, (.string (bstr (pB (t) v))))] rfl <| OA.nil fun _ => ?_
 refine RA.ret env_ok ?_
 exact lf (.string (bstr (pB (t) v))) rfl
theorem sPAll {σ : Store} (l : List Prm) (v : Value) (h : prmsOk l) (h16 : l.length ≤ 16)  (hv : RowQ σ 35 2 v (l.map cPrm)) : PS Try.prog noDen 102 [v] σ (.string (bstr (psL l))) := by
 refine PS.body (E := env) env_ok rfl rfl (by show _ ≤ _; exact of_decide_eq_true (by kernel_rfl)) (fun n hd => ?_)
 refine RA.sR hd env_ok <| OA.ps [(2, (.string (ByteArray.mk #[])))] rfl <| OA.nil fun _ => RA.sR hd env_ok <| OA.ps [(3, (.string (ByteArray.mk #[])))] rfl <| OA.nil fun _ => RA.seq hd <| RA.sR hd env_ok <| OA.ps [(6, v)] rfl <| oP 7 (.int .i64 ((l.length : Nat) : Int)) rfl (r_lenQ (c := cPrm) rfl rfl rfl rfl rfl rfl hv rfl) <| OA.ps [(8, (.int .i64 0))] rfl ?_
 refine OA.nil fun _ => RA.block ?_
 refine RA.loop hd (fun kk_ τ n' D => (∃ i : Nat, kk_ = (l.length - i) ∧ n ≤ n' ∧ Has τ [(3, (.string (bstr (psL (l.take i))))), (6, v), (7, (.int .i64 ((l.length : Nat) : Int))), (8, (.int .i64 ((i : Nat) : Int)))] ∧ D = [] ∧ (∀ i ∈ keys D, i < n') ∧ i ≤ l.length)) ((l.length - 0)) (⟨0, rfl, by omega, ⟨rfl, rfl, rfl, rfl, trivial⟩, rfl, (fun i hi => by cases hi), by omega⟩) ?_
 rintro kn1 τ1 n1 _ ⟨i, rfl, hn1, hHn1, rfl, hKn1, hIn1⟩
 rw [Has.eq hHn1]
 have hil := hIn1
 have hpl := psL_len h (i := i) (by omega)
 refine RA.sR hd env_ok ?_
 by_cases hc1 : ((i : Nat) : Int) < ((l.length : Nat) : Int)
 ·
  obtain ⟨rv, wqhatv, hatv⟩ := hv.get (m := i) (by omega)
  have lathatv := hd.lt hatv
  have hok := h _ (getD_mem (d := dPrm) (show i < l.length by omega))
  have hpb := pB_len hok
  refine oP 9 yT rfl (Eq.trans (r_bin rfl rfl rfl (b_lss rfl)) (dT hc1)) <| OA.nil fun _ => RA.seq hd <| RA.condT rfl <| RA.skip env_ok ?_
  intro _
  refine RA.seq hd <| RA.block <| RA.sR hd env_ok <| oP 10 (.pointer (some ⟨(rk v), i, some 0⟩)) rfl (r_iaQ (c := cPrm) (m := i) rfl rfl rfl rfl rfl rfl hv rfl (by omega) hatv rfl) <| oP 11 (.agg ⟨(cPrm (l.getD i dPrm))⟩) rfl (r_loadA (e := cPrm (l.getD i dPrm)) rfl rfl rfl rfl hatv (mp_getA (by omega)) rfl rfl) <| o1 (some 5) (Pt n1 0 0) (n1 + 1) (n1, some ⟨[[(.int .i64 0), (.string ByteArray.empty)]], 2, 35, true⟩) rfl <| o1 none yU (n1 + 1) (n1, some ⟨[(cPrm (l.getD i dPrm))], 2, 35, true⟩) (rS get_here) <| OA.nil fun _ => RA.region env_ok <| OA.ps [(12, (.string (bstr (psL (l.take i)))))] rfl <| oP 13 (.agg ⟨[(.int .i64 (l.getD i dPrm).typ), (.string (l.getD i dPrm).val)]⟩) rfl (r_loadA rfl rfl rfl rfl get_here rfl rfl rfl) ?_
  refine oC 14 (hd.of (by omega) (kb2 (by omega))) rfl rfl (sPPut ((l.getD i dPrm).typ) (l.getD i dPrm).val (by assumption)) fun n2 hn2 => oP 15 (.string (bstr ((psL (l.take i)) ++ (pB ((l.getD i dPrm).typ) (l.getD i dPrm).val)))) rfl (Eq.trans (r_cat rfl rfl rfl (by simp only [bstr_size, size_lit, List.length_append, be2_len, be4_len, be1_len, List.length_replicate, List.length_cons, List.length_nil, List.size_toArray]; omega)) (by rw [bstr_app] <;> rfl)) <| OA.ps [(3, (.string (bstr ((psL (l.take i)) ++ (pB ((l.getD i dPrm).typ) (l.getD i dPrm).val)))))] rfl <| OA.nil fun _ => RA.region env_ok <| oP 16 (.int .i64 (((i + 1) : Nat) : Int)) rfl (r_bin rfl rfl rfl (b_add (i64_eq (by omega)))) <| OA.ps [(8, (.int .i64 (((i + 1) : Nat) : Int)))] rfl <| OA.nil ?_
  refine ⟨(l.length - (i + 1)), by omega, [], (LsO fan), ⟨(i + 1), rfl, by omega, ⟨(by rw [psL_snoc (l := l) (i := i) (by omega)] <;> rfl), rfl, rfl, rfl, trivial⟩, rfl, (fun i hi => by cases hi), by omega⟩⟩
 ·
  refine oP 9 yF rfl (Eq.trans (r_bin rfl rfl rfl (b_lss rfl)) (dF hc1)) <| OA.nil fun _ => RA.seq hd <| RA.condF rfl ?_
  refine RA.exit env_ok ?_
  intro _
  refine RA.sR hd env_ok <| OA.ps [(17, (.string (bstr (psL (l.take i))))), (2, (.string (bstr (psL (l.take i)))))] rfl <| OA.nil fun _ => ?_
  refine RA.ret env_ok ?_
  exact lf (.string (bstr (psL (l.take i)))) (by rw [take_full (by omega)] <;> rfl)
theorem sCAll {σ : Store} (l : List Cau) (v : Value) (h : causOk l) (h16 : l.length ≤ 16)  (hv : RowQ σ 99 2 v (l.map cCau)) : PS Try.prog noDen 104 [v] σ (.string (bstr (csL l))) := by
 refine PS.body (E := env) env_ok rfl rfl (by show _ ≤ _; exact of_decide_eq_true (by kernel_rfl)) (fun n hd => ?_)
 refine RA.sR hd env_ok <| OA.ps [(2, (.string (ByteArray.mk #[])))] rfl <| OA.nil fun _ => RA.sR hd env_ok <| OA.ps [(3, (.string (ByteArray.mk #[])))] rfl <| OA.nil fun _ => RA.seq hd <| RA.sR hd env_ok <| OA.ps [(6, v)] rfl <| oP 7 (.int .i64 ((l.length : Nat) : Int)) rfl (r_lenQ (c := cCau) rfl rfl rfl rfl rfl rfl hv rfl) <| OA.ps [(8, (.int .i64 0))] rfl ?_
 refine OA.nil fun _ => RA.block ?_
 refine RA.loop hd (fun kk_ τ n' D => (∃ i : Nat, kk_ = (l.length - i) ∧ n ≤ n' ∧ Has τ [(3, (.string (bstr (csL (l.take i))))), (6, v), (7, (.int .i64 ((l.length : Nat) : Int))), (8, (.int .i64 ((i : Nat) : Int)))] ∧ D = [] ∧ (∀ i ∈ keys D, i < n') ∧ i ≤ l.length)) ((l.length - 0)) (⟨0, rfl, by omega, ⟨rfl, rfl, rfl, rfl, trivial⟩, rfl, (fun i hi => by cases hi), by omega⟩) ?_
 rintro kn1 τ1 n1 _ ⟨i, rfl, hn1, hHn1, rfl, hKn1, hIn1⟩
 rw [Has.eq hHn1]
 have hil := hIn1
 have hpl := csL_len h (i := i) (by omega)
 refine RA.sR hd env_ok ?_
 by_cases hc1 : ((i : Nat) : Int) < ((l.length : Nat) : Int)
 ·
  obtain ⟨rv, wqhatv, hatv⟩ := hv.get (m := i) (by omega)
  have lathatv := hd.lt hatv
  have hok := h _ (getD_mem (d := dCau) (show i < l.length by omega))
  have hpb := pB_len hok
  refine oP 9 yT rfl (Eq.trans (r_bin rfl rfl rfl (b_lss rfl)) (dT hc1)) <| OA.nil fun _ => RA.seq hd <| RA.condT rfl <| RA.skip env_ok ?_
  intro _
  refine RA.seq hd <| RA.block <| RA.sR hd env_ok <| oP 10 (.pointer (some ⟨(rk v), i, some 0⟩)) rfl (r_iaQ (c := cCau) (m := i) rfl rfl rfl rfl rfl rfl hv rfl (by omega) hatv rfl) <| oP 11 (.agg ⟨(cCau (l.getD i dCau))⟩) rfl (r_loadA (e := cCau (l.getD i dCau)) rfl rfl rfl rfl hatv (mp_getA (by omega)) rfl rfl) <| o1 (some 5) (Pt n1 0 0) (n1 + 1) (n1, some ⟨[[(.int .i64 0), (.string ByteArray.empty)]], 2, 99, true⟩) rfl <| o1 none yU (n1 + 1) (n1, some ⟨[(cCau (l.getD i dCau))], 2, 99, true⟩) (rS get_here) <| OA.nil fun _ => RA.region env_ok <| OA.ps [(12, (.string (bstr (csL (l.take i)))))] rfl <| oP 13 (.agg ⟨[(.int .i64 (l.getD i dCau).code), (.string (l.getD i dCau).info)]⟩) rfl (r_loadA rfl rfl rfl rfl get_here rfl rfl rfl) ?_
  refine oC 14 (hd.of (by omega) (kb2 (by omega))) rfl rfl (sCPut ((l.getD i dCau).code) (l.getD i dCau).info (by assumption)) fun n2 hn2 => oP 15 (.string (bstr ((csL (l.take i)) ++ (pB ((l.getD i dCau).code) (l.getD i dCau).info)))) rfl (Eq.trans (r_cat rfl rfl rfl (by simp only [bstr_size, size_lit, List.length_append, be2_len, be4_len, be1_len, List.length_replicate, List.length_cons, List.length_nil, List.size_toArray]; omega)) (by rw [bstr_app] <;> rfl)) <| OA.ps [(3, (.string (bstr ((csL (l.take i)) ++ (pB ((l.getD i dCau).code) (l.getD i dCau).info)))))] rfl <| OA.nil fun _ => RA.region env_ok <| oP 16 (.int .i64 (((i + 1) : Nat) : Int)) rfl (r_bin rfl rfl rfl (b_add (i64_eq (by omega)))) <| OA.ps [(8, (.int .i64 (((i + 1) : Nat) : Int)))] rfl <| OA.nil ?_
  refine ⟨(l.length - (i + 1)), by omega, [], (LsO fan), ⟨(i + 1), rfl, by omega, ⟨(by rw [csL_snoc (l := l) (i := i) (by omega)] <;> rfl), rfl, rfl, rfl, trivial⟩, rfl, (fun i hi => by cases hi), by omega⟩⟩
 ·
  refine oP 9 yF rfl (Eq.trans (r_bin rfl rfl rfl (b_lss rfl)) (dF hc1)) <| OA.nil fun _ => RA.seq hd <| RA.condF rfl ?_
  refine RA.exit env_ok ?_
  intro _
  refine RA.sR hd env_ok <| OA.ps [(17, (.string (bstr (csL (l.take i))))), (2, (.string (bstr (csL (l.take i)))))] rfl <| OA.nil fun _ => ?_
  refine RA.ret env_ok ?_
  exact lf (.string (bstr (csL (l.take i)))) (by rw [take_full (by omega)] <;> rfl)
end Go.Proofs.Ytgajcmanompmcaa.Vt
/- Cp2: walks through functions of the program, by the calculus; written by a program of this workplace. -/
namespace Go.Proofs.Ytgajcmanompmcaa.Vt
open Go Go.Proofs Go.Proofs.YtgajcmanompmcaaV
set_option maxRecDepth 100000
set_option linter.unusedVariables false
set_option linter.unusedSimpArgs false
set_option maxHeartbeats 8000000
abbrev xCp21 (d : Chk) : List Value := [(.int .i64 d.typ), (.int .i64 d.flags), (W d.tsn), (.int .i64 d.stream), (.int .i64 d.ssn), (W d.proto), (.string d.data), (W d.tag), (W d.rwnd), (.int .i64 d.outs), (.int .i64 d.ins), d.pv, d.cv, d.gv, d.dv]
theorem sKnown {σ : Store} (t : Int) (b : Bool) (hb : b = true ↔ (kd t ≠ 20))   : PS Try.prog noDen 34 [(.int .i64 t)] σ (.bool b) := by
 refine PS.body (E := env) env_ok rfl rfl (by show _ ≤ _; exact of_decide_eq_true (by kernel_rfl)) (fun n hd => ?_)
 refine RA.sR hd env_ok <| OA.ps [(2, yF)] rfl <| OA.nil fun _ => RA.sR hd env_ok <| OA.ps [(3, (.int .i64 t))] rfl ?_
 by_cases hc1 : 0 ≤ t
 ·
  refine oP 4 yT rfl (Eq.trans (r_bin rfl rfl rfl (b_geq rfl)) (dT hc1)) <| OA.ps [(5, yT), (6, (.int .i64 t))] rfl ?_
  by_cases hc2 : t ≤ 11
  ·
   refine oP 7 yT rfl (Eq.trans (r_bin rfl rfl rfl (b_leq rfl)) (dT hc2)) <| OA.ps [(8, yT), (9, yT)] rfl <| OA.offs 10 2 rfl <| OA.ps [(12, yT), (13, yT)] rfl <| OA.offs 14 2 rfl <| OA.ps [(16, yT), (17, yT)] rfl <| OA.offs 18 2 rfl <| OA.ps [(20, yT), (21, yT)] rfl <| OA.offs 22 2 rfl <| OA.ps [(24, yT), (25, yT)] rfl <| OA.offs 26 2 rfl ?_
   refine OA.ps [(28, yT), (2, yT)] rfl <| OA.nil fun _ => RA.rb [(0, (.int .i64 t)), (2, yT)] rfl (fun τr1 => ?_)
   refine RA.ret env_ok ?_
   exact lf yT (bt hb (by have := kd_cases t; omega))
  ·
   refine oP 7 yF rfl (Eq.trans (r_bin rfl rfl rfl (b_leq rfl)) (dF hc2)) <| OA.ps [(8, yF), (9, yF), (10, (.int .i64 t))] rfl ?_
   by_cases hc3 : t = 14
   ·
    refine oP 11 yT rfl (Eq.trans (r_bin rfl rfl rfl (b_eql rfl)) (dT hc3)) <| OA.ps [(12, yT), (13, yT)] rfl <| OA.offs 14 2 rfl <| OA.ps [(16, yT), (17, yT)] rfl <| OA.offs 18 2 rfl <| OA.ps [(20, yT), (21, yT)] rfl <| OA.offs 22 2 rfl <| OA.ps [(24, yT), (25, yT)] rfl <| OA.offs 26 2 rfl <| OA.ps [(28, yT), (2, yT)] rfl <| OA.nil fun _ => ?_
    refine RA.rb [(0, (.int .i64 t)), (2, yT)] rfl (fun τr2 => ?_)
    refine RA.ret env_ok ?_
    exact lf yT (bt hb (by have := kd_cases t; omega))
   ·
    refine oP 11 yF rfl (Eq.trans (r_bin rfl rfl rfl (b_eql rfl)) (dF hc3)) <| OA.ps [(12, yF), (13, yF), (14, (.int .i64 t))] rfl ?_
    by_cases hc4 : t = 15
    ·
     refine oP 15 yT rfl (Eq.trans (r_bin rfl rfl rfl (b_eql rfl)) (dT hc4)) <| OA.ps [(16, yT), (17, yT)] rfl <| OA.offs 18 2 rfl <| OA.ps [(20, yT), (21, yT)] rfl <| OA.offs 22 2 rfl <| OA.ps [(24, yT), (25, yT)] rfl <| OA.offs 26 2 rfl <| OA.ps [(28, yT), (2, yT)] rfl <| OA.nil fun _ => RA.rb [(0, (.int .i64 t)), (2, yT)] rfl (fun τr3 => ?_)
     refine RA.ret env_ok ?_
     exact lf yT (bt hb (by have := kd_cases t; omega))
    ·
     refine oP 15 yF rfl (Eq.trans (r_bin rfl rfl rfl (b_eql rfl)) (dF hc4)) <| OA.ps [(16, yF), (17, yF), (18, (.int .i64 t))] rfl ?_
     by_cases hc5 : t = 193
     ·
      refine oP 19 yT rfl (Eq.trans (r_bin rfl rfl rfl (b_eql rfl)) (dT hc5)) <| OA.ps [(20, yT), (21, yT)] rfl <| OA.offs 22 2 rfl <| OA.ps [(24, yT), (25, yT)] rfl <| OA.offs 26 2 rfl <| OA.ps [(28, yT), (2, yT)] rfl <| OA.nil fun _ => RA.rb [(0, (.int .i64 t)), (2, yT)] rfl (fun τr4 => ?_)
      refine RA.ret env_ok ?_
      exact lf yT (bt hb (by have := kd_cases t; omega))
     ·
      refine oP 19 yF rfl (Eq.trans (r_bin rfl rfl rfl (b_eql rfl)) (dF hc5)) <| OA.ps [(20, yF), (21, yF), (22, (.int .i64 t))] rfl ?_
      by_cases hc6 : t = 128
      ·
       refine oP 23 yT rfl (Eq.trans (r_bin rfl rfl rfl (b_eql rfl)) (dT hc6)) <| OA.ps [(24, yT), (25, yT)] rfl <| OA.offs 26 2 rfl <| OA.ps [(28, yT), (2, yT)] rfl <| OA.nil fun _ => RA.rb [(0, (.int .i64 t)), (2, yT)] rfl (fun τr5 => ?_)
       refine RA.ret env_ok ?_
       exact lf yT (bt hb (by have := kd_cases t; omega))
      ·
       refine oP 23 yF rfl (Eq.trans (r_bin rfl rfl rfl (b_eql rfl)) (dF hc6)) <| OA.ps [(24, yF), (25, yF), (26, (.int .i64 t))] rfl ?_
       by_cases hc7 : t = 130
       ·
        refine oP 27 yT rfl (Eq.trans (r_bin rfl rfl rfl (b_eql rfl)) (dT hc7)) <| OA.ps [(28, yT), (2, yT)] rfl <| OA.nil fun _ => RA.rb [(0, (.int .i64 t)), (2, yT)] rfl (fun τr6 => ?_)
        refine RA.ret env_ok ?_
        exact lf yT (bt hb (by have := kd_cases t; omega))
       ·
        refine oP 27 yF rfl (Eq.trans (r_bin rfl rfl rfl (b_eql rfl)) (dF hc7)) <| OA.ps [(28, yF), (2, yF)] rfl <| OA.nil fun _ => RA.rb [(0, (.int .i64 t)), (2, yF)] rfl (fun τr7 => ?_)
        refine RA.ret env_ok ?_
        exact lf yF (bf hb (fun q => by have := kd_cases t; omega))
 ·
  refine oP 4 yF rfl (Eq.trans (r_bin rfl rfl rfl (b_geq rfl)) (dF hc1)) <| OA.ps [(5, yF)] rfl <| OA.offs 6 2 rfl <| OA.ps [(8, yF), (9, yF), (10, (.int .i64 t))] rfl ?_
  by_cases hc8 : t = 14
  ·
   refine oP 11 yT rfl (Eq.trans (r_bin rfl rfl rfl (b_eql rfl)) (dT hc8)) <| OA.ps [(12, yT), (13, yT)] rfl <| OA.offs 14 2 rfl <| OA.ps [(16, yT), (17, yT)] rfl <| OA.offs 18 2 rfl <| OA.ps [(20, yT), (21, yT)] rfl <| OA.offs 22 2 rfl <| OA.ps [(24, yT), (25, yT)] rfl <| OA.offs 26 2 rfl <| OA.ps [(28, yT), (2, yT)] rfl <| OA.nil fun _ => ?_
   refine RA.rb [(0, (.int .i64 t)), (2, yT)] rfl (fun τr8 => ?_)
   refine RA.ret env_ok ?_
   exact lf yT (bt hb (by have := kd_cases t; omega))
  ·
   refine oP 11 yF rfl (Eq.trans (r_bin rfl rfl rfl (b_eql rfl)) (dF hc8)) <| OA.ps [(12, yF), (13, yF), (14, (.int .i64 t))] rfl ?_
   by_cases hc9 : t = 15
   ·
    refine oP 15 yT rfl (Eq.trans (r_bin rfl rfl rfl (b_eql rfl)) (dT hc9)) <| OA.ps [(16, yT), (17, yT)] rfl <| OA.offs 18 2 rfl <| OA.ps [(20, yT), (21, yT)] rfl <| OA.offs 22 2 rfl <| OA.ps [(24, yT), (25, yT)] rfl <| OA.offs 26 2 rfl <| OA.ps [(28, yT), (2, yT)] rfl <| OA.nil fun _ => RA.rb [(0, (.int .i64 t)), (2, yT)] rfl (fun τr9 => ?_)
    refine RA.ret env_ok ?_
    exact lf yT (bt hb (by have := kd_cases t; omega))
   ·
    refine oP 15 yF rfl (Eq.trans (r_bin rfl rfl rfl (b_eql rfl)) (dF hc9)) <| OA.ps [(16, yF), (17, yF), (18, (.int .i64 t))] rfl ?_
    by_cases hc10 : t = 193
    ·
     refine oP 19 yT rfl (Eq.trans (r_bin rfl rfl rfl (b_eql rfl)) (dT hc10)) <| OA.ps [(20, yT), (21, yT)] rfl <| OA.offs 22 2 rfl <| OA.ps [(24, yT), (25, yT)] rfl <| OA.offs 26 2 rfl <| OA.ps [(28, yT), (2, yT)] rfl <| OA.nil fun _ => RA.rb [(0, (.int .i64 t)), (2, yT)] rfl (fun τr10 => ?_)
     refine RA.ret env_ok ?_
     exact lf yT (bt hb (by have := kd_cases t; omega))
    ·
     refine oP 19 yF rfl (Eq.trans (r_bin rfl rfl rfl (b_eql rfl)) (dF hc10)) <| OA.ps [(20, yF), (21, yF), (22, (.int .i64 t))] rfl ?_
     by_cases hc11 : t = 128
     ·
      refine oP 23 yT rfl (Eq.trans (r_bin rfl rfl rfl (b_eql rfl)) (dT hc11)) <| OA.ps [(24, yT), (25, yT)] rfl <| OA.offs 26 2 rfl <| OA.ps [(28, yT), (2, yT)] rfl <| OA.nil fun _ => RA.rb [(0, (.int .i64 t)), (2, yT)] rfl (fun τr11 => ?_)
      refine RA.ret env_ok ?_
      exact lf yT (bt hb (by have := kd_cases t; omega))
     ·
      refine oP 23 yF rfl (Eq.trans (r_bin rfl rfl rfl (b_eql rfl)) (dF hc11)) <| OA.ps [(24, yF), (25, yF), (26, (.int .i64 t))] rfl ?_
      by_cases hc12 : t = 130
      ·
       refine oP 27 yT rfl (Eq.trans (r_bin rfl rfl rfl (b_eql rfl)) (dT hc12)) <| OA.ps [(28, yT), (2, yT)] rfl <| OA.nil fun _ => RA.rb [(0, (.int .i64 t)), (2, yT)] rfl (fun τr12 => ?_)
       refine RA.ret env_ok ?_
       exact lf yT (bt hb (by have := kd_cases t; omega))
      ·
       refine oP 27 yF rfl (Eq.trans (r_bin rfl rfl rfl (b_eql rfl)) (dF hc12)) <| OA.ps [(28, yF), (2, yF)] rfl <| OA.nil fun _ => RA.rb [(0, (.int .i64 t)), (2, yF)] rfl (fun τr13 => ?_)
       refine RA.ret env_ok ?_
       exact lf yF (bf hb (fun q => by have := kd_cases t; omega))
theorem sFlags {σ : Store} (t : Int)   : PS Try.prog noDen 80 [(.int .i64 t)] σ (.int .i64 ((fl t : Nat) : Int)) := by
 refine PS.body (E := env) env_ok rfl rfl (by show _ ≤ _; exact of_decide_eq_true (by kernel_rfl)) (fun n hd => ?_)
 refine RA.sR hd env_ok <| OA.ps [(2, (.int .i64 0))] rfl <| OA.nil fun _ => RA.seq hd <| RA.sR hd env_ok <| OA.ps [(3, (.int .i64 t))] rfl <| OA.nil fun _ => RA.block <| RA.sR hd env_ok ?_
 by_cases hc1 : t = 0
 ·
  refine oP 5 yT rfl (Eq.trans (r_bin rfl rfl rfl (b_eql rfl)) (dT hc1)) <| OA.ps [(4, yT)] rfl <| OA.nil fun _ => RA.condT rfl <| RA.sR hd env_ok <| OA.ps [(2, (.int .i64 7))] rfl <| OA.nil fun _ => ?_
  refine RA.ret env_ok ?_
  exact lf (.int .i64 7) (by rw [show fl t = 7 from by have := fl_cases t; have := kd_cases t; omega] <;> rfl)
 ·
  refine oP 5 yF rfl (Eq.trans (r_bin rfl rfl rfl (b_eql rfl)) (dF hc1)) <| OA.ps [(4, yF)] rfl <| OA.nil fun _ => RA.condF rfl <| RA.seq hd <| RA.sR hd env_ok ?_
  by_cases hc2 : t = 6
  ·
   refine oP 7 yT rfl (Eq.trans (r_bin rfl rfl rfl (b_eql rfl)) (dT hc2)) <| OA.ps [(6, yT)] rfl <| OA.nil fun _ => RA.condT rfl <| RA.skip env_ok ?_
   intro _
   refine RA.condT rfl <| RA.sR hd env_ok <| OA.ps [(2, (.int .i64 3))] rfl <| OA.nil fun _ => ?_
   refine RA.ret env_ok ?_
   exact lf (.int .i64 3) (by rw [show fl t = 3 from by have := fl_cases t; have := kd_cases t; omega] <;> rfl)
  ·
   refine oP 7 yF rfl (Eq.trans (r_bin rfl rfl rfl (b_eql rfl)) (dF hc2)) <| OA.ps [(6, yF)] rfl <| OA.nil fun _ => RA.condF rfl <| RA.region env_ok ?_
   by_cases hc3 : t = 9
   ·
    refine oP 8 yT rfl (Eq.trans (r_bin rfl rfl rfl (b_eql rfl)) (dT hc3)) <| OA.ps [(6, yT)] rfl <| OA.nil fun _ => RA.condT rfl <| RA.sR hd env_ok <| OA.ps [(2, (.int .i64 3))] rfl <| OA.nil fun _ => ?_
    refine RA.ret env_ok ?_
    exact lf (.int .i64 3) (by rw [show fl t = 3 from by have := fl_cases t; have := kd_cases t; omega] <;> rfl)
   ·
    refine oP 8 yF rfl (Eq.trans (r_bin rfl rfl rfl (b_eql rfl)) (dF hc3)) <| OA.ps [(6, yF)] rfl <| OA.nil fun _ => RA.condF rfl <| RA.sR hd env_ok ?_
    by_cases hc4 : t = 14
    ·
     refine oP 10 yT rfl (Eq.trans (r_bin rfl rfl rfl (b_eql rfl)) (dT hc4)) <| OA.ps [(9, yT)] rfl <| OA.nil fun _ => RA.condT rfl <| RA.sR hd env_ok <| OA.ps [(2, (.int .i64 1))] rfl <| OA.nil fun _ => ?_
     refine RA.ret env_ok ?_
     exact lf (.int .i64 1) (by rw [show fl t = 1 from by have := fl_cases t; have := kd_cases t; omega] <;> rfl)
    ·
     refine oP 10 yF rfl (Eq.trans (r_bin rfl rfl rfl (b_eql rfl)) (dF hc4)) <| OA.ps [(9, yF)] rfl <| OA.nil fun _ => RA.condF rfl <| RA.skip env_ok ?_
     intro _
     refine RA.seq hd <| RA.sR hd env_ok <| OA.ps [(11, (.int .i64 t))] rfl ?_
     by_cases hc5 : (kd (t) ≠ 20)
     ·
      refine oC 12 (hd.up (by omega)) rfl rfl (sKnown (t) true (bT hc5)) fun n1 hn1 => OA.nil fun _ => RA.condT rfl <| RA.sR hd env_ok <| OA.ps [(2, (.int .i64 0))] rfl <| OA.nil fun _ => ?_
      refine RA.ret env_ok ?_
      exact lf (.int .i64 0) (by rw [show fl t = 0 from by have := fl_cases t; have := kd_cases t; omega] <;> rfl)
     ·
      refine oC 12 (hd.up (by omega)) rfl rfl (sKnown (t) false (bF hc5)) fun n2 hn2 => OA.nil fun _ => RA.condF rfl <| RA.skip env_ok ?_
      intro _
      refine RA.sR hd env_ok <| OA.ps [(2, (.int .i64 255))] rfl <| OA.nil fun _ => ?_
      refine RA.ret env_ok ?_
      exact lf (.int .i64 255) (by rw [show fl t = 255 from by have := fl_cases t; have := kd_cases t; omega] <;> rfl)
theorem sWord {σ : Store} (t : Int) (b : Bool) (hb : b = true ↔ wordP t)   : PS Try.prog noDen 82 [(.int .i64 t)] σ (.bool b) := by
 refine PS.body (E := env) env_ok rfl rfl (by show _ ≤ _; exact of_decide_eq_true (by kernel_rfl)) (fun n hd => ?_)
 refine RA.sR hd env_ok <| OA.ps [(2, yF)] rfl <| OA.nil fun _ => RA.sR hd env_ok <| OA.ps [(3, (.int .i64 t))] rfl ?_
 by_cases hc1 : 0 ≤ t
 ·
  refine oP 4 yT rfl (Eq.trans (r_bin rfl rfl rfl (b_geq rfl)) (dT hc1)) <| OA.ps [(5, yT), (6, (.int .i64 t))] rfl ?_
  by_cases hc2 : t < 65536
  ·
   refine oP 7 yT rfl (Eq.trans (r_bin rfl rfl rfl (b_lss rfl)) (dT hc2)) <| OA.ps [(8, yT), (2, yT)] rfl <| OA.nil fun _ => ?_
   refine RA.ret env_ok ?_
   exact lf yT (bt hb (by first | omega | (unfold wordP; omega)))
  ·
   refine oP 7 yF rfl (Eq.trans (r_bin rfl rfl rfl (b_lss rfl)) (dF hc2)) <| OA.ps [(8, yF), (2, yF)] rfl <| OA.nil fun _ => ?_
   refine RA.ret env_ok ?_
   exact lf yF (bf hb (fun q => by first | omega | (unfold wordP at q; omega)))
 ·
  refine oP 4 yF rfl (Eq.trans (r_bin rfl rfl rfl (b_geq rfl)) (dF hc1)) <| OA.ps [(5, yF)] rfl <| OA.offs 6 2 rfl <| OA.ps [(8, yF), (2, yF)] rfl <| OA.nil fun _ => ?_
  refine RA.ret env_ok ?_
  exact lf yF (bf hb (fun q => by first | omega | (unfold wordP at q; omega)))
theorem sLists {σ : Store} (d : Chk) (b : Bool) (hb : b = true ↔ listsP d)  (h : gd σ d) : PS Try.prog noDen 81 [(.agg ⟨(cChk d)⟩)] σ (.bool b) := by
 have hp18 := h.p18
 have hc18 := h.c18
 have hg18 := h.g18
 have hd18 := h.u18
 have hfl := h.fl
 refine PS.body (E := env) env_ok rfl rfl (by show _ ≤ _; exact of_decide_eq_true (by kernel_rfl)) (fun n hd => ?_)
 refine RA.sR hd env_ok <| o1 (some 1) (Pt n 0 0) (n + 1) (n, some ⟨[(cChk d)], 15, 53, true⟩) (r_box (cs := (cChk d)) rfl rfl rfl (Nat.le_of_ble_eq_true rfl) (by simp only [List.all_cons, List.all_nil, Bool.and_true, Bool.and_eq_true, cChk]; exact ⟨rfl, rfl, rfl, rfl, rfl, rfl, rfl, rfl, rfl, rfl, rfl, (h.hp).one, (h.hc).one, (h.hg).one, (h.hu).one⟩)) <| OA.ps [(2, yF)] rfl <| OA.nil fun _ => RA.seq hd <| RA.sR hd env_ok <| OA.ps [(7, (Pt n 0 11))] rfl <| oL 8 d.pv get_here <| oP 9 (.int .i64 ((d.ps.length : Nat) : Int)) rfl (r_lenQ (c := cPrm) rfl rfl rfl rfl rfl rfl h.hp rfl) <| OA.ps [(10, (.int .i64 0))] rfl <| OA.nil fun _ => ?_
 refine RA.block ?_
 refine RA.loop hd (fun kk_ τ n' D => (∃ i : Nat, kk_ = (d.ps.length - i) ∧ (n + 1) ≤ n' ∧ Has τ [(1, (Pt n 0 0)), (8, d.pv), (9, (.int .i64 ((d.ps.length : Nat) : Int))), (10, (.int .i64 ((i : Nat) : Int)))] ∧ D = [(n, some ⟨[(xCp21 d)], 15, 53, true⟩)] ∧ (∀ i ∈ keys D, i < n') ∧ i ≤ d.ps.length ∧ (∀ p ∈ d.ps.take i, prmOk p.typ p.val))) ((d.ps.length - 0)) (⟨0, rfl, by omega, ⟨rfl, rfl, rfl, rfl, trivial⟩, rfl, (kb1 (by omega)), ⟨by omega, fun p hp => by simp at hp⟩⟩) ?_
 rintro kn1 τ1 n1 _ ⟨i, rfl, hn1, hHn1, rfl, hKn1, hIn1⟩
 rw [Has.eq hHn1]
 have hKn1_0 := kk0 hKn1
 clear hKn1
 obtain ⟨hili, hall⟩ := hIn1
 refine RA.sR hd env_ok ?_
 by_cases hc1 : ((i : Nat) : Int) < ((d.ps.length : Nat) : Int)
 ·
  obtain ⟨rp, wqhatp, hatp⟩ := h.hp.get (m := i) (by omega)
  have lathatp := hd.lt hatp
  refine oP 11 yT rfl (Eq.trans (r_bin rfl rfl rfl (b_lss rfl)) (dT hc1)) <| OA.nil fun _ => RA.seq hd <| RA.condT rfl <| RA.skip env_ok ?_
  intro _
  refine RA.seq hd <| RA.block <| RA.sR hd env_ok <| oP 12 (.pointer (some ⟨(rk d.pv), i, some 0⟩)) rfl (r_iaQ (c := cPrm) (m := i) rfl rfl rfl rfl rfl rfl h.hp rfl (by omega) (get_there (by omega) hatp) rfl) <| oP 13 (.agg ⟨(cPrm (d.ps.getD i dPrm))⟩) rfl (r_loadA (e := cPrm (d.ps.getD i dPrm)) rfl rfl rfl rfl (get_there (by omega) hatp) (mp_getA (by omega)) rfl rfl) <| o1 (some 4) (Pt n1 0 0) (n1 + 1) (n1, some ⟨[[(.int .i64 0), (.string ByteArray.empty)]], 2, 35, true⟩) rfl <| o1 none yU (n1 + 1) (n1, some ⟨[(cPrm (d.ps.getD i dPrm))], 2, 35, true⟩) (rS get_here) <| OA.nil fun _ => RA.sR hd env_ok <| oP 14 (.agg ⟨[(.int .i64 (d.ps.getD i dPrm).typ), (.string (d.ps.getD i dPrm).val)]⟩) rfl (r_loadA rfl rfl rfl rfl get_here rfl rfl rfl) ?_
  by_cases hc2 : prmOk ((d.ps.getD i dPrm).typ) (d.ps.getD i dPrm).val
  ·
   refine oC 15 (hd.of (by omega) (kb3 (by omega))) rfl rfl (sPMay ((d.ps.getD i dPrm).typ) (d.ps.getD i dPrm).val true (bT hc2)) fun n2 hn2 => OA.ps [(16, yF)] rfl <| OA.nil fun _ => RA.condF rfl <| RA.skip env_ok ?_
   intro _
   refine RA.region env_ok <| oP 17 (.int .i64 (((i + 1) : Nat) : Int)) rfl (r_bin rfl rfl rfl (b_add (i64_eq (by omega)))) <| OA.ps [(10, (.int .i64 (((i + 1) : Nat) : Int)))] rfl <| OA.nil ?_
   refine ⟨(d.ps.length - (i + 1)), by omega, [(n, some ⟨[(xCp21 d)], 15, 53, true⟩)], (LsO (fA get_here (gt2 (by omega) get_here) fan)), ⟨(i + 1), rfl, by omega, ⟨rfl, rfl, rfl, rfl, trivial⟩, rfl, (kb1 (by omega)), ⟨by omega, take_all (d0 := dPrm) (by omega) hall (by assumption)⟩⟩⟩
  ·
   have hnl : ¬ listsP d := fun q => hc2 (q.1 _ (getD_mem (by omega)))
   refine oC 15 (hd.of (by omega) (kb3 (by omega))) rfl rfl (sPMay ((d.ps.getD i dPrm).typ) (d.ps.getD i dPrm).val false (bF hc2)) fun n3 hn3 => OA.ps [(16, yT)] rfl <| OA.nil fun _ => RA.condT rfl <| RA.sR hd env_ok <| OA.ps [(2, yF)] rfl <| OA.nil fun _ => ?_
   refine RA.ret env_ok ?_
   exact lf yF (bf hb (fun q => by first | exact absurd q (by assumption) | (have q1 := q.2.2.1; have q2 := q.2.2.2; omega)))
 ·
  have hpsk : prmsOk d.ps := by rw [take_full (by omega)] at hall; exact hall
  refine oP 11 yF rfl (Eq.trans (r_bin rfl rfl rfl (b_lss rfl)) (dF hc1)) <| OA.nil fun _ => RA.seq hd <| RA.condF rfl ?_
  refine RA.exit env_ok ?_
  intro _
  refine RA.seq hd <| RA.sR hd env_ok <| OA.ps [(18, (Pt n 0 12))] rfl <| oL 19 d.cv get_here <| oP 20 (.int .i64 ((d.cs.length : Nat) : Int)) rfl (r_lenQ (c := cCau) rfl rfl rfl rfl rfl rfl h.hc rfl) <| OA.ps [(21, (.int .i64 0))] rfl <| OA.nil fun _ => RA.block ?_
  refine RA.loop hd (fun kk_ τ n' D => (∃ m : Nat, kk_ = (d.cs.length - m) ∧ n1 ≤ n' ∧ Has τ [(1, (Pt n 0 0)), (19, d.cv), (20, (.int .i64 ((d.cs.length : Nat) : Int))), (21, (.int .i64 ((m : Nat) : Int)))] ∧ D = [(n, some ⟨[(xCp21 d)], 15, 53, true⟩)] ∧ (∀ i ∈ keys D, i < n') ∧ m ≤ d.cs.length ∧ (∀ p ∈ d.cs.take m, prmOk p.code p.info))) ((d.cs.length - 0)) (⟨0, rfl, by omega, ⟨rfl, rfl, rfl, rfl, trivial⟩, rfl, (kb1 (by omega)), ⟨by omega, fun p hp => by simp at hp⟩⟩) ?_
  rintro kn4 τ4 n4 _ ⟨m, rfl, hn4, hHn4, rfl, hKn4, hIn4⟩
  rw [Has.eq hHn4]
  have hKn4_0 := kk0 hKn4
  clear hKn4
  obtain ⟨hilm, halm⟩ := hIn4
  refine RA.sR hd env_ok ?_
  by_cases hc3 : ((m : Nat) : Int) < ((d.cs.length : Nat) : Int)
  ·
   obtain ⟨rc, wqhatc, hatc⟩ := h.hc.get (m := m) (by omega)
   have lathatc := hd.lt hatc
   refine oP 22 yT rfl (Eq.trans (r_bin rfl rfl rfl (b_lss rfl)) (dT hc3)) <| OA.nil fun _ => RA.seq hd <| RA.condT rfl <| RA.skip env_ok ?_
   intro _
   refine RA.seq hd <| RA.block <| RA.sR hd env_ok <| oP 23 (.pointer (some ⟨(rk d.cv), m, some 0⟩)) rfl (r_iaQ (c := cCau) (m := m) rfl rfl rfl rfl rfl rfl h.hc rfl (by omega) (get_there (by omega) hatc) rfl) <| oP 24 (.agg ⟨(cCau (d.cs.getD m dCau))⟩) rfl (r_loadA (e := cCau (d.cs.getD m dCau)) rfl rfl rfl rfl (get_there (by omega) hatc) (mp_getA (by omega)) rfl rfl) <| o1 (some 6) (Pt n4 0 0) (n4 + 1) (n4, some ⟨[[(.int .i64 0), (.string ByteArray.empty)]], 2, 99, true⟩) rfl <| o1 none yU (n4 + 1) (n4, some ⟨[(cCau (d.cs.getD m dCau))], 2, 99, true⟩) (rS get_here) <| OA.nil fun _ => RA.sR hd env_ok <| oP 25 (.agg ⟨[(.int .i64 (d.cs.getD m dCau).code), (.string (d.cs.getD m dCau).info)]⟩) rfl (r_loadA rfl rfl rfl rfl get_here rfl rfl rfl) ?_
   by_cases hc4 : prmOk ((d.cs.getD m dCau).code) (d.cs.getD m dCau).info
   ·
    refine oC 26 (hd.of (by omega) (kb3 (by omega))) rfl rfl (sCMay ((d.cs.getD m dCau).code) (d.cs.getD m dCau).info true (bT hc4)) fun n5 hn5 => OA.ps [(27, yF)] rfl <| OA.nil fun _ => RA.condF rfl <| RA.skip env_ok ?_
    intro _
    refine RA.region env_ok <| oP 28 (.int .i64 (((m + 1) : Nat) : Int)) rfl (r_bin rfl rfl rfl (b_add (i64_eq (by omega)))) <| OA.ps [(21, (.int .i64 (((m + 1) : Nat) : Int)))] rfl <| OA.nil ?_
    refine ⟨(d.cs.length - (m + 1)), by omega, [(n, some ⟨[(xCp21 d)], 15, 53, true⟩)], (LsO (fA get_here (gt2 (by omega) get_here) fan)), ⟨(m + 1), rfl, by omega, ⟨rfl, rfl, rfl, rfl, trivial⟩, rfl, (kb1 (by omega)), ⟨by omega, take_all (d0 := dCau) (by omega) halm (by assumption)⟩⟩⟩
   ·
    have hnl : ¬ listsP d := fun q => hc4 (q.2.1 _ (getD_mem (by omega)))
    refine oC 26 (hd.of (by omega) (kb3 (by omega))) rfl rfl (sCMay ((d.cs.getD m dCau).code) (d.cs.getD m dCau).info false (bF hc4)) fun n6 hn6 => OA.ps [(27, yT)] rfl <| OA.nil fun _ => RA.condT rfl <| RA.sR hd env_ok <| OA.ps [(2, yF)] rfl <| OA.nil fun _ => ?_
    refine RA.ret env_ok ?_
    exact lf yF (bf hb (fun q => by first | exact absurd q (by assumption) | (have q1 := q.2.2.1; have q2 := q.2.2.2; omega)))
  ·
   have hcsk : causOk d.cs := by rw [take_full (by omega)] at halm; exact halm
   refine oP 22 yF rfl (Eq.trans (r_bin rfl rfl rfl (b_lss rfl)) (dF hc3)) <| OA.nil fun _ => RA.seq hd <| RA.condF rfl ?_
   refine RA.exit env_ok ?_
   intro _
   refine RA.sR hd env_ok <| OA.ps [(29, (Pt n 0 11))] rfl <| oL 30 d.pv get_here <| oP 31 (.int .i64 ((d.ps.length : Nat) : Int)) rfl (r_lenQ (c := cPrm) rfl rfl rfl rfl rfl rfl h.hp rfl) ?_
   by_cases hc5 : ((d.ps.length : Nat) : Int) ≤ 16
   ·
    refine oP 32 yT rfl (Eq.trans (r_bin rfl rfl rfl (b_leq rfl)) (dT hc5)) <| OA.ps [(33, yT), (34, (Pt n 0 12))] rfl <| oL 35 d.cv get_here <| oP 36 (.int .i64 ((d.cs.length : Nat) : Int)) rfl (r_lenQ (c := cCau) rfl rfl rfl rfl rfl rfl h.hc rfl) ?_
    by_cases hc6 : ((d.cs.length : Nat) : Int) ≤ 16
    ·
     refine oP 37 yT rfl (Eq.trans (r_bin rfl rfl rfl (b_leq rfl)) (dT hc6)) <| OA.ps [(38, yT), (2, yT)] rfl <| OA.nil fun _ => ?_
     refine RA.ret env_ok ?_
     exact lf yT (bt hb (⟨hpsk, hcsk, by omega, by omega⟩))
    ·
     refine oP 37 yF rfl (Eq.trans (r_bin rfl rfl rfl (b_leq rfl)) (dF hc6)) <| OA.ps [(38, yF), (2, yF)] rfl <| OA.nil fun _ => ?_
     refine RA.ret env_ok ?_
     exact lf yF (bf hb (fun q => by first | exact absurd q (by assumption) | (have q1 := q.2.2.1; have q2 := q.2.2.2; omega)))
   ·
    refine oP 32 yF rfl (Eq.trans (r_bin rfl rfl rfl (b_leq rfl)) (dF hc5)) <| OA.ps [(33, yF)] rfl <| OA.offs 34 4 rfl <| OA.ps [(38, yF), (2, yF)] rfl <| OA.nil fun _ => ?_
    refine RA.ret env_ok ?_
    exact lf yF (bf hb (fun q => by first | exact absurd q (by assumption) | (have q1 := q.2.2.1; have q2 := q.2.2.2; omega)))
theorem sRising {σ : Store} (d : Chk) (b : Bool) (hb : b = true ↔ gapsP d.gs)  (h : gd σ d) : PS Try.prog noDen 83 [d.gv] σ (.bool b) := by
 have hp18 := h.p18
 have hc18 := h.c18
 have hg18 := h.g18
 have hd18 := h.u18
 have hfl := h.fl
 refine PS.body (E := env) env_ok rfl rfl (by show _ ≤ _; exact of_decide_eq_true (by kernel_rfl)) (fun n hd => ?_)
 refine RA.sR hd env_ok <| OA.ps [(2, yF)] rfl <| OA.nil fun _ => RA.sR hd env_ok <| OA.ps [(3, (.int .i64 0))] rfl <| OA.nil fun _ => RA.seq hd <| RA.sR hd env_ok <| OA.ps [(6, d.gv)] rfl <| oP 7 (.int .i64 ((d.gs.length : Nat) : Int)) rfl (r_lenQ (c := cGp) rfl rfl rfl rfl rfl rfl h.hg rfl) <| OA.ps [(8, (.int .i64 0))] rfl ?_
 refine OA.nil fun _ => RA.block ?_
 refine RA.loop hd (fun kk_ τ n' D => (∃ i : Nat, ∃ a : Int, kk_ = (d.gs.length - i) ∧ n ≤ n' ∧ Has τ [(0, d.gv), (3, (.int .i64 a)), (6, d.gv), (7, (.int .i64 ((d.gs.length : Nat) : Int))), (8, (.int .i64 ((i : Nat) : Int)))] ∧ D = [] ∧ (∀ i ∈ keys D, i < n') ∧ i ≤ d.gs.length ∧ 0 ≤ a ∧ a < 65536 ∧ (risP 0 d.gs ↔ risP a (d.gs.drop i)))) ((d.gs.length - 0)) (⟨0, 0, rfl, by omega, ⟨rfl, rfl, rfl, rfl, rfl, trivial⟩, rfl, (fun i hi => by cases hi), ⟨by omega, by omega, by omega, Iff.rfl⟩⟩) ?_
 rintro kn1 τ1 n1 _ ⟨i, a, rfl, hn1, hHn1, rfl, hKn1, hIn1⟩
 rw [Has.eq hHn1]
 obtain ⟨hil, ha0, ha1, hris⟩ := hIn1
 refine RA.sR hd env_ok ?_
 by_cases hc1 : ((i : Nat) : Int) < ((d.gs.length : Nat) : Int)
 ·
  obtain ⟨rg, wqhatg, hatg⟩ := h.hg.get (m := i) (by omega)
  have lathatg := hd.lt hatg
  have hri := hris.trans (ris_cons (by omega))
  refine oP 9 yT rfl (Eq.trans (r_bin rfl rfl rfl (b_lss rfl)) (dT hc1)) <| OA.nil fun _ => RA.seq hd <| RA.condT rfl <| RA.skip env_ok ?_
  intro _
  refine RA.seq hd <| RA.block <| RA.sR hd env_ok <| oP 10 (.pointer (some ⟨(rk d.gv), i, some 0⟩)) rfl (r_iaQ (c := cGp) (m := i) rfl rfl rfl rfl rfl rfl h.hg rfl (by omega) hatg rfl) <| oP 11 (.agg ⟨(cGp (d.gs.getD i dGp))⟩) rfl (r_loadA (e := cGp (d.gs.getD i dGp)) rfl rfl rfl rfl hatg (mp_getA (by omega)) rfl rfl) <| o1 (some 5) (Pt n1 0 0) (n1 + 1) (n1, some ⟨[[(.int .i64 0), (.int .i64 0)]], 2, 101, true⟩) rfl <| o1 none yU (n1 + 1) (n1, some ⟨[(cGp (d.gs.getD i dGp))], 2, 101, true⟩) (rS get_here) <| OA.nil fun _ => RA.seq hd <| RA.sR hd env_ok <| OA.ps [(12, (Pt n1 0 0))] rfl ?_
  refine oL 13 (.int .i64 (d.gs.getD i dGp).lo) get_here <| OA.ps [(14, (.int .i64 a))] rfl <| oP 15 (.int .i64 (a + 2)) rfl (r_bin rfl rfl rfl (b_add (i64_eq (by omega)))) ?_
  by_cases hc2 : (d.gs.getD i dGp).lo < (a + 2)
  ·
   refine oP 16 yT rfl (Eq.trans (r_bin rfl rfl rfl (b_lss rfl)) (dT hc2)) <| OA.ps [(17, yT)] rfl <| OA.offs 18 5 rfl <| OA.ps [(23, yT), (24, yT)] rfl <| OA.offs 25 3 rfl <| OA.ps [(28, yT)] rfl <| OA.nil fun _ => RA.condT rfl <| RA.sR hd env_ok <| OA.ps [(2, yF)] rfl <| OA.nil fun _ => ?_
   refine RA.ret env_ok ?_
   exact lf yF (bf hb (fun q => by first | (have q2 := q.2; omega) | (obtain ⟨q1, q2, q3, q4⟩ := hri.1 q.1; omega)))
  ·
   refine oP 16 yF rfl (Eq.trans (r_bin rfl rfl rfl (b_lss rfl)) (dF hc2)) <| OA.ps [(17, yF), (18, (Pt n1 0 1))] rfl <| oL 19 (.int .i64 (d.gs.getD i dGp).hi) get_here <| OA.ps [(20, (Pt n1 0 0))] rfl <| oL 21 (.int .i64 (d.gs.getD i dGp).lo) get_here ?_
   by_cases hc3 : (d.gs.getD i dGp).hi < (d.gs.getD i dGp).lo
   ·
    refine oP 22 yT rfl (Eq.trans (r_bin rfl rfl rfl (b_lss rfl)) (dT hc3)) <| OA.ps [(23, yT), (24, yT)] rfl <| OA.offs 25 3 rfl <| OA.ps [(28, yT)] rfl <| OA.nil fun _ => RA.condT rfl <| RA.sR hd env_ok <| OA.ps [(2, yF)] rfl <| OA.nil fun _ => ?_
    refine RA.ret env_ok ?_
    exact lf yF (bf hb (fun q => by first | (have q2 := q.2; omega) | (obtain ⟨q1, q2, q3, q4⟩ := hri.1 q.1; omega)))
   ·
    refine oP 22 yF rfl (Eq.trans (r_bin rfl rfl rfl (b_lss rfl)) (dF hc3)) <| OA.ps [(23, yF), (24, yF), (25, (Pt n1 0 1))] rfl <| oL 26 (.int .i64 (d.gs.getD i dGp).hi) get_here ?_
    by_cases hc4 : 65536 ≤ (d.gs.getD i dGp).hi
    ·
     refine oP 27 yT rfl (Eq.trans (r_bin rfl rfl rfl (b_geq rfl)) (dT hc4)) <| OA.ps [(28, yT)] rfl <| OA.nil fun _ => RA.condT rfl <| RA.sR hd env_ok <| OA.ps [(2, yF)] rfl <| OA.nil fun _ => ?_
     refine RA.ret env_ok ?_
     exact lf yF (bf hb (fun q => by first | (have q2 := q.2; omega) | (obtain ⟨q1, q2, q3, q4⟩ := hri.1 q.1; omega)))
    ·
     refine oP 27 yF rfl (Eq.trans (r_bin rfl rfl rfl (b_geq rfl)) (dF hc4)) <| OA.ps [(28, yF)] rfl <| OA.nil fun _ => RA.condF rfl <| RA.skip env_ok ?_
     intro _
     refine RA.region env_ok <| OA.ps [(29, (Pt n1 0 1))] rfl <| oL 30 (.int .i64 (d.gs.getD i dGp).hi) get_here <| OA.ps [(3, (.int .i64 (d.gs.getD i dGp).hi))] rfl <| OA.nil fun _ => RA.rb [(0, d.gv), (3, (.int .i64 (d.gs.getD i dGp).hi)), (5, (Pt n1 0 0)), (6, d.gv), (7, (.int .i64 ((d.gs.length : Nat) : Int))), (8, (.int .i64 ((i : Nat) : Int))), (9, yT), (28, yF)] rfl (fun τr2 => ?_)
     refine RA.region env_ok <| oP 31 (.int .i64 (((i + 1) : Nat) : Int)) rfl (r_bin rfl rfl rfl (b_add (i64_eq (by omega)))) <| OA.ps [(8, (.int .i64 (((i + 1) : Nat) : Int)))] rfl <| OA.nil ?_
     refine ⟨(d.gs.length - (i + 1)), by omega, [], (LsO fan), ⟨(i + 1), (d.gs.getD i dGp).hi, rfl, by omega, ⟨rfl, rfl, rfl, rfl, rfl, trivial⟩, rfl, (fun i hi => by cases hi), ⟨by omega, by omega, by omega, ⟨fun q => (hri.1 q).2.2.2, fun q => hri.2 ⟨by omega, by omega, by omega, q⟩⟩⟩⟩⟩
 ·
  have hrt : risP 0 d.gs := hris.2 (ris_nil (by omega))
  refine oP 9 yF rfl (Eq.trans (r_bin rfl rfl rfl (b_lss rfl)) (dF hc1)) <| OA.nil fun _ => RA.seq hd <| RA.condF rfl ?_
  refine RA.exit env_ok ?_
  intro _
  refine RA.sR hd env_ok <| OA.ps [(32, d.gv)] rfl <| oP 33 (.int .i64 ((d.gs.length : Nat) : Int)) rfl (r_lenQ (c := cGp) rfl rfl rfl rfl rfl rfl h.hg rfl) ?_
  by_cases hc5 : ((d.gs.length : Nat) : Int) ≤ 16
  ·
   refine oP 34 yT rfl (Eq.trans (r_bin rfl rfl rfl (b_leq rfl)) (dT hc5)) <| OA.ps [(2, yT)] rfl <| OA.nil fun _ => ?_
   refine RA.ret env_ok ?_
   exact lf yT (bt hb (⟨hrt, by omega⟩))
  ·
   refine oP 34 yF rfl (Eq.trans (r_bin rfl rfl rfl (b_leq rfl)) (dF hc5)) <| OA.ps [(2, yF)] rfl <| OA.nil fun _ => ?_
   refine RA.ret env_ok ?_
   exact lf yF (bf hb (fun q => by first | (have q2 := q.2; omega) | (obtain ⟨q1, q2, q3, q4⟩ := hri.1 q.1; omega)))
end Go.Proofs.Ytgajcmanompmcaa.Vt
/- Cp3: walks through functions of the program, by the calculus; written by a program of this workplace. -/
namespace Go.Proofs.Ytgajcmanompmcaa.Vt
open Go Go.Proofs Go.Proofs.YtgajcmanompmcaaV
set_option maxRecDepth 100000
set_option linter.unusedVariables false
set_option linter.unusedSimpArgs false
set_option maxHeartbeats 8000000
theorem gsL_snoc {A : List UInt8} {l : List Gp} {i : Nat} (h : i < l.length) : A ++ gsL (l.take i) ++ (be2 (l.getD i dGp).lo.toNat ++ be2 (l.getD i dGp).hi.toNat) = A ++ gsL (l.take (i + 1)) := by
  rw [List.append_assoc]; exact congrArg (A ++ ·) (fm_snoc (f := fun g : Gp => be2 g.lo.toNat ++ be2 g.hi.toNat) h)
theorem dsL_snoc {A : List UInt8} {l : List Dp} {i : Nat} (h : i < l.length) : A ++ dsL (l.take i) ++ be4 (l.getD i dDp).x = A ++ dsL (l.take (i + 1)) := by
  rw [List.append_assoc]; exact congrArg (A ++ ·) (fm_snoc (f := fun x : Dp => be4 x.x) h)
theorem gsT {l : List Gp} {i : Nat} (h : i ≤ 18) : (gsL (l.take i)).length ≤ 72 := by rw [gsL_len, List.length_take]; omega
theorem dsT {l : List Dp} {i : Nat} (h : i ≤ 18) : (dsL (l.take i)).length ≤ 72 := by rw [dsL_len, List.length_take]; omega
theorem sz0 {s : ByteArray} (h : s.size = 0) : s = ByteArray.empty := by
  apply L_ext
  rw [show L ByteArray.empty = [] from rfl]
  exact List.length_eq_zero_iff.1 (by rw [L_len]; exact h)
def hasntP (d : Chk) : Prop := ((kd d.typ = 0 ∨ kd d.typ = 1 ∨ kd d.typ = 3 ∨ kd d.typ = 7 ∨ kd d.typ = 16) ∨ d.tsn.toNat = 0) ∧ ((kd d.typ = 0 ∨ kd d.typ = 15) ∨ d.stream = 0) ∧ ((kd d.typ = 0 ∨ kd d.typ = 15) ∨ d.ssn = 0) ∧ (kd d.typ = 0 ∨ d.proto.toNat = 0) ∧ ((kd d.typ = 0 ∨ kd d.typ = 4 ∨ kd d.typ = 10 ∨ kd d.typ = 15 ∨ kd d.typ = 20) ∨ d.data.size = 0) ∧ (kd d.typ = 1 ∨ d.tag.toNat = 0) ∧ (kd d.typ = 1 ∨ d.outs = 0) ∧ (kd d.typ = 1 ∨ d.ins = 0) ∧ ((kd d.typ = 1 ∨ kd d.typ = 3) ∨ d.rwnd.toNat = 0) ∧ ((kd d.typ = 1 ∨ kd d.typ = 16) ∨ d.ps.length = 0) ∧ (kd d.typ = 6 ∨ d.cs.length = 0) ∧ (kd d.typ = 3 ∨ d.gs.length = 0) ∧ (kd d.typ = 3 ∨ d.ds.length = 0)
theorem body_0 {d : Chk} (h : kd d.typ = 0) : bodyL d = be4 d.tsn ++ be2 d.stream.toNat ++ be2 d.ssn.toNat ++ be4 d.proto ++ L d.data := by unfold bodyL; rw [if_pos h]
theorem body_1 {d : Chk} (h : kd d.typ = 1) : bodyL d = be4 d.tag ++ be4 d.rwnd ++ be2 d.outs.toNat ++ be2 d.ins.toNat ++ be4 d.tsn ++ psL d.ps := by unfold bodyL; rw [if_neg (by omega), if_pos h]
theorem body_3 {d : Chk} (h : kd d.typ = 3) : bodyL d = be4 d.tsn ++ be4 d.rwnd ++ gapsL d := by unfold bodyL; rw [if_neg (by omega), if_neg (by omega), if_pos h]
theorem body_4 {d : Chk} (h : kd d.typ = 4) : bodyL d = pB 1 d.data := by unfold bodyL; rw [if_neg (by omega), if_neg (by omega), if_neg (by omega), if_pos h]
theorem body_6 {d : Chk} (h : kd d.typ = 6) : bodyL d = csL d.cs := by unfold bodyL; rw [if_neg (by omega), if_neg (by omega), if_neg (by omega), if_neg (by omega), if_pos h]
theorem body_7 {d : Chk} (h : kd d.typ = 7) : bodyL d = be4 d.tsn := by unfold bodyL; rw [if_neg (by omega), if_neg (by omega), if_neg (by omega), if_neg (by omega), if_neg (by omega), if_pos h]
theorem body_8 {d : Chk} (h : kd d.typ = 8) : bodyL d = [] := by unfold bodyL; rw [if_neg (by omega), if_neg (by omega), if_neg (by omega), if_neg (by omega), if_neg (by omega), if_neg (by omega), if_pos h]
theorem body_15 {d : Chk} (h : kd d.typ = 15) : bodyL d = be2 d.stream.toNat ++ be2 d.ssn.toNat ++ L d.data := by unfold bodyL; rw [if_neg (by omega), if_neg (by omega), if_neg (by omega), if_neg (by omega), if_neg (by omega), if_neg (by omega), if_neg (by omega), if_pos h]
theorem body_16 {d : Chk} (h : kd d.typ = 16) : bodyL d = be4 d.tsn ++ psL d.ps := by unfold bodyL; rw [if_neg (by omega), if_neg (by omega), if_neg (by omega), if_neg (by omega), if_neg (by omega), if_neg (by omega), if_neg (by omega), if_neg (by omega), if_pos h]
theorem body_20 {d : Chk} (h : kd d.typ = 10 ∨ kd d.typ = 20) : bodyL d = L d.data := by unfold bodyL; rw [if_neg (by omega), if_neg (by omega), if_neg (by omega), if_neg (by omega), if_neg (by omega), if_neg (by omega), if_neg (by omega), if_neg (by omega), if_neg (by omega)]
abbrev xCp31 (d : Chk) : List Value := [(.int .i64 d.typ), (.int .i64 d.flags), (W d.tsn), (.int .i64 d.stream), (.int .i64 d.ssn), (W d.proto), (.string d.data), (W d.tag), (W d.rwnd), (.int .i64 d.outs), (.int .i64 d.ins), d.pv, d.cv, d.gv, d.dv]
theorem sGaps {σ : Store} (d : Chk) (hgp : gapsP d.gs) (hdp : d.ds.length ≤ 16)  (h : gd σ d) : PS Try.prog noDen 103 [(.agg ⟨(cChk d)⟩)] σ (.string (bstr (gapsL d))) := by
 have hg16 := hgp.2
 refine PS.body (E := env) env_ok rfl rfl (by show _ ≤ _; exact of_decide_eq_true (by kernel_rfl)) (fun n hd => ?_)
 refine RA.sR hd env_ok <| o1 (some 1) (Pt n 0 0) (n + 1) (n, some ⟨[(cChk d)], 15, 53, true⟩) (r_box (cs := (cChk d)) rfl rfl rfl (Nat.le_of_ble_eq_true rfl) (by simp only [List.all_cons, List.all_nil, Bool.and_true, Bool.and_eq_true, cChk]; exact ⟨rfl, rfl, rfl, rfl, rfl, rfl, rfl, rfl, rfl, rfl, rfl, (h.hp).one, (h.hc).one, (h.hg).one, (h.hu).one⟩)) <| OA.ps [(2, (.string (ByteArray.mk #[])))] rfl <| OA.nil fun _ => RA.seq hd <| RA.par (md := [some [], some [n], some [], none, some [], some [n], some [], none, some [], some []]) env_ok (hd.of (by omega) (kb1 (by omega))) (by kernel_rfl) <| PQ.ps [(8, (Pt n 0 13))] rfl <| pQl 9 d.gv get_here <| pP 10 (.int .i64 ((d.gs.length : Nat) : Int)) rfl (r_lenQ (c := cGp) rfl rfl rfl rfl rfl rfl h.hg rfl) <| pA 11 (V := []) (hd.of (by omega) (kb1 (by omega))) rfl rfl (by kernel_rfl) (by kernel_rfl) (sU16 d.gs.length (by omega)) fun n1 hn1 => PQ.ps [(12, (Pt n 0 14))] rfl ?_
 refine pQl 13 d.dv get_here <| pP 14 (.int .i64 ((d.ds.length : Nat) : Int)) rfl (r_lenQ (c := cDp) rfl rfl rfl rfl rfl rfl h.hu rfl) <| pA 15 (V := []) (hd.of (by omega) (kb1 (by omega))) rfl rfl (by kernel_rfl) (by kernel_rfl) (sU16 d.ds.length (by omega)) fun n2 hn2 => pP 16 (.string (bstr ((be2 d.gs.length) ++ (be2 d.ds.length)))) rfl (Eq.trans (r_cat rfl rfl rfl (by simp only [bstr_size, size_lit, List.length_append, be2_len, be4_len, be1_len, List.length_replicate, List.length_cons, List.length_nil, List.size_toArray]; omega)) (by rw [bstr_app] <;> rfl)) <| PQ.ps [(3, (.string (bstr ((be2 d.gs.length) ++ (be2 d.ds.length)))))] rfl <| PQ.done (d := []) (by kernel_rfl) fun _ => RA.seq hd <| RA.sR hd env_ok <| OA.ps [(17, (Pt n 0 13))] rfl <| oL 18 d.gv get_here <| oP 19 (.int .i64 ((d.gs.length : Nat) : Int)) rfl (r_lenQ (c := cGp) rfl rfl rfl rfl rfl rfl h.hg rfl) ?_
 refine OA.ps [(20, (.int .i64 0))] rfl <| OA.nil fun _ => RA.block ?_
 refine RA.loop hd (fun kk_ τ n' D => (∃ i : Nat, kk_ = (d.gs.length - i) ∧ n2 ≤ n' ∧ Has τ [(1, (Pt n 0 0)), (3, (.string (bstr ((be2 d.gs.length ++ be2 d.ds.length) ++ gsL (d.gs.take i))))), (18, d.gv), (19, (.int .i64 ((d.gs.length : Nat) : Int))), (20, (.int .i64 ((i : Nat) : Int)))] ∧ D = [(n, some ⟨[(xCp31 d)], 15, 53, true⟩)] ∧ (∀ i ∈ keys D, i < n') ∧ i ≤ d.gs.length)) ((d.gs.length - 0)) (⟨0, rfl, by omega, ⟨rfl, (by rw [show gsL (d.gs.take 0) = [] from rfl, List.append_nil] <;> rfl), rfl, rfl, rfl, trivial⟩, rfl, (kb1 (by omega)), by omega⟩) ?_
 rintro kn3 τ3 n3 _ ⟨i, rfl, hn3, hHn3, rfl, hKn3, hIn3⟩
 rw [Has.eq hHn3]
 have hKn3_0 := kk0 hKn3
 clear hKn3
 have hil := hIn3
 have hgl := gsT (l := d.gs) (i := i) (by omega)
 refine RA.sR hd env_ok ?_
 by_cases hc1 : ((i : Nat) : Int) < ((d.gs.length : Nat) : Int)
 ·
  obtain ⟨rg, wqhatg, hatg⟩ := h.hg.get (m := i) (by omega)
  have lathatg := hd.lt hatg
  have hmm := ris_mem (by omega) hgp.1 _ (getD_mem (d := dGp) (show i < d.gs.length by omega))
  refine oP 21 yT rfl (Eq.trans (r_bin rfl rfl rfl (b_lss rfl)) (dT hc1)) <| OA.nil fun _ => RA.seq hd <| RA.condT rfl <| RA.skip env_ok ?_
  intro _
  refine RA.seq hd <| RA.block <| RA.sR hd env_ok <| oP 22 (.pointer (some ⟨(rk d.gv), i, some 0⟩)) rfl (r_iaQ (c := cGp) (m := i) rfl rfl rfl rfl rfl rfl h.hg rfl (by omega) (get_there (by omega) hatg) rfl) <| oP 23 (.agg ⟨(cGp (d.gs.getD i dGp))⟩) rfl (r_loadA (e := cGp (d.gs.getD i dGp)) rfl rfl rfl rfl (get_there (by omega) hatg) (mp_getA (by omega)) rfl rfl) <| o1 (some 5) (Pt n3 0 0) (n3 + 1) (n3, some ⟨[[(.int .i64 0), (.int .i64 0)]], 2, 101, true⟩) rfl <| o1 none yU (n3 + 1) (n3, some ⟨[(cGp (d.gs.getD i dGp))], 2, 101, true⟩) (rS get_here) <| OA.nil fun _ => RA.par (md := [some [], some [], some [n3], none, some [], some [n3], none, some [], some [], some []]) env_ok (hd.of (by omega) (kb3 (by omega))) (by kernel_rfl) <| PQ.ps [(24, (.string (bstr ((be2 d.gs.length ++ be2 d.ds.length) ++ gsL (d.gs.take i))))), (25, (Pt n3 0 0))] rfl <| pQl 26 (.int .i64 (d.gs.getD i dGp).lo) get_here ?_
  refine pA 27 (V := []) (hd.of (by omega) (kb3 (by omega))) rfl rfl (by kernel_rfl) (by kernel_rfl) (zU16 (d.gs.getD i dGp).lo (by omega) (by omega)) fun n4 hn4 => PQ.ps [(28, (Pt n3 0 1))] rfl <| pQl 29 (.int .i64 (d.gs.getD i dGp).hi) get_here <| pA 30 (V := []) (hd.of (by omega) (kb3 (by omega))) rfl rfl (by kernel_rfl) (by kernel_rfl) (zU16 (d.gs.getD i dGp).hi (by omega) (by omega)) fun n5 hn5 => pP 31 (.string (bstr ((be2 ((d.gs.getD i dGp).lo).toNat) ++ (be2 ((d.gs.getD i dGp).hi).toNat)))) rfl (Eq.trans (r_cat rfl rfl rfl (by simp only [bstr_size, size_lit, List.length_append, be2_len, be4_len, be1_len, List.length_replicate, List.length_cons, List.length_nil, List.size_toArray]; omega)) (by rw [bstr_app] <;> rfl)) <| pP 32 (.string (bstr (((be2 d.gs.length ++ be2 d.ds.length) ++ gsL (d.gs.take i)) ++ ((be2 ((d.gs.getD i dGp).lo).toNat) ++ (be2 ((d.gs.getD i dGp).hi).toNat))))) rfl (Eq.trans (r_cat rfl rfl rfl (by simp only [bstr_size, size_lit, List.length_append, be2_len, be4_len, be1_len, List.length_replicate, List.length_cons, List.length_nil, List.size_toArray]; omega)) (by rw [bstr_app] <;> rfl)) <| PQ.ps [(3, (.string (bstr (((be2 d.gs.length ++ be2 d.ds.length) ++ gsL (d.gs.take i)) ++ ((be2 ((d.gs.getD i dGp).lo).toNat) ++ (be2 ((d.gs.getD i dGp).hi).toNat))))))] rfl <| PQ.done (d := []) (by kernel_rfl) fun _ => RA.region env_ok <| oP 33 (.int .i64 (((i + 1) : Nat) : Int)) rfl (r_bin rfl rfl rfl (b_add (i64_eq (by omega)))) <| OA.ps [(20, (.int .i64 (((i + 1) : Nat) : Int)))] rfl ?_
  refine OA.nil ?_
  refine ⟨(d.gs.length - (i + 1)), by omega, [(n, some ⟨[(xCp31 d)], 15, 53, true⟩)], (LsO (fA get_here (gt2 (by omega) get_here) fan)), ⟨(i + 1), rfl, by omega, ⟨rfl, (by rw [gsL_snoc (by omega)] <;> rfl), rfl, rfl, rfl, trivial⟩, rfl, (kb1 (by omega)), by omega⟩⟩
 ·
  refine oP 21 yF rfl (Eq.trans (r_bin rfl rfl rfl (b_lss rfl)) (dF hc1)) <| OA.nil fun _ => RA.seq hd <| RA.condF rfl ?_
  refine RA.exit env_ok ?_
  intro _
  refine RA.seq hd <| RA.sR hd env_ok <| OA.ps [(34, (Pt n 0 14))] rfl <| oL 35 d.dv get_here <| oP 36 (.int .i64 ((d.ds.length : Nat) : Int)) rfl (r_lenQ (c := cDp) rfl rfl rfl rfl rfl rfl h.hu rfl) <| OA.ps [(37, (.int .i64 0))] rfl <| OA.nil fun _ => RA.block ?_
  refine RA.loop hd (fun kk_ τ n' D => (∃ m : Nat, kk_ = (d.ds.length - m) ∧ n3 ≤ n' ∧ Has τ [(1, (Pt n 0 0)), (3, (.string (bstr (((be2 d.gs.length ++ be2 d.ds.length) ++ gsL d.gs) ++ dsL (d.ds.take m))))), (35, d.dv), (36, (.int .i64 ((d.ds.length : Nat) : Int))), (37, (.int .i64 ((m : Nat) : Int)))] ∧ D = [(n, some ⟨[(xCp31 d)], 15, 53, true⟩)] ∧ (∀ i ∈ keys D, i < n') ∧ m ≤ d.ds.length)) ((d.ds.length - 0)) (⟨0, rfl, by omega, ⟨rfl, (by rw [take_full (l := d.gs) (i := i) (by omega), show dsL (d.ds.take 0) = [] from rfl, List.append_nil] <;> rfl), rfl, rfl, rfl, trivial⟩, rfl, (kb1 (by omega)), by omega⟩) ?_
  rintro kn6 τ6 n6 _ ⟨m, rfl, hn6, hHn6, rfl, hKn6, hIn6⟩
  rw [Has.eq hHn6]
  have hKn6_0 := kk0 hKn6
  clear hKn6
  have him := hIn6
  have hdl := dsT (l := d.ds) (i := m) (by omega)
  have hgl2 := gsL_len d.gs
  refine RA.sR hd env_ok ?_
  by_cases hc2 : ((m : Nat) : Int) < ((d.ds.length : Nat) : Int)
  ·
   obtain ⟨rdu, wqhatdu, hatdu⟩ := h.hu.get (m := m) (by omega)
   have lathatdu := hd.lt hatdu
   refine oP 38 yT rfl (Eq.trans (r_bin rfl rfl rfl (b_lss rfl)) (dT hc2)) <| OA.nil fun _ => RA.seq hd <| RA.condT rfl <| RA.skip env_ok ?_
   intro _
   refine RA.seq hd <| RA.block <| RA.sR hd env_ok <| oP 39 (.pointer (some ⟨(rk d.dv), m, some 0⟩)) rfl (r_iaQ (c := cDp) (m := m) rfl rfl rfl rfl rfl rfl h.hu rfl (by omega) (get_there (by omega) hatdu) rfl) <| oP 40 (W (d.ds.getD m dDp).x) rfl (r_load1 (e := cDp (d.ds.getD m dDp)) rfl rfl rfl rfl rfl (get_there (by omega) hatdu) (mp_getA (by omega)) rfl) <| OA.ps [(7, (W (d.ds.getD m dDp).x))] rfl <| OA.nil fun _ => RA.region env_ok <| OA.ps [(41, (.string (bstr (((be2 d.gs.length ++ be2 d.ds.length) ++ gsL d.gs) ++ dsL (d.ds.take m))))), (42, (W (d.ds.getD m dDp).x))] rfl <| oC 43 (hd.of (by omega) (kb1 (by omega))) rfl rfl (sU32 (d.ds.getD m dDp).x) fun n7 hn7 => oP 44 (.string (bstr ((((be2 d.gs.length ++ be2 d.ds.length) ++ gsL d.gs) ++ dsL (d.ds.take m)) ++ (be4 (d.ds.getD m dDp).x)))) rfl (Eq.trans (r_cat rfl rfl rfl (by simp only [bstr_size, size_lit, List.length_append, be2_len, be4_len, be1_len, List.length_replicate, List.length_cons, List.length_nil, List.size_toArray]; omega)) (by rw [bstr_app] <;> rfl)) ?_
   refine OA.ps [(3, (.string (bstr ((((be2 d.gs.length ++ be2 d.ds.length) ++ gsL d.gs) ++ dsL (d.ds.take m)) ++ (be4 (d.ds.getD m dDp).x)))))] rfl <| OA.nil fun _ => RA.region env_ok <| oP 45 (.int .i64 (((m + 1) : Nat) : Int)) rfl (r_bin rfl rfl rfl (b_add (i64_eq (by omega)))) <| OA.ps [(37, (.int .i64 (((m + 1) : Nat) : Int)))] rfl <| OA.nil ?_
   refine ⟨(d.ds.length - (m + 1)), by omega, [(n, some ⟨[(xCp31 d)], 15, 53, true⟩)], (Less.refl _ _ _), ⟨(m + 1), rfl, by omega, ⟨rfl, (by rw [dsL_snoc (by omega)] <;> rfl), rfl, rfl, rfl, trivial⟩, rfl, (kb1 (by omega)), by omega⟩⟩
  ·
   refine oP 38 yF rfl (Eq.trans (r_bin rfl rfl rfl (b_lss rfl)) (dF hc2)) <| OA.nil fun _ => RA.seq hd <| RA.condF rfl ?_
   refine RA.exit env_ok ?_
   intro _
   refine RA.sR hd env_ok <| OA.ps [(46, (.string (bstr (((be2 d.gs.length ++ be2 d.ds.length) ++ gsL d.gs) ++ dsL (d.ds.take m))))), (2, (.string (bstr (((be2 d.gs.length ++ be2 d.ds.length) ++ gsL d.gs) ++ dsL (d.ds.take m)))))] rfl <| OA.nil fun _ => ?_
   refine RA.ret env_ok ?_
   exact lf (.string (bstr (((be2 d.gs.length ++ be2 d.ds.length) ++ gsL d.gs) ++ dsL (d.ds.take m)))) (by rw [take_full (l := d.ds) (i := m) (by omega)] <;> rfl)
theorem sBody {σ : Store} (d : Chk) (hok : bodyOk d)  (h : gd σ d) : PS Try.prog noDen 75 [(.agg ⟨(cChk d)⟩)] σ (.string (bstr (bodyL d))) := by
 have hls := hok.lists
 have hw1 := hok.w1
 have hw2 := hok.w2
 have hw3 := hok.w3
 have hw4 := hok.w4
 unfold wordP at hw1 hw2 hw3 hw4
 have hda := hok.data
 have hgp := hok.gaps
 have hdp := hok.dups
 have hp16 := hls.2.2.1
 have hc16 := hls.2.2.2
 have hp1 : prmOk 1 d.data := ⟨by omega, by omega, by omega⟩
 have hpl := psL_len hls.1 (i := d.ps.length) hp16
 have hcl := csL_len hls.2.1 (i := d.cs.length) hc16
 rw [List.take_length] at hpl hcl
 have hgl := gsL_len d.gs
 have hdl := dsL_len d.ds
 have hLd := L_len d.data
 have hg16 := hgp.2
 have hgal : (gapsL d).length ≤ 200 := by unfold gapsL; simp only [List.length_append, be2_len]; omega
 refine PS.body (E := env) env_ok rfl rfl (by show _ ≤ _; exact of_decide_eq_true (by kernel_rfl)) (fun n hd => ?_)
 refine RA.sR hd env_ok <| o1 (some 1) (Pt n 0 0) (n + 1) (n, some ⟨[(cChk d)], 15, 53, true⟩) (r_box (cs := (cChk d)) rfl rfl rfl (Nat.le_of_ble_eq_true rfl) (by simp only [List.all_cons, List.all_nil, Bool.and_true, Bool.and_eq_true, cChk]; exact ⟨rfl, rfl, rfl, rfl, rfl, rfl, rfl, rfl, rfl, rfl, rfl, (h.hp).one, (h.hc).one, (h.hg).one, (h.hu).one⟩)) <| OA.ps [(2, (.string (ByteArray.mk #[])))] rfl <| OA.nil fun _ => RA.seq hd <| RA.sR hd env_ok <| OA.ps [(3, (Pt n 0 0))] rfl <| oL 4 (.int .i64 d.typ) get_here <| OA.nil fun _ => RA.block <| RA.sR hd env_ok ?_
 by_cases hc1 : d.typ = 0
 ·
  refine oP 6 yT rfl (Eq.trans (r_bin rfl rfl rfl (b_eql rfl)) (dT hc1)) <| OA.ps [(5, yT)] rfl <| OA.nil fun _ => RA.condT rfl <| RA.seq hd <| RA.par (md := [some [], some [n], none, some [], some [n], none, some [], some [], some [n], none, some [], some [], some [n], none, some [], some [], some [n], some [], some []]) env_ok (hd.of (by omega) (kb1 (by omega))) (by kernel_rfl) <| PQ.ps [(7, (Pt n 0 2))] rfl <| pQl 8 (W d.tsn) get_here <| pA 9 (V := []) (hd.of (by omega) (kb1 (by omega))) rfl rfl (by kernel_rfl) (by kernel_rfl) (sU32 d.tsn) fun n1 hn1 => PQ.ps [(10, (Pt n 0 3))] rfl <| pQl 11 (.int .i64 d.stream) get_here ?_
  refine pA 12 (V := []) (hd.of (by omega) (kb1 (by omega))) rfl rfl (by kernel_rfl) (by kernel_rfl) (zU16 d.stream (by omega) (by omega)) fun n2 hn2 => pP 13 (.string (bstr ((be4 d.tsn) ++ (be2 (d.stream).toNat)))) rfl (Eq.trans (r_cat rfl rfl rfl (by simp only [bstr_size, size_lit, List.length_append, be2_len, be4_len, be1_len, List.length_replicate, List.length_cons, List.length_nil, List.size_toArray, L_len]; omega)) (by rw [bstr_app] <;> rfl)) <| PQ.ps [(14, (Pt n 0 4))] rfl <| pQl 15 (.int .i64 d.ssn) get_here <| pA 16 (V := []) (hd.of (by omega) (kb1 (by omega))) rfl rfl (by kernel_rfl) (by kernel_rfl) (zU16 d.ssn (by omega) (by omega)) fun n3 hn3 => pP 17 (.string (bstr (((be4 d.tsn) ++ (be2 (d.stream).toNat)) ++ (be2 (d.ssn).toNat)))) rfl (Eq.trans (r_cat rfl rfl rfl (by simp only [bstr_size, size_lit, List.length_append, be2_len, be4_len, be1_len, List.length_replicate, List.length_cons, List.length_nil, List.size_toArray, L_len]; omega)) (by rw [bstr_app] <;> rfl)) <| PQ.ps [(18, (Pt n 0 5))] rfl <| pQl 19 (W d.proto) get_here <| pA 20 (V := []) (hd.of (by omega) (kb1 (by omega))) rfl rfl (by kernel_rfl) (by kernel_rfl) (sU32 d.proto) fun n4 hn4 => pP 21 (.string (bstr ((((be4 d.tsn) ++ (be2 (d.stream).toNat)) ++ (be2 (d.ssn).toNat)) ++ (be4 d.proto)))) rfl (Eq.trans (r_cat rfl rfl rfl (by simp only [bstr_size, size_lit, List.length_append, be2_len, be4_len, be1_len, List.length_replicate, List.length_cons, List.length_nil, List.size_toArray, L_len]; omega)) (by rw [bstr_app] <;> rfl)) <| PQ.ps [(22, (Pt n 0 6))] rfl ?_
  refine pQl 23 (.string d.data) get_here <| pP 24 (.string (bstr (((((be4 d.tsn) ++ (be2 (d.stream).toNat)) ++ (be2 (d.ssn).toNat)) ++ (be4 d.proto)) ++ L d.data))) rfl (Eq.trans (r_cat rfl rfl rfl (by simp only [bstr_size, List.length_append, be2_len, be4_len, be1_len, L_len]; omega)) (by rw [bstr_appL] <;> rfl)) <| PQ.ps [(2, (.string (bstr (((((be4 d.tsn) ++ (be2 (d.stream).toNat)) ++ (be2 (d.ssn).toNat)) ++ (be4 d.proto)) ++ L d.data))))] rfl <| PQ.done (d := []) (by kernel_rfl) fun _ => RA.rb [(0, (.agg ⟨(cChk d)⟩)), (1, (Pt n 0 0)), (2, (.string (bstr (((((be4 d.tsn) ++ (be2 (d.stream).toNat)) ++ (be2 (d.ssn).toNat)) ++ (be4 d.proto)) ++ L d.data)))), (4, (.int .i64 d.typ)), (5, yT)] rfl (fun τr5 => ?_)
  refine RA.ret env_ok ?_
  exact lf (.string (bstr (((((be4 d.tsn) ++ (be2 (d.stream).toNat)) ++ (be2 (d.ssn).toNat)) ++ (be4 d.proto)) ++ L d.data))) (by rw [body_0 (show kd d.typ = 0 from by have := kd_cases d.typ; omega)] <;> rfl)
 ·
  refine oP 6 yF rfl (Eq.trans (r_bin rfl rfl rfl (b_eql rfl)) (dF hc1)) <| OA.ps [(5, yF)] rfl <| OA.nil fun _ => RA.condF rfl <| RA.seq hd <| RA.sR hd env_ok ?_
  by_cases hc2 : d.typ = 1
  ·
   refine oP 26 yT rfl (Eq.trans (r_bin rfl rfl rfl (b_eql rfl)) (dT hc2)) <| OA.ps [(25, yT)] rfl <| OA.nil fun _ => RA.condT rfl <| RA.skip env_ok ?_
   intro _
   refine RA.condT rfl <| RA.seq hd <| RA.par (md := [some [], some [n], none, some [], some [n], none, some [], some [], some [n], none, some [], some [], some [n], none, some [], some [], some [n], none, some [], some [], some [n], none, some [], some []]) env_ok (hd.of (by omega) (kb1 (by omega))) (by kernel_rfl) <| PQ.ps [(28, (Pt n 0 7))] rfl <| pQl 29 (W d.tag) get_here <| pA 30 (V := []) (hd.of (by omega) (kb1 (by omega))) rfl rfl (by kernel_rfl) (by kernel_rfl) (sU32 d.tag) fun n6 hn6 => PQ.ps [(31, (Pt n 0 8))] rfl <| pQl 32 (W d.rwnd) get_here <| pA 33 (V := []) (hd.of (by omega) (kb1 (by omega))) rfl rfl (by kernel_rfl) (by kernel_rfl) (sU32 d.rwnd) fun n7 hn7 => pP 34 (.string (bstr ((be4 d.tag) ++ (be4 d.rwnd)))) rfl (Eq.trans (r_cat rfl rfl rfl (by simp only [bstr_size, size_lit, List.length_append, be2_len, be4_len, be1_len, List.length_replicate, List.length_cons, List.length_nil, List.size_toArray, L_len]; omega)) (by rw [bstr_app] <;> rfl)) <| PQ.ps [(35, (Pt n 0 9))] rfl ?_
   refine pQl 36 (.int .i64 d.outs) get_here <| pA 37 (V := []) (hd.of (by omega) (kb1 (by omega))) rfl rfl (by kernel_rfl) (by kernel_rfl) (zU16 d.outs (by omega) (by omega)) fun n8 hn8 => pP 38 (.string (bstr (((be4 d.tag) ++ (be4 d.rwnd)) ++ (be2 (d.outs).toNat)))) rfl (Eq.trans (r_cat rfl rfl rfl (by simp only [bstr_size, size_lit, List.length_append, be2_len, be4_len, be1_len, List.length_replicate, List.length_cons, List.length_nil, List.size_toArray, L_len]; omega)) (by rw [bstr_app] <;> rfl)) <| PQ.ps [(39, (Pt n 0 10))] rfl <| pQl 40 (.int .i64 d.ins) get_here <| pA 41 (V := []) (hd.of (by omega) (kb1 (by omega))) rfl rfl (by kernel_rfl) (by kernel_rfl) (zU16 d.ins (by omega) (by omega)) fun n9 hn9 => pP 42 (.string (bstr ((((be4 d.tag) ++ (be4 d.rwnd)) ++ (be2 (d.outs).toNat)) ++ (be2 (d.ins).toNat)))) rfl (Eq.trans (r_cat rfl rfl rfl (by simp only [bstr_size, size_lit, List.length_append, be2_len, be4_len, be1_len, List.length_replicate, List.length_cons, List.length_nil, List.size_toArray, L_len]; omega)) (by rw [bstr_app] <;> rfl)) <| PQ.ps [(43, (Pt n 0 2))] rfl <| pQl 44 (W d.tsn) get_here <| pA 45 (V := []) (hd.of (by omega) (kb1 (by omega))) rfl rfl (by kernel_rfl) (by kernel_rfl) (sU32 d.tsn) fun n10 hn10 => pP 46 (.string (bstr (((((be4 d.tag) ++ (be4 d.rwnd)) ++ (be2 (d.outs).toNat)) ++ (be2 (d.ins).toNat)) ++ (be4 d.tsn)))) rfl (Eq.trans (r_cat rfl rfl rfl (by simp only [bstr_size, size_lit, List.length_append, be2_len, be4_len, be1_len, List.length_replicate, List.length_cons, List.length_nil, List.size_toArray, L_len]; omega)) (by rw [bstr_app] <;> rfl)) ?_
   refine PQ.ps [(47, (Pt n 0 11))] rfl <| pQl 48 d.pv get_here <| pA 49 (V := []) (hd.of (by omega) (kb1 (by omega))) rfl rfl (by kernel_rfl) (by kernel_rfl) (sPAll d.ps d.pv hls.1 hp16 (h.mono (sub_a1 hd)).hp) fun n11 hn11 => pP 50 (.string (bstr ((((((be4 d.tag) ++ (be4 d.rwnd)) ++ (be2 (d.outs).toNat)) ++ (be2 (d.ins).toNat)) ++ (be4 d.tsn)) ++ (psL d.ps)))) rfl (Eq.trans (r_cat rfl rfl rfl (by simp only [bstr_size, size_lit, List.length_append, be2_len, be4_len, be1_len, List.length_replicate, List.length_cons, List.length_nil, List.size_toArray, L_len]; omega)) (by rw [bstr_app] <;> rfl)) <| PQ.ps [(2, (.string (bstr ((((((be4 d.tag) ++ (be4 d.rwnd)) ++ (be2 (d.outs).toNat)) ++ (be2 (d.ins).toNat)) ++ (be4 d.tsn)) ++ (psL d.ps)))))] rfl <| PQ.done (d := []) (by kernel_rfl) fun _ => RA.rb [(0, (.agg ⟨(cChk d)⟩)), (1, (Pt n 0 0)), (2, (.string (bstr ((((((be4 d.tag) ++ (be4 d.rwnd)) ++ (be2 (d.outs).toNat)) ++ (be2 (d.ins).toNat)) ++ (be4 d.tsn)) ++ (psL d.ps))))), (4, (.int .i64 d.typ)), (5, yF), (25, yT)] rfl (fun τr12 => ?_)
   refine RA.ret env_ok ?_
   exact lf (.string (bstr ((((((be4 d.tag) ++ (be4 d.rwnd)) ++ (be2 (d.outs).toNat)) ++ (be2 (d.ins).toNat)) ++ (be4 d.tsn)) ++ (psL d.ps)))) (by rw [body_1 (show kd d.typ = 1 from by have := kd_cases d.typ; omega)] <;> rfl)
  ·
   refine oP 26 yF rfl (Eq.trans (r_bin rfl rfl rfl (b_eql rfl)) (dF hc2)) <| OA.ps [(25, yF)] rfl <| OA.nil fun _ => RA.condF rfl <| RA.region env_ok ?_
   by_cases hc3 : d.typ = 2
   ·
    refine oP 27 yT rfl (Eq.trans (r_bin rfl rfl rfl (b_eql rfl)) (dT hc3)) <| OA.ps [(25, yT)] rfl <| OA.nil fun _ => RA.condT rfl <| RA.seq hd <| RA.par (md := [some [], some [n], none, some [], some [n], none, some [], some [], some [n], none, some [], some [], some [n], none, some [], some [], some [n], none, some [], some [], some [n], none, some [], some []]) env_ok (hd.of (by omega) (kb1 (by omega))) (by kernel_rfl) <| PQ.ps [(28, (Pt n 0 7))] rfl <| pQl 29 (W d.tag) get_here <| pA 30 (V := []) (hd.of (by omega) (kb1 (by omega))) rfl rfl (by kernel_rfl) (by kernel_rfl) (sU32 d.tag) fun n13 hn13 => PQ.ps [(31, (Pt n 0 8))] rfl <| pQl 32 (W d.rwnd) get_here ?_
    refine pA 33 (V := []) (hd.of (by omega) (kb1 (by omega))) rfl rfl (by kernel_rfl) (by kernel_rfl) (sU32 d.rwnd) fun n14 hn14 => pP 34 (.string (bstr ((be4 d.tag) ++ (be4 d.rwnd)))) rfl (Eq.trans (r_cat rfl rfl rfl (by simp only [bstr_size, size_lit, List.length_append, be2_len, be4_len, be1_len, List.length_replicate, List.length_cons, List.length_nil, List.size_toArray, L_len]; omega)) (by rw [bstr_app] <;> rfl)) <| PQ.ps [(35, (Pt n 0 9))] rfl <| pQl 36 (.int .i64 d.outs) get_here <| pA 37 (V := []) (hd.of (by omega) (kb1 (by omega))) rfl rfl (by kernel_rfl) (by kernel_rfl) (zU16 d.outs (by omega) (by omega)) fun n15 hn15 => pP 38 (.string (bstr (((be4 d.tag) ++ (be4 d.rwnd)) ++ (be2 (d.outs).toNat)))) rfl (Eq.trans (r_cat rfl rfl rfl (by simp only [bstr_size, size_lit, List.length_append, be2_len, be4_len, be1_len, List.length_replicate, List.length_cons, List.length_nil, List.size_toArray, L_len]; omega)) (by rw [bstr_app] <;> rfl)) <| PQ.ps [(39, (Pt n 0 10))] rfl <| pQl 40 (.int .i64 d.ins) get_here <| pA 41 (V := []) (hd.of (by omega) (kb1 (by omega))) rfl rfl (by kernel_rfl) (by kernel_rfl) (zU16 d.ins (by omega) (by omega)) fun n16 hn16 => pP 42 (.string (bstr ((((be4 d.tag) ++ (be4 d.rwnd)) ++ (be2 (d.outs).toNat)) ++ (be2 (d.ins).toNat)))) rfl (Eq.trans (r_cat rfl rfl rfl (by simp only [bstr_size, size_lit, List.length_append, be2_len, be4_len, be1_len, List.length_replicate, List.length_cons, List.length_nil, List.size_toArray, L_len]; omega)) (by rw [bstr_app] <;> rfl)) <| PQ.ps [(43, (Pt n 0 2))] rfl ?_
    refine pQl 44 (W d.tsn) get_here <| pA 45 (V := []) (hd.of (by omega) (kb1 (by omega))) rfl rfl (by kernel_rfl) (by kernel_rfl) (sU32 d.tsn) fun n17 hn17 => pP 46 (.string (bstr (((((be4 d.tag) ++ (be4 d.rwnd)) ++ (be2 (d.outs).toNat)) ++ (be2 (d.ins).toNat)) ++ (be4 d.tsn)))) rfl (Eq.trans (r_cat rfl rfl rfl (by simp only [bstr_size, size_lit, List.length_append, be2_len, be4_len, be1_len, List.length_replicate, List.length_cons, List.length_nil, List.size_toArray, L_len]; omega)) (by rw [bstr_app] <;> rfl)) <| PQ.ps [(47, (Pt n 0 11))] rfl <| pQl 48 d.pv get_here <| pA 49 (V := []) (hd.of (by omega) (kb1 (by omega))) rfl rfl (by kernel_rfl) (by kernel_rfl) (sPAll d.ps d.pv hls.1 hp16 (h.mono (sub_a1 hd)).hp) fun n18 hn18 => pP 50 (.string (bstr ((((((be4 d.tag) ++ (be4 d.rwnd)) ++ (be2 (d.outs).toNat)) ++ (be2 (d.ins).toNat)) ++ (be4 d.tsn)) ++ (psL d.ps)))) rfl (Eq.trans (r_cat rfl rfl rfl (by simp only [bstr_size, size_lit, List.length_append, be2_len, be4_len, be1_len, List.length_replicate, List.length_cons, List.length_nil, List.size_toArray, L_len]; omega)) (by rw [bstr_app] <;> rfl)) <| PQ.ps [(2, (.string (bstr ((((((be4 d.tag) ++ (be4 d.rwnd)) ++ (be2 (d.outs).toNat)) ++ (be2 (d.ins).toNat)) ++ (be4 d.tsn)) ++ (psL d.ps)))))] rfl <| PQ.done (d := []) (by kernel_rfl) fun _ => RA.rb [(0, (.agg ⟨(cChk d)⟩)), (1, (Pt n 0 0)), (2, (.string (bstr ((((((be4 d.tag) ++ (be4 d.rwnd)) ++ (be2 (d.outs).toNat)) ++ (be2 (d.ins).toNat)) ++ (be4 d.tsn)) ++ (psL d.ps))))), (4, (.int .i64 d.typ)), (5, yF), (25, yT)] rfl (fun τr19 => ?_)
    refine RA.ret env_ok ?_
    exact lf (.string (bstr ((((((be4 d.tag) ++ (be4 d.rwnd)) ++ (be2 (d.outs).toNat)) ++ (be2 (d.ins).toNat)) ++ (be4 d.tsn)) ++ (psL d.ps)))) (by rw [body_1 (show kd d.typ = 1 from by have := kd_cases d.typ; omega)] <;> rfl)
   ·
    refine oP 27 yF rfl (Eq.trans (r_bin rfl rfl rfl (b_eql rfl)) (dF hc3)) <| OA.ps [(25, yF)] rfl <| OA.nil fun _ => RA.condF rfl <| RA.sR hd env_ok ?_
    by_cases hc4 : d.typ = 3
    ·
     refine oP 52 yT rfl (Eq.trans (r_bin rfl rfl rfl (b_eql rfl)) (dT hc4)) <| OA.ps [(51, yT)] rfl <| OA.nil fun _ => RA.condT rfl <| RA.seq hd <| RA.par (md := [some [], some [n], none, some [], some [n], none, some [], some [n], none, some [], some []]) env_ok (hd.of (by omega) (kb1 (by omega))) (by kernel_rfl) <| PQ.ps [(53, (Pt n 0 2))] rfl <| pQl 54 (W d.tsn) get_here <| pA 55 (V := []) (hd.of (by omega) (kb1 (by omega))) rfl rfl (by kernel_rfl) (by kernel_rfl) (sU32 d.tsn) fun n20 hn20 => PQ.ps [(56, (Pt n 0 8))] rfl <| pQl 57 (W d.rwnd) get_here ?_
     refine pA 58 (V := []) (hd.of (by omega) (kb1 (by omega))) rfl rfl (by kernel_rfl) (by kernel_rfl) (sU32 d.rwnd) fun n21 hn21 => pP 59 (.string (bstr ((be4 d.tsn) ++ (be4 d.rwnd)))) rfl (Eq.trans (r_cat rfl rfl rfl (by simp only [bstr_size, size_lit, List.length_append, be2_len, be4_len, be1_len, List.length_replicate, List.length_cons, List.length_nil, List.size_toArray, L_len]; omega)) (by rw [bstr_app] <;> rfl)) <| pQL 60 (.agg ⟨(xCp31 d)⟩) (V := []) rfl (by kernel_rfl) (by kernel_rfl) get_here (r_loadA rfl rfl rfl rfl get_here rfl rfl rfl) <| pA 61 (V := []) (hd.of (by omega) (kb1 (by omega))) rfl rfl (by kernel_rfl) (by kernel_rfl) (sGaps d hgp hdp (h.mono (sub_a1 hd))) fun n22 hn22 => pP 62 (.string (bstr (((be4 d.tsn) ++ (be4 d.rwnd)) ++ (gapsL d)))) rfl (Eq.trans (r_cat rfl rfl rfl (by simp only [bstr_size, size_lit, List.length_append, be2_len, be4_len, be1_len, List.length_replicate, List.length_cons, List.length_nil, List.size_toArray, L_len]; omega)) (by rw [bstr_app] <;> rfl)) <| PQ.ps [(2, (.string (bstr (((be4 d.tsn) ++ (be4 d.rwnd)) ++ (gapsL d)))))] rfl <| PQ.done (d := []) (by kernel_rfl) fun _ => ?_
     refine RA.ret env_ok ?_
     exact lf (.string (bstr (((be4 d.tsn) ++ (be4 d.rwnd)) ++ (gapsL d)))) (by rw [body_3 (show kd d.typ = 3 from by have := kd_cases d.typ; omega)] <;> rfl)
    ·
     refine oP 52 yF rfl (Eq.trans (r_bin rfl rfl rfl (b_eql rfl)) (dF hc4)) <| OA.ps [(51, yF)] rfl <| OA.nil fun _ => RA.condF rfl <| RA.seq hd <| RA.sR hd env_ok ?_
     by_cases hc5 : d.typ = 4
     ·
      refine oP 64 yT rfl (Eq.trans (r_bin rfl rfl rfl (b_eql rfl)) (dT hc5)) <| OA.ps [(63, yT)] rfl <| OA.nil fun _ => RA.condT rfl <| RA.skip env_ok ?_
      intro _
      refine RA.condT rfl <| RA.sR hd env_ok <| OA.ps [(66, (Pt n 0 6))] rfl <| oL 67 (.string d.data) get_here <| oP 68 (.agg ⟨[(.int .i64 1), (.string d.data)]⟩) rfl (by kernel_rfl) <| oC 69 (hd.of (by omega) (kb1 (by omega))) rfl rfl (sPPut 1 d.data (by assumption)) fun n23 hn23 => OA.ps [(2, (.string (bstr (pB 1 d.data))))] rfl <| OA.nil fun _ => ?_
      refine RA.ret env_ok ?_
      exact lf (.string (bstr (pB 1 d.data))) (by rw [body_4 (show kd d.typ = 4 from by have := kd_cases d.typ; omega)] <;> rfl)
     ·
      refine oP 64 yF rfl (Eq.trans (r_bin rfl rfl rfl (b_eql rfl)) (dF hc5)) <| OA.ps [(63, yF)] rfl <| OA.nil fun _ => RA.condF rfl <| RA.region env_ok ?_
      by_cases hc6 : d.typ = 5
      ·
       refine oP 65 yT rfl (Eq.trans (r_bin rfl rfl rfl (b_eql rfl)) (dT hc6)) <| OA.ps [(63, yT)] rfl <| OA.nil fun _ => RA.condT rfl <| RA.sR hd env_ok <| OA.ps [(66, (Pt n 0 6))] rfl <| oL 67 (.string d.data) get_here <| oP 68 (.agg ⟨[(.int .i64 1), (.string d.data)]⟩) rfl (by kernel_rfl) <| oC 69 (hd.of (by omega) (kb1 (by omega))) rfl rfl (sPPut 1 d.data (by assumption)) fun n24 hn24 => OA.ps [(2, (.string (bstr (pB 1 d.data))))] rfl <| OA.nil fun _ => ?_
       refine RA.ret env_ok ?_
       exact lf (.string (bstr (pB 1 d.data))) (by rw [body_4 (show kd d.typ = 4 from by have := kd_cases d.typ; omega)] <;> rfl)
      ·
       refine oP 65 yF rfl (Eq.trans (r_bin rfl rfl rfl (b_eql rfl)) (dF hc6)) <| OA.ps [(63, yF)] rfl <| OA.nil fun _ => RA.condF rfl <| RA.seq hd <| RA.sR hd env_ok ?_
       by_cases hc7 : d.typ = 6
       ·
        refine oP 71 yT rfl (Eq.trans (r_bin rfl rfl rfl (b_eql rfl)) (dT hc7)) <| OA.ps [(70, yT)] rfl <| OA.nil fun _ => RA.condT rfl <| RA.skip env_ok ?_
        intro _
        refine RA.condT rfl <| RA.sR hd env_ok <| OA.ps [(73, (Pt n 0 12))] rfl <| oL 74 d.cv get_here <| oC 75 (hd.of (by omega) (kb1 (by omega))) rfl rfl (sCAll d.cs d.cv hls.2.1 hc16 (h.mono (sub_a1 hd)).hc) fun n25 hn25 => OA.ps [(2, (.string (bstr (csL d.cs))))] rfl <| OA.nil fun _ => ?_
        refine RA.ret env_ok ?_
        exact lf (.string (bstr (csL d.cs))) (by rw [body_6 (show kd d.typ = 6 from by have := kd_cases d.typ; omega)] <;> rfl)
       ·
        refine oP 71 yF rfl (Eq.trans (r_bin rfl rfl rfl (b_eql rfl)) (dF hc7)) <| OA.ps [(70, yF)] rfl <| OA.nil fun _ => RA.condF rfl <| RA.region env_ok ?_
        by_cases hc8 : d.typ = 9
        ·
         refine oP 72 yT rfl (Eq.trans (r_bin rfl rfl rfl (b_eql rfl)) (dT hc8)) <| OA.ps [(70, yT)] rfl <| OA.nil fun _ => RA.condT rfl <| RA.sR hd env_ok <| OA.ps [(73, (Pt n 0 12))] rfl <| oL 74 d.cv get_here <| oC 75 (hd.of (by omega) (kb1 (by omega))) rfl rfl (sCAll d.cs d.cv hls.2.1 hc16 (h.mono (sub_a1 hd)).hc) fun n26 hn26 => OA.ps [(2, (.string (bstr (csL d.cs))))] rfl <| OA.nil fun _ => ?_
         refine RA.ret env_ok ?_
         exact lf (.string (bstr (csL d.cs))) (by rw [body_6 (show kd d.typ = 6 from by have := kd_cases d.typ; omega)] <;> rfl)
        ·
         refine oP 72 yF rfl (Eq.trans (r_bin rfl rfl rfl (b_eql rfl)) (dF hc8)) <| OA.ps [(70, yF)] rfl <| OA.nil fun _ => RA.condF rfl <| RA.sR hd env_ok ?_
         by_cases hc9 : d.typ = 7
         ·
          refine oP 77 yT rfl (Eq.trans (r_bin rfl rfl rfl (b_eql rfl)) (dT hc9)) <| OA.ps [(76, yT)] rfl <| OA.nil fun _ => RA.condT rfl <| RA.sR hd env_ok <| OA.ps [(78, (Pt n 0 2))] rfl <| oL 79 (W d.tsn) get_here <| oC 80 (hd.of (by omega) (kb1 (by omega))) rfl rfl (sU32 d.tsn) fun n27 hn27 => OA.ps [(2, (.string (bstr (be4 d.tsn))))] rfl <| OA.nil fun _ => RA.rb [(0, (.agg ⟨(cChk d)⟩)), (1, (Pt n 0 0)), (2, (.string (bstr (be4 d.tsn)))), (4, (.int .i64 d.typ)), (5, yF), (25, yF), (51, yF), (63, yF), (70, yF), (76, yT)] rfl (fun τr28 => ?_)
          refine RA.ret env_ok ?_
          exact lf (.string (bstr (be4 d.tsn))) (by rw [body_7 (show kd d.typ = 7 from by have := kd_cases d.typ; omega)] <;> rfl)
         ·
          refine oP 77 yF rfl (Eq.trans (r_bin rfl rfl rfl (b_eql rfl)) (dF hc9)) <| OA.ps [(76, yF)] rfl <| OA.nil fun _ => RA.condF rfl <| RA.seq hd <| RA.sR hd env_ok ?_
          by_cases hc10 : d.typ = 193
          ·
           refine oP 82 yT rfl (Eq.trans (r_bin rfl rfl rfl (b_eql rfl)) (dT hc10)) <| OA.ps [(81, yT)] rfl <| OA.nil fun _ => RA.condT rfl <| RA.skip env_ok ?_
           intro _
           refine RA.condT rfl <| RA.seq hd <| RA.par (md := [some [], some [n], none, some [], some [n], none, some [], some []]) env_ok (hd.of (by omega) (kb1 (by omega))) (by kernel_rfl) <| PQ.ps [(85, (Pt n 0 2))] rfl <| pQl 86 (W d.tsn) get_here <| pA 87 (V := []) (hd.of (by omega) (kb1 (by omega))) rfl rfl (by kernel_rfl) (by kernel_rfl) (sU32 d.tsn) fun n29 hn29 => PQ.ps [(88, (Pt n 0 11))] rfl <| pQl 89 d.pv get_here <| pA 90 (V := []) (hd.of (by omega) (kb1 (by omega))) rfl rfl (by kernel_rfl) (by kernel_rfl) (sPAll d.ps d.pv hls.1 hp16 (h.mono (sub_a1 hd)).hp) fun n30 hn30 => pP 91 (.string (bstr ((be4 d.tsn) ++ (psL d.ps)))) rfl (Eq.trans (r_cat rfl rfl rfl (by simp only [bstr_size, size_lit, List.length_append, be2_len, be4_len, be1_len, List.length_replicate, List.length_cons, List.length_nil, List.size_toArray, L_len]; omega)) (by rw [bstr_app] <;> rfl)) <| PQ.ps [(2, (.string (bstr ((be4 d.tsn) ++ (psL d.ps)))))] rfl ?_
           refine PQ.done (d := []) (by kernel_rfl) fun _ => RA.rb [(0, (.agg ⟨(cChk d)⟩)), (1, (Pt n 0 0)), (2, (.string (bstr ((be4 d.tsn) ++ (psL d.ps))))), (4, (.int .i64 d.typ)), (5, yF), (25, yF), (51, yF), (63, yF), (70, yF), (76, yF), (81, yT)] rfl (fun τr31 => ?_)
           refine RA.ret env_ok ?_
           exact lf (.string (bstr ((be4 d.tsn) ++ (psL d.ps)))) (by rw [body_16 (show kd d.typ = 16 from by have := kd_cases d.typ; omega)] <;> rfl)
          ·
           refine oP 82 yF rfl (Eq.trans (r_bin rfl rfl rfl (b_eql rfl)) (dF hc10)) <| OA.ps [(81, yF)] rfl <| OA.nil fun _ => RA.condF rfl <| RA.sR hd env_ok ?_
           by_cases hc11 : d.typ = 128
           ·
            refine oP 83 yT rfl (Eq.trans (r_bin rfl rfl rfl (b_eql rfl)) (dT hc11)) <| OA.ps [(81, yT)] rfl <| OA.nil fun _ => RA.rb [(0, (.agg ⟨(cChk d)⟩)), (1, (Pt n 0 0)), (2, (.string (ByteArray.mk #[]))), (4, (.int .i64 d.typ)), (5, yF), (25, yF), (51, yF), (63, yF), (70, yF), (76, yF), (81, yT)] rfl (fun τr32 => ?_)
            refine RA.condT rfl <| RA.skip env_ok ?_
            intro _
            refine RA.condT rfl <| RA.seq hd <| RA.par (md := [some [], some [n], none, some [], some [n], none, some [], some []]) env_ok (hd.of (by omega) (kb1 (by omega))) (by kernel_rfl) <| PQ.ps [(85, (Pt n 0 2))] rfl <| pQl 86 (W d.tsn) get_here <| pA 87 (V := []) (hd.of (by omega) (kb1 (by omega))) rfl rfl (by kernel_rfl) (by kernel_rfl) (sU32 d.tsn) fun n33 hn33 => PQ.ps [(88, (Pt n 0 11))] rfl <| pQl 89 d.pv get_here <| pA 90 (V := []) (hd.of (by omega) (kb1 (by omega))) rfl rfl (by kernel_rfl) (by kernel_rfl) (sPAll d.ps d.pv hls.1 hp16 (h.mono (sub_a1 hd)).hp) fun n34 hn34 => pP 91 (.string (bstr ((be4 d.tsn) ++ (psL d.ps)))) rfl (Eq.trans (r_cat rfl rfl rfl (by simp only [bstr_size, size_lit, List.length_append, be2_len, be4_len, be1_len, List.length_replicate, List.length_cons, List.length_nil, List.size_toArray, L_len]; omega)) (by rw [bstr_app] <;> rfl)) <| PQ.ps [(2, (.string (bstr ((be4 d.tsn) ++ (psL d.ps)))))] rfl ?_
            refine PQ.done (d := []) (by kernel_rfl) fun _ => ?_
            refine RA.ret env_ok ?_
            exact lf (.string (bstr ((be4 d.tsn) ++ (psL d.ps)))) (by rw [body_16 (show kd d.typ = 16 from by have := kd_cases d.typ; omega)] <;> rfl)
           ·
            refine oP 83 yF rfl (Eq.trans (r_bin rfl rfl rfl (b_eql rfl)) (dF hc11)) <| OA.ps [(81, yF)] rfl <| OA.nil fun _ => RA.rb [(0, (.agg ⟨(cChk d)⟩)), (1, (Pt n 0 0)), (2, (.string (ByteArray.mk #[]))), (4, (.int .i64 d.typ)), (5, yF), (25, yF), (51, yF), (63, yF), (70, yF), (76, yF), (81, yF)] rfl (fun τr35 => ?_)
            refine RA.condF rfl <| RA.region env_ok ?_
            by_cases hc12 : d.typ = 130
            ·
             refine oP 84 yT rfl (Eq.trans (r_bin rfl rfl rfl (b_eql rfl)) (dT hc12)) <| OA.ps [(81, yT)] rfl <| OA.nil fun _ => RA.condT rfl <| RA.seq hd <| RA.par (md := [some [], some [n], none, some [], some [n], none, some [], some []]) env_ok (hd.of (by omega) (kb1 (by omega))) (by kernel_rfl) <| PQ.ps [(85, (Pt n 0 2))] rfl <| pQl 86 (W d.tsn) get_here <| pA 87 (V := []) (hd.of (by omega) (kb1 (by omega))) rfl rfl (by kernel_rfl) (by kernel_rfl) (sU32 d.tsn) fun n36 hn36 => PQ.ps [(88, (Pt n 0 11))] rfl <| pQl 89 d.pv get_here ?_
             refine pA 90 (V := []) (hd.of (by omega) (kb1 (by omega))) rfl rfl (by kernel_rfl) (by kernel_rfl) (sPAll d.ps d.pv hls.1 hp16 (h.mono (sub_a1 hd)).hp) fun n37 hn37 => pP 91 (.string (bstr ((be4 d.tsn) ++ (psL d.ps)))) rfl (Eq.trans (r_cat rfl rfl rfl (by simp only [bstr_size, size_lit, List.length_append, be2_len, be4_len, be1_len, List.length_replicate, List.length_cons, List.length_nil, List.size_toArray, L_len]; omega)) (by rw [bstr_app] <;> rfl)) <| PQ.ps [(2, (.string (bstr ((be4 d.tsn) ++ (psL d.ps)))))] rfl <| PQ.done (d := []) (by kernel_rfl) fun _ => ?_
             refine RA.ret env_ok ?_
             exact lf (.string (bstr ((be4 d.tsn) ++ (psL d.ps)))) (by rw [body_16 (show kd d.typ = 16 from by have := kd_cases d.typ; omega)] <;> rfl)
            ·
             refine oP 84 yF rfl (Eq.trans (r_bin rfl rfl rfl (b_eql rfl)) (dF hc12)) <| OA.ps [(81, yF)] rfl <| OA.nil fun _ => RA.condF rfl <| RA.seq hd <| RA.sR hd env_ok ?_
             by_cases hc13 : d.typ = 8
             ·
              refine oP 93 yT rfl (Eq.trans (r_bin rfl rfl rfl (b_eql rfl)) (dT hc13)) <| OA.ps [(92, yT)] rfl <| OA.nil fun _ => RA.condT rfl <| RA.skip env_ok ?_
              intro _
              refine RA.condT rfl <| RA.sR hd env_ok <| OA.ps [(2, (.string (ByteArray.mk #[])))] rfl <| OA.nil fun _ => ?_
              refine RA.ret env_ok ?_
              exact lf (.string (ByteArray.mk #[])) (by rw [body_8 (show kd d.typ = 8 from by have := kd_cases d.typ; omega)] <;> rfl)
             ·
              refine oP 93 yF rfl (Eq.trans (r_bin rfl rfl rfl (b_eql rfl)) (dF hc13)) <| OA.ps [(92, yF)] rfl <| OA.nil fun _ => RA.condF rfl <| RA.sR hd env_ok ?_
              by_cases hc14 : d.typ = 11
              ·
               refine oP 94 yT rfl (Eq.trans (r_bin rfl rfl rfl (b_eql rfl)) (dT hc14)) <| OA.ps [(92, yT)] rfl <| OA.nil fun _ => RA.condT rfl <| RA.skip env_ok ?_
               intro _
               refine RA.condT rfl <| RA.sR hd env_ok <| OA.ps [(2, (.string (ByteArray.mk #[])))] rfl <| OA.nil fun _ => ?_
               refine RA.ret env_ok ?_
               exact lf (.string (ByteArray.mk #[])) (by rw [body_8 (show kd d.typ = 8 from by have := kd_cases d.typ; omega)] <;> rfl)
              ·
               refine oP 94 yF rfl (Eq.trans (r_bin rfl rfl rfl (b_eql rfl)) (dF hc14)) <| OA.ps [(92, yF)] rfl <| OA.nil fun _ => RA.condF rfl <| RA.region env_ok ?_
               by_cases hc15 : d.typ = 14
               ·
                refine oP 95 yT rfl (Eq.trans (r_bin rfl rfl rfl (b_eql rfl)) (dT hc15)) <| OA.ps [(92, yT)] rfl <| OA.nil fun _ => RA.condT rfl <| RA.sR hd env_ok <| OA.ps [(2, (.string (ByteArray.mk #[])))] rfl <| OA.nil fun _ => ?_
                refine RA.ret env_ok ?_
                exact lf (.string (ByteArray.mk #[])) (by rw [body_8 (show kd d.typ = 8 from by have := kd_cases d.typ; omega)] <;> rfl)
               ·
                refine oP 95 yF rfl (Eq.trans (r_bin rfl rfl rfl (b_eql rfl)) (dF hc15)) <| OA.ps [(92, yF)] rfl <| OA.nil fun _ => RA.condF rfl <| RA.sR hd env_ok ?_
                by_cases hc16 : d.typ = 15
                ·
                 refine oP 97 yT rfl (Eq.trans (r_bin rfl rfl rfl (b_eql rfl)) (dT hc16)) <| OA.ps [(96, yT)] rfl <| OA.nil fun _ => RA.condT rfl <| RA.seq hd <| RA.par (md := [some [], some [n], none, some [], some [n], none, some [], some [], some [n], some [], some []]) env_ok (hd.of (by omega) (kb1 (by omega))) (by kernel_rfl) <| PQ.ps [(98, (Pt n 0 3))] rfl <| pQl 99 (.int .i64 d.stream) get_here <| pA 100 (V := []) (hd.of (by omega) (kb1 (by omega))) rfl rfl (by kernel_rfl) (by kernel_rfl) (zU16 d.stream (by omega) (by omega)) fun n38 hn38 => PQ.ps [(101, (Pt n 0 4))] rfl <| pQl 102 (.int .i64 d.ssn) get_here ?_
                 refine pA 103 (V := []) (hd.of (by omega) (kb1 (by omega))) rfl rfl (by kernel_rfl) (by kernel_rfl) (zU16 d.ssn (by omega) (by omega)) fun n39 hn39 => pP 104 (.string (bstr ((be2 (d.stream).toNat) ++ (be2 (d.ssn).toNat)))) rfl (Eq.trans (r_cat rfl rfl rfl (by simp only [bstr_size, size_lit, List.length_append, be2_len, be4_len, be1_len, List.length_replicate, List.length_cons, List.length_nil, List.size_toArray, L_len]; omega)) (by rw [bstr_app] <;> rfl)) <| PQ.ps [(105, (Pt n 0 6))] rfl <| pQl 106 (.string d.data) get_here <| pP 107 (.string (bstr (((be2 (d.stream).toNat) ++ (be2 (d.ssn).toNat)) ++ L d.data))) rfl (Eq.trans (r_cat rfl rfl rfl (by simp only [bstr_size, List.length_append, be2_len, be4_len, be1_len, L_len]; omega)) (by rw [bstr_appL] <;> rfl)) <| PQ.ps [(2, (.string (bstr (((be2 (d.stream).toNat) ++ (be2 (d.ssn).toNat)) ++ L d.data))))] rfl <| PQ.done (d := []) (by kernel_rfl) fun _ => ?_
                 refine RA.ret env_ok ?_
                 exact lf (.string (bstr (((be2 (d.stream).toNat) ++ (be2 (d.ssn).toNat)) ++ L d.data))) (by rw [body_15 (show kd d.typ = 15 from by have := kd_cases d.typ; omega)] <;> rfl)
                ·
                 refine oP 97 yF rfl (Eq.trans (r_bin rfl rfl rfl (b_eql rfl)) (dF hc16)) <| OA.ps [(96, yF)] rfl <| OA.nil fun _ => RA.condF rfl <| RA.skip env_ok ?_
                 intro _
                 refine RA.sR hd env_ok <| OA.ps [(108, (Pt n 0 6))] rfl <| oL 109 (.string d.data) get_here <| OA.ps [(2, (.string d.data))] rfl <| OA.nil fun _ => ?_
                 refine RA.ret env_ok ?_
                 exact lf (.string d.data) (by rw [body_20 (show kd d.typ = 10 ∨ kd d.typ = 20 from by have := kd_cases d.typ; omega), bstr_Lr] <;> rfl)
end Go.Proofs.Ytgajcmanompmcaa.Vt
