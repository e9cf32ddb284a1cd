/- The tables of types and functions, for the abstract machine. -/
import Derived.Test.YtmepflkodjdgdaaVm2
import Derived.Test.YtmepflkodjdgdaaProg
namespace Go.Proofs.Ytmepflkodjdgdaa.Vt
open Go Go.Proofs Go.Proofs.YtmepflkodjdgdaaV
set_option maxRecDepth 100000
set_option linter.unusedVariables false
def t3 : TI := ⟨.int .i64, .int .i64 0, 1, 8, false⟩
theorem t3_ok : TyOk Try.prog 3 t3 := TyOk.mk' Try.underlying3 (by kernel_rfl) (by kernel_rfl) (.inl rfl)
def t4 : TI := ⟨.bool, .bool false, 1, 1, false⟩
theorem t4_ok : TyOk Try.prog 4 t4 := TyOk.mk' Try.underlying4 (by kernel_rfl) (by kernel_rfl) (.inl rfl)
def t5 : TI := ⟨.int .u8, .int .u8 0, 1, 1, false⟩
theorem t5_ok : TyOk Try.prog 5 t5 := TyOk.mk' Try.underlying5 (by kernel_rfl) (by kernel_rfl) (.inl rfl)
def t9 : TI := ⟨.string, .string ⟨#[]⟩, 1, 16, false⟩
theorem t9_ok : TyOk Try.prog 9 t9 := TyOk.mk' Try.underlying9 (by kernel_rfl) (by kernel_rfl) (.inl rfl)
def t22 : TI := ⟨.slice 5, .slice none 0 0, 1, 24, false⟩
theorem t22_ok : TyOk Try.prog 22 t22 := TyOk.mk' Try.underlying22 (by kernel_rfl) (by kernel_rfl) (.inl rfl)
def t23 : TI := ⟨.pointer 101, .pointer none, 1, 8, false⟩
theorem t23_ok : TyOk Try.prog 23 t23 := TyOk.mk' Try.underlying23 (by kernel_rfl) (by kernel_rfl) (.inl rfl)
def t25 : TI := ⟨.slice 4, .slice none 0 0, 1, 24, false⟩
theorem t25_ok : TyOk Try.prog 25 t25 := TyOk.mk' Try.underlying25 (by kernel_rfl) (by kernel_rfl) (.inl rfl)
def t26 : TI := ⟨.func #[29] #[4] false, .nilFunc, 1, 8, false⟩
theorem t26_ok : TyOk Try.prog 26 t26 := TyOk.mk' Try.underlying26 (by kernel_rfl) (by kernel_rfl) (.inl rfl)
def t27 : TI := ⟨.int .u32, .int .u32 0, 1, 4, false⟩
theorem t27_ok : TyOk Try.prog 27 t27 := TyOk.mk' Try.underlying27 (by kernel_rfl) (by kernel_rfl) (.inl rfl)
def t28 : TI := ⟨.struct #[{ name := "Stream", type := 3, offset := 0, embedded := false, tag := "", pkgPath := "", byteOffset := 0 }, { name := "Ssn", type := 3, offset := 1, embedded := false, tag := "", pkgPath := "", byteOffset := 8 }, { name := "Loose", type := 4, offset := 2, embedded := false, tag := "", pkgPath := "", byteOffset := 16 }, { name := "Proto", type := 27, offset := 3, embedded := false, tag := "", pkgPath := "", byteOffset := 20 }, { name := "Data", type := 9, offset := 4, embedded := false, tag := "", pkgPath := "", byteOffset := 24 }], .agg #[.int .i64 0, .int .i64 0, .bool false, .int .u32 0, .string ⟨#[]⟩], 5, 40, true⟩
theorem t28_ok : TyOk Try.prog 28 t28 := TyOk.mk' Try.underlying28 (by kernel_rfl) (by kernel_rfl) (.inr ⟨by kernel_rfl, by kernel_rfl⟩)
def t29 : TI := ⟨.struct #[{ name := "Stream", type := 3, offset := 0, embedded := false, tag := "", pkgPath := "", byteOffset := 0 }, { name := "Ssn", type := 3, offset := 1, embedded := false, tag := "", pkgPath := "", byteOffset := 8 }, { name := "Loose", type := 4, offset := 2, embedded := false, tag := "", pkgPath := "", byteOffset := 16 }, { name := "Proto", type := 27, offset := 3, embedded := false, tag := "", pkgPath := "", byteOffset := 20 }, { name := "Data", type := 9, offset := 4, embedded := false, tag := "", pkgPath := "", byteOffset := 24 }], .agg #[.int .i64 0, .int .i64 0, .bool false, .int .u32 0, .string ⟨#[]⟩], 5, 40, true⟩
theorem t29_ok : TyOk Try.prog 29 t29 := TyOk.mk' Try.underlying29 (by kernel_rfl) (by kernel_rfl) (.inr ⟨by kernel_rfl, by kernel_rfl⟩)
def t34 : TI := ⟨.slice 40, .slice none 0 0, 1, 24, false⟩
theorem t34_ok : TyOk Try.prog 34 t34 := TyOk.mk' Try.underlying34 (by kernel_rfl) (by kernel_rfl) (.inl rfl)
def t35 : TI := ⟨.slice 3, .slice none 0 0, 1, 24, false⟩
theorem t35_ok : TyOk Try.prog 35 t35 := TyOk.mk' Try.underlying35 (by kernel_rfl) (by kernel_rfl) (.inl rfl)
def t36 : TI := ⟨.slice 29, .slice none 0 0, 1, 24, false⟩
theorem t36_ok : TyOk Try.prog 36 t36 := TyOk.mk' Try.underlying36 (by kernel_rfl) (by kernel_rfl) (.inl rfl)
def t37 : TI := ⟨.struct #[{ name := "Next", type := 35, offset := 0, embedded := false, tag := "", pkgPath := "", byteOffset := 0 }, { name := "Wait", type := 36, offset := 1, embedded := false, tag := "", pkgPath := "", byteOffset := 24 }, { name := "Out", type := 36, offset := 2, embedded := false, tag := "", pkgPath := "", byteOffset := 48 }], .agg #[.slice none 0 0, .slice none 0 0, .slice none 0 0], 3, 72, false⟩
theorem t37_ok : TyOk Try.prog 37 t37 := TyOk.mk' Try.underlying37 (by kernel_rfl) (by kernel_rfl) (.inl rfl)
def t38 : TI := ⟨.struct #[{ name := "Next", type := 35, offset := 0, embedded := false, tag := "", pkgPath := "", byteOffset := 0 }, { name := "Wait", type := 36, offset := 1, embedded := false, tag := "", pkgPath := "", byteOffset := 24 }, { name := "Out", type := 36, offset := 2, embedded := false, tag := "", pkgPath := "", byteOffset := 48 }], .agg #[.slice none 0 0, .slice none 0 0, .slice none 0 0], 3, 72, false⟩
theorem t38_ok : TyOk Try.prog 38 t38 := TyOk.mk' Try.underlying38 (by kernel_rfl) (by kernel_rfl) (.inl rfl)
def t39 : TI := ⟨.struct #[{ name := "What", type := 3, offset := 0, embedded := false, tag := "", pkgPath := "", byteOffset := 0 }, { name := "M", type := 29, offset := 1, embedded := false, tag := "", pkgPath := "", byteOffset := 8 }], .agg #[.int .i64 0, .int .i64 0, .int .i64 0, .bool false, .int .u32 0, .string ⟨#[]⟩], 6, 48, false⟩
theorem t39_ok : TyOk Try.prog 39 t39 := TyOk.mk' Try.underlying39 (by kernel_rfl) (by kernel_rfl) (.inl rfl)
def t40 : TI := ⟨.struct #[{ name := "What", type := 3, offset := 0, embedded := false, tag := "", pkgPath := "", byteOffset := 0 }, { name := "M", type := 29, offset := 1, embedded := false, tag := "", pkgPath := "", byteOffset := 8 }], .agg #[.int .i64 0, .int .i64 0, .int .i64 0, .bool false, .int .u32 0, .string ⟨#[]⟩], 6, 48, false⟩
theorem t40_ok : TyOk Try.prog 40 t40 := TyOk.mk' Try.underlying40 (by kernel_rfl) (by kernel_rfl) (.inl rfl)
def t47 : TI := ⟨.pointer 107, .pointer none, 1, 8, false⟩
theorem t47_ok : TyOk Try.prog 47 t47 := TyOk.mk' Try.underlying47 (by kernel_rfl) (by kernel_rfl) (.inl rfl)
def t49 : TI := ⟨.slice 169, .slice none 0 0, 1, 24, false⟩
theorem t49_ok : TyOk Try.prog 49 t49 := TyOk.mk' Try.underlying49 (by kernel_rfl) (by kernel_rfl) (.inl rfl)
def t50 : TI := ⟨.slice 171, .slice none 0 0, 1, 24, false⟩
theorem t50_ok : TyOk Try.prog 50 t50 := TyOk.mk' Try.underlying50 (by kernel_rfl) (by kernel_rfl) (.inl rfl)
def t51 : TI := ⟨.slice 60, .slice none 0 0, 1, 24, false⟩
theorem t51_ok : TyOk Try.prog 51 t51 := TyOk.mk' Try.underlying51 (by kernel_rfl) (by kernel_rfl) (.inl rfl)
def t52 : TI := ⟨.slice 27, .slice none 0 0, 1, 24, false⟩
theorem t52_ok : TyOk Try.prog 52 t52 := TyOk.mk' Try.underlying52 (by kernel_rfl) (by kernel_rfl) (.inl rfl)
def t53 : TI := ⟨.struct #[{ name := "Type", type := 3, offset := 0, embedded := false, tag := "", pkgPath := "", byteOffset := 0 }, { name := "Flags", type := 3, offset := 1, embedded := false, tag := "", pkgPath := "", byteOffset := 8 }, { name := "Tsn", type := 27, offset := 2, embedded := false, tag := "", pkgPath := "", byteOffset := 16 }, { name := "Stream", type := 3, offset := 3, embedded := false, tag := "", pkgPath := "", byteOffset := 24 }, { name := "Ssn", type := 3, offset := 4, embedded := false, tag := "", pkgPath := "", byteOffset := 32 }, { name := "Proto", type := 27, offset := 5, embedded := false, tag := "", pkgPath := "", byteOffset := 40 }, { name := "Data", type := 9, offset := 6, embedded := false, tag := "", pkgPath := "", byteOffset := 48 }, { name := "Tag", type := 27, offset := 7, embedded := false, tag := "", pkgPath := "", byteOffset := 64 }, { name := "Rwnd", type := 27, offset := 8, embedded := false, tag := "", pkgPath := "", byteOffset := 68 }, { name := "Out", type := 3, offset := 9, embedded := false, tag := "", pkgPath := "", byteOffset := 72 }, { name := "In", type := 3, offset := 10, embedded := false, tag := "", pkgPath := "", byteOffset := 80 }, { name := "Params", type := 49, offset := 11, embedded := false, tag := "", pkgPath := "", byteOffset := 88 }, { name := "Causes", type := 50, offset := 12, embedded := false, tag := "", pkgPath := "", byteOffset := 112 }, { name := "Gaps", type := 51, offset := 13, embedded := false, tag := "", pkgPath := "", byteOffset := 136 }, { name := "Dups", type := 52, offset := 14, embedded := false, tag := "", pkgPath := "", byteOffset := 160 }], .agg #[.int .i64 0, .int .i64 0, .int .u32 0, .int .i64 0, .int .i64 0, .int .u32 0, .string ⟨#[]⟩, .int .u32 0, .int .u32 0, .int .i64 0, .int .i64 0, .slice none 0 0, .slice none 0 0, .slice none 0 0, .slice none 0 0], 15, 184, false⟩
theorem t53_ok : TyOk Try.prog 53 t53 := TyOk.mk' Try.underlying53 (by kernel_rfl) (by kernel_rfl) (.inl rfl)
def t54 : TI := ⟨.struct #[{ name := "Type", type := 3, offset := 0, embedded := false, tag := "", pkgPath := "", byteOffset := 0 }, { name := "Flags", type := 3, offset := 1, embedded := false, tag := "", pkgPath := "", byteOffset := 8 }, { name := "Tsn", type := 27, offset := 2, embedded := false, tag := "", pkgPath := "", byteOffset := 16 }, { name := "Stream", type := 3, offset := 3, embedded := false, tag := "", pkgPath := "", byteOffset := 24 }, { name := "Ssn", type := 3, offset := 4, embedded := false, tag := "", pkgPath := "", byteOffset := 32 }, { name := "Proto", type := 27, offset := 5, embedded := false, tag := "", pkgPath := "", byteOffset := 40 }, { name := "Data", type := 9, offset := 6, embedded := false, tag := "", pkgPath := "", byteOffset := 48 }, { name := "Tag", type := 27, offset := 7, embedded := false, tag := "", pkgPath := "", byteOffset := 64 }, { name := "Rwnd", type := 27, offset := 8, embedded := false, tag := "", pkgPath := "", byteOffset := 68 }, { name := "Out", type := 3, offset := 9, embedded := false, tag := "", pkgPath := "", byteOffset := 72 }, { name := "In", type := 3, offset := 10, embedded := false, tag := "", pkgPath := "", byteOffset := 80 }, { name := "Params", type := 49, offset := 11, embedded := false, tag := "", pkgPath := "", byteOffset := 88 }, { name := "Causes", type := 50, offset := 12, embedded := false, tag := "", pkgPath := "", byteOffset := 112 }, { name := "Gaps", type := 51, offset := 13, embedded := false, tag := "", pkgPath := "", byteOffset := 136 }, { name := "Dups", type := 52, offset := 14, embedded := false, tag := "", pkgPath := "", byteOffset := 160 }], .agg #[.int .i64 0, .int .i64 0, .int .u32 0, .int .i64 0, .int .i64 0, .int .u32 0, .string ⟨#[]⟩, .int .u32 0, .int .u32 0, .int .i64 0, .int .i64 0, .slice none 0 0, .slice none 0 0, .slice none 0 0, .slice none 0 0], 15, 184, false⟩
theorem t54_ok : TyOk Try.prog 54 t54 := TyOk.mk' Try.underlying54 (by kernel_rfl) (by kernel_rfl) (.inl rfl)
def t56 : TI := ⟨.struct #[{ name := "More", type := 4, offset := 0, embedded := false, tag := "", pkgPath := "", byteOffset := 0 }, { name := "Came", type := 35, offset := 1, embedded := false, tag := "", pkgPath := "", byteOffset := 8 }, { name := "Took", type := 35, offset := 2, embedded := false, tag := "", pkgPath := "", byteOffset := 32 }, { name := "Lost", type := 25, offset := 3, embedded := false, tag := "", pkgPath := "", byteOffset := 56 }], .agg #[.bool false, .slice none 0 0, .slice none 0 0, .slice none 0 0], 4, 80, false⟩
theorem t56_ok : TyOk Try.prog 56 t56 := TyOk.mk' Try.underlying56 (by kernel_rfl) (by kernel_rfl) (.inl rfl)
def t57 : TI := ⟨.struct #[{ name := "More", type := 4, offset := 0, embedded := false, tag := "", pkgPath := "", byteOffset := 0 }, { name := "Came", type := 35, offset := 1, embedded := false, tag := "", pkgPath := "", byteOffset := 8 }, { name := "Took", type := 35, offset := 2, embedded := false, tag := "", pkgPath := "", byteOffset := 32 }, { name := "Lost", type := 25, offset := 3, embedded := false, tag := "", pkgPath := "", byteOffset := 56 }], .agg #[.bool false, .slice none 0 0, .slice none 0 0, .slice none 0 0], 4, 80, false⟩
theorem t57_ok : TyOk Try.prog 57 t57 := TyOk.mk' Try.underlying57 (by kernel_rfl) (by kernel_rfl) (.inl rfl)
def t59 : TI := ⟨.struct #[{ name := "From", type := 3, offset := 0, embedded := false, tag := "", pkgPath := "", byteOffset := 0 }, { name := "To", type := 3, offset := 1, embedded := false, tag := "", pkgPath := "", byteOffset := 8 }], .agg #[.int .i64 0, .int .i64 0], 2, 16, true⟩
theorem t59_ok : TyOk Try.prog 59 t59 := TyOk.mk' Try.underlying59 (by kernel_rfl) (by kernel_rfl) (.inr ⟨by kernel_rfl, by kernel_rfl⟩)
def t60 : TI := ⟨.struct #[{ name := "From", type := 3, offset := 0, embedded := false, tag := "", pkgPath := "", byteOffset := 0 }, { name := "To", type := 3, offset := 1, embedded := false, tag := "", pkgPath := "", byteOffset := 8 }], .agg #[.int .i64 0, .int .i64 0], 2, 16, true⟩
theorem t60_ok : TyOk Try.prog 60 t60 := TyOk.mk' Try.underlying60 (by kernel_rfl) (by kernel_rfl) (.inr ⟨by kernel_rfl, by kernel_rfl⟩)
def t66 : TI := ⟨.slice 71, .slice none 0 0, 1, 24, false⟩
theorem t66_ok : TyOk Try.prog 66 t66 := TyOk.mk' Try.underlying66 (by kernel_rfl) (by kernel_rfl) (.inl rfl)
def t67 : TI := ⟨.pointer 122, .pointer none, 1, 8, false⟩
theorem t67_ok : TyOk Try.prog 67 t67 := TyOk.mk' Try.underlying67 (by kernel_rfl) (by kernel_rfl) (.inl rfl)
def t69 : TI := ⟨.slice 54, .slice none 0 0, 1, 24, false⟩
theorem t69_ok : TyOk Try.prog 69 t69 := TyOk.mk' Try.underlying69 (by kernel_rfl) (by kernel_rfl) (.inl rfl)
def t70 : TI := ⟨.struct #[{ name := "Far", type := 3, offset := 0, embedded := false, tag := "", pkgPath := "", byteOffset := 0 }, { name := "Flags", type := 3, offset := 1, embedded := false, tag := "", pkgPath := "", byteOffset := 8 }, { name := "Stream", type := 3, offset := 2, embedded := false, tag := "", pkgPath := "", byteOffset := 16 }, { name := "Data", type := 9, offset := 3, embedded := false, tag := "", pkgPath := "", byteOffset := 24 }], .agg #[.int .i64 0, .int .i64 0, .int .i64 0, .string ⟨#[]⟩], 4, 40, false⟩
theorem t70_ok : TyOk Try.prog 70 t70 := TyOk.mk' Try.underlying70 (by kernel_rfl) (by kernel_rfl) (.inl rfl)
def t71 : TI := ⟨.struct #[{ name := "Far", type := 3, offset := 0, embedded := false, tag := "", pkgPath := "", byteOffset := 0 }, { name := "Flags", type := 3, offset := 1, embedded := false, tag := "", pkgPath := "", byteOffset := 8 }, { name := "Stream", type := 3, offset := 2, embedded := false, tag := "", pkgPath := "", byteOffset := 16 }, { name := "Data", type := 9, offset := 3, embedded := false, tag := "", pkgPath := "", byteOffset := 24 }], .agg #[.int .i64 0, .int .i64 0, .int .i64 0, .string ⟨#[]⟩], 4, 40, false⟩
theorem t71_ok : TyOk Try.prog 71 t71 := TyOk.mk' Try.underlying71 (by kernel_rfl) (by kernel_rfl) (.inl rfl)
def t72 : TI := ⟨.int .u64, .int .u64 0, 1, 8, false⟩
theorem t72_ok : TyOk Try.prog 72 t72 := TyOk.mk' Try.underlying72 (by kernel_rfl) (by kernel_rfl) (.inl rfl)
def t77 : TI := ⟨.func #[54] #[4] false, .nilFunc, 1, 8, false⟩
theorem t77_ok : TyOk Try.prog 77 t77 := TyOk.mk' Try.underlying77 (by kernel_rfl) (by kernel_rfl) (.inl rfl)
def t78 : TI := ⟨.pointer 131, .pointer none, 1, 8, false⟩
theorem t78_ok : TyOk Try.prog 78 t78 := TyOk.mk' Try.underlying78 (by kernel_rfl) (by kernel_rfl) (.inl rfl)
def t85 : TI := ⟨.struct #[{ name := "Cum", type := 27, offset := 0, embedded := false, tag := "", pkgPath := "", byteOffset := 0 }, { name := "Far", type := 35, offset := 1, embedded := false, tag := "", pkgPath := "", byteOffset := 8 }, { name := "Dups", type := 52, offset := 2, embedded := false, tag := "", pkgPath := "", byteOffset := 32 }], .agg #[.int .u32 0, .slice none 0 0, .slice none 0 0], 3, 56, false⟩
theorem t85_ok : TyOk Try.prog 85 t85 := TyOk.mk' Try.underlying85 (by kernel_rfl) (by kernel_rfl) (.inl rfl)
def t86 : TI := ⟨.struct #[{ name := "Cum", type := 27, offset := 0, embedded := false, tag := "", pkgPath := "", byteOffset := 0 }, { name := "Far", type := 35, offset := 1, embedded := false, tag := "", pkgPath := "", byteOffset := 8 }, { name := "Dups", type := 52, offset := 2, embedded := false, tag := "", pkgPath := "", byteOffset := 32 }], .agg #[.int .u32 0, .slice none 0 0, .slice none 0 0], 3, 56, false⟩
theorem t86_ok : TyOk Try.prog 86 t86 := TyOk.mk' Try.underlying86 (by kernel_rfl) (by kernel_rfl) (.inl rfl)
def t94 : TI := ⟨.slice 109, .slice none 0 0, 1, 24, false⟩
theorem t94_ok : TyOk Try.prog 94 t94 := TyOk.mk' Try.underlying94 (by kernel_rfl) (by kernel_rfl) (.inl rfl)
def t99 : TI := ⟨.slice 102, .slice none 0 0, 1, 24, false⟩
theorem t99_ok : TyOk Try.prog 99 t99 := TyOk.mk' Try.underlying99 (by kernel_rfl) (by kernel_rfl) (.inl rfl)
def t100 : TI := ⟨.struct #[{ name := "next", type := 99, offset := 0, embedded := false, tag := "", pkgPath := "crossway/deliver", byteOffset := 0 }, { name := "wait", type := 36, offset := 1, embedded := false, tag := "", pkgPath := "crossway/deliver", byteOffset := 24 }, { name := "out", type := 36, offset := 2, embedded := false, tag := "", pkgPath := "crossway/deliver", byteOffset := 48 }], .agg #[.slice none 0 0, .slice none 0 0, .slice none 0 0], 3, 72, false⟩
theorem t100_ok : TyOk Try.prog 100 t100 := TyOk.mk' Try.underlying100 (by kernel_rfl) (by kernel_rfl) (.inl rfl)
def t101 : TI := ⟨.struct #[{ name := "next", type := 99, offset := 0, embedded := false, tag := "", pkgPath := "crossway/deliver", byteOffset := 0 }, { name := "wait", type := 36, offset := 1, embedded := false, tag := "", pkgPath := "crossway/deliver", byteOffset := 24 }, { name := "out", type := 36, offset := 2, embedded := false, tag := "", pkgPath := "crossway/deliver", byteOffset := 48 }], .agg #[.slice none 0 0, .slice none 0 0, .slice none 0 0], 3, 72, false⟩
theorem t101_ok : TyOk Try.prog 101 t101 := TyOk.mk' Try.underlying101 (by kernel_rfl) (by kernel_rfl) (.inl rfl)
def t102 : TI := ⟨.int .u16, .int .u16 0, 1, 2, false⟩
theorem t102_ok : TyOk Try.prog 102 t102 := TyOk.mk' Try.underlying102 (by kernel_rfl) (by kernel_rfl) (.inl rfl)
def t106 : TI := ⟨.struct #[{ name := "list", type := 94, offset := 0, embedded := false, tag := "", pkgPath := "crossway/flight", byteOffset := 0 }, { name := "cum", type := 27, offset := 1, embedded := false, tag := "", pkgPath := "crossway/flight", byteOffset := 24 }], .agg #[.slice none 0 0, .int .u32 0], 2, 32, false⟩
theorem t106_ok : TyOk Try.prog 106 t106 := TyOk.mk' Try.underlying106 (by kernel_rfl) (by kernel_rfl) (.inl rfl)
def t107 : TI := ⟨.struct #[{ name := "list", type := 94, offset := 0, embedded := false, tag := "", pkgPath := "crossway/flight", byteOffset := 0 }, { name := "cum", type := 27, offset := 1, embedded := false, tag := "", pkgPath := "crossway/flight", byteOffset := 24 }], .agg #[.slice none 0 0, .int .u32 0], 2, 32, false⟩
theorem t107_ok : TyOk Try.prog 107 t107 := TyOk.mk' Try.underlying107 (by kernel_rfl) (by kernel_rfl) (.inl rfl)
def t108 : TI := ⟨.struct #[{ name := "Chunk", type := 54, offset := 0, embedded := false, tag := "", pkgPath := "", byteOffset := 0 }, { name := "Path", type := 3, offset := 15, embedded := false, tag := "", pkgPath := "", byteOffset := 184 }, { name := "At", type := 3, offset := 16, embedded := false, tag := "", pkgPath := "", byteOffset := 192 }, { name := "Times", type := 3, offset := 17, embedded := false, tag := "", pkgPath := "", byteOffset := 200 }, { name := "Missed", type := 3, offset := 18, embedded := false, tag := "", pkgPath := "", byteOffset := 208 }, { name := "Again", type := 4, offset := 19, embedded := false, tag := "", pkgPath := "", byteOffset := 216 }, { name := "Came", type := 4, offset := 20, embedded := false, tag := "", pkgPath := "", byteOffset := 217 }, { name := "Fast", type := 4, offset := 21, embedded := false, tag := "", pkgPath := "", byteOffset := 218 }], .agg #[.int .i64 0, .int .i64 0, .int .u32 0, .int .i64 0, .int .i64 0, .int .u32 0, .string ⟨#[]⟩, .int .u32 0, .int .u32 0, .int .i64 0, .int .i64 0, .slice none 0 0, .slice none 0 0, .slice none 0 0, .slice none 0 0, .int .i64 0, .int .i64 0, .int .i64 0, .int .i64 0, .bool false, .bool false, .bool false], 22, 224, false⟩
theorem t108_ok : TyOk Try.prog 108 t108 := TyOk.mk' Try.underlying108 (by kernel_rfl) (by kernel_rfl) (.inl rfl)
def t109 : TI := ⟨.struct #[{ name := "Chunk", type := 54, offset := 0, embedded := false, tag := "", pkgPath := "", byteOffset := 0 }, { name := "Path", type := 3, offset := 15, embedded := false, tag := "", pkgPath := "", byteOffset := 184 }, { name := "At", type := 3, offset := 16, embedded := false, tag := "", pkgPath := "", byteOffset := 192 }, { name := "Times", type := 3, offset := 17, embedded := false, tag := "", pkgPath := "", byteOffset := 200 }, { name := "Missed", type := 3, offset := 18, embedded := false, tag := "", pkgPath := "", byteOffset := 208 }, { name := "Again", type := 4, offset := 19, embedded := false, tag := "", pkgPath := "", byteOffset := 216 }, { name := "Came", type := 4, offset := 20, embedded := false, tag := "", pkgPath := "", byteOffset := 217 }, { name := "Fast", type := 4, offset := 21, embedded := false, tag := "", pkgPath := "", byteOffset := 218 }], .agg #[.int .i64 0, .int .i64 0, .int .u32 0, .int .i64 0, .int .i64 0, .int .u32 0, .string ⟨#[]⟩, .int .u32 0, .int .u32 0, .int .i64 0, .int .i64 0, .slice none 0 0, .slice none 0 0, .slice none 0 0, .slice none 0 0, .int .i64 0, .int .i64 0, .int .i64 0, .int .i64 0, .bool false, .bool false, .bool false], 22, 224, false⟩
theorem t109_ok : TyOk Try.prog 109 t109 := TyOk.mk' Try.underlying109 (by kernel_rfl) (by kernel_rfl) (.inl rfl)
def t114 : TI := ⟨.pointer 57, .pointer none, 1, 8, false⟩
theorem t114_ok : TyOk Try.prog 114 t114 := TyOk.mk' Try.underlying114 (by kernel_rfl) (by kernel_rfl) (.inl rfl)
def t120 : TI := ⟨.func #[109] #[4] false, .nilFunc, 1, 8, false⟩
theorem t120_ok : TyOk Try.prog 120 t120 := TyOk.mk' Try.underlying120 (by kernel_rfl) (by kernel_rfl) (.inl rfl)
def t121 : TI := ⟨.struct #[{ name := "list", type := 69, offset := 0, embedded := false, tag := "", pkgPath := "crossway/reasm", byteOffset := 0 }], .agg #[.slice none 0 0], 1, 24, false⟩
theorem t121_ok : TyOk Try.prog 121 t121 := TyOk.mk' Try.underlying121 (by kernel_rfl) (by kernel_rfl) (.inl rfl)
def t122 : TI := ⟨.struct #[{ name := "list", type := 69, offset := 0, embedded := false, tag := "", pkgPath := "crossway/reasm", byteOffset := 0 }], .agg #[.slice none 0 0], 1, 24, false⟩
theorem t122_ok : TyOk Try.prog 122 t122 := TyOk.mk' Try.underlying122 (by kernel_rfl) (by kernel_rfl) (.inl rfl)
def t130 : TI := ⟨.struct #[{ name := "cum", type := 27, offset := 0, embedded := false, tag := "", pkgPath := "crossway/gaps", byteOffset := 0 }, { name := "parts", type := 51, offset := 1, embedded := false, tag := "", pkgPath := "crossway/gaps", byteOffset := 8 }, { name := "dups", type := 52, offset := 2, embedded := false, tag := "", pkgPath := "crossway/gaps", byteOffset := 32 }], .agg #[.int .u32 0, .slice none 0 0, .slice none 0 0], 3, 56, false⟩
theorem t130_ok : TyOk Try.prog 130 t130 := TyOk.mk' Try.underlying130 (by kernel_rfl) (by kernel_rfl) (.inl rfl)
def t131 : TI := ⟨.struct #[{ name := "cum", type := 27, offset := 0, embedded := false, tag := "", pkgPath := "crossway/gaps", byteOffset := 0 }, { name := "parts", type := 51, offset := 1, embedded := false, tag := "", pkgPath := "crossway/gaps", byteOffset := 8 }, { name := "dups", type := 52, offset := 2, embedded := false, tag := "", pkgPath := "crossway/gaps", byteOffset := 32 }], .agg #[.int .u32 0, .slice none 0 0, .slice none 0 0], 3, 56, false⟩
theorem t131_ok : TyOk Try.prog 131 t131 := TyOk.mk' Try.underlying131 (by kernel_rfl) (by kernel_rfl) (.inl rfl)
def t140 : TI := ⟨.func #[60] #[4] false, .nilFunc, 1, 8, false⟩
theorem t140_ok : TyOk Try.prog 140 t140 := TyOk.mk' Try.underlying140 (by kernel_rfl) (by kernel_rfl) (.inl rfl)
def t148 : TI := ⟨.int .u64, .int .u64 0, 1, 8, false⟩
theorem t148_ok : TyOk Try.prog 148 t148 := TyOk.mk' Try.underlying148 (by kernel_rfl) (by kernel_rfl) (.inl rfl)
def t168 : TI := ⟨.struct #[{ name := "Type", type := 3, offset := 0, embedded := false, tag := "", pkgPath := "", byteOffset := 0 }, { name := "Value", type := 9, offset := 1, embedded := false, tag := "", pkgPath := "", byteOffset := 8 }], .agg #[.int .i64 0, .string ⟨#[]⟩], 2, 24, false⟩
theorem t168_ok : TyOk Try.prog 168 t168 := TyOk.mk' Try.underlying168 (by kernel_rfl) (by kernel_rfl) (.inl rfl)
def t169 : TI := ⟨.struct #[{ name := "Type", type := 3, offset := 0, embedded := false, tag := "", pkgPath := "", byteOffset := 0 }, { name := "Value", type := 9, offset := 1, embedded := false, tag := "", pkgPath := "", byteOffset := 8 }], .agg #[.int .i64 0, .string ⟨#[]⟩], 2, 24, false⟩
theorem t169_ok : TyOk Try.prog 169 t169 := TyOk.mk' Try.underlying169 (by kernel_rfl) (by kernel_rfl) (.inl rfl)
def t170 : TI := ⟨.struct #[{ name := "Code", type := 3, offset := 0, embedded := false, tag := "", pkgPath := "", byteOffset := 0 }, { name := "Info", type := 9, offset := 1, embedded := false, tag := "", pkgPath := "", byteOffset := 8 }], .agg #[.int .i64 0, .string ⟨#[]⟩], 2, 24, false⟩
theorem t170_ok : TyOk Try.prog 170 t170 := TyOk.mk' Try.underlying170 (by kernel_rfl) (by kernel_rfl) (.inl rfl)
def t171 : TI := ⟨.struct #[{ name := "Code", type := 3, offset := 0, embedded := false, tag := "", pkgPath := "", byteOffset := 0 }, { name := "Info", type := 9, offset := 1, embedded := false, tag := "", pkgPath := "", byteOffset := 8 }], .agg #[.int .i64 0, .string ⟨#[]⟩], 2, 24, false⟩
theorem t171_ok : TyOk Try.prog 171 t171 := TyOk.mk' Try.underlying171 (by kernel_rfl) (by kernel_rfl) (.inl rfl)
theorem f3_ok : FnOk Try.prog 3 Try.f3 := ⟨Try.func3, by kernel_rfl⟩
theorem f4_ok : FnOk Try.prog 4 Try.f4 := ⟨Try.func4, by kernel_rfl⟩
theorem f5_ok : FnOk Try.prog 5 Try.f5 := ⟨Try.func5, by kernel_rfl⟩
theorem f6_ok : FnOk Try.prog 6 Try.f6 := ⟨Try.func6, by kernel_rfl⟩
theorem f7_ok : FnOk Try.prog 7 Try.f7 := ⟨Try.func7, by kernel_rfl⟩
theorem f8_ok : FnOk Try.prog 8 Try.f8 := ⟨Try.func8, by kernel_rfl⟩
theorem f9_ok : FnOk Try.prog 9 Try.f9 := ⟨Try.func9, by kernel_rfl⟩
theorem f10_ok : FnOk Try.prog 10 Try.f10 := ⟨Try.func10, by kernel_rfl⟩
theorem f11_ok : FnOk Try.prog 11 Try.f11 := ⟨Try.func11, by kernel_rfl⟩
theorem f12_ok : FnOk Try.prog 12 Try.f12 := ⟨Try.func12, by kernel_rfl⟩
theorem f13_ok : FnOk Try.prog 13 Try.f13 := ⟨Try.func13, by kernel_rfl⟩
theorem f14_ok : FnOk Try.prog 14 Try.f14 := ⟨Try.func14, by kernel_rfl⟩
theorem f15_ok : FnOk Try.prog 15 Try.f15 := ⟨Try.func15, by kernel_rfl⟩
theorem f16_ok : FnOk Try.prog 16 Try.f16 := ⟨Try.func16, by kernel_rfl⟩
theorem f17_ok : FnOk Try.prog 17 Try.f17 := ⟨Try.func17, by kernel_rfl⟩
theorem f18_ok : FnOk Try.prog 18 Try.f18 := ⟨Try.func18, by kernel_rfl⟩
theorem f19_ok : FnOk Try.prog 19 Try.f19 := ⟨Try.func19, by kernel_rfl⟩
theorem f20_ok : FnOk Try.prog 20 Try.f20 := ⟨Try.func20, by kernel_rfl⟩
theorem f21_ok : FnOk Try.prog 21 Try.f21 := ⟨Try.func21, by kernel_rfl⟩
theorem f22_ok : FnOk Try.prog 22 Try.f22 := ⟨Try.func22, by kernel_rfl⟩
theorem f23_ok : FnOk Try.prog 23 Try.f23 := ⟨Try.func23, by kernel_rfl⟩
theorem f24_ok : FnOk Try.prog 24 Try.f24 := ⟨Try.func24, by kernel_rfl⟩
theorem f25_ok : FnOk Try.prog 25 Try.f25 := ⟨Try.func25, by kernel_rfl⟩
theorem f26_ok : FnOk Try.prog 26 Try.f26 := ⟨Try.func26, by kernel_rfl⟩
theorem f27_ok : FnOk Try.prog 27 Try.f27 := ⟨Try.func27, by kernel_rfl⟩
theorem f28_ok : FnOk Try.prog 28 Try.f28 := ⟨Try.func28, by kernel_rfl⟩
theorem f29_ok : FnOk Try.prog 29 Try.f29 := ⟨Try.func29, by kernel_rfl⟩
theorem f30_ok : FnOk Try.prog 30 Try.f30 := ⟨Try.func30, by kernel_rfl⟩
theorem f31_ok : FnOk Try.prog 31 Try.f31 := ⟨Try.func31, by kernel_rfl⟩
theorem f32_ok : FnOk Try.prog 32 Try.f32 := ⟨Try.func32, by kernel_rfl⟩
theorem f33_ok : FnOk Try.prog 33 Try.f33 := ⟨Try.func33, by kernel_rfl⟩
theorem f34_ok : FnOk Try.prog 34 Try.f34 := ⟨Try.func34, by kernel_rfl⟩
theorem f35_ok : FnOk Try.prog 35 Try.f35 := ⟨Try.func35, by kernel_rfl⟩
theorem f36_ok : FnOk Try.prog 36 Try.f36 := ⟨Try.func36, by kernel_rfl⟩
theorem f37_ok : FnOk Try.prog 37 Try.f37 := ⟨Try.func37, by kernel_rfl⟩
theorem f38_ok : FnOk Try.prog 38 Try.f38 := ⟨Try.func38, by kernel_rfl⟩
theorem f39_ok : FnOk Try.prog 39 Try.f39 := ⟨Try.func39, by kernel_rfl⟩
theorem f40_ok : FnOk Try.prog 40 Try.f40 := ⟨Try.func40, by kernel_rfl⟩
theorem f41_ok : FnOk Try.prog 41 Try.f41 := ⟨Try.func41, by kernel_rfl⟩
theorem f42_ok : FnOk Try.prog 42 Try.f42 := ⟨Try.func42, by kernel_rfl⟩
theorem f43_ok : FnOk Try.prog 43 Try.f43 := ⟨Try.func43, by kernel_rfl⟩
theorem f44_ok : FnOk Try.prog 44 Try.f44 := ⟨Try.func44, by kernel_rfl⟩
theorem f45_ok : FnOk Try.prog 45 Try.f45 := ⟨Try.func45, by kernel_rfl⟩
theorem f46_ok : FnOk Try.prog 46 Try.f46 := ⟨Try.func46, by kernel_rfl⟩
theorem f47_ok : FnOk Try.prog 47 Try.f47 := ⟨Try.func47, by kernel_rfl⟩
theorem f48_ok : FnOk Try.prog 48 Try.f48 := ⟨Try.func48, by kernel_rfl⟩
theorem f49_ok : FnOk Try.prog 49 Try.f49 := ⟨Try.func49, by kernel_rfl⟩
theorem f50_ok : FnOk Try.prog 50 Try.f50 := ⟨Try.func50, by kernel_rfl⟩
theorem f51_ok : FnOk Try.prog 51 Try.f51 := ⟨Try.func51, by kernel_rfl⟩
theorem f52_ok : FnOk Try.prog 52 Try.f52 := ⟨Try.func52, by kernel_rfl⟩
theorem f53_ok : FnOk Try.prog 53 Try.f53 := ⟨Try.func53, by kernel_rfl⟩
theorem f54_ok : FnOk Try.prog 54 Try.f54 := ⟨Try.func54, by kernel_rfl⟩
theorem f55_ok : FnOk Try.prog 55 Try.f55 := ⟨Try.func55, by kernel_rfl⟩
theorem f56_ok : FnOk Try.prog 56 Try.f56 := ⟨Try.func56, by kernel_rfl⟩
theorem f57_ok : FnOk Try.prog 57 Try.f57 := ⟨Try.func57, by kernel_rfl⟩
theorem f58_ok : FnOk Try.prog 58 Try.f58 := ⟨Try.func58, by kernel_rfl⟩
theorem f59_ok : FnOk Try.prog 59 Try.f59 := ⟨Try.func59, by kernel_rfl⟩
theorem f60_ok : FnOk Try.prog 60 Try.f60 := ⟨Try.func60, by kernel_rfl⟩
theorem f61_ok : FnOk Try.prog 61 Try.f61 := ⟨Try.func61, by kernel_rfl⟩
theorem f62_ok : FnOk Try.prog 62 Try.f62 := ⟨Try.func62, by kernel_rfl⟩
theorem f63_ok : FnOk Try.prog 63 Try.f63 := ⟨Try.func63, by kernel_rfl⟩
theorem f64_ok : FnOk Try.prog 64 Try.f64 := ⟨Try.func64, by kernel_rfl⟩
theorem f65_ok : FnOk Try.prog 65 Try.f65 := ⟨Try.func65, by kernel_rfl⟩
theorem f66_ok : FnOk Try.prog 66 Try.f66 := ⟨Try.func66, by kernel_rfl⟩
theorem f67_ok : FnOk Try.prog 67 Try.f67 := ⟨Try.func67, by kernel_rfl⟩
theorem f68_ok : FnOk Try.prog 68 Try.f68 := ⟨Try.func68, by kernel_rfl⟩
theorem f69_ok : FnOk Try.prog 69 Try.f69 := ⟨Try.func69, by kernel_rfl⟩
theorem f70_ok : FnOk Try.prog 70 Try.f70 := ⟨Try.func70, by kernel_rfl⟩
theorem f71_ok : FnOk Try.prog 71 Try.f71 := ⟨Try.func71, by kernel_rfl⟩
theorem f72_ok : FnOk Try.prog 72 Try.f72 := ⟨Try.func72, by kernel_rfl⟩
theorem f73_ok : FnOk Try.prog 73 Try.f73 := ⟨Try.func73, by kernel_rfl⟩
theorem f74_ok : FnOk Try.prog 74 Try.f74 := ⟨Try.func74, by kernel_rfl⟩
theorem f75_ok : FnOk Try.prog 75 Try.f75 := ⟨Try.func75, by kernel_rfl⟩
theorem f76_ok : FnOk Try.prog 76 Try.f76 := ⟨Try.func76, by kernel_rfl⟩
theorem f77_ok : FnOk Try.prog 77 Try.f77 := ⟨Try.func77, by kernel_rfl⟩
theorem f78_ok : FnOk Try.prog 78 Try.f78 := ⟨Try.func78, by kernel_rfl⟩
theorem f79_ok : FnOk Try.prog 79 Try.f79 := ⟨Try.func79, by kernel_rfl⟩
theorem f80_ok : FnOk Try.prog 80 Try.f80 := ⟨Try.func80, by kernel_rfl⟩
theorem f81_ok : FnOk Try.prog 81 Try.f81 := ⟨Try.func81, by kernel_rfl⟩
theorem f82_ok : FnOk Try.prog 82 Try.f82 := ⟨Try.func82, by kernel_rfl⟩
theorem f83_ok : FnOk Try.prog 83 Try.f83 := ⟨Try.func83, by kernel_rfl⟩
theorem f84_ok : FnOk Try.prog 84 Try.f84 := ⟨Try.func84, by kernel_rfl⟩
theorem f85_ok : FnOk Try.prog 85 Try.f85 := ⟨Try.func85, by kernel_rfl⟩
theorem f86_ok : FnOk Try.prog 86 Try.f86 := ⟨Try.func86, by kernel_rfl⟩
theorem f87_ok : FnOk Try.prog 87 Try.f87 := ⟨Try.func87, by kernel_rfl⟩
theorem f88_ok : FnOk Try.prog 88 Try.f88 := ⟨Try.func88, by kernel_rfl⟩
theorem f89_ok : FnOk Try.prog 89 Try.f89 := ⟨Try.func89, by kernel_rfl⟩
theorem f90_ok : FnOk Try.prog 90 Try.f90 := ⟨Try.func90, by kernel_rfl⟩
theorem f91_ok : FnOk Try.prog 91 Try.f91 := ⟨Try.func91, by kernel_rfl⟩
theorem f92_ok : FnOk Try.prog 92 Try.f92 := ⟨Try.func92, by kernel_rfl⟩
theorem f93_ok : FnOk Try.prog 93 Try.f93 := ⟨Try.func93, by kernel_rfl⟩
theorem f94_ok : FnOk Try.prog 94 Try.f94 := ⟨Try.func94, by kernel_rfl⟩
theorem f95_ok : FnOk Try.prog 95 Try.f95 := ⟨Try.func95, by kernel_rfl⟩
theorem f96_ok : FnOk Try.prog 96 Try.f96 := ⟨Try.func96, by kernel_rfl⟩
theorem f97_ok : FnOk Try.prog 97 Try.f97 := ⟨Try.func97, by kernel_rfl⟩
theorem f98_ok : FnOk Try.prog 98 Try.f98 := ⟨Try.func98, by kernel_rfl⟩
theorem f99_ok : FnOk Try.prog 99 Try.f99 := ⟨Try.func99, by kernel_rfl⟩
theorem f100_ok : FnOk Try.prog 100 Try.f100 := ⟨Try.func100, by kernel_rfl⟩
theorem f101_ok : FnOk Try.prog 101 Try.f101 := ⟨Try.func101, by kernel_rfl⟩
theorem f102_ok : FnOk Try.prog 102 Try.f102 := ⟨Try.func102, by kernel_rfl⟩
theorem f103_ok : FnOk Try.prog 103 Try.f103 := ⟨Try.func103, by kernel_rfl⟩
theorem f104_ok : FnOk Try.prog 104 Try.f104 := ⟨Try.func104, by kernel_rfl⟩
theorem f105_ok : FnOk Try.prog 105 Try.f105 := ⟨Try.func105, by kernel_rfl⟩
theorem f106_ok : FnOk Try.prog 106 Try.f106 := ⟨Try.func106, by kernel_rfl⟩
theorem f107_ok : FnOk Try.prog 107 Try.f107 := ⟨Try.func107, by kernel_rfl⟩
theorem f108_ok : FnOk Try.prog 108 Try.f108 := ⟨Try.func108, by kernel_rfl⟩
theorem f109_ok : FnOk Try.prog 109 Try.f109 := ⟨Try.func109, by kernel_rfl⟩
def g5 : Gd := Gd.int .u8
theorem o5 {N : Nat} {w0 w : World} (hN : N = w.heap.size) : Opn Try.prog N w0 w 5 g5 := Opn.int Try.underlying5
def g22 : Gd := Gd.row 5 1 g5
theorem o22 {N : Nat} {w0 w : World} (hN : N = w.heap.size) : Opn Try.prog N w0 w 22 g22 := Opn.slice Try.underlying22 (by kernel_rfl) (by decide) (o5 hN) hN
def g3 : Gd := Gd.int .i64
theorem o3 {N : Nat} {w0 w : World} (hN : N = w.heap.size) : Opn Try.prog N w0 w 3 g3 := Opn.int Try.underlying3
def g4 : Gd := Gd.bool
theorem o4 {N : Nat} {w0 w : World} (hN : N = w.heap.size) : Opn Try.prog N w0 w 4 g4 := Opn.bool Try.underlying4
def g27 : Gd := Gd.int .u32
theorem o27 {N : Nat} {w0 w : World} (hN : N = w.heap.size) : Opn Try.prog N w0 w 27 g27 := Opn.int Try.underlying27
def g9 : Gd := Gd.str
theorem o9 {N : Nat} {w0 w : World} (hN : N = w.heap.size) : Opn Try.prog N w0 w 9 g9 := Opn.str Try.underlying9
def g29 : Gd := Gd.agg [g3, g3, g4, g27, g9]
theorem o29 {N : Nat} {w0 w : World} (hN : N = w.heap.size) : Opn Try.prog N w0 w 29 g29 := Opn.struct Try.underlying29 (by kernel_rfl) (show OpnAll Try.prog N w0 w [(3, 0), (3, 1), (4, 2), (27, 3), (9, 4)] [g3, g3, g4, g27, g9] from ⟨o3 hN, o3 hN, o4 hN, o27 hN, o9 hN, trivial⟩)
def g40 : Gd := Gd.agg [g3, g29]
theorem o40 {N : Nat} {w0 w : World} (hN : N = w.heap.size) : Opn Try.prog N w0 w 40 g40 := Opn.struct Try.underlying40 (by kernel_rfl) (show OpnAll Try.prog N w0 w [(3, 0), (29, 1)] [g3, g29] from ⟨o3 hN, o29 hN, trivial⟩)
def g34 : Gd := Gd.row 40 6 g40
theorem o34 {N : Nat} {w0 w : World} (hN : N = w.heap.size) : Opn Try.prog N w0 w 34 g34 := Opn.slice Try.underlying34 (by kernel_rfl) (by decide) (o40 hN) hN
def g71 : Gd := Gd.agg [g3, g3, g3, g9]
theorem o71 {N : Nat} {w0 w : World} (hN : N = w.heap.size) : Opn Try.prog N w0 w 71 g71 := Opn.struct Try.underlying71 (by kernel_rfl) (show OpnAll Try.prog N w0 w [(3, 0), (3, 1), (3, 2), (9, 3)] [g3, g3, g3, g9] from ⟨o3 hN, o3 hN, o3 hN, o9 hN, trivial⟩)
def g66 : Gd := Gd.row 71 4 g71
theorem o66 {N : Nat} {w0 w : World} (hN : N = w.heap.size) : Opn Try.prog N w0 w 66 g66 := Opn.slice Try.underlying66 (by kernel_rfl) (by decide) (o71 hN) hN
def g169 : Gd := Gd.agg [g3, g9]
theorem o169 {N : Nat} {w0 w : World} (hN : N = w.heap.size) : Opn Try.prog N w0 w 169 g169 := Opn.struct Try.underlying169 (by kernel_rfl) (show OpnAll Try.prog N w0 w [(3, 0), (9, 1)] [g3, g9] from ⟨o3 hN, o9 hN, trivial⟩)
def g49 : Gd := Gd.row 169 2 g169
theorem o49 {N : Nat} {w0 w : World} (hN : N = w.heap.size) : Opn Try.prog N w0 w 49 g49 := Opn.slice Try.underlying49 (by kernel_rfl) (by decide) (o169 hN) hN
def g171 : Gd := Gd.agg [g3, g9]
theorem o171 {N : Nat} {w0 w : World} (hN : N = w.heap.size) : Opn Try.prog N w0 w 171 g171 := Opn.struct Try.underlying171 (by kernel_rfl) (show OpnAll Try.prog N w0 w [(3, 0), (9, 1)] [g3, g9] from ⟨o3 hN, o9 hN, trivial⟩)
def g50 : Gd := Gd.row 171 2 g171
theorem o50 {N : Nat} {w0 w : World} (hN : N = w.heap.size) : Opn Try.prog N w0 w 50 g50 := Opn.slice Try.underlying50 (by kernel_rfl) (by decide) (o171 hN) hN
def g60 : Gd := Gd.agg [g3, g3]
theorem o60 {N : Nat} {w0 w : World} (hN : N = w.heap.size) : Opn Try.prog N w0 w 60 g60 := Opn.struct Try.underlying60 (by kernel_rfl) (show OpnAll Try.prog N w0 w [(3, 0), (3, 1)] [g3, g3] from ⟨o3 hN, o3 hN, trivial⟩)
def g51 : Gd := Gd.row 60 2 g60
theorem o51 {N : Nat} {w0 w : World} (hN : N = w.heap.size) : Opn Try.prog N w0 w 51 g51 := Opn.slice Try.underlying51 (by kernel_rfl) (by decide) (o60 hN) hN
def g52 : Gd := Gd.row 27 1 g27
theorem o52 {N : Nat} {w0 w : World} (hN : N = w.heap.size) : Opn Try.prog N w0 w 52 g52 := Opn.slice Try.underlying52 (by kernel_rfl) (by decide) (o27 hN) hN
def g54 : Gd := Gd.agg [g3, g3, g27, g3, g3, g27, g9, g27, g27, g3, g3, g49, g50, g51, g52]
theorem o54 {N : Nat} {w0 w : World} (hN : N = w.heap.size) : Opn Try.prog N w0 w 54 g54 := Opn.struct Try.underlying54 (by kernel_rfl) (show OpnAll Try.prog N w0 w [(3, 0), (3, 1), (27, 2), (3, 3), (3, 4), (27, 5), (9, 6), (27, 7), (27, 8), (3, 9), (3, 10), (49, 11), (50, 12), (51, 13), (52, 14)] [g3, g3, g27, g3, g3, g27, g9, g27, g27, g3, g3, g49, g50, g51, g52] from ⟨o3 hN, o3 hN, o27 hN, o3 hN, o3 hN, o27 hN, o9 hN, o27 hN, o27 hN, o3 hN, o3 hN, o49 hN, o50 hN, o51 hN, o52 hN, trivial⟩)
noncomputable def tys : Tr TI := (.node 67 t67 (.node 38 t38 (.node 26 t26 (.node 9 t9 (.node 4 t4 (.node 3 t3 .leaf .leaf) (.node 5 t5 .leaf .leaf)) (.node 23 t23 (.node 22 t22 .leaf .leaf) (.node 25 t25 .leaf .leaf))) (.node 34 t34 (.node 28 t28 (.node 27 t27 .leaf .leaf) (.node 29 t29 .leaf .leaf)) (.node 36 t36 (.node 35 t35 .leaf .leaf) (.node 37 t37 .leaf .leaf)))) (.node 53 t53 (.node 49 t49 (.node 40 t40 (.node 39 t39 .leaf .leaf) (.node 47 t47 .leaf .leaf)) (.node 51 t51 (.node 50 t50 .leaf .leaf) (.node 52 t52 .leaf .leaf))) (.node 59 t59 (.node 56 t56 (.node 54 t54 .leaf .leaf) (.node 57 t57 .leaf .leaf)) (.node 66 t66 (.node 60 t60 .leaf .leaf) .leaf)))) (.node 107 t107 (.node 86 t86 (.node 72 t72 (.node 70 t70 (.node 69 t69 .leaf .leaf) (.node 71 t71 .leaf .leaf)) (.node 78 t78 (.node 77 t77 .leaf .leaf) (.node 85 t85 .leaf .leaf))) (.node 101 t101 (.node 99 t99 (.node 94 t94 .leaf .leaf) (.node 100 t100 .leaf .leaf)) (.node 106 t106 (.node 102 t102 .leaf .leaf) .leaf))) (.node 131 t131 (.node 120 t120 (.node 109 t109 (.node 108 t108 .leaf .leaf) (.node 114 t114 .leaf .leaf)) (.node 122 t122 (.node 121 t121 .leaf .leaf) (.node 130 t130 .leaf .leaf))) (.node 169 t169 (.node 148 t148 (.node 140 t140 .leaf .leaf) (.node 168 t168 .leaf .leaf)) (.node 171 t171 (.node 170 t170 .leaf .leaf) .leaf)))))
noncomputable def fns : Tr Func := (.node 56 Try.f56 (.node 29 Try.f29 (.node 16 Try.f16 (.node 9 Try.f9 (.node 6 Try.f6 (.node 4 Try.f4 (.node 3 Try.f3 .leaf .leaf) (.node 5 Try.f5 .leaf .leaf)) (.node 8 Try.f8 (.node 7 Try.f7 .leaf .leaf) .leaf)) (.node 13 Try.f13 (.node 11 Try.f11 (.node 10 Try.f10 .leaf .leaf) (.node 12 Try.f12 .leaf .leaf)) (.node 15 Try.f15 (.node 14 Try.f14 .leaf .leaf) .leaf))) (.node 23 Try.f23 (.node 20 Try.f20 (.node 18 Try.f18 (.node 17 Try.f17 .leaf .leaf) (.node 19 Try.f19 .leaf .leaf)) (.node 22 Try.f22 (.node 21 Try.f21 .leaf .leaf) .leaf)) (.node 26 Try.f26 (.node 25 Try.f25 (.node 24 Try.f24 .leaf .leaf) .leaf) (.node 28 Try.f28 (.node 27 Try.f27 .leaf .leaf) .leaf)))) (.node 43 Try.f43 (.node 36 Try.f36 (.node 33 Try.f33 (.node 31 Try.f31 (.node 30 Try.f30 .leaf .leaf) (.node 32 Try.f32 .leaf .leaf)) (.node 35 Try.f35 (.node 34 Try.f34 .leaf .leaf) .leaf)) (.node 40 Try.f40 (.node 38 Try.f38 (.node 37 Try.f37 .leaf .leaf) (.node 39 Try.f39 .leaf .leaf)) (.node 42 Try.f42 (.node 41 Try.f41 .leaf .leaf) .leaf))) (.node 50 Try.f50 (.node 47 Try.f47 (.node 45 Try.f45 (.node 44 Try.f44 .leaf .leaf) (.node 46 Try.f46 .leaf .leaf)) (.node 49 Try.f49 (.node 48 Try.f48 .leaf .leaf) .leaf)) (.node 53 Try.f53 (.node 52 Try.f52 (.node 51 Try.f51 .leaf .leaf) .leaf) (.node 55 Try.f55 (.node 54 Try.f54 .leaf .leaf) .leaf))))) (.node 83 Try.f83 (.node 70 Try.f70 (.node 63 Try.f63 (.node 60 Try.f60 (.node 58 Try.f58 (.node 57 Try.f57 .leaf .leaf) (.node 59 Try.f59 .leaf .leaf)) (.node 62 Try.f62 (.node 61 Try.f61 .leaf .leaf) .leaf)) (.node 67 Try.f67 (.node 65 Try.f65 (.node 64 Try.f64 .leaf .leaf) (.node 66 Try.f66 .leaf .leaf)) (.node 69 Try.f69 (.node 68 Try.f68 .leaf .leaf) .leaf))) (.node 77 Try.f77 (.node 74 Try.f74 (.node 72 Try.f72 (.node 71 Try.f71 .leaf .leaf) (.node 73 Try.f73 .leaf .leaf)) (.node 76 Try.f76 (.node 75 Try.f75 .leaf .leaf) .leaf)) (.node 80 Try.f80 (.node 79 Try.f79 (.node 78 Try.f78 .leaf .leaf) .leaf) (.node 82 Try.f82 (.node 81 Try.f81 .leaf .leaf) .leaf)))) (.node 97 Try.f97 (.node 90 Try.f90 (.node 87 Try.f87 (.node 85 Try.f85 (.node 84 Try.f84 .leaf .leaf) (.node 86 Try.f86 .leaf .leaf)) (.node 89 Try.f89 (.node 88 Try.f88 .leaf .leaf) .leaf)) (.node 94 Try.f94 (.node 92 Try.f92 (.node 91 Try.f91 .leaf .leaf) (.node 93 Try.f93 .leaf .leaf)) (.node 96 Try.f96 (.node 95 Try.f95 .leaf .leaf) .leaf))) (.node 104 Try.f104 (.node 101 Try.f101 (.node 99 Try.f99 (.node 98 Try.f98 .leaf .leaf) (.node 100 Try.f100 .leaf .leaf)) (.node 103 Try.f103 (.node 102 Try.f102 .leaf .leaf) .leaf)) (.node 107 Try.f107 (.node 106 Try.f106 (.node 105 Try.f105 .leaf .leaf) .leaf) (.node 109 Try.f109 (.node 108 Try.f108 .leaf .leaf) .leaf))))))
noncomputable def env : Env := mkEnv tys fns
theorem env_ok : EnvOk Try.prog env := mkEnv_ok (T := tys) (F := fns) ⟨t67_ok, ⟨t38_ok, ⟨t26_ok, ⟨t9_ok, ⟨t4_ok, ⟨t3_ok, trivial, trivial⟩, ⟨t5_ok, trivial, trivial⟩⟩, ⟨t23_ok, ⟨t22_ok, trivial, trivial⟩, ⟨t25_ok, trivial, trivial⟩⟩⟩, ⟨t34_ok, ⟨t28_ok, ⟨t27_ok, trivial, trivial⟩, ⟨t29_ok, trivial, trivial⟩⟩, ⟨t36_ok, ⟨t35_ok, trivial, trivial⟩, ⟨t37_ok, trivial, trivial⟩⟩⟩⟩, ⟨t53_ok, ⟨t49_ok, ⟨t40_ok, ⟨t39_ok, trivial, trivial⟩, ⟨t47_ok, trivial, trivial⟩⟩, ⟨t51_ok, ⟨t50_ok, trivial, trivial⟩, ⟨t52_ok, trivial, trivial⟩⟩⟩, ⟨t59_ok, ⟨t56_ok, ⟨t54_ok, trivial, trivial⟩, ⟨t57_ok, trivial, trivial⟩⟩, ⟨t66_ok, ⟨t60_ok, trivial, trivial⟩, trivial⟩⟩⟩⟩, ⟨t107_ok, ⟨t86_ok, ⟨t72_ok, ⟨t70_ok, ⟨t69_ok, trivial, trivial⟩, ⟨t71_ok, trivial, trivial⟩⟩, ⟨t78_ok, ⟨t77_ok, trivial, trivial⟩, ⟨t85_ok, trivial, trivial⟩⟩⟩, ⟨t101_ok, ⟨t99_ok, ⟨t94_ok, trivial, trivial⟩, ⟨t100_ok, trivial, trivial⟩⟩, ⟨t106_ok, ⟨t102_ok, trivial, trivial⟩, trivial⟩⟩⟩, ⟨t131_ok, ⟨t120_ok, ⟨t109_ok, ⟨t108_ok, trivial, trivial⟩, ⟨t114_ok, trivial, trivial⟩⟩, ⟨t122_ok, ⟨t121_ok, trivial, trivial⟩, ⟨t130_ok, trivial, trivial⟩⟩⟩, ⟨t169_ok, ⟨t148_ok, ⟨t140_ok, trivial, trivial⟩, ⟨t168_ok, trivial, trivial⟩⟩, ⟨t171_ok, ⟨t170_ok, trivial, trivial⟩, trivial⟩⟩⟩⟩⟩ ⟨f56_ok, ⟨f29_ok, ⟨f16_ok, ⟨f9_ok, ⟨f6_ok, ⟨f4_ok, ⟨f3_ok, trivial, trivial⟩, ⟨f5_ok, trivial, trivial⟩⟩, ⟨f8_ok, ⟨f7_ok, trivial, trivial⟩, trivial⟩⟩, ⟨f13_ok, ⟨f11_ok, ⟨f10_ok, trivial, trivial⟩, ⟨f12_ok, trivial, trivial⟩⟩, ⟨f15_ok, ⟨f14_ok, trivial, trivial⟩, trivial⟩⟩⟩, ⟨f23_ok, ⟨f20_ok, ⟨f18_ok, ⟨f17_ok, trivial, trivial⟩, ⟨f19_ok, trivial, trivial⟩⟩, ⟨f22_ok, ⟨f21_ok, trivial, trivial⟩, trivial⟩⟩, ⟨f26_ok, ⟨f25_ok, ⟨f24_ok, trivial, trivial⟩, trivial⟩, ⟨f28_ok, ⟨f27_ok, trivial, trivial⟩, trivial⟩⟩⟩⟩, ⟨f43_ok, ⟨f36_ok, ⟨f33_ok, ⟨f31_ok, ⟨f30_ok, trivial, trivial⟩, ⟨f32_ok, trivial, trivial⟩⟩, ⟨f35_ok, ⟨f34_ok, trivial, trivial⟩, trivial⟩⟩, ⟨f40_ok, ⟨f38_ok, ⟨f37_ok, trivial, trivial⟩, ⟨f39_ok, trivial, trivial⟩⟩, ⟨f42_ok, ⟨f41_ok, trivial, trivial⟩, trivial⟩⟩⟩, ⟨f50_ok, ⟨f47_ok, ⟨f45_ok, ⟨f44_ok, trivial, trivial⟩, ⟨f46_ok, trivial, trivial⟩⟩, ⟨f49_ok, ⟨f48_ok, trivial, trivial⟩, trivial⟩⟩, ⟨f53_ok, ⟨f52_ok, ⟨f51_ok, trivial, trivial⟩, trivial⟩, ⟨f55_ok, ⟨f54_ok, trivial, trivial⟩, trivial⟩⟩⟩⟩⟩, ⟨f83_ok, ⟨f70_ok, ⟨f63_ok, ⟨f60_ok, ⟨f58_ok, ⟨f57_ok, trivial, trivial⟩, ⟨f59_ok, trivial, trivial⟩⟩, ⟨f62_ok, ⟨f61_ok, trivial, trivial⟩, trivial⟩⟩, ⟨f67_ok, ⟨f65_ok, ⟨f64_ok, trivial, trivial⟩, ⟨f66_ok, trivial, trivial⟩⟩, ⟨f69_ok, ⟨f68_ok, trivial, trivial⟩, trivial⟩⟩⟩, ⟨f77_ok, ⟨f74_ok, ⟨f72_ok, ⟨f71_ok, trivial, trivial⟩, ⟨f73_ok, trivial, trivial⟩⟩, ⟨f76_ok, ⟨f75_ok, trivial, trivial⟩, trivial⟩⟩, ⟨f80_ok, ⟨f79_ok, ⟨f78_ok, trivial, trivial⟩, trivial⟩, ⟨f82_ok, ⟨f81_ok, trivial, trivial⟩, trivial⟩⟩⟩⟩, ⟨f97_ok, ⟨f90_ok, ⟨f87_ok, ⟨f85_ok, ⟨f84_ok, trivial, trivial⟩, ⟨f86_ok, trivial, trivial⟩⟩, ⟨f89_ok, ⟨f88_ok, trivial, trivial⟩, trivial⟩⟩, ⟨f94_ok, ⟨f92_ok, ⟨f91_ok, trivial, trivial⟩, ⟨f93_ok, trivial, trivial⟩⟩, ⟨f96_ok, ⟨f95_ok, trivial, trivial⟩, trivial⟩⟩⟩, ⟨f104_ok, ⟨f101_ok, ⟨f99_ok, ⟨f98_ok, trivial, trivial⟩, ⟨f100_ok, trivial, trivial⟩⟩, ⟨f103_ok, ⟨f102_ok, trivial, trivial⟩, trivial⟩⟩, ⟨f107_ok, ⟨f106_ok, ⟨f105_ok, trivial, trivial⟩, trivial⟩, ⟨f109_ok, ⟨f108_ok, trivial, trivial⟩, trivial⟩⟩⟩⟩⟩⟩ (by kernel_rfl)
instance : Plain env := ⟨fun _ _ _ => rfl⟩
end Go.Proofs.Ytmepflkodjdgdaa.Vt
