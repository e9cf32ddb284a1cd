/- The tables of types and functions, for the abstract machine. -/
import Derived.Test.YtmepflkodjdgdaaVmU
import Derived.Test.YtmepflkodjdgdaaProg
namespace Go.Proofs.Ytmepflkodjdgdaa.Vt
open Go Go.Proofs Go.Proofs.YtmepflkodjdgdaaV
set_option maxRecDepth 100000
set_option linter.unusedVariables false
def t3 : TI := ⟨.int .i64, .int .i64 0, 1, 8, false⟩
theorem t3_ok : TyOk Try.prog 3 t3 := TyOk.mk' Try.underlying3 (by kernel_rfl) (by kernel_rfl) (.inl rfl)
def t4 : TI := ⟨.bool, .bool false, 1, 1, false⟩
theorem t4_ok : TyOk Try.prog 4 t4 := TyOk.mk' Try.underlying4 (by kernel_rfl) (by kernel_rfl) (.inl rfl)
def t9 : TI := ⟨.string, .string ⟨#[]⟩, 1, 16, false⟩
theorem t9_ok : TyOk Try.prog 9 t9 := TyOk.mk' Try.underlying9 (by kernel_rfl) (by kernel_rfl) (.inl rfl)
def t23 : TI := ⟨.pointer 101, .pointer none, 1, 8, false⟩
theorem t23_ok : TyOk Try.prog 23 t23 := TyOk.mk' Try.underlying23 (by kernel_rfl) (by kernel_rfl) (.inl rfl)
def t25 : TI := ⟨.slice 4, .slice none 0 0, 1, 24, false⟩
theorem t25_ok : TyOk Try.prog 25 t25 := TyOk.mk' Try.underlying25 (by kernel_rfl) (by kernel_rfl) (.inl rfl)
def t26 : TI := ⟨.func #[29] #[4] false, .nilFunc, 1, 8, false⟩
theorem t26_ok : TyOk Try.prog 26 t26 := TyOk.mk' Try.underlying26 (by kernel_rfl) (by kernel_rfl) (.inl rfl)
def t27 : TI := ⟨.int .u32, .int .u32 0, 1, 4, false⟩
theorem t27_ok : TyOk Try.prog 27 t27 := TyOk.mk' Try.underlying27 (by kernel_rfl) (by kernel_rfl) (.inl rfl)
def t28 : TI := ⟨.struct #[{ name := "Stream", type := 3, offset := 0, embedded := false, tag := "", pkgPath := "", byteOffset := 0 }, { name := "Ssn", type := 3, offset := 1, embedded := false, tag := "", pkgPath := "", byteOffset := 8 }, { name := "Loose", type := 4, offset := 2, embedded := false, tag := "", pkgPath := "", byteOffset := 16 }, { name := "Proto", type := 27, offset := 3, embedded := false, tag := "", pkgPath := "", byteOffset := 20 }, { name := "Data", type := 9, offset := 4, embedded := false, tag := "", pkgPath := "", byteOffset := 24 }], .agg #[.int .i64 0, .int .i64 0, .bool false, .int .u32 0, .string ⟨#[]⟩], 5, 40, true⟩
theorem t28_ok : TyOk Try.prog 28 t28 := TyOk.mk' Try.underlying28 (by kernel_rfl) (by kernel_rfl) (.inr ⟨by kernel_rfl, by kernel_rfl⟩)
def t29 : TI := ⟨.struct #[{ name := "Stream", type := 3, offset := 0, embedded := false, tag := "", pkgPath := "", byteOffset := 0 }, { name := "Ssn", type := 3, offset := 1, embedded := false, tag := "", pkgPath := "", byteOffset := 8 }, { name := "Loose", type := 4, offset := 2, embedded := false, tag := "", pkgPath := "", byteOffset := 16 }, { name := "Proto", type := 27, offset := 3, embedded := false, tag := "", pkgPath := "", byteOffset := 20 }, { name := "Data", type := 9, offset := 4, embedded := false, tag := "", pkgPath := "", byteOffset := 24 }], .agg #[.int .i64 0, .int .i64 0, .bool false, .int .u32 0, .string ⟨#[]⟩], 5, 40, true⟩
theorem t29_ok : TyOk Try.prog 29 t29 := TyOk.mk' Try.underlying29 (by kernel_rfl) (by kernel_rfl) (.inr ⟨by kernel_rfl, by kernel_rfl⟩)
def t35 : TI := ⟨.slice 3, .slice none 0 0, 1, 24, false⟩
theorem t35_ok : TyOk Try.prog 35 t35 := TyOk.mk' Try.underlying35 (by kernel_rfl) (by kernel_rfl) (.inl rfl)
def t36 : TI := ⟨.slice 29, .slice none 0 0, 1, 24, false⟩
theorem t36_ok : TyOk Try.prog 36 t36 := TyOk.mk' Try.underlying36 (by kernel_rfl) (by kernel_rfl) (.inl rfl)
def t47 : TI := ⟨.pointer 107, .pointer none, 1, 8, false⟩
theorem t47_ok : TyOk Try.prog 47 t47 := TyOk.mk' Try.underlying47 (by kernel_rfl) (by kernel_rfl) (.inl rfl)
def t49 : TI := ⟨.slice 169, .slice none 0 0, 1, 24, false⟩
theorem t49_ok : TyOk Try.prog 49 t49 := TyOk.mk' Try.underlying49 (by kernel_rfl) (by kernel_rfl) (.inl rfl)
def t50 : TI := ⟨.slice 171, .slice none 0 0, 1, 24, false⟩
theorem t50_ok : TyOk Try.prog 50 t50 := TyOk.mk' Try.underlying50 (by kernel_rfl) (by kernel_rfl) (.inl rfl)
def t51 : TI := ⟨.slice 60, .slice none 0 0, 1, 24, false⟩
theorem t51_ok : TyOk Try.prog 51 t51 := TyOk.mk' Try.underlying51 (by kernel_rfl) (by kernel_rfl) (.inl rfl)
def t52 : TI := ⟨.slice 27, .slice none 0 0, 1, 24, false⟩
theorem t52_ok : TyOk Try.prog 52 t52 := TyOk.mk' Try.underlying52 (by kernel_rfl) (by kernel_rfl) (.inl rfl)
def t53 : TI := ⟨.struct #[{ name := "Type", type := 3, offset := 0, embedded := false, tag := "", pkgPath := "", byteOffset := 0 }, { name := "Flags", type := 3, offset := 1, embedded := false, tag := "", pkgPath := "", byteOffset := 8 }, { name := "Tsn", type := 27, offset := 2, embedded := false, tag := "", pkgPath := "", byteOffset := 16 }, { name := "Stream", type := 3, offset := 3, embedded := false, tag := "", pkgPath := "", byteOffset := 24 }, { name := "Ssn", type := 3, offset := 4, embedded := false, tag := "", pkgPath := "", byteOffset := 32 }, { name := "Proto", type := 27, offset := 5, embedded := false, tag := "", pkgPath := "", byteOffset := 40 }, { name := "Data", type := 9, offset := 6, embedded := false, tag := "", pkgPath := "", byteOffset := 48 }, { name := "Tag", type := 27, offset := 7, embedded := false, tag := "", pkgPath := "", byteOffset := 64 }, { name := "Rwnd", type := 27, offset := 8, embedded := false, tag := "", pkgPath := "", byteOffset := 68 }, { name := "Out", type := 3, offset := 9, embedded := false, tag := "", pkgPath := "", byteOffset := 72 }, { name := "In", type := 3, offset := 10, embedded := false, tag := "", pkgPath := "", byteOffset := 80 }, { name := "Params", type := 49, offset := 11, embedded := false, tag := "", pkgPath := "", byteOffset := 88 }, { name := "Causes", type := 50, offset := 12, embedded := false, tag := "", pkgPath := "", byteOffset := 112 }, { name := "Gaps", type := 51, offset := 13, embedded := false, tag := "", pkgPath := "", byteOffset := 136 }, { name := "Dups", type := 52, offset := 14, embedded := false, tag := "", pkgPath := "", byteOffset := 160 }], .agg #[.int .i64 0, .int .i64 0, .int .u32 0, .int .i64 0, .int .i64 0, .int .u32 0, .string ⟨#[]⟩, .int .u32 0, .int .u32 0, .int .i64 0, .int .i64 0, .slice none 0 0, .slice none 0 0, .slice none 0 0, .slice none 0 0], 15, 184, false⟩
theorem t53_ok : TyOk Try.prog 53 t53 := TyOk.mk' Try.underlying53 (by kernel_rfl) (by kernel_rfl) (.inl rfl)
def t54 : TI := ⟨.struct #[{ name := "Type", type := 3, offset := 0, embedded := false, tag := "", pkgPath := "", byteOffset := 0 }, { name := "Flags", type := 3, offset := 1, embedded := false, tag := "", pkgPath := "", byteOffset := 8 }, { name := "Tsn", type := 27, offset := 2, embedded := false, tag := "", pkgPath := "", byteOffset := 16 }, { name := "Stream", type := 3, offset := 3, embedded := false, tag := "", pkgPath := "", byteOffset := 24 }, { name := "Ssn", type := 3, offset := 4, embedded := false, tag := "", pkgPath := "", byteOffset := 32 }, { name := "Proto", type := 27, offset := 5, embedded := false, tag := "", pkgPath := "", byteOffset := 40 }, { name := "Data", type := 9, offset := 6, embedded := false, tag := "", pkgPath := "", byteOffset := 48 }, { name := "Tag", type := 27, offset := 7, embedded := false, tag := "", pkgPath := "", byteOffset := 64 }, { name := "Rwnd", type := 27, offset := 8, embedded := false, tag := "", pkgPath := "", byteOffset := 68 }, { name := "Out", type := 3, offset := 9, embedded := false, tag := "", pkgPath := "", byteOffset := 72 }, { name := "In", type := 3, offset := 10, embedded := false, tag := "", pkgPath := "", byteOffset := 80 }, { name := "Params", type := 49, offset := 11, embedded := false, tag := "", pkgPath := "", byteOffset := 88 }, { name := "Causes", type := 50, offset := 12, embedded := false, tag := "", pkgPath := "", byteOffset := 112 }, { name := "Gaps", type := 51, offset := 13, embedded := false, tag := "", pkgPath := "", byteOffset := 136 }, { name := "Dups", type := 52, offset := 14, embedded := false, tag := "", pkgPath := "", byteOffset := 160 }], .agg #[.int .i64 0, .int .i64 0, .int .u32 0, .int .i64 0, .int .i64 0, .int .u32 0, .string ⟨#[]⟩, .int .u32 0, .int .u32 0, .int .i64 0, .int .i64 0, .slice none 0 0, .slice none 0 0, .slice none 0 0, .slice none 0 0], 15, 184, false⟩
theorem t54_ok : TyOk Try.prog 54 t54 := TyOk.mk' Try.underlying54 (by kernel_rfl) (by kernel_rfl) (.inl rfl)
def t56 : TI := ⟨.struct #[{ name := "More", type := 4, offset := 0, embedded := false, tag := "", pkgPath := "", byteOffset := 0 }, { name := "Came", type := 35, offset := 1, embedded := false, tag := "", pkgPath := "", byteOffset := 8 }, { name := "Took", type := 35, offset := 2, embedded := false, tag := "", pkgPath := "", byteOffset := 32 }, { name := "Lost", type := 25, offset := 3, embedded := false, tag := "", pkgPath := "", byteOffset := 56 }], .agg #[.bool false, .slice none 0 0, .slice none 0 0, .slice none 0 0], 4, 80, false⟩
theorem t56_ok : TyOk Try.prog 56 t56 := TyOk.mk' Try.underlying56 (by kernel_rfl) (by kernel_rfl) (.inl rfl)
def t57 : TI := ⟨.struct #[{ name := "More", type := 4, offset := 0, embedded := false, tag := "", pkgPath := "", byteOffset := 0 }, { name := "Came", type := 35, offset := 1, embedded := false, tag := "", pkgPath := "", byteOffset := 8 }, { name := "Took", type := 35, offset := 2, embedded := false, tag := "", pkgPath := "", byteOffset := 32 }, { name := "Lost", type := 25, offset := 3, embedded := false, tag := "", pkgPath := "", byteOffset := 56 }], .agg #[.bool false, .slice none 0 0, .slice none 0 0, .slice none 0 0], 4, 80, false⟩
theorem t57_ok : TyOk Try.prog 57 t57 := TyOk.mk' Try.underlying57 (by kernel_rfl) (by kernel_rfl) (.inl rfl)
def t59 : TI := ⟨.struct #[{ name := "From", type := 3, offset := 0, embedded := false, tag := "", pkgPath := "", byteOffset := 0 }, { name := "To", type := 3, offset := 1, embedded := false, tag := "", pkgPath := "", byteOffset := 8 }], .agg #[.int .i64 0, .int .i64 0], 2, 16, false⟩
theorem t59_ok : TyOk Try.prog 59 t59 := TyOk.mk' Try.underlying59 (by kernel_rfl) (by kernel_rfl) (.inl rfl)
def t60 : TI := ⟨.struct #[{ name := "From", type := 3, offset := 0, embedded := false, tag := "", pkgPath := "", byteOffset := 0 }, { name := "To", type := 3, offset := 1, embedded := false, tag := "", pkgPath := "", byteOffset := 8 }], .agg #[.int .i64 0, .int .i64 0], 2, 16, false⟩
theorem t60_ok : TyOk Try.prog 60 t60 := TyOk.mk' Try.underlying60 (by kernel_rfl) (by kernel_rfl) (.inl rfl)
def t72 : TI := ⟨.int .u64, .int .u64 0, 1, 8, false⟩
theorem t72_ok : TyOk Try.prog 72 t72 := TyOk.mk' Try.underlying72 (by kernel_rfl) (by kernel_rfl) (.inl rfl)
def t78 : TI := ⟨.pointer 131, .pointer none, 1, 8, false⟩
theorem t78_ok : TyOk Try.prog 78 t78 := TyOk.mk' Try.underlying78 (by kernel_rfl) (by kernel_rfl) (.inl rfl)
def t94 : TI := ⟨.slice 109, .slice none 0 0, 1, 24, false⟩
theorem t94_ok : TyOk Try.prog 94 t94 := TyOk.mk' Try.underlying94 (by kernel_rfl) (by kernel_rfl) (.inl rfl)
def t99 : TI := ⟨.slice 102, .slice none 0 0, 1, 24, false⟩
theorem t99_ok : TyOk Try.prog 99 t99 := TyOk.mk' Try.underlying99 (by kernel_rfl) (by kernel_rfl) (.inl rfl)
def t100 : TI := ⟨.struct #[{ name := "next", type := 99, offset := 0, embedded := false, tag := "", pkgPath := "crossway/deliver", byteOffset := 0 }, { name := "wait", type := 36, offset := 1, embedded := false, tag := "", pkgPath := "crossway/deliver", byteOffset := 24 }, { name := "out", type := 36, offset := 2, embedded := false, tag := "", pkgPath := "crossway/deliver", byteOffset := 48 }], .agg #[.slice none 0 0, .slice none 0 0, .slice none 0 0], 3, 72, false⟩
theorem t100_ok : TyOk Try.prog 100 t100 := TyOk.mk' Try.underlying100 (by kernel_rfl) (by kernel_rfl) (.inl rfl)
def t101 : TI := ⟨.struct #[{ name := "next", type := 99, offset := 0, embedded := false, tag := "", pkgPath := "crossway/deliver", byteOffset := 0 }, { name := "wait", type := 36, offset := 1, embedded := false, tag := "", pkgPath := "crossway/deliver", byteOffset := 24 }, { name := "out", type := 36, offset := 2, embedded := false, tag := "", pkgPath := "crossway/deliver", byteOffset := 48 }], .agg #[.slice none 0 0, .slice none 0 0, .slice none 0 0], 3, 72, false⟩
theorem t101_ok : TyOk Try.prog 101 t101 := TyOk.mk' Try.underlying101 (by kernel_rfl) (by kernel_rfl) (.inl rfl)
def t102 : TI := ⟨.int .u16, .int .u16 0, 1, 2, false⟩
theorem t102_ok : TyOk Try.prog 102 t102 := TyOk.mk' Try.underlying102 (by kernel_rfl) (by kernel_rfl) (.inl rfl)
def t106 : TI := ⟨.struct #[{ name := "list", type := 94, offset := 0, embedded := false, tag := "", pkgPath := "crossway/flight", byteOffset := 0 }, { name := "cum", type := 27, offset := 1, embedded := false, tag := "", pkgPath := "crossway/flight", byteOffset := 24 }], .agg #[.slice none 0 0, .int .u32 0], 2, 32, false⟩
theorem t106_ok : TyOk Try.prog 106 t106 := TyOk.mk' Try.underlying106 (by kernel_rfl) (by kernel_rfl) (.inl rfl)
def t107 : TI := ⟨.struct #[{ name := "list", type := 94, offset := 0, embedded := false, tag := "", pkgPath := "crossway/flight", byteOffset := 0 }, { name := "cum", type := 27, offset := 1, embedded := false, tag := "", pkgPath := "crossway/flight", byteOffset := 24 }], .agg #[.slice none 0 0, .int .u32 0], 2, 32, false⟩
theorem t107_ok : TyOk Try.prog 107 t107 := TyOk.mk' Try.underlying107 (by kernel_rfl) (by kernel_rfl) (.inl rfl)
def t108 : TI := ⟨.struct #[{ name := "Chunk", type := 54, offset := 0, embedded := false, tag := "", pkgPath := "", byteOffset := 0 }, { name := "Path", type := 3, offset := 15, embedded := false, tag := "", pkgPath := "", byteOffset := 184 }, { name := "At", type := 3, offset := 16, embedded := false, tag := "", pkgPath := "", byteOffset := 192 }, { name := "Times", type := 3, offset := 17, embedded := false, tag := "", pkgPath := "", byteOffset := 200 }, { name := "Missed", type := 3, offset := 18, embedded := false, tag := "", pkgPath := "", byteOffset := 208 }, { name := "Again", type := 4, offset := 19, embedded := false, tag := "", pkgPath := "", byteOffset := 216 }, { name := "Came", type := 4, offset := 20, embedded := false, tag := "", pkgPath := "", byteOffset := 217 }, { name := "Fast", type := 4, offset := 21, embedded := false, tag := "", pkgPath := "", byteOffset := 218 }], .agg #[.int .i64 0, .int .i64 0, .int .u32 0, .int .i64 0, .int .i64 0, .int .u32 0, .string ⟨#[]⟩, .int .u32 0, .int .u32 0, .int .i64 0, .int .i64 0, .slice none 0 0, .slice none 0 0, .slice none 0 0, .slice none 0 0, .int .i64 0, .int .i64 0, .int .i64 0, .int .i64 0, .bool false, .bool false, .bool false], 22, 224, false⟩
theorem t108_ok : TyOk Try.prog 108 t108 := TyOk.mk' Try.underlying108 (by kernel_rfl) (by kernel_rfl) (.inl rfl)
def t109 : TI := ⟨.struct #[{ name := "Chunk", type := 54, offset := 0, embedded := false, tag := "", pkgPath := "", byteOffset := 0 }, { name := "Path", type := 3, offset := 15, embedded := false, tag := "", pkgPath := "", byteOffset := 184 }, { name := "At", type := 3, offset := 16, embedded := false, tag := "", pkgPath := "", byteOffset := 192 }, { name := "Times", type := 3, offset := 17, embedded := false, tag := "", pkgPath := "", byteOffset := 200 }, { name := "Missed", type := 3, offset := 18, embedded := false, tag := "", pkgPath := "", byteOffset := 208 }, { name := "Again", type := 4, offset := 19, embedded := false, tag := "", pkgPath := "", byteOffset := 216 }, { name := "Came", type := 4, offset := 20, embedded := false, tag := "", pkgPath := "", byteOffset := 217 }, { name := "Fast", type := 4, offset := 21, embedded := false, tag := "", pkgPath := "", byteOffset := 218 }], .agg #[.int .i64 0, .int .i64 0, .int .u32 0, .int .i64 0, .int .i64 0, .int .u32 0, .string ⟨#[]⟩, .int .u32 0, .int .u32 0, .int .i64 0, .int .i64 0, .slice none 0 0, .slice none 0 0, .slice none 0 0, .slice none 0 0, .int .i64 0, .int .i64 0, .int .i64 0, .int .i64 0, .bool false, .bool false, .bool false], 22, 224, false⟩
theorem t109_ok : TyOk Try.prog 109 t109 := TyOk.mk' Try.underlying109 (by kernel_rfl) (by kernel_rfl) (.inl rfl)
def t114 : TI := ⟨.pointer 57, .pointer none, 1, 8, false⟩
theorem t114_ok : TyOk Try.prog 114 t114 := TyOk.mk' Try.underlying114 (by kernel_rfl) (by kernel_rfl) (.inl rfl)
def t120 : TI := ⟨.func #[109] #[4] false, .nilFunc, 1, 8, false⟩
theorem t120_ok : TyOk Try.prog 120 t120 := TyOk.mk' Try.underlying120 (by kernel_rfl) (by kernel_rfl) (.inl rfl)
def t130 : TI := ⟨.struct #[{ name := "cum", type := 27, offset := 0, embedded := false, tag := "", pkgPath := "crossway/gaps", byteOffset := 0 }, { name := "parts", type := 51, offset := 1, embedded := false, tag := "", pkgPath := "crossway/gaps", byteOffset := 8 }, { name := "dups", type := 52, offset := 2, embedded := false, tag := "", pkgPath := "crossway/gaps", byteOffset := 32 }], .agg #[.int .u32 0, .slice none 0 0, .slice none 0 0], 3, 56, false⟩
theorem t130_ok : TyOk Try.prog 130 t130 := TyOk.mk' Try.underlying130 (by kernel_rfl) (by kernel_rfl) (.inl rfl)
def t131 : TI := ⟨.struct #[{ name := "cum", type := 27, offset := 0, embedded := false, tag := "", pkgPath := "crossway/gaps", byteOffset := 0 }, { name := "parts", type := 51, offset := 1, embedded := false, tag := "", pkgPath := "crossway/gaps", byteOffset := 8 }, { name := "dups", type := 52, offset := 2, embedded := false, tag := "", pkgPath := "crossway/gaps", byteOffset := 32 }], .agg #[.int .u32 0, .slice none 0 0, .slice none 0 0], 3, 56, false⟩
theorem t131_ok : TyOk Try.prog 131 t131 := TyOk.mk' Try.underlying131 (by kernel_rfl) (by kernel_rfl) (.inl rfl)
def t140 : TI := ⟨.func #[60] #[4] false, .nilFunc, 1, 8, false⟩
theorem t140_ok : TyOk Try.prog 140 t140 := TyOk.mk' Try.underlying140 (by kernel_rfl) (by kernel_rfl) (.inl rfl)
def t148 : TI := ⟨.int .u64, .int .u64 0, 1, 8, false⟩
theorem t148_ok : TyOk Try.prog 148 t148 := TyOk.mk' Try.underlying148 (by kernel_rfl) (by kernel_rfl) (.inl rfl)
def t168 : TI := ⟨.struct #[{ name := "Type", type := 3, offset := 0, embedded := false, tag := "", pkgPath := "", byteOffset := 0 }, { name := "Value", type := 9, offset := 1, embedded := false, tag := "", pkgPath := "", byteOffset := 8 }], .agg #[.int .i64 0, .string ⟨#[]⟩], 2, 24, false⟩
theorem t168_ok : TyOk Try.prog 168 t168 := TyOk.mk' Try.underlying168 (by kernel_rfl) (by kernel_rfl) (.inl rfl)
def t169 : TI := ⟨.struct #[{ name := "Type", type := 3, offset := 0, embedded := false, tag := "", pkgPath := "", byteOffset := 0 }, { name := "Value", type := 9, offset := 1, embedded := false, tag := "", pkgPath := "", byteOffset := 8 }], .agg #[.int .i64 0, .string ⟨#[]⟩], 2, 24, false⟩
theorem t169_ok : TyOk Try.prog 169 t169 := TyOk.mk' Try.underlying169 (by kernel_rfl) (by kernel_rfl) (.inl rfl)
def t170 : TI := ⟨.struct #[{ name := "Code", type := 3, offset := 0, embedded := false, tag := "", pkgPath := "", byteOffset := 0 }, { name := "Info", type := 9, offset := 1, embedded := false, tag := "", pkgPath := "", byteOffset := 8 }], .agg #[.int .i64 0, .string ⟨#[]⟩], 2, 24, false⟩
theorem t170_ok : TyOk Try.prog 170 t170 := TyOk.mk' Try.underlying170 (by kernel_rfl) (by kernel_rfl) (.inl rfl)
def t171 : TI := ⟨.struct #[{ name := "Code", type := 3, offset := 0, embedded := false, tag := "", pkgPath := "", byteOffset := 0 }, { name := "Info", type := 9, offset := 1, embedded := false, tag := "", pkgPath := "", byteOffset := 8 }], .agg #[.int .i64 0, .string ⟨#[]⟩], 2, 24, false⟩
theorem t171_ok : TyOk Try.prog 171 t171 := TyOk.mk' Try.underlying171 (by kernel_rfl) (by kernel_rfl) (.inl rfl)
theorem f5_ok : FnOk Try.prog 5 Try.f5 := ⟨Try.func5, by kernel_rfl⟩
theorem f6_ok : FnOk Try.prog 6 Try.f6 := ⟨Try.func6, by kernel_rfl⟩
theorem f11_ok : FnOk Try.prog 11 Try.f11 := ⟨Try.func11, by kernel_rfl⟩
theorem f12_ok : FnOk Try.prog 12 Try.f12 := ⟨Try.func12, by kernel_rfl⟩
theorem f13_ok : FnOk Try.prog 13 Try.f13 := ⟨Try.func13, by kernel_rfl⟩
theorem f14_ok : FnOk Try.prog 14 Try.f14 := ⟨Try.func14, by kernel_rfl⟩
theorem f15_ok : FnOk Try.prog 15 Try.f15 := ⟨Try.func15, by kernel_rfl⟩
theorem f16_ok : FnOk Try.prog 16 Try.f16 := ⟨Try.func16, by kernel_rfl⟩
theorem f17_ok : FnOk Try.prog 17 Try.f17 := ⟨Try.func17, by kernel_rfl⟩
theorem f19_ok : FnOk Try.prog 19 Try.f19 := ⟨Try.func19, by kernel_rfl⟩
theorem f20_ok : FnOk Try.prog 20 Try.f20 := ⟨Try.func20, by kernel_rfl⟩
theorem f21_ok : FnOk Try.prog 21 Try.f21 := ⟨Try.func21, by kernel_rfl⟩
theorem f22_ok : FnOk Try.prog 22 Try.f22 := ⟨Try.func22, by kernel_rfl⟩
theorem f23_ok : FnOk Try.prog 23 Try.f23 := ⟨Try.func23, by kernel_rfl⟩
theorem f24_ok : FnOk Try.prog 24 Try.f24 := ⟨Try.func24, by kernel_rfl⟩
theorem f25_ok : FnOk Try.prog 25 Try.f25 := ⟨Try.func25, by kernel_rfl⟩
theorem f26_ok : FnOk Try.prog 26 Try.f26 := ⟨Try.func26, by kernel_rfl⟩
theorem f27_ok : FnOk Try.prog 27 Try.f27 := ⟨Try.func27, by kernel_rfl⟩
theorem f34_ok : FnOk Try.prog 34 Try.f34 := ⟨Try.func34, by kernel_rfl⟩
theorem f35_ok : FnOk Try.prog 35 Try.f35 := ⟨Try.func35, by kernel_rfl⟩
theorem f36_ok : FnOk Try.prog 36 Try.f36 := ⟨Try.func36, by kernel_rfl⟩
theorem f37_ok : FnOk Try.prog 37 Try.f37 := ⟨Try.func37, by kernel_rfl⟩
theorem f39_ok : FnOk Try.prog 39 Try.f39 := ⟨Try.func39, by kernel_rfl⟩
theorem f40_ok : FnOk Try.prog 40 Try.f40 := ⟨Try.func40, by kernel_rfl⟩
theorem f41_ok : FnOk Try.prog 41 Try.f41 := ⟨Try.func41, by kernel_rfl⟩
theorem f44_ok : FnOk Try.prog 44 Try.f44 := ⟨Try.func44, by kernel_rfl⟩
theorem f46_ok : FnOk Try.prog 46 Try.f46 := ⟨Try.func46, by kernel_rfl⟩
theorem f47_ok : FnOk Try.prog 47 Try.f47 := ⟨Try.func47, by kernel_rfl⟩
theorem f48_ok : FnOk Try.prog 48 Try.f48 := ⟨Try.func48, by kernel_rfl⟩
theorem f49_ok : FnOk Try.prog 49 Try.f49 := ⟨Try.func49, by kernel_rfl⟩
theorem f50_ok : FnOk Try.prog 50 Try.f50 := ⟨Try.func50, by kernel_rfl⟩
theorem f51_ok : FnOk Try.prog 51 Try.f51 := ⟨Try.func51, by kernel_rfl⟩
theorem f52_ok : FnOk Try.prog 52 Try.f52 := ⟨Try.func52, by kernel_rfl⟩
theorem f53_ok : FnOk Try.prog 53 Try.f53 := ⟨Try.func53, by kernel_rfl⟩
theorem f54_ok : FnOk Try.prog 54 Try.f54 := ⟨Try.func54, by kernel_rfl⟩
theorem f55_ok : FnOk Try.prog 55 Try.f55 := ⟨Try.func55, by kernel_rfl⟩
theorem f56_ok : FnOk Try.prog 56 Try.f56 := ⟨Try.func56, by kernel_rfl⟩
theorem f57_ok : FnOk Try.prog 57 Try.f57 := ⟨Try.func57, by kernel_rfl⟩
theorem f58_ok : FnOk Try.prog 58 Try.f58 := ⟨Try.func58, by kernel_rfl⟩
theorem f59_ok : FnOk Try.prog 59 Try.f59 := ⟨Try.func59, by kernel_rfl⟩
theorem f60_ok : FnOk Try.prog 60 Try.f60 := ⟨Try.func60, by kernel_rfl⟩
theorem f61_ok : FnOk Try.prog 61 Try.f61 := ⟨Try.func61, by kernel_rfl⟩
theorem f62_ok : FnOk Try.prog 62 Try.f62 := ⟨Try.func62, by kernel_rfl⟩
theorem f63_ok : FnOk Try.prog 63 Try.f63 := ⟨Try.func63, by kernel_rfl⟩
theorem f64_ok : FnOk Try.prog 64 Try.f64 := ⟨Try.func64, by kernel_rfl⟩
theorem f65_ok : FnOk Try.prog 65 Try.f65 := ⟨Try.func65, by kernel_rfl⟩
theorem f66_ok : FnOk Try.prog 66 Try.f66 := ⟨Try.func66, by kernel_rfl⟩
theorem f67_ok : FnOk Try.prog 67 Try.f67 := ⟨Try.func67, by kernel_rfl⟩
theorem f68_ok : FnOk Try.prog 68 Try.f68 := ⟨Try.func68, by kernel_rfl⟩
theorem f69_ok : FnOk Try.prog 69 Try.f69 := ⟨Try.func69, by kernel_rfl⟩
theorem f70_ok : FnOk Try.prog 70 Try.f70 := ⟨Try.func70, by kernel_rfl⟩
theorem f78_ok : FnOk Try.prog 78 Try.f78 := ⟨Try.func78, by kernel_rfl⟩
theorem f79_ok : FnOk Try.prog 79 Try.f79 := ⟨Try.func79, by kernel_rfl⟩
theorem f80_ok : FnOk Try.prog 80 Try.f80 := ⟨Try.func80, by kernel_rfl⟩
theorem f81_ok : FnOk Try.prog 81 Try.f81 := ⟨Try.func81, by kernel_rfl⟩
theorem f83_ok : FnOk Try.prog 83 Try.f83 := ⟨Try.func83, by kernel_rfl⟩
theorem f84_ok : FnOk Try.prog 84 Try.f84 := ⟨Try.func84, by kernel_rfl⟩
theorem f85_ok : FnOk Try.prog 85 Try.f85 := ⟨Try.func85, by kernel_rfl⟩
theorem f86_ok : FnOk Try.prog 86 Try.f86 := ⟨Try.func86, by kernel_rfl⟩
theorem f87_ok : FnOk Try.prog 87 Try.f87 := ⟨Try.func87, by kernel_rfl⟩
theorem f88_ok : FnOk Try.prog 88 Try.f88 := ⟨Try.func88, by kernel_rfl⟩
theorem f89_ok : FnOk Try.prog 89 Try.f89 := ⟨Try.func89, by kernel_rfl⟩
theorem f90_ok : FnOk Try.prog 90 Try.f90 := ⟨Try.func90, by kernel_rfl⟩
theorem f91_ok : FnOk Try.prog 91 Try.f91 := ⟨Try.func91, by kernel_rfl⟩
theorem f92_ok : FnOk Try.prog 92 Try.f92 := ⟨Try.func92, by kernel_rfl⟩
theorem f93_ok : FnOk Try.prog 93 Try.f93 := ⟨Try.func93, by kernel_rfl⟩
theorem f97_ok : FnOk Try.prog 97 Try.f97 := ⟨Try.func97, by kernel_rfl⟩
theorem f98_ok : FnOk Try.prog 98 Try.f98 := ⟨Try.func98, by kernel_rfl⟩
theorem f99_ok : FnOk Try.prog 99 Try.f99 := ⟨Try.func99, by kernel_rfl⟩
theorem f100_ok : FnOk Try.prog 100 Try.f100 := ⟨Try.func100, by kernel_rfl⟩
theorem f101_ok : FnOk Try.prog 101 Try.f101 := ⟨Try.func101, by kernel_rfl⟩
theorem f102_ok : FnOk Try.prog 102 Try.f102 := ⟨Try.func102, by kernel_rfl⟩
theorem f103_ok : FnOk Try.prog 103 Try.f103 := ⟨Try.func103, by kernel_rfl⟩
theorem f105_ok : FnOk Try.prog 105 Try.f105 := ⟨Try.func105, by kernel_rfl⟩
theorem f106_ok : FnOk Try.prog 106 Try.f106 := ⟨Try.func106, by kernel_rfl⟩
theorem f108_ok : FnOk Try.prog 108 Try.f108 := ⟨Try.func108, by kernel_rfl⟩
theorem f109_ok : FnOk Try.prog 109 Try.f109 := ⟨Try.func109, by kernel_rfl⟩
def g3 : Gd := Gd.int .i64
theorem o3 {N : Nat} {w0 w : World} (hN : N = w.heap.size) : Opn Try.prog N w0 w 3 g3 := Opn.int Try.underlying3
def g4 : Gd := Gd.bool
theorem o4 {N : Nat} {w0 w : World} (hN : N = w.heap.size) : Opn Try.prog N w0 w 4 g4 := Opn.bool Try.underlying4
def g27 : Gd := Gd.int .u32
theorem o27 {N : Nat} {w0 w : World} (hN : N = w.heap.size) : Opn Try.prog N w0 w 27 g27 := Opn.int Try.underlying27
def g9 : Gd := Gd.str
theorem o9 {N : Nat} {w0 w : World} (hN : N = w.heap.size) : Opn Try.prog N w0 w 9 g9 := Opn.str Try.underlying9
def g29 : Gd := Gd.agg [g3, g3, g4, g27, g9]
theorem o29 {N : Nat} {w0 w : World} (hN : N = w.heap.size) : Opn Try.prog N w0 w 29 g29 := Opn.struct Try.underlying29 (by kernel_rfl) (show OpnAll Try.prog N w0 w [(3, 0), (3, 1), (4, 2), (27, 3), (9, 4)] [g3, g3, g4, g27, g9] from ⟨o3 hN, o3 hN, o4 hN, o27 hN, o9 hN, trivial⟩)
def g169 : Gd := Gd.agg [g3, g9]
theorem o169 {N : Nat} {w0 w : World} (hN : N = w.heap.size) : Opn Try.prog N w0 w 169 g169 := Opn.struct Try.underlying169 (by kernel_rfl) (show OpnAll Try.prog N w0 w [(3, 0), (9, 1)] [g3, g9] from ⟨o3 hN, o9 hN, trivial⟩)
def g49 : Gd := Gd.row 169 2 g169
theorem o49 {N : Nat} {w0 w : World} (hN : N = w.heap.size) : Opn Try.prog N w0 w 49 g49 := Opn.slice Try.underlying49 (by kernel_rfl) (by decide) (o169 hN) hN
def g171 : Gd := Gd.agg [g3, g9]
theorem o171 {N : Nat} {w0 w : World} (hN : N = w.heap.size) : Opn Try.prog N w0 w 171 g171 := Opn.struct Try.underlying171 (by kernel_rfl) (show OpnAll Try.prog N w0 w [(3, 0), (9, 1)] [g3, g9] from ⟨o3 hN, o9 hN, trivial⟩)
def g50 : Gd := Gd.row 171 2 g171
theorem o50 {N : Nat} {w0 w : World} (hN : N = w.heap.size) : Opn Try.prog N w0 w 50 g50 := Opn.slice Try.underlying50 (by kernel_rfl) (by decide) (o171 hN) hN
def g60 : Gd := Gd.agg [g3, g3]
theorem o60 {N : Nat} {w0 w : World} (hN : N = w.heap.size) : Opn Try.prog N w0 w 60 g60 := Opn.struct Try.underlying60 (by kernel_rfl) (show OpnAll Try.prog N w0 w [(3, 0), (3, 1)] [g3, g3] from ⟨o3 hN, o3 hN, trivial⟩)
def g51 : Gd := Gd.row 60 2 g60
theorem o51 {N : Nat} {w0 w : World} (hN : N = w.heap.size) : Opn Try.prog N w0 w 51 g51 := Opn.slice Try.underlying51 (by kernel_rfl) (by decide) (o60 hN) hN
def g52 : Gd := Gd.row 27 1 g27
theorem o52 {N : Nat} {w0 w : World} (hN : N = w.heap.size) : Opn Try.prog N w0 w 52 g52 := Opn.slice Try.underlying52 (by kernel_rfl) (by decide) (o27 hN) hN
def g54 : Gd := Gd.agg [g3, g3, g27, g3, g3, g27, g9, g27, g27, g3, g3, g49, g50, g51, g52]
theorem o54 {N : Nat} {w0 w : World} (hN : N = w.heap.size) : Opn Try.prog N w0 w 54 g54 := Opn.struct Try.underlying54 (by kernel_rfl) (show OpnAll Try.prog N w0 w [(3, 0), (3, 1), (27, 2), (3, 3), (3, 4), (27, 5), (9, 6), (27, 7), (27, 8), (3, 9), (3, 10), (49, 11), (50, 12), (51, 13), (52, 14)] [g3, g3, g27, g3, g3, g27, g9, g27, g27, g3, g3, g49, g50, g51, g52] from ⟨o3 hN, o3 hN, o27 hN, o3 hN, o3 hN, o27 hN, o9 hN, o27 hN, o27 hN, o3 hN, o3 hN, o49 hN, o50 hN, o51 hN, o52 hN, trivial⟩)
noncomputable def tys : Tr TI := (.node 60 t60 (.node 36 t36 (.node 26 t26 (.node 9 t9 (.node 4 t4 (.node 3 t3 .leaf .leaf) .leaf) (.node 25 t25 (.node 23 t23 .leaf .leaf) .leaf)) (.node 29 t29 (.node 28 t28 (.node 27 t27 .leaf .leaf) .leaf) (.node 35 t35 .leaf .leaf))) (.node 53 t53 (.node 50 t50 (.node 49 t49 (.node 47 t47 .leaf .leaf) .leaf) (.node 52 t52 (.node 51 t51 .leaf .leaf) .leaf)) (.node 57 t57 (.node 56 t56 (.node 54 t54 .leaf .leaf) .leaf) (.node 59 t59 .leaf .leaf)))) (.node 109 t109 (.node 101 t101 (.node 94 t94 (.node 78 t78 (.node 72 t72 .leaf .leaf) .leaf) (.node 100 t100 (.node 99 t99 .leaf .leaf) .leaf)) (.node 107 t107 (.node 106 t106 (.node 102 t102 .leaf .leaf) .leaf) (.node 108 t108 .leaf .leaf))) (.node 148 t148 (.node 130 t130 (.node 120 t120 (.node 114 t114 .leaf .leaf) .leaf) (.node 140 t140 (.node 131 t131 .leaf .leaf) .leaf)) (.node 170 t170 (.node 169 t169 (.node 168 t168 .leaf .leaf) .leaf) (.node 171 t171 .leaf .leaf)))))
noncomputable def fns : Tr Func := (.node 58 Try.f58 (.node 35 Try.f35 (.node 19 Try.f19 (.node 13 Try.f13 (.node 11 Try.f11 (.node 6 Try.f6 (.node 5 Try.f5 .leaf .leaf) .leaf) (.node 12 Try.f12 .leaf .leaf)) (.node 16 Try.f16 (.node 15 Try.f15 (.node 14 Try.f14 .leaf .leaf) .leaf) (.node 17 Try.f17 .leaf .leaf))) (.node 24 Try.f24 (.node 22 Try.f22 (.node 21 Try.f21 (.node 20 Try.f20 .leaf .leaf) .leaf) (.node 23 Try.f23 .leaf .leaf)) (.node 27 Try.f27 (.node 26 Try.f26 (.node 25 Try.f25 .leaf .leaf) .leaf) (.node 34 Try.f34 .leaf .leaf)))) (.node 49 Try.f49 (.node 41 Try.f41 (.node 39 Try.f39 (.node 37 Try.f37 (.node 36 Try.f36 .leaf .leaf) .leaf) (.node 40 Try.f40 .leaf .leaf)) (.node 47 Try.f47 (.node 46 Try.f46 (.node 44 Try.f44 .leaf .leaf) .leaf) (.node 48 Try.f48 .leaf .leaf))) (.node 54 Try.f54 (.node 52 Try.f52 (.node 51 Try.f51 (.node 50 Try.f50 .leaf .leaf) .leaf) (.node 53 Try.f53 .leaf .leaf)) (.node 56 Try.f56 (.node 55 Try.f55 .leaf .leaf) (.node 57 Try.f57 .leaf .leaf))))) (.node 86 Try.f86 (.node 68 Try.f68 (.node 63 Try.f63 (.node 61 Try.f61 (.node 60 Try.f60 (.node 59 Try.f59 .leaf .leaf) .leaf) (.node 62 Try.f62 .leaf .leaf)) (.node 66 Try.f66 (.node 65 Try.f65 (.node 64 Try.f64 .leaf .leaf) .leaf) (.node 67 Try.f67 .leaf .leaf))) (.node 80 Try.f80 (.node 78 Try.f78 (.node 70 Try.f70 (.node 69 Try.f69 .leaf .leaf) .leaf) (.node 79 Try.f79 .leaf .leaf)) (.node 84 Try.f84 (.node 83 Try.f83 (.node 81 Try.f81 .leaf .leaf) .leaf) (.node 85 Try.f85 .leaf .leaf)))) (.node 99 Try.f99 (.node 91 Try.f91 (.node 89 Try.f89 (.node 88 Try.f88 (.node 87 Try.f87 .leaf .leaf) .leaf) (.node 90 Try.f90 .leaf .leaf)) (.node 97 Try.f97 (.node 93 Try.f93 (.node 92 Try.f92 .leaf .leaf) .leaf) (.node 98 Try.f98 .leaf .leaf))) (.node 105 Try.f105 (.node 102 Try.f102 (.node 101 Try.f101 (.node 100 Try.f100 .leaf .leaf) .leaf) (.node 103 Try.f103 .leaf .leaf)) (.node 108 Try.f108 (.node 106 Try.f106 .leaf .leaf) (.node 109 Try.f109 .leaf .leaf))))))
noncomputable def env : Env := mkEnv tys fns
theorem env_ok : EnvOk Try.prog env := mkEnv_ok (T := tys) (F := fns) ⟨t60_ok, ⟨t36_ok, ⟨t26_ok, ⟨t9_ok, ⟨t4_ok, ⟨t3_ok, trivial, trivial⟩, trivial⟩, ⟨t25_ok, ⟨t23_ok, trivial, trivial⟩, trivial⟩⟩, ⟨t29_ok, ⟨t28_ok, ⟨t27_ok, trivial, trivial⟩, trivial⟩, ⟨t35_ok, trivial, trivial⟩⟩⟩, ⟨t53_ok, ⟨t50_ok, ⟨t49_ok, ⟨t47_ok, trivial, trivial⟩, trivial⟩, ⟨t52_ok, ⟨t51_ok, trivial, trivial⟩, trivial⟩⟩, ⟨t57_ok, ⟨t56_ok, ⟨t54_ok, trivial, trivial⟩, trivial⟩, ⟨t59_ok, trivial, trivial⟩⟩⟩⟩, ⟨t109_ok, ⟨t101_ok, ⟨t94_ok, ⟨t78_ok, ⟨t72_ok, trivial, trivial⟩, trivial⟩, ⟨t100_ok, ⟨t99_ok, trivial, trivial⟩, trivial⟩⟩, ⟨t107_ok, ⟨t106_ok, ⟨t102_ok, trivial, trivial⟩, trivial⟩, ⟨t108_ok, trivial, trivial⟩⟩⟩, ⟨t148_ok, ⟨t130_ok, ⟨t120_ok, ⟨t114_ok, trivial, trivial⟩, trivial⟩, ⟨t140_ok, ⟨t131_ok, trivial, trivial⟩, trivial⟩⟩, ⟨t170_ok, ⟨t169_ok, ⟨t168_ok, trivial, trivial⟩, trivial⟩, ⟨t171_ok, trivial, trivial⟩⟩⟩⟩⟩ ⟨f58_ok, ⟨f35_ok, ⟨f19_ok, ⟨f13_ok, ⟨f11_ok, ⟨f6_ok, ⟨f5_ok, trivial, trivial⟩, trivial⟩, ⟨f12_ok, trivial, trivial⟩⟩, ⟨f16_ok, ⟨f15_ok, ⟨f14_ok, trivial, trivial⟩, trivial⟩, ⟨f17_ok, trivial, trivial⟩⟩⟩, ⟨f24_ok, ⟨f22_ok, ⟨f21_ok, ⟨f20_ok, trivial, trivial⟩, trivial⟩, ⟨f23_ok, trivial, trivial⟩⟩, ⟨f27_ok, ⟨f26_ok, ⟨f25_ok, trivial, trivial⟩, trivial⟩, ⟨f34_ok, trivial, trivial⟩⟩⟩⟩, ⟨f49_ok, ⟨f41_ok, ⟨f39_ok, ⟨f37_ok, ⟨f36_ok, trivial, trivial⟩, trivial⟩, ⟨f40_ok, trivial, trivial⟩⟩, ⟨f47_ok, ⟨f46_ok, ⟨f44_ok, trivial, trivial⟩, trivial⟩, ⟨f48_ok, trivial, trivial⟩⟩⟩, ⟨f54_ok, ⟨f52_ok, ⟨f51_ok, ⟨f50_ok, trivial, trivial⟩, trivial⟩, ⟨f53_ok, trivial, trivial⟩⟩, ⟨f56_ok, ⟨f55_ok, trivial, trivial⟩, ⟨f57_ok, trivial, trivial⟩⟩⟩⟩⟩, ⟨f86_ok, ⟨f68_ok, ⟨f63_ok, ⟨f61_ok, ⟨f60_ok, ⟨f59_ok, trivial, trivial⟩, trivial⟩, ⟨f62_ok, trivial, trivial⟩⟩, ⟨f66_ok, ⟨f65_ok, ⟨f64_ok, trivial, trivial⟩, trivial⟩, ⟨f67_ok, trivial, trivial⟩⟩⟩, ⟨f80_ok, ⟨f78_ok, ⟨f70_ok, ⟨f69_ok, trivial, trivial⟩, trivial⟩, ⟨f79_ok, trivial, trivial⟩⟩, ⟨f84_ok, ⟨f83_ok, ⟨f81_ok, trivial, trivial⟩, trivial⟩, ⟨f85_ok, trivial, trivial⟩⟩⟩⟩, ⟨f99_ok, ⟨f91_ok, ⟨f89_ok, ⟨f88_ok, ⟨f87_ok, trivial, trivial⟩, trivial⟩, ⟨f90_ok, trivial, trivial⟩⟩, ⟨f97_ok, ⟨f93_ok, ⟨f92_ok, trivial, trivial⟩, trivial⟩, ⟨f98_ok, trivial, trivial⟩⟩⟩, ⟨f105_ok, ⟨f102_ok, ⟨f101_ok, ⟨f100_ok, trivial, trivial⟩, trivial⟩, ⟨f103_ok, trivial, trivial⟩⟩, ⟨f108_ok, ⟨f106_ok, trivial, trivial⟩, ⟨f109_ok, trivial, trivial⟩⟩⟩⟩⟩⟩ (by kernel_rfl)
end Go.Proofs.Ytmepflkodjdgdaa.Vt
