/- The tables of types and functions, for the abstract machine. -/
import Derived.Test.YtnjknabighmedaaVm2
import Derived.Test.YtnjknabighmedaaProg
namespace Go.Proofs.Ytnjknabighmedaa.Vt
open Go Go.Proofs Go.Proofs.YtnjknabighmedaaV
set_option maxRecDepth 100000
set_option linter.unusedVariables false
def t3 : TI := ⟨.int .i64, .int .i64 0, 1, 8, false⟩
theorem t3_ok : TyOk Try.prog 3 t3 := TyOk.mk' Try.underlying3 (by kernel_rfl) (by kernel_rfl) (.inl rfl)
def t4 : TI := ⟨.bool, .bool false, 1, 1, false⟩
theorem t4_ok : TyOk Try.prog 4 t4 := TyOk.mk' Try.underlying4 (by kernel_rfl) (by kernel_rfl) (.inl rfl)
def t5 : TI := ⟨.int .u8, .int .u8 0, 1, 1, false⟩
theorem t5_ok : TyOk Try.prog 5 t5 := TyOk.mk' Try.underlying5 (by kernel_rfl) (by kernel_rfl) (.inl rfl)
def t9 : TI := ⟨.string, .string ⟨#[]⟩, 1, 16, false⟩
theorem t9_ok : TyOk Try.prog 9 t9 := TyOk.mk' Try.underlying9 (by kernel_rfl) (by kernel_rfl) (.inl rfl)
def t22 : TI := ⟨.slice 26, .slice none 0 0, 1, 24, false⟩
theorem t22_ok : TyOk Try.prog 22 t22 := TyOk.mk' Try.underlying22 (by kernel_rfl) (by kernel_rfl) (.inl rfl)
def t23 : TI := ⟨.int .u32, .int .u32 0, 1, 4, false⟩
theorem t23_ok : TyOk Try.prog 23 t23 := TyOk.mk' Try.underlying23 (by kernel_rfl) (by kernel_rfl) (.inl rfl)
def t24 : TI := ⟨.int .u32, .int .u32 0, 1, 4, false⟩
theorem t24_ok : TyOk Try.prog 24 t24 := TyOk.mk' Try.underlying24 (by kernel_rfl) (by kernel_rfl) (.inl rfl)
def t25 : TI := ⟨.struct #[{ name := "Inner", type := 24, offset := 0, embedded := false, tag := "", pkgPath := "", byteOffset := 0 }, { name := "Port", type := 3, offset := 1, embedded := false, tag := "", pkgPath := "", byteOffset := 8 }, { name := "Peer", type := 24, offset := 2, embedded := false, tag := "", pkgPath := "", byteOffset := 16 }, { name := "PeerPort", type := 3, offset := 3, embedded := false, tag := "", pkgPath := "", byteOffset := 24 }, { name := "In", type := 23, offset := 4, embedded := false, tag := "", pkgPath := "", byteOffset := 32 }, { name := "Out", type := 23, offset := 5, embedded := false, tag := "", pkgPath := "", byteOffset := 36 }, { name := "Seen", type := 3, offset := 6, embedded := false, tag := "", pkgPath := "", byteOffset := 40 }], .agg #[.int .u32 0, .int .i64 0, .int .u32 0, .int .i64 0, .int .u32 0, .int .u32 0, .int .i64 0], 7, 48, false⟩
theorem t25_ok : TyOk Try.prog 25 t25 := TyOk.mk' Try.underlying25 (by kernel_rfl) (by kernel_rfl) (.inl rfl)
def t26 : TI := ⟨.struct #[{ name := "Inner", type := 24, offset := 0, embedded := false, tag := "", pkgPath := "", byteOffset := 0 }, { name := "Port", type := 3, offset := 1, embedded := false, tag := "", pkgPath := "", byteOffset := 8 }, { name := "Peer", type := 24, offset := 2, embedded := false, tag := "", pkgPath := "", byteOffset := 16 }, { name := "PeerPort", type := 3, offset := 3, embedded := false, tag := "", pkgPath := "", byteOffset := 24 }, { name := "In", type := 23, offset := 4, embedded := false, tag := "", pkgPath := "", byteOffset := 32 }, { name := "Out", type := 23, offset := 5, embedded := false, tag := "", pkgPath := "", byteOffset := 36 }, { name := "Seen", type := 3, offset := 6, embedded := false, tag := "", pkgPath := "", byteOffset := 40 }], .agg #[.int .u32 0, .int .i64 0, .int .u32 0, .int .i64 0, .int .u32 0, .int .u32 0, .int .i64 0], 7, 48, false⟩
theorem t26_ok : TyOk Try.prog 26 t26 := TyOk.mk' Try.underlying26 (by kernel_rfl) (by kernel_rfl) (.inl rfl)
def t31 : TI := ⟨.slice 50, .slice none 0 0, 1, 24, false⟩
theorem t31_ok : TyOk Try.prog 31 t31 := TyOk.mk' Try.underlying31 (by kernel_rfl) (by kernel_rfl) (.inl rfl)
def t32 : TI := ⟨.struct #[{ name := "From", type := 3, offset := 0, embedded := false, tag := "", pkgPath := "", byteOffset := 0 }, { name := "To", type := 3, offset := 1, embedded := false, tag := "", pkgPath := "", byteOffset := 8 }, { name := "Tag", type := 23, offset := 2, embedded := false, tag := "", pkgPath := "", byteOffset := 16 }, { name := "Chunks", type := 31, offset := 3, embedded := false, tag := "", pkgPath := "", byteOffset := 24 }], .agg #[.int .i64 0, .int .i64 0, .int .u32 0, .slice none 0 0], 4, 48, false⟩
theorem t32_ok : TyOk Try.prog 32 t32 := TyOk.mk' Try.underlying32 (by kernel_rfl) (by kernel_rfl) (.inl rfl)
def t33 : TI := ⟨.struct #[{ name := "From", type := 3, offset := 0, embedded := false, tag := "", pkgPath := "", byteOffset := 0 }, { name := "To", type := 3, offset := 1, embedded := false, tag := "", pkgPath := "", byteOffset := 8 }, { name := "Tag", type := 23, offset := 2, embedded := false, tag := "", pkgPath := "", byteOffset := 16 }, { name := "Chunks", type := 31, offset := 3, embedded := false, tag := "", pkgPath := "", byteOffset := 24 }], .agg #[.int .i64 0, .int .i64 0, .int .u32 0, .slice none 0 0], 4, 48, false⟩
theorem t33_ok : TyOk Try.prog 33 t33 := TyOk.mk' Try.underlying33 (by kernel_rfl) (by kernel_rfl) (.inl rfl)
def t45 : TI := ⟨.slice 143, .slice none 0 0, 1, 24, false⟩
theorem t45_ok : TyOk Try.prog 45 t45 := TyOk.mk' Try.underlying45 (by kernel_rfl) (by kernel_rfl) (.inl rfl)
def t46 : TI := ⟨.slice 145, .slice none 0 0, 1, 24, false⟩
theorem t46_ok : TyOk Try.prog 46 t46 := TyOk.mk' Try.underlying46 (by kernel_rfl) (by kernel_rfl) (.inl rfl)
def t47 : TI := ⟨.slice 163, .slice none 0 0, 1, 24, false⟩
theorem t47_ok : TyOk Try.prog 47 t47 := TyOk.mk' Try.underlying47 (by kernel_rfl) (by kernel_rfl) (.inl rfl)
def t48 : TI := ⟨.slice 23, .slice none 0 0, 1, 24, false⟩
theorem t48_ok : TyOk Try.prog 48 t48 := TyOk.mk' Try.underlying48 (by kernel_rfl) (by kernel_rfl) (.inl rfl)
def t49 : TI := ⟨.struct #[{ name := "Type", type := 3, offset := 0, embedded := false, tag := "", pkgPath := "", byteOffset := 0 }, { name := "Flags", type := 3, offset := 1, embedded := false, tag := "", pkgPath := "", byteOffset := 8 }, { name := "Tsn", type := 23, offset := 2, embedded := false, tag := "", pkgPath := "", byteOffset := 16 }, { name := "Stream", type := 3, offset := 3, embedded := false, tag := "", pkgPath := "", byteOffset := 24 }, { name := "Ssn", type := 3, offset := 4, embedded := false, tag := "", pkgPath := "", byteOffset := 32 }, { name := "Proto", type := 23, offset := 5, embedded := false, tag := "", pkgPath := "", byteOffset := 40 }, { name := "Data", type := 9, offset := 6, embedded := false, tag := "", pkgPath := "", byteOffset := 48 }, { name := "Tag", type := 23, offset := 7, embedded := false, tag := "", pkgPath := "", byteOffset := 64 }, { name := "Rwnd", type := 23, offset := 8, embedded := false, tag := "", pkgPath := "", byteOffset := 68 }, { name := "Out", type := 3, offset := 9, embedded := false, tag := "", pkgPath := "", byteOffset := 72 }, { name := "In", type := 3, offset := 10, embedded := false, tag := "", pkgPath := "", byteOffset := 80 }, { name := "Params", type := 45, offset := 11, embedded := false, tag := "", pkgPath := "", byteOffset := 88 }, { name := "Causes", type := 46, offset := 12, embedded := false, tag := "", pkgPath := "", byteOffset := 112 }, { name := "Gaps", type := 47, offset := 13, embedded := false, tag := "", pkgPath := "", byteOffset := 136 }, { name := "Dups", type := 48, offset := 14, embedded := false, tag := "", pkgPath := "", byteOffset := 160 }], .agg #[.int .i64 0, .int .i64 0, .int .u32 0, .int .i64 0, .int .i64 0, .int .u32 0, .string ⟨#[]⟩, .int .u32 0, .int .u32 0, .int .i64 0, .int .i64 0, .slice none 0 0, .slice none 0 0, .slice none 0 0, .slice none 0 0], 15, 184, false⟩
theorem t49_ok : TyOk Try.prog 49 t49 := TyOk.mk' Try.underlying49 (by kernel_rfl) (by kernel_rfl) (.inl rfl)
def t50 : TI := ⟨.struct #[{ name := "Type", type := 3, offset := 0, embedded := false, tag := "", pkgPath := "", byteOffset := 0 }, { name := "Flags", type := 3, offset := 1, embedded := false, tag := "", pkgPath := "", byteOffset := 8 }, { name := "Tsn", type := 23, offset := 2, embedded := false, tag := "", pkgPath := "", byteOffset := 16 }, { name := "Stream", type := 3, offset := 3, embedded := false, tag := "", pkgPath := "", byteOffset := 24 }, { name := "Ssn", type := 3, offset := 4, embedded := false, tag := "", pkgPath := "", byteOffset := 32 }, { name := "Proto", type := 23, offset := 5, embedded := false, tag := "", pkgPath := "", byteOffset := 40 }, { name := "Data", type := 9, offset := 6, embedded := false, tag := "", pkgPath := "", byteOffset := 48 }, { name := "Tag", type := 23, offset := 7, embedded := false, tag := "", pkgPath := "", byteOffset := 64 }, { name := "Rwnd", type := 23, offset := 8, embedded := false, tag := "", pkgPath := "", byteOffset := 68 }, { name := "Out", type := 3, offset := 9, embedded := false, tag := "", pkgPath := "", byteOffset := 72 }, { name := "In", type := 3, offset := 10, embedded := false, tag := "", pkgPath := "", byteOffset := 80 }, { name := "Params", type := 45, offset := 11, embedded := false, tag := "", pkgPath := "", byteOffset := 88 }, { name := "Causes", type := 46, offset := 12, embedded := false, tag := "", pkgPath := "", byteOffset := 112 }, { name := "Gaps", type := 47, offset := 13, embedded := false, tag := "", pkgPath := "", byteOffset := 136 }, { name := "Dups", type := 48, offset := 14, embedded := false, tag := "", pkgPath := "", byteOffset := 160 }], .agg #[.int .i64 0, .int .i64 0, .int .u32 0, .int .i64 0, .int .i64 0, .int .u32 0, .string ⟨#[]⟩, .int .u32 0, .int .u32 0, .int .i64 0, .int .i64 0, .slice none 0 0, .slice none 0 0, .slice none 0 0, .slice none 0 0], 15, 184, false⟩
theorem t50_ok : TyOk Try.prog 50 t50 := TyOk.mk' Try.underlying50 (by kernel_rfl) (by kernel_rfl) (.inl rfl)
def t53 : TI := ⟨.pointer 115, .pointer none, 1, 8, false⟩
theorem t53_ok : TyOk Try.prog 53 t53 := TyOk.mk' Try.underlying53 (by kernel_rfl) (by kernel_rfl) (.inl rfl)
def t56 : TI := ⟨.struct #[{ name := "From", type := 24, offset := 0, embedded := false, tag := "", pkgPath := "", byteOffset := 0 }, { name := "To", type := 24, offset := 1, embedded := false, tag := "", pkgPath := "", byteOffset := 4 }, { name := "S", type := 9, offset := 2, embedded := false, tag := "", pkgPath := "", byteOffset := 8 }], .agg #[.int .u32 0, .int .u32 0, .string ⟨#[]⟩], 3, 24, true⟩
theorem t56_ok : TyOk Try.prog 56 t56 := TyOk.mk' Try.underlying56 (by kernel_rfl) (by kernel_rfl) (.inr ⟨by kernel_rfl, by kernel_rfl⟩)
def t57 : TI := ⟨.struct #[{ name := "From", type := 24, offset := 0, embedded := false, tag := "", pkgPath := "", byteOffset := 0 }, { name := "To", type := 24, offset := 1, embedded := false, tag := "", pkgPath := "", byteOffset := 4 }, { name := "S", type := 9, offset := 2, embedded := false, tag := "", pkgPath := "", byteOffset := 8 }], .agg #[.int .u32 0, .int .u32 0, .string ⟨#[]⟩], 3, 24, true⟩
theorem t57_ok : TyOk Try.prog 57 t57 := TyOk.mk' Try.underlying57 (by kernel_rfl) (by kernel_rfl) (.inr ⟨by kernel_rfl, by kernel_rfl⟩)
def t58 : TI := ⟨.struct #[{ name := "Leg", type := 3, offset := 0, embedded := false, tag := "", pkgPath := "", byteOffset := 0 }, { name := "Nat", type := 3, offset := 1, embedded := false, tag := "", pkgPath := "", byteOffset := 8 }, { name := "D", type := 57, offset := 2, embedded := false, tag := "", pkgPath := "", byteOffset := 16 }, { name := "Bent", type := 4, offset := 5, embedded := false, tag := "", pkgPath := "", byteOffset := 40 }], .agg #[.int .i64 0, .int .i64 0, .int .u32 0, .int .u32 0, .string ⟨#[]⟩, .bool false], 6, 48, true⟩
theorem t58_ok : TyOk Try.prog 58 t58 := TyOk.mk' Try.underlying58 (by kernel_rfl) (by kernel_rfl) (.inr ⟨by kernel_rfl, by kernel_rfl⟩)
def t59 : TI := ⟨.struct #[{ name := "Leg", type := 3, offset := 0, embedded := false, tag := "", pkgPath := "", byteOffset := 0 }, { name := "Nat", type := 3, offset := 1, embedded := false, tag := "", pkgPath := "", byteOffset := 8 }, { name := "D", type := 57, offset := 2, embedded := false, tag := "", pkgPath := "", byteOffset := 16 }, { name := "Bent", type := 4, offset := 5, embedded := false, tag := "", pkgPath := "", byteOffset := 40 }], .agg #[.int .i64 0, .int .i64 0, .int .u32 0, .int .u32 0, .string ⟨#[]⟩, .bool false], 6, 48, true⟩
theorem t59_ok : TyOk Try.prog 59 t59 := TyOk.mk' Try.underlying59 (by kernel_rfl) (by kernel_rfl) (.inr ⟨by kernel_rfl, by kernel_rfl⟩)
def t60 : TI := ⟨.slice 117, .slice none 0 0, 1, 24, false⟩
theorem t60_ok : TyOk Try.prog 60 t60 := TyOk.mk' Try.underlying60 (by kernel_rfl) (by kernel_rfl) (.inl rfl)
def t64 : TI := ⟨.slice 67, .slice none 0 0, 1, 24, false⟩
theorem t64_ok : TyOk Try.prog 64 t64 := TyOk.mk' Try.underlying64 (by kernel_rfl) (by kernel_rfl) (.inl rfl)
def t65 : TI := ⟨.slice 59, .slice none 0 0, 1, 24, false⟩
theorem t65_ok : TyOk Try.prog 65 t65 := TyOk.mk' Try.underlying65 (by kernel_rfl) (by kernel_rfl) (.inl rfl)
def t66 : TI := ⟨.struct #[{ name := "What", type := 3, offset := 0, embedded := false, tag := "", pkgPath := "", byteOffset := 0 }, { name := "X", type := 59, offset := 1, embedded := false, tag := "", pkgPath := "", byteOffset := 8 }, { name := "At", type := 3, offset := 7, embedded := false, tag := "", pkgPath := "", byteOffset := 56 }, { name := "Bit", type := 3, offset := 8, embedded := false, tag := "", pkgPath := "", byteOffset := 64 }], .agg #[.int .i64 0, .int .i64 0, .int .i64 0, .int .u32 0, .int .u32 0, .string ⟨#[]⟩, .bool false, .int .i64 0, .int .i64 0], 9, 72, false⟩
theorem t66_ok : TyOk Try.prog 66 t66 := TyOk.mk' Try.underlying66 (by kernel_rfl) (by kernel_rfl) (.inl rfl)
def t67 : TI := ⟨.struct #[{ name := "What", type := 3, offset := 0, embedded := false, tag := "", pkgPath := "", byteOffset := 0 }, { name := "X", type := 59, offset := 1, embedded := false, tag := "", pkgPath := "", byteOffset := 8 }, { name := "At", type := 3, offset := 7, embedded := false, tag := "", pkgPath := "", byteOffset := 56 }, { name := "Bit", type := 3, offset := 8, embedded := false, tag := "", pkgPath := "", byteOffset := 64 }], .agg #[.int .i64 0, .int .i64 0, .int .i64 0, .int .u32 0, .int .u32 0, .string ⟨#[]⟩, .bool false, .int .i64 0, .int .i64 0], 9, 72, false⟩
theorem t67_ok : TyOk Try.prog 67 t67 := TyOk.mk' Try.underlying67 (by kernel_rfl) (by kernel_rfl) (.inl rfl)
def t78 : TI := ⟨.func #[26] #[4] false, .nilFunc, 1, 8, false⟩
theorem t78_ok : TyOk Try.prog 78 t78 := TyOk.mk' Try.underlying78 (by kernel_rfl) (by kernel_rfl) (.inl rfl)
def t81 : TI := ⟨.slice 91, .slice none 0 0, 1, 24, false⟩
theorem t81_ok : TyOk Try.prog 81 t81 := TyOk.mk' Try.underlying81 (by kernel_rfl) (by kernel_rfl) (.inl rfl)
def t82 : TI := ⟨.pointer 131, .pointer none, 1, 8, false⟩
theorem t82_ok : TyOk Try.prog 82 t82 := TyOk.mk' Try.underlying82 (by kernel_rfl) (by kernel_rfl) (.inl rfl)
def t84 : TI := ⟨.struct #[{ name := "Mean", type := 3, offset := 0, embedded := false, tag := "", pkgPath := "", byteOffset := 0 }, { name := "Var", type := 3, offset := 1, embedded := false, tag := "", pkgPath := "", byteOffset := 8 }, { name := "Wait", type := 3, offset := 2, embedded := false, tag := "", pkgPath := "", byteOffset := 16 }, { name := "Known", type := 4, offset := 3, embedded := false, tag := "", pkgPath := "", byteOffset := 24 }], .agg #[.int .i64 0, .int .i64 0, .int .i64 0, .bool false], 4, 32, true⟩
theorem t84_ok : TyOk Try.prog 84 t84 := TyOk.mk' Try.underlying84 (by kernel_rfl) (by kernel_rfl) (.inr ⟨by kernel_rfl, by kernel_rfl⟩)
def t85 : TI := ⟨.struct #[{ name := "Mean", type := 3, offset := 0, embedded := false, tag := "", pkgPath := "", byteOffset := 0 }, { name := "Var", type := 3, offset := 1, embedded := false, tag := "", pkgPath := "", byteOffset := 8 }, { name := "Wait", type := 3, offset := 2, embedded := false, tag := "", pkgPath := "", byteOffset := 16 }, { name := "Known", type := 4, offset := 3, embedded := false, tag := "", pkgPath := "", byteOffset := 24 }], .agg #[.int .i64 0, .int .i64 0, .int .i64 0, .bool false], 4, 32, true⟩
theorem t85_ok : TyOk Try.prog 85 t85 := TyOk.mk' Try.underlying85 (by kernel_rfl) (by kernel_rfl) (.inr ⟨by kernel_rfl, by kernel_rfl⟩)
def t86 : TI := ⟨.struct #[{ name := "Local", type := 24, offset := 0, embedded := false, tag := "", pkgPath := "", byteOffset := 0 }, { name := "Peer", type := 24, offset := 1, embedded := false, tag := "", pkgPath := "", byteOffset := 4 }, { name := "State", type := 3, offset := 2, embedded := false, tag := "", pkgPath := "", byteOffset := 8 }, { name := "Errors", type := 3, offset := 3, embedded := false, tag := "", pkgPath := "", byteOffset := 16 }, { name := "Rto", type := 85, offset := 4, embedded := false, tag := "", pkgPath := "", byteOffset := 24 }, { name := "Cwnd", type := 3, offset := 8, embedded := false, tag := "", pkgPath := "", byteOffset := 56 }, { name := "Ssthresh", type := 3, offset := 9, embedded := false, tag := "", pkgPath := "", byteOffset := 64 }, { name := "Part", type := 3, offset := 10, embedded := false, tag := "", pkgPath := "", byteOffset := 72 }, { name := "Flight", type := 3, offset := 11, embedded := false, tag := "", pkgPath := "", byteOffset := 80 }, { name := "BeatAt", type := 3, offset := 12, embedded := false, tag := "", pkgPath := "", byteOffset := 88 }, { name := "Beat", type := 23, offset := 13, embedded := false, tag := "", pkgPath := "", byteOffset := 96 }, { name := "BeatSent", type := 3, offset := 14, embedded := false, tag := "", pkgPath := "", byteOffset := 104 }], .agg #[.int .u32 0, .int .u32 0, .int .i64 0, .int .i64 0, .int .i64 0, .int .i64 0, .int .i64 0, .bool false, .int .i64 0, .int .i64 0, .int .i64 0, .int .i64 0, .int .i64 0, .int .u32 0, .int .i64 0], 15, 112, true⟩
theorem t86_ok : TyOk Try.prog 86 t86 := TyOk.mk' Try.underlying86 (by kernel_rfl) (by kernel_rfl) (.inr ⟨by kernel_rfl, by kernel_rfl⟩)
def t87 : TI := ⟨.struct #[{ name := "Local", type := 24, offset := 0, embedded := false, tag := "", pkgPath := "", byteOffset := 0 }, { name := "Peer", type := 24, offset := 1, embedded := false, tag := "", pkgPath := "", byteOffset := 4 }, { name := "State", type := 3, offset := 2, embedded := false, tag := "", pkgPath := "", byteOffset := 8 }, { name := "Errors", type := 3, offset := 3, embedded := false, tag := "", pkgPath := "", byteOffset := 16 }, { name := "Rto", type := 85, offset := 4, embedded := false, tag := "", pkgPath := "", byteOffset := 24 }, { name := "Cwnd", type := 3, offset := 8, embedded := false, tag := "", pkgPath := "", byteOffset := 56 }, { name := "Ssthresh", type := 3, offset := 9, embedded := false, tag := "", pkgPath := "", byteOffset := 64 }, { name := "Part", type := 3, offset := 10, embedded := false, tag := "", pkgPath := "", byteOffset := 72 }, { name := "Flight", type := 3, offset := 11, embedded := false, tag := "", pkgPath := "", byteOffset := 80 }, { name := "BeatAt", type := 3, offset := 12, embedded := false, tag := "", pkgPath := "", byteOffset := 88 }, { name := "Beat", type := 23, offset := 13, embedded := false, tag := "", pkgPath := "", byteOffset := 96 }, { name := "BeatSent", type := 3, offset := 14, embedded := false, tag := "", pkgPath := "", byteOffset := 104 }], .agg #[.int .u32 0, .int .u32 0, .int .i64 0, .int .i64 0, .int .i64 0, .int .i64 0, .int .i64 0, .bool false, .int .i64 0, .int .i64 0, .int .i64 0, .int .i64 0, .int .i64 0, .int .u32 0, .int .i64 0], 15, 112, true⟩
theorem t87_ok : TyOk Try.prog 87 t87 := TyOk.mk' Try.underlying87 (by kernel_rfl) (by kernel_rfl) (.inr ⟨by kernel_rfl, by kernel_rfl⟩)
def t89 : TI := ⟨.slice 87, .slice none 0 0, 1, 24, false⟩
theorem t89_ok : TyOk Try.prog 89 t89 := TyOk.mk' Try.underlying89 (by kernel_rfl) (by kernel_rfl) (.inl rfl)
def t90 : TI := ⟨.struct #[{ name := "What", type := 3, offset := 0, embedded := false, tag := "", pkgPath := "", byteOffset := 0 }, { name := "Local", type := 3, offset := 1, embedded := false, tag := "", pkgPath := "", byteOffset := 8 }, { name := "Peer", type := 3, offset := 2, embedded := false, tag := "", pkgPath := "", byteOffset := 16 }, { name := "N", type := 3, offset := 3, embedded := false, tag := "", pkgPath := "", byteOffset := 24 }], .agg #[.int .i64 0, .int .i64 0, .int .i64 0, .int .i64 0], 4, 32, false⟩
theorem t90_ok : TyOk Try.prog 90 t90 := TyOk.mk' Try.underlying90 (by kernel_rfl) (by kernel_rfl) (.inl rfl)
def t91 : TI := ⟨.struct #[{ name := "What", type := 3, offset := 0, embedded := false, tag := "", pkgPath := "", byteOffset := 0 }, { name := "Local", type := 3, offset := 1, embedded := false, tag := "", pkgPath := "", byteOffset := 8 }, { name := "Peer", type := 3, offset := 2, embedded := false, tag := "", pkgPath := "", byteOffset := 16 }, { name := "N", type := 3, offset := 3, embedded := false, tag := "", pkgPath := "", byteOffset := 24 }], .agg #[.int .i64 0, .int .i64 0, .int .i64 0, .int .i64 0], 4, 32, false⟩
theorem t91_ok : TyOk Try.prog 91 t91 := TyOk.mk' Try.underlying91 (by kernel_rfl) (by kernel_rfl) (.inl rfl)
def t94 : TI := ⟨.slice 3, .slice none 0 0, 1, 24, false⟩
theorem t94_ok : TyOk Try.prog 94 t94 := TyOk.mk' Try.underlying94 (by kernel_rfl) (by kernel_rfl) (.inl rfl)
def t114 : TI := ⟨.struct #[{ name := "list", type := 65, offset := 0, embedded := false, tag := "", pkgPath := "crossway/net", byteOffset := 0 }, { name := "full", type := 3, offset := 1, embedded := false, tag := "", pkgPath := "crossway/net", byteOffset := 24 }], .agg #[.slice none 0 0, .int .i64 0], 2, 32, false⟩
theorem t114_ok : TyOk Try.prog 114 t114 := TyOk.mk' Try.underlying114 (by kernel_rfl) (by kernel_rfl) (.inl rfl)
def t115 : TI := ⟨.struct #[{ name := "list", type := 65, offset := 0, embedded := false, tag := "", pkgPath := "crossway/net", byteOffset := 0 }, { name := "full", type := 3, offset := 1, embedded := false, tag := "", pkgPath := "crossway/net", byteOffset := 24 }], .agg #[.slice none 0 0, .int .i64 0], 2, 32, false⟩
theorem t115_ok : TyOk Try.prog 115 t115 := TyOk.mk' Try.underlying115 (by kernel_rfl) (by kernel_rfl) (.inl rfl)
def t116 : TI := ⟨.struct #[{ name := "Stream", type := 3, offset := 0, embedded := false, tag := "", pkgPath := "", byteOffset := 0 }, { name := "Ssn", type := 3, offset := 1, embedded := false, tag := "", pkgPath := "", byteOffset := 8 }, { name := "Loose", type := 4, offset := 2, embedded := false, tag := "", pkgPath := "", byteOffset := 16 }, { name := "Proto", type := 23, offset := 3, embedded := false, tag := "", pkgPath := "", byteOffset := 20 }, { name := "Data", type := 9, offset := 4, embedded := false, tag := "", pkgPath := "", byteOffset := 24 }], .agg #[.int .i64 0, .int .i64 0, .bool false, .int .u32 0, .string ⟨#[]⟩], 5, 40, true⟩
theorem t116_ok : TyOk Try.prog 116 t116 := TyOk.mk' Try.underlying116 (by kernel_rfl) (by kernel_rfl) (.inr ⟨by kernel_rfl, by kernel_rfl⟩)
def t117 : TI := ⟨.struct #[{ name := "Stream", type := 3, offset := 0, embedded := false, tag := "", pkgPath := "", byteOffset := 0 }, { name := "Ssn", type := 3, offset := 1, embedded := false, tag := "", pkgPath := "", byteOffset := 8 }, { name := "Loose", type := 4, offset := 2, embedded := false, tag := "", pkgPath := "", byteOffset := 16 }, { name := "Proto", type := 23, offset := 3, embedded := false, tag := "", pkgPath := "", byteOffset := 20 }, { name := "Data", type := 9, offset := 4, embedded := false, tag := "", pkgPath := "", byteOffset := 24 }], .agg #[.int .i64 0, .int .i64 0, .bool false, .int .u32 0, .string ⟨#[]⟩], 5, 40, true⟩
theorem t117_ok : TyOk Try.prog 117 t117 := TyOk.mk' Try.underlying117 (by kernel_rfl) (by kernel_rfl) (.inr ⟨by kernel_rfl, by kernel_rfl⟩)
def t120 : TI := ⟨.func #[117, 117] #[4] false, .nilFunc, 1, 8, false⟩
theorem t120_ok : TyOk Try.prog 120 t120 := TyOk.mk' Try.underlying120 (by kernel_rfl) (by kernel_rfl) (.inl rfl)
def t122 : TI := ⟨.func #[117] #[4] false, .nilFunc, 1, 8, false⟩
theorem t122_ok : TyOk Try.prog 122 t122 := TyOk.mk' Try.underlying122 (by kernel_rfl) (by kernel_rfl) (.inl rfl)
def t125 : TI := ⟨.slice 5, .slice none 0 0, 1, 24, false⟩
theorem t125_ok : TyOk Try.prog 125 t125 := TyOk.mk' Try.underlying125 (by kernel_rfl) (by kernel_rfl) (.inl rfl)
def t126 : TI := ⟨.int .u64, .int .u64 0, 1, 8, false⟩
theorem t126_ok : TyOk Try.prog 126 t126 := TyOk.mk' Try.underlying126 (by kernel_rfl) (by kernel_rfl) (.inl rfl)
def t130 : TI := ⟨.struct #[{ name := "list", type := 89, offset := 0, embedded := false, tag := "", pkgPath := "crossway/paths", byteOffset := 0 }, { name := "first", type := 3, offset := 1, embedded := false, tag := "", pkgPath := "crossway/paths", byteOffset := 24 }], .agg #[.slice none 0 0, .int .i64 0], 2, 32, false⟩
theorem t130_ok : TyOk Try.prog 130 t130 := TyOk.mk' Try.underlying130 (by kernel_rfl) (by kernel_rfl) (.inl rfl)
def t131 : TI := ⟨.struct #[{ name := "list", type := 89, offset := 0, embedded := false, tag := "", pkgPath := "crossway/paths", byteOffset := 0 }, { name := "first", type := 3, offset := 1, embedded := false, tag := "", pkgPath := "crossway/paths", byteOffset := 24 }], .agg #[.slice none 0 0, .int .i64 0], 2, 32, false⟩
theorem t131_ok : TyOk Try.prog 131 t131 := TyOk.mk' Try.underlying131 (by kernel_rfl) (by kernel_rfl) (.inl rfl)
def t138 : TI := ⟨.func #[87] #[4] false, .nilFunc, 1, 8, false⟩
theorem t138_ok : TyOk Try.prog 138 t138 := TyOk.mk' Try.underlying138 (by kernel_rfl) (by kernel_rfl) (.inl rfl)
def t139 : TI := ⟨.array 2 3, .agg #[.int .i64 0, .int .i64 0], 2, 16, false⟩
theorem t139_ok : TyOk Try.prog 139 t139 := TyOk.mk' Try.underlying139 (by kernel_rfl) (by kernel_rfl) (.inl rfl)
def t140 : TI := ⟨.slice 139, .slice none 0 0, 1, 24, false⟩
theorem t140_ok : TyOk Try.prog 140 t140 := TyOk.mk' Try.underlying140 (by kernel_rfl) (by kernel_rfl) (.inl rfl)
def t142 : TI := ⟨.struct #[{ name := "Type", type := 3, offset := 0, embedded := false, tag := "", pkgPath := "", byteOffset := 0 }, { name := "Value", type := 9, offset := 1, embedded := false, tag := "", pkgPath := "", byteOffset := 8 }], .agg #[.int .i64 0, .string ⟨#[]⟩], 2, 24, false⟩
theorem t142_ok : TyOk Try.prog 142 t142 := TyOk.mk' Try.underlying142 (by kernel_rfl) (by kernel_rfl) (.inl rfl)
def t143 : TI := ⟨.struct #[{ name := "Type", type := 3, offset := 0, embedded := false, tag := "", pkgPath := "", byteOffset := 0 }, { name := "Value", type := 9, offset := 1, embedded := false, tag := "", pkgPath := "", byteOffset := 8 }], .agg #[.int .i64 0, .string ⟨#[]⟩], 2, 24, false⟩
theorem t143_ok : TyOk Try.prog 143 t143 := TyOk.mk' Try.underlying143 (by kernel_rfl) (by kernel_rfl) (.inl rfl)
def t144 : TI := ⟨.struct #[{ name := "Code", type := 3, offset := 0, embedded := false, tag := "", pkgPath := "", byteOffset := 0 }, { name := "Info", type := 9, offset := 1, embedded := false, tag := "", pkgPath := "", byteOffset := 8 }], .agg #[.int .i64 0, .string ⟨#[]⟩], 2, 24, false⟩
theorem t144_ok : TyOk Try.prog 144 t144 := TyOk.mk' Try.underlying144 (by kernel_rfl) (by kernel_rfl) (.inl rfl)
def t145 : TI := ⟨.struct #[{ name := "Code", type := 3, offset := 0, embedded := false, tag := "", pkgPath := "", byteOffset := 0 }, { name := "Info", type := 9, offset := 1, embedded := false, tag := "", pkgPath := "", byteOffset := 8 }], .agg #[.int .i64 0, .string ⟨#[]⟩], 2, 24, false⟩
theorem t145_ok : TyOk Try.prog 145 t145 := TyOk.mk' Try.underlying145 (by kernel_rfl) (by kernel_rfl) (.inl rfl)
def t162 : TI := ⟨.struct #[{ name := "From", type := 3, offset := 0, embedded := false, tag := "", pkgPath := "", byteOffset := 0 }, { name := "To", type := 3, offset := 1, embedded := false, tag := "", pkgPath := "", byteOffset := 8 }], .agg #[.int .i64 0, .int .i64 0], 2, 16, false⟩
theorem t162_ok : TyOk Try.prog 162 t162 := TyOk.mk' Try.underlying162 (by kernel_rfl) (by kernel_rfl) (.inl rfl)
def t163 : TI := ⟨.struct #[{ name := "From", type := 3, offset := 0, embedded := false, tag := "", pkgPath := "", byteOffset := 0 }, { name := "To", type := 3, offset := 1, embedded := false, tag := "", pkgPath := "", byteOffset := 8 }], .agg #[.int .i64 0, .int .i64 0], 2, 16, false⟩
theorem t163_ok : TyOk Try.prog 163 t163 := TyOk.mk' Try.underlying163 (by kernel_rfl) (by kernel_rfl) (.inl rfl)
theorem f3_ok : FnOk Try.prog 3 Try.f3 := ⟨Try.func3, by kernel_rfl⟩
theorem f4_ok : FnOk Try.prog 4 Try.f4 := ⟨Try.func4, by kernel_rfl⟩
theorem f7_ok : FnOk Try.prog 7 Try.f7 := ⟨Try.func7, by kernel_rfl⟩
theorem f8_ok : FnOk Try.prog 8 Try.f8 := ⟨Try.func8, by kernel_rfl⟩
theorem f9_ok : FnOk Try.prog 9 Try.f9 := ⟨Try.func9, by kernel_rfl⟩
theorem f10_ok : FnOk Try.prog 10 Try.f10 := ⟨Try.func10, by kernel_rfl⟩
theorem f12_ok : FnOk Try.prog 12 Try.f12 := ⟨Try.func12, by kernel_rfl⟩
theorem f14_ok : FnOk Try.prog 14 Try.f14 := ⟨Try.func14, by kernel_rfl⟩
theorem f15_ok : FnOk Try.prog 15 Try.f15 := ⟨Try.func15, by kernel_rfl⟩
theorem f16_ok : FnOk Try.prog 16 Try.f16 := ⟨Try.func16, by kernel_rfl⟩
theorem f17_ok : FnOk Try.prog 17 Try.f17 := ⟨Try.func17, by kernel_rfl⟩
theorem f18_ok : FnOk Try.prog 18 Try.f18 := ⟨Try.func18, by kernel_rfl⟩
theorem f27_ok : FnOk Try.prog 27 Try.f27 := ⟨Try.func27, by kernel_rfl⟩
theorem f28_ok : FnOk Try.prog 28 Try.f28 := ⟨Try.func28, by kernel_rfl⟩
theorem f29_ok : FnOk Try.prog 29 Try.f29 := ⟨Try.func29, by kernel_rfl⟩
theorem f30_ok : FnOk Try.prog 30 Try.f30 := ⟨Try.func30, by kernel_rfl⟩
theorem f31_ok : FnOk Try.prog 31 Try.f31 := ⟨Try.func31, by kernel_rfl⟩
theorem f32_ok : FnOk Try.prog 32 Try.f32 := ⟨Try.func32, by kernel_rfl⟩
theorem f33_ok : FnOk Try.prog 33 Try.f33 := ⟨Try.func33, by kernel_rfl⟩
theorem f34_ok : FnOk Try.prog 34 Try.f34 := ⟨Try.func34, by kernel_rfl⟩
theorem f35_ok : FnOk Try.prog 35 Try.f35 := ⟨Try.func35, by kernel_rfl⟩
theorem f36_ok : FnOk Try.prog 36 Try.f36 := ⟨Try.func36, by kernel_rfl⟩
theorem f37_ok : FnOk Try.prog 37 Try.f37 := ⟨Try.func37, by kernel_rfl⟩
theorem f38_ok : FnOk Try.prog 38 Try.f38 := ⟨Try.func38, by kernel_rfl⟩
theorem f39_ok : FnOk Try.prog 39 Try.f39 := ⟨Try.func39, by kernel_rfl⟩
theorem f40_ok : FnOk Try.prog 40 Try.f40 := ⟨Try.func40, by kernel_rfl⟩
theorem f41_ok : FnOk Try.prog 41 Try.f41 := ⟨Try.func41, by kernel_rfl⟩
theorem f50_ok : FnOk Try.prog 50 Try.f50 := ⟨Try.func50, by kernel_rfl⟩
theorem f51_ok : FnOk Try.prog 51 Try.f51 := ⟨Try.func51, by kernel_rfl⟩
theorem f52_ok : FnOk Try.prog 52 Try.f52 := ⟨Try.func52, by kernel_rfl⟩
theorem f53_ok : FnOk Try.prog 53 Try.f53 := ⟨Try.func53, by kernel_rfl⟩
theorem f54_ok : FnOk Try.prog 54 Try.f54 := ⟨Try.func54, by kernel_rfl⟩
theorem f55_ok : FnOk Try.prog 55 Try.f55 := ⟨Try.func55, by kernel_rfl⟩
theorem f56_ok : FnOk Try.prog 56 Try.f56 := ⟨Try.func56, by kernel_rfl⟩
theorem f57_ok : FnOk Try.prog 57 Try.f57 := ⟨Try.func57, by kernel_rfl⟩
theorem f58_ok : FnOk Try.prog 58 Try.f58 := ⟨Try.func58, by kernel_rfl⟩
theorem f59_ok : FnOk Try.prog 59 Try.f59 := ⟨Try.func59, by kernel_rfl⟩
theorem f60_ok : FnOk Try.prog 60 Try.f60 := ⟨Try.func60, by kernel_rfl⟩
theorem f61_ok : FnOk Try.prog 61 Try.f61 := ⟨Try.func61, by kernel_rfl⟩
theorem f62_ok : FnOk Try.prog 62 Try.f62 := ⟨Try.func62, by kernel_rfl⟩
theorem f63_ok : FnOk Try.prog 63 Try.f63 := ⟨Try.func63, by kernel_rfl⟩
theorem f64_ok : FnOk Try.prog 64 Try.f64 := ⟨Try.func64, by kernel_rfl⟩
theorem f65_ok : FnOk Try.prog 65 Try.f65 := ⟨Try.func65, by kernel_rfl⟩
theorem f66_ok : FnOk Try.prog 66 Try.f66 := ⟨Try.func66, by kernel_rfl⟩
theorem f67_ok : FnOk Try.prog 67 Try.f67 := ⟨Try.func67, by kernel_rfl⟩
theorem f68_ok : FnOk Try.prog 68 Try.f68 := ⟨Try.func68, by kernel_rfl⟩
theorem f69_ok : FnOk Try.prog 69 Try.f69 := ⟨Try.func69, by kernel_rfl⟩
theorem f70_ok : FnOk Try.prog 70 Try.f70 := ⟨Try.func70, by kernel_rfl⟩
theorem f71_ok : FnOk Try.prog 71 Try.f71 := ⟨Try.func71, by kernel_rfl⟩
theorem f75_ok : FnOk Try.prog 75 Try.f75 := ⟨Try.func75, by kernel_rfl⟩
theorem f76_ok : FnOk Try.prog 76 Try.f76 := ⟨Try.func76, by kernel_rfl⟩
theorem f77_ok : FnOk Try.prog 77 Try.f77 := ⟨Try.func77, by kernel_rfl⟩
theorem f78_ok : FnOk Try.prog 78 Try.f78 := ⟨Try.func78, by kernel_rfl⟩
theorem f79_ok : FnOk Try.prog 79 Try.f79 := ⟨Try.func79, by kernel_rfl⟩
theorem f80_ok : FnOk Try.prog 80 Try.f80 := ⟨Try.func80, by kernel_rfl⟩
theorem f81_ok : FnOk Try.prog 81 Try.f81 := ⟨Try.func81, by kernel_rfl⟩
theorem f82_ok : FnOk Try.prog 82 Try.f82 := ⟨Try.func82, by kernel_rfl⟩
theorem f89_ok : FnOk Try.prog 89 Try.f89 := ⟨Try.func89, by kernel_rfl⟩
theorem f90_ok : FnOk Try.prog 90 Try.f90 := ⟨Try.func90, by kernel_rfl⟩
theorem f91_ok : FnOk Try.prog 91 Try.f91 := ⟨Try.func91, by kernel_rfl⟩
theorem f92_ok : FnOk Try.prog 92 Try.f92 := ⟨Try.func92, by kernel_rfl⟩
theorem f93_ok : FnOk Try.prog 93 Try.f93 := ⟨Try.func93, by kernel_rfl⟩
theorem f94_ok : FnOk Try.prog 94 Try.f94 := ⟨Try.func94, by kernel_rfl⟩
theorem f95_ok : FnOk Try.prog 95 Try.f95 := ⟨Try.func95, by kernel_rfl⟩
theorem f96_ok : FnOk Try.prog 96 Try.f96 := ⟨Try.func96, by kernel_rfl⟩
theorem f97_ok : FnOk Try.prog 97 Try.f97 := ⟨Try.func97, by kernel_rfl⟩
theorem f98_ok : FnOk Try.prog 98 Try.f98 := ⟨Try.func98, by kernel_rfl⟩
theorem f100_ok : FnOk Try.prog 100 Try.f100 := ⟨Try.func100, by kernel_rfl⟩
theorem f101_ok : FnOk Try.prog 101 Try.f101 := ⟨Try.func101, by kernel_rfl⟩
def g24 : Gd := Gd.int .u32
theorem o24 {N : Nat} {w0 w : World} (hN : N = w.heap.size) : Opn Try.prog N w0 w 24 g24 := Opn.int Try.underlying24
def g3 : Gd := Gd.int .i64
theorem o3 {N : Nat} {w0 w : World} (hN : N = w.heap.size) : Opn Try.prog N w0 w 3 g3 := Opn.int Try.underlying3
def g23 : Gd := Gd.int .u32
theorem o23 {N : Nat} {w0 w : World} (hN : N = w.heap.size) : Opn Try.prog N w0 w 23 g23 := Opn.int Try.underlying23
def g26 : Gd := Gd.agg [g24, g3, g24, g3, g23, g23, g3]
theorem o26 {N : Nat} {w0 w : World} (hN : N = w.heap.size) : Opn Try.prog N w0 w 26 g26 := Opn.struct Try.underlying26 (by kernel_rfl) (show OpnAll Try.prog N w0 w [(24, 0), (3, 1), (24, 2), (3, 3), (23, 4), (23, 5), (3, 6)] [g24, g3, g24, g3, g23, g23, g3] from ⟨o24 hN, o3 hN, o24 hN, o3 hN, o23 hN, o23 hN, o3 hN, trivial⟩)
def g22 : Gd := Gd.row 26 7 g26
theorem o22 {N : Nat} {w0 w : World} (hN : N = w.heap.size) : Opn Try.prog N w0 w 22 g22 := Opn.slice Try.underlying22 (by kernel_rfl) (by decide) (o26 hN) hN
def g9 : Gd := Gd.str
theorem o9 {N : Nat} {w0 w : World} (hN : N = w.heap.size) : Opn Try.prog N w0 w 9 g9 := Opn.str Try.underlying9
def g143 : Gd := Gd.agg [g3, g9]
theorem o143 {N : Nat} {w0 w : World} (hN : N = w.heap.size) : Opn Try.prog N w0 w 143 g143 := Opn.struct Try.underlying143 (by kernel_rfl) (show OpnAll Try.prog N w0 w [(3, 0), (9, 1)] [g3, g9] from ⟨o3 hN, o9 hN, trivial⟩)
def g45 : Gd := Gd.row 143 2 g143
theorem o45 {N : Nat} {w0 w : World} (hN : N = w.heap.size) : Opn Try.prog N w0 w 45 g45 := Opn.slice Try.underlying45 (by kernel_rfl) (by decide) (o143 hN) hN
def g145 : Gd := Gd.agg [g3, g9]
theorem o145 {N : Nat} {w0 w : World} (hN : N = w.heap.size) : Opn Try.prog N w0 w 145 g145 := Opn.struct Try.underlying145 (by kernel_rfl) (show OpnAll Try.prog N w0 w [(3, 0), (9, 1)] [g3, g9] from ⟨o3 hN, o9 hN, trivial⟩)
def g46 : Gd := Gd.row 145 2 g145
theorem o46 {N : Nat} {w0 w : World} (hN : N = w.heap.size) : Opn Try.prog N w0 w 46 g46 := Opn.slice Try.underlying46 (by kernel_rfl) (by decide) (o145 hN) hN
def g163 : Gd := Gd.agg [g3, g3]
theorem o163 {N : Nat} {w0 w : World} (hN : N = w.heap.size) : Opn Try.prog N w0 w 163 g163 := Opn.struct Try.underlying163 (by kernel_rfl) (show OpnAll Try.prog N w0 w [(3, 0), (3, 1)] [g3, g3] from ⟨o3 hN, o3 hN, trivial⟩)
def g47 : Gd := Gd.row 163 2 g163
theorem o47 {N : Nat} {w0 w : World} (hN : N = w.heap.size) : Opn Try.prog N w0 w 47 g47 := Opn.slice Try.underlying47 (by kernel_rfl) (by decide) (o163 hN) hN
def g48 : Gd := Gd.row 23 1 g23
theorem o48 {N : Nat} {w0 w : World} (hN : N = w.heap.size) : Opn Try.prog N w0 w 48 g48 := Opn.slice Try.underlying48 (by kernel_rfl) (by decide) (o23 hN) hN
def g50 : Gd := Gd.agg [g3, g3, g23, g3, g3, g23, g9, g23, g23, g3, g3, g45, g46, g47, g48]
theorem o50 {N : Nat} {w0 w : World} (hN : N = w.heap.size) : Opn Try.prog N w0 w 50 g50 := Opn.struct Try.underlying50 (by kernel_rfl) (show OpnAll Try.prog N w0 w [(3, 0), (3, 1), (23, 2), (3, 3), (3, 4), (23, 5), (9, 6), (23, 7), (23, 8), (3, 9), (3, 10), (45, 11), (46, 12), (47, 13), (48, 14)] [g3, g3, g23, g3, g3, g23, g9, g23, g23, g3, g3, g45, g46, g47, g48] from ⟨o3 hN, o3 hN, o23 hN, o3 hN, o3 hN, o23 hN, o9 hN, o23 hN, o23 hN, o3 hN, o3 hN, o45 hN, o46 hN, o47 hN, o48 hN, trivial⟩)
def g31 : Gd := Gd.row 50 15 g50
theorem o31 {N : Nat} {w0 w : World} (hN : N = w.heap.size) : Opn Try.prog N w0 w 31 g31 := Opn.slice Try.underlying31 (by kernel_rfl) (by decide) (o50 hN) hN
def g33 : Gd := Gd.agg [g3, g3, g23, g31]
theorem o33 {N : Nat} {w0 w : World} (hN : N = w.heap.size) : Opn Try.prog N w0 w 33 g33 := Opn.struct Try.underlying33 (by kernel_rfl) (show OpnAll Try.prog N w0 w [(3, 0), (3, 1), (23, 2), (31, 3)] [g3, g3, g23, g31] from ⟨o3 hN, o3 hN, o23 hN, o31 hN, trivial⟩)
def g4 : Gd := Gd.bool
theorem o4 {N : Nat} {w0 w : World} (hN : N = w.heap.size) : Opn Try.prog N w0 w 4 g4 := Opn.bool Try.underlying4
def g117 : Gd := Gd.agg [g3, g3, g4, g23, g9]
theorem o117 {N : Nat} {w0 w : World} (hN : N = w.heap.size) : Opn Try.prog N w0 w 117 g117 := Opn.struct Try.underlying117 (by kernel_rfl) (show OpnAll Try.prog N w0 w [(3, 0), (3, 1), (4, 2), (23, 3), (9, 4)] [g3, g3, g4, g23, g9] from ⟨o3 hN, o3 hN, o4 hN, o23 hN, o9 hN, trivial⟩)
def g60 : Gd := Gd.row 117 5 g117
theorem o60 {N : Nat} {w0 w : World} (hN : N = w.heap.size) : Opn Try.prog N w0 w 60 g60 := Opn.slice Try.underlying60 (by kernel_rfl) (by decide) (o117 hN) hN
def g57 : Gd := Gd.agg [g24, g24, g9]
theorem o57 {N : Nat} {w0 w : World} (hN : N = w.heap.size) : Opn Try.prog N w0 w 57 g57 := Opn.struct Try.underlying57 (by kernel_rfl) (show OpnAll Try.prog N w0 w [(24, 0), (24, 1), (9, 2)] [g24, g24, g9] from ⟨o24 hN, o24 hN, o9 hN, trivial⟩)
def g59 : Gd := Gd.agg [g3, g3, g57, g4]
theorem o59 {N : Nat} {w0 w : World} (hN : N = w.heap.size) : Opn Try.prog N w0 w 59 g59 := Opn.struct Try.underlying59 (by kernel_rfl) (show OpnAll Try.prog N w0 w [(3, 0), (3, 1), (57, 2), (4, 5)] [g3, g3, g57, g4] from ⟨o3 hN, o3 hN, o57 hN, o4 hN, trivial⟩)
def g67 : Gd := Gd.agg [g3, g59, g3, g3]
theorem o67 {N : Nat} {w0 w : World} (hN : N = w.heap.size) : Opn Try.prog N w0 w 67 g67 := Opn.struct Try.underlying67 (by kernel_rfl) (show OpnAll Try.prog N w0 w [(3, 0), (59, 1), (3, 7), (3, 8)] [g3, g59, g3, g3] from ⟨o3 hN, o59 hN, o3 hN, o3 hN, trivial⟩)
def g64 : Gd := Gd.row 67 9 g67
theorem o64 {N : Nat} {w0 w : World} (hN : N = w.heap.size) : Opn Try.prog N w0 w 64 g64 := Opn.slice Try.underlying64 (by kernel_rfl) (by decide) (o67 hN) hN
def g91 : Gd := Gd.agg [g3, g3, g3, g3]
theorem o91 {N : Nat} {w0 w : World} (hN : N = w.heap.size) : Opn Try.prog N w0 w 91 g91 := Opn.struct Try.underlying91 (by kernel_rfl) (show OpnAll Try.prog N w0 w [(3, 0), (3, 1), (3, 2), (3, 3)] [g3, g3, g3, g3] from ⟨o3 hN, o3 hN, o3 hN, o3 hN, trivial⟩)
def g81 : Gd := Gd.row 91 4 g91
theorem o81 {N : Nat} {w0 w : World} (hN : N = w.heap.size) : Opn Try.prog N w0 w 81 g81 := Opn.slice Try.underlying81 (by kernel_rfl) (by decide) (o91 hN) hN
noncomputable def tys : Tr TI := (.node 81 t81 (.node 47 t47 (.node 25 t25 (.node 9 t9 (.node 4 t4 (.node 3 t3 .leaf .leaf) (.node 5 t5 .leaf .leaf)) (.node 23 t23 (.node 22 t22 .leaf .leaf) (.node 24 t24 .leaf .leaf))) (.node 33 t33 (.node 31 t31 (.node 26 t26 .leaf .leaf) (.node 32 t32 .leaf .leaf)) (.node 46 t46 (.node 45 t45 .leaf .leaf) .leaf))) (.node 59 t59 (.node 53 t53 (.node 49 t49 (.node 48 t48 .leaf .leaf) (.node 50 t50 .leaf .leaf)) (.node 57 t57 (.node 56 t56 .leaf .leaf) (.node 58 t58 .leaf .leaf))) (.node 66 t66 (.node 64 t64 (.node 60 t60 .leaf .leaf) (.node 65 t65 .leaf .leaf)) (.node 78 t78 (.node 67 t67 .leaf .leaf) .leaf)))) (.node 122 t122 (.node 91 t91 (.node 86 t86 (.node 84 t84 (.node 82 t82 .leaf .leaf) (.node 85 t85 .leaf .leaf)) (.node 89 t89 (.node 87 t87 .leaf .leaf) (.node 90 t90 .leaf .leaf))) (.node 116 t116 (.node 114 t114 (.node 94 t94 .leaf .leaf) (.node 115 t115 .leaf .leaf)) (.node 120 t120 (.node 117 t117 .leaf .leaf) .leaf))) (.node 140 t140 (.node 131 t131 (.node 126 t126 (.node 125 t125 .leaf .leaf) (.node 130 t130 .leaf .leaf)) (.node 139 t139 (.node 138 t138 .leaf .leaf) .leaf)) (.node 145 t145 (.node 143 t143 (.node 142 t142 .leaf .leaf) (.node 144 t144 .leaf .leaf)) (.node 163 t163 (.node 162 t162 .leaf .leaf) .leaf)))))
noncomputable def fns : Tr Func := (.node 57 Try.f57 (.node 32 Try.f32 (.node 15 Try.f15 (.node 9 Try.f9 (.node 7 Try.f7 (.node 4 Try.f4 (.node 3 Try.f3 .leaf .leaf) .leaf) (.node 8 Try.f8 .leaf .leaf)) (.node 12 Try.f12 (.node 10 Try.f10 .leaf .leaf) (.node 14 Try.f14 .leaf .leaf))) (.node 28 Try.f28 (.node 18 Try.f18 (.node 17 Try.f17 (.node 16 Try.f16 .leaf .leaf) .leaf) (.node 27 Try.f27 .leaf .leaf)) (.node 30 Try.f30 (.node 29 Try.f29 .leaf .leaf) (.node 31 Try.f31 .leaf .leaf)))) (.node 41 Try.f41 (.node 37 Try.f37 (.node 35 Try.f35 (.node 34 Try.f34 (.node 33 Try.f33 .leaf .leaf) .leaf) (.node 36 Try.f36 .leaf .leaf)) (.node 39 Try.f39 (.node 38 Try.f38 .leaf .leaf) (.node 40 Try.f40 .leaf .leaf))) (.node 53 Try.f53 (.node 51 Try.f51 (.node 50 Try.f50 .leaf .leaf) (.node 52 Try.f52 .leaf .leaf)) (.node 55 Try.f55 (.node 54 Try.f54 .leaf .leaf) (.node 56 Try.f56 .leaf .leaf))))) (.node 78 Try.f78 (.node 66 Try.f66 (.node 62 Try.f62 (.node 60 Try.f60 (.node 59 Try.f59 (.node 58 Try.f58 .leaf .leaf) .leaf) (.node 61 Try.f61 .leaf .leaf)) (.node 64 Try.f64 (.node 63 Try.f63 .leaf .leaf) (.node 65 Try.f65 .leaf .leaf))) (.node 71 Try.f71 (.node 69 Try.f69 (.node 68 Try.f68 (.node 67 Try.f67 .leaf .leaf) .leaf) (.node 70 Try.f70 .leaf .leaf)) (.node 76 Try.f76 (.node 75 Try.f75 .leaf .leaf) (.node 77 Try.f77 .leaf .leaf)))) (.node 93 Try.f93 (.node 89 Try.f89 (.node 81 Try.f81 (.node 80 Try.f80 (.node 79 Try.f79 .leaf .leaf) .leaf) (.node 82 Try.f82 .leaf .leaf)) (.node 91 Try.f91 (.node 90 Try.f90 .leaf .leaf) (.node 92 Try.f92 .leaf .leaf))) (.node 97 Try.f97 (.node 95 Try.f95 (.node 94 Try.f94 .leaf .leaf) (.node 96 Try.f96 .leaf .leaf)) (.node 100 Try.f100 (.node 98 Try.f98 .leaf .leaf) (.node 101 Try.f101 .leaf .leaf))))))
noncomputable def env : Env := mkEnv tys fns
theorem env_ok : EnvOk Try.prog env := mkEnv_ok (T := tys) (F := fns) ⟨t81_ok, ⟨t47_ok, ⟨t25_ok, ⟨t9_ok, ⟨t4_ok, ⟨t3_ok, trivial, trivial⟩, ⟨t5_ok, trivial, trivial⟩⟩, ⟨t23_ok, ⟨t22_ok, trivial, trivial⟩, ⟨t24_ok, trivial, trivial⟩⟩⟩, ⟨t33_ok, ⟨t31_ok, ⟨t26_ok, trivial, trivial⟩, ⟨t32_ok, trivial, trivial⟩⟩, ⟨t46_ok, ⟨t45_ok, trivial, trivial⟩, trivial⟩⟩⟩, ⟨t59_ok, ⟨t53_ok, ⟨t49_ok, ⟨t48_ok, trivial, trivial⟩, ⟨t50_ok, trivial, trivial⟩⟩, ⟨t57_ok, ⟨t56_ok, trivial, trivial⟩, ⟨t58_ok, trivial, trivial⟩⟩⟩, ⟨t66_ok, ⟨t64_ok, ⟨t60_ok, trivial, trivial⟩, ⟨t65_ok, trivial, trivial⟩⟩, ⟨t78_ok, ⟨t67_ok, trivial, trivial⟩, trivial⟩⟩⟩⟩, ⟨t122_ok, ⟨t91_ok, ⟨t86_ok, ⟨t84_ok, ⟨t82_ok, trivial, trivial⟩, ⟨t85_ok, trivial, trivial⟩⟩, ⟨t89_ok, ⟨t87_ok, trivial, trivial⟩, ⟨t90_ok, trivial, trivial⟩⟩⟩, ⟨t116_ok, ⟨t114_ok, ⟨t94_ok, trivial, trivial⟩, ⟨t115_ok, trivial, trivial⟩⟩, ⟨t120_ok, ⟨t117_ok, trivial, trivial⟩, trivial⟩⟩⟩, ⟨t140_ok, ⟨t131_ok, ⟨t126_ok, ⟨t125_ok, trivial, trivial⟩, ⟨t130_ok, trivial, trivial⟩⟩, ⟨t139_ok, ⟨t138_ok, trivial, trivial⟩, trivial⟩⟩, ⟨t145_ok, ⟨t143_ok, ⟨t142_ok, trivial, trivial⟩, ⟨t144_ok, trivial, trivial⟩⟩, ⟨t163_ok, ⟨t162_ok, trivial, trivial⟩, trivial⟩⟩⟩⟩⟩ ⟨f57_ok, ⟨f32_ok, ⟨f15_ok, ⟨f9_ok, ⟨f7_ok, ⟨f4_ok, ⟨f3_ok, trivial, trivial⟩, trivial⟩, ⟨f8_ok, trivial, trivial⟩⟩, ⟨f12_ok, ⟨f10_ok, trivial, trivial⟩, ⟨f14_ok, trivial, trivial⟩⟩⟩, ⟨f28_ok, ⟨f18_ok, ⟨f17_ok, ⟨f16_ok, trivial, trivial⟩, trivial⟩, ⟨f27_ok, trivial, trivial⟩⟩, ⟨f30_ok, ⟨f29_ok, trivial, trivial⟩, ⟨f31_ok, trivial, trivial⟩⟩⟩⟩, ⟨f41_ok, ⟨f37_ok, ⟨f35_ok, ⟨f34_ok, ⟨f33_ok, trivial, trivial⟩, trivial⟩, ⟨f36_ok, trivial, trivial⟩⟩, ⟨f39_ok, ⟨f38_ok, trivial, trivial⟩, ⟨f40_ok, trivial, trivial⟩⟩⟩, ⟨f53_ok, ⟨f51_ok, ⟨f50_ok, trivial, trivial⟩, ⟨f52_ok, trivial, trivial⟩⟩, ⟨f55_ok, ⟨f54_ok, trivial, trivial⟩, ⟨f56_ok, trivial, trivial⟩⟩⟩⟩⟩, ⟨f78_ok, ⟨f66_ok, ⟨f62_ok, ⟨f60_ok, ⟨f59_ok, ⟨f58_ok, trivial, trivial⟩, trivial⟩, ⟨f61_ok, trivial, trivial⟩⟩, ⟨f64_ok, ⟨f63_ok, trivial, trivial⟩, ⟨f65_ok, trivial, trivial⟩⟩⟩, ⟨f71_ok, ⟨f69_ok, ⟨f68_ok, ⟨f67_ok, trivial, trivial⟩, trivial⟩, ⟨f70_ok, trivial, trivial⟩⟩, ⟨f76_ok, ⟨f75_ok, trivial, trivial⟩, ⟨f77_ok, trivial, trivial⟩⟩⟩⟩, ⟨f93_ok, ⟨f89_ok, ⟨f81_ok, ⟨f80_ok, ⟨f79_ok, trivial, trivial⟩, trivial⟩, ⟨f82_ok, trivial, trivial⟩⟩, ⟨f91_ok, ⟨f90_ok, trivial, trivial⟩, ⟨f92_ok, trivial, trivial⟩⟩⟩, ⟨f97_ok, ⟨f95_ok, ⟨f94_ok, trivial, trivial⟩, ⟨f96_ok, trivial, trivial⟩⟩, ⟨f100_ok, ⟨f98_ok, trivial, trivial⟩, ⟨f101_ok, trivial, trivial⟩⟩⟩⟩⟩⟩ (by kernel_rfl)
instance : Plain env := ⟨fun _ _ _ => rfl⟩
end Go.Proofs.Ytnjknabighmedaa.Vt
