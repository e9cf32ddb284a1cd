/- Part 3 of the texts that prove AuthSigns: the abstract machine, its calculus, and walks through functions; joined by a program of this workplace. -/
import Derived.Test.YtdnkhdkflemkeaaZAuthSigns2
import Derived.Test.YtdnkhdkflemkeaaProg
/- The tables of types and functions, for the abstract machine. -/
namespace Go.Proofs.Ytdnkhdkflemkeaa.Vt
open Go Go.Proofs Go.Proofs.YtdnkhdkflemkeaaV
set_option maxRecDepth 100000
set_option linter.unusedVariables false
def t3 : TI := ⟨.int .i64, .int .i64 0, 1, 8, false⟩
theorem t3_ok : TyOk Try.prog 3 t3 := TyOk.mk' Try.underlying3 (by kernel_rfl) (by kernel_rfl) (.inl rfl)
def t4 : TI := ⟨.bool, .bool false, 1, 1, false⟩
theorem t4_ok : TyOk Try.prog 4 t4 := TyOk.mk' Try.underlying4 (by kernel_rfl) (by kernel_rfl) (.inl rfl)
def t5 : TI := ⟨.int .u8, .int .u8 0, 1, 1, false⟩
theorem t5_ok : TyOk Try.prog 5 t5 := TyOk.mk' Try.underlying5 (by kernel_rfl) (by kernel_rfl) (.inl rfl)
def t9 : TI := ⟨.string, .string ⟨#[]⟩, 1, 16, false⟩
theorem t9_ok : TyOk Try.prog 9 t9 := TyOk.mk' Try.underlying9 (by kernel_rfl) (by kernel_rfl) (.inl rfl)
def t25 : TI := ⟨.slice 5, .slice none 0 0, 1, 24, false⟩
theorem t25_ok : TyOk Try.prog 25 t25 := TyOk.mk' Try.underlying25 (by kernel_rfl) (by kernel_rfl) (.inl rfl)
def t30 : TI := ⟨.array 2 5, .agg #[.int .u8 0, .int .u8 0], 2, 2, false⟩
theorem t30_ok : TyOk Try.prog 30 t30 := TyOk.mk' Try.underlying30 (by kernel_rfl) (by kernel_rfl) (.inl rfl)
def t32 : TI := ⟨.int .u32, .int .u32 0, 1, 4, false⟩
theorem t32_ok : TyOk Try.prog 32 t32 := TyOk.mk' Try.underlying32 (by kernel_rfl) (by kernel_rfl) (.inl rfl)
def t33 : TI := ⟨.int .u32, .int .u32 0, 1, 4, false⟩
theorem t33_ok : TyOk Try.prog 33 t33 := TyOk.mk' Try.underlying33 (by kernel_rfl) (by kernel_rfl) (.inl rfl)
def t34 : TI := ⟨.struct #[{ name := "Made", type := 3, offset := 0, embedded := false, tag := "", pkgPath := "", byteOffset := 0 }, { name := "Mine", type := 32, offset := 1, embedded := false, tag := "", pkgPath := "", byteOffset := 8 }, { name := "Yours", type := 32, offset := 2, embedded := false, tag := "", pkgPath := "", byteOffset := 12 }, { name := "MyTsn", type := 32, offset := 3, embedded := false, tag := "", pkgPath := "", byteOffset := 16 }, { name := "YourTsn", type := 32, offset := 4, embedded := false, tag := "", pkgPath := "", byteOffset := 20 }, { name := "Peer", type := 33, offset := 5, embedded := false, tag := "", pkgPath := "", byteOffset := 24 }, { name := "Local", type := 33, offset := 6, embedded := false, tag := "", pkgPath := "", byteOffset := 28 }, { name := "PeerPort", type := 3, offset := 7, embedded := false, tag := "", pkgPath := "", byteOffset := 32 }, { name := "MyPort", type := 3, offset := 8, embedded := false, tag := "", pkgPath := "", byteOffset := 40 }, { name := "Rwnd", type := 32, offset := 9, embedded := false, tag := "", pkgPath := "", byteOffset := 48 }, { name := "Out", type := 3, offset := 10, embedded := false, tag := "", pkgPath := "", byteOffset := 56 }, { name := "In", type := 3, offset := 11, embedded := false, tag := "", pkgPath := "", byteOffset := 64 }, { name := "TieMine", type := 32, offset := 12, embedded := false, tag := "", pkgPath := "", byteOffset := 72 }, { name := "TieYours", type := 32, offset := 13, embedded := false, tag := "", pkgPath := "", byteOffset := 76 }, { name := "MyRandom", type := 9, offset := 14, embedded := false, tag := "", pkgPath := "", byteOffset := 80 }, { name := "Random", type := 9, offset := 15, embedded := false, tag := "", pkgPath := "", byteOffset := 96 }], .agg #[.int .i64 0, .int .u32 0, .int .u32 0, .int .u32 0, .int .u32 0, .int .u32 0, .int .u32 0, .int .i64 0, .int .i64 0, .int .u32 0, .int .i64 0, .int .i64 0, .int .u32 0, .int .u32 0, .string ⟨#[]⟩, .string ⟨#[]⟩], 16, 112, true⟩
theorem t34_ok : TyOk Try.prog 34 t34 := TyOk.mk' Try.underlying34 (by kernel_rfl) (by kernel_rfl) (.inr ⟨by kernel_rfl, by kernel_rfl⟩)
def t35 : TI := ⟨.struct #[{ name := "Made", type := 3, offset := 0, embedded := false, tag := "", pkgPath := "", byteOffset := 0 }, { name := "Mine", type := 32, offset := 1, embedded := false, tag := "", pkgPath := "", byteOffset := 8 }, { name := "Yours", type := 32, offset := 2, embedded := false, tag := "", pkgPath := "", byteOffset := 12 }, { name := "MyTsn", type := 32, offset := 3, embedded := false, tag := "", pkgPath := "", byteOffset := 16 }, { name := "YourTsn", type := 32, offset := 4, embedded := false, tag := "", pkgPath := "", byteOffset := 20 }, { name := "Peer", type := 33, offset := 5, embedded := false, tag := "", pkgPath := "", byteOffset := 24 }, { name := "Local", type := 33, offset := 6, embedded := false, tag := "", pkgPath := "", byteOffset := 28 }, { name := "PeerPort", type := 3, offset := 7, embedded := false, tag := "", pkgPath := "", byteOffset := 32 }, { name := "MyPort", type := 3, offset := 8, embedded := false, tag := "", pkgPath := "", byteOffset := 40 }, { name := "Rwnd", type := 32, offset := 9, embedded := false, tag := "", pkgPath := "", byteOffset := 48 }, { name := "Out", type := 3, offset := 10, embedded := false, tag := "", pkgPath := "", byteOffset := 56 }, { name := "In", type := 3, offset := 11, embedded := false, tag := "", pkgPath := "", byteOffset := 64 }, { name := "TieMine", type := 32, offset := 12, embedded := false, tag := "", pkgPath := "", byteOffset := 72 }, { name := "TieYours", type := 32, offset := 13, embedded := false, tag := "", pkgPath := "", byteOffset := 76 }, { name := "MyRandom", type := 9, offset := 14, embedded := false, tag := "", pkgPath := "", byteOffset := 80 }, { name := "Random", type := 9, offset := 15, embedded := false, tag := "", pkgPath := "", byteOffset := 96 }], .agg #[.int .i64 0, .int .u32 0, .int .u32 0, .int .u32 0, .int .u32 0, .int .u32 0, .int .u32 0, .int .i64 0, .int .i64 0, .int .u32 0, .int .i64 0, .int .i64 0, .int .u32 0, .int .u32 0, .string ⟨#[]⟩, .string ⟨#[]⟩], 16, 112, true⟩
theorem t35_ok : TyOk Try.prog 35 t35 := TyOk.mk' Try.underlying35 (by kernel_rfl) (by kernel_rfl) (.inr ⟨by kernel_rfl, by kernel_rfl⟩)
def t39 : TI := ⟨.int .i64, .int .i64 0, 1, 8, false⟩
theorem t39_ok : TyOk Try.prog 39 t39 := TyOk.mk' Try.underlying39 (by kernel_rfl) (by kernel_rfl) (.inl rfl)
def t45 : TI := ⟨.slice 54, .slice none 0 0, 1, 24, false⟩
theorem t45_ok : TyOk Try.prog 45 t45 := TyOk.mk' Try.underlying45 (by kernel_rfl) (by kernel_rfl) (.inl rfl)
def t49 : TI := ⟨.slice 96, .slice none 0 0, 1, 24, false⟩
theorem t49_ok : TyOk Try.prog 49 t49 := TyOk.mk' Try.underlying49 (by kernel_rfl) (by kernel_rfl) (.inl rfl)
def t50 : TI := ⟨.slice 98, .slice none 0 0, 1, 24, false⟩
theorem t50_ok : TyOk Try.prog 50 t50 := TyOk.mk' Try.underlying50 (by kernel_rfl) (by kernel_rfl) (.inl rfl)
def t51 : TI := ⟨.slice 101, .slice none 0 0, 1, 24, false⟩
theorem t51_ok : TyOk Try.prog 51 t51 := TyOk.mk' Try.underlying51 (by kernel_rfl) (by kernel_rfl) (.inl rfl)
def t52 : TI := ⟨.slice 32, .slice none 0 0, 1, 24, false⟩
theorem t52_ok : TyOk Try.prog 52 t52 := TyOk.mk' Try.underlying52 (by kernel_rfl) (by kernel_rfl) (.inl rfl)
def t53 : TI := ⟨.struct #[{ name := "Type", type := 3, offset := 0, embedded := false, tag := "", pkgPath := "", byteOffset := 0 }, { name := "Flags", type := 3, offset := 1, embedded := false, tag := "", pkgPath := "", byteOffset := 8 }, { name := "Tsn", type := 32, offset := 2, embedded := false, tag := "", pkgPath := "", byteOffset := 16 }, { name := "Stream", type := 3, offset := 3, embedded := false, tag := "", pkgPath := "", byteOffset := 24 }, { name := "Ssn", type := 3, offset := 4, embedded := false, tag := "", pkgPath := "", byteOffset := 32 }, { name := "Proto", type := 32, offset := 5, embedded := false, tag := "", pkgPath := "", byteOffset := 40 }, { name := "Data", type := 9, offset := 6, embedded := false, tag := "", pkgPath := "", byteOffset := 48 }, { name := "Tag", type := 32, offset := 7, embedded := false, tag := "", pkgPath := "", byteOffset := 64 }, { name := "Rwnd", type := 32, offset := 8, embedded := false, tag := "", pkgPath := "", byteOffset := 68 }, { name := "Out", type := 3, offset := 9, embedded := false, tag := "", pkgPath := "", byteOffset := 72 }, { name := "In", type := 3, offset := 10, embedded := false, tag := "", pkgPath := "", byteOffset := 80 }, { name := "Params", type := 49, offset := 11, embedded := false, tag := "", pkgPath := "", byteOffset := 88 }, { name := "Causes", type := 50, offset := 12, embedded := false, tag := "", pkgPath := "", byteOffset := 112 }, { name := "Gaps", type := 51, offset := 13, embedded := false, tag := "", pkgPath := "", byteOffset := 136 }, { name := "Dups", type := 52, offset := 14, embedded := false, tag := "", pkgPath := "", byteOffset := 160 }], .agg #[.int .i64 0, .int .i64 0, .int .u32 0, .int .i64 0, .int .i64 0, .int .u32 0, .string ⟨#[]⟩, .int .u32 0, .int .u32 0, .int .i64 0, .int .i64 0, .slice none 0 0, .slice none 0 0, .slice none 0 0, .slice none 0 0], 15, 184, false⟩
theorem t53_ok : TyOk Try.prog 53 t53 := TyOk.mk' Try.underlying53 (by kernel_rfl) (by kernel_rfl) (.inl rfl)
def t54 : TI := ⟨.struct #[{ name := "Type", type := 3, offset := 0, embedded := false, tag := "", pkgPath := "", byteOffset := 0 }, { name := "Flags", type := 3, offset := 1, embedded := false, tag := "", pkgPath := "", byteOffset := 8 }, { name := "Tsn", type := 32, offset := 2, embedded := false, tag := "", pkgPath := "", byteOffset := 16 }, { name := "Stream", type := 3, offset := 3, embedded := false, tag := "", pkgPath := "", byteOffset := 24 }, { name := "Ssn", type := 3, offset := 4, embedded := false, tag := "", pkgPath := "", byteOffset := 32 }, { name := "Proto", type := 32, offset := 5, embedded := false, tag := "", pkgPath := "", byteOffset := 40 }, { name := "Data", type := 9, offset := 6, embedded := false, tag := "", pkgPath := "", byteOffset := 48 }, { name := "Tag", type := 32, offset := 7, embedded := false, tag := "", pkgPath := "", byteOffset := 64 }, { name := "Rwnd", type := 32, offset := 8, embedded := false, tag := "", pkgPath := "", byteOffset := 68 }, { name := "Out", type := 3, offset := 9, embedded := false, tag := "", pkgPath := "", byteOffset := 72 }, { name := "In", type := 3, offset := 10, embedded := false, tag := "", pkgPath := "", byteOffset := 80 }, { name := "Params", type := 49, offset := 11, embedded := false, tag := "", pkgPath := "", byteOffset := 88 }, { name := "Causes", type := 50, offset := 12, embedded := false, tag := "", pkgPath := "", byteOffset := 112 }, { name := "Gaps", type := 51, offset := 13, embedded := false, tag := "", pkgPath := "", byteOffset := 136 }, { name := "Dups", type := 52, offset := 14, embedded := false, tag := "", pkgPath := "", byteOffset := 160 }], .agg #[.int .i64 0, .int .i64 0, .int .u32 0, .int .i64 0, .int .i64 0, .int .u32 0, .string ⟨#[]⟩, .int .u32 0, .int .u32 0, .int .i64 0, .int .i64 0, .slice none 0 0, .slice none 0 0, .slice none 0 0, .slice none 0 0], 15, 184, false⟩
theorem t54_ok : TyOk Try.prog 54 t54 := TyOk.mk' Try.underlying54 (by kernel_rfl) (by kernel_rfl) (.inl rfl)
def t57 : TI := ⟨.slice 4, .slice none 0 0, 1, 24, false⟩
theorem t57_ok : TyOk Try.prog 57 t57 := TyOk.mk' Try.underlying57 (by kernel_rfl) (by kernel_rfl) (.inl rfl)
def t59 : TI := ⟨.array 5 32, .agg #[.int .u32 0, .int .u32 0, .int .u32 0, .int .u32 0, .int .u32 0], 5, 20, false⟩
theorem t59_ok : TyOk Try.prog 59 t59 := TyOk.mk' Try.underlying59 (by kernel_rfl) (by kernel_rfl) (.inl rfl)
def t60 : TI := ⟨.array 5 32, .agg #[.int .u32 0, .int .u32 0, .int .u32 0, .int .u32 0, .int .u32 0], 5, 20, false⟩
theorem t60_ok : TyOk Try.prog 60 t60 := TyOk.mk' Try.underlying60 (by kernel_rfl) (by kernel_rfl) (.inl rfl)
def t63 : TI := ⟨.int .u64, .int .u64 0, 1, 8, false⟩
theorem t63_ok : TyOk Try.prog 63 t63 := TyOk.mk' Try.underlying63 (by kernel_rfl) (by kernel_rfl) (.inl rfl)
def t78 : TI := ⟨.int .u64, .int .u64 0, 1, 8, false⟩
theorem t78_ok : TyOk Try.prog 78 t78 := TyOk.mk' Try.underlying78 (by kernel_rfl) (by kernel_rfl) (.inl rfl)
def t79 : TI := ⟨.array 80 32, .agg #[.int .u32 0, .int .u32 0, .int .u32 0, .int .u32 0, .int .u32 0, .int .u32 0, .int .u32 0, .int .u32 0, .int .u32 0, .int .u32 0, .int .u32 0, .int .u32 0, .int .u32 0, .int .u32 0, .int .u32 0, .int .u32 0, .int .u32 0, .int .u32 0, .int .u32 0, .int .u32 0, .int .u32 0, .int .u32 0, .int .u32 0, .int .u32 0, .int .u32 0, .int .u32 0, .int .u32 0, .int .u32 0, .int .u32 0, .int .u32 0, .int .u32 0, .int .u32 0, .int .u32 0, .int .u32 0, .int .u32 0, .int .u32 0, .int .u32 0, .int .u32 0, .int .u32 0, .int .u32 0, .int .u32 0, .int .u32 0, .int .u32 0, .int .u32 0, .int .u32 0, .int .u32 0, .int .u32 0, .int .u32 0, .int .u32 0, .int .u32 0, .int .u32 0, .int .u32 0, .int .u32 0, .int .u32 0, .int .u32 0, .int .u32 0, .int .u32 0, .int .u32 0, .int .u32 0, .int .u32 0, .int .u32 0, .int .u32 0, .int .u32 0, .int .u32 0, .int .u32 0, .int .u32 0, .int .u32 0, .int .u32 0, .int .u32 0, .int .u32 0, .int .u32 0, .int .u32 0, .int .u32 0, .int .u32 0, .int .u32 0, .int .u32 0, .int .u32 0, .int .u32 0, .int .u32 0, .int .u32 0], 80, 320, false⟩
theorem t79_ok : TyOk Try.prog 79 t79 := TyOk.mk' Try.underlying79 (by kernel_rfl) (by kernel_rfl) (.inl rfl)
def t84 : TI := ⟨.struct #[{ name := "S", type := 9, offset := 0, embedded := false, tag := "", pkgPath := "", byteOffset := 0 }, { name := "Err", type := 3, offset := 1, embedded := false, tag := "", pkgPath := "", byteOffset := 16 }], .agg #[.string ⟨#[]⟩, .int .i64 0], 2, 24, false⟩
theorem t84_ok : TyOk Try.prog 84 t84 := TyOk.mk' Try.underlying84 (by kernel_rfl) (by kernel_rfl) (.inl rfl)
def t85 : TI := ⟨.struct #[{ name := "S", type := 9, offset := 0, embedded := false, tag := "", pkgPath := "", byteOffset := 0 }, { name := "Err", type := 3, offset := 1, embedded := false, tag := "", pkgPath := "", byteOffset := 16 }], .agg #[.string ⟨#[]⟩, .int .i64 0], 2, 24, false⟩
theorem t85_ok : TyOk Try.prog 85 t85 := TyOk.mk' Try.underlying85 (by kernel_rfl) (by kernel_rfl) (.inl rfl)
def t89 : TI := ⟨.pointer 106, .pointer none, 1, 8, false⟩
theorem t89_ok : TyOk Try.prog 89 t89 := TyOk.mk' Try.underlying89 (by kernel_rfl) (by kernel_rfl) (.inl rfl)
def t95 : TI := ⟨.struct #[{ name := "Type", type := 3, offset := 0, embedded := false, tag := "", pkgPath := "", byteOffset := 0 }, { name := "Value", type := 9, offset := 1, embedded := false, tag := "", pkgPath := "", byteOffset := 8 }], .agg #[.int .i64 0, .string ⟨#[]⟩], 2, 24, true⟩
theorem t95_ok : TyOk Try.prog 95 t95 := TyOk.mk' Try.underlying95 (by kernel_rfl) (by kernel_rfl) (.inr ⟨by kernel_rfl, by kernel_rfl⟩)
def t96 : TI := ⟨.struct #[{ name := "Type", type := 3, offset := 0, embedded := false, tag := "", pkgPath := "", byteOffset := 0 }, { name := "Value", type := 9, offset := 1, embedded := false, tag := "", pkgPath := "", byteOffset := 8 }], .agg #[.int .i64 0, .string ⟨#[]⟩], 2, 24, true⟩
theorem t96_ok : TyOk Try.prog 96 t96 := TyOk.mk' Try.underlying96 (by kernel_rfl) (by kernel_rfl) (.inr ⟨by kernel_rfl, by kernel_rfl⟩)
def t97 : TI := ⟨.struct #[{ name := "Code", type := 3, offset := 0, embedded := false, tag := "", pkgPath := "", byteOffset := 0 }, { name := "Info", type := 9, offset := 1, embedded := false, tag := "", pkgPath := "", byteOffset := 8 }], .agg #[.int .i64 0, .string ⟨#[]⟩], 2, 24, true⟩
theorem t97_ok : TyOk Try.prog 97 t97 := TyOk.mk' Try.underlying97 (by kernel_rfl) (by kernel_rfl) (.inr ⟨by kernel_rfl, by kernel_rfl⟩)
def t98 : TI := ⟨.struct #[{ name := "Code", type := 3, offset := 0, embedded := false, tag := "", pkgPath := "", byteOffset := 0 }, { name := "Info", type := 9, offset := 1, embedded := false, tag := "", pkgPath := "", byteOffset := 8 }], .agg #[.int .i64 0, .string ⟨#[]⟩], 2, 24, true⟩
theorem t98_ok : TyOk Try.prog 98 t98 := TyOk.mk' Try.underlying98 (by kernel_rfl) (by kernel_rfl) (.inr ⟨by kernel_rfl, by kernel_rfl⟩)
def t100 : TI := ⟨.struct #[{ name := "From", type := 3, offset := 0, embedded := false, tag := "", pkgPath := "", byteOffset := 0 }, { name := "To", type := 3, offset := 1, embedded := false, tag := "", pkgPath := "", byteOffset := 8 }], .agg #[.int .i64 0, .int .i64 0], 2, 16, true⟩
theorem t100_ok : TyOk Try.prog 100 t100 := TyOk.mk' Try.underlying100 (by kernel_rfl) (by kernel_rfl) (.inr ⟨by kernel_rfl, by kernel_rfl⟩)
def t101 : TI := ⟨.struct #[{ name := "From", type := 3, offset := 0, embedded := false, tag := "", pkgPath := "", byteOffset := 0 }, { name := "To", type := 3, offset := 1, embedded := false, tag := "", pkgPath := "", byteOffset := 8 }], .agg #[.int .i64 0, .int .i64 0], 2, 16, true⟩
theorem t101_ok : TyOk Try.prog 101 t101 := TyOk.mk' Try.underlying101 (by kernel_rfl) (by kernel_rfl) (.inr ⟨by kernel_rfl, by kernel_rfl⟩)
def t105 : TI := ⟨.struct #[{ name := "s", type := 9, offset := 0, embedded := false, tag := "", pkgPath := "crossway/octet", byteOffset := 0 }, { name := "err", type := 39, offset := 1, embedded := false, tag := "", pkgPath := "crossway/octet", byteOffset := 16 }], .agg #[.string ⟨#[]⟩, .int .i64 0], 2, 24, false⟩
theorem t105_ok : TyOk Try.prog 105 t105 := TyOk.mk' Try.underlying105 (by kernel_rfl) (by kernel_rfl) (.inl rfl)
def t106 : TI := ⟨.struct #[{ name := "s", type := 9, offset := 0, embedded := false, tag := "", pkgPath := "crossway/octet", byteOffset := 0 }, { name := "err", type := 39, offset := 1, embedded := false, tag := "", pkgPath := "crossway/octet", byteOffset := 16 }], .agg #[.string ⟨#[]⟩, .int .i64 0], 2, 24, false⟩
theorem t106_ok : TyOk Try.prog 106 t106 := TyOk.mk' Try.underlying106 (by kernel_rfl) (by kernel_rfl) (.inl rfl)
def t111 : TI := ⟨.slice 115, .slice none 0 0, 1, 24, false⟩
theorem t111_ok : TyOk Try.prog 111 t111 := TyOk.mk' Try.underlying111 (by kernel_rfl) (by kernel_rfl) (.inl rfl)
def t115 : TI := ⟨.struct #[{ name := "Type", type := 3, offset := 0, embedded := false, tag := "", pkgPath := "", byteOffset := 0 }, { name := "Value", type := 9, offset := 1, embedded := false, tag := "", pkgPath := "", byteOffset := 8 }], .agg #[.int .i64 0, .string ⟨#[]⟩], 2, 24, false⟩
theorem t115_ok : TyOk Try.prog 115 t115 := TyOk.mk' Try.underlying115 (by kernel_rfl) (by kernel_rfl) (.inl rfl)
theorem f3_ok : FnOk Try.prog 3 Try.f3 := ⟨Try.func3, by kernel_rfl⟩
theorem f4_ok : FnOk Try.prog 4 Try.f4 := ⟨Try.func4, by kernel_rfl⟩
theorem f5_ok : FnOk Try.prog 5 Try.f5 := ⟨Try.func5, by kernel_rfl⟩
theorem f6_ok : FnOk Try.prog 6 Try.f6 := ⟨Try.func6, by kernel_rfl⟩
theorem f7_ok : FnOk Try.prog 7 Try.f7 := ⟨Try.func7, by kernel_rfl⟩
theorem f8_ok : FnOk Try.prog 8 Try.f8 := ⟨Try.func8, by kernel_rfl⟩
theorem f9_ok : FnOk Try.prog 9 Try.f9 := ⟨Try.func9, by kernel_rfl⟩
theorem f10_ok : FnOk Try.prog 10 Try.f10 := ⟨Try.func10, by kernel_rfl⟩
theorem f11_ok : FnOk Try.prog 11 Try.f11 := ⟨Try.func11, by kernel_rfl⟩
theorem f12_ok : FnOk Try.prog 12 Try.f12 := ⟨Try.func12, by kernel_rfl⟩
theorem f13_ok : FnOk Try.prog 13 Try.f13 := ⟨Try.func13, by kernel_rfl⟩
theorem f14_ok : FnOk Try.prog 14 Try.f14 := ⟨Try.func14, by kernel_rfl⟩
theorem f15_ok : FnOk Try.prog 15 Try.f15 := ⟨Try.func15, by kernel_rfl⟩
theorem f16_ok : FnOk Try.prog 16 Try.f16 := ⟨Try.func16, by kernel_rfl⟩
theorem f17_ok : FnOk Try.prog 17 Try.f17 := ⟨Try.func17, by kernel_rfl⟩
theorem f18_ok : FnOk Try.prog 18 Try.f18 := ⟨Try.func18, by kernel_rfl⟩
theorem f19_ok : FnOk Try.prog 19 Try.f19 := ⟨Try.func19, by kernel_rfl⟩
theorem f20_ok : FnOk Try.prog 20 Try.f20 := ⟨Try.func20, by kernel_rfl⟩
theorem f21_ok : FnOk Try.prog 21 Try.f21 := ⟨Try.func21, by kernel_rfl⟩
theorem f22_ok : FnOk Try.prog 22 Try.f22 := ⟨Try.func22, by kernel_rfl⟩
theorem f23_ok : FnOk Try.prog 23 Try.f23 := ⟨Try.func23, by kernel_rfl⟩
theorem f24_ok : FnOk Try.prog 24 Try.f24 := ⟨Try.func24, by kernel_rfl⟩
theorem f25_ok : FnOk Try.prog 25 Try.f25 := ⟨Try.func25, by kernel_rfl⟩
theorem f26_ok : FnOk Try.prog 26 Try.f26 := ⟨Try.func26, by kernel_rfl⟩
theorem f27_ok : FnOk Try.prog 27 Try.f27 := ⟨Try.func27, by kernel_rfl⟩
theorem f28_ok : FnOk Try.prog 28 Try.f28 := ⟨Try.func28, by kernel_rfl⟩
theorem f29_ok : FnOk Try.prog 29 Try.f29 := ⟨Try.func29, by kernel_rfl⟩
theorem f30_ok : FnOk Try.prog 30 Try.f30 := ⟨Try.func30, by kernel_rfl⟩
theorem f31_ok : FnOk Try.prog 31 Try.f31 := ⟨Try.func31, by kernel_rfl⟩
theorem f32_ok : FnOk Try.prog 32 Try.f32 := ⟨Try.func32, by kernel_rfl⟩
theorem f33_ok : FnOk Try.prog 33 Try.f33 := ⟨Try.func33, by kernel_rfl⟩
theorem f34_ok : FnOk Try.prog 34 Try.f34 := ⟨Try.func34, by kernel_rfl⟩
theorem f35_ok : FnOk Try.prog 35 Try.f35 := ⟨Try.func35, by kernel_rfl⟩
theorem f36_ok : FnOk Try.prog 36 Try.f36 := ⟨Try.func36, by kernel_rfl⟩
theorem f37_ok : FnOk Try.prog 37 Try.f37 := ⟨Try.func37, by kernel_rfl⟩
theorem f38_ok : FnOk Try.prog 38 Try.f38 := ⟨Try.func38, by kernel_rfl⟩
theorem f39_ok : FnOk Try.prog 39 Try.f39 := ⟨Try.func39, by kernel_rfl⟩
theorem f40_ok : FnOk Try.prog 40 Try.f40 := ⟨Try.func40, by kernel_rfl⟩
theorem f41_ok : FnOk Try.prog 41 Try.f41 := ⟨Try.func41, by kernel_rfl⟩
theorem f42_ok : FnOk Try.prog 42 Try.f42 := ⟨Try.func42, by kernel_rfl⟩
theorem f43_ok : FnOk Try.prog 43 Try.f43 := ⟨Try.func43, by kernel_rfl⟩
theorem f44_ok : FnOk Try.prog 44 Try.f44 := ⟨Try.func44, by kernel_rfl⟩
theorem f45_ok : FnOk Try.prog 45 Try.f45 := ⟨Try.func45, by kernel_rfl⟩
theorem f46_ok : FnOk Try.prog 46 Try.f46 := ⟨Try.func46, by kernel_rfl⟩
theorem f47_ok : FnOk Try.prog 47 Try.f47 := ⟨Try.func47, by kernel_rfl⟩
theorem f48_ok : FnOk Try.prog 48 Try.f48 := ⟨Try.func48, by kernel_rfl⟩
theorem f49_ok : FnOk Try.prog 49 Try.f49 := ⟨Try.func49, by kernel_rfl⟩
theorem f50_ok : FnOk Try.prog 50 Try.f50 := ⟨Try.func50, by kernel_rfl⟩
theorem f51_ok : FnOk Try.prog 51 Try.f51 := ⟨Try.func51, by kernel_rfl⟩
theorem f52_ok : FnOk Try.prog 52 Try.f52 := ⟨Try.func52, by kernel_rfl⟩
theorem f53_ok : FnOk Try.prog 53 Try.f53 := ⟨Try.func53, by kernel_rfl⟩
theorem f54_ok : FnOk Try.prog 54 Try.f54 := ⟨Try.func54, by kernel_rfl⟩
theorem f55_ok : FnOk Try.prog 55 Try.f55 := ⟨Try.func55, by kernel_rfl⟩
theorem f56_ok : FnOk Try.prog 56 Try.f56 := ⟨Try.func56, by kernel_rfl⟩
theorem f57_ok : FnOk Try.prog 57 Try.f57 := ⟨Try.func57, by kernel_rfl⟩
theorem f58_ok : FnOk Try.prog 58 Try.f58 := ⟨Try.func58, by kernel_rfl⟩
theorem f59_ok : FnOk Try.prog 59 Try.f59 := ⟨Try.func59, by kernel_rfl⟩
theorem f60_ok : FnOk Try.prog 60 Try.f60 := ⟨Try.func60, by kernel_rfl⟩
theorem f61_ok : FnOk Try.prog 61 Try.f61 := ⟨Try.func61, by kernel_rfl⟩
theorem f62_ok : FnOk Try.prog 62 Try.f62 := ⟨Try.func62, by kernel_rfl⟩
theorem f63_ok : FnOk Try.prog 63 Try.f63 := ⟨Try.func63, by kernel_rfl⟩
theorem f64_ok : FnOk Try.prog 64 Try.f64 := ⟨Try.func64, by kernel_rfl⟩
theorem f65_ok : FnOk Try.prog 65 Try.f65 := ⟨Try.func65, by kernel_rfl⟩
theorem f66_ok : FnOk Try.prog 66 Try.f66 := ⟨Try.func66, by kernel_rfl⟩
theorem f67_ok : FnOk Try.prog 67 Try.f67 := ⟨Try.func67, by kernel_rfl⟩
theorem f68_ok : FnOk Try.prog 68 Try.f68 := ⟨Try.func68, by kernel_rfl⟩
theorem f69_ok : FnOk Try.prog 69 Try.f69 := ⟨Try.func69, by kernel_rfl⟩
theorem f70_ok : FnOk Try.prog 70 Try.f70 := ⟨Try.func70, by kernel_rfl⟩
theorem f71_ok : FnOk Try.prog 71 Try.f71 := ⟨Try.func71, by kernel_rfl⟩
theorem f72_ok : FnOk Try.prog 72 Try.f72 := ⟨Try.func72, by kernel_rfl⟩
theorem f73_ok : FnOk Try.prog 73 Try.f73 := ⟨Try.func73, by kernel_rfl⟩
theorem f74_ok : FnOk Try.prog 74 Try.f74 := ⟨Try.func74, by kernel_rfl⟩
theorem f75_ok : FnOk Try.prog 75 Try.f75 := ⟨Try.func75, by kernel_rfl⟩
theorem f76_ok : FnOk Try.prog 76 Try.f76 := ⟨Try.func76, by kernel_rfl⟩
theorem f77_ok : FnOk Try.prog 77 Try.f77 := ⟨Try.func77, by kernel_rfl⟩
theorem f78_ok : FnOk Try.prog 78 Try.f78 := ⟨Try.func78, by kernel_rfl⟩
theorem f79_ok : FnOk Try.prog 79 Try.f79 := ⟨Try.func79, by kernel_rfl⟩
theorem f80_ok : FnOk Try.prog 80 Try.f80 := ⟨Try.func80, by kernel_rfl⟩
theorem f81_ok : FnOk Try.prog 81 Try.f81 := ⟨Try.func81, by kernel_rfl⟩
theorem f82_ok : FnOk Try.prog 82 Try.f82 := ⟨Try.func82, by kernel_rfl⟩
theorem f83_ok : FnOk Try.prog 83 Try.f83 := ⟨Try.func83, by kernel_rfl⟩
theorem f84_ok : FnOk Try.prog 84 Try.f84 := ⟨Try.func84, by kernel_rfl⟩
theorem f85_ok : FnOk Try.prog 85 Try.f85 := ⟨Try.func85, by kernel_rfl⟩
theorem f86_ok : FnOk Try.prog 86 Try.f86 := ⟨Try.func86, by kernel_rfl⟩
theorem f87_ok : FnOk Try.prog 87 Try.f87 := ⟨Try.func87, by kernel_rfl⟩
theorem f88_ok : FnOk Try.prog 88 Try.f88 := ⟨Try.func88, by kernel_rfl⟩
theorem f89_ok : FnOk Try.prog 89 Try.f89 := ⟨Try.func89, by kernel_rfl⟩
theorem f90_ok : FnOk Try.prog 90 Try.f90 := ⟨Try.func90, by kernel_rfl⟩
theorem f91_ok : FnOk Try.prog 91 Try.f91 := ⟨Try.func91, by kernel_rfl⟩
theorem f92_ok : FnOk Try.prog 92 Try.f92 := ⟨Try.func92, by kernel_rfl⟩
theorem f93_ok : FnOk Try.prog 93 Try.f93 := ⟨Try.func93, by kernel_rfl⟩
theorem f94_ok : FnOk Try.prog 94 Try.f94 := ⟨Try.func94, by kernel_rfl⟩
theorem f95_ok : FnOk Try.prog 95 Try.f95 := ⟨Try.func95, by kernel_rfl⟩
theorem f96_ok : FnOk Try.prog 96 Try.f96 := ⟨Try.func96, by kernel_rfl⟩
theorem f97_ok : FnOk Try.prog 97 Try.f97 := ⟨Try.func97, by kernel_rfl⟩
theorem f98_ok : FnOk Try.prog 98 Try.f98 := ⟨Try.func98, by kernel_rfl⟩
theorem f99_ok : FnOk Try.prog 99 Try.f99 := ⟨Try.func99, by kernel_rfl⟩
theorem f100_ok : FnOk Try.prog 100 Try.f100 := ⟨Try.func100, by kernel_rfl⟩
theorem f101_ok : FnOk Try.prog 101 Try.f101 := ⟨Try.func101, by kernel_rfl⟩
theorem f102_ok : FnOk Try.prog 102 Try.f102 := ⟨Try.func102, by kernel_rfl⟩
theorem f103_ok : FnOk Try.prog 103 Try.f103 := ⟨Try.func103, by kernel_rfl⟩
theorem f104_ok : FnOk Try.prog 104 Try.f104 := ⟨Try.func104, by kernel_rfl⟩
theorem f105_ok : FnOk Try.prog 105 Try.f105 := ⟨Try.func105, by kernel_rfl⟩
theorem f106_ok : FnOk Try.prog 106 Try.f106 := ⟨Try.func106, by kernel_rfl⟩
def g9 : Gd := Gd.str
theorem o9 {N : Nat} {w0 w : World} (hN : N = w.heap.size) : Opn Try.prog N w0 w 9 g9 := Opn.str Try.underlying9
def g3 : Gd := Gd.int .i64
theorem o3 {N : Nat} {w0 w : World} (hN : N = w.heap.size) : Opn Try.prog N w0 w 3 g3 := Opn.int Try.underlying3
def g5 : Gd := Gd.int .u8
def g32 : Gd := Gd.int .u32
theorem o32 {N : Nat} {w0 w : World} (hN : N = w.heap.size) : Opn Try.prog N w0 w 32 g32 := Opn.int Try.underlying32
def g4 : Gd := Gd.bool
def g96 : Gd := Gd.agg [g3, g9]
theorem o96 {N : Nat} {w0 w : World} (hN : N = w.heap.size) : Opn Try.prog N w0 w 96 g96 := Opn.struct Try.underlying96 (by kernel_rfl) (show OpnAll Try.prog N w0 w [(3, 0), (9, 1)] [g3, g9] from ⟨o3 hN, o9 hN, trivial⟩)
def g49 : Gd := Gd.row 96 2 g96
theorem o49 {N : Nat} {w0 w : World} (hN : N = w.heap.size) : Opn Try.prog N w0 w 49 g49 := Opn.slice Try.underlying49 (by kernel_rfl) (by decide) (o96 hN) hN
def g98 : Gd := Gd.agg [g3, g9]
theorem o98 {N : Nat} {w0 w : World} (hN : N = w.heap.size) : Opn Try.prog N w0 w 98 g98 := Opn.struct Try.underlying98 (by kernel_rfl) (show OpnAll Try.prog N w0 w [(3, 0), (9, 1)] [g3, g9] from ⟨o3 hN, o9 hN, trivial⟩)
def g50 : Gd := Gd.row 98 2 g98
theorem o50 {N : Nat} {w0 w : World} (hN : N = w.heap.size) : Opn Try.prog N w0 w 50 g50 := Opn.slice Try.underlying50 (by kernel_rfl) (by decide) (o98 hN) hN
def g101 : Gd := Gd.agg [g3, g3]
theorem o101 {N : Nat} {w0 w : World} (hN : N = w.heap.size) : Opn Try.prog N w0 w 101 g101 := Opn.struct Try.underlying101 (by kernel_rfl) (show OpnAll Try.prog N w0 w [(3, 0), (3, 1)] [g3, g3] from ⟨o3 hN, o3 hN, trivial⟩)
def g51 : Gd := Gd.row 101 2 g101
theorem o51 {N : Nat} {w0 w : World} (hN : N = w.heap.size) : Opn Try.prog N w0 w 51 g51 := Opn.slice Try.underlying51 (by kernel_rfl) (by decide) (o101 hN) hN
def g52 : Gd := Gd.row 32 1 g32
theorem o52 {N : Nat} {w0 w : World} (hN : N = w.heap.size) : Opn Try.prog N w0 w 52 g52 := Opn.slice Try.underlying52 (by kernel_rfl) (by decide) (o32 hN) hN
def g54 : Gd := Gd.agg [g3, g3, g32, g3, g3, g32, g9, g32, g32, g3, g3, g49, g50, g51, g52]
theorem o54 {N : Nat} {w0 w : World} (hN : N = w.heap.size) : Opn Try.prog N w0 w 54 g54 := Opn.struct Try.underlying54 (by kernel_rfl) (show OpnAll Try.prog N w0 w [(3, 0), (3, 1), (32, 2), (3, 3), (3, 4), (32, 5), (9, 6), (32, 7), (32, 8), (3, 9), (3, 10), (49, 11), (50, 12), (51, 13), (52, 14)] [g3, g3, g32, g3, g3, g32, g9, g32, g32, g3, g3, g49, g50, g51, g52] from ⟨o3 hN, o3 hN, o32 hN, o3 hN, o3 hN, o32 hN, o9 hN, o32 hN, o32 hN, o3 hN, o3 hN, o49 hN, o50 hN, o51 hN, o52 hN, trivial⟩)
def g45 : Gd := Gd.row 54 15 g54
theorem o45 {N : Nat} {w0 w : World} (hN : N = w.heap.size) : Opn Try.prog N w0 w 45 g45 := Opn.slice Try.underlying45 (by kernel_rfl) (by decide) (o54 hN) hN
noncomputable def tys : Tr TI := (.node 57 t57 (.node 35 t35 (.node 25 t25 (.node 5 t5 (.node 4 t4 (.node 3 t3 .leaf .leaf) .leaf) (.node 9 t9 .leaf .leaf)) (.node 33 t33 (.node 32 t32 (.node 30 t30 .leaf .leaf) .leaf) (.node 34 t34 .leaf .leaf))) (.node 51 t51 (.node 49 t49 (.node 45 t45 (.node 39 t39 .leaf .leaf) .leaf) (.node 50 t50 .leaf .leaf)) (.node 53 t53 (.node 52 t52 .leaf .leaf) (.node 54 t54 .leaf .leaf)))) (.node 96 t96 (.node 79 t79 (.node 63 t63 (.node 60 t60 (.node 59 t59 .leaf .leaf) .leaf) (.node 78 t78 .leaf .leaf)) (.node 89 t89 (.node 85 t85 (.node 84 t84 .leaf .leaf) .leaf) (.node 95 t95 .leaf .leaf))) (.node 105 t105 (.node 100 t100 (.node 98 t98 (.node 97 t97 .leaf .leaf) .leaf) (.node 101 t101 .leaf .leaf)) (.node 111 t111 (.node 106 t106 .leaf .leaf) (.node 115 t115 .leaf .leaf)))))
noncomputable def fns : Tr Func := (.node 55 Try.f55 (.node 29 Try.f29 (.node 16 Try.f16 (.node 9 Try.f9 (.node 6 Try.f6 (.node 4 Try.f4 (.node 3 Try.f3 .leaf .leaf) (.node 5 Try.f5 .leaf .leaf)) (.node 8 Try.f8 (.node 7 Try.f7 .leaf .leaf) .leaf)) (.node 13 Try.f13 (.node 11 Try.f11 (.node 10 Try.f10 .leaf .leaf) (.node 12 Try.f12 .leaf .leaf)) (.node 15 Try.f15 (.node 14 Try.f14 .leaf .leaf) .leaf))) (.node 23 Try.f23 (.node 20 Try.f20 (.node 18 Try.f18 (.node 17 Try.f17 .leaf .leaf) (.node 19 Try.f19 .leaf .leaf)) (.node 22 Try.f22 (.node 21 Try.f21 .leaf .leaf) .leaf)) (.node 26 Try.f26 (.node 25 Try.f25 (.node 24 Try.f24 .leaf .leaf) .leaf) (.node 28 Try.f28 (.node 27 Try.f27 .leaf .leaf) .leaf)))) (.node 42 Try.f42 (.node 36 Try.f36 (.node 33 Try.f33 (.node 31 Try.f31 (.node 30 Try.f30 .leaf .leaf) (.node 32 Try.f32 .leaf .leaf)) (.node 35 Try.f35 (.node 34 Try.f34 .leaf .leaf) .leaf)) (.node 39 Try.f39 (.node 38 Try.f38 (.node 37 Try.f37 .leaf .leaf) .leaf) (.node 41 Try.f41 (.node 40 Try.f40 .leaf .leaf) .leaf))) (.node 49 Try.f49 (.node 46 Try.f46 (.node 44 Try.f44 (.node 43 Try.f43 .leaf .leaf) (.node 45 Try.f45 .leaf .leaf)) (.node 48 Try.f48 (.node 47 Try.f47 .leaf .leaf) .leaf)) (.node 52 Try.f52 (.node 51 Try.f51 (.node 50 Try.f50 .leaf .leaf) .leaf) (.node 54 Try.f54 (.node 53 Try.f53 .leaf .leaf) .leaf))))) (.node 81 Try.f81 (.node 68 Try.f68 (.node 62 Try.f62 (.node 59 Try.f59 (.node 57 Try.f57 (.node 56 Try.f56 .leaf .leaf) (.node 58 Try.f58 .leaf .leaf)) (.node 61 Try.f61 (.node 60 Try.f60 .leaf .leaf) .leaf)) (.node 65 Try.f65 (.node 64 Try.f64 (.node 63 Try.f63 .leaf .leaf) .leaf) (.node 67 Try.f67 (.node 66 Try.f66 .leaf .leaf) .leaf))) (.node 75 Try.f75 (.node 72 Try.f72 (.node 70 Try.f70 (.node 69 Try.f69 .leaf .leaf) (.node 71 Try.f71 .leaf .leaf)) (.node 74 Try.f74 (.node 73 Try.f73 .leaf .leaf) .leaf)) (.node 78 Try.f78 (.node 77 Try.f77 (.node 76 Try.f76 .leaf .leaf) .leaf) (.node 80 Try.f80 (.node 79 Try.f79 .leaf .leaf) .leaf)))) (.node 94 Try.f94 (.node 88 Try.f88 (.node 85 Try.f85 (.node 83 Try.f83 (.node 82 Try.f82 .leaf .leaf) (.node 84 Try.f84 .leaf .leaf)) (.node 87 Try.f87 (.node 86 Try.f86 .leaf .leaf) .leaf)) (.node 91 Try.f91 (.node 90 Try.f90 (.node 89 Try.f89 .leaf .leaf) .leaf) (.node 93 Try.f93 (.node 92 Try.f92 .leaf .leaf) .leaf))) (.node 101 Try.f101 (.node 98 Try.f98 (.node 96 Try.f96 (.node 95 Try.f95 .leaf .leaf) (.node 97 Try.f97 .leaf .leaf)) (.node 100 Try.f100 (.node 99 Try.f99 .leaf .leaf) .leaf)) (.node 104 Try.f104 (.node 103 Try.f103 (.node 102 Try.f102 .leaf .leaf) .leaf) (.node 106 Try.f106 (.node 105 Try.f105 .leaf .leaf) .leaf))))))
noncomputable def env : Env := mkEnv tys fns
theorem env_ok : EnvOk Try.prog env := mkEnv_ok (T := tys) (F := fns) ⟨t57_ok, ⟨t35_ok, ⟨t25_ok, ⟨t5_ok, ⟨t4_ok, ⟨t3_ok, trivial, trivial⟩, trivial⟩, ⟨t9_ok, trivial, trivial⟩⟩, ⟨t33_ok, ⟨t32_ok, ⟨t30_ok, trivial, trivial⟩, trivial⟩, ⟨t34_ok, trivial, trivial⟩⟩⟩, ⟨t51_ok, ⟨t49_ok, ⟨t45_ok, ⟨t39_ok, trivial, trivial⟩, trivial⟩, ⟨t50_ok, trivial, trivial⟩⟩, ⟨t53_ok, ⟨t52_ok, trivial, trivial⟩, ⟨t54_ok, trivial, trivial⟩⟩⟩⟩, ⟨t96_ok, ⟨t79_ok, ⟨t63_ok, ⟨t60_ok, ⟨t59_ok, trivial, trivial⟩, trivial⟩, ⟨t78_ok, trivial, trivial⟩⟩, ⟨t89_ok, ⟨t85_ok, ⟨t84_ok, trivial, trivial⟩, trivial⟩, ⟨t95_ok, trivial, trivial⟩⟩⟩, ⟨t105_ok, ⟨t100_ok, ⟨t98_ok, ⟨t97_ok, trivial, trivial⟩, trivial⟩, ⟨t101_ok, trivial, trivial⟩⟩, ⟨t111_ok, ⟨t106_ok, trivial, trivial⟩, ⟨t115_ok, trivial, trivial⟩⟩⟩⟩⟩ ⟨f55_ok, ⟨f29_ok, ⟨f16_ok, ⟨f9_ok, ⟨f6_ok, ⟨f4_ok, ⟨f3_ok, trivial, trivial⟩, ⟨f5_ok, trivial, trivial⟩⟩, ⟨f8_ok, ⟨f7_ok, trivial, trivial⟩, trivial⟩⟩, ⟨f13_ok, ⟨f11_ok, ⟨f10_ok, trivial, trivial⟩, ⟨f12_ok, trivial, trivial⟩⟩, ⟨f15_ok, ⟨f14_ok, trivial, trivial⟩, trivial⟩⟩⟩, ⟨f23_ok, ⟨f20_ok, ⟨f18_ok, ⟨f17_ok, trivial, trivial⟩, ⟨f19_ok, trivial, trivial⟩⟩, ⟨f22_ok, ⟨f21_ok, trivial, trivial⟩, trivial⟩⟩, ⟨f26_ok, ⟨f25_ok, ⟨f24_ok, trivial, trivial⟩, trivial⟩, ⟨f28_ok, ⟨f27_ok, trivial, trivial⟩, trivial⟩⟩⟩⟩, ⟨f42_ok, ⟨f36_ok, ⟨f33_ok, ⟨f31_ok, ⟨f30_ok, trivial, trivial⟩, ⟨f32_ok, trivial, trivial⟩⟩, ⟨f35_ok, ⟨f34_ok, trivial, trivial⟩, trivial⟩⟩, ⟨f39_ok, ⟨f38_ok, ⟨f37_ok, trivial, trivial⟩, trivial⟩, ⟨f41_ok, ⟨f40_ok, trivial, trivial⟩, trivial⟩⟩⟩, ⟨f49_ok, ⟨f46_ok, ⟨f44_ok, ⟨f43_ok, trivial, trivial⟩, ⟨f45_ok, trivial, trivial⟩⟩, ⟨f48_ok, ⟨f47_ok, trivial, trivial⟩, trivial⟩⟩, ⟨f52_ok, ⟨f51_ok, ⟨f50_ok, trivial, trivial⟩, trivial⟩, ⟨f54_ok, ⟨f53_ok, trivial, trivial⟩, trivial⟩⟩⟩⟩⟩, ⟨f81_ok, ⟨f68_ok, ⟨f62_ok, ⟨f59_ok, ⟨f57_ok, ⟨f56_ok, trivial, trivial⟩, ⟨f58_ok, trivial, trivial⟩⟩, ⟨f61_ok, ⟨f60_ok, trivial, trivial⟩, trivial⟩⟩, ⟨f65_ok, ⟨f64_ok, ⟨f63_ok, trivial, trivial⟩, trivial⟩, ⟨f67_ok, ⟨f66_ok, trivial, trivial⟩, trivial⟩⟩⟩, ⟨f75_ok, ⟨f72_ok, ⟨f70_ok, ⟨f69_ok, trivial, trivial⟩, ⟨f71_ok, trivial, trivial⟩⟩, ⟨f74_ok, ⟨f73_ok, trivial, trivial⟩, trivial⟩⟩, ⟨f78_ok, ⟨f77_ok, ⟨f76_ok, trivial, trivial⟩, trivial⟩, ⟨f80_ok, ⟨f79_ok, trivial, trivial⟩, trivial⟩⟩⟩⟩, ⟨f94_ok, ⟨f88_ok, ⟨f85_ok, ⟨f83_ok, ⟨f82_ok, trivial, trivial⟩, ⟨f84_ok, trivial, trivial⟩⟩, ⟨f87_ok, ⟨f86_ok, trivial, trivial⟩, trivial⟩⟩, ⟨f91_ok, ⟨f90_ok, ⟨f89_ok, trivial, trivial⟩, trivial⟩, ⟨f93_ok, ⟨f92_ok, trivial, trivial⟩, trivial⟩⟩⟩, ⟨f101_ok, ⟨f98_ok, ⟨f96_ok, ⟨f95_ok, trivial, trivial⟩, ⟨f97_ok, trivial, trivial⟩⟩, ⟨f100_ok, ⟨f99_ok, trivial, trivial⟩, trivial⟩⟩, ⟨f104_ok, ⟨f103_ok, ⟨f102_ok, trivial, trivial⟩, trivial⟩, ⟨f106_ok, ⟨f105_ok, trivial, trivial⟩, trivial⟩⟩⟩⟩⟩⟩ (by kernel_rfl)
instance : Plain env := ⟨fun _ _ _ => rfl⟩
end Go.Proofs.Ytdnkhdkflemkeaa.Vt
/- Cp0: walks through functions of the program, by the calculus; written by a program of this workplace. -/
namespace Go.Proofs.Ytdnkhdkflemkeaa.Vt.Cp
open Go Go.Proofs Go.Proofs.YtdnkhdkflemkeaaV
set_option maxRecDepth 100000
set_option linter.unusedVariables false
set_option linter.unusedSimpArgs false
set_option maxHeartbeats 8000000
def beN (l : List UInt8) : Nat := l.foldl (fun a b => a * 256 + b.toNat) 0
theorem beN_snoc (l : List UInt8) (b : UInt8) : beN (l ++ [b]) = beN l * 256 + b.toNat := by unfold beN; rw [List.foldl_append]; rfl
theorem beN_take (s : ByteArray) (i : Nat) (h : i < s.size) : beN ((L s).take (i + 1)) = beN ((L s).take i) * 256 + (s.get! i).toNat := by
  rw [List.take_add_one, L_get s i h]
  exact beN_snoc _ _
def at_ (v : ByteArray) (p k : Nat) : Nat := beN (((L v).drop p).take k)
def be4 (x : BitVec 32) : List UInt8 := [UInt8.ofNat (x >>> 24).toNat, UInt8.ofNat (x >>> 16).toNat, UInt8.ofNat (x >>> 8).toNat, UInt8.ofNat x.toNat]
theorem be4_len (x : BitVec 32) : (be4 x).length = 4 := rfl
theorem beN_be4 (x : BitVec 32) : beN (be4 x) = x.toNat := by
  have h := x.isLt
  simp only [beN, be4, List.foldl, BitVec.toNat_ushiftRight, Nat.shiftRight_eq_div_pow, UInt8.toNat_ofNat']
  omega
def be2 (m : Nat) : List UInt8 := [UInt8.ofNat (m / 256), UInt8.ofNat m]
theorem be2_len (m : Nat) : (be2 m).length = 2 := rfl
theorem beN_be2 (m : Nat) (h : m < 65536) : beN (be2 m) = m := by
  simp only [beN, be2, List.foldl, UInt8.toNat_ofNat']
  omega
theorem beN_inj : ∀ (k : Nat) (l m : List UInt8), l.length = k → m.length = k → beN l = beN m → l = m := by
  intro k
  induction k with
  | zero => intro l m h1 h2 _; rw [List.length_eq_zero_iff.1 h1, List.length_eq_zero_iff.1 h2]
  | succ k ih =>
    intro l m h1 h2 h
    have hl : l ≠ [] := fun e => by rw [e] at h1; cases h1
    have hm : m ≠ [] := fun e => by rw [e] at h2; cases h2
    rw [← List.dropLast_concat_getLast hl, ← List.dropLast_concat_getLast hm] at h ⊢
    rw [beN_snoc, beN_snoc] at h
    have a1 := UInt8.toNat_lt (l.getLast hl)
    have a2 := UInt8.toNat_lt (m.getLast hm)
    have e1 : (l.getLast hl).toNat = (m.getLast hm).toNat := by omega
    have e2 : beN l.dropLast = beN m.dropLast := by omega
    rw [UInt8.toNat_inj.1 e1, ih _ _ (by rw [List.length_dropLast]; omega) (by rw [List.length_dropLast]; omega) e2]
def putL (m : Nat) : Nat → List UInt8
  | 0 => []
  | k + 1 => putL (m / 256) k ++ [UInt8.ofNat (m % 256)]
theorem putL_len : ∀ (k m : Nat), (putL m k).length = k
  | 0, _ => rfl
  | k + 1, m => by simp [putL, putL_len k]
theorem beN_putL : ∀ (k m : Nat), m < 256 ^ k → beN (putL m k) = m
  | 0, m, h => by simp at h; subst h; rfl
  | k + 1, m, h => by
    rw [putL, beN_snoc, beN_putL k (m / 256) (by rw [Nat.pow_succ] at h; omega), UInt8.toNat_ofNat']
    omega
theorem bstr_size (l : List UInt8) : (bstr l).size = l.length := by rw [← L_len, L_bstr]
theorem bstr_app (a b : List UInt8) : bstr a ++ bstr b = bstr (a ++ b) := by apply L_ext; rw [L_append, L_bstr, L_bstr, L_bstr]
theorem bstr_Lr (d : ByteArray) : bstr (L d) = d := by apply L_ext; rw [L_bstr]
theorem putL_be4 (x : BitVec 32) : putL x.toNat 4 = be4 x := beN_inj 4 _ _ (putL_len 4 _) rfl ((beN_putL 4 x.toNat x.isLt).trans (beN_be4 x).symm)
theorem putL_be2 (m : Nat) (hm : m < 65536) : putL m 2 = be2 m := beN_inj 2 _ _ (putL_len 2 _) rfl ((beN_putL 2 m hm).trans (beN_be2 m hm).symm)
def fillL (l : List UInt8) : List UInt8 := l ++ List.replicate ((4 - l.length % 4) % 4) 0
def pL (t : Nat) (v : List UInt8) : List UInt8 := fillL (be2 t ++ be2 (v.length + 4) ++ v)
theorem andN_3 (x : Int) : andN x 3 = (x % 4).toNat := by
  unfold andN
  rw [BitVec.toNat_and, BitVec.toNat_ofInt, show (BitVec.ofInt 64 ((3 : Nat) : Int)).toNat = 2 ^ 2 - 1 from rfl, Nat.and_two_pow_sub_one_eq_mod]
  omega
theorem zeros_cut {p : Nat} (hp : p ≤ 3) : (ByteArray.mk #[0, 0, 0]).extract 0 p = bstr (List.replicate p 0) := by
  rcases (show p = 0 ∨ p = 1 ∨ p = 2 ∨ p = 3 by omega) with rfl | rfl | rfl | rfl <;> rfl
def padN (n : Nat) : Nat := (4 - n % 4) % 4
theorem fillL_eq (l : List UInt8) : fillL l = l ++ List.replicate (padN l.length) 0 := rfl
theorem pL_len (t : Nat) (v : List UInt8) : (be2 t ++ be2 (v.length + 4) ++ v).length = 4 + v.length := by simp only [List.length_append, be2_len]
def be1 (m : Nat) : List UInt8 := [UInt8.ofNat m]
theorem be1_len (m : Nat) : (be1 m).length = 1 := rfl
theorem sU32 {σ : Store} (x : BitVec 32)   : PS Try.prog noDen 40 [(W x)] σ (.string (bstr (be4 x))) := by
 refine PS.body (E := env) env_ok rfl rfl (by show _ ≤ _; exact of_decide_eq_true (by kernel_rfl)) (fun n hd => ?_)
 refine RA.sR hd env_ok <| OA.ps [(2, (.string (ByteArray.mk #[])))] rfl <| OA.nil fun _ => RA.sR hd env_ok <| OA.ps [(3, (W x))] rfl <| oP 4 (W (x >>> 24)) rfl (r_bin rfl rfl rfl (b_shrW _ (s := 24) (by omega))) <| oP 5 (.int .u8 (((UInt8.ofNat ((x >>> 24)).toNat).toNat : Nat) : Int)) rfl (r_cvt rfl rfl rfl rfl rfl ⟨_, rfl⟩ (wrap_u8n _)) <| OA.ps [(6, (W x))] rfl <| oP 7 (W (x >>> 16)) rfl (r_bin rfl rfl rfl (b_shrW _ (s := 16) (by omega))) <| oP 8 (.int .u8 (((UInt8.ofNat ((x >>> 16)).toNat).toNat : Nat) : Int)) rfl (r_cvt rfl rfl rfl rfl rfl ⟨_, rfl⟩ (wrap_u8n _)) <| OA.ps [(9, (W x))] rfl ?_
 refine oP 10 (W (x >>> 8)) rfl (r_bin rfl rfl rfl (b_shrW _ (s := 8) (by omega))) <| oP 11 (.int .u8 (((UInt8.ofNat ((x >>> 8)).toNat).toNat : Nat) : Int)) rfl (r_cvt rfl rfl rfl rfl rfl ⟨_, rfl⟩ (wrap_u8n _)) <| OA.ps [(12, (W x))] rfl <| oP 13 (.int .u8 (((UInt8.ofNat (x).toNat).toNat : Nat) : Int)) rfl (r_cvt rfl rfl rfl rfl rfl ⟨_, rfl⟩ (wrap_u8n _)) <| o1 (some 14) (.slice (some ⟨n, 0, none⟩) 4 0) (n + 1) (n, some ⟨(bc [(UInt8.ofNat ((x >>> 24)).toNat), (UInt8.ofNat ((x >>> 16)).toNat), (UInt8.ofNat ((x >>> 8)).toNat), (UInt8.ofNat (x).toNat)]), 1, 5, true⟩) (by kernel_rfl) <| oP 15 (.string (bstr (([(UInt8.ofNat ((x >>> 24)).toNat), (UInt8.ofNat ((x >>> 16)).toNat), (UInt8.ofNat ((x >>> 8)).toNat), (UInt8.ofNat (x).toNat)].drop 0).take 4))) rfl (r_b2s rfl rfl rfl rfl rfl rfl rfl rfl get_here (by rw [show ([(UInt8.ofNat ((x >>> 24)).toNat), (UInt8.ofNat ((x >>> 16)).toNat), (UInt8.ofNat ((x >>> 8)).toNat), (UInt8.ofNat (x).toNat)] : List UInt8).length = 4 from rfl]; omega)) <| OA.ps [(2, (.string (bstr (([(UInt8.ofNat ((x >>> 24)).toNat), (UInt8.ofNat ((x >>> 16)).toNat), (UInt8.ofNat ((x >>> 8)).toNat), (UInt8.ofNat (x).toNat)].drop 0).take 4))))] rfl <| OA.nil fun _ => ?_
 refine RA.ret env_ok ?_
 exact lf (.string (bstr (([(UInt8.ofNat ((x >>> 24)).toNat), (UInt8.ofNat ((x >>> 16)).toNat), (UInt8.ofNat ((x >>> 8)).toNat), (UInt8.ofNat (x).toNat)].drop 0).take 4))) rfl
theorem sU16 {σ : Store} (m : Nat) (hm : m < 65536)   : PS Try.prog noDen 45 [(.int .i64 ((m : Nat) : Int))] σ (.string (bstr (be2 m))) := by
 refine PS.body (E := env) env_ok rfl rfl (by show _ ≤ _; exact of_decide_eq_true (by kernel_rfl)) (fun n hd => ?_)
 refine RA.sR hd env_ok <| OA.ps [(2, (.string (ByteArray.mk #[])))] rfl <| OA.nil fun _ => RA.sR hd env_ok <| OA.ps [(3, (.int .i64 ((m : Nat) : Int)))] rfl <| oP 4 (.int .i64 (((m / 256) : Nat) : Int)) rfl (r_bin rfl rfl rfl (b_shrN (a := m) (c := 8) (D := 256) (by decide))) <| oP 5 (.int .u8 (((UInt8.ofNat (m / 256)).toNat : Nat) : Int)) rfl (r_cvt rfl rfl rfl rfl rfl ⟨_, rfl⟩ (wrap_u8n _)) <| OA.ps [(6, (.int .i64 ((m : Nat) : Int)))] rfl <| oP 7 (.int .u8 (((UInt8.ofNat m).toNat : Nat) : Int)) rfl (r_cvt rfl rfl rfl rfl rfl ⟨_, rfl⟩ (wrap_u8n _)) <| o1 (some 8) (.slice (some ⟨n, 0, none⟩) 2 0) (n + 1) (n, some ⟨(bc [(UInt8.ofNat (m / 256)), (UInt8.ofNat m)]), 1, 5, true⟩) (by kernel_rfl) <| oP 9 (.string (bstr (([(UInt8.ofNat (m / 256)), (UInt8.ofNat m)].drop 0).take 2))) rfl (r_b2s rfl rfl rfl rfl rfl rfl rfl rfl get_here (by rw [show ([(UInt8.ofNat (m / 256)), (UInt8.ofNat m)] : List UInt8).length = 2 from rfl]; omega)) ?_
 refine OA.ps [(2, (.string (bstr (([(UInt8.ofNat (m / 256)), (UInt8.ofNat m)].drop 0).take 2))))] rfl <| OA.nil fun _ => ?_
 refine RA.ret env_ok ?_
 exact lf (.string (bstr (([(UInt8.ofNat (m / 256)), (UInt8.ofNat m)].drop 0).take 2))) rfl
theorem sPutz {σ : Store} (m : Nat)   : PS Try.prog noDen 41 [(.int .u64 ((m : Nat) : Int)), (.int .i64 0)] σ (.string (bstr (putL m 0))) := by
 refine PS.body (E := env) env_ok rfl rfl (by show _ ≤ _; exact of_decide_eq_true (by kernel_rfl)) (fun n hd => ?_)
 refine RA.sR hd env_ok <| OA.ps [(4, (.string (ByteArray.mk #[])))] rfl <| OA.nil fun _ => RA.seq hd <| RA.sR hd env_ok <| OA.ps [(5, (.int .i64 0))] rfl <| oP 6 yT rfl (r_bin rfl rfl rfl (b_leq rfl)) <| OA.nil fun _ => RA.condT rfl <| RA.sR hd env_ok <| OA.ps [(4, (.string (ByteArray.mk #[])))] rfl ?_
 refine OA.nil fun _ => ?_
 refine RA.ret env_ok ?_
 exact lf (.string (ByteArray.mk #[])) rfl
theorem sPut : ∀ (k m : Nat) (hm : m < 18446744073709551616) (hk : k ≤ 8) {σ : Store}, PS Try.prog noDen 41 [(.int .u64 ((m : Nat) : Int)), (.int .i64 ((k : Nat) : Int))] σ (.string (bstr (putL m k))) := by
  intro k
  induction k with
  | zero => intro m _ _ σ; exact sPutz m
  | succ k ih =>
    intro m hm hk σ
    refine PS.body (E := env) env_ok rfl rfl (by show _ ≤ _; exact of_decide_eq_true (by kernel_rfl)) (fun n hd => ?_)
    refine RA.sR hd env_ok <| OA.ps [(4, (.string (ByteArray.mk #[])))] rfl <| OA.nil fun _ => RA.seq hd <| RA.sR hd env_ok <| OA.ps [(5, (.int .i64 (((k + 1) : Nat) : Int)))] rfl ?_
    have hc1 : ¬ ((((k + 1) : Nat) : Int) ≤ 0) := fun hdd => by exfalso; omega
    refine oP 6 yF rfl (Eq.trans (r_bin rfl rfl rfl (b_leq rfl)) (dF hc1)) <| OA.nil fun _ => RA.condF rfl <| RA.skip env_ok ?_
    intro _
    refine RA.seq hd <| RA.par (md := [some [], some [], some [], some [], some [], some [], some [], some [], some [], none, some [], some []]) env_ok (hd.up (by omega)) (by kernel_rfl) <| PQ.ps [(7, (.int .u64 ((m : Nat) : Int)))] rfl <| pP 8 (.int .u64 (((m / 256) : Nat) : Int)) rfl (r_bin rfl rfl rfl (b_quoN (a := m) (c := 256) (by decide) (u64_eq (by omega)))) <| PQ.ps [(9, (.int .i64 (((k + 1) : Nat) : Int)))] rfl <| pP 10 (.int .i64 ((((k + 1) - 1) : Nat) : Int)) rfl (r_bin rfl rfl rfl (b_sub (i64_eq (by omega)))) <| pC 11 rfl rfl (ih (m / 256) (by omega) (by omega)) fun n1 hn1 => PQ.ps [(12, (.int .u64 ((m : Nat) : Int)))] rfl <| pP 13 (.int .u64 (((m % 256) : Nat) : Int)) rfl (r_bin rfl rfl rfl (b_remN (a := m) (c := 256) (by decide))) <| pP 14 (.int .u8 (((UInt8.ofNat (m % 256)).toNat : Nat) : Int)) rfl (r_cvt rfl rfl rfl rfl rfl ⟨_, rfl⟩ (wrap_u8n _)) <| PQ.op (dst := (some 15)) (v := (.slice (some ⟨n1, 0, none⟩) 1 0)) (n1 := (n1 + 1)) (d1 := [(n1, some ⟨(bc [(UInt8.ofNat (m % 256))]), 1, 5, true⟩)]) rfl rfl rfl noStore nOK (by kernel_rfl) (by omega) (kp1 (wr_new (by omega) (by omega))) ?_
    refine PQ.pure (dst := (some 16)) (v := (.string (bstr (([(UInt8.ofNat (m % 256))].drop 0).take 1)))) rfl rfl rfl _ (sA (V := [(n1, some ⟨(bc [(UInt8.ofNat (m % 256))]), 1, 5, true⟩)]) (by kernel_rfl) (by kernel_rfl)) (r_b2s rfl rfl rfl rfl rfl rfl rfl rfl get_here (by rw [show ([(UInt8.ofNat (m % 256))] : List UInt8).length = 1 from rfl]; omega)) <| pP 17 (.string ((bstr (putL (m / 256) k)) ++ (bstr (([(UInt8.ofNat (m % 256))].drop 0).take 1)))) rfl (r_cat rfl rfl rfl (by (try simp only [ByteArray.size_append, bstr_size, size_lit, List.size_toArray, List.length_cons, List.length_nil, List.length_take, List.length_drop, List.length_replicate, putL_len]); try omega)) <| PQ.ps [(4, (.string ((bstr (putL (m / 256) k)) ++ (bstr (([(UInt8.ofNat (m % 256))].drop 0).take 1)))))] rfl <| PQ.done (d := [(n1, some ⟨(bc [(UInt8.ofNat (m % 256))]), 1, 5, true⟩)]) (by kernel_rfl) fun _ => ?_
    refine RA.ret env_ok ?_
    exact lf (.string ((bstr (putL (m / 256) k)) ++ (bstr (([(UInt8.ofNat (m % 256))].drop 0).take 1)))) (by rw [one]; exact congrArg Value.string (L_ext (by rw [L_append, L_bstr, L_bstr, L_bstr]; rfl)))
   
theorem lPad {σ : Store} (k : Nat) (hk : k < 2147483648)   : PS Try.prog noDen 102 [(.int .i64 ((k : Nat) : Int))] σ (.int .i64 ((padN k : Nat) : Int)) := by
 refine PS.body (E := env) env_ok rfl rfl (by show _ ≤ _; exact of_decide_eq_true (by kernel_rfl)) (fun n hd => ?_)
 refine RA.sR hd env_ok <| OA.ps [(2, (.int .i64 0))] rfl <| OA.nil fun _ => RA.sR hd env_ok <| OA.ps [(3, (.int .i64 ((k : Nat) : Int)))] rfl <| oP 4 (.int .i64 (-((k : Nat) : Int))) rfl (r_neg rfl rfl (i64_eq (by omega))) <| oP 5 (.int .i64 (((andN (-((k : Nat) : Int)) 3) : Nat) : Int)) rfl (r_bin rfl rfl rfl (b_andN (-((k : Nat) : Int)) 3 (by decide))) <| OA.ps [(2, (.int .i64 (((andN (-((k : Nat) : Int)) 3) : Nat) : Int)))] rfl <| OA.nil fun _ => ?_
 refine RA.ret env_ok ?_
 exact lf (.int .i64 (((andN (-((k : Nat) : Int)) 3) : Nat) : Int)) (by show Value.int _ _ = Value.int _ _; rw [andN_3, show ((-((k : Nat) : Int)) % 4).toNat = padN k from by unfold padN; omega])
theorem lFilled {σ : Store} (l : List UInt8) (hl : l.length < 1000000)   : PS Try.prog noDen 79 [(.string (bstr l))] σ (.string (bstr (fillL l))) := by
 refine PS.body (E := env) env_ok rfl rfl (by show _ ≤ _; exact of_decide_eq_true (by kernel_rfl)) (fun n hd => ?_)
 refine RA.sR hd env_ok <| OA.ps [(2, (.string (ByteArray.mk #[])))] rfl <| OA.nil fun _ => RA.sR hd env_ok <| OA.ps [(3, (.string (bstr l))), (4, (.string (bstr l)))] rfl <| oP 5 (.int .i64 ((l.length : Nat) : Int)) rfl (Eq.trans (show _ = some (Value.int .i64 (((bstr l).size : Nat) : Int), _, []) from rfl) (by rw [bstr_size] <;> rfl)) <| oC 6 (hd.up (by omega)) rfl rfl (lPad l.length (by omega)) fun n1 hn1 => oP 7 (.string (bstr (List.replicate (padN l.length) 0))) rfl (Eq.trans (r_cut (a := 0) (b := (padN l.length)) rfl rfl (fun _ => rfl) (fun _ => rfl) rfl rfl rfl bound_nat (by omega) (by show (padN l.length) ≤ 3; unfold padN; omega) rfl) (by rw [zeros_cut (by unfold padN; omega)] <;> rfl)) <| oP 8 (.string (bstr (l ++ (List.replicate (padN l.length) 0)))) rfl (Eq.trans (r_cat rfl rfl rfl (by simp only [bstr_size, size_lit, List.length_append, be2_len, be4_len, be1_len, List.length_replicate, List.length_cons, List.length_nil, List.size_toArray]; unfold padN; omega)) (by rw [bstr_app] <;> rfl)) <| OA.ps [(2, (.string (bstr (l ++ (List.replicate (padN l.length) 0)))))] rfl <| OA.nil fun _ => ?_
 refine RA.ret env_ok ?_
 exact lf (.string (bstr (l ++ (List.replicate (padN l.length) 0)))) rfl
theorem lRF {σ : Store} (l : List UInt8) (hl : l.length < 1000000)   : PS Try.prog noDen 71 [(.string (bstr l))] σ (.string (bstr (fillL l))) := by
 refine PS.body (E := env) env_ok rfl rfl (by show _ ≤ _; exact of_decide_eq_true (by kernel_rfl)) (fun n hd => ?_)
 refine RA.sR hd env_ok <| OA.ps [(2, (.string (ByteArray.mk #[])))] rfl <| OA.nil fun _ => RA.sR hd env_ok <| OA.ps [(4, (.string (bstr l))), (3, (.string (bstr l)))] rfl <| OA.nil fun _ => RA.seq hd <| RA.block ?_
 refine RA.loop hd (fun kk_ τ n' D => ∃ k : Nat,  kk_ = (padN l.length - k) ∧ n ≤ n' ∧ Has τ [(3, (.string (bstr (l ++ List.replicate k 0))))] ∧ D = [] ∧ (∀ i ∈ keys D, i < n') ∧ k ≤ padN l.length) ((padN l.length - 0)) ⟨0, rfl, by omega, ⟨(by rw [List.replicate_zero, List.append_nil] <;> rfl), trivial⟩, rfl, (fun i hi => by cases hi), (by omega)⟩ ?_
 rintro kn1 τ1 n1 _ ⟨k, rfl, hn1, hHn1, rfl, hKn1, hIn1⟩
 rw [Has.eq hHn1]
 simp only [keys, List.map, List.forall_mem_cons, List.mem_cons, List.not_mem_nil, false_imp_iff, implies_true, and_true] at hKn1
 obtain hk1 := hIn1
 have hcl : (l ++ List.replicate k 0).length = l.length + k := by rw [List.length_append, List.length_replicate]
 have hpl : padN l.length ≤ 3 := by unfold padN; omega
 have hpe : padN l.length = (4 - l.length % 4) % 4 := rfl
 refine RA.seq hd <| RA.sR hd env_ok <| OA.ps [(5, (.string (bstr (l ++ List.replicate k 0))))] rfl <| oP 6 (.int .i64 (((l ++ List.replicate k 0).length : Nat) : Int)) rfl (Eq.trans (show _ = some (Value.int .i64 (((bstr (l ++ List.replicate k 0)).size : Nat) : Int), _, []) from rfl) (by rw [bstr_size] <;> rfl)) <| oP 7 (.int .i64 ((((l ++ List.replicate k 0).length % 4) : Nat) : Int)) rfl (r_bin rfl rfl rfl (b_remN (a := (l ++ List.replicate k 0).length) (c := 4) (by decide))) ?_
 by_cases hc1 : ((((l ++ List.replicate k 0).length % 4) : Nat) : Int) ≠ 0
 ·
  refine oP 8 yT rfl (Eq.trans (r_bin rfl rfl rfl (b_neq rfl)) (dT hc1)) <| OA.nil fun _ => RA.condT rfl <| RA.skip env_ok ?_
  intro _
  refine RA.block <| RA.region env_ok <| OA.ps [(9, (.string (bstr (l ++ List.replicate k 0))))] rfl <| oP 10 (.string (bstr ((l ++ List.replicate k 0) ++ ([0] : List UInt8)))) rfl (Eq.trans (r_cat rfl rfl rfl (by simp only [bstr_size, size_lit, List.length_append, be2_len, be4_len, be1_len, List.length_replicate, List.length_cons, List.length_nil, List.size_toArray]; omega)) (by rw [(show bstr (l ++ List.replicate k 0) ++ ByteArray.mk #[0] = bstr ((l ++ List.replicate k 0) ++ ([0] : List UInt8)) from bstr_app _ [0])] <;> rfl)) <| OA.ps [(3, (.string (bstr ((l ++ List.replicate k 0) ++ ([0] : List UInt8)))))] rfl <| OA.nil ?_
  refine ⟨(padN l.length - (k + 1)), by omega, [], (Less.refl _ _ _), (k + 1), rfl, by omega, ⟨(by rw [List.append_assoc, ← List.replicate_succ'] <;> rfl), trivial⟩, rfl, (fun i hi => by cases hi), (by omega)⟩
 ·
  refine oP 8 yF rfl (Eq.trans (r_bin rfl rfl rfl (b_neq rfl)) (dF hc1)) <| OA.nil fun _ => RA.condF rfl ?_
  refine RA.exit env_ok ?_
  intro _
  refine RA.sR hd env_ok <| OA.ps [(11, (.string (bstr (l ++ List.replicate k 0)))), (2, (.string (bstr (l ++ List.replicate k 0))))] rfl <| OA.nil fun _ => ?_
  refine RA.ret env_ok ?_
  exact lf (.string (bstr (l ++ List.replicate k 0))) (by show Value.string _ = Value.string _; rw [fillL_eq, show k = padN l.length from by omega])
theorem lPut2 {σ : Store} (m : Nat) (hm : m < 65536) : PS Try.prog noDen 41 [.int .u64 ((m : Nat) : Int), .int .i64 2] σ (.string (bstr (be2 m))) := (sPut 2 m (by omega) (by decide)).to (by rw [putL_be2 m hm])
end Go.Proofs.Ytdnkhdkflemkeaa.Vt.Cp
/- Ch: walks through functions of the program, by the calculus; written by a program of this workplace. -/
namespace Go.Proofs.Ytdnkhdkflemkeaa.Vt
open Go Go.Proofs Go.Proofs.YtdnkhdkflemkeaaV
set_option maxRecDepth 100000
set_option linter.unusedVariables false
set_option linter.unusedSimpArgs false
set_option maxHeartbeats 8000000
structure Prm where
  typ : Int
  val : ByteArray
deriving DecidableEq
def dPrm : Prm := ⟨0, ByteArray.empty⟩
abbrev cPrm (e : Prm) : List Value := [(.int .i64 e.typ), (.string e.val)]
abbrev oPrm (l : List Prm) : AObj := ⟨l.map cPrm, 2, 96, true⟩
structure Cau where
  code : Int
  info : ByteArray
deriving DecidableEq
def dCau : Cau := ⟨0, ByteArray.empty⟩
abbrev cCau (e : Cau) : List Value := [(.int .i64 e.code), (.string e.info)]
abbrev oCau (l : List Cau) : AObj := ⟨l.map cCau, 2, 98, true⟩
structure Gp where
  lo : Int
  hi : Int
deriving DecidableEq
def dGp : Gp := ⟨0, 0⟩
abbrev cGp (e : Gp) : List Value := [(.int .i64 e.lo), (.int .i64 e.hi)]
structure Dp where
  x : BitVec 32
deriving DecidableEq
def dDp : Dp := ⟨0#32⟩
abbrev cDp (e : Dp) : List Value := [(W e.x)]
structure Chk where
  typ : Int
  flags : Int
  tsn : BitVec 32
  stream : Int
  ssn : Int
  proto : BitVec 32
  data : ByteArray
  tag : BitVec 32
  rwnd : BitVec 32
  outs : Int
  ins : Int
  pv : Value
  cv : Value
  gv : Value
  dv : Value
  ps : List Prm
  cs : List Cau
  gs : List Gp
  ds : List Dp
def dChk : Chk := ⟨0, 0, 0#32, 0, 0, 0#32, ByteArray.empty, 0#32, 0#32, 0, 0, .slice none 0 0, .slice none 0 0, .slice none 0 0, .slice none 0 0, [], [], [], []⟩
abbrev cChk (e : Chk) : List Value := [(.int .i64 e.typ), (.int .i64 e.flags), (W e.tsn), (.int .i64 e.stream), (.int .i64 e.ssn), (W e.proto), (.string e.data), (W e.tag), (W e.rwnd), (.int .i64 e.outs), (.int .i64 e.ins), e.pv, e.cv, e.gv, e.dv]
abbrev oChk (l : List Chk) : AObj := ⟨l.map cChk, 15, 54, true⟩
def okChk (σ : Store) (c : Chk) : Prop := RowP σ 96 2 c.pv (c.ps.map cPrm) ∧ RowP σ 98 2 c.cv (c.cs.map cCau) ∧ RowP σ 101 2 c.gv (c.gs.map cGp) ∧ RowP σ 32 1 c.dv (c.ds.map cDp)
def cutPrm (e : Prm) : Prm := ⟨e.typ, e.val.extract 0 (min e.val.size 60)⟩
theorem cutPrm_snoc {l : List Prm} {i : Nat} (h : i < l.length) : (((l.take i).map cutPrm).map cPrm) ++ [cPrm (Prm.mk (l.getD i dPrm).typ ((l.getD i dPrm).val.extract 0 (min (l.getD i dPrm).val.size 60)))] = ((l.take (i + 1)).map cutPrm).map cPrm := by
  rw [← take_snoc (d0 := dPrm) h, List.map_append, List.map_append]; rfl
theorem cutPrm_len {l : List Prm} {i : Nat} (h : i ≤ l.length) : ((l.take i).map cutPrm).length = i := by rw [List.length_map, List.length_take]; omega
def cutCau (e : Cau) : Cau := ⟨e.code, e.info.extract 0 (min e.info.size 60)⟩
theorem cutCau_snoc {l : List Cau} {i : Nat} (h : i < l.length) : (((l.take i).map cutCau).map cCau) ++ [cCau (Cau.mk (l.getD i dCau).code ((l.getD i dCau).info.extract 0 (min (l.getD i dCau).info.size 60)))] = ((l.take (i + 1)).map cutCau).map cCau := by
  rw [← take_snoc (d0 := dCau) h, List.map_append, List.map_append]; rfl
theorem cutCau_len {l : List Cau} {i : Nat} (h : i ≤ l.length) : ((l.take i).map cutCau).length = i := by rw [List.length_map, List.length_take]; omega
abbrev xCh1 (c : Chk) (j0 : Nat) (j1 : Nat) : List Value := [(.int .i64 c.typ), (.int .i64 c.flags), (W c.tsn), (.int .i64 c.stream), (.int .i64 c.ssn), (W c.proto), (.string (c.data.extract 0 (min c.data.size 950))), (W c.tag), (W c.rwnd), (.int .i64 c.outs), (.int .i64 c.ins), (.slice (some ⟨j0, 0, none⟩) (min c.ps.length 18) 0), (.slice (some ⟨j1, 0, none⟩) (min c.cs.length 18) 0), (cutV c.gv (min c.gs.length 18)), (cutV c.dv (min c.ds.length 18))]
abbrev xCh2 (c : Chk) (j0 : Nat) (j1 : Nat) : List Value := [(.int .i64 c.typ), (.int .i64 c.flags), (W c.tsn), (.int .i64 c.stream), (.int .i64 c.ssn), (W c.proto), (.string (c.data.extract 0 (min c.data.size 950))), (W c.tag), (W c.rwnd), (.int .i64 c.outs), (.int .i64 c.ins), (.slice (some ⟨j0, 0, none⟩) (min c.ps.length 18) 0), (.slice (some ⟨j1, 0, none⟩) (min c.cs.length 18) 0), (cutV c.gv (min c.gs.length 18)), c.dv]
abbrev xCh3 (c : Chk) (j0 : Nat) (j1 : Nat) : List Value := [(.int .i64 c.typ), (.int .i64 c.flags), (W c.tsn), (.int .i64 c.stream), (.int .i64 c.ssn), (W c.proto), (.string (c.data.extract 0 (min c.data.size 950))), (W c.tag), (W c.rwnd), (.int .i64 c.outs), (.int .i64 c.ins), (.slice (some ⟨j0, 0, none⟩) (min c.ps.length 18) 0), (.slice (some ⟨j1, 0, none⟩) (min c.cs.length 18) 0), c.gv, c.dv]
abbrev xCh4 (c : Chk) (j0 : Nat) (n4 : Nat) (i : Nat) : List Value := [(.int .i64 c.typ), (.int .i64 c.flags), (W c.tsn), (.int .i64 c.stream), (.int .i64 c.ssn), (W c.proto), (.string (c.data.extract 0 (min c.data.size 950))), (W c.tag), (W c.rwnd), (.int .i64 c.outs), (.int .i64 c.ins), (.slice (some ⟨j0, 0, none⟩) (min c.ps.length 18) 0), (.slice (some ⟨(n4 + 1), 0, none⟩) (i + 1) 0), c.gv, c.dv]
abbrev xCh5 (c : Chk) (j0 : Nat) (j : Nat) (i : Nat) : List Value := [(.int .i64 c.typ), (.int .i64 c.flags), (W c.tsn), (.int .i64 c.stream), (.int .i64 c.ssn), (W c.proto), (.string (c.data.extract 0 (min c.data.size 950))), (W c.tag), (W c.rwnd), (.int .i64 c.outs), (.int .i64 c.ins), (.slice (some ⟨j0, 0, none⟩) (min c.ps.length 18) 0), (.slice (some ⟨j, 0, none⟩) i 0), c.gv, c.dv]
abbrev xCh6 (c : Chk) (n1 : Nat) (i : Nat) (n : Nat) : List Value := [(.int .i64 c.typ), (.int .i64 c.flags), (W c.tsn), (.int .i64 c.stream), (.int .i64 c.ssn), (W c.proto), (.string (c.data.extract 0 (min c.data.size 950))), (W c.tag), (W c.rwnd), (.int .i64 c.outs), (.int .i64 c.ins), (.slice (some ⟨(n1 + 1), 0, none⟩) (i + 1) 0), (.slice (some ⟨(n + 4), 0, none⟩) 0 0), c.gv, c.dv]
abbrev xCh7 (c : Chk) (n : Nat) : List Value := [(.int .i64 c.typ), (.int .i64 c.flags), (W c.tsn), (.int .i64 c.stream), (.int .i64 c.ssn), (W c.proto), (.string (c.data.extract 0 (min c.data.size 950))), (W c.tag), (W c.rwnd), (.int .i64 c.outs), (.int .i64 c.ins), (.slice (some ⟨(n + 3), 0, none⟩) 0 0), (.slice (some ⟨(n + 4), 0, none⟩) 0 0), c.gv, c.dv]
abbrev xCh8 (c : Chk) (j : Nat) (i : Nat) (n : Nat) : List Value := [(.int .i64 c.typ), (.int .i64 c.flags), (W c.tsn), (.int .i64 c.stream), (.int .i64 c.ssn), (W c.proto), (.string (c.data.extract 0 (min c.data.size 950))), (W c.tag), (W c.rwnd), (.int .i64 c.outs), (.int .i64 c.ins), (.slice (some ⟨j, 0, none⟩) i 0), (.slice (some ⟨(n + 4), 0, none⟩) 0 0), c.gv, c.dv]
abbrev xCh9 : List Value := [(.int .i64 0), (.int .i64 0), (.int .u32 0), (.int .i64 0), (.int .i64 0), (.int .u32 0), (.string ByteArray.empty), (.int .u32 0), (.int .u32 0), (.int .i64 0), (.int .i64 0), (.slice none 0 0), (.slice none 0 0), (.slice none 0 0), (.slice none 0 0)]
abbrev xCh10 (c : Chk) : List Value := [(.int .i64 c.typ), (.int .i64 c.flags), (W c.tsn), (.int .i64 c.stream), (.int .i64 c.ssn), (W c.proto), (.string c.data), (W c.tag), (W c.rwnd), (.int .i64 c.outs), (.int .i64 c.ins), c.pv, c.cv, c.gv, c.dv]
abbrev xCh11 (c : Chk) (i : Nat) : List Value := [(.int .i64 (c.cs.getD i dCau).code), (.string ((c.cs.getD i dCau).info.extract 0 (min (c.cs.getD i dCau).info.size 60)))]
abbrev xCh12 (c : Chk) (i : Nat) : List Value := [(.int .i64 (c.ps.getD i dPrm).typ), (.string ((c.ps.getD i dPrm).val.extract 0 (min (c.ps.getD i dPrm).val.size 60)))]
theorem chCut {n : Nat} {σ : Store} (hd : Dom n σ) (hn0 : 0 < n) (c : Chk) (hok : okChk σ c)   : CQ Try.prog noDen 49 [(.agg ⟨(cChk c)⟩)] n σ (fun v n' d => ∃ j0 j1, n ≤ j0 ∧ j0 < n' ∧ n ≤ j1 ∧ j1 < n' ∧ j0 ≠ j1 ∧ v = .agg ⟨[(.int .i64 c.typ), (.int .i64 c.flags), (W c.tsn), (.int .i64 c.stream), (.int .i64 c.ssn), (W c.proto), (.string (c.data.extract 0 (min c.data.size 950))), (W c.tag), (W c.rwnd), (.int .i64 c.outs), (.int .i64 c.ins), (.slice (some ⟨j0, 0, none⟩) (min c.ps.length 18) 0), (.slice (some ⟨j1, 0, none⟩) (min c.cs.length 18) 0), (cutV c.gv (min c.gs.length 18)), (cutV c.dv (min c.ds.length 18))]⟩ ∧ d = [(j0, some (oPrm ((c.ps.take (min c.ps.length 18)).map cutPrm))), (j1, some (oCau ((c.cs.take (min c.cs.length 18)).map cutCau)))]) := by
 have rl0 := (hok.1).lt hd hn0
 have rl1 := (hok.2.1).lt hd hn0
 have rl2 := (hok.2.2.1).lt hd hn0
 have rl3 := (hok.2.2.2).lt hd hn0
 refine CQ.body (E := env) env_ok hd rfl rfl (by show _ ≤ _; exact of_decide_eq_true (by kernel_rfl)) ?_
 refine RA.sR hd env_ok <| o1 (some 1) (Pt n 0 0) (n + 1) (n, some ⟨[(cChk c)], 15, 54, true⟩) (r_box (cs := (cChk c)) rfl rfl rfl (Nat.le_of_ble_eq_true rfl) (by simp only [List.all_cons, List.all_nil, Bool.and_true, Bool.and_eq_true, cChk]; exact ⟨rfl, rfl, rfl, rfl, rfl, rfl, rfl, rfl, rfl, rfl, rfl, (hok.1).one, (hok.2.1).one, (hok.2.2.1).one, (hok.2.2.2).one⟩)) <| o1 (some 2) (.pointer (some ⟨(n + 1), 0, some 0⟩)) (n + 2) ((n + 1), some ⟨[xCh9], 15, 54, true⟩) rfl <| OA.nil fun _ => RA.sR hd env_ok <| oP 6 (.agg ⟨(xCh10 c)⟩) rfl (r_loadA rfl rfl rfl rfl (get_there (by omega) get_here) rfl rfl rfl) <| o1 (some 3) (.pointer (some ⟨(n + 2), 0, some 0⟩)) (n + 3) ((n + 2), some ⟨[xCh9], 15, 54, true⟩) rfl <| o1 none yU (n + 3) ((n + 2), some ⟨[(xCh10 c)], 15, 54, true⟩) (r_store (cs := (xCh10 c)) rfl rfl rfl rfl rfl rfl (by simp only [List.all_cons, List.all_nil, Bool.and_true, Bool.and_eq_true]; exact ⟨rfl, rfl, rfl, rfl, rfl, rfl, rfl, rfl, rfl, rfl, rfl, (hok.1).one, (hok.2.1).one, (hok.2.2.1).one, (hok.2.2.2).one⟩) get_here rfl rfl (Nat.le_of_ble_eq_true rfl) rfl) <| OA.nil fun _ => RA.weaken hd (LsO (fA get_here get_here (fA (get_there (by omega) get_here) (gt2 (by omega) get_here) (fA (gt2 (by omega) get_here) (gt3 (by omega) get_here) fan)))) <| RA.sR hd env_ok ?_
 refine OA.ps [(7, (Pt n 0 6))] rfl <| oL 8 (.string c.data) (gt2 (by omega) get_here) <| OA.ps [(9, (Pt n 0 6))] rfl <| oL 10 (.string c.data) (gt2 (by omega) get_here) <| OA.ps [(11, (.int .i64 ((c.data.size : Nat) : Int)))] rfl <| oP 12 (.int .i64 (((min c.data.size 950) : Nat) : Int)) rfl (r_min (a := c.data.size) (b := 950) rfl rfl rfl) <| oP 13 (.string (c.data.extract 0 (min c.data.size 950))) rfl (r_cut (a := 0) (b := (min c.data.size 950)) rfl rfl (fun _ => rfl) (fun _ => rfl) rfl rfl rfl bound_nat (by omega) (by omega) rfl) <| OA.ps [(14, (.pointer (some ⟨(n + 2), 0, some 6⟩)))] rfl <| o1 none yU (n + 3) ((n + 2), some ⟨[[(.int .i64 c.typ), (.int .i64 c.flags), (W c.tsn), (.int .i64 c.stream), (.int .i64 c.ssn), (W c.proto), (.string (c.data.extract 0 (min c.data.size 950))), (W c.tag), (W c.rwnd), (.int .i64 c.outs), (.int .i64 c.ins), c.pv, c.cv, c.gv, c.dv]], 15, 54, true⟩) (rS get_here) <| OA.nil fun _ => RA.weaken hd (LsO (fA get_here get_here (fA (get_there (by omega) get_here) (gt2 (by omega) get_here) (fA (gt2 (by omega) get_here) (gt3 (by omega) get_here) fan)))) ?_
 refine RA.sR hd env_ok <| o1 (some 15) (.slice (some ⟨(n + 3), 0, none⟩) 0 0) (n + 4) ((n + 3), some (oPrm ([] : List Prm))) (by kernel_rfl) <| o1 (some 16) (.slice (some ⟨(n + 4), 0, none⟩) 0 0) (n + 5) ((n + 4), some (oCau ([] : List Cau))) (by kernel_rfl) <| OA.ps [(17, (.pointer (some ⟨(n + 2), 0, some 11⟩)))] rfl <| o1 none yU (n + 5) ((n + 2), some ⟨[[(.int .i64 c.typ), (.int .i64 c.flags), (W c.tsn), (.int .i64 c.stream), (.int .i64 c.ssn), (W c.proto), (.string (c.data.extract 0 (min c.data.size 950))), (W c.tag), (W c.rwnd), (.int .i64 c.outs), (.int .i64 c.ins), (.slice (some ⟨(n + 3), 0, none⟩) 0 0), c.cv, c.gv, c.dv]], 15, 54, true⟩) (rS (gt2 (by omega) get_here)) <| OA.ps [(18, (.pointer (some ⟨(n + 2), 0, some 12⟩)))] rfl <| o1 none yU (n + 5) ((n + 2), some ⟨[(xCh7 c n)], 15, 54, true⟩) (rS get_here) <| OA.nil fun _ => RA.weaken hd (LsO (fA get_here get_here (fA (get_there (by omega) get_here) (gt2 (by omega) get_here) (fA (gt2 (by omega) get_here) (gt3 (by omega) get_here) (fA (gt3 (by omega) get_here) (gt5 (by omega) get_here) (fA (gt4 (by omega) get_here) (gt6 (by omega) get_here) fan)))))) <| RA.seq hd (RA.imp (Q := fun x τ' n' D' => x = .normal ∧ ((∃ j0 : Nat, Has τ' [(1, (Pt n 0 0)), (2, (.pointer (some ⟨(n + 1), 0, some 0⟩))), (3, (.pointer (some ⟨(n + 2), 0, some 0⟩)))] ∧ (∃ D2, Less n n' D' D2 ∧ D2 = [(n, some ⟨[(cChk c)], 15, 54, true⟩), ((n + 1), some ⟨[xCh9], 15, 54, true⟩), ((n + 2), some ⟨[[(.int .i64 c.typ), (.int .i64 c.flags), (W c.tsn), (.int .i64 c.stream), (.int .i64 c.ssn), (W c.proto), (.string (c.data.extract 0 (min c.data.size 950))), (W c.tag), (W c.rwnd), (.int .i64 c.outs), (.int .i64 c.ins), (.slice (some ⟨j0, 0, none⟩) (min c.ps.length 18) 0), (.slice (some ⟨(n + 4), 0, none⟩) 0 0), c.gv, c.dv]], 15, 54, true⟩), (j0, some (oPrm ((c.ps.take (min c.ps.length 18)).map cutPrm))), ((n + 4), some (oCau ([] : List Cau)))]) ∧ (n + 5) ≤ n' ∧ (∀ i_ ∈ keys [(n, some ⟨[(cChk c)], 15, 54, true⟩), ((n + 1), some ⟨[xCh9], 15, 54, true⟩), ((n + 2), some ⟨[[(.int .i64 c.typ), (.int .i64 c.flags), (W c.tsn), (.int .i64 c.stream), (.int .i64 c.ssn), (W c.proto), (.string (c.data.extract 0 (min c.data.size 950))), (W c.tag), (W c.rwnd), (.int .i64 c.outs), (.int .i64 c.ins), (.slice (some ⟨j0, 0, none⟩) (min c.ps.length 18) 0), (.slice (some ⟨(n + 4), 0, none⟩) 0 0), c.gv, c.dv]], 15, 54, true⟩), (j0, some (oPrm ((c.ps.take (min c.ps.length 18)).map cutPrm))), ((n + 4), some (oCau ([] : List Cau)))], i_ < n') ∧ n + 3 ≤ j0 ∧ j0 ≠ n + 4))) ?_ ?_)
 ·
  refine RA.sR hd env_ok <| OA.ps [(4, (.int .i64 0))] rfl <| OA.nil fun _ => RA.block <| RA.weaken hd (LsO (fA get_here (gt4 (by omega) get_here) (fA (get_there (by omega) get_here) (gt3 (by omega) get_here) (fA (gt2 (by omega) get_here) get_here (fA (gt3 (by omega) get_here) (gt2 (by omega) get_here) (fA (gt4 (by omega) get_here) (get_there (by omega) get_here) fan)))))) ?_
  refine RA.loop hd (fun kk_ τ n' D => (∃ i : Nat, ∃ j : Nat, kk_ = (18 - i) ∧ (n + 5) ≤ n' ∧ Has τ [(1, (Pt n 0 0)), (2, (.pointer (some ⟨(n + 1), 0, some 0⟩))), (3, (.pointer (some ⟨(n + 2), 0, some 0⟩))), (4, (.int .i64 ((i : Nat) : Int)))] ∧ D = [(n, some ⟨[(cChk c)], 15, 54, true⟩), ((n + 1), some ⟨[xCh9], 15, 54, true⟩), ((n + 2), some ⟨[(xCh8 c j i n)], 15, 54, true⟩), (j, some (oPrm ((c.ps.take i).map cutPrm))), ((n + 4), some (oCau ([] : List Cau)))] ∧ (∀ i ∈ keys D, i < n') ∧ i ≤ c.ps.length ∧ i ≤ 18 ∧ n + 3 ≤ j ∧ j ≠ n + 4)) ((18 - 0)) (⟨0, (n + 3), rfl, by omega, ⟨rfl, rfl, rfl, rfl, trivial⟩, rfl, (kb5 (by omega)), ⟨by omega, by omega, by omega, by omega⟩⟩) ?_
  rintro kn1 τ1 n1 _ ⟨i, j, rfl, hn1, hHn1, rfl, hKn1, hIn1⟩
  rw [Has.eq hHn1]
  have hKn1_0 := kk0 hKn1
  have hKn1_1 := kk1 hKn1
  have hKn1_2 := kk2 hKn1
  have hKn1_3 := kk3 hKn1
  have hKn1_4 := kk4 hKn1
  clear hKn1
  obtain ⟨hi1, hi2, hj1, hj2⟩ := hIn1
  refine RA.seq hd <| RA.sR hd env_ok <| OA.ps [(19, (.int .i64 ((i : Nat) : Int))), (20, (Pt n 0 11))] rfl <| oL 21 c.pv get_here <| oP 22 (.int .i64 ((c.ps.length : Nat) : Int)) rfl (r_lenP (c := cPrm) rfl rfl rfl rfl rfl rfl hok.1 rfl) ?_
  by_cases hc1 : ((i : Nat) : Int) < ((c.ps.length : Nat) : Int)
  ·
   obtain ⟨rps, hatps⟩ := hok.1.get (m := i) (by omega)
   have lathatps := hd.lt hatps
   refine oP 23 yT rfl (Eq.trans (r_bin rfl rfl rfl (b_lss rfl)) (dT hc1)) <| OA.ps [(24, yT), (25, (.int .i64 ((i : Nat) : Int)))] rfl ?_
   by_cases hc2 : ((i : Nat) : Int) < 18
   ·
    refine oP 26 yT rfl (Eq.trans (r_bin rfl rfl rfl (b_lss rfl)) (dT hc2)) <| OA.ps [(27, yT)] rfl <| OA.nil fun _ => RA.condT rfl <| RA.skip env_ok ?_
    intro _
    refine RA.seq hd <| RA.block <| RA.par (md := [some [], some [(n + 2)], some [], some [n], some [], none, some [], none, some [], some [n], some [], none, some [], none, some [], some [n], some [], none, some [], none, some [], some [], some [], some [], some [], none, some [], none]) env_ok (hd.of (by omega) (kb5 (by omega))) (by kernel_rfl) <| PQ.ps [(30, (.pointer (some ⟨(n + 2), 0, some 11⟩)))] rfl <| pQl 31 (.slice (some ⟨j, 0, none⟩) i 0) (gt2 (by omega) get_here) <| PQ.ps [(32, (Pt n 0 11))] rfl <| pQl 33 c.pv get_here <| PQ.ps [(34, (.int .i64 ((i : Nat) : Int)))] rfl <| PQ.pure (dst := (some 35)) (v := (.pointer (some ⟨(rk c.pv), i, some 0⟩))) rfl rfl rfl _ (sA (V := []) (by kernel_rfl) (by kernel_rfl)) (r_iaP (c := cPrm) (m := i) rfl rfl rfl rfl rfl rfl hok.1 rfl (by omega) (gt5 (by omega) hatps) rfl) <| PQ.ps [(36, (.pointer (some ⟨(rk c.pv), i, some 0⟩)))] rfl <| PQ.pure (dst := (some 37)) (v := (.int .i64 (c.ps.getD i dPrm).typ)) rfl rfl rfl _ (sA (V := []) (by kernel_rfl) (by kernel_rfl)) (r_load1 (e := cPrm (c.ps.getD i dPrm)) rfl rfl rfl rfl rfl (gt5 (by omega) hatps) (mp_getA (by omega)) rfl) ?_
    refine PQ.ps [(38, (Pt n 0 11))] rfl <| pQl 39 c.pv get_here <| PQ.ps [(40, (.int .i64 ((i : Nat) : Int)))] rfl <| PQ.pure (dst := (some 41)) (v := (.pointer (some ⟨(rk c.pv), i, some 0⟩))) rfl rfl rfl _ (sA (V := []) (by kernel_rfl) (by kernel_rfl)) (r_iaP (c := cPrm) (m := i) rfl rfl rfl rfl rfl rfl hok.1 rfl (by omega) (gt5 (by omega) hatps) rfl) <| PQ.ps [(42, (.pointer (some ⟨(rk c.pv), i, some 1⟩)))] rfl <| PQ.pure (dst := (some 43)) (v := (.string (c.ps.getD i dPrm).val)) rfl rfl rfl _ (sA (V := []) (by kernel_rfl) (by kernel_rfl)) (r_load1 (e := cPrm (c.ps.getD i dPrm)) rfl rfl rfl rfl rfl (gt5 (by omega) hatps) (mp_getA (by omega)) rfl) <| PQ.ps [(44, (Pt n 0 11))] rfl <| pQl 45 c.pv get_here <| PQ.ps [(46, (.int .i64 ((i : Nat) : Int)))] rfl <| PQ.pure (dst := (some 47)) (v := (.pointer (some ⟨(rk c.pv), i, some 0⟩))) rfl rfl rfl _ (sA (V := []) (by kernel_rfl) (by kernel_rfl)) (r_iaP (c := cPrm) (m := i) rfl rfl rfl rfl rfl rfl hok.1 rfl (by omega) (gt5 (by omega) hatps) rfl) <| PQ.ps [(48, (.pointer (some ⟨(rk c.pv), i, some 1⟩)))] rfl ?_
    refine PQ.pure (dst := (some 49)) (v := (.string (c.ps.getD i dPrm).val)) rfl rfl rfl _ (sA (V := []) (by kernel_rfl) (by kernel_rfl)) (r_load1 (e := cPrm (c.ps.getD i dPrm)) rfl rfl rfl rfl rfl (gt5 (by omega) hatps) (mp_getA (by omega)) rfl) <| PQ.ps [(50, (.int .i64 (((c.ps.getD i dPrm).val.size : Nat) : Int)))] rfl <| pP 51 (.int .i64 (((min (c.ps.getD i dPrm).val.size 60) : Nat) : Int)) rfl (r_min (a := (c.ps.getD i dPrm).val.size) (b := 60) rfl rfl rfl) <| pP 52 (.string ((c.ps.getD i dPrm).val.extract 0 (min (c.ps.getD i dPrm).val.size 60))) rfl (r_cut (a := 0) (b := (min (c.ps.getD i dPrm).val.size 60)) rfl rfl (fun _ => rfl) (fun _ => rfl) rfl rfl rfl bound_nat (by omega) (by omega) rfl) <| pP 53 (.agg ⟨(xCh12 c i)⟩) rfl (by kernel_rfl) <| PQ.op (dst := (some 54)) (v := (.slice (some ⟨n1, 0, none⟩) 1 0)) (n1 := (n1 + 1)) (d1 := [(n1, some ⟨[(xCh12 c i)], 2, 96, true⟩)]) rfl rfl rfl noStore nOK (by kernel_rfl) (by omega) (kp1 (wr_new (by omega) (by omega))) <| PQ.op (dst := (some 55)) (v := (.slice (some ⟨(n1 + 1), 0, none⟩) (i + 1) 0)) (n1 := (n1 + 2)) (d1 := [((n1 + 1), some (oPrm ((c.ps.take (i + 1)).map cutPrm))), (j, none)]) rfl rfl rfl _ (sA (V := [(n1, some ⟨[(xCh12 c i)], 2, 96, true⟩)]) (by kernel_rfl) (by kernel_rfl)) (r_appendR (c := cPrm) (l' := ((c.ps.take (i + 1)).map cutPrm)) rfl rfl rfl rfl rfl rfl rfl rfl rfl rfl (by decide) (gt4 (by omega) get_here) get_here (by rw [cutPrm_len (by omega)]) (cutPrm_snoc (by omega)) (by omega) (of_decide_eq_true (by kernel_rfl)) (by omega)) (by omega) (kp2 (wr_new (by omega) (by omega)) (wr_tight (by kernel_rfl) (by omega))) <| PQ.ps [(56, (.pointer (some ⟨(n + 2), 0, some 11⟩)))] rfl <| PQ.op (dst := none) (v := (.tuple #[])) (n1 := (n1 + 2)) (d1 := [((n + 2), some ⟨[(xCh6 c n1 i n)], 15, 54, true⟩)]) rfl rfl rfl _ (sA (V := [((n1 + 1), some (oPrm ((c.ps.take (i + 1)).map cutPrm))), (j, none), (n1, some ⟨[(xCh12 c i)], 2, 96, true⟩)]) (by kernel_rfl) (by kernel_rfl)) (rS (gt5 (by omega) get_here)) (by omega) (kp1 (wr_tight (by kernel_rfl) (by omega))) <| PQ.done (d := [((n + 2), some ⟨[(xCh6 c n1 i n)], 15, 54, true⟩), ((n1 + 1), some (oPrm ((c.ps.take (i + 1)).map cutPrm))), (j, none), (n1, some ⟨[(xCh12 c i)], 2, 96, true⟩)]) (by kernel_rfl) fun _ => RA.weaken hd (LsO (fA get_here get_here (fA (get_there (by omega) get_here) (get_there (by omega) get_here) (fA (gt2 (by omega) get_here) (gt2 (by omega) get_here) (fA (gt3 (by omega) get_here) (gt3 (by omega) get_here) (fA (gt4 (by omega) get_here) (gt4 (by omega) get_here) (fA (gt5 (by omega) get_here) (gt5 (by omega) get_here) (fA (gt6 (by omega) get_here) (gt8 (by omega) get_here) fan)))))))) ?_
    refine RA.rb [(1, (Pt n 0 0)), (2, (.pointer (some ⟨(n + 1), 0, some 0⟩))), (3, (.pointer (some ⟨(n + 2), 0, some 0⟩))), (4, (.int .i64 ((i : Nat) : Int))), (27, yT)] rfl (fun τr2 => ?_)
    refine RA.region env_ok <| OA.ps [(28, (.int .i64 ((i : Nat) : Int)))] rfl <| oP 29 (.int .i64 (((i + 1) : Nat) : Int)) rfl (r_bin rfl rfl rfl (b_add (i64_eq (by omega)))) <| OA.ps [(4, (.int .i64 (((i + 1) : Nat) : Int)))] rfl <| OA.nil ?_
    refine ⟨(18 - (i + 1)), by omega, [(n, some ⟨[(cChk c)], 15, 54, true⟩), ((n + 1), some ⟨[xCh9], 15, 54, true⟩), ((n + 2), some ⟨[(xCh6 c n1 i n)], 15, 54, true⟩), ((n1 + 1), some (oPrm ((c.ps.take (i + 1)).map cutPrm))), ((n + 4), some (oCau ([] : List Cau)))], (LsO (fA get_here (gt4 (by omega) get_here) (fA (get_there (by omega) get_here) (gt5 (by omega) get_here) (fA (gt2 (by omega) get_here) get_here (fA (gt3 (by omega) get_here) (get_there (by omega) get_here) (fA (gt4 (by omega) get_here) (gt6 (by omega) get_here) fan)))))), ⟨(i + 1), (n1 + 1), rfl, by omega, ⟨rfl, rfl, rfl, rfl, trivial⟩, rfl, (kb5 (by omega)), ⟨by omega, by omega, by omega, by omega⟩⟩⟩
   ·
    refine oP 26 yF rfl (Eq.trans (r_bin rfl rfl rfl (b_lss rfl)) (dF hc2)) <| OA.ps [(27, yF)] rfl <| OA.nil fun _ => RA.condF rfl ?_
    refine RA.exit env_ok ?_
    exact ⟨rfl, ⟨j, ⟨rfl, rfl, rfl, trivial⟩, ⟨[(n, some ⟨[(cChk c)], 15, 54, true⟩), ((n + 1), some ⟨[xCh9], 15, 54, true⟩), ((n + 2), some ⟨[(xCh8 c j i n)], 15, 54, true⟩), (j, some (oPrm ((c.ps.take i).map cutPrm))), ((n + 4), some (oCau ([] : List Cau)))], (Less.refl _ _ _), (by rw [show i = (min c.ps.length 18) from by omega])⟩, by omega, (kb5 (by omega)), ⟨by omega, by omega⟩⟩⟩
  ·
   refine oP 23 yF rfl (Eq.trans (r_bin rfl rfl rfl (b_lss rfl)) (dF hc1)) <| OA.ps [(24, yF)] rfl <| OA.offs 25 2 rfl <| OA.ps [(27, yF)] rfl <| OA.nil fun _ => RA.condF rfl ?_
   refine RA.exit env_ok ?_
   exact ⟨rfl, ⟨j, ⟨rfl, rfl, rfl, trivial⟩, ⟨[(n, some ⟨[(cChk c)], 15, 54, true⟩), ((n + 1), some ⟨[xCh9], 15, 54, true⟩), ((n + 2), some ⟨[(xCh8 c j i n)], 15, 54, true⟩), (j, some (oPrm ((c.ps.take i).map cutPrm))), ((n + 4), some (oCau ([] : List Cau)))], (Less.refl _ _ _), (by rw [show i = (min c.ps.length 18) from by omega])⟩, by omega, (kb5 (by omega)), ⟨by omega, by omega⟩⟩⟩
 ·
  rintro _ τ3 n3 Dn3 hmn3 ⟨rfl, hSn3⟩
  rcases hSn3 with ⟨j0, hHn3, ⟨_, hLn3, rfl⟩, hn3, hKn3, hIn3⟩
  intro _
  refine RA.weaken hd hLn3 ?_
  rw [Has.eq hHn3]
  have hKn3_0 := kk0 hKn3
  have hKn3_1 := kk1 hKn3
  have hKn3_2 := kk2 hKn3
  have hKn3_3 := kk3 hKn3
  have hKn3_4 := kk4 hKn3
  clear hKn3
  obtain ⟨hj1, hj2⟩ := hIn3
  refine RA.seq hd (RA.imp (Q := fun x τ' n' D' => x = .normal ∧ ((∃ j1 : Nat, Has τ' [(1, (Pt n 0 0)), (2, (.pointer (some ⟨(n + 1), 0, some 0⟩))), (3, (.pointer (some ⟨(n + 2), 0, some 0⟩)))] ∧ (∃ D2, Less n n' D' D2 ∧ D2 = [(n, some ⟨[(cChk c)], 15, 54, true⟩), ((n + 1), some ⟨[xCh9], 15, 54, true⟩), ((n + 2), some ⟨[(xCh3 c j0 j1)], 15, 54, true⟩), (j0, some (oPrm ((c.ps.take (min c.ps.length 18)).map cutPrm))), (j1, some (oCau ((c.cs.take (min c.cs.length 18)).map cutCau)))]) ∧ n3 ≤ n' ∧ (∀ i_ ∈ keys [(n, some ⟨[(cChk c)], 15, 54, true⟩), ((n + 1), some ⟨[xCh9], 15, 54, true⟩), ((n + 2), some ⟨[(xCh3 c j0 j1)], 15, 54, true⟩), (j0, some (oPrm ((c.ps.take (min c.ps.length 18)).map cutPrm))), (j1, some (oCau ((c.cs.take (min c.cs.length 18)).map cutCau)))], i_ < n') ∧ n + 3 ≤ j1 ∧ j0 ≠ j1))) ?_ ?_)
  ·
   refine RA.sR hd env_ok <| OA.ps [(5, (.int .i64 0))] rfl <| OA.nil fun _ => RA.block ?_
   refine RA.loop hd (fun kk_ τ n' D => (∃ i : Nat, ∃ j : Nat, kk_ = (18 - i) ∧ n3 ≤ n' ∧ Has τ [(1, (Pt n 0 0)), (2, (.pointer (some ⟨(n + 1), 0, some 0⟩))), (3, (.pointer (some ⟨(n + 2), 0, some 0⟩))), (5, (.int .i64 ((i : Nat) : Int)))] ∧ D = [(n, some ⟨[(cChk c)], 15, 54, true⟩), ((n + 1), some ⟨[xCh9], 15, 54, true⟩), ((n + 2), some ⟨[(xCh5 c j0 j i)], 15, 54, true⟩), (j0, some (oPrm ((c.ps.take (min c.ps.length 18)).map cutPrm))), (j, some (oCau ((c.cs.take i).map cutCau)))] ∧ (∀ i ∈ keys D, i < n') ∧ i ≤ c.cs.length ∧ i ≤ 18 ∧ n + 3 ≤ j ∧ j0 ≠ j)) ((18 - 0)) (⟨0, (n + 4), rfl, by omega, ⟨rfl, rfl, rfl, rfl, trivial⟩, rfl, (kb5 (by omega)), ⟨by omega, by omega, by omega, by omega⟩⟩) ?_
   rintro kn4 τ4 n4 _ ⟨i, j, rfl, hn4, hHn4, rfl, hKn4, hIn4⟩
   rw [Has.eq hHn4]
   have hKn4_0 := kk0 hKn4
   have hKn4_1 := kk1 hKn4
   have hKn4_2 := kk2 hKn4
   have hKn4_3 := kk3 hKn4
   have hKn4_4 := kk4 hKn4
   clear hKn4
   obtain ⟨hi1, hi2, hj3, hj4⟩ := hIn4
   refine RA.seq hd <| RA.sR hd env_ok <| OA.ps [(57, (.int .i64 ((i : Nat) : Int))), (58, (Pt n 0 12))] rfl <| oL 59 c.cv get_here <| oP 60 (.int .i64 ((c.cs.length : Nat) : Int)) rfl (r_lenP (c := cCau) rfl rfl rfl rfl rfl rfl hok.2.1 rfl) ?_
   by_cases hc3 : ((i : Nat) : Int) < ((c.cs.length : Nat) : Int)
   ·
    obtain ⟨rcs, hatcs⟩ := hok.2.1.get (m := i) (by omega)
    have lathatcs := hd.lt hatcs
    refine oP 61 yT rfl (Eq.trans (r_bin rfl rfl rfl (b_lss rfl)) (dT hc3)) <| OA.ps [(62, yT), (63, (.int .i64 ((i : Nat) : Int)))] rfl ?_
    by_cases hc4 : ((i : Nat) : Int) < 18
    ·
     refine oP 64 yT rfl (Eq.trans (r_bin rfl rfl rfl (b_lss rfl)) (dT hc4)) <| OA.ps [(65, yT)] rfl <| OA.nil fun _ => RA.condT rfl <| RA.skip env_ok ?_
     intro _
     refine RA.seq hd <| RA.block <| RA.par (md := [some [], some [(n + 2)], some [], some [n], some [], none, some [], none, some [], some [n], some [], none, some [], none, some [], some [n], some [], none, some [], none, some [], some [], some [], some [], some [], none, some [], none]) env_ok (hd.of (by omega) (kb5 (by omega))) (by kernel_rfl) <| PQ.ps [(68, (.pointer (some ⟨(n + 2), 0, some 12⟩)))] rfl <| pQl 69 (.slice (some ⟨j, 0, none⟩) i 0) (gt2 (by omega) get_here) <| PQ.ps [(70, (Pt n 0 12))] rfl <| pQl 71 c.cv get_here <| PQ.ps [(72, (.int .i64 ((i : Nat) : Int)))] rfl <| PQ.pure (dst := (some 73)) (v := (.pointer (some ⟨(rk c.cv), i, some 0⟩))) rfl rfl rfl _ (sA (V := []) (by kernel_rfl) (by kernel_rfl)) (r_iaP (c := cCau) (m := i) rfl rfl rfl rfl rfl rfl hok.2.1 rfl (by omega) (gt5 (by omega) hatcs) rfl) <| PQ.ps [(74, (.pointer (some ⟨(rk c.cv), i, some 0⟩)))] rfl <| PQ.pure (dst := (some 75)) (v := (.int .i64 (c.cs.getD i dCau).code)) rfl rfl rfl _ (sA (V := []) (by kernel_rfl) (by kernel_rfl)) (r_load1 (e := cCau (c.cs.getD i dCau)) rfl rfl rfl rfl rfl (gt5 (by omega) hatcs) (mp_getA (by omega)) rfl) ?_
     refine PQ.ps [(76, (Pt n 0 12))] rfl <| pQl 77 c.cv get_here <| PQ.ps [(78, (.int .i64 ((i : Nat) : Int)))] rfl <| PQ.pure (dst := (some 79)) (v := (.pointer (some ⟨(rk c.cv), i, some 0⟩))) rfl rfl rfl _ (sA (V := []) (by kernel_rfl) (by kernel_rfl)) (r_iaP (c := cCau) (m := i) rfl rfl rfl rfl rfl rfl hok.2.1 rfl (by omega) (gt5 (by omega) hatcs) rfl) <| PQ.ps [(80, (.pointer (some ⟨(rk c.cv), i, some 1⟩)))] rfl <| PQ.pure (dst := (some 81)) (v := (.string (c.cs.getD i dCau).info)) rfl rfl rfl _ (sA (V := []) (by kernel_rfl) (by kernel_rfl)) (r_load1 (e := cCau (c.cs.getD i dCau)) rfl rfl rfl rfl rfl (gt5 (by omega) hatcs) (mp_getA (by omega)) rfl) <| PQ.ps [(82, (Pt n 0 12))] rfl <| pQl 83 c.cv get_here <| PQ.ps [(84, (.int .i64 ((i : Nat) : Int)))] rfl <| PQ.pure (dst := (some 85)) (v := (.pointer (some ⟨(rk c.cv), i, some 0⟩))) rfl rfl rfl _ (sA (V := []) (by kernel_rfl) (by kernel_rfl)) (r_iaP (c := cCau) (m := i) rfl rfl rfl rfl rfl rfl hok.2.1 rfl (by omega) (gt5 (by omega) hatcs) rfl) <| PQ.ps [(86, (.pointer (some ⟨(rk c.cv), i, some 1⟩)))] rfl ?_
     refine PQ.pure (dst := (some 87)) (v := (.string (c.cs.getD i dCau).info)) rfl rfl rfl _ (sA (V := []) (by kernel_rfl) (by kernel_rfl)) (r_load1 (e := cCau (c.cs.getD i dCau)) rfl rfl rfl rfl rfl (gt5 (by omega) hatcs) (mp_getA (by omega)) rfl) <| PQ.ps [(88, (.int .i64 (((c.cs.getD i dCau).info.size : Nat) : Int)))] rfl <| pP 89 (.int .i64 (((min (c.cs.getD i dCau).info.size 60) : Nat) : Int)) rfl (r_min (a := (c.cs.getD i dCau).info.size) (b := 60) rfl rfl rfl) <| pP 90 (.string ((c.cs.getD i dCau).info.extract 0 (min (c.cs.getD i dCau).info.size 60))) rfl (r_cut (a := 0) (b := (min (c.cs.getD i dCau).info.size 60)) rfl rfl (fun _ => rfl) (fun _ => rfl) rfl rfl rfl bound_nat (by omega) (by omega) rfl) <| pP 91 (.agg ⟨(xCh11 c i)⟩) rfl (by kernel_rfl) <| PQ.op (dst := (some 92)) (v := (.slice (some ⟨n4, 0, none⟩) 1 0)) (n1 := (n4 + 1)) (d1 := [(n4, some ⟨[(xCh11 c i)], 2, 98, true⟩)]) rfl rfl rfl noStore nOK (by kernel_rfl) (by omega) (kp1 (wr_new (by omega) (by omega))) <| PQ.op (dst := (some 93)) (v := (.slice (some ⟨(n4 + 1), 0, none⟩) (i + 1) 0)) (n1 := (n4 + 2)) (d1 := [((n4 + 1), some (oCau ((c.cs.take (i + 1)).map cutCau))), (j, none)]) rfl rfl rfl _ (sA (V := [(n4, some ⟨[(xCh11 c i)], 2, 98, true⟩)]) (by kernel_rfl) (by kernel_rfl)) (r_appendR (c := cCau) (l' := ((c.cs.take (i + 1)).map cutCau)) rfl rfl rfl rfl rfl rfl rfl rfl rfl rfl (by decide) (gt5 (by omega) get_here) get_here (by rw [cutCau_len (by omega)]) (cutCau_snoc (by omega)) (by omega) (of_decide_eq_true (by kernel_rfl)) (by omega)) (by omega) (kp2 (wr_new (by omega) (by omega)) (wr_tight (by kernel_rfl) (by omega))) <| PQ.ps [(94, (.pointer (some ⟨(n + 2), 0, some 12⟩)))] rfl <| PQ.op (dst := none) (v := (.tuple #[])) (n1 := (n4 + 2)) (d1 := [((n + 2), some ⟨[(xCh4 c j0 n4 i)], 15, 54, true⟩)]) rfl rfl rfl _ (sA (V := [((n4 + 1), some (oCau ((c.cs.take (i + 1)).map cutCau))), (j, none), (n4, some ⟨[(xCh11 c i)], 2, 98, true⟩)]) (by kernel_rfl) (by kernel_rfl)) (rS (gt5 (by omega) get_here)) (by omega) (kp1 (wr_tight (by kernel_rfl) (by omega))) <| PQ.done (d := [((n + 2), some ⟨[(xCh4 c j0 n4 i)], 15, 54, true⟩), ((n4 + 1), some (oCau ((c.cs.take (i + 1)).map cutCau))), (j, none), (n4, some ⟨[(xCh11 c i)], 2, 98, true⟩)]) (by kernel_rfl) fun _ => RA.weaken hd (LsO (fA get_here get_here (fA (get_there (by omega) get_here) (get_there (by omega) get_here) (fA (gt2 (by omega) get_here) (gt2 (by omega) get_here) (fA (gt3 (by omega) get_here) (gt3 (by omega) get_here) (fA (gt4 (by omega) get_here) (gt4 (by omega) get_here) (fA (gt5 (by omega) get_here) (gt5 (by omega) get_here) (fA (gt6 (by omega) get_here) (gt7 (by omega) get_here) fan)))))))) ?_
     refine RA.rb [(1, (Pt n 0 0)), (2, (.pointer (some ⟨(n + 1), 0, some 0⟩))), (3, (.pointer (some ⟨(n + 2), 0, some 0⟩))), (5, (.int .i64 ((i : Nat) : Int))), (65, yT)] rfl (fun τr5 => ?_)
     refine RA.region env_ok <| OA.ps [(66, (.int .i64 ((i : Nat) : Int)))] rfl <| oP 67 (.int .i64 (((i + 1) : Nat) : Int)) rfl (r_bin rfl rfl rfl (b_add (i64_eq (by omega)))) <| OA.ps [(5, (.int .i64 (((i + 1) : Nat) : Int)))] rfl <| OA.nil ?_
     refine ⟨(18 - (i + 1)), by omega, [(n, some ⟨[(cChk c)], 15, 54, true⟩), ((n + 1), some ⟨[xCh9], 15, 54, true⟩), ((n + 2), some ⟨[(xCh4 c j0 n4 i)], 15, 54, true⟩), (j0, some (oPrm ((c.ps.take (min c.ps.length 18)).map cutPrm))), ((n4 + 1), some (oCau ((c.cs.take (i + 1)).map cutCau)))], (LsO (fA get_here (gt4 (by omega) get_here) (fA (get_there (by omega) get_here) (gt5 (by omega) get_here) (fA (gt2 (by omega) get_here) get_here (fA (gt3 (by omega) get_here) (gt6 (by omega) get_here) (fA (gt4 (by omega) get_here) (get_there (by omega) get_here) fan)))))), ⟨(i + 1), (n4 + 1), rfl, by omega, ⟨rfl, rfl, rfl, rfl, trivial⟩, rfl, (kb5 (by omega)), ⟨by omega, by omega, by omega, by omega⟩⟩⟩
    ·
     refine oP 64 yF rfl (Eq.trans (r_bin rfl rfl rfl (b_lss rfl)) (dF hc4)) <| OA.ps [(65, yF)] rfl <| OA.nil fun _ => RA.condF rfl ?_
     refine RA.exit env_ok ?_
     exact ⟨rfl, ⟨j, ⟨rfl, rfl, rfl, trivial⟩, ⟨[(n, some ⟨[(cChk c)], 15, 54, true⟩), ((n + 1), some ⟨[xCh9], 15, 54, true⟩), ((n + 2), some ⟨[(xCh5 c j0 j i)], 15, 54, true⟩), (j0, some (oPrm ((c.ps.take (min c.ps.length 18)).map cutPrm))), (j, some (oCau ((c.cs.take i).map cutCau)))], (Less.refl _ _ _), (by rw [show i = (min c.cs.length 18) from by omega])⟩, by omega, (kb5 (by omega)), ⟨by omega, by omega⟩⟩⟩
   ·
    refine oP 61 yF rfl (Eq.trans (r_bin rfl rfl rfl (b_lss rfl)) (dF hc3)) <| OA.ps [(62, yF)] rfl <| OA.offs 63 2 rfl <| OA.ps [(65, yF)] rfl <| OA.nil fun _ => RA.condF rfl ?_
    refine RA.exit env_ok ?_
    exact ⟨rfl, ⟨j, ⟨rfl, rfl, rfl, trivial⟩, ⟨[(n, some ⟨[(cChk c)], 15, 54, true⟩), ((n + 1), some ⟨[xCh9], 15, 54, true⟩), ((n + 2), some ⟨[(xCh5 c j0 j i)], 15, 54, true⟩), (j0, some (oPrm ((c.ps.take (min c.ps.length 18)).map cutPrm))), (j, some (oCau ((c.cs.take i).map cutCau)))], (Less.refl _ _ _), (by rw [show i = (min c.cs.length 18) from by omega])⟩, by omega, (kb5 (by omega)), ⟨by omega, by omega⟩⟩⟩
  ·
   rintro _ τ6 n6 Dn6 hmn6 ⟨rfl, hSn6⟩
   rcases hSn6 with ⟨j1, hHn6, ⟨_, hLn6, rfl⟩, hn6, hKn6, hIn6⟩
   intro _
   refine RA.weaken hd hLn6 ?_
   rw [Has.eq hHn6]
   have hKn6_0 := kk0 hKn6
   have hKn6_1 := kk1 hKn6
   have hKn6_2 := kk2 hKn6
   have hKn6_3 := kk3 hKn6
   have hKn6_4 := kk4 hKn6
   clear hKn6
   obtain ⟨hj3, hj4⟩ := hIn6
   refine RA.seq hd <| RA.par (md := [some [], some [n], some [], some [n], some [], some [], some [(rk c.gv)], some [], some [n], some [], some [n], some [], some [], some [(rk c.dv)], some [], none, some [], none]) env_ok (hd.of (by omega) (kb5 (by omega))) (by kernel_rfl) <| PQ.ps [(95, (Pt n 0 13))] rfl <| pQl 96 c.gv get_here <| PQ.ps [(97, (Pt n 0 13))] rfl <| pQl 98 c.gv get_here <| pP 99 (.int .i64 ((c.gs.length : Nat) : Int)) rfl (r_lenP (c := cGp) rfl rfl rfl rfl rfl rfl hok.2.2.1 rfl) <| pP 100 (.int .i64 (((min c.gs.length 18) : Nat) : Int)) rfl (r_min (a := c.gs.length) (b := 18) rfl rfl rfl) <| PQ.pure (dst := (some 101)) (v := (cutV c.gv (min c.gs.length 18))) rfl rfl rfl _ (seen_key (k := (rk c.gv)) (V := []) (D := [(n, some ⟨[(cChk c)], 15, 54, true⟩), ((n + 1), some ⟨[xCh9], 15, 54, true⟩), ((n + 2), some ⟨[(xCh3 c j0 j1)], 15, 54, true⟩), (j0, some (oPrm ((c.ps.take (min c.ps.length 18)).map cutPrm))), (j1, some (oCau ((c.cs.take (min c.cs.length 18)).map cutCau)))]) (by kernel_rfl)) (r_cutP (c := cGp) (q := (min c.gs.length 18)) (v := c.gv) rfl rfl rfl rfl rfl rfl hok.2.2.1 (.inr (fun _ hh => by have hlt := hd.lt hh; rw [only_self]; exact (gt5 (by omega) rfl))) rfl (by omega)) <| PQ.ps [(102, (Pt n 0 14))] rfl <| pQl 103 c.dv get_here ?_
   refine PQ.ps [(104, (Pt n 0 14))] rfl <| pQl 105 c.dv get_here <| pP 106 (.int .i64 ((c.ds.length : Nat) : Int)) rfl (r_lenP (c := cDp) rfl rfl rfl rfl rfl rfl hok.2.2.2 rfl) <| pP 107 (.int .i64 (((min c.ds.length 18) : Nat) : Int)) rfl (r_min (a := c.ds.length) (b := 18) rfl rfl rfl) <| PQ.pure (dst := (some 108)) (v := (cutV c.dv (min c.ds.length 18))) rfl rfl rfl _ (seen_key (k := (rk c.dv)) (V := []) (D := [(n, some ⟨[(cChk c)], 15, 54, true⟩), ((n + 1), some ⟨[xCh9], 15, 54, true⟩), ((n + 2), some ⟨[(xCh3 c j0 j1)], 15, 54, true⟩), (j0, some (oPrm ((c.ps.take (min c.ps.length 18)).map cutPrm))), (j1, some (oCau ((c.cs.take (min c.cs.length 18)).map cutCau)))]) (by kernel_rfl)) (r_cutP (c := cDp) (q := (min c.ds.length 18)) (v := c.dv) rfl rfl rfl rfl rfl rfl hok.2.2.2 (.inr (fun _ hh => by have hlt := hd.lt hh; rw [only_self]; exact (gt5 (by omega) rfl))) rfl (by omega)) <| PQ.ps [(109, (.pointer (some ⟨(n + 2), 0, some 13⟩)))] rfl <| PQ.op (dst := none) (v := (.tuple #[])) (n1 := n6) (d1 := [((n + 2), some ⟨[(xCh2 c j0 j1)], 15, 54, true⟩)]) rfl rfl rfl _ (sA (V := []) (by kernel_rfl) (by kernel_rfl)) (r_store (cs := [(cutV c.gv (min c.gs.length 18))]) rfl rfl rfl rfl ((hok.2.2.1.cutR (min c.gs.length 18) (by omega))).cells rfl (by simp only [List.all_cons, List.all_nil, Bool.and_true]; exact ((hok.2.2.1.cutR (min c.gs.length 18) (by omega))).one) (gt2 (by omega) get_here) rfl rfl (Nat.le_of_ble_eq_true rfl) rfl) (by omega) (kp1 (wr_old [7, 8, 9, 10, 11, 12, 13] (by kernel_rfl) (by omega) (by omega) (fac (lo0 rfl) (fac (lo1 rfl (by omega)) (fac (lo0 rfl) (fac (lo1 rfl (by omega)) (fac (lo0 rfl) (fac (lo0 rfl) (fac (lo1 rfl (by omega)) fan))))))))) <| PQ.ps [(110, (.pointer (some ⟨(n + 2), 0, some 14⟩)))] rfl <| PQ.op (dst := none) (v := (.tuple #[])) (n1 := n6) (d1 := [((n + 2), some ⟨[(xCh1 c j0 j1)], 15, 54, true⟩)]) rfl rfl rfl _ (sA (V := [((n + 2), some ⟨[(xCh2 c j0 j1)], 15, 54, true⟩)]) (by kernel_rfl) (by kernel_rfl)) (r_store (cs := [(cutV c.dv (min c.ds.length 18))]) rfl rfl rfl rfl ((hok.2.2.2.cutR (min c.ds.length 18) (by omega))).cells rfl (by simp only [List.all_cons, List.all_nil, Bool.and_true]; exact ((hok.2.2.2.cutR (min c.ds.length 18) (by omega))).one) get_here rfl rfl (Nat.le_of_ble_eq_true rfl) rfl) (by omega) (kp1 (wr_tight (by kernel_rfl) (by omega))) <| PQ.done (d := [((n + 2), some ⟨[(xCh1 c j0 j1)], 15, 54, true⟩), ((n + 2), some ⟨[(xCh2 c j0 j1)], 15, 54, true⟩)]) (by kernel_rfl) fun _ => RA.weaken hd (LsO (fA get_here get_here (fA (get_there (by omega) get_here) (gt2 (by omega) get_here) (fA (gt2 (by omega) get_here) (gt3 (by omega) get_here) (fA (gt3 (by omega) get_here) (gt5 (by omega) get_here) (fA (gt4 (by omega) get_here) (gt6 (by omega) get_here) fan)))))) ?_
   refine RA.sR hd env_ok <| oP 111 (.agg ⟨(xCh1 c j0 j1)⟩) rfl (r_loadA rfl rfl rfl rfl get_here rfl rfl rfl) <| o1 none yU n6 ((n + 1), some ⟨[(xCh1 c j0 j1)], 15, 54, true⟩) (r_store (cs := (xCh1 c j0 j1)) rfl rfl rfl rfl rfl rfl (by simp only [List.all_cons, List.all_nil, Bool.and_true, Bool.and_eq_true]; exact ⟨rfl, rfl, rfl, rfl, rfl, rfl, rfl, rfl, rfl, rfl, rfl, rfl, rfl, ((hok.2.2.1.cutR (min c.gs.length 18) (by omega))).one, ((hok.2.2.2.cutR (min c.ds.length 18) (by omega))).one⟩) (gt2 (by omega) get_here) rfl rfl (Nat.le_of_ble_eq_true rfl) rfl) <| OA.nil fun _ => RA.weaken hd (LsO (fA get_here get_here (fA (get_there (by omega) get_here) (get_there (by omega) get_here) (fA (gt2 (by omega) get_here) (gt2 (by omega) get_here) (fA (gt3 (by omega) get_here) (gt4 (by omega) get_here) (fA (gt4 (by omega) get_here) (gt5 (by omega) get_here) fan)))))) ?_
   refine RA.ret env_ok ?_
   refine ⟨.inr rfl, [(.agg ⟨(xCh1 c j0 j1)⟩)], (resL_cons (res_cellA rfl rfl rfl get_here rfl rfl rfl) resL_nil), [(j0, some (oPrm ((c.ps.take (min c.ps.length 18)).map cutPrm))), (j1, some (oCau ((c.cs.take (min c.cs.length 18)).map cutCau)))], (LsO (fA get_here (gt3 (by omega) get_here) (fA (get_there (by omega) get_here) (gt4 (by omega) get_here) fan))), ⟨j0, j1, by omega, by omega, by omega, by omega, by omega, rfl, rfl⟩⟩
end Go.Proofs.Ytdnkhdkflemkeaa.Vt
/- Cp1: walks through functions of the program, by the calculus; written by a program of this workplace. -/
namespace Go.Proofs.Ytdnkhdkflemkeaa.Vt.Cp
open Go Go.Proofs Go.Proofs.YtdnkhdkflemkeaaV
set_option maxRecDepth 100000
set_option linter.unusedVariables false
set_option linter.unusedSimpArgs false
set_option maxHeartbeats 8000000
theorem bT {P : Prop} (h : P) : (true = true) ↔ P := ⟨fun _ => h, fun _ => rfl⟩
theorem bF {P : Prop} (h : ¬ P) : (false = true) ↔ P := ⟨fun q => (Bool.noConfusion q), fun q => absurd q h⟩
theorem bstr_appL (a : List UInt8) (s : ByteArray) : bstr a ++ s = bstr (a ++ L s) := by apply L_ext; rw [L_append, L_bstr, L_bstr]
def clrN (n : Int) (M : Nat) : Int := IntKind.wrap .i64 ((BitVec.ofInt 64 n &&& ~~~BitVec.ofInt 64 (M : Int)).toNat : Int)
theorem b_clrN {E : Env} {t : Nat} (n : Int) (M : Nat) : abin0 E .andNot t (.int .i64 n) (.int .i64 (M : Int)) = .ret (.int .i64 (clrN n M)) [] := by
  unfold abin0; simp only [ne_eq, not_true_eq_false, if_false, Op.intBits]
  rfl
def prmOk (t : Int) (v : ByteArray) : Prop := 0 ≤ t ∧ t < 65536 ∧ v.size ≤ 1000
def pB (t : Int) (v : ByteArray) : List UInt8 := pL t.toNat (L v)
theorem pad_len (l : List UInt8) : (fillL l).length ≤ l.length + 3 := by rw [fillL_eq, List.length_append, List.length_replicate]; unfold padN; omega
theorem pB_len {t : Int} {v : ByteArray} (h : prmOk t v) : (pB t v).length ≤ 1007 := by
  have h1 := pad_len (be2 t.toNat ++ be2 ((L v).length + 4) ++ L v)
  rw [pL_len, L_len] at h1
  have := h.2.2
  unfold pB pL; rw [L_len]; omega
def psL (l : List Prm) : List UInt8 := l.flatMap fun p => pB p.typ p.val
def csL (l : List Cau) : List UInt8 := l.flatMap fun p => pB p.code p.info
theorem fm_snoc {α : Type} {f : α → List UInt8} {l : List α} {i : Nat} {d0 : α} (h : i < l.length) : (l.take i).flatMap f ++ f (l.getD i d0) = (l.take (i + 1)).flatMap f := by
  rw [← take_snoc (d0 := d0) h, List.flatMap_append]; simp
theorem psL_snoc {l : List Prm} {i : Nat} (h : i < l.length) : psL (l.take i) ++ pB (l.getD i dPrm).typ (l.getD i dPrm).val = psL (l.take (i + 1)) := fm_snoc (f := fun p : Prm => pB p.typ p.val) h
theorem csL_snoc {l : List Cau} {i : Nat} (h : i < l.length) : csL (l.take i) ++ pB (l.getD i dCau).code (l.getD i dCau).info = csL (l.take (i + 1)) := fm_snoc (f := fun p : Cau => pB p.code p.info) h
theorem fm_len {α : Type} {f : α → List UInt8} {k : Nat} : ∀ (l : List α), (∀ x ∈ l, (f x).length ≤ k) → (l.flatMap f).length ≤ l.length * k
  | [], _ => by simp
  | x :: l, h => by
    have h1 := fm_len l (fun y hy => h y (List.mem_cons_of_mem _ hy))
    have h2 := h x (List.mem_cons_self ..)
    rw [List.flatMap_cons, List.length_append, List.length_cons, Nat.succ_mul]
    omega
theorem take_all {α : Type} {P : α → Prop} {l : List α} {i : Nat} {d0 : α} (h : i < l.length) (H : ∀ p ∈ l.take i, P p) (hp : P (l.getD i d0)) : ∀ p ∈ l.take (i + 1), P p := by
  rw [← take_snoc (d0 := d0) h]
  intro p hm
  rcases List.mem_append.1 hm with hm | hm
  · exact H p hm
  · rw [List.mem_singleton.1 hm]; exact hp
theorem take_full {α : Type} {l : List α} {i : Nat} (h : l.length ≤ i) : l.take i = l := List.take_of_length_le h
def prmsOk (l : List Prm) : Prop := ∀ p ∈ l, prmOk p.typ p.val
def causOk (l : List Cau) : Prop := ∀ p ∈ l, prmOk p.code p.info
def listsP (d : Chk) : Prop := prmsOk d.ps ∧ causOk d.cs ∧ d.ps.length ≤ 16 ∧ d.cs.length ≤ 16
theorem psL_len {l : List Prm} (h : prmsOk l) {i : Nat} (hi : i ≤ 16) : (psL (l.take i)).length ≤ 16112 := by
  have h1 := fm_len (f := fun p : Prm => pB p.typ p.val) (k := 1007) (l.take i) (fun x hx => pB_len (h x (List.mem_of_mem_take hx)))
  have h2 : (l.take i).length ≤ 16 := by rw [List.length_take]; omega
  have h3 := Nat.mul_le_mul_right 1007 h2
  unfold psL; omega
theorem csL_len {l : List Cau} (h : causOk l) {i : Nat} (hi : i ≤ 16) : (csL (l.take i)).length ≤ 16112 := by
  have h1 := fm_len (f := fun p : Cau => pB p.code p.info) (k := 1007) (l.take i) (fun x hx => pB_len (h x (List.mem_of_mem_take hx)))
  have h2 : (l.take i).length ≤ 16 := by rw [List.length_take]; omega
  have h3 := Nat.mul_le_mul_right 1007 h2
  unfold csL; omega
def risP : Int → List Gp → Prop
  | _, [] => True
  | a, g :: l => a + 2 ≤ g.lo ∧ g.lo ≤ g.hi ∧ g.hi < 65536 ∧ risP g.hi l
theorem ris_cons {a : Int} {l : List Gp} {i : Nat} (h : i < l.length) : risP a (l.drop i) ↔ (a + 2 ≤ (l.getD i dGp).lo ∧ (l.getD i dGp).lo ≤ (l.getD i dGp).hi ∧ (l.getD i dGp).hi < 65536 ∧ risP (l.getD i dGp).hi (l.drop (i + 1))) := by
  rw [List.drop_eq_getElem_cons h, show l.getD i dGp = l[i] from by simp [List.getD, List.getElem?_eq_getElem h]]
  exact Iff.rfl
theorem ris_nil {a : Int} {l : List Gp} {i : Nat} (h : l.length ≤ i) : risP a (l.drop i) := by rw [List.drop_of_length_le h]; trivial
def gapsP (l : List Gp) : Prop := risP 0 l ∧ l.length ≤ 16
theorem ris_mem : ∀ {l : List Gp} {a : Int}, 0 ≤ a → risP a l → ∀ g ∈ l, 0 ≤ g.lo ∧ g.lo < 65536 ∧ 0 ≤ g.hi ∧ g.hi < 65536
  | [], _, _, _ => fun _ h => by cases h
  | x :: l, a, ha, h => fun g hg => by
    obtain ⟨h1, h2, h3, h4⟩ := h
    rcases List.mem_cons.1 hg with rfl | hg
    · omega
    · exact ris_mem (by omega) h4 g hg
def wordP (t : Int) : Prop := 0 ≤ t ∧ t < 65536
def kd (t : Int) : Nat := if t = 0 then 0 else if t = 1 ∨ t = 2 then 1 else if t = 3 then 3 else if t = 4 ∨ t = 5 then 4 else if t = 6 ∨ t = 9 then 6 else if t = 7 then 7 else if t = 8 ∨ t = 11 ∨ t = 14 then 8 else if t = 10 then 10 else if t = 15 then 15 else if t = 193 ∨ t = 128 ∨ t = 130 then 16 else 20
theorem kd_cases (t : Int) : (kd t = 0 ∧ t = 0) ∨ (kd t = 1 ∧ (t = 1 ∨ t = 2)) ∨ (kd t = 3 ∧ t = 3) ∨ (kd t = 4 ∧ (t = 4 ∨ t = 5)) ∨ (kd t = 6 ∧ (t = 6 ∨ t = 9)) ∨ (kd t = 7 ∧ t = 7) ∨ (kd t = 8 ∧ (t = 8 ∨ t = 11 ∨ t = 14)) ∨ (kd t = 10 ∧ t = 10) ∨ (kd t = 15 ∧ t = 15) ∨ (kd t = 16 ∧ (t = 193 ∨ t = 128 ∨ t = 130)) ∨ (kd t = 20 ∧ ¬ (t = 0 ∨ t = 1 ∨ t = 2 ∨ t = 3 ∨ t = 4 ∨ t = 5 ∨ t = 6 ∨ t = 9 ∨ t = 7 ∨ t = 8 ∨ t = 11 ∨ t = 14 ∨ t = 10 ∨ t = 15 ∨ t = 193 ∨ t = 128 ∨ t = 130)) := by
  by_cases h0 : t = 0
  · exact .inl ⟨by unfold kd; rw [if_pos h0], h0⟩
  by_cases h1 : t = 1 ∨ t = 2
  · exact .inr (.inl ⟨by unfold kd; rw [if_neg h0, if_pos h1], h1⟩)
  by_cases h2 : t = 3
  · exact .inr (.inr (.inl ⟨by unfold kd; rw [if_neg h0, if_neg h1, if_pos h2], h2⟩))
  by_cases h3 : t = 4 ∨ t = 5
  · exact .inr (.inr (.inr (.inl ⟨by unfold kd; rw [if_neg h0, if_neg h1, if_neg h2, if_pos h3], h3⟩)))
  by_cases h4 : t = 6 ∨ t = 9
  · exact .inr (.inr (.inr (.inr (.inl ⟨by unfold kd; rw [if_neg h0, if_neg h1, if_neg h2, if_neg h3, if_pos h4], h4⟩))))
  by_cases h5 : t = 7
  · exact .inr (.inr (.inr (.inr (.inr (.inl ⟨by unfold kd; rw [if_neg h0, if_neg h1, if_neg h2, if_neg h3, if_neg h4, if_pos h5], h5⟩)))))
  by_cases h6 : t = 8 ∨ t = 11 ∨ t = 14
  · exact .inr (.inr (.inr (.inr (.inr (.inr (.inl ⟨by unfold kd; rw [if_neg h0, if_neg h1, if_neg h2, if_neg h3, if_neg h4, if_neg h5, if_pos h6], h6⟩))))))
  by_cases h7 : t = 10
  · exact .inr (.inr (.inr (.inr (.inr (.inr (.inr (.inl ⟨by unfold kd; rw [if_neg h0, if_neg h1, if_neg h2, if_neg h3, if_neg h4, if_neg h5, if_neg h6, if_pos h7], h7⟩)))))))
  by_cases h8 : t = 15
  · exact .inr (.inr (.inr (.inr (.inr (.inr (.inr (.inr (.inl ⟨by unfold kd; rw [if_neg h0, if_neg h1, if_neg h2, if_neg h3, if_neg h4, if_neg h5, if_neg h6, if_neg h7, if_pos h8], h8⟩))))))))
  by_cases h9 : t = 193 ∨ t = 128 ∨ t = 130
  · exact .inr (.inr (.inr (.inr (.inr (.inr (.inr (.inr (.inr (.inl ⟨by unfold kd; rw [if_neg h0, if_neg h1, if_neg h2, if_neg h3, if_neg h4, if_neg h5, if_neg h6, if_neg h7, if_neg h8, if_pos h9], h9⟩)))))))))
  refine .inr (.inr (.inr (.inr (.inr (.inr (.inr (.inr (.inr (.inr (⟨by unfold kd; rw [if_neg h0, if_neg h1, if_neg h2, if_neg h3, if_neg h4, if_neg h5, if_neg h6, if_neg h7, if_neg h8, if_neg h9], ?_⟩))))))))))
  rintro (h | h | h | h | h | h | h | h | h | h | h | h | h | h | h | h | h) <;> omega
def fl (t : Int) : Nat := if t = 0 then 7 else if t = 6 ∨ t = 9 then 3 else if t = 14 then 1 else if kd t = 20 then 255 else 0
theorem fl_cases (t : Int) : (fl t = 7 ∧ t = 0) ∨ (fl t = 3 ∧ (t = 6 ∨ t = 9)) ∨ (fl t = 1 ∧ t = 14) ∨ (fl t = 255 ∧ kd t = 20) ∨ (fl t = 0 ∧ kd t ≠ 20 ∧ t ≠ 0 ∧ t ≠ 6 ∧ t ≠ 9 ∧ t ≠ 14) := by
  have := kd_cases t
  unfold fl
  repeat' split
  all_goals omega
def gsL (l : List Gp) : List UInt8 := l.flatMap fun g => be2 g.lo.toNat ++ be2 g.hi.toNat
def dsL (l : List Dp) : List UInt8 := l.flatMap fun x => be4 x.x
theorem gsL_len : ∀ (l : List Gp), (gsL l).length = 4 * l.length
  | [] => rfl
  | x :: l => by
    have := gsL_len l
    unfold gsL at this ⊢
    rw [List.flatMap_cons, List.length_append, List.length_append, be2_len, be2_len, List.length_cons, this]; omega
theorem dsL_len : ∀ (l : List Dp), (dsL l).length = 4 * l.length
  | [] => rfl
  | x :: l => by
    have := dsL_len l
    unfold dsL at this ⊢
    rw [List.flatMap_cons, List.length_append, be4_len, List.length_cons, this]; omega
def gapsL (d : Chk) : List UInt8 := be2 d.gs.length ++ be2 d.ds.length ++ gsL d.gs ++ dsL d.ds
def bodyL (d : Chk) : List UInt8 :=
  if kd d.typ = 0 then be4 d.tsn ++ be2 d.stream.toNat ++ be2 d.ssn.toNat ++ be4 d.proto ++ L d.data
  else if kd d.typ = 1 then be4 d.tag ++ be4 d.rwnd ++ be2 d.outs.toNat ++ be2 d.ins.toNat ++ be4 d.tsn ++ psL d.ps
  else if kd d.typ = 3 then be4 d.tsn ++ be4 d.rwnd ++ gapsL d
  else if kd d.typ = 4 then pB 1 d.data
  else if kd d.typ = 6 then csL d.cs
  else if kd d.typ = 7 then be4 d.tsn
  else if kd d.typ = 8 then []
  else if kd d.typ = 15 then be2 d.stream.toNat ++ be2 d.ssn.toNat ++ L d.data
  else if kd d.typ = 16 then be4 d.tsn ++ psL d.ps
  else L d.data
structure bodyOk (d : Chk) : Prop where
  lists : listsP d
  w1 : wordP d.stream
  w2 : wordP d.ssn
  w3 : wordP d.outs
  w4 : wordP d.ins
  data : d.data.size ≤ 900
  gaps : gapsP d.gs
  dups : d.ds.length ≤ 16
theorem bodyL_len {d : Chk} (h : bodyOk d) : (bodyL d).length ≤ 17000 := by
  have h1 := psL_len h.lists.1 (i := d.ps.length) h.lists.2.2.1
  have h2 := csL_len h.lists.2.1 (i := d.cs.length) h.lists.2.2.2
  rw [List.take_length] at h1 h2
  have h3 := gsL_len d.gs
  have h4 := dsL_len d.ds
  have h5 := L_len d.data
  have h6 := h.data
  have h7 := pB_len (t := 1) (v := d.data) ⟨by omega, by omega, by omega⟩
  have h8 := h.gaps.2
  have h9 := h.dups
  unfold bodyL gapsL
  repeat' split
  all_goals try simp only [List.length_append, be2_len, be4_len, List.length_nil]
  all_goals omega
structure gd (σ : Store) (d : Chk) : Prop where
  hp : RowQ σ 96 2 d.pv (d.ps.map cPrm)
  hc : RowQ σ 98 2 d.cv (d.cs.map cCau)
  hg : RowQ σ 101 2 d.gv (d.gs.map cGp)
  hu : RowQ σ 32 1 d.dv (d.ds.map cDp)
  p18 : d.ps.length ≤ 18
  c18 : d.cs.length ≤ 18
  g18 : d.gs.length ≤ 18
  u18 : d.ds.length ≤ 18
  fl : d.flags < 9223372036854775808
  gr : ∀ g ∈ d.gs, g.lo < 9223372036854775808
theorem gd.mono {σ σ' : Store} {d : Chk} (h : gd σ d) (hs : Sub σ σ') : gd σ' d := ⟨h.hp.mono hs, h.hc.mono hs, h.hg.mono hs, h.hu.mono hs, h.p18, h.c18, h.g18, h.u18, h.fl, h.gr⟩
theorem sub_app {n n' : Nat} {σ : Store} {D : Delta} (hd : Dom n σ) (hk : ∀ i ∈ keys D, n ≤ i ∧ i < n') : Sub σ (app D σ) := by
  intro i o h
  have hi := hd.lt h
  rw [app_off (fun hm => by have := (hk i hm).1; omega)]
  exact h
theorem sub_a1 {n : Nat} {σ : Store} {o : Option AObj} (hd : Dom n σ) : Sub σ (app [(n, o)] σ) := sub_app (n' := n + 1) hd (by intro i hi; simp only [keys, List.map_cons, List.map_nil, List.mem_cons, List.not_mem_nil, or_false] at hi; omega)
def plainQ (q : Nat) (d : Chk) : Chk := ⟨d.typ, d.flags, if q = 0 ∨ q = 1 ∨ q = 3 ∨ q = 7 ∨ q = 16 then d.tsn else 0#32, if q = 0 ∨ q = 15 then d.stream else 0, if q = 0 ∨ q = 15 then d.ssn else 0, if q = 0 then d.proto else 0#32, if q = 0 ∨ q = 4 ∨ q = 10 ∨ q = 15 ∨ q = 20 then d.data else ByteArray.empty, if q = 1 then d.tag else 0#32, if q = 1 ∨ q = 3 then d.rwnd else 0#32, if q = 1 then d.outs else 0, if q = 1 then d.ins else 0, if q = 1 ∨ q = 16 then d.pv else .slice none 0 0, if q = 6 then d.cv else .slice none 0 0, if q = 3 then d.gv else .slice none 0 0, if q = 3 then d.dv else .slice none 0 0, if q = 1 ∨ q = 16 then d.ps else [], if q = 6 then d.cs else [], if q = 3 then d.gs else [], if q = 3 then d.ds else []⟩
def plainD (d : Chk) : Chk := plainQ (kd d.typ) d
theorem gd.plain {σ : Store} {d : Chk} (h : gd σ d) : gd σ (plainD d) := by
  refine ⟨?_, ?_, ?_, ?_, ?_, ?_, ?_, ?_, h.fl, ?_⟩ <;> (unfold plainD plainQ; dsimp only; split)
  · exact h.hp
  · exact .nil
  · exact h.hc
  · exact .nil
  · exact h.hg
  · exact .nil
  · exact h.hu
  · exact .nil
  · exact h.p18
  · exact Nat.zero_le _
  · exact h.c18
  · exact Nat.zero_le _
  · exact h.g18
  · exact Nat.zero_le _
  · exact h.u18
  · exact Nat.zero_le _
  · exact h.gr
  · exact fun g hg => by cases hg
theorem sU8 {σ : Store} (m : Nat) (hm : m < 256)   : PS Try.prog noDen 80 [(.int .i64 ((m : Nat) : Int))] σ (.string (bstr (be1 m))) := by
 refine PS.body (E := env) env_ok rfl rfl (by show _ ≤ _; exact of_decide_eq_true (by kernel_rfl)) (fun n hd => ?_)
 refine RA.sR hd env_ok <| OA.ps [(2, (.string (ByteArray.mk #[])))] rfl <| OA.nil fun _ => RA.sR hd env_ok <| OA.ps [(3, (.int .i64 ((m : Nat) : Int)))] rfl <| oP 4 (.int .u8 (((UInt8.ofNat m).toNat : Nat) : Int)) rfl (r_cvt rfl rfl rfl rfl rfl ⟨_, rfl⟩ (wrap_u8n _)) <| o1 (some 5) (.slice (some ⟨n, 0, none⟩) 1 0) (n + 1) (n, some ⟨(bc [(UInt8.ofNat m)]), 1, 5, true⟩) (by kernel_rfl) <| oP 6 (.string (bstr (([(UInt8.ofNat m)].drop 0).take 1))) rfl (r_b2s rfl rfl rfl rfl rfl rfl rfl rfl get_here (by rw [show ([(UInt8.ofNat m)] : List UInt8).length = 1 from rfl]; omega)) <| OA.ps [(2, (.string (bstr (([(UInt8.ofNat m)].drop 0).take 1))))] rfl <| OA.nil fun _ => ?_
 refine RA.ret env_ok ?_
 exact lf (.string (bstr (([(UInt8.ofNat m)].drop 0).take 1))) rfl
theorem zU8 {σ : Store} (z : Int) (h0 : 0 ≤ z) (h1 : z < 256) : PS Try.prog noDen 80 [.int .i64 z] σ (.string (bstr (be1 z.toNat))) := by
  obtain ⟨m, rfl⟩ := Int.eq_ofNat_of_zero_le h0
  exact sU8 m (by omega)
theorem zU16 {σ : Store} (z : Int) (h0 : 0 ≤ z) (h1 : z < 65536) : PS Try.prog noDen 45 [.int .i64 z] σ (.string (bstr (be2 z.toNat))) := by
  obtain ⟨m, rfl⟩ := Int.eq_ofNat_of_zero_le h0
  exact sU16 m (by omega)
theorem sPMay {σ : Store} (t : Int) (v : ByteArray) (b : Bool) (hb : b = true ↔ prmOk t v)   : PS Try.prog noDen 104 [(.agg ⟨[(.int .i64 t), (.string v)]⟩)] σ (.bool b) := by
 refine PS.body (E := env) env_ok rfl rfl (by show _ ≤ _; exact of_decide_eq_true (by kernel_rfl)) (fun n hd => ?_)
 refine RA.sR hd env_ok <| o1 (some 1) (Pt n 0 0) (n + 1) (n, some ⟨[[(.int .i64 t), (.string v)]], 2, 96, true⟩) rfl <| OA.ps [(2, yF)] rfl <| OA.nil fun _ => RA.sR hd env_ok <| OA.ps [(3, (Pt n 0 0))] rfl <| oL 4 (.int .i64 t) get_here ?_
 by_cases hc1 : 0 ≤ t
 ·
  refine oP 5 yT rfl (Eq.trans (r_bin rfl rfl rfl (b_geq rfl)) (dT hc1)) <| OA.ps [(6, yT), (7, (Pt n 0 0))] rfl <| oL 8 (.int .i64 t) get_here ?_
  by_cases hc2 : t < 65536
  ·
   refine oP 9 yT rfl (Eq.trans (r_bin rfl rfl rfl (b_lss rfl)) (dT hc2)) <| OA.ps [(10, yT), (11, yT), (12, (Pt n 0 1))] rfl <| oL 13 (.string v) get_here <| OA.ps [(14, (.int .i64 ((v.size : Nat) : Int)))] rfl ?_
   by_cases hc3 : ((v.size : Nat) : Int) ≤ 1000
   ·
    refine oP 15 yT rfl (Eq.trans (r_bin rfl rfl rfl (b_leq rfl)) (dT hc3)) <| OA.ps [(16, yT), (2, yT)] rfl <| OA.nil fun _ => ?_
    refine RA.ret env_ok ?_
    exact lf yT (bt hb (by first | omega | (unfold prmOk; omega)))
   ·
    refine oP 15 yF rfl (Eq.trans (r_bin rfl rfl rfl (b_leq rfl)) (dF hc3)) <| OA.ps [(16, yF), (2, yF)] rfl <| OA.nil fun _ => ?_
    refine RA.ret env_ok ?_
    exact lf yF (bf hb (fun q => by first | omega | (unfold prmOk at q; omega)))
  ·
   refine oP 9 yF rfl (Eq.trans (r_bin rfl rfl rfl (b_lss rfl)) (dF hc2)) <| OA.ps [(10, yF), (11, yF)] rfl <| OA.offs 12 4 rfl <| OA.ps [(16, yF), (2, yF)] rfl <| OA.nil fun _ => ?_
   refine RA.ret env_ok ?_
   exact lf yF (bf hb (fun q => by first | omega | (unfold prmOk at q; omega)))
 ·
  refine oP 5 yF rfl (Eq.trans (r_bin rfl rfl rfl (b_geq rfl)) (dF hc1)) <| OA.ps [(6, yF)] rfl <| OA.offs 7 3 rfl <| OA.ps [(10, yF), (11, yF)] rfl <| OA.offs 12 4 rfl <| OA.ps [(16, yF), (2, yF)] rfl <| OA.nil fun _ => ?_
  refine RA.ret env_ok ?_
  exact lf yF (bf hb (fun q => by first | omega | (unfold prmOk at q; omega)))
theorem sCMay {σ : Store} (t : Int) (v : ByteArray) (b : Bool) (hb : b = true ↔ prmOk t v)   : PS Try.prog noDen 105 [(.agg ⟨[(.int .i64 t), (.string v)]⟩)] σ (.bool b) := by
 refine PS.body (E := env) env_ok rfl rfl (by show _ ≤ _; exact of_decide_eq_true (by kernel_rfl)) (fun n hd => ?_)
 refine RA.sR hd env_ok <| o1 (some 1) (Pt n 0 0) (n + 1) (n, some ⟨[[(.int .i64 t), (.string v)]], 2, 98, true⟩) rfl <| OA.ps [(2, yF)] rfl <| OA.nil fun _ => RA.sR hd env_ok <| OA.ps [(3, (Pt n 0 0))] rfl <| oL 4 (.int .i64 t) get_here <| OA.ps [(5, (Pt n 0 1))] rfl <| oL 6 (.string v) get_here <| oP 7 (.agg ⟨[(.int .i64 t), (.string v)]⟩) rfl (by kernel_rfl) ?_
 by_cases hc1 : prmOk (t) v
 ·
  refine oC 8 (hd.of (by omega) (kb1 (by omega))) rfl rfl (sPMay (t) v true (bT hc1)) fun n1 hn1 => OA.ps [(2, yT)] rfl <| OA.nil fun _ => ?_
  refine RA.ret env_ok ?_
  exact lf yT (bt hb (by assumption))
 ·
  refine oC 8 (hd.of (by omega) (kb1 (by omega))) rfl rfl (sPMay (t) v false (bF hc1)) fun n2 hn2 => OA.ps [(2, yF)] rfl <| OA.nil fun _ => ?_
  refine RA.ret env_ok ?_
  exact lf yF (bf hb (fun q => absurd q (by assumption)))
theorem sPPut {σ : Store} (t : Int) (v : ByteArray) (h : prmOk t v)   : PS Try.prog noDen 100 [(.agg ⟨[(.int .i64 t), (.string v)]⟩)] σ (.string (bstr (pB t v))) := by
 have h1 := h.1
 have h2 := h.2.1
 have h3 := h.2.2
 refine PS.body (E := env) env_ok rfl rfl (by show _ ≤ _; exact of_decide_eq_true (by kernel_rfl)) (fun n hd => ?_)
 refine RA.sR hd env_ok <| o1 (some 1) (Pt n 0 0) (n + 1) (n, some ⟨[[(.int .i64 t), (.string v)]], 2, 96, true⟩) rfl <| OA.ps [(2, (.string (ByteArray.mk #[])))] rfl <| OA.nil fun _ => RA.seq hd <| RA.sR hd env_ok <| oP 3 (.agg ⟨[(.int .i64 t), (.string v)]⟩) rfl (r_loadA rfl rfl rfl rfl get_here rfl rfl rfl) <| oC 4 (hd.of (by omega) (kb1 (by omega))) rfl rfl (sPMay t v true (bT h)) fun n1 hn1 => OA.ps [(5, yF)] rfl <| OA.nil fun _ => RA.condF rfl ?_
 refine RA.skip env_ok ?_
 intro _
 refine RA.seq hd <| RA.par (md := [some [], some [n], none, some [], some [n], some [], some [], none, some [], some [], some [n], some [], none, some []]) env_ok (hd.of (by omega) (kb1 (by omega))) (by kernel_rfl) <| PQ.ps [(6, (Pt n 0 0))] rfl <| pQl 7 (.int .i64 t) get_here <| pA 8 (V := []) (hd.of (by omega) (kb1 (by omega))) rfl rfl (by kernel_rfl) (by kernel_rfl) (zU16 t (by omega) (by omega)) fun n2 hn2 => PQ.ps [(9, (Pt n 0 1))] rfl <| pQl 10 (.string v) get_here <| PQ.ps [(11, (.int .i64 ((v.size : Nat) : Int)))] rfl <| pP 12 (.int .i64 (((v.size + 4) : Nat) : Int)) rfl (r_bin rfl rfl rfl (b_add (i64_eq (by omega)))) <| pA 13 (V := []) (hd.of (by omega) (kb1 (by omega))) rfl rfl (by kernel_rfl) (by kernel_rfl) (sU16 (v.size + 4) (by omega)) fun n3 hn3 => pP 14 (.string (bstr ((be2 (t).toNat) ++ (be2 (v.size + 4))))) rfl (Eq.trans (r_cat rfl rfl rfl (by simp only [bstr_size, size_lit, List.length_append, be2_len, be4_len, be1_len, List.length_replicate, List.length_cons, List.length_nil, List.size_toArray]; omega)) (by rw [bstr_app] <;> rfl)) ?_
 refine PQ.ps [(15, (Pt n 0 1))] rfl <| pQl 16 (.string v) get_here <| pP 17 (.string (bstr (((be2 (t).toNat) ++ (be2 (v.size + 4))) ++ L v))) rfl (Eq.trans (r_cat rfl rfl rfl (by simp only [bstr_size, List.length_append, be2_len, be4_len, be1_len]; omega)) (by rw [bstr_appL] <;> rfl)) <| pA 18 (v := (.string (bstr (pB t v)))) (V := []) (hd.of (by omega) (kb1 (by omega))) rfl rfl (by kernel_rfl) (by kernel_rfl) (PS.to (lFilled (be2 t.toNat ++ be2 (v.size + 4) ++ L v) (by simp only [List.length_append, be2_len, L_len]; omega)) (by unfold pB pL; rw [L_len])) fun n4 hn4 => PQ.ps [(2, (.string (bstr (pB t v))))] rfl <| PQ.done (d := []) (by kernel_rfl) fun _ => ?_
 refine RA.ret env_ok ?_
 exact lf (.string (bstr (pB t v))) rfl
theorem sCPut {σ : Store} (t : Int) (v : ByteArray) (h : prmOk t v)   : PS Try.prog noDen 106 [(.agg ⟨[(.int .i64 t), (.string v)]⟩)] σ (.string (bstr (pB t v))) := by
 refine PS.body (E := env) env_ok rfl rfl (by show _ ≤ _; exact of_decide_eq_true (by kernel_rfl)) (fun n hd => ?_)
 refine RA.sR hd env_ok <| o1 (some 1) (Pt n 0 0) (n + 1) (n, some ⟨[[(.int .i64 t), (.string v)]], 2, 98, true⟩) rfl <| OA.ps [(2, (.string (ByteArray.mk #[])))] rfl <| OA.nil fun _ => RA.sR hd env_ok <| OA.ps [(3, (Pt n 0 0))] rfl <| oL 4 (.int .i64 t) get_here <| OA.ps [(5, (Pt n 0 1))] rfl <| oL 6 (.string v) get_here <| oP 7 (.agg ⟨[(.int .i64 t), (.string v)]⟩) rfl (by kernel_rfl) <| oC 8 (hd.of (by omega) (kb1 (by omega))) rfl rfl (sPPut (t) v (by assumption)) fun n1 hn1 => ?_
 refine OA.ps [(2, (.string (bstr (pB (t) v))))] rfl <| OA.nil fun _ => ?_
 refine RA.ret env_ok ?_
 exact lf (.string (bstr (pB (t) v))) rfl
theorem sPAll {σ : Store} (l : List Prm) (v : Value) (h : prmsOk l) (h16 : l.length ≤ 16)  (hv : RowQ σ 96 2 v (l.map cPrm)) : PS Try.prog noDen 98 [v] σ (.string (bstr (psL l))) := by
 refine PS.body (E := env) env_ok rfl rfl (by show _ ≤ _; exact of_decide_eq_true (by kernel_rfl)) (fun n hd => ?_)
 refine RA.sR hd env_ok <| OA.ps [(2, (.string (ByteArray.mk #[])))] rfl <| OA.nil fun _ => RA.sR hd env_ok <| OA.ps [(3, (.string (ByteArray.mk #[])))] rfl <| OA.nil fun _ => RA.seq hd <| RA.sR hd env_ok <| OA.ps [(6, v)] rfl <| oP 7 (.int .i64 ((l.length : Nat) : Int)) rfl (r_lenQ (c := cPrm) rfl rfl rfl rfl rfl rfl hv rfl) <| OA.ps [(8, (.int .i64 0))] rfl ?_
 refine OA.nil fun _ => RA.block ?_
 refine RA.loop hd (fun kk_ τ n' D => (∃ i : Nat, kk_ = (l.length - i) ∧ n ≤ n' ∧ Has τ [(3, (.string (bstr (psL (l.take i))))), (6, v), (7, (.int .i64 ((l.length : Nat) : Int))), (8, (.int .i64 ((i : Nat) : Int)))] ∧ D = [] ∧ (∀ i ∈ keys D, i < n') ∧ i ≤ l.length)) ((l.length - 0)) (⟨0, rfl, by omega, ⟨rfl, rfl, rfl, rfl, trivial⟩, rfl, (fun i hi => by cases hi), by omega⟩) ?_
 rintro kn1 τ1 n1 _ ⟨i, rfl, hn1, hHn1, rfl, hKn1, hIn1⟩
 rw [Has.eq hHn1]
 have hil := hIn1
 have hpl := psL_len h (i := i) (by omega)
 refine RA.sR hd env_ok ?_
 by_cases hc1 : ((i : Nat) : Int) < ((l.length : Nat) : Int)
 ·
  obtain ⟨rv, wqhatv, hatv⟩ := hv.get (m := i) (by omega)
  have lathatv := hd.lt hatv
  have hok := h _ (getD_mem (d := dPrm) (show i < l.length by omega))
  have hpb := pB_len hok
  refine oP 9 yT rfl (Eq.trans (r_bin rfl rfl rfl (b_lss rfl)) (dT hc1)) <| OA.nil fun _ => RA.seq hd <| RA.condT rfl <| RA.skip env_ok ?_
  intro _
  refine RA.seq hd <| RA.block <| RA.sR hd env_ok <| oP 10 (.pointer (some ⟨(rk v), i, some 0⟩)) rfl (r_iaQ (c := cPrm) (m := i) rfl rfl rfl rfl rfl rfl hv rfl (by omega) hatv rfl) <| oP 11 (.agg ⟨(cPrm (l.getD i dPrm))⟩) rfl (r_loadA (e := cPrm (l.getD i dPrm)) rfl rfl rfl rfl hatv (mp_getA (by omega)) rfl rfl) <| o1 (some 5) (Pt n1 0 0) (n1 + 1) (n1, some ⟨[[(.int .i64 0), (.string ByteArray.empty)]], 2, 96, true⟩) rfl <| o1 none yU (n1 + 1) (n1, some ⟨[(cPrm (l.getD i dPrm))], 2, 96, true⟩) (rS get_here) <| OA.nil fun _ => RA.region env_ok <| OA.ps [(12, (.string (bstr (psL (l.take i)))))] rfl <| oP 13 (.agg ⟨[(.int .i64 (l.getD i dPrm).typ), (.string (l.getD i dPrm).val)]⟩) rfl (r_loadA rfl rfl rfl rfl get_here rfl rfl rfl) ?_
  refine oC 14 (hd.of (by omega) (kb2 (by omega))) rfl rfl (sPPut ((l.getD i dPrm).typ) (l.getD i dPrm).val (by assumption)) fun n2 hn2 => oP 15 (.string (bstr ((psL (l.take i)) ++ (pB ((l.getD i dPrm).typ) (l.getD i dPrm).val)))) rfl (Eq.trans (r_cat rfl rfl rfl (by simp only [bstr_size, size_lit, List.length_append, be2_len, be4_len, be1_len, List.length_replicate, List.length_cons, List.length_nil, List.size_toArray]; omega)) (by rw [bstr_app] <;> rfl)) <| OA.ps [(3, (.string (bstr ((psL (l.take i)) ++ (pB ((l.getD i dPrm).typ) (l.getD i dPrm).val)))))] rfl <| OA.nil fun _ => RA.region env_ok <| oP 16 (.int .i64 (((i + 1) : Nat) : Int)) rfl (r_bin rfl rfl rfl (b_add (i64_eq (by omega)))) <| OA.ps [(8, (.int .i64 (((i + 1) : Nat) : Int)))] rfl <| OA.nil ?_
  refine ⟨(l.length - (i + 1)), by omega, [], (LsO fan), ⟨(i + 1), rfl, by omega, ⟨(by rw [psL_snoc (l := l) (i := i) (by omega)] <;> rfl), rfl, rfl, rfl, trivial⟩, rfl, (fun i hi => by cases hi), by omega⟩⟩
 ·
  refine oP 9 yF rfl (Eq.trans (r_bin rfl rfl rfl (b_lss rfl)) (dF hc1)) <| OA.nil fun _ => RA.seq hd <| RA.condF rfl ?_
  refine RA.exit env_ok ?_
  intro _
  refine RA.sR hd env_ok <| OA.ps [(17, (.string (bstr (psL (l.take i))))), (2, (.string (bstr (psL (l.take i)))))] rfl <| OA.nil fun _ => ?_
  refine RA.ret env_ok ?_
  exact lf (.string (bstr (psL (l.take i)))) (by rw [take_full (by omega)] <;> rfl)
theorem sCAll {σ : Store} (l : List Cau) (v : Value) (h : causOk l) (h16 : l.length ≤ 16)  (hv : RowQ σ 98 2 v (l.map cCau)) : PS Try.prog noDen 101 [v] σ (.string (bstr (csL l))) := by
 refine PS.body (E := env) env_ok rfl rfl (by show _ ≤ _; exact of_decide_eq_true (by kernel_rfl)) (fun n hd => ?_)
 refine RA.sR hd env_ok <| OA.ps [(2, (.string (ByteArray.mk #[])))] rfl <| OA.nil fun _ => RA.sR hd env_ok <| OA.ps [(3, (.string (ByteArray.mk #[])))] rfl <| OA.nil fun _ => RA.seq hd <| RA.sR hd env_ok <| OA.ps [(6, v)] rfl <| oP 7 (.int .i64 ((l.length : Nat) : Int)) rfl (r_lenQ (c := cCau) rfl rfl rfl rfl rfl rfl hv rfl) <| OA.ps [(8, (.int .i64 0))] rfl ?_
 refine OA.nil fun _ => RA.block ?_
 refine RA.loop hd (fun kk_ τ n' D => (∃ i : Nat, kk_ = (l.length - i) ∧ n ≤ n' ∧ Has τ [(3, (.string (bstr (csL (l.take i))))), (6, v), (7, (.int .i64 ((l.length : Nat) : Int))), (8, (.int .i64 ((i : Nat) : Int)))] ∧ D = [] ∧ (∀ i ∈ keys D, i < n') ∧ i ≤ l.length)) ((l.length - 0)) (⟨0, rfl, by omega, ⟨rfl, rfl, rfl, rfl, trivial⟩, rfl, (fun i hi => by cases hi), by omega⟩) ?_
 rintro kn1 τ1 n1 _ ⟨i, rfl, hn1, hHn1, rfl, hKn1, hIn1⟩
 rw [Has.eq hHn1]
 have hil := hIn1
 have hpl := csL_len h (i := i) (by omega)
 refine RA.sR hd env_ok ?_
 by_cases hc1 : ((i : Nat) : Int) < ((l.length : Nat) : Int)
 ·
  obtain ⟨rv, wqhatv, hatv⟩ := hv.get (m := i) (by omega)
  have lathatv := hd.lt hatv
  have hok := h _ (getD_mem (d := dCau) (show i < l.length by omega))
  have hpb := pB_len hok
  refine oP 9 yT rfl (Eq.trans (r_bin rfl rfl rfl (b_lss rfl)) (dT hc1)) <| OA.nil fun _ => RA.seq hd <| RA.condT rfl <| RA.skip env_ok ?_
  intro _
  refine RA.seq hd <| RA.block <| RA.sR hd env_ok <| oP 10 (.pointer (some ⟨(rk v), i, some 0⟩)) rfl (r_iaQ (c := cCau) (m := i) rfl rfl rfl rfl rfl rfl hv rfl (by omega) hatv rfl) <| oP 11 (.agg ⟨(cCau (l.getD i dCau))⟩) rfl (r_loadA (e := cCau (l.getD i dCau)) rfl rfl rfl rfl hatv (mp_getA (by omega)) rfl rfl) <| o1 (some 5) (Pt n1 0 0) (n1 + 1) (n1, some ⟨[[(.int .i64 0), (.string ByteArray.empty)]], 2, 98, true⟩) rfl <| o1 none yU (n1 + 1) (n1, some ⟨[(cCau (l.getD i dCau))], 2, 98, true⟩) (rS get_here) <| OA.nil fun _ => RA.region env_ok <| OA.ps [(12, (.string (bstr (csL (l.take i)))))] rfl <| oP 13 (.agg ⟨[(.int .i64 (l.getD i dCau).code), (.string (l.getD i dCau).info)]⟩) rfl (r_loadA rfl rfl rfl rfl get_here rfl rfl rfl) ?_
  refine oC 14 (hd.of (by omega) (kb2 (by omega))) rfl rfl (sCPut ((l.getD i dCau).code) (l.getD i dCau).info (by assumption)) fun n2 hn2 => oP 15 (.string (bstr ((csL (l.take i)) ++ (pB ((l.getD i dCau).code) (l.getD i dCau).info)))) rfl (Eq.trans (r_cat rfl rfl rfl (by simp only [bstr_size, size_lit, List.length_append, be2_len, be4_len, be1_len, List.length_replicate, List.length_cons, List.length_nil, List.size_toArray]; omega)) (by rw [bstr_app] <;> rfl)) <| OA.ps [(3, (.string (bstr ((csL (l.take i)) ++ (pB ((l.getD i dCau).code) (l.getD i dCau).info)))))] rfl <| OA.nil fun _ => RA.region env_ok <| oP 16 (.int .i64 (((i + 1) : Nat) : Int)) rfl (r_bin rfl rfl rfl (b_add (i64_eq (by omega)))) <| OA.ps [(8, (.int .i64 (((i + 1) : Nat) : Int)))] rfl <| OA.nil ?_
  refine ⟨(l.length - (i + 1)), by omega, [], (LsO fan), ⟨(i + 1), rfl, by omega, ⟨(by rw [csL_snoc (l := l) (i := i) (by omega)] <;> rfl), rfl, rfl, rfl, trivial⟩, rfl, (fun i hi => by cases hi), by omega⟩⟩
 ·
  refine oP 9 yF rfl (Eq.trans (r_bin rfl rfl rfl (b_lss rfl)) (dF hc1)) <| OA.nil fun _ => RA.seq hd <| RA.condF rfl ?_
  refine RA.exit env_ok ?_
  intro _
  refine RA.sR hd env_ok <| OA.ps [(17, (.string (bstr (csL (l.take i))))), (2, (.string (bstr (csL (l.take i)))))] rfl <| OA.nil fun _ => ?_
  refine RA.ret env_ok ?_
  exact lf (.string (bstr (csL (l.take i)))) (by rw [take_full (by omega)] <;> rfl)
end Go.Proofs.Ytdnkhdkflemkeaa.Vt.Cp
/- Cp2: walks through functions of the program, by the calculus; written by a program of this workplace. -/
namespace Go.Proofs.Ytdnkhdkflemkeaa.Vt.Cp
open Go Go.Proofs Go.Proofs.YtdnkhdkflemkeaaV
set_option maxRecDepth 100000
set_option linter.unusedVariables false
set_option linter.unusedSimpArgs false
set_option maxHeartbeats 8000000
abbrev xCp21 (d : Chk) : List Value := [(.int .i64 d.typ), (.int .i64 d.flags), (W d.tsn), (.int .i64 d.stream), (.int .i64 d.ssn), (W d.proto), (.string d.data), (W d.tag), (W d.rwnd), (.int .i64 d.outs), (.int .i64 d.ins), d.pv, d.cv, d.gv, d.dv]
theorem sKnown {σ : Store} (t : Int) (b : Bool) (hb : b = true ↔ (kd t ≠ 20))   : PS Try.prog noDen 103 [(.int .i64 t)] σ (.bool b) := by
 refine PS.body (E := env) env_ok rfl rfl (by show _ ≤ _; exact of_decide_eq_true (by kernel_rfl)) (fun n hd => ?_)
 refine RA.sR hd env_ok <| OA.ps [(2, yF)] rfl <| OA.nil fun _ => RA.sR hd env_ok <| OA.ps [(3, (.int .i64 t))] rfl ?_
 by_cases hc1 : 0 ≤ t
 ·
  refine oP 4 yT rfl (Eq.trans (r_bin rfl rfl rfl (b_geq rfl)) (dT hc1)) <| OA.ps [(5, yT), (6, (.int .i64 t))] rfl ?_
  by_cases hc2 : t ≤ 11
  ·
   refine oP 7 yT rfl (Eq.trans (r_bin rfl rfl rfl (b_leq rfl)) (dT hc2)) <| OA.ps [(8, yT), (9, yT)] rfl <| OA.offs 10 2 rfl <| OA.ps [(12, yT), (13, yT)] rfl <| OA.offs 14 2 rfl <| OA.ps [(16, yT), (17, yT)] rfl <| OA.offs 18 2 rfl <| OA.ps [(20, yT), (21, yT)] rfl <| OA.offs 22 2 rfl <| OA.ps [(24, yT), (25, yT)] rfl <| OA.offs 26 2 rfl ?_
   refine OA.ps [(28, yT), (2, yT)] rfl <| OA.nil fun _ => RA.rb [(0, (.int .i64 t)), (2, yT)] rfl (fun τr1 => ?_)
   refine RA.ret env_ok ?_
   exact lf yT (bt hb (by have := kd_cases t; omega))
  ·
   refine oP 7 yF rfl (Eq.trans (r_bin rfl rfl rfl (b_leq rfl)) (dF hc2)) <| OA.ps [(8, yF), (9, yF), (10, (.int .i64 t))] rfl ?_
   by_cases hc3 : t = 14
   ·
    refine oP 11 yT rfl (Eq.trans (r_bin rfl rfl rfl (b_eql rfl)) (dT hc3)) <| OA.ps [(12, yT), (13, yT)] rfl <| OA.offs 14 2 rfl <| OA.ps [(16, yT), (17, yT)] rfl <| OA.offs 18 2 rfl <| OA.ps [(20, yT), (21, yT)] rfl <| OA.offs 22 2 rfl <| OA.ps [(24, yT), (25, yT)] rfl <| OA.offs 26 2 rfl <| OA.ps [(28, yT), (2, yT)] rfl <| OA.nil fun _ => ?_
    refine RA.rb [(0, (.int .i64 t)), (2, yT)] rfl (fun τr2 => ?_)
    refine RA.ret env_ok ?_
    exact lf yT (bt hb (by have := kd_cases t; omega))
   ·
    refine oP 11 yF rfl (Eq.trans (r_bin rfl rfl rfl (b_eql rfl)) (dF hc3)) <| OA.ps [(12, yF), (13, yF), (14, (.int .i64 t))] rfl ?_
    by_cases hc4 : t = 15
    ·
     refine oP 15 yT rfl (Eq.trans (r_bin rfl rfl rfl (b_eql rfl)) (dT hc4)) <| OA.ps [(16, yT), (17, yT)] rfl <| OA.offs 18 2 rfl <| OA.ps [(20, yT), (21, yT)] rfl <| OA.offs 22 2 rfl <| OA.ps [(24, yT), (25, yT)] rfl <| OA.offs 26 2 rfl <| OA.ps [(28, yT), (2, yT)] rfl <| OA.nil fun _ => RA.rb [(0, (.int .i64 t)), (2, yT)] rfl (fun τr3 => ?_)
     refine RA.ret env_ok ?_
     exact lf yT (bt hb (by have := kd_cases t; omega))
    ·
     refine oP 15 yF rfl (Eq.trans (r_bin rfl rfl rfl (b_eql rfl)) (dF hc4)) <| OA.ps [(16, yF), (17, yF), (18, (.int .i64 t))] rfl ?_
     by_cases hc5 : t = 193
     ·
      refine oP 19 yT rfl (Eq.trans (r_bin rfl rfl rfl (b_eql rfl)) (dT hc5)) <| OA.ps [(20, yT), (21, yT)] rfl <| OA.offs 22 2 rfl <| OA.ps [(24, yT), (25, yT)] rfl <| OA.offs 26 2 rfl <| OA.ps [(28, yT), (2, yT)] rfl <| OA.nil fun _ => RA.rb [(0, (.int .i64 t)), (2, yT)] rfl (fun τr4 => ?_)
      refine RA.ret env_ok ?_
      exact lf yT (bt hb (by have := kd_cases t; omega))
     ·
      refine oP 19 yF rfl (Eq.trans (r_bin rfl rfl rfl (b_eql rfl)) (dF hc5)) <| OA.ps [(20, yF), (21, yF), (22, (.int .i64 t))] rfl ?_
      by_cases hc6 : t = 128
      ·
       refine oP 23 yT rfl (Eq.trans (r_bin rfl rfl rfl (b_eql rfl)) (dT hc6)) <| OA.ps [(24, yT), (25, yT)] rfl <| OA.offs 26 2 rfl <| OA.ps [(28, yT), (2, yT)] rfl <| OA.nil fun _ => RA.rb [(0, (.int .i64 t)), (2, yT)] rfl (fun τr5 => ?_)
       refine RA.ret env_ok ?_
       exact lf yT (bt hb (by have := kd_cases t; omega))
      ·
       refine oP 23 yF rfl (Eq.trans (r_bin rfl rfl rfl (b_eql rfl)) (dF hc6)) <| OA.ps [(24, yF), (25, yF), (26, (.int .i64 t))] rfl ?_
       by_cases hc7 : t = 130
       ·
        refine oP 27 yT rfl (Eq.trans (r_bin rfl rfl rfl (b_eql rfl)) (dT hc7)) <| OA.ps [(28, yT), (2, yT)] rfl <| OA.nil fun _ => RA.rb [(0, (.int .i64 t)), (2, yT)] rfl (fun τr6 => ?_)
        refine RA.ret env_ok ?_
        exact lf yT (bt hb (by have := kd_cases t; omega))
       ·
        refine oP 27 yF rfl (Eq.trans (r_bin rfl rfl rfl (b_eql rfl)) (dF hc7)) <| OA.ps [(28, yF), (2, yF)] rfl <| OA.nil fun _ => RA.rb [(0, (.int .i64 t)), (2, yF)] rfl (fun τr7 => ?_)
        refine RA.ret env_ok ?_
        exact lf yF (bf hb (fun q => by have := kd_cases t; omega))
 ·
  refine oP 4 yF rfl (Eq.trans (r_bin rfl rfl rfl (b_geq rfl)) (dF hc1)) <| OA.ps [(5, yF)] rfl <| OA.offs 6 2 rfl <| OA.ps [(8, yF), (9, yF), (10, (.int .i64 t))] rfl ?_
  by_cases hc8 : t = 14
  ·
   refine oP 11 yT rfl (Eq.trans (r_bin rfl rfl rfl (b_eql rfl)) (dT hc8)) <| OA.ps [(12, yT), (13, yT)] rfl <| OA.offs 14 2 rfl <| OA.ps [(16, yT), (17, yT)] rfl <| OA.offs 18 2 rfl <| OA.ps [(20, yT), (21, yT)] rfl <| OA.offs 22 2 rfl <| OA.ps [(24, yT), (25, yT)] rfl <| OA.offs 26 2 rfl <| OA.ps [(28, yT), (2, yT)] rfl <| OA.nil fun _ => ?_
   refine RA.rb [(0, (.int .i64 t)), (2, yT)] rfl (fun τr8 => ?_)
   refine RA.ret env_ok ?_
   exact lf yT (bt hb (by have := kd_cases t; omega))
  ·
   refine oP 11 yF rfl (Eq.trans (r_bin rfl rfl rfl (b_eql rfl)) (dF hc8)) <| OA.ps [(12, yF), (13, yF), (14, (.int .i64 t))] rfl ?_
   by_cases hc9 : t = 15
   ·
    refine oP 15 yT rfl (Eq.trans (r_bin rfl rfl rfl (b_eql rfl)) (dT hc9)) <| OA.ps [(16, yT), (17, yT)] rfl <| OA.offs 18 2 rfl <| OA.ps [(20, yT), (21, yT)] rfl <| OA.offs 22 2 rfl <| OA.ps [(24, yT), (25, yT)] rfl <| OA.offs 26 2 rfl <| OA.ps [(28, yT), (2, yT)] rfl <| OA.nil fun _ => RA.rb [(0, (.int .i64 t)), (2, yT)] rfl (fun τr9 => ?_)
    refine RA.ret env_ok ?_
    exact lf yT (bt hb (by have := kd_cases t; omega))
   ·
    refine oP 15 yF rfl (Eq.trans (r_bin rfl rfl rfl (b_eql rfl)) (dF hc9)) <| OA.ps [(16, yF), (17, yF), (18, (.int .i64 t))] rfl ?_
    by_cases hc10 : t = 193
    ·
     refine oP 19 yT rfl (Eq.trans (r_bin rfl rfl rfl (b_eql rfl)) (dT hc10)) <| OA.ps [(20, yT), (21, yT)] rfl <| OA.offs 22 2 rfl <| OA.ps [(24, yT), (25, yT)] rfl <| OA.offs 26 2 rfl <| OA.ps [(28, yT), (2, yT)] rfl <| OA.nil fun _ => RA.rb [(0, (.int .i64 t)), (2, yT)] rfl (fun τr10 => ?_)
     refine RA.ret env_ok ?_
     exact lf yT (bt hb (by have := kd_cases t; omega))
    ·
     refine oP 19 yF rfl (Eq.trans (r_bin rfl rfl rfl (b_eql rfl)) (dF hc10)) <| OA.ps [(20, yF), (21, yF), (22, (.int .i64 t))] rfl ?_
     by_cases hc11 : t = 128
     ·
      refine oP 23 yT rfl (Eq.trans (r_bin rfl rfl rfl (b_eql rfl)) (dT hc11)) <| OA.ps [(24, yT), (25, yT)] rfl <| OA.offs 26 2 rfl <| OA.ps [(28, yT), (2, yT)] rfl <| OA.nil fun _ => RA.rb [(0, (.int .i64 t)), (2, yT)] rfl (fun τr11 => ?_)
      refine RA.ret env_ok ?_
      exact lf yT (bt hb (by have := kd_cases t; omega))
     ·
      refine oP 23 yF rfl (Eq.trans (r_bin rfl rfl rfl (b_eql rfl)) (dF hc11)) <| OA.ps [(24, yF), (25, yF), (26, (.int .i64 t))] rfl ?_
      by_cases hc12 : t = 130
      ·
       refine oP 27 yT rfl (Eq.trans (r_bin rfl rfl rfl (b_eql rfl)) (dT hc12)) <| OA.ps [(28, yT), (2, yT)] rfl <| OA.nil fun _ => RA.rb [(0, (.int .i64 t)), (2, yT)] rfl (fun τr12 => ?_)
       refine RA.ret env_ok ?_
       exact lf yT (bt hb (by have := kd_cases t; omega))
      ·
       refine oP 27 yF rfl (Eq.trans (r_bin rfl rfl rfl (b_eql rfl)) (dF hc12)) <| OA.ps [(28, yF), (2, yF)] rfl <| OA.nil fun _ => RA.rb [(0, (.int .i64 t)), (2, yF)] rfl (fun τr13 => ?_)
       refine RA.ret env_ok ?_
       exact lf yF (bf hb (fun q => by have := kd_cases t; omega))
theorem sFlags {σ : Store} (t : Int)   : PS Try.prog noDen 92 [(.int .i64 t)] σ (.int .i64 ((fl t : Nat) : Int)) := by
 refine PS.body (E := env) env_ok rfl rfl (by show _ ≤ _; exact of_decide_eq_true (by kernel_rfl)) (fun n hd => ?_)
 refine RA.sR hd env_ok <| OA.ps [(2, (.int .i64 0))] rfl <| OA.nil fun _ => RA.seq hd <| RA.sR hd env_ok <| OA.ps [(3, (.int .i64 t))] rfl <| OA.nil fun _ => RA.block <| RA.sR hd env_ok ?_
 by_cases hc1 : t = 0
 ·
  refine oP 5 yT rfl (Eq.trans (r_bin rfl rfl rfl (b_eql rfl)) (dT hc1)) <| OA.ps [(4, yT)] rfl <| OA.nil fun _ => RA.condT rfl <| RA.sR hd env_ok <| OA.ps [(2, (.int .i64 7))] rfl <| OA.nil fun _ => ?_
  refine RA.ret env_ok ?_
  exact lf (.int .i64 7) (by rw [show fl t = 7 from by have := fl_cases t; have := kd_cases t; omega] <;> rfl)
 ·
  refine oP 5 yF rfl (Eq.trans (r_bin rfl rfl rfl (b_eql rfl)) (dF hc1)) <| OA.ps [(4, yF)] rfl <| OA.nil fun _ => RA.condF rfl <| RA.seq hd <| RA.sR hd env_ok ?_
  by_cases hc2 : t = 6
  ·
   refine oP 7 yT rfl (Eq.trans (r_bin rfl rfl rfl (b_eql rfl)) (dT hc2)) <| OA.ps [(6, yT)] rfl <| OA.nil fun _ => RA.condT rfl <| RA.skip env_ok ?_
   intro _
   refine RA.condT rfl <| RA.sR hd env_ok <| OA.ps [(2, (.int .i64 3))] rfl <| OA.nil fun _ => ?_
   refine RA.ret env_ok ?_
   exact lf (.int .i64 3) (by rw [show fl t = 3 from by have := fl_cases t; have := kd_cases t; omega] <;> rfl)
  ·
   refine oP 7 yF rfl (Eq.trans (r_bin rfl rfl rfl (b_eql rfl)) (dF hc2)) <| OA.ps [(6, yF)] rfl <| OA.nil fun _ => RA.condF rfl <| RA.region env_ok ?_
   by_cases hc3 : t = 9
   ·
    refine oP 8 yT rfl (Eq.trans (r_bin rfl rfl rfl (b_eql rfl)) (dT hc3)) <| OA.ps [(6, yT)] rfl <| OA.nil fun _ => RA.condT rfl <| RA.sR hd env_ok <| OA.ps [(2, (.int .i64 3))] rfl <| OA.nil fun _ => ?_
    refine RA.ret env_ok ?_
    exact lf (.int .i64 3) (by rw [show fl t = 3 from by have := fl_cases t; have := kd_cases t; omega] <;> rfl)
   ·
    refine oP 8 yF rfl (Eq.trans (r_bin rfl rfl rfl (b_eql rfl)) (dF hc3)) <| OA.ps [(6, yF)] rfl <| OA.nil fun _ => RA.condF rfl <| RA.sR hd env_ok ?_
    by_cases hc4 : t = 14
    ·
     refine oP 10 yT rfl (Eq.trans (r_bin rfl rfl rfl (b_eql rfl)) (dT hc4)) <| OA.ps [(9, yT)] rfl <| OA.nil fun _ => RA.condT rfl <| RA.sR hd env_ok <| OA.ps [(2, (.int .i64 1))] rfl <| OA.nil fun _ => ?_
     refine RA.ret env_ok ?_
     exact lf (.int .i64 1) (by rw [show fl t = 1 from by have := fl_cases t; have := kd_cases t; omega] <;> rfl)
    ·
     refine oP 10 yF rfl (Eq.trans (r_bin rfl rfl rfl (b_eql rfl)) (dF hc4)) <| OA.ps [(9, yF)] rfl <| OA.nil fun _ => RA.condF rfl <| RA.skip env_ok ?_
     intro _
     refine RA.seq hd <| RA.sR hd env_ok <| OA.ps [(11, (.int .i64 t))] rfl ?_
     by_cases hc5 : (kd (t) ≠ 20)
     ·
      refine oC 12 (hd.up (by omega)) rfl rfl (sKnown (t) true (bT hc5)) fun n1 hn1 => OA.nil fun _ => RA.condT rfl <| RA.sR hd env_ok <| OA.ps [(2, (.int .i64 0))] rfl <| OA.nil fun _ => ?_
      refine RA.ret env_ok ?_
      exact lf (.int .i64 0) (by rw [show fl t = 0 from by have := fl_cases t; have := kd_cases t; omega] <;> rfl)
     ·
      refine oC 12 (hd.up (by omega)) rfl rfl (sKnown (t) false (bF hc5)) fun n2 hn2 => OA.nil fun _ => RA.condF rfl <| RA.skip env_ok ?_
      intro _
      refine RA.sR hd env_ok <| OA.ps [(2, (.int .i64 255))] rfl <| OA.nil fun _ => ?_
      refine RA.ret env_ok ?_
      exact lf (.int .i64 255) (by rw [show fl t = 255 from by have := fl_cases t; have := kd_cases t; omega] <;> rfl)
theorem sWord {σ : Store} (t : Int) (b : Bool) (hb : b = true ↔ wordP t)   : PS Try.prog noDen 94 [(.int .i64 t)] σ (.bool b) := by
 refine PS.body (E := env) env_ok rfl rfl (by show _ ≤ _; exact of_decide_eq_true (by kernel_rfl)) (fun n hd => ?_)
 refine RA.sR hd env_ok <| OA.ps [(2, yF)] rfl <| OA.nil fun _ => RA.sR hd env_ok <| OA.ps [(3, (.int .i64 t))] rfl ?_
 by_cases hc1 : 0 ≤ t
 ·
  refine oP 4 yT rfl (Eq.trans (r_bin rfl rfl rfl (b_geq rfl)) (dT hc1)) <| OA.ps [(5, yT), (6, (.int .i64 t))] rfl ?_
  by_cases hc2 : t < 65536
  ·
   refine oP 7 yT rfl (Eq.trans (r_bin rfl rfl rfl (b_lss rfl)) (dT hc2)) <| OA.ps [(8, yT), (2, yT)] rfl <| OA.nil fun _ => ?_
   refine RA.ret env_ok ?_
   exact lf yT (bt hb (by first | omega | (unfold wordP; omega)))
  ·
   refine oP 7 yF rfl (Eq.trans (r_bin rfl rfl rfl (b_lss rfl)) (dF hc2)) <| OA.ps [(8, yF), (2, yF)] rfl <| OA.nil fun _ => ?_
   refine RA.ret env_ok ?_
   exact lf yF (bf hb (fun q => by first | omega | (unfold wordP at q; omega)))
 ·
  refine oP 4 yF rfl (Eq.trans (r_bin rfl rfl rfl (b_geq rfl)) (dF hc1)) <| OA.ps [(5, yF)] rfl <| OA.offs 6 2 rfl <| OA.ps [(8, yF), (2, yF)] rfl <| OA.nil fun _ => ?_
  refine RA.ret env_ok ?_
  exact lf yF (bf hb (fun q => by first | omega | (unfold wordP at q; omega)))
theorem sLists {σ : Store} (d : Chk) (b : Bool) (hb : b = true ↔ listsP d)  (h : gd σ d) : PS Try.prog noDen 93 [(.agg ⟨(cChk d)⟩)] σ (.bool b) := by
 have hp18 := h.p18
 have hc18 := h.c18
 have hg18 := h.g18
 have hd18 := h.u18
 have hfl := h.fl
 refine PS.body (E := env) env_ok rfl rfl (by show _ ≤ _; exact of_decide_eq_true (by kernel_rfl)) (fun n hd => ?_)
 refine RA.sR hd env_ok <| o1 (some 1) (Pt n 0 0) (n + 1) (n, some ⟨[(cChk d)], 15, 54, true⟩) (r_box (cs := (cChk d)) rfl rfl rfl (Nat.le_of_ble_eq_true rfl) (by simp only [List.all_cons, List.all_nil, Bool.and_true, Bool.and_eq_true, cChk]; exact ⟨rfl, rfl, rfl, rfl, rfl, rfl, rfl, rfl, rfl, rfl, rfl, (h.hp).one, (h.hc).one, (h.hg).one, (h.hu).one⟩)) <| OA.ps [(2, yF)] rfl <| OA.nil fun _ => RA.seq hd <| RA.sR hd env_ok <| OA.ps [(7, (Pt n 0 11))] rfl <| oL 8 d.pv get_here <| oP 9 (.int .i64 ((d.ps.length : Nat) : Int)) rfl (r_lenQ (c := cPrm) rfl rfl rfl rfl rfl rfl h.hp rfl) <| OA.ps [(10, (.int .i64 0))] rfl <| OA.nil fun _ => ?_
 refine RA.block ?_
 refine RA.loop hd (fun kk_ τ n' D => (∃ i : Nat, kk_ = (d.ps.length - i) ∧ (n + 1) ≤ n' ∧ Has τ [(1, (Pt n 0 0)), (8, d.pv), (9, (.int .i64 ((d.ps.length : Nat) : Int))), (10, (.int .i64 ((i : Nat) : Int)))] ∧ D = [(n, some ⟨[(xCp21 d)], 15, 54, true⟩)] ∧ (∀ i ∈ keys D, i < n') ∧ i ≤ d.ps.length ∧ (∀ p ∈ d.ps.take i, prmOk p.typ p.val))) ((d.ps.length - 0)) (⟨0, rfl, by omega, ⟨rfl, rfl, rfl, rfl, trivial⟩, rfl, (kb1 (by omega)), ⟨by omega, fun p hp => by simp at hp⟩⟩) ?_
 rintro kn1 τ1 n1 _ ⟨i, rfl, hn1, hHn1, rfl, hKn1, hIn1⟩
 rw [Has.eq hHn1]
 have hKn1_0 := kk0 hKn1
 clear hKn1
 obtain ⟨hili, hall⟩ := hIn1
 refine RA.sR hd env_ok ?_
 by_cases hc1 : ((i : Nat) : Int) < ((d.ps.length : Nat) : Int)
 ·
  obtain ⟨rp, wqhatp, hatp⟩ := h.hp.get (m := i) (by omega)
  have lathatp := hd.lt hatp
  refine oP 11 yT rfl (Eq.trans (r_bin rfl rfl rfl (b_lss rfl)) (dT hc1)) <| OA.nil fun _ => RA.seq hd <| RA.condT rfl <| RA.skip env_ok ?_
  intro _
  refine RA.seq hd <| RA.block <| RA.sR hd env_ok <| oP 12 (.pointer (some ⟨(rk d.pv), i, some 0⟩)) rfl (r_iaQ (c := cPrm) (m := i) rfl rfl rfl rfl rfl rfl h.hp rfl (by omega) (get_there (by omega) hatp) rfl) <| oP 13 (.agg ⟨(cPrm (d.ps.getD i dPrm))⟩) rfl (r_loadA (e := cPrm (d.ps.getD i dPrm)) rfl rfl rfl rfl (get_there (by omega) hatp) (mp_getA (by omega)) rfl rfl) <| o1 (some 4) (Pt n1 0 0) (n1 + 1) (n1, some ⟨[[(.int .i64 0), (.string ByteArray.empty)]], 2, 96, true⟩) rfl <| o1 none yU (n1 + 1) (n1, some ⟨[(cPrm (d.ps.getD i dPrm))], 2, 96, true⟩) (rS get_here) <| OA.nil fun _ => RA.sR hd env_ok <| oP 14 (.agg ⟨[(.int .i64 (d.ps.getD i dPrm).typ), (.string (d.ps.getD i dPrm).val)]⟩) rfl (r_loadA rfl rfl rfl rfl get_here rfl rfl rfl) ?_
  by_cases hc2 : prmOk ((d.ps.getD i dPrm).typ) (d.ps.getD i dPrm).val
  ·
   refine oC 15 (hd.of (by omega) (kb3 (by omega))) rfl rfl (sPMay ((d.ps.getD i dPrm).typ) (d.ps.getD i dPrm).val true (bT hc2)) fun n2 hn2 => OA.ps [(16, yF)] rfl <| OA.nil fun _ => RA.condF rfl <| RA.skip env_ok ?_
   intro _
   refine RA.region env_ok <| oP 17 (.int .i64 (((i + 1) : Nat) : Int)) rfl (r_bin rfl rfl rfl (b_add (i64_eq (by omega)))) <| OA.ps [(10, (.int .i64 (((i + 1) : Nat) : Int)))] rfl <| OA.nil ?_
   refine ⟨(d.ps.length - (i + 1)), by omega, [(n, some ⟨[(xCp21 d)], 15, 54, true⟩)], (LsO (fA get_here (gt2 (by omega) get_here) fan)), ⟨(i + 1), rfl, by omega, ⟨rfl, rfl, rfl, rfl, trivial⟩, rfl, (kb1 (by omega)), ⟨by omega, take_all (d0 := dPrm) (by omega) hall (by assumption)⟩⟩⟩
  ·
   have hnl : ¬ listsP d := fun q => hc2 (q.1 _ (getD_mem (by omega)))
   refine oC 15 (hd.of (by omega) (kb3 (by omega))) rfl rfl (sPMay ((d.ps.getD i dPrm).typ) (d.ps.getD i dPrm).val false (bF hc2)) fun n3 hn3 => OA.ps [(16, yT)] rfl <| OA.nil fun _ => RA.condT rfl <| RA.sR hd env_ok <| OA.ps [(2, yF)] rfl <| OA.nil fun _ => ?_
   refine RA.ret env_ok ?_
   exact lf yF (bf hb (fun q => by first | exact absurd q (by assumption) | (have q1 := q.2.2.1; have q2 := q.2.2.2; omega)))
 ·
  have hpsk : prmsOk d.ps := by rw [take_full (by omega)] at hall; exact hall
  refine oP 11 yF rfl (Eq.trans (r_bin rfl rfl rfl (b_lss rfl)) (dF hc1)) <| OA.nil fun _ => RA.seq hd <| RA.condF rfl ?_
  refine RA.exit env_ok ?_
  intro _
  refine RA.seq hd <| RA.sR hd env_ok <| OA.ps [(18, (Pt n 0 12))] rfl <| oL 19 d.cv get_here <| oP 20 (.int .i64 ((d.cs.length : Nat) : Int)) rfl (r_lenQ (c := cCau) rfl rfl rfl rfl rfl rfl h.hc rfl) <| OA.ps [(21, (.int .i64 0))] rfl <| OA.nil fun _ => RA.block ?_
  refine RA.loop hd (fun kk_ τ n' D => (∃ m : Nat, kk_ = (d.cs.length - m) ∧ n1 ≤ n' ∧ Has τ [(1, (Pt n 0 0)), (19, d.cv), (20, (.int .i64 ((d.cs.length : Nat) : Int))), (21, (.int .i64 ((m : Nat) : Int)))] ∧ D = [(n, some ⟨[(xCp21 d)], 15, 54, true⟩)] ∧ (∀ i ∈ keys D, i < n') ∧ m ≤ d.cs.length ∧ (∀ p ∈ d.cs.take m, prmOk p.code p.info))) ((d.cs.length - 0)) (⟨0, rfl, by omega, ⟨rfl, rfl, rfl, rfl, trivial⟩, rfl, (kb1 (by omega)), ⟨by omega, fun p hp => by simp at hp⟩⟩) ?_
  rintro kn4 τ4 n4 _ ⟨m, rfl, hn4, hHn4, rfl, hKn4, hIn4⟩
  rw [Has.eq hHn4]
  have hKn4_0 := kk0 hKn4
  clear hKn4
  obtain ⟨hilm, halm⟩ := hIn4
  refine RA.sR hd env_ok ?_
  by_cases hc3 : ((m : Nat) : Int) < ((d.cs.length : Nat) : Int)
  ·
   obtain ⟨rc, wqhatc, hatc⟩ := h.hc.get (m := m) (by omega)
   have lathatc := hd.lt hatc
   refine oP 22 yT rfl (Eq.trans (r_bin rfl rfl rfl (b_lss rfl)) (dT hc3)) <| OA.nil fun _ => RA.seq hd <| RA.condT rfl <| RA.skip env_ok ?_
   intro _
   refine RA.seq hd <| RA.block <| RA.sR hd env_ok <| oP 23 (.pointer (some ⟨(rk d.cv), m, some 0⟩)) rfl (r_iaQ (c := cCau) (m := m) rfl rfl rfl rfl rfl rfl h.hc rfl (by omega) (get_there (by omega) hatc) rfl) <| oP 24 (.agg ⟨(cCau (d.cs.getD m dCau))⟩) rfl (r_loadA (e := cCau (d.cs.getD m dCau)) rfl rfl rfl rfl (get_there (by omega) hatc) (mp_getA (by omega)) rfl rfl) <| o1 (some 6) (Pt n4 0 0) (n4 + 1) (n4, some ⟨[[(.int .i64 0), (.string ByteArray.empty)]], 2, 98, true⟩) rfl <| o1 none yU (n4 + 1) (n4, some ⟨[(cCau (d.cs.getD m dCau))], 2, 98, true⟩) (rS get_here) <| OA.nil fun _ => RA.sR hd env_ok <| oP 25 (.agg ⟨[(.int .i64 (d.cs.getD m dCau).code), (.string (d.cs.getD m dCau).info)]⟩) rfl (r_loadA rfl rfl rfl rfl get_here rfl rfl rfl) ?_
   by_cases hc4 : prmOk ((d.cs.getD m dCau).code) (d.cs.getD m dCau).info
   ·
    refine oC 26 (hd.of (by omega) (kb3 (by omega))) rfl rfl (sCMay ((d.cs.getD m dCau).code) (d.cs.getD m dCau).info true (bT hc4)) fun n5 hn5 => OA.ps [(27, yF)] rfl <| OA.nil fun _ => RA.condF rfl <| RA.skip env_ok ?_
    intro _
    refine RA.region env_ok <| oP 28 (.int .i64 (((m + 1) : Nat) : Int)) rfl (r_bin rfl rfl rfl (b_add (i64_eq (by omega)))) <| OA.ps [(21, (.int .i64 (((m + 1) : Nat) : Int)))] rfl <| OA.nil ?_
    refine ⟨(d.cs.length - (m + 1)), by omega, [(n, some ⟨[(xCp21 d)], 15, 54, true⟩)], (LsO (fA get_here (gt2 (by omega) get_here) fan)), ⟨(m + 1), rfl, by omega, ⟨rfl, rfl, rfl, rfl, trivial⟩, rfl, (kb1 (by omega)), ⟨by omega, take_all (d0 := dCau) (by omega) halm (by assumption)⟩⟩⟩
   ·
    have hnl : ¬ listsP d := fun q => hc4 (q.2.1 _ (getD_mem (by omega)))
    refine oC 26 (hd.of (by omega) (kb3 (by omega))) rfl rfl (sCMay ((d.cs.getD m dCau).code) (d.cs.getD m dCau).info false (bF hc4)) fun n6 hn6 => OA.ps [(27, yT)] rfl <| OA.nil fun _ => RA.condT rfl <| RA.sR hd env_ok <| OA.ps [(2, yF)] rfl <| OA.nil fun _ => ?_
    refine RA.ret env_ok ?_
    exact lf yF (bf hb (fun q => by first | exact absurd q (by assumption) | (have q1 := q.2.2.1; have q2 := q.2.2.2; omega)))
  ·
   have hcsk : causOk d.cs := by rw [take_full (by omega)] at halm; exact halm
   refine oP 22 yF rfl (Eq.trans (r_bin rfl rfl rfl (b_lss rfl)) (dF hc3)) <| OA.nil fun _ => RA.seq hd <| RA.condF rfl ?_
   refine RA.exit env_ok ?_
   intro _
   refine RA.sR hd env_ok <| OA.ps [(29, (Pt n 0 11))] rfl <| oL 30 d.pv get_here <| oP 31 (.int .i64 ((d.ps.length : Nat) : Int)) rfl (r_lenQ (c := cPrm) rfl rfl rfl rfl rfl rfl h.hp rfl) ?_
   by_cases hc5 : ((d.ps.length : Nat) : Int) ≤ 16
   ·
    refine oP 32 yT rfl (Eq.trans (r_bin rfl rfl rfl (b_leq rfl)) (dT hc5)) <| OA.ps [(33, yT), (34, (Pt n 0 12))] rfl <| oL 35 d.cv get_here <| oP 36 (.int .i64 ((d.cs.length : Nat) : Int)) rfl (r_lenQ (c := cCau) rfl rfl rfl rfl rfl rfl h.hc rfl) ?_
    by_cases hc6 : ((d.cs.length : Nat) : Int) ≤ 16
    ·
     refine oP 37 yT rfl (Eq.trans (r_bin rfl rfl rfl (b_leq rfl)) (dT hc6)) <| OA.ps [(38, yT), (2, yT)] rfl <| OA.nil fun _ => ?_
     refine RA.ret env_ok ?_
     exact lf yT (bt hb (⟨hpsk, hcsk, by omega, by omega⟩))
    ·
     refine oP 37 yF rfl (Eq.trans (r_bin rfl rfl rfl (b_leq rfl)) (dF hc6)) <| OA.ps [(38, yF), (2, yF)] rfl <| OA.nil fun _ => ?_
     refine RA.ret env_ok ?_
     exact lf yF (bf hb (fun q => by first | exact absurd q (by assumption) | (have q1 := q.2.2.1; have q2 := q.2.2.2; omega)))
   ·
    refine oP 32 yF rfl (Eq.trans (r_bin rfl rfl rfl (b_leq rfl)) (dF hc5)) <| OA.ps [(33, yF)] rfl <| OA.offs 34 4 rfl <| OA.ps [(38, yF), (2, yF)] rfl <| OA.nil fun _ => ?_
    refine RA.ret env_ok ?_
    exact lf yF (bf hb (fun q => by first | exact absurd q (by assumption) | (have q1 := q.2.2.1; have q2 := q.2.2.2; omega)))
theorem sRising {σ : Store} (d : Chk) (b : Bool) (hb : b = true ↔ gapsP d.gs)  (h : gd σ d) : PS Try.prog noDen 95 [d.gv] σ (.bool b) := by
 have hp18 := h.p18
 have hc18 := h.c18
 have hg18 := h.g18
 have hd18 := h.u18
 have hfl := h.fl
 refine PS.body (E := env) env_ok rfl rfl (by show _ ≤ _; exact of_decide_eq_true (by kernel_rfl)) (fun n hd => ?_)
 refine RA.sR hd env_ok <| OA.ps [(2, yF)] rfl <| OA.nil fun _ => RA.sR hd env_ok <| OA.ps [(3, (.int .i64 0))] rfl <| OA.nil fun _ => RA.seq hd <| RA.sR hd env_ok <| OA.ps [(6, d.gv)] rfl <| oP 7 (.int .i64 ((d.gs.length : Nat) : Int)) rfl (r_lenQ (c := cGp) rfl rfl rfl rfl rfl rfl h.hg rfl) <| OA.ps [(8, (.int .i64 0))] rfl ?_
 refine OA.nil fun _ => RA.block ?_
 refine RA.loop hd (fun kk_ τ n' D => (∃ i : Nat, ∃ a : Int, kk_ = (d.gs.length - i) ∧ n ≤ n' ∧ Has τ [(0, d.gv), (3, (.int .i64 a)), (6, d.gv), (7, (.int .i64 ((d.gs.length : Nat) : Int))), (8, (.int .i64 ((i : Nat) : Int)))] ∧ D = [] ∧ (∀ i ∈ keys D, i < n') ∧ i ≤ d.gs.length ∧ 0 ≤ a ∧ a < 65536 ∧ (risP 0 d.gs ↔ risP a (d.gs.drop i)))) ((d.gs.length - 0)) (⟨0, 0, rfl, by omega, ⟨rfl, rfl, rfl, rfl, rfl, trivial⟩, rfl, (fun i hi => by cases hi), ⟨by omega, by omega, by omega, Iff.rfl⟩⟩) ?_
 rintro kn1 τ1 n1 _ ⟨i, a, rfl, hn1, hHn1, rfl, hKn1, hIn1⟩
 rw [Has.eq hHn1]
 obtain ⟨hil, ha0, ha1, hris⟩ := hIn1
 refine RA.sR hd env_ok ?_
 by_cases hc1 : ((i : Nat) : Int) < ((d.gs.length : Nat) : Int)
 ·
  obtain ⟨rg, wqhatg, hatg⟩ := h.hg.get (m := i) (by omega)
  have lathatg := hd.lt hatg
  have hri := hris.trans (ris_cons (by omega))
  refine oP 9 yT rfl (Eq.trans (r_bin rfl rfl rfl (b_lss rfl)) (dT hc1)) <| OA.nil fun _ => RA.seq hd <| RA.condT rfl <| RA.skip env_ok ?_
  intro _
  refine RA.seq hd <| RA.block <| RA.sR hd env_ok <| oP 10 (.pointer (some ⟨(rk d.gv), i, some 0⟩)) rfl (r_iaQ (c := cGp) (m := i) rfl rfl rfl rfl rfl rfl h.hg rfl (by omega) hatg rfl) <| oP 11 (.agg ⟨(cGp (d.gs.getD i dGp))⟩) rfl (r_loadA (e := cGp (d.gs.getD i dGp)) rfl rfl rfl rfl hatg (mp_getA (by omega)) rfl rfl) <| o1 (some 5) (Pt n1 0 0) (n1 + 1) (n1, some ⟨[[(.int .i64 0), (.int .i64 0)]], 2, 101, true⟩) rfl <| o1 none yU (n1 + 1) (n1, some ⟨[(cGp (d.gs.getD i dGp))], 2, 101, true⟩) (rS get_here) <| OA.nil fun _ => RA.seq hd <| RA.sR hd env_ok <| OA.ps [(12, (Pt n1 0 0))] rfl ?_
  refine oL 13 (.int .i64 (d.gs.getD i dGp).lo) get_here <| OA.ps [(14, (.int .i64 a))] rfl <| oP 15 (.int .i64 (a + 2)) rfl (r_bin rfl rfl rfl (b_add (i64_eq (by omega)))) ?_
  by_cases hc2 : (d.gs.getD i dGp).lo < (a + 2)
  ·
   refine oP 16 yT rfl (Eq.trans (r_bin rfl rfl rfl (b_lss rfl)) (dT hc2)) <| OA.ps [(17, yT)] rfl <| OA.offs 18 5 rfl <| OA.ps [(23, yT), (24, yT)] rfl <| OA.offs 25 3 rfl <| OA.ps [(28, yT)] rfl <| OA.nil fun _ => RA.condT rfl <| RA.sR hd env_ok <| OA.ps [(2, yF)] rfl <| OA.nil fun _ => ?_
   refine RA.ret env_ok ?_
   exact lf yF (bf hb (fun q => by first | (have q2 := q.2; omega) | (obtain ⟨q1, q2, q3, q4⟩ := hri.1 q.1; omega)))
  ·
   refine oP 16 yF rfl (Eq.trans (r_bin rfl rfl rfl (b_lss rfl)) (dF hc2)) <| OA.ps [(17, yF), (18, (Pt n1 0 1))] rfl <| oL 19 (.int .i64 (d.gs.getD i dGp).hi) get_here <| OA.ps [(20, (Pt n1 0 0))] rfl <| oL 21 (.int .i64 (d.gs.getD i dGp).lo) get_here ?_
   by_cases hc3 : (d.gs.getD i dGp).hi < (d.gs.getD i dGp).lo
   ·
    refine oP 22 yT rfl (Eq.trans (r_bin rfl rfl rfl (b_lss rfl)) (dT hc3)) <| OA.ps [(23, yT), (24, yT)] rfl <| OA.offs 25 3 rfl <| OA.ps [(28, yT)] rfl <| OA.nil fun _ => RA.condT rfl <| RA.sR hd env_ok <| OA.ps [(2, yF)] rfl <| OA.nil fun _ => ?_
    refine RA.ret env_ok ?_
    exact lf yF (bf hb (fun q => by first | (have q2 := q.2; omega) | (obtain ⟨q1, q2, q3, q4⟩ := hri.1 q.1; omega)))
   ·
    refine oP 22 yF rfl (Eq.trans (r_bin rfl rfl rfl (b_lss rfl)) (dF hc3)) <| OA.ps [(23, yF), (24, yF), (25, (Pt n1 0 1))] rfl <| oL 26 (.int .i64 (d.gs.getD i dGp).hi) get_here ?_
    by_cases hc4 : 65536 ≤ (d.gs.getD i dGp).hi
    ·
     refine oP 27 yT rfl (Eq.trans (r_bin rfl rfl rfl (b_geq rfl)) (dT hc4)) <| OA.ps [(28, yT)] rfl <| OA.nil fun _ => RA.condT rfl <| RA.sR hd env_ok <| OA.ps [(2, yF)] rfl <| OA.nil fun _ => ?_
     refine RA.ret env_ok ?_
     exact lf yF (bf hb (fun q => by first | (have q2 := q.2; omega) | (obtain ⟨q1, q2, q3, q4⟩ := hri.1 q.1; omega)))
    ·
     refine oP 27 yF rfl (Eq.trans (r_bin rfl rfl rfl (b_geq rfl)) (dF hc4)) <| OA.ps [(28, yF)] rfl <| OA.nil fun _ => RA.condF rfl <| RA.skip env_ok ?_
     intro _
     refine RA.region env_ok <| OA.ps [(29, (Pt n1 0 1))] rfl <| oL 30 (.int .i64 (d.gs.getD i dGp).hi) get_here <| OA.ps [(3, (.int .i64 (d.gs.getD i dGp).hi))] rfl <| OA.nil fun _ => RA.rb [(0, d.gv), (3, (.int .i64 (d.gs.getD i dGp).hi)), (5, (Pt n1 0 0)), (6, d.gv), (7, (.int .i64 ((d.gs.length : Nat) : Int))), (8, (.int .i64 ((i : Nat) : Int))), (9, yT), (28, yF)] rfl (fun τr2 => ?_)
     refine RA.region env_ok <| oP 31 (.int .i64 (((i + 1) : Nat) : Int)) rfl (r_bin rfl rfl rfl (b_add (i64_eq (by omega)))) <| OA.ps [(8, (.int .i64 (((i + 1) : Nat) : Int)))] rfl <| OA.nil ?_
     refine ⟨(d.gs.length - (i + 1)), by omega, [], (LsO fan), ⟨(i + 1), (d.gs.getD i dGp).hi, rfl, by omega, ⟨rfl, rfl, rfl, rfl, rfl, trivial⟩, rfl, (fun i hi => by cases hi), ⟨by omega, by omega, by omega, ⟨fun q => (hri.1 q).2.2.2, fun q => hri.2 ⟨by omega, by omega, by omega, q⟩⟩⟩⟩⟩
 ·
  have hrt : risP 0 d.gs := hris.2 (ris_nil (by omega))
  refine oP 9 yF rfl (Eq.trans (r_bin rfl rfl rfl (b_lss rfl)) (dF hc1)) <| OA.nil fun _ => RA.seq hd <| RA.condF rfl ?_
  refine RA.exit env_ok ?_
  intro _
  refine RA.sR hd env_ok <| OA.ps [(32, d.gv)] rfl <| oP 33 (.int .i64 ((d.gs.length : Nat) : Int)) rfl (r_lenQ (c := cGp) rfl rfl rfl rfl rfl rfl h.hg rfl) ?_
  by_cases hc5 : ((d.gs.length : Nat) : Int) ≤ 16
  ·
   refine oP 34 yT rfl (Eq.trans (r_bin rfl rfl rfl (b_leq rfl)) (dT hc5)) <| OA.ps [(2, yT)] rfl <| OA.nil fun _ => ?_
   refine RA.ret env_ok ?_
   exact lf yT (bt hb (⟨hrt, by omega⟩))
  ·
   refine oP 34 yF rfl (Eq.trans (r_bin rfl rfl rfl (b_leq rfl)) (dF hc5)) <| OA.ps [(2, yF)] rfl <| OA.nil fun _ => ?_
   refine RA.ret env_ok ?_
   exact lf yF (bf hb (fun q => by first | (have q2 := q.2; omega) | (obtain ⟨q1, q2, q3, q4⟩ := hri.1 q.1; omega)))
end Go.Proofs.Ytdnkhdkflemkeaa.Vt.Cp
/- Cp3: walks through functions of the program, by the calculus; written by a program of this workplace. -/
namespace Go.Proofs.Ytdnkhdkflemkeaa.Vt.Cp
open Go Go.Proofs Go.Proofs.YtdnkhdkflemkeaaV
set_option maxRecDepth 100000
set_option linter.unusedVariables false
set_option linter.unusedSimpArgs false
set_option maxHeartbeats 8000000
theorem gsL_snoc {A : List UInt8} {l : List Gp} {i : Nat} (h : i < l.length) : A ++ gsL (l.take i) ++ (be2 (l.getD i dGp).lo.toNat ++ be2 (l.getD i dGp).hi.toNat) = A ++ gsL (l.take (i + 1)) := by
  rw [List.append_assoc]; exact congrArg (A ++ ·) (fm_snoc (f := fun g : Gp => be2 g.lo.toNat ++ be2 g.hi.toNat) h)
theorem dsL_snoc {A : List UInt8} {l : List Dp} {i : Nat} (h : i < l.length) : A ++ dsL (l.take i) ++ be4 (l.getD i dDp).x = A ++ dsL (l.take (i + 1)) := by
  rw [List.append_assoc]; exact congrArg (A ++ ·) (fm_snoc (f := fun x : Dp => be4 x.x) h)
theorem gsT {l : List Gp} {i : Nat} (h : i ≤ 18) : (gsL (l.take i)).length ≤ 72 := by rw [gsL_len, List.length_take]; omega
theorem dsT {l : List Dp} {i : Nat} (h : i ≤ 18) : (dsL (l.take i)).length ≤ 72 := by rw [dsL_len, List.length_take]; omega
theorem sz0 {s : ByteArray} (h : s.size = 0) : s = ByteArray.empty := by
  apply L_ext
  rw [show L ByteArray.empty = [] from rfl]
  exact List.length_eq_zero_iff.1 (by rw [L_len]; exact h)
def hasntP (d : Chk) : Prop := ((kd d.typ = 0 ∨ kd d.typ = 1 ∨ kd d.typ = 3 ∨ kd d.typ = 7 ∨ kd d.typ = 16) ∨ d.tsn.toNat = 0) ∧ ((kd d.typ = 0 ∨ kd d.typ = 15) ∨ d.stream = 0) ∧ ((kd d.typ = 0 ∨ kd d.typ = 15) ∨ d.ssn = 0) ∧ (kd d.typ = 0 ∨ d.proto.toNat = 0) ∧ ((kd d.typ = 0 ∨ kd d.typ = 4 ∨ kd d.typ = 10 ∨ kd d.typ = 15 ∨ kd d.typ = 20) ∨ d.data.size = 0) ∧ (kd d.typ = 1 ∨ d.tag.toNat = 0) ∧ (kd d.typ = 1 ∨ d.outs = 0) ∧ (kd d.typ = 1 ∨ d.ins = 0) ∧ ((kd d.typ = 1 ∨ kd d.typ = 3) ∨ d.rwnd.toNat = 0) ∧ ((kd d.typ = 1 ∨ kd d.typ = 16) ∨ d.ps.length = 0) ∧ (kd d.typ = 6 ∨ d.cs.length = 0) ∧ (kd d.typ = 3 ∨ d.gs.length = 0) ∧ (kd d.typ = 3 ∨ d.ds.length = 0)
theorem body_0 {d : Chk} (h : kd d.typ = 0) : bodyL d = be4 d.tsn ++ be2 d.stream.toNat ++ be2 d.ssn.toNat ++ be4 d.proto ++ L d.data := by unfold bodyL; rw [if_pos h]
theorem body_1 {d : Chk} (h : kd d.typ = 1) : bodyL d = be4 d.tag ++ be4 d.rwnd ++ be2 d.outs.toNat ++ be2 d.ins.toNat ++ be4 d.tsn ++ psL d.ps := by unfold bodyL; rw [if_neg (by omega), if_pos h]
theorem body_3 {d : Chk} (h : kd d.typ = 3) : bodyL d = be4 d.tsn ++ be4 d.rwnd ++ gapsL d := by unfold bodyL; rw [if_neg (by omega), if_neg (by omega), if_pos h]
theorem body_4 {d : Chk} (h : kd d.typ = 4) : bodyL d = pB 1 d.data := by unfold bodyL; rw [if_neg (by omega), if_neg (by omega), if_neg (by omega), if_pos h]
theorem body_6 {d : Chk} (h : kd d.typ = 6) : bodyL d = csL d.cs := by unfold bodyL; rw [if_neg (by omega), if_neg (by omega), if_neg (by omega), if_neg (by omega), if_pos h]
theorem body_7 {d : Chk} (h : kd d.typ = 7) : bodyL d = be4 d.tsn := by unfold bodyL; rw [if_neg (by omega), if_neg (by omega), if_neg (by omega), if_neg (by omega), if_neg (by omega), if_pos h]
theorem body_8 {d : Chk} (h : kd d.typ = 8) : bodyL d = [] := by unfold bodyL; rw [if_neg (by omega), if_neg (by omega), if_neg (by omega), if_neg (by omega), if_neg (by omega), if_neg (by omega), if_pos h]
theorem body_15 {d : Chk} (h : kd d.typ = 15) : bodyL d = be2 d.stream.toNat ++ be2 d.ssn.toNat ++ L d.data := by unfold bodyL; rw [if_neg (by omega), if_neg (by omega), if_neg (by omega), if_neg (by omega), if_neg (by omega), if_neg (by omega), if_neg (by omega), if_pos h]
theorem body_16 {d : Chk} (h : kd d.typ = 16) : bodyL d = be4 d.tsn ++ psL d.ps := by unfold bodyL; rw [if_neg (by omega), if_neg (by omega), if_neg (by omega), if_neg (by omega), if_neg (by omega), if_neg (by omega), if_neg (by omega), if_neg (by omega), if_pos h]
theorem body_20 {d : Chk} (h : kd d.typ = 10 ∨ kd d.typ = 20) : bodyL d = L d.data := by unfold bodyL; rw [if_neg (by omega), if_neg (by omega), if_neg (by omega), if_neg (by omega), if_neg (by omega), if_neg (by omega), if_neg (by omega), if_neg (by omega), if_neg (by omega)]
abbrev xCp31 (d : Chk) : List Value := [(.int .i64 d.typ), (.int .i64 d.flags), (W d.tsn), (.int .i64 d.stream), (.int .i64 d.ssn), (W d.proto), (.string d.data), (W d.tag), (W d.rwnd), (.int .i64 d.outs), (.int .i64 d.ins), d.pv, d.cv, d.gv, d.dv]
theorem sGaps {σ : Store} (d : Chk) (hgp : gapsP d.gs) (hdp : d.ds.length ≤ 16)  (h : gd σ d) : PS Try.prog noDen 99 [(.agg ⟨(cChk d)⟩)] σ (.string (bstr (gapsL d))) := by
 have hg16 := hgp.2
 refine PS.body (E := env) env_ok rfl rfl (by show _ ≤ _; exact of_decide_eq_true (by kernel_rfl)) (fun n hd => ?_)
 refine RA.sR hd env_ok <| o1 (some 1) (Pt n 0 0) (n + 1) (n, some ⟨[(cChk d)], 15, 54, true⟩) (r_box (cs := (cChk d)) rfl rfl rfl (Nat.le_of_ble_eq_true rfl) (by simp only [List.all_cons, List.all_nil, Bool.and_true, Bool.and_eq_true, cChk]; exact ⟨rfl, rfl, rfl, rfl, rfl, rfl, rfl, rfl, rfl, rfl, rfl, (h.hp).one, (h.hc).one, (h.hg).one, (h.hu).one⟩)) <| OA.ps [(2, (.string (ByteArray.mk #[])))] rfl <| OA.nil fun _ => RA.seq hd <| RA.par (md := [some [], some [n], some [], none, some [], some [n], some [], none, some [], some []]) env_ok (hd.of (by omega) (kb1 (by omega))) (by kernel_rfl) <| PQ.ps [(8, (Pt n 0 13))] rfl <| pQl 9 d.gv get_here <| pP 10 (.int .i64 ((d.gs.length : Nat) : Int)) rfl (r_lenQ (c := cGp) rfl rfl rfl rfl rfl rfl h.hg rfl) <| pA 11 (V := []) (hd.of (by omega) (kb1 (by omega))) rfl rfl (by kernel_rfl) (by kernel_rfl) (sU16 d.gs.length (by omega)) fun n1 hn1 => PQ.ps [(12, (Pt n 0 14))] rfl ?_
 refine pQl 13 d.dv get_here <| pP 14 (.int .i64 ((d.ds.length : Nat) : Int)) rfl (r_lenQ (c := cDp) rfl rfl rfl rfl rfl rfl h.hu rfl) <| pA 15 (V := []) (hd.of (by omega) (kb1 (by omega))) rfl rfl (by kernel_rfl) (by kernel_rfl) (sU16 d.ds.length (by omega)) fun n2 hn2 => pP 16 (.string (bstr ((be2 d.gs.length) ++ (be2 d.ds.length)))) rfl (Eq.trans (r_cat rfl rfl rfl (by simp only [bstr_size, size_lit, List.length_append, be2_len, be4_len, be1_len, List.length_replicate, List.length_cons, List.length_nil, List.size_toArray]; omega)) (by rw [bstr_app] <;> rfl)) <| PQ.ps [(3, (.string (bstr ((be2 d.gs.length) ++ (be2 d.ds.length)))))] rfl <| PQ.done (d := []) (by kernel_rfl) fun _ => RA.seq hd <| RA.sR hd env_ok <| OA.ps [(17, (Pt n 0 13))] rfl <| oL 18 d.gv get_here <| oP 19 (.int .i64 ((d.gs.length : Nat) : Int)) rfl (r_lenQ (c := cGp) rfl rfl rfl rfl rfl rfl h.hg rfl) ?_
 refine OA.ps [(20, (.int .i64 0))] rfl <| OA.nil fun _ => RA.block ?_
 refine RA.loop hd (fun kk_ τ n' D => (∃ i : Nat, kk_ = (d.gs.length - i) ∧ n2 ≤ n' ∧ Has τ [(1, (Pt n 0 0)), (3, (.string (bstr ((be2 d.gs.length ++ be2 d.ds.length) ++ gsL (d.gs.take i))))), (18, d.gv), (19, (.int .i64 ((d.gs.length : Nat) : Int))), (20, (.int .i64 ((i : Nat) : Int)))] ∧ D = [(n, some ⟨[(xCp31 d)], 15, 54, true⟩)] ∧ (∀ i ∈ keys D, i < n') ∧ i ≤ d.gs.length)) ((d.gs.length - 0)) (⟨0, rfl, by omega, ⟨rfl, (by rw [show gsL (d.gs.take 0) = [] from rfl, List.append_nil] <;> rfl), rfl, rfl, rfl, trivial⟩, rfl, (kb1 (by omega)), by omega⟩) ?_
 rintro kn3 τ3 n3 _ ⟨i, rfl, hn3, hHn3, rfl, hKn3, hIn3⟩
 rw [Has.eq hHn3]
 have hKn3_0 := kk0 hKn3
 clear hKn3
 have hil := hIn3
 have hgl := gsT (l := d.gs) (i := i) (by omega)
 refine RA.sR hd env_ok ?_
 by_cases hc1 : ((i : Nat) : Int) < ((d.gs.length : Nat) : Int)
 ·
  obtain ⟨rg, wqhatg, hatg⟩ := h.hg.get (m := i) (by omega)
  have lathatg := hd.lt hatg
  have hmm := ris_mem (by omega) hgp.1 _ (getD_mem (d := dGp) (show i < d.gs.length by omega))
  refine oP 21 yT rfl (Eq.trans (r_bin rfl rfl rfl (b_lss rfl)) (dT hc1)) <| OA.nil fun _ => RA.seq hd <| RA.condT rfl <| RA.skip env_ok ?_
  intro _
  refine RA.seq hd <| RA.block <| RA.sR hd env_ok <| oP 22 (.pointer (some ⟨(rk d.gv), i, some 0⟩)) rfl (r_iaQ (c := cGp) (m := i) rfl rfl rfl rfl rfl rfl h.hg rfl (by omega) (get_there (by omega) hatg) rfl) <| oP 23 (.agg ⟨(cGp (d.gs.getD i dGp))⟩) rfl (r_loadA (e := cGp (d.gs.getD i dGp)) rfl rfl rfl rfl (get_there (by omega) hatg) (mp_getA (by omega)) rfl rfl) <| o1 (some 5) (Pt n3 0 0) (n3 + 1) (n3, some ⟨[[(.int .i64 0), (.int .i64 0)]], 2, 101, true⟩) rfl <| o1 none yU (n3 + 1) (n3, some ⟨[(cGp (d.gs.getD i dGp))], 2, 101, true⟩) (rS get_here) <| OA.nil fun _ => RA.par (md := [some [], some [], some [n3], none, some [], some [n3], none, some [], some [], some []]) env_ok (hd.of (by omega) (kb3 (by omega))) (by kernel_rfl) <| PQ.ps [(24, (.string (bstr ((be2 d.gs.length ++ be2 d.ds.length) ++ gsL (d.gs.take i))))), (25, (Pt n3 0 0))] rfl <| pQl 26 (.int .i64 (d.gs.getD i dGp).lo) get_here ?_
  refine pA 27 (V := []) (hd.of (by omega) (kb3 (by omega))) rfl rfl (by kernel_rfl) (by kernel_rfl) (zU16 (d.gs.getD i dGp).lo (by omega) (by omega)) fun n4 hn4 => PQ.ps [(28, (Pt n3 0 1))] rfl <| pQl 29 (.int .i64 (d.gs.getD i dGp).hi) get_here <| pA 30 (V := []) (hd.of (by omega) (kb3 (by omega))) rfl rfl (by kernel_rfl) (by kernel_rfl) (zU16 (d.gs.getD i dGp).hi (by omega) (by omega)) fun n5 hn5 => pP 31 (.string (bstr ((be2 ((d.gs.getD i dGp).lo).toNat) ++ (be2 ((d.gs.getD i dGp).hi).toNat)))) rfl (Eq.trans (r_cat rfl rfl rfl (by simp only [bstr_size, size_lit, List.length_append, be2_len, be4_len, be1_len, List.length_replicate, List.length_cons, List.length_nil, List.size_toArray]; omega)) (by rw [bstr_app] <;> rfl)) <| pP 32 (.string (bstr (((be2 d.gs.length ++ be2 d.ds.length) ++ gsL (d.gs.take i)) ++ ((be2 ((d.gs.getD i dGp).lo).toNat) ++ (be2 ((d.gs.getD i dGp).hi).toNat))))) rfl (Eq.trans (r_cat rfl rfl rfl (by simp only [bstr_size, size_lit, List.length_append, be2_len, be4_len, be1_len, List.length_replicate, List.length_cons, List.length_nil, List.size_toArray]; omega)) (by rw [bstr_app] <;> rfl)) <| PQ.ps [(3, (.string (bstr (((be2 d.gs.length ++ be2 d.ds.length) ++ gsL (d.gs.take i)) ++ ((be2 ((d.gs.getD i dGp).lo).toNat) ++ (be2 ((d.gs.getD i dGp).hi).toNat))))))] rfl <| PQ.done (d := []) (by kernel_rfl) fun _ => RA.region env_ok <| oP 33 (.int .i64 (((i + 1) : Nat) : Int)) rfl (r_bin rfl rfl rfl (b_add (i64_eq (by omega)))) <| OA.ps [(20, (.int .i64 (((i + 1) : Nat) : Int)))] rfl ?_
  refine OA.nil ?_
  refine ⟨(d.gs.length - (i + 1)), by omega, [(n, some ⟨[(xCp31 d)], 15, 54, true⟩)], (LsO (fA get_here (gt2 (by omega) get_here) fan)), ⟨(i + 1), rfl, by omega, ⟨rfl, (by rw [gsL_snoc (by omega)] <;> rfl), rfl, rfl, rfl, trivial⟩, rfl, (kb1 (by omega)), by omega⟩⟩
 ·
  refine oP 21 yF rfl (Eq.trans (r_bin rfl rfl rfl (b_lss rfl)) (dF hc1)) <| OA.nil fun _ => RA.seq hd <| RA.condF rfl ?_
  refine RA.exit env_ok ?_
  intro _
  refine RA.seq hd <| RA.sR hd env_ok <| OA.ps [(34, (Pt n 0 14))] rfl <| oL 35 d.dv get_here <| oP 36 (.int .i64 ((d.ds.length : Nat) : Int)) rfl (r_lenQ (c := cDp) rfl rfl rfl rfl rfl rfl h.hu rfl) <| OA.ps [(37, (.int .i64 0))] rfl <| OA.nil fun _ => RA.block ?_
  refine RA.loop hd (fun kk_ τ n' D => (∃ m : Nat, kk_ = (d.ds.length - m) ∧ n3 ≤ n' ∧ Has τ [(1, (Pt n 0 0)), (3, (.string (bstr (((be2 d.gs.length ++ be2 d.ds.length) ++ gsL d.gs) ++ dsL (d.ds.take m))))), (35, d.dv), (36, (.int .i64 ((d.ds.length : Nat) : Int))), (37, (.int .i64 ((m : Nat) : Int)))] ∧ D = [(n, some ⟨[(xCp31 d)], 15, 54, true⟩)] ∧ (∀ i ∈ keys D, i < n') ∧ m ≤ d.ds.length)) ((d.ds.length - 0)) (⟨0, rfl, by omega, ⟨rfl, (by rw [take_full (l := d.gs) (i := i) (by omega), show dsL (d.ds.take 0) = [] from rfl, List.append_nil] <;> rfl), rfl, rfl, rfl, trivial⟩, rfl, (kb1 (by omega)), by omega⟩) ?_
  rintro kn6 τ6 n6 _ ⟨m, rfl, hn6, hHn6, rfl, hKn6, hIn6⟩
  rw [Has.eq hHn6]
  have hKn6_0 := kk0 hKn6
  clear hKn6
  have him := hIn6
  have hdl := dsT (l := d.ds) (i := m) (by omega)
  have hgl2 := gsL_len d.gs
  refine RA.sR hd env_ok ?_
  by_cases hc2 : ((m : Nat) : Int) < ((d.ds.length : Nat) : Int)
  ·
   obtain ⟨rdu, wqhatdu, hatdu⟩ := h.hu.get (m := m) (by omega)
   have lathatdu := hd.lt hatdu
   refine oP 38 yT rfl (Eq.trans (r_bin rfl rfl rfl (b_lss rfl)) (dT hc2)) <| OA.nil fun _ => RA.seq hd <| RA.condT rfl <| RA.skip env_ok ?_
   intro _
   refine RA.seq hd <| RA.block <| RA.sR hd env_ok <| oP 39 (.pointer (some ⟨(rk d.dv), m, some 0⟩)) rfl (r_iaQ (c := cDp) (m := m) rfl rfl rfl rfl rfl rfl h.hu rfl (by omega) (get_there (by omega) hatdu) rfl) <| oP 40 (W (d.ds.getD m dDp).x) rfl (r_load1 (e := cDp (d.ds.getD m dDp)) rfl rfl rfl rfl rfl (get_there (by omega) hatdu) (mp_getA (by omega)) rfl) <| OA.ps [(7, (W (d.ds.getD m dDp).x))] rfl <| OA.nil fun _ => RA.region env_ok <| OA.ps [(41, (.string (bstr (((be2 d.gs.length ++ be2 d.ds.length) ++ gsL d.gs) ++ dsL (d.ds.take m))))), (42, (W (d.ds.getD m dDp).x))] rfl <| oC 43 (hd.of (by omega) (kb1 (by omega))) rfl rfl (sU32 (d.ds.getD m dDp).x) fun n7 hn7 => oP 44 (.string (bstr ((((be2 d.gs.length ++ be2 d.ds.length) ++ gsL d.gs) ++ dsL (d.ds.take m)) ++ (be4 (d.ds.getD m dDp).x)))) rfl (Eq.trans (r_cat rfl rfl rfl (by simp only [bstr_size, size_lit, List.length_append, be2_len, be4_len, be1_len, List.length_replicate, List.length_cons, List.length_nil, List.size_toArray]; omega)) (by rw [bstr_app] <;> rfl)) ?_
   refine OA.ps [(3, (.string (bstr ((((be2 d.gs.length ++ be2 d.ds.length) ++ gsL d.gs) ++ dsL (d.ds.take m)) ++ (be4 (d.ds.getD m dDp).x)))))] rfl <| OA.nil fun _ => RA.region env_ok <| oP 45 (.int .i64 (((m + 1) : Nat) : Int)) rfl (r_bin rfl rfl rfl (b_add (i64_eq (by omega)))) <| OA.ps [(37, (.int .i64 (((m + 1) : Nat) : Int)))] rfl <| OA.nil ?_
   refine ⟨(d.ds.length - (m + 1)), by omega, [(n, some ⟨[(xCp31 d)], 15, 54, true⟩)], (Less.refl _ _ _), ⟨(m + 1), rfl, by omega, ⟨rfl, (by rw [dsL_snoc (by omega)] <;> rfl), rfl, rfl, rfl, trivial⟩, rfl, (kb1 (by omega)), by omega⟩⟩
  ·
   refine oP 38 yF rfl (Eq.trans (r_bin rfl rfl rfl (b_lss rfl)) (dF hc2)) <| OA.nil fun _ => RA.seq hd <| RA.condF rfl ?_
   refine RA.exit env_ok ?_
   intro _
   refine RA.sR hd env_ok <| OA.ps [(46, (.string (bstr (((be2 d.gs.length ++ be2 d.ds.length) ++ gsL d.gs) ++ dsL (d.ds.take m))))), (2, (.string (bstr (((be2 d.gs.length ++ be2 d.ds.length) ++ gsL d.gs) ++ dsL (d.ds.take m)))))] rfl <| OA.nil fun _ => ?_
   refine RA.ret env_ok ?_
   exact lf (.string (bstr (((be2 d.gs.length ++ be2 d.ds.length) ++ gsL d.gs) ++ dsL (d.ds.take m)))) (by rw [take_full (l := d.ds) (i := m) (by omega)] <;> rfl)
theorem sBody {σ : Store} (d : Chk) (hok : bodyOk d)  (h : gd σ d) : PS Try.prog noDen 78 [(.agg ⟨(cChk d)⟩)] σ (.string (bstr (bodyL d))) := by
 have hls := hok.lists
 have hw1 := hok.w1
 have hw2 := hok.w2
 have hw3 := hok.w3
 have hw4 := hok.w4
 unfold wordP at hw1 hw2 hw3 hw4
 have hda := hok.data
 have hgp := hok.gaps
 have hdp := hok.dups
 have hp16 := hls.2.2.1
 have hc16 := hls.2.2.2
 have hp1 : prmOk 1 d.data := ⟨by omega, by omega, by omega⟩
 have hpl := psL_len hls.1 (i := d.ps.length) hp16
 have hcl := csL_len hls.2.1 (i := d.cs.length) hc16
 rw [List.take_length] at hpl hcl
 have hgl := gsL_len d.gs
 have hdl := dsL_len d.ds
 have hLd := L_len d.data
 have hg16 := hgp.2
 have hgal : (gapsL d).length ≤ 200 := by unfold gapsL; simp only [List.length_append, be2_len]; omega
 refine PS.body (E := env) env_ok rfl rfl (by show _ ≤ _; exact of_decide_eq_true (by kernel_rfl)) (fun n hd => ?_)
 refine RA.sR hd env_ok <| o1 (some 1) (Pt n 0 0) (n + 1) (n, some ⟨[(cChk d)], 15, 54, true⟩) (r_box (cs := (cChk d)) rfl rfl rfl (Nat.le_of_ble_eq_true rfl) (by simp only [List.all_cons, List.all_nil, Bool.and_true, Bool.and_eq_true, cChk]; exact ⟨rfl, rfl, rfl, rfl, rfl, rfl, rfl, rfl, rfl, rfl, rfl, (h.hp).one, (h.hc).one, (h.hg).one, (h.hu).one⟩)) <| OA.ps [(2, (.string (ByteArray.mk #[])))] rfl <| OA.nil fun _ => RA.seq hd <| RA.sR hd env_ok <| OA.ps [(3, (Pt n 0 0))] rfl <| oL 4 (.int .i64 d.typ) get_here <| OA.nil fun _ => RA.block <| RA.sR hd env_ok ?_
 by_cases hc1 : d.typ = 0
 ·
  refine oP 6 yT rfl (Eq.trans (r_bin rfl rfl rfl (b_eql rfl)) (dT hc1)) <| OA.ps [(5, yT)] rfl <| OA.nil fun _ => RA.condT rfl <| RA.seq hd <| RA.par (md := [some [], some [n], none, some [], some [n], none, some [], some [], some [n], none, some [], some [], some [n], none, some [], some [], some [n], some [], some []]) env_ok (hd.of (by omega) (kb1 (by omega))) (by kernel_rfl) <| PQ.ps [(7, (Pt n 0 2))] rfl <| pQl 8 (W d.tsn) get_here <| pA 9 (V := []) (hd.of (by omega) (kb1 (by omega))) rfl rfl (by kernel_rfl) (by kernel_rfl) (sU32 d.tsn) fun n1 hn1 => PQ.ps [(10, (Pt n 0 3))] rfl <| pQl 11 (.int .i64 d.stream) get_here ?_
  refine pA 12 (V := []) (hd.of (by omega) (kb1 (by omega))) rfl rfl (by kernel_rfl) (by kernel_rfl) (zU16 d.stream (by omega) (by omega)) fun n2 hn2 => pP 13 (.string (bstr ((be4 d.tsn) ++ (be2 (d.stream).toNat)))) rfl (Eq.trans (r_cat rfl rfl rfl (by simp only [bstr_size, size_lit, List.length_append, be2_len, be4_len, be1_len, List.length_replicate, List.length_cons, List.length_nil, List.size_toArray, L_len]; omega)) (by rw [bstr_app] <;> rfl)) <| PQ.ps [(14, (Pt n 0 4))] rfl <| pQl 15 (.int .i64 d.ssn) get_here <| pA 16 (V := []) (hd.of (by omega) (kb1 (by omega))) rfl rfl (by kernel_rfl) (by kernel_rfl) (zU16 d.ssn (by omega) (by omega)) fun n3 hn3 => pP 17 (.string (bstr (((be4 d.tsn) ++ (be2 (d.stream).toNat)) ++ (be2 (d.ssn).toNat)))) rfl (Eq.trans (r_cat rfl rfl rfl (by simp only [bstr_size, size_lit, List.length_append, be2_len, be4_len, be1_len, List.length_replicate, List.length_cons, List.length_nil, List.size_toArray, L_len]; omega)) (by rw [bstr_app] <;> rfl)) <| PQ.ps [(18, (Pt n 0 5))] rfl <| pQl 19 (W d.proto) get_here <| pA 20 (V := []) (hd.of (by omega) (kb1 (by omega))) rfl rfl (by kernel_rfl) (by kernel_rfl) (sU32 d.proto) fun n4 hn4 => pP 21 (.string (bstr ((((be4 d.tsn) ++ (be2 (d.stream).toNat)) ++ (be2 (d.ssn).toNat)) ++ (be4 d.proto)))) rfl (Eq.trans (r_cat rfl rfl rfl (by simp only [bstr_size, size_lit, List.length_append, be2_len, be4_len, be1_len, List.length_replicate, List.length_cons, List.length_nil, List.size_toArray, L_len]; omega)) (by rw [bstr_app] <;> rfl)) <| PQ.ps [(22, (Pt n 0 6))] rfl ?_
  refine pQl 23 (.string d.data) get_here <| pP 24 (.string (bstr (((((be4 d.tsn) ++ (be2 (d.stream).toNat)) ++ (be2 (d.ssn).toNat)) ++ (be4 d.proto)) ++ L d.data))) rfl (Eq.trans (r_cat rfl rfl rfl (by simp only [bstr_size, List.length_append, be2_len, be4_len, be1_len, L_len]; omega)) (by rw [bstr_appL] <;> rfl)) <| PQ.ps [(2, (.string (bstr (((((be4 d.tsn) ++ (be2 (d.stream).toNat)) ++ (be2 (d.ssn).toNat)) ++ (be4 d.proto)) ++ L d.data))))] rfl <| PQ.done (d := []) (by kernel_rfl) fun _ => RA.rb [(0, (.agg ⟨(cChk d)⟩)), (1, (Pt n 0 0)), (2, (.string (bstr (((((be4 d.tsn) ++ (be2 (d.stream).toNat)) ++ (be2 (d.ssn).toNat)) ++ (be4 d.proto)) ++ L d.data)))), (4, (.int .i64 d.typ)), (5, yT)] rfl (fun τr5 => ?_)
  refine RA.ret env_ok ?_
  exact lf (.string (bstr (((((be4 d.tsn) ++ (be2 (d.stream).toNat)) ++ (be2 (d.ssn).toNat)) ++ (be4 d.proto)) ++ L d.data))) (by rw [body_0 (show kd d.typ = 0 from by have := kd_cases d.typ; omega)] <;> rfl)
 ·
  refine oP 6 yF rfl (Eq.trans (r_bin rfl rfl rfl (b_eql rfl)) (dF hc1)) <| OA.ps [(5, yF)] rfl <| OA.nil fun _ => RA.condF rfl <| RA.seq hd <| RA.sR hd env_ok ?_
  by_cases hc2 : d.typ = 1
  ·
   refine oP 26 yT rfl (Eq.trans (r_bin rfl rfl rfl (b_eql rfl)) (dT hc2)) <| OA.ps [(25, yT)] rfl <| OA.nil fun _ => RA.condT rfl <| RA.skip env_ok ?_
   intro _
   refine RA.condT rfl <| RA.seq hd <| RA.par (md := [some [], some [n], none, some [], some [n], none, some [], some [], some [n], none, some [], some [], some [n], none, some [], some [], some [n], none, some [], some [], some [n], none, some [], some []]) env_ok (hd.of (by omega) (kb1 (by omega))) (by kernel_rfl) <| PQ.ps [(28, (Pt n 0 7))] rfl <| pQl 29 (W d.tag) get_here <| pA 30 (V := []) (hd.of (by omega) (kb1 (by omega))) rfl rfl (by kernel_rfl) (by kernel_rfl) (sU32 d.tag) fun n6 hn6 => PQ.ps [(31, (Pt n 0 8))] rfl <| pQl 32 (W d.rwnd) get_here <| pA 33 (V := []) (hd.of (by omega) (kb1 (by omega))) rfl rfl (by kernel_rfl) (by kernel_rfl) (sU32 d.rwnd) fun n7 hn7 => pP 34 (.string (bstr ((be4 d.tag) ++ (be4 d.rwnd)))) rfl (Eq.trans (r_cat rfl rfl rfl (by simp only [bstr_size, size_lit, List.length_append, be2_len, be4_len, be1_len, List.length_replicate, List.length_cons, List.length_nil, List.size_toArray, L_len]; omega)) (by rw [bstr_app] <;> rfl)) <| PQ.ps [(35, (Pt n 0 9))] rfl ?_
   refine pQl 36 (.int .i64 d.outs) get_here <| pA 37 (V := []) (hd.of (by omega) (kb1 (by omega))) rfl rfl (by kernel_rfl) (by kernel_rfl) (zU16 d.outs (by omega) (by omega)) fun n8 hn8 => pP 38 (.string (bstr (((be4 d.tag) ++ (be4 d.rwnd)) ++ (be2 (d.outs).toNat)))) rfl (Eq.trans (r_cat rfl rfl rfl (by simp only [bstr_size, size_lit, List.length_append, be2_len, be4_len, be1_len, List.length_replicate, List.length_cons, List.length_nil, List.size_toArray, L_len]; omega)) (by rw [bstr_app] <;> rfl)) <| PQ.ps [(39, (Pt n 0 10))] rfl <| pQl 40 (.int .i64 d.ins) get_here <| pA 41 (V := []) (hd.of (by omega) (kb1 (by omega))) rfl rfl (by kernel_rfl) (by kernel_rfl) (zU16 d.ins (by omega) (by omega)) fun n9 hn9 => pP 42 (.string (bstr ((((be4 d.tag) ++ (be4 d.rwnd)) ++ (be2 (d.outs).toNat)) ++ (be2 (d.ins).toNat)))) rfl (Eq.trans (r_cat rfl rfl rfl (by simp only [bstr_size, size_lit, List.length_append, be2_len, be4_len, be1_len, List.length_replicate, List.length_cons, List.length_nil, List.size_toArray, L_len]; omega)) (by rw [bstr_app] <;> rfl)) <| PQ.ps [(43, (Pt n 0 2))] rfl <| pQl 44 (W d.tsn) get_here <| pA 45 (V := []) (hd.of (by omega) (kb1 (by omega))) rfl rfl (by kernel_rfl) (by kernel_rfl) (sU32 d.tsn) fun n10 hn10 => pP 46 (.string (bstr (((((be4 d.tag) ++ (be4 d.rwnd)) ++ (be2 (d.outs).toNat)) ++ (be2 (d.ins).toNat)) ++ (be4 d.tsn)))) rfl (Eq.trans (r_cat rfl rfl rfl (by simp only [bstr_size, size_lit, List.length_append, be2_len, be4_len, be1_len, List.length_replicate, List.length_cons, List.length_nil, List.size_toArray, L_len]; omega)) (by rw [bstr_app] <;> rfl)) ?_
   refine PQ.ps [(47, (Pt n 0 11))] rfl <| pQl 48 d.pv get_here <| pA 49 (V := []) (hd.of (by omega) (kb1 (by omega))) rfl rfl (by kernel_rfl) (by kernel_rfl) (sPAll d.ps d.pv hls.1 hp16 (h.mono (sub_a1 hd)).hp) fun n11 hn11 => pP 50 (.string (bstr ((((((be4 d.tag) ++ (be4 d.rwnd)) ++ (be2 (d.outs).toNat)) ++ (be2 (d.ins).toNat)) ++ (be4 d.tsn)) ++ (psL d.ps)))) rfl (Eq.trans (r_cat rfl rfl rfl (by simp only [bstr_size, size_lit, List.length_append, be2_len, be4_len, be1_len, List.length_replicate, List.length_cons, List.length_nil, List.size_toArray, L_len]; omega)) (by rw [bstr_app] <;> rfl)) <| PQ.ps [(2, (.string (bstr ((((((be4 d.tag) ++ (be4 d.rwnd)) ++ (be2 (d.outs).toNat)) ++ (be2 (d.ins).toNat)) ++ (be4 d.tsn)) ++ (psL d.ps)))))] rfl <| PQ.done (d := []) (by kernel_rfl) fun _ => RA.rb [(0, (.agg ⟨(cChk d)⟩)), (1, (Pt n 0 0)), (2, (.string (bstr ((((((be4 d.tag) ++ (be4 d.rwnd)) ++ (be2 (d.outs).toNat)) ++ (be2 (d.ins).toNat)) ++ (be4 d.tsn)) ++ (psL d.ps))))), (4, (.int .i64 d.typ)), (5, yF), (25, yT)] rfl (fun τr12 => ?_)
   refine RA.ret env_ok ?_
   exact lf (.string (bstr ((((((be4 d.tag) ++ (be4 d.rwnd)) ++ (be2 (d.outs).toNat)) ++ (be2 (d.ins).toNat)) ++ (be4 d.tsn)) ++ (psL d.ps)))) (by rw [body_1 (show kd d.typ = 1 from by have := kd_cases d.typ; omega)] <;> rfl)
  ·
   refine oP 26 yF rfl (Eq.trans (r_bin rfl rfl rfl (b_eql rfl)) (dF hc2)) <| OA.ps [(25, yF)] rfl <| OA.nil fun _ => RA.condF rfl <| RA.region env_ok ?_
   by_cases hc3 : d.typ = 2
   ·
    refine oP 27 yT rfl (Eq.trans (r_bin rfl rfl rfl (b_eql rfl)) (dT hc3)) <| OA.ps [(25, yT)] rfl <| OA.nil fun _ => RA.condT rfl <| RA.seq hd <| RA.par (md := [some [], some [n], none, some [], some [n], none, some [], some [], some [n], none, some [], some [], some [n], none, some [], some [], some [n], none, some [], some [], some [n], none, some [], some []]) env_ok (hd.of (by omega) (kb1 (by omega))) (by kernel_rfl) <| PQ.ps [(28, (Pt n 0 7))] rfl <| pQl 29 (W d.tag) get_here <| pA 30 (V := []) (hd.of (by omega) (kb1 (by omega))) rfl rfl (by kernel_rfl) (by kernel_rfl) (sU32 d.tag) fun n13 hn13 => PQ.ps [(31, (Pt n 0 8))] rfl <| pQl 32 (W d.rwnd) get_here ?_
    refine pA 33 (V := []) (hd.of (by omega) (kb1 (by omega))) rfl rfl (by kernel_rfl) (by kernel_rfl) (sU32 d.rwnd) fun n14 hn14 => pP 34 (.string (bstr ((be4 d.tag) ++ (be4 d.rwnd)))) rfl (Eq.trans (r_cat rfl rfl rfl (by simp only [bstr_size, size_lit, List.length_append, be2_len, be4_len, be1_len, List.length_replicate, List.length_cons, List.length_nil, List.size_toArray, L_len]; omega)) (by rw [bstr_app] <;> rfl)) <| PQ.ps [(35, (Pt n 0 9))] rfl <| pQl 36 (.int .i64 d.outs) get_here <| pA 37 (V := []) (hd.of (by omega) (kb1 (by omega))) rfl rfl (by kernel_rfl) (by kernel_rfl) (zU16 d.outs (by omega) (by omega)) fun n15 hn15 => pP 38 (.string (bstr (((be4 d.tag) ++ (be4 d.rwnd)) ++ (be2 (d.outs).toNat)))) rfl (Eq.trans (r_cat rfl rfl rfl (by simp only [bstr_size, size_lit, List.length_append, be2_len, be4_len, be1_len, List.length_replicate, List.length_cons, List.length_nil, List.size_toArray, L_len]; omega)) (by rw [bstr_app] <;> rfl)) <| PQ.ps [(39, (Pt n 0 10))] rfl <| pQl 40 (.int .i64 d.ins) get_here <| pA 41 (V := []) (hd.of (by omega) (kb1 (by omega))) rfl rfl (by kernel_rfl) (by kernel_rfl) (zU16 d.ins (by omega) (by omega)) fun n16 hn16 => pP 42 (.string (bstr ((((be4 d.tag) ++ (be4 d.rwnd)) ++ (be2 (d.outs).toNat)) ++ (be2 (d.ins).toNat)))) rfl (Eq.trans (r_cat rfl rfl rfl (by simp only [bstr_size, size_lit, List.length_append, be2_len, be4_len, be1_len, List.length_replicate, List.length_cons, List.length_nil, List.size_toArray, L_len]; omega)) (by rw [bstr_app] <;> rfl)) <| PQ.ps [(43, (Pt n 0 2))] rfl ?_
    refine pQl 44 (W d.tsn) get_here <| pA 45 (V := []) (hd.of (by omega) (kb1 (by omega))) rfl rfl (by kernel_rfl) (by kernel_rfl) (sU32 d.tsn) fun n17 hn17 => pP 46 (.string (bstr (((((be4 d.tag) ++ (be4 d.rwnd)) ++ (be2 (d.outs).toNat)) ++ (be2 (d.ins).toNat)) ++ (be4 d.tsn)))) rfl (Eq.trans (r_cat rfl rfl rfl (by simp only [bstr_size, size_lit, List.length_append, be2_len, be4_len, be1_len, List.length_replicate, List.length_cons, List.length_nil, List.size_toArray, L_len]; omega)) (by rw [bstr_app] <;> rfl)) <| PQ.ps [(47, (Pt n 0 11))] rfl <| pQl 48 d.pv get_here <| pA 49 (V := []) (hd.of (by omega) (kb1 (by omega))) rfl rfl (by kernel_rfl) (by kernel_rfl) (sPAll d.ps d.pv hls.1 hp16 (h.mono (sub_a1 hd)).hp) fun n18 hn18 => pP 50 (.string (bstr ((((((be4 d.tag) ++ (be4 d.rwnd)) ++ (be2 (d.outs).toNat)) ++ (be2 (d.ins).toNat)) ++ (be4 d.tsn)) ++ (psL d.ps)))) rfl (Eq.trans (r_cat rfl rfl rfl (by simp only [bstr_size, size_lit, List.length_append, be2_len, be4_len, be1_len, List.length_replicate, List.length_cons, List.length_nil, List.size_toArray, L_len]; omega)) (by rw [bstr_app] <;> rfl)) <| PQ.ps [(2, (.string (bstr ((((((be4 d.tag) ++ (be4 d.rwnd)) ++ (be2 (d.outs).toNat)) ++ (be2 (d.ins).toNat)) ++ (be4 d.tsn)) ++ (psL d.ps)))))] rfl <| PQ.done (d := []) (by kernel_rfl) fun _ => RA.rb [(0, (.agg ⟨(cChk d)⟩)), (1, (Pt n 0 0)), (2, (.string (bstr ((((((be4 d.tag) ++ (be4 d.rwnd)) ++ (be2 (d.outs).toNat)) ++ (be2 (d.ins).toNat)) ++ (be4 d.tsn)) ++ (psL d.ps))))), (4, (.int .i64 d.typ)), (5, yF), (25, yT)] rfl (fun τr19 => ?_)
    refine RA.ret env_ok ?_
    exact lf (.string (bstr ((((((be4 d.tag) ++ (be4 d.rwnd)) ++ (be2 (d.outs).toNat)) ++ (be2 (d.ins).toNat)) ++ (be4 d.tsn)) ++ (psL d.ps)))) (by rw [body_1 (show kd d.typ = 1 from by have := kd_cases d.typ; omega)] <;> rfl)
   ·
    refine oP 27 yF rfl (Eq.trans (r_bin rfl rfl rfl (b_eql rfl)) (dF hc3)) <| OA.ps [(25, yF)] rfl <| OA.nil fun _ => RA.condF rfl <| RA.sR hd env_ok ?_
    by_cases hc4 : d.typ = 3
    ·
     refine oP 52 yT rfl (Eq.trans (r_bin rfl rfl rfl (b_eql rfl)) (dT hc4)) <| OA.ps [(51, yT)] rfl <| OA.nil fun _ => RA.condT rfl <| RA.seq hd <| RA.par (md := [some [], some [n], none, some [], some [n], none, some [], some [n], none, some [], some []]) env_ok (hd.of (by omega) (kb1 (by omega))) (by kernel_rfl) <| PQ.ps [(53, (Pt n 0 2))] rfl <| pQl 54 (W d.tsn) get_here <| pA 55 (V := []) (hd.of (by omega) (kb1 (by omega))) rfl rfl (by kernel_rfl) (by kernel_rfl) (sU32 d.tsn) fun n20 hn20 => PQ.ps [(56, (Pt n 0 8))] rfl <| pQl 57 (W d.rwnd) get_here ?_
     refine pA 58 (V := []) (hd.of (by omega) (kb1 (by omega))) rfl rfl (by kernel_rfl) (by kernel_rfl) (sU32 d.rwnd) fun n21 hn21 => pP 59 (.string (bstr ((be4 d.tsn) ++ (be4 d.rwnd)))) rfl (Eq.trans (r_cat rfl rfl rfl (by simp only [bstr_size, size_lit, List.length_append, be2_len, be4_len, be1_len, List.length_replicate, List.length_cons, List.length_nil, List.size_toArray, L_len]; omega)) (by rw [bstr_app] <;> rfl)) <| pQL 60 (.agg ⟨(xCp31 d)⟩) (V := []) rfl (by kernel_rfl) (by kernel_rfl) get_here (r_loadA rfl rfl rfl rfl get_here rfl rfl rfl) <| pA 61 (V := []) (hd.of (by omega) (kb1 (by omega))) rfl rfl (by kernel_rfl) (by kernel_rfl) (sGaps d hgp hdp (h.mono (sub_a1 hd))) fun n22 hn22 => pP 62 (.string (bstr (((be4 d.tsn) ++ (be4 d.rwnd)) ++ (gapsL d)))) rfl (Eq.trans (r_cat rfl rfl rfl (by simp only [bstr_size, size_lit, List.length_append, be2_len, be4_len, be1_len, List.length_replicate, List.length_cons, List.length_nil, List.size_toArray, L_len]; omega)) (by rw [bstr_app] <;> rfl)) <| PQ.ps [(2, (.string (bstr (((be4 d.tsn) ++ (be4 d.rwnd)) ++ (gapsL d)))))] rfl <| PQ.done (d := []) (by kernel_rfl) fun _ => ?_
     refine RA.ret env_ok ?_
     exact lf (.string (bstr (((be4 d.tsn) ++ (be4 d.rwnd)) ++ (gapsL d)))) (by rw [body_3 (show kd d.typ = 3 from by have := kd_cases d.typ; omega)] <;> rfl)
    ·
     refine oP 52 yF rfl (Eq.trans (r_bin rfl rfl rfl (b_eql rfl)) (dF hc4)) <| OA.ps [(51, yF)] rfl <| OA.nil fun _ => RA.condF rfl <| RA.seq hd <| RA.sR hd env_ok ?_
     by_cases hc5 : d.typ = 4
     ·
      refine oP 64 yT rfl (Eq.trans (r_bin rfl rfl rfl (b_eql rfl)) (dT hc5)) <| OA.ps [(63, yT)] rfl <| OA.nil fun _ => RA.condT rfl <| RA.skip env_ok ?_
      intro _
      refine RA.condT rfl <| RA.sR hd env_ok <| OA.ps [(66, (Pt n 0 6))] rfl <| oL 67 (.string d.data) get_here <| oP 68 (.agg ⟨[(.int .i64 1), (.string d.data)]⟩) rfl (by kernel_rfl) <| oC 69 (hd.of (by omega) (kb1 (by omega))) rfl rfl (sPPut 1 d.data (by assumption)) fun n23 hn23 => OA.ps [(2, (.string (bstr (pB 1 d.data))))] rfl <| OA.nil fun _ => ?_
      refine RA.ret env_ok ?_
      exact lf (.string (bstr (pB 1 d.data))) (by rw [body_4 (show kd d.typ = 4 from by have := kd_cases d.typ; omega)] <;> rfl)
     ·
      refine oP 64 yF rfl (Eq.trans (r_bin rfl rfl rfl (b_eql rfl)) (dF hc5)) <| OA.ps [(63, yF)] rfl <| OA.nil fun _ => RA.condF rfl <| RA.region env_ok ?_
      by_cases hc6 : d.typ = 5
      ·
       refine oP 65 yT rfl (Eq.trans (r_bin rfl rfl rfl (b_eql rfl)) (dT hc6)) <| OA.ps [(63, yT)] rfl <| OA.nil fun _ => RA.condT rfl <| RA.sR hd env_ok <| OA.ps [(66, (Pt n 0 6))] rfl <| oL 67 (.string d.data) get_here <| oP 68 (.agg ⟨[(.int .i64 1), (.string d.data)]⟩) rfl (by kernel_rfl) <| oC 69 (hd.of (by omega) (kb1 (by omega))) rfl rfl (sPPut 1 d.data (by assumption)) fun n24 hn24 => OA.ps [(2, (.string (bstr (pB 1 d.data))))] rfl <| OA.nil fun _ => ?_
       refine RA.ret env_ok ?_
       exact lf (.string (bstr (pB 1 d.data))) (by rw [body_4 (show kd d.typ = 4 from by have := kd_cases d.typ; omega)] <;> rfl)
      ·
       refine oP 65 yF rfl (Eq.trans (r_bin rfl rfl rfl (b_eql rfl)) (dF hc6)) <| OA.ps [(63, yF)] rfl <| OA.nil fun _ => RA.condF rfl <| RA.seq hd <| RA.sR hd env_ok ?_
       by_cases hc7 : d.typ = 6
       ·
        refine oP 71 yT rfl (Eq.trans (r_bin rfl rfl rfl (b_eql rfl)) (dT hc7)) <| OA.ps [(70, yT)] rfl <| OA.nil fun _ => RA.condT rfl <| RA.skip env_ok ?_
        intro _
        refine RA.condT rfl <| RA.sR hd env_ok <| OA.ps [(73, (Pt n 0 12))] rfl <| oL 74 d.cv get_here <| oC 75 (hd.of (by omega) (kb1 (by omega))) rfl rfl (sCAll d.cs d.cv hls.2.1 hc16 (h.mono (sub_a1 hd)).hc) fun n25 hn25 => OA.ps [(2, (.string (bstr (csL d.cs))))] rfl <| OA.nil fun _ => ?_
        refine RA.ret env_ok ?_
        exact lf (.string (bstr (csL d.cs))) (by rw [body_6 (show kd d.typ = 6 from by have := kd_cases d.typ; omega)] <;> rfl)
       ·
        refine oP 71 yF rfl (Eq.trans (r_bin rfl rfl rfl (b_eql rfl)) (dF hc7)) <| OA.ps [(70, yF)] rfl <| OA.nil fun _ => RA.condF rfl <| RA.region env_ok ?_
        by_cases hc8 : d.typ = 9
        ·
         refine oP 72 yT rfl (Eq.trans (r_bin rfl rfl rfl (b_eql rfl)) (dT hc8)) <| OA.ps [(70, yT)] rfl <| OA.nil fun _ => RA.condT rfl <| RA.sR hd env_ok <| OA.ps [(73, (Pt n 0 12))] rfl <| oL 74 d.cv get_here <| oC 75 (hd.of (by omega) (kb1 (by omega))) rfl rfl (sCAll d.cs d.cv hls.2.1 hc16 (h.mono (sub_a1 hd)).hc) fun n26 hn26 => OA.ps [(2, (.string (bstr (csL d.cs))))] rfl <| OA.nil fun _ => ?_
         refine RA.ret env_ok ?_
         exact lf (.string (bstr (csL d.cs))) (by rw [body_6 (show kd d.typ = 6 from by have := kd_cases d.typ; omega)] <;> rfl)
        ·
         refine oP 72 yF rfl (Eq.trans (r_bin rfl rfl rfl (b_eql rfl)) (dF hc8)) <| OA.ps [(70, yF)] rfl <| OA.nil fun _ => RA.condF rfl <| RA.sR hd env_ok ?_
         by_cases hc9 : d.typ = 7
         ·
          refine oP 77 yT rfl (Eq.trans (r_bin rfl rfl rfl (b_eql rfl)) (dT hc9)) <| OA.ps [(76, yT)] rfl <| OA.nil fun _ => RA.condT rfl <| RA.sR hd env_ok <| OA.ps [(78, (Pt n 0 2))] rfl <| oL 79 (W d.tsn) get_here <| oC 80 (hd.of (by omega) (kb1 (by omega))) rfl rfl (sU32 d.tsn) fun n27 hn27 => OA.ps [(2, (.string (bstr (be4 d.tsn))))] rfl <| OA.nil fun _ => RA.rb [(0, (.agg ⟨(cChk d)⟩)), (1, (Pt n 0 0)), (2, (.string (bstr (be4 d.tsn)))), (4, (.int .i64 d.typ)), (5, yF), (25, yF), (51, yF), (63, yF), (70, yF), (76, yT)] rfl (fun τr28 => ?_)
          refine RA.ret env_ok ?_
          exact lf (.string (bstr (be4 d.tsn))) (by rw [body_7 (show kd d.typ = 7 from by have := kd_cases d.typ; omega)] <;> rfl)
         ·
          refine oP 77 yF rfl (Eq.trans (r_bin rfl rfl rfl (b_eql rfl)) (dF hc9)) <| OA.ps [(76, yF)] rfl <| OA.nil fun _ => RA.condF rfl <| RA.seq hd <| RA.sR hd env_ok ?_
          by_cases hc10 : d.typ = 193
          ·
           refine oP 82 yT rfl (Eq.trans (r_bin rfl rfl rfl (b_eql rfl)) (dT hc10)) <| OA.ps [(81, yT)] rfl <| OA.nil fun _ => RA.condT rfl <| RA.skip env_ok ?_
           intro _
           refine RA.condT rfl <| RA.seq hd <| RA.par (md := [some [], some [n], none, some [], some [n], none, some [], some []]) env_ok (hd.of (by omega) (kb1 (by omega))) (by kernel_rfl) <| PQ.ps [(85, (Pt n 0 2))] rfl <| pQl 86 (W d.tsn) get_here <| pA 87 (V := []) (hd.of (by omega) (kb1 (by omega))) rfl rfl (by kernel_rfl) (by kernel_rfl) (sU32 d.tsn) fun n29 hn29 => PQ.ps [(88, (Pt n 0 11))] rfl <| pQl 89 d.pv get_here <| pA 90 (V := []) (hd.of (by omega) (kb1 (by omega))) rfl rfl (by kernel_rfl) (by kernel_rfl) (sPAll d.ps d.pv hls.1 hp16 (h.mono (sub_a1 hd)).hp) fun n30 hn30 => pP 91 (.string (bstr ((be4 d.tsn) ++ (psL d.ps)))) rfl (Eq.trans (r_cat rfl rfl rfl (by simp only [bstr_size, size_lit, List.length_append, be2_len, be4_len, be1_len, List.length_replicate, List.length_cons, List.length_nil, List.size_toArray, L_len]; omega)) (by rw [bstr_app] <;> rfl)) <| PQ.ps [(2, (.string (bstr ((be4 d.tsn) ++ (psL d.ps)))))] rfl ?_
           refine PQ.done (d := []) (by kernel_rfl) fun _ => RA.rb [(0, (.agg ⟨(cChk d)⟩)), (1, (Pt n 0 0)), (2, (.string (bstr ((be4 d.tsn) ++ (psL d.ps))))), (4, (.int .i64 d.typ)), (5, yF), (25, yF), (51, yF), (63, yF), (70, yF), (76, yF), (81, yT)] rfl (fun τr31 => ?_)
           refine RA.ret env_ok ?_
           exact lf (.string (bstr ((be4 d.tsn) ++ (psL d.ps)))) (by rw [body_16 (show kd d.typ = 16 from by have := kd_cases d.typ; omega)] <;> rfl)
          ·
           refine oP 82 yF rfl (Eq.trans (r_bin rfl rfl rfl (b_eql rfl)) (dF hc10)) <| OA.ps [(81, yF)] rfl <| OA.nil fun _ => RA.condF rfl <| RA.sR hd env_ok ?_
           by_cases hc11 : d.typ = 128
           ·
            refine oP 83 yT rfl (Eq.trans (r_bin rfl rfl rfl (b_eql rfl)) (dT hc11)) <| OA.ps [(81, yT)] rfl <| OA.nil fun _ => RA.rb [(0, (.agg ⟨(cChk d)⟩)), (1, (Pt n 0 0)), (2, (.string (ByteArray.mk #[]))), (4, (.int .i64 d.typ)), (5, yF), (25, yF), (51, yF), (63, yF), (70, yF), (76, yF), (81, yT)] rfl (fun τr32 => ?_)
            refine RA.condT rfl <| RA.skip env_ok ?_
            intro _
            refine RA.condT rfl <| RA.seq hd <| RA.par (md := [some [], some [n], none, some [], some [n], none, some [], some []]) env_ok (hd.of (by omega) (kb1 (by omega))) (by kernel_rfl) <| PQ.ps [(85, (Pt n 0 2))] rfl <| pQl 86 (W d.tsn) get_here <| pA 87 (V := []) (hd.of (by omega) (kb1 (by omega))) rfl rfl (by kernel_rfl) (by kernel_rfl) (sU32 d.tsn) fun n33 hn33 => PQ.ps [(88, (Pt n 0 11))] rfl <| pQl 89 d.pv get_here <| pA 90 (V := []) (hd.of (by omega) (kb1 (by omega))) rfl rfl (by kernel_rfl) (by kernel_rfl) (sPAll d.ps d.pv hls.1 hp16 (h.mono (sub_a1 hd)).hp) fun n34 hn34 => pP 91 (.string (bstr ((be4 d.tsn) ++ (psL d.ps)))) rfl (Eq.trans (r_cat rfl rfl rfl (by simp only [bstr_size, size_lit, List.length_append, be2_len, be4_len, be1_len, List.length_replicate, List.length_cons, List.length_nil, List.size_toArray, L_len]; omega)) (by rw [bstr_app] <;> rfl)) <| PQ.ps [(2, (.string (bstr ((be4 d.tsn) ++ (psL d.ps)))))] rfl ?_
            refine PQ.done (d := []) (by kernel_rfl) fun _ => ?_
            refine RA.ret env_ok ?_
            exact lf (.string (bstr ((be4 d.tsn) ++ (psL d.ps)))) (by rw [body_16 (show kd d.typ = 16 from by have := kd_cases d.typ; omega)] <;> rfl)
           ·
            refine oP 83 yF rfl (Eq.trans (r_bin rfl rfl rfl (b_eql rfl)) (dF hc11)) <| OA.ps [(81, yF)] rfl <| OA.nil fun _ => RA.rb [(0, (.agg ⟨(cChk d)⟩)), (1, (Pt n 0 0)), (2, (.string (ByteArray.mk #[]))), (4, (.int .i64 d.typ)), (5, yF), (25, yF), (51, yF), (63, yF), (70, yF), (76, yF), (81, yF)] rfl (fun τr35 => ?_)
            refine RA.condF rfl <| RA.region env_ok ?_
            by_cases hc12 : d.typ = 130
            ·
             refine oP 84 yT rfl (Eq.trans (r_bin rfl rfl rfl (b_eql rfl)) (dT hc12)) <| OA.ps [(81, yT)] rfl <| OA.nil fun _ => RA.condT rfl <| RA.seq hd <| RA.par (md := [some [], some [n], none, some [], some [n], none, some [], some []]) env_ok (hd.of (by omega) (kb1 (by omega))) (by kernel_rfl) <| PQ.ps [(85, (Pt n 0 2))] rfl <| pQl 86 (W d.tsn) get_here <| pA 87 (V := []) (hd.of (by omega) (kb1 (by omega))) rfl rfl (by kernel_rfl) (by kernel_rfl) (sU32 d.tsn) fun n36 hn36 => PQ.ps [(88, (Pt n 0 11))] rfl <| pQl 89 d.pv get_here ?_
             refine pA 90 (V := []) (hd.of (by omega) (kb1 (by omega))) rfl rfl (by kernel_rfl) (by kernel_rfl) (sPAll d.ps d.pv hls.1 hp16 (h.mono (sub_a1 hd)).hp) fun n37 hn37 => pP 91 (.string (bstr ((be4 d.tsn) ++ (psL d.ps)))) rfl (Eq.trans (r_cat rfl rfl rfl (by simp only [bstr_size, size_lit, List.length_append, be2_len, be4_len, be1_len, List.length_replicate, List.length_cons, List.length_nil, List.size_toArray, L_len]; omega)) (by rw [bstr_app] <;> rfl)) <| PQ.ps [(2, (.string (bstr ((be4 d.tsn) ++ (psL d.ps)))))] rfl <| PQ.done (d := []) (by kernel_rfl) fun _ => ?_
             refine RA.ret env_ok ?_
             exact lf (.string (bstr ((be4 d.tsn) ++ (psL d.ps)))) (by rw [body_16 (show kd d.typ = 16 from by have := kd_cases d.typ; omega)] <;> rfl)
            ·
             refine oP 84 yF rfl (Eq.trans (r_bin rfl rfl rfl (b_eql rfl)) (dF hc12)) <| OA.ps [(81, yF)] rfl <| OA.nil fun _ => RA.condF rfl <| RA.seq hd <| RA.sR hd env_ok ?_
             by_cases hc13 : d.typ = 8
             ·
              refine oP 93 yT rfl (Eq.trans (r_bin rfl rfl rfl (b_eql rfl)) (dT hc13)) <| OA.ps [(92, yT)] rfl <| OA.nil fun _ => RA.condT rfl <| RA.skip env_ok ?_
              intro _
              refine RA.condT rfl <| RA.sR hd env_ok <| OA.ps [(2, (.string (ByteArray.mk #[])))] rfl <| OA.nil fun _ => ?_
              refine RA.ret env_ok ?_
              exact lf (.string (ByteArray.mk #[])) (by rw [body_8 (show kd d.typ = 8 from by have := kd_cases d.typ; omega)] <;> rfl)
             ·
              refine oP 93 yF rfl (Eq.trans (r_bin rfl rfl rfl (b_eql rfl)) (dF hc13)) <| OA.ps [(92, yF)] rfl <| OA.nil fun _ => RA.condF rfl <| RA.sR hd env_ok ?_
              by_cases hc14 : d.typ = 11
              ·
               refine oP 94 yT rfl (Eq.trans (r_bin rfl rfl rfl (b_eql rfl)) (dT hc14)) <| OA.ps [(92, yT)] rfl <| OA.nil fun _ => RA.condT rfl <| RA.skip env_ok ?_
               intro _
               refine RA.condT rfl <| RA.sR hd env_ok <| OA.ps [(2, (.string (ByteArray.mk #[])))] rfl <| OA.nil fun _ => ?_
               refine RA.ret env_ok ?_
               exact lf (.string (ByteArray.mk #[])) (by rw [body_8 (show kd d.typ = 8 from by have := kd_cases d.typ; omega)] <;> rfl)
              ·
               refine oP 94 yF rfl (Eq.trans (r_bin rfl rfl rfl (b_eql rfl)) (dF hc14)) <| OA.ps [(92, yF)] rfl <| OA.nil fun _ => RA.condF rfl <| RA.region env_ok ?_
               by_cases hc15 : d.typ = 14
               ·
                refine oP 95 yT rfl (Eq.trans (r_bin rfl rfl rfl (b_eql rfl)) (dT hc15)) <| OA.ps [(92, yT)] rfl <| OA.nil fun _ => RA.condT rfl <| RA.sR hd env_ok <| OA.ps [(2, (.string (ByteArray.mk #[])))] rfl <| OA.nil fun _ => ?_
                refine RA.ret env_ok ?_
                exact lf (.string (ByteArray.mk #[])) (by rw [body_8 (show kd d.typ = 8 from by have := kd_cases d.typ; omega)] <;> rfl)
               ·
                refine oP 95 yF rfl (Eq.trans (r_bin rfl rfl rfl (b_eql rfl)) (dF hc15)) <| OA.ps [(92, yF)] rfl <| OA.nil fun _ => RA.condF rfl <| RA.sR hd env_ok ?_
                by_cases hc16 : d.typ = 15
                ·
                 refine oP 97 yT rfl (Eq.trans (r_bin rfl rfl rfl (b_eql rfl)) (dT hc16)) <| OA.ps [(96, yT)] rfl <| OA.nil fun _ => RA.condT rfl <| RA.seq hd <| RA.par (md := [some [], some [n], none, some [], some [n], none, some [], some [], some [n], some [], some []]) env_ok (hd.of (by omega) (kb1 (by omega))) (by kernel_rfl) <| PQ.ps [(98, (Pt n 0 3))] rfl <| pQl 99 (.int .i64 d.stream) get_here <| pA 100 (V := []) (hd.of (by omega) (kb1 (by omega))) rfl rfl (by kernel_rfl) (by kernel_rfl) (zU16 d.stream (by omega) (by omega)) fun n38 hn38 => PQ.ps [(101, (Pt n 0 4))] rfl <| pQl 102 (.int .i64 d.ssn) get_here ?_
                 refine pA 103 (V := []) (hd.of (by omega) (kb1 (by omega))) rfl rfl (by kernel_rfl) (by kernel_rfl) (zU16 d.ssn (by omega) (by omega)) fun n39 hn39 => pP 104 (.string (bstr ((be2 (d.stream).toNat) ++ (be2 (d.ssn).toNat)))) rfl (Eq.trans (r_cat rfl rfl rfl (by simp only [bstr_size, size_lit, List.length_append, be2_len, be4_len, be1_len, List.length_replicate, List.length_cons, List.length_nil, List.size_toArray, L_len]; omega)) (by rw [bstr_app] <;> rfl)) <| PQ.ps [(105, (Pt n 0 6))] rfl <| pQl 106 (.string d.data) get_here <| pP 107 (.string (bstr (((be2 (d.stream).toNat) ++ (be2 (d.ssn).toNat)) ++ L d.data))) rfl (Eq.trans (r_cat rfl rfl rfl (by simp only [bstr_size, List.length_append, be2_len, be4_len, be1_len, L_len]; omega)) (by rw [bstr_appL] <;> rfl)) <| PQ.ps [(2, (.string (bstr (((be2 (d.stream).toNat) ++ (be2 (d.ssn).toNat)) ++ L d.data))))] rfl <| PQ.done (d := []) (by kernel_rfl) fun _ => ?_
                 refine RA.ret env_ok ?_
                 exact lf (.string (bstr (((be2 (d.stream).toNat) ++ (be2 (d.ssn).toNat)) ++ L d.data))) (by rw [body_15 (show kd d.typ = 15 from by have := kd_cases d.typ; omega)] <;> rfl)
                ·
                 refine oP 97 yF rfl (Eq.trans (r_bin rfl rfl rfl (b_eql rfl)) (dF hc16)) <| OA.ps [(96, yF)] rfl <| OA.nil fun _ => RA.condF rfl <| RA.skip env_ok ?_
                 intro _
                 refine RA.sR hd env_ok <| OA.ps [(108, (Pt n 0 6))] rfl <| oL 109 (.string d.data) get_here <| OA.ps [(2, (.string d.data))] rfl <| OA.nil fun _ => ?_
                 refine RA.ret env_ok ?_
                 exact lf (.string d.data) (by rw [body_20 (show kd d.typ = 10 ∨ kd d.typ = 20 from by have := kd_cases d.typ; omega), bstr_Lr] <;> rfl)
end Go.Proofs.Ytdnkhdkflemkeaa.Vt.Cp
/- Cr1: walks through functions of the program, by the calculus; written by a program of this workplace. -/
namespace Go.Proofs.Ytdnkhdkflemkeaa.Vt.Cp
open Go Go.Proofs Go.Proofs.YtdnkhdkflemkeaaV
set_option maxRecDepth 100000
set_option linter.unusedVariables false
set_option linter.unusedSimpArgs false
set_option maxHeartbeats 8000000
structure Prp where
  typ : Int
  val : ByteArray
deriving DecidableEq
def dPrp : Prp := ⟨0, ByteArray.empty⟩
abbrev cPrp (e : Prp) : List Value := [(.int .i64 e.typ), (.string e.val)]
abbrev oPrp (l : List Prp) : AObj := ⟨l.map cPrp, 2, 115, true⟩
def toP (e : Prm) : Prp := ⟨e.typ, e.val⟩
def toC (e : Cau) : Prp := ⟨e.code, e.info⟩
theorem toP_snoc {l : List Prm} {i : Nat} (h : i < l.length) : (((l.take i).map toP).map cPrp) ++ [cPrp (Prp.mk (l.getD i dPrm).typ (l.getD i dPrm).val)] = ((l.take (i + 1)).map toP).map cPrp := by
  rw [← take_snoc (d0 := dPrm) h, List.map_append, List.map_append]; rfl
theorem toC_snoc {l : List Cau} {i : Nat} (h : i < l.length) : (((l.take i).map toC).map cPrp) ++ [cPrp (Prp.mk (l.getD i dCau).code (l.getD i dCau).info)] = ((l.take (i + 1)).map toC).map cPrp := by
  rw [← take_snoc (d0 := dCau) h, List.map_append, List.map_append]; rfl
theorem toP_len {l : List Prm} {i : Nat} (h : i ≤ l.length) : ((l.take i).map toP).length = i := by rw [List.length_map, List.length_take]; omega
theorem toC_len {l : List Cau} {i : Nat} (h : i ≤ l.length) : ((l.take i).map toC).length = i := by rw [List.length_map, List.length_take]; omega
def prpsOk (l : List Prp) : Prop := ∀ p ∈ l, prmOk p.typ p.val
def qsL (l : List Prp) : List UInt8 := l.flatMap fun p => pB p.typ p.val
theorem qsL_snoc {l : List Prp} {i : Nat} (h : i < l.length) : qsL (l.take i) ++ pB (l.getD i dPrp).typ (l.getD i dPrp).val = qsL (l.take (i + 1)) := fm_snoc (f := fun p : Prp => pB p.typ p.val) h
theorem qsL_len {l : List Prp} (h : prpsOk l) {i : Nat} (hi : i ≤ 16) : (qsL (l.take i)).length ≤ 16112 := by
  have h1 := fm_len (f := fun p : Prp => pB p.typ p.val) (k := 1007) (l.take i) (fun x hx => pB_len (h x (List.mem_of_mem_take hx)))
  have h2 : (l.take i).length ≤ 16 := by rw [List.length_take]; omega
  have h3 := Nat.mul_le_mul_right 1007 h2
  unfold qsL; omega
theorem qsL_P (l : List Prm) : qsL (l.map toP) = psL l := by unfold qsL psL; rw [List.flatMap_map]; rfl
theorem qsL_C (l : List Cau) : qsL (l.map toC) = csL l := by unfold qsL csL; rw [List.flatMap_map]; rfl
theorem okP {l : List Prm} : prpsOk (l.map toP) ↔ prmsOk l := ⟨fun h p hp => h _ (List.mem_map_of_mem hp), fun h p hp => by obtain ⟨x, hx, rfl⟩ := List.mem_map.1 hp; exact h x hx⟩
theorem okC {l : List Cau} : prpsOk (l.map toC) ↔ causOk l := ⟨fun h p hp => h _ (List.mem_map_of_mem hp), fun h p hp => by obtain ⟨x, hx, rfl⟩ := List.mem_map.1 hp; exact h x hx⟩
theorem okPC {l : List Prm} {m : List Cau} : prpsOk (l.map toP ++ m.map toC) ↔ (prmsOk l ∧ causOk m) := by
  constructor
  · intro h
    exact ⟨okP.1 (fun p hp => h p (List.mem_append_left _ hp)), okC.1 (fun p hp => h p (List.mem_append_right _ hp))⟩
  · intro h p hp
    rcases List.mem_append.1 hp with hp | hp
    · exact okP.2 h.1 p hp
    · exact okC.2 h.2 p hp
theorem okPC0 {l : List Prm} {m : List Cau} (h : m.length = 0) : prpsOk (l.map toP) ↔ (prmsOk l ∧ causOk m) := by
  rw [List.length_eq_zero_iff.1 h]
  exact ⟨fun q => ⟨okP.1 q, fun p hp => by cases hp⟩, fun q => okP.2 q.1⟩
theorem putL_be1 (m : Nat) (h : m < 256) : putL m 1 = be1 m := by
  show [] ++ [UInt8.ofNat (m % 256)] = [UInt8.ofNat m]
  rw [Nat.mod_eq_of_lt h]; rfl
theorem qNum {σ : Store} (m k : Nat) (hm : m < 9223372036854775808) (hk : k ≤ 8)   : PS Try.prog noDen 72 [(.int .i64 ((m : Nat) : Int)), (.int .i64 ((k : Nat) : Int))] σ (.string (bstr (putL m k))) := by
 refine PS.body (E := env) env_ok rfl rfl (by show _ ≤ _; exact of_decide_eq_true (by kernel_rfl)) (fun n hd => ?_)
 refine RA.sR hd env_ok <| OA.ps [(4, (.string (ByteArray.mk #[])))] rfl <| OA.nil fun _ => RA.sR hd env_ok <| OA.ps [(5, (.int .i64 ((m : Nat) : Int)))] rfl <| oP 6 (.int .u64 ((m : Nat) : Int)) rfl (r_cvt rfl rfl rfl rfl rfl ⟨_, rfl⟩ (u64_eq (by omega))) <| OA.ps [(7, (.int .i64 ((k : Nat) : Int)))] rfl <| oC 8 (hd.up (by omega)) rfl rfl (sPut k m (by omega) hk) fun n1 hn1 => OA.ps [(4, (.string (bstr (putL m k))))] rfl <| OA.nil fun _ => ?_
 refine RA.ret env_ok ?_
 exact lf (.string (bstr (putL m k))) rfl
theorem qNum1 {σ : Store} (z : Int) (h0 : 0 ≤ z) (h1 : z < 256) : PS Try.prog noDen 72 [.int .i64 z, .int .i64 1] σ (.string (bstr (be1 z.toNat))) := by
  obtain ⟨m, rfl⟩ := Int.eq_ofNat_of_zero_le h0
  exact (qNum m 1 (by omega) (by decide)).to (by rw [putL_be1 m (by omega)]; rfl)
theorem qNum2 {σ : Store} (z : Int) (h0 : 0 ≤ z) (h1 : z < 65536) : PS Try.prog noDen 72 [.int .i64 z, .int .i64 2] σ (.string (bstr (be2 z.toNat))) := by
  obtain ⟨m, rfl⟩ := Int.eq_ofNat_of_zero_le h0
  exact (qNum m 2 (by omega) (by decide)).to (by rw [putL_be2 m (by omega)]; rfl)
theorem qNum2n {σ : Store} (m : Nat) (h1 : m < 65536) : PS Try.prog noDen 72 [.int .i64 ((m : Nat) : Int), .int .i64 2] σ (.string (bstr (be2 m))) := (qNum m 2 (by omega) (by decide)).to (by rw [putL_be2 m (by omega)])
theorem qNum4 {σ : Store} (x : BitVec 32) : PS Try.prog noDen 72 [.int .i64 ((x.toNat : Nat) : Int), .int .i64 4] σ (.string (bstr (be4 x))) := (qNum x.toNat 4 (by have := x.isLt; omega) (by decide)).to (by rw [putL_be4])
theorem rKind {σ : Store} (t : Int)   : PS Try.prog noDen 84 [(.int .i64 t)] σ (.int .i64 ((kd t : Nat) : Int)) := by
 refine PS.body (E := env) env_ok rfl rfl (by show _ ≤ _; exact of_decide_eq_true (by kernel_rfl)) (fun n hd => ?_)
 refine RA.sR hd env_ok <| OA.ps [(2, (.int .i64 0))] rfl <| OA.nil fun _ => RA.seq hd <| RA.sR hd env_ok <| OA.ps [(3, (.int .i64 t))] rfl <| OA.nil fun _ => RA.block <| RA.seq hd <| RA.sR hd env_ok ?_
 by_cases hc1 : t = 0
 ·
  refine oP 5 yT rfl (Eq.trans (r_bin rfl rfl rfl (b_eql rfl)) (dT hc1)) <| OA.ps [(4, yT)] rfl <| OA.nil fun _ => RA.condT rfl <| RA.skip env_ok ?_
  intro _
  refine RA.condT rfl <| RA.sR hd env_ok <| OA.ps [(10, (.int .i64 t)), (2, (.int .i64 t))] rfl <| OA.nil fun _ => ?_
  refine RA.ret env_ok ?_
  exact lf (.int .i64 t) (by rw [show kd t = t from by have := kd_cases t; omega] <;> rfl)
 ·
  refine oP 5 yF rfl (Eq.trans (r_bin rfl rfl rfl (b_eql rfl)) (dF hc1)) <| OA.ps [(4, yF)] rfl <| OA.nil fun _ => RA.condF rfl <| RA.sR hd env_ok ?_
  by_cases hc2 : t = 3
  ·
   refine oP 6 yT rfl (Eq.trans (r_bin rfl rfl rfl (b_eql rfl)) (dT hc2)) <| OA.ps [(4, yT)] rfl <| OA.nil fun _ => RA.condT rfl <| RA.skip env_ok ?_
   intro _
   refine RA.condT rfl <| RA.sR hd env_ok <| OA.ps [(10, (.int .i64 t)), (2, (.int .i64 t))] rfl <| OA.nil fun _ => ?_
   refine RA.ret env_ok ?_
   exact lf (.int .i64 t) (by rw [show kd t = t from by have := kd_cases t; omega] <;> rfl)
  ·
   refine oP 6 yF rfl (Eq.trans (r_bin rfl rfl rfl (b_eql rfl)) (dF hc2)) <| OA.ps [(4, yF)] rfl <| OA.nil fun _ => RA.condF rfl <| RA.sR hd env_ok ?_
   by_cases hc3 : t = 7
   ·
    refine oP 7 yT rfl (Eq.trans (r_bin rfl rfl rfl (b_eql rfl)) (dT hc3)) <| OA.ps [(4, yT)] rfl <| OA.nil fun _ => RA.condT rfl <| RA.skip env_ok ?_
    intro _
    refine RA.condT rfl <| RA.sR hd env_ok <| OA.ps [(10, (.int .i64 t)), (2, (.int .i64 t))] rfl <| OA.nil fun _ => ?_
    refine RA.ret env_ok ?_
    exact lf (.int .i64 t) (by rw [show kd t = t from by have := kd_cases t; omega] <;> rfl)
   ·
    refine oP 7 yF rfl (Eq.trans (r_bin rfl rfl rfl (b_eql rfl)) (dF hc3)) <| OA.ps [(4, yF)] rfl <| OA.nil fun _ => RA.condF rfl <| RA.sR hd env_ok ?_
    by_cases hc4 : t = 10
    ·
     refine oP 8 yT rfl (Eq.trans (r_bin rfl rfl rfl (b_eql rfl)) (dT hc4)) <| OA.ps [(4, yT)] rfl <| OA.nil fun _ => RA.condT rfl <| RA.skip env_ok ?_
     intro _
     refine RA.condT rfl <| RA.sR hd env_ok <| OA.ps [(10, (.int .i64 t)), (2, (.int .i64 t))] rfl <| OA.nil fun _ => ?_
     refine RA.ret env_ok ?_
     exact lf (.int .i64 t) (by rw [show kd t = t from by have := kd_cases t; omega] <;> rfl)
    ·
     refine oP 8 yF rfl (Eq.trans (r_bin rfl rfl rfl (b_eql rfl)) (dF hc4)) <| OA.ps [(4, yF)] rfl <| OA.nil fun _ => RA.condF rfl <| RA.region env_ok ?_
     by_cases hc5 : t = 15
     ·
      refine oP 9 yT rfl (Eq.trans (r_bin rfl rfl rfl (b_eql rfl)) (dT hc5)) <| OA.ps [(4, yT)] rfl <| OA.nil fun _ => RA.condT rfl <| RA.sR hd env_ok <| OA.ps [(10, (.int .i64 t)), (2, (.int .i64 t))] rfl <| OA.nil fun _ => ?_
      refine RA.ret env_ok ?_
      exact lf (.int .i64 t) (by rw [show kd t = t from by have := kd_cases t; omega] <;> rfl)
     ·
      refine oP 9 yF rfl (Eq.trans (r_bin rfl rfl rfl (b_eql rfl)) (dF hc5)) <| OA.ps [(4, yF)] rfl <| OA.nil fun _ => RA.condF rfl <| RA.seq hd <| RA.sR hd env_ok ?_
      by_cases hc6 : t = 1
      ·
       refine oP 12 yT rfl (Eq.trans (r_bin rfl rfl rfl (b_eql rfl)) (dT hc6)) <| OA.ps [(11, yT)] rfl <| OA.nil fun _ => RA.condT rfl <| RA.skip env_ok ?_
       intro _
       refine RA.condT rfl <| RA.sR hd env_ok <| OA.ps [(2, (.int .i64 1))] rfl <| OA.nil fun _ => ?_
       refine RA.ret env_ok ?_
       exact lf (.int .i64 1) (by rw [show kd t = 1 from by have := kd_cases t; omega] <;> rfl)
      ·
       refine oP 12 yF rfl (Eq.trans (r_bin rfl rfl rfl (b_eql rfl)) (dF hc6)) <| OA.ps [(11, yF)] rfl <| OA.nil fun _ => RA.condF rfl <| RA.region env_ok ?_
       by_cases hc7 : t = 2
       ·
        refine oP 13 yT rfl (Eq.trans (r_bin rfl rfl rfl (b_eql rfl)) (dT hc7)) <| OA.ps [(11, yT)] rfl <| OA.nil fun _ => RA.condT rfl <| RA.sR hd env_ok <| OA.ps [(2, (.int .i64 1))] rfl <| OA.nil fun _ => ?_
        refine RA.ret env_ok ?_
        exact lf (.int .i64 1) (by rw [show kd t = 1 from by have := kd_cases t; omega] <;> rfl)
       ·
        refine oP 13 yF rfl (Eq.trans (r_bin rfl rfl rfl (b_eql rfl)) (dF hc7)) <| OA.ps [(11, yF)] rfl <| OA.nil fun _ => RA.condF rfl <| RA.seq hd <| RA.sR hd env_ok ?_
        by_cases hc8 : t = 4
        ·
         refine oP 15 yT rfl (Eq.trans (r_bin rfl rfl rfl (b_eql rfl)) (dT hc8)) <| OA.ps [(14, yT)] rfl <| OA.nil fun _ => RA.condT rfl <| RA.skip env_ok ?_
         intro _
         refine RA.condT rfl <| RA.sR hd env_ok <| OA.ps [(2, (.int .i64 4))] rfl <| OA.nil fun _ => ?_
         refine RA.ret env_ok ?_
         exact lf (.int .i64 4) (by rw [show kd t = 4 from by have := kd_cases t; omega] <;> rfl)
        ·
         refine oP 15 yF rfl (Eq.trans (r_bin rfl rfl rfl (b_eql rfl)) (dF hc8)) <| OA.ps [(14, yF)] rfl <| OA.nil fun _ => RA.condF rfl <| RA.region env_ok ?_
         by_cases hc9 : t = 5
         ·
          refine oP 16 yT rfl (Eq.trans (r_bin rfl rfl rfl (b_eql rfl)) (dT hc9)) <| OA.ps [(14, yT)] rfl <| OA.nil fun _ => RA.condT rfl <| RA.sR hd env_ok <| OA.ps [(2, (.int .i64 4))] rfl <| OA.nil fun _ => ?_
          refine RA.ret env_ok ?_
          exact lf (.int .i64 4) (by rw [show kd t = 4 from by have := kd_cases t; omega] <;> rfl)
         ·
          refine oP 16 yF rfl (Eq.trans (r_bin rfl rfl rfl (b_eql rfl)) (dF hc9)) <| OA.ps [(14, yF)] rfl <| OA.nil fun _ => RA.condF rfl <| RA.seq hd <| RA.sR hd env_ok ?_
          by_cases hc10 : t = 6
          ·
           refine oP 18 yT rfl (Eq.trans (r_bin rfl rfl rfl (b_eql rfl)) (dT hc10)) <| OA.ps [(17, yT)] rfl <| OA.nil fun _ => RA.condT rfl <| RA.skip env_ok ?_
           intro _
           refine RA.condT rfl <| RA.sR hd env_ok <| OA.ps [(2, (.int .i64 6))] rfl <| OA.nil fun _ => ?_
           refine RA.ret env_ok ?_
           exact lf (.int .i64 6) (by rw [show kd t = 6 from by have := kd_cases t; omega] <;> rfl)
          ·
           refine oP 18 yF rfl (Eq.trans (r_bin rfl rfl rfl (b_eql rfl)) (dF hc10)) <| OA.ps [(17, yF)] rfl <| OA.nil fun _ => RA.condF rfl <| RA.region env_ok ?_
           by_cases hc11 : t = 9
           ·
            refine oP 19 yT rfl (Eq.trans (r_bin rfl rfl rfl (b_eql rfl)) (dT hc11)) <| OA.ps [(17, yT)] rfl <| OA.nil fun _ => RA.condT rfl <| RA.sR hd env_ok <| OA.ps [(2, (.int .i64 6))] rfl <| OA.nil fun _ => RA.rb [(0, (.int .i64 t)), (2, (.int .i64 6)), (3, (.int .i64 t)), (4, yF), (11, yF), (14, yF), (17, yT)] rfl (fun τr1 => ?_)
            refine RA.ret env_ok ?_
            exact lf (.int .i64 6) (by rw [show kd t = 6 from by have := kd_cases t; omega] <;> rfl)
           ·
            refine oP 19 yF rfl (Eq.trans (r_bin rfl rfl rfl (b_eql rfl)) (dF hc11)) <| OA.ps [(17, yF)] rfl <| OA.nil fun _ => RA.condF rfl <| RA.seq hd <| RA.sR hd env_ok ?_
            by_cases hc12 : t = 8
            ·
             refine oP 21 yT rfl (Eq.trans (r_bin rfl rfl rfl (b_eql rfl)) (dT hc12)) <| OA.ps [(20, yT)] rfl <| OA.nil fun _ => RA.rb [(0, (.int .i64 t)), (2, (.int .i64 0)), (3, (.int .i64 t)), (4, yF), (11, yF), (14, yF), (17, yF), (20, yT)] rfl (fun τr2 => ?_)
             refine RA.condT rfl <| RA.skip env_ok ?_
             intro _
             refine RA.condT rfl <| RA.sR hd env_ok <| OA.ps [(2, (.int .i64 8))] rfl <| OA.nil fun _ => ?_
             refine RA.ret env_ok ?_
             exact lf (.int .i64 8) (by rw [show kd t = 8 from by have := kd_cases t; omega] <;> rfl)
            ·
             refine oP 21 yF rfl (Eq.trans (r_bin rfl rfl rfl (b_eql rfl)) (dF hc12)) <| OA.ps [(20, yF)] rfl <| OA.nil fun _ => RA.rb [(0, (.int .i64 t)), (2, (.int .i64 0)), (3, (.int .i64 t)), (4, yF), (11, yF), (14, yF), (17, yF), (20, yF)] rfl (fun τr3 => ?_)
             refine RA.condF rfl <| RA.sR hd env_ok ?_
             by_cases hc13 : t = 11
             ·
              refine oP 22 yT rfl (Eq.trans (r_bin rfl rfl rfl (b_eql rfl)) (dT hc13)) <| OA.ps [(20, yT)] rfl <| OA.nil fun _ => RA.condT rfl <| RA.skip env_ok ?_
              intro _
              refine RA.condT rfl <| RA.sR hd env_ok <| OA.ps [(2, (.int .i64 8))] rfl <| OA.nil fun _ => ?_
              refine RA.ret env_ok ?_
              exact lf (.int .i64 8) (by rw [show kd t = 8 from by have := kd_cases t; omega] <;> rfl)
             ·
              refine oP 22 yF rfl (Eq.trans (r_bin rfl rfl rfl (b_eql rfl)) (dF hc13)) <| OA.ps [(20, yF)] rfl <| OA.nil fun _ => RA.condF rfl <| RA.region env_ok ?_
              by_cases hc14 : t = 14
              ·
               refine oP 23 yT rfl (Eq.trans (r_bin rfl rfl rfl (b_eql rfl)) (dT hc14)) <| OA.ps [(20, yT)] rfl <| OA.nil fun _ => RA.condT rfl <| RA.sR hd env_ok <| OA.ps [(2, (.int .i64 8))] rfl <| OA.nil fun _ => ?_
               refine RA.ret env_ok ?_
               exact lf (.int .i64 8) (by rw [show kd t = 8 from by have := kd_cases t; omega] <;> rfl)
              ·
               refine oP 23 yF rfl (Eq.trans (r_bin rfl rfl rfl (b_eql rfl)) (dF hc14)) <| OA.ps [(20, yF)] rfl <| OA.nil fun _ => RA.condF rfl <| RA.seq hd <| RA.sR hd env_ok ?_
               by_cases hc15 : t = 193
               ·
                refine oP 25 yT rfl (Eq.trans (r_bin rfl rfl rfl (b_eql rfl)) (dT hc15)) <| OA.ps [(24, yT)] rfl <| OA.nil fun _ => RA.condT rfl <| RA.skip env_ok ?_
                intro _
                refine RA.condT rfl <| RA.sR hd env_ok <| OA.ps [(2, (.int .i64 16))] rfl <| OA.nil fun _ => ?_
                refine RA.ret env_ok ?_
                exact lf (.int .i64 16) (by rw [show kd t = 16 from by have := kd_cases t; omega] <;> rfl)
               ·
                refine oP 25 yF rfl (Eq.trans (r_bin rfl rfl rfl (b_eql rfl)) (dF hc15)) <| OA.ps [(24, yF)] rfl <| OA.nil fun _ => RA.condF rfl <| RA.sR hd env_ok ?_
                by_cases hc16 : t = 128
                ·
                 refine oP 26 yT rfl (Eq.trans (r_bin rfl rfl rfl (b_eql rfl)) (dT hc16)) <| OA.ps [(24, yT)] rfl <| OA.nil fun _ => RA.condT rfl <| RA.skip env_ok ?_
                 intro _
                 refine RA.condT rfl <| RA.sR hd env_ok <| OA.ps [(2, (.int .i64 16))] rfl <| OA.nil fun _ => ?_
                 refine RA.ret env_ok ?_
                 exact lf (.int .i64 16) (by rw [show kd t = 16 from by have := kd_cases t; omega] <;> rfl)
                ·
                 refine oP 26 yF rfl (Eq.trans (r_bin rfl rfl rfl (b_eql rfl)) (dF hc16)) <| OA.ps [(24, yF)] rfl <| OA.nil fun _ => RA.condF rfl <| RA.region env_ok ?_
                 by_cases hc17 : t = 130
                 ·
                  refine oP 27 yT rfl (Eq.trans (r_bin rfl rfl rfl (b_eql rfl)) (dT hc17)) <| OA.ps [(24, yT)] rfl <| OA.nil fun _ => RA.condT rfl <| RA.sR hd env_ok <| OA.ps [(2, (.int .i64 16))] rfl <| OA.nil fun _ => ?_
                  refine RA.ret env_ok ?_
                  exact lf (.int .i64 16) (by rw [show kd t = 16 from by have := kd_cases t; omega] <;> rfl)
                 ·
                  refine oP 27 yF rfl (Eq.trans (r_bin rfl rfl rfl (b_eql rfl)) (dF hc17)) <| OA.ps [(24, yF)] rfl <| OA.nil fun _ => RA.condF rfl <| RA.skip env_ok ?_
                  intro _
                  refine RA.sR hd env_ok <| OA.ps [(2, (.int .i64 20))] rfl <| OA.nil fun _ => ?_
                  refine RA.ret env_ok ?_
                  exact lf (.int .i64 20) (by rw [show kd t = 20 from by have := kd_cases t; omega] <;> rfl)
theorem rFlags {σ : Store} (t : Int)   : PS Try.prog noDen 81 [(.int .i64 t)] σ (.int .i64 ((fl t : Nat) : Int)) := by
 refine PS.body (E := env) env_ok rfl rfl (by show _ ≤ _; exact of_decide_eq_true (by kernel_rfl)) (fun n hd => ?_)
 refine RA.sR hd env_ok <| OA.ps [(2, (.int .i64 0))] rfl <| OA.nil fun _ => RA.seq hd <| RA.block <| RA.sR hd env_ok <| OA.ps [(4, (.int .i64 t))] rfl ?_
 by_cases hc1 : t = 0
 ·
  refine oP 5 yT rfl (Eq.trans (r_bin rfl rfl rfl (b_eql rfl)) (dT hc1)) <| OA.ps [(3, yT)] rfl <| OA.nil fun _ => RA.condT rfl <| RA.sR hd env_ok <| OA.ps [(2, (.int .i64 7))] rfl <| OA.nil fun _ => ?_
  refine RA.ret env_ok ?_
  exact lf (.int .i64 7) (by rw [show fl t = 7 from by have := fl_cases t; have := kd_cases t; omega] <;> rfl)
 ·
  refine oP 5 yF rfl (Eq.trans (r_bin rfl rfl rfl (b_eql rfl)) (dF hc1)) <| OA.ps [(3, yF)] rfl <| OA.nil fun _ => RA.condF rfl <| RA.sR hd env_ok <| OA.ps [(7, (.int .i64 t))] rfl ?_
  by_cases hc2 : t = 6
  ·
   refine oP 8 yT rfl (Eq.trans (r_bin rfl rfl rfl (b_eql rfl)) (dT hc2)) <| OA.ps [(9, yT)] rfl <| OA.offs 10 2 rfl <| OA.ps [(12, yT), (6, yT)] rfl <| OA.nil fun _ => RA.condT rfl <| RA.sR hd env_ok <| OA.ps [(2, (.int .i64 3))] rfl <| OA.nil fun _ => ?_
   refine RA.ret env_ok ?_
   exact lf (.int .i64 3) (by rw [show fl t = 3 from by have := fl_cases t; have := kd_cases t; omega] <;> rfl)
  ·
   refine oP 8 yF rfl (Eq.trans (r_bin rfl rfl rfl (b_eql rfl)) (dF hc2)) <| OA.ps [(9, yF), (10, (.int .i64 t))] rfl ?_
   by_cases hc3 : t = 9
   ·
    refine oP 11 yT rfl (Eq.trans (r_bin rfl rfl rfl (b_eql rfl)) (dT hc3)) <| OA.ps [(12, yT), (6, yT)] rfl <| OA.nil fun _ => RA.condT rfl <| RA.sR hd env_ok <| OA.ps [(2, (.int .i64 3))] rfl <| OA.nil fun _ => ?_
    refine RA.ret env_ok ?_
    exact lf (.int .i64 3) (by rw [show fl t = 3 from by have := fl_cases t; have := kd_cases t; omega] <;> rfl)
   ·
    refine oP 11 yF rfl (Eq.trans (r_bin rfl rfl rfl (b_eql rfl)) (dF hc3)) <| OA.ps [(12, yF), (6, yF)] rfl <| OA.nil fun _ => RA.condF rfl <| RA.sR hd env_ok <| OA.ps [(14, (.int .i64 t))] rfl ?_
    by_cases hc4 : t = 14
    ·
     refine oP 15 yT rfl (Eq.trans (r_bin rfl rfl rfl (b_eql rfl)) (dT hc4)) <| OA.ps [(13, yT)] rfl <| OA.nil fun _ => RA.condT rfl <| RA.sR hd env_ok <| OA.ps [(2, (.int .i64 1))] rfl <| OA.nil fun _ => ?_
     refine RA.ret env_ok ?_
     exact lf (.int .i64 1) (by rw [show fl t = 1 from by have := fl_cases t; have := kd_cases t; omega] <;> rfl)
    ·
     refine oP 15 yF rfl (Eq.trans (r_bin rfl rfl rfl (b_eql rfl)) (dF hc4)) <| OA.ps [(13, yF)] rfl <| OA.nil fun _ => RA.condF rfl <| RA.sR hd env_ok <| OA.ps [(17, (.int .i64 t))] rfl <| oC 18 (hd.up (by omega)) rfl rfl (rKind (t)) fun n1 hn1 => ?_
     by_cases hc5 : (((kd (t)) : Nat) : Int) = 20
     ·
      refine oP 19 yT rfl (Eq.trans (r_bin rfl rfl rfl (b_eql rfl)) (dT hc5)) <| OA.ps [(16, yT)] rfl <| OA.nil fun _ => RA.condT rfl <| RA.sR hd env_ok <| OA.ps [(2, (.int .i64 255))] rfl <| OA.nil fun _ => ?_
      refine RA.ret env_ok ?_
      exact lf (.int .i64 255) (by rw [show fl t = 255 from by have := fl_cases t; have := kd_cases t; omega] <;> rfl)
     ·
      refine oP 19 yF rfl (Eq.trans (r_bin rfl rfl rfl (b_eql rfl)) (dF hc5)) <| OA.ps [(16, yF)] rfl <| OA.nil fun _ => RA.condF rfl <| RA.skip env_ok ?_
      intro _
      refine RA.sR hd env_ok <| OA.ps [(2, (.int .i64 0))] rfl <| OA.nil fun _ => ?_
      refine RA.ret env_ok ?_
      exact lf (.int .i64 0) (by rw [show fl t = 0 from by have := fl_cases t; have := kd_cases t; omega] <;> rfl)
theorem rWord {σ : Store} (t : Int) (b : Bool) (hb : b = true ↔ wordP t)   : PS Try.prog noDen 88 [(.int .i64 t)] σ (.bool b) := by
 refine PS.body (E := env) env_ok rfl rfl (by show _ ≤ _; exact of_decide_eq_true (by kernel_rfl)) (fun n hd => ?_)
 refine RA.sR hd env_ok <| OA.ps [(2, yF)] rfl <| OA.nil fun _ => RA.sR hd env_ok <| OA.ps [(3, (.int .i64 t))] rfl ?_
 by_cases hc1 : 0 ≤ t
 ·
  refine oP 4 yT rfl (Eq.trans (r_bin rfl rfl rfl (b_geq rfl)) (dT hc1)) <| OA.ps [(5, yT), (6, (.int .i64 t))] rfl ?_
  by_cases hc2 : t ≤ 65535
  ·
   refine oP 7 yT rfl (Eq.trans (r_bin rfl rfl rfl (b_leq rfl)) (dT hc2)) <| OA.ps [(8, yT), (2, yT)] rfl <| OA.nil fun _ => ?_
   refine RA.ret env_ok ?_
   exact lf yT (bt hb (by first | omega | (unfold wordP; omega)))
  ·
   refine oP 7 yF rfl (Eq.trans (r_bin rfl rfl rfl (b_leq rfl)) (dF hc2)) <| OA.ps [(8, yF), (2, yF)] rfl <| OA.nil fun _ => ?_
   refine RA.ret env_ok ?_
   exact lf yF (bf hb (fun q => by first | omega | (unfold wordP at q; omega)))
 ·
  refine oP 4 yF rfl (Eq.trans (r_bin rfl rfl rfl (b_geq rfl)) (dF hc1)) <| OA.ps [(5, yF)] rfl <| OA.offs 6 2 rfl <| OA.ps [(8, yF), (2, yF)] rfl <| OA.nil fun _ => ?_
  refine RA.ret env_ok ?_
  exact lf yF (bf hb (fun q => by first | omega | (unfold wordP at q; omega)))
theorem r4May {σ : Store} (t : Int) (v : ByteArray) (b : Bool) (hb : b = true ↔ prmOk t v)   : PS Try.prog noDen 87 [(.agg ⟨[(.int .i64 t), (.string v)]⟩)] σ (.bool b) := by
 refine PS.body (E := env) env_ok rfl rfl (by show _ ≤ _; exact of_decide_eq_true (by kernel_rfl)) (fun n hd => ?_)
 refine RA.sR hd env_ok <| o1 (some 1) (Pt n 0 0) (n + 1) (n, some ⟨[[(.int .i64 t), (.string v)]], 2, 115, true⟩) rfl <| OA.ps [(2, yF)] rfl <| OA.nil fun _ => RA.sR hd env_ok <| OA.ps [(3, (Pt n 0 0))] rfl <| oL 4 (.int .i64 t) get_here ?_
 by_cases hc1 : 0 ≤ t
 ·
  refine oP 5 yT rfl (Eq.trans (r_bin rfl rfl rfl (b_geq rfl)) (dT hc1)) <| OA.ps [(6, yT), (7, (Pt n 0 0))] rfl <| oL 8 (.int .i64 t) get_here ?_
  by_cases hc2 : t ≤ 65535
  ·
   refine oP 9 yT rfl (Eq.trans (r_bin rfl rfl rfl (b_leq rfl)) (dT hc2)) <| OA.ps [(10, yT), (11, yT), (12, (Pt n 0 1))] rfl <| oL 13 (.string v) get_here <| OA.ps [(14, (.int .i64 ((v.size : Nat) : Int)))] rfl ?_
   by_cases hc3 : ((v.size : Nat) : Int) ≤ 1000
   ·
    refine oP 15 yT rfl (Eq.trans (r_bin rfl rfl rfl (b_leq rfl)) (dT hc3)) <| OA.ps [(16, yT), (2, yT)] rfl <| OA.nil fun _ => ?_
    refine RA.ret env_ok ?_
    exact lf yT (bt hb (by first | omega | (unfold prmOk; omega)))
   ·
    refine oP 15 yF rfl (Eq.trans (r_bin rfl rfl rfl (b_leq rfl)) (dF hc3)) <| OA.ps [(16, yF), (2, yF)] rfl <| OA.nil fun _ => ?_
    refine RA.ret env_ok ?_
    exact lf yF (bf hb (fun q => by first | omega | (unfold prmOk at q; omega)))
  ·
   refine oP 9 yF rfl (Eq.trans (r_bin rfl rfl rfl (b_leq rfl)) (dF hc2)) <| OA.ps [(10, yF), (11, yF)] rfl <| OA.offs 12 4 rfl <| OA.ps [(16, yF), (2, yF)] rfl <| OA.nil fun _ => ?_
   refine RA.ret env_ok ?_
   exact lf yF (bf hb (fun q => by first | omega | (unfold prmOk at q; omega)))
 ·
  refine oP 5 yF rfl (Eq.trans (r_bin rfl rfl rfl (b_geq rfl)) (dF hc1)) <| OA.ps [(6, yF)] rfl <| OA.offs 7 3 rfl <| OA.ps [(10, yF), (11, yF)] rfl <| OA.offs 12 4 rfl <| OA.ps [(16, yF), (2, yF)] rfl <| OA.nil fun _ => ?_
  refine RA.ret env_ok ?_
  exact lf yF (bf hb (fun q => by first | omega | (unfold prmOk at q; omega)))
theorem r4PutN {σ : Store} (m : Nat) (v : ByteArray) (h : prmOk ((m : Nat) : Int) v)   : PS Try.prog noDen 90 [(.agg ⟨[(.int .i64 ((m : Nat) : Int)), (.string v)]⟩)] σ (.string (bstr (pB ((m : Nat) : Int) v))) := by
 have h1 := h.1
 have h2 := h.2.1
 have h3 := h.2.2
 refine PS.body (E := env) env_ok rfl rfl (by show _ ≤ _; exact of_decide_eq_true (by kernel_rfl)) (fun n hd => ?_)
 refine RA.sR hd env_ok <| o1 (some 1) (Pt n 0 0) (n + 1) (n, some ⟨[[(.int .i64 ((m : Nat) : Int)), (.string v)]], 2, 115, true⟩) rfl <| OA.ps [(2, (.string (ByteArray.mk #[])))] rfl <| OA.nil fun _ => RA.seq hd <| RA.sR hd env_ok <| oP 3 (.agg ⟨[(.int .i64 ((m : Nat) : Int)), (.string v)]⟩) rfl (r_loadA rfl rfl rfl rfl get_here rfl rfl rfl) <| oC 4 (hd.of (by omega) (kb1 (by omega))) rfl rfl (r4May ((m : Nat) : Int) v true (bT h)) fun n1 hn1 => OA.ps [(5, yF)] rfl <| OA.nil fun _ => RA.condF rfl ?_
 refine RA.skip env_ok ?_
 intro _
 refine RA.seq hd <| RA.par (md := [some [], some [n], some [], none, some [], some [n], some [], some [], some [], none, some [], some [], some [n], some [], none, some []]) env_ok (hd.of (by omega) (kb1 (by omega))) (by kernel_rfl) <| PQ.ps [(6, (Pt n 0 0))] rfl <| pQl 7 (.int .i64 ((m : Nat) : Int)) get_here <| pP 8 (.int .u64 ((m : Nat) : Int)) rfl (r_cvt rfl rfl rfl rfl rfl ⟨_, rfl⟩ (u64_eq (by omega))) <| pA 9 (V := []) (hd.of (by omega) (kb1 (by omega))) rfl rfl (by kernel_rfl) (by kernel_rfl) (lPut2 m (by omega)) fun n2 hn2 => PQ.ps [(10, (Pt n 0 1))] rfl <| pQl 11 (.string v) get_here <| PQ.ps [(12, (.int .i64 ((v.size : Nat) : Int)))] rfl <| pP 13 (.int .i64 (((v.size + 4) : Nat) : Int)) rfl (r_bin rfl rfl rfl (b_add (i64_eq (by omega)))) <| pP 14 (.int .u64 (((v.size + 4) : Nat) : Int)) rfl (r_cvt rfl rfl rfl rfl rfl ⟨_, rfl⟩ (u64_eq (by omega))) ?_
 refine pA 15 (V := []) (hd.of (by omega) (kb1 (by omega))) rfl rfl (by kernel_rfl) (by kernel_rfl) (lPut2 (v.size + 4) (by omega)) fun n3 hn3 => pP 16 (.string (bstr ((be2 m) ++ (be2 (v.size + 4))))) rfl (Eq.trans (r_cat rfl rfl rfl (by simp only [bstr_size, size_lit, List.length_append, be2_len, be4_len, be1_len, List.length_replicate, List.length_cons, List.length_nil, List.size_toArray]; omega)) (by rw [bstr_app] <;> rfl)) <| PQ.ps [(17, (Pt n 0 1))] rfl <| pQl 18 (.string v) get_here <| pP 19 (.string (bstr (((be2 m) ++ (be2 (v.size + 4))) ++ L v))) rfl (Eq.trans (r_cat rfl rfl rfl (by simp only [bstr_size, List.length_append, be2_len, be4_len, be1_len]; omega)) (by rw [bstr_appL] <;> rfl)) <| pA 20 (v := (.string (bstr (pB ((m : Nat) : Int) v)))) (V := []) (hd.of (by omega) (kb1 (by omega))) rfl rfl (by kernel_rfl) (by kernel_rfl) (PS.to (lRF (be2 m ++ be2 (v.size + 4) ++ L v) (by simp only [List.length_append, be2_len, L_len]; omega)) (by unfold pB pL; rw [L_len] <;> rfl)) fun n4 hn4 => PQ.ps [(2, (.string (bstr (pB ((m : Nat) : Int) v))))] rfl <| PQ.done (d := []) (by kernel_rfl) fun _ => ?_
 refine RA.ret env_ok ?_
 exact lf (.string (bstr (pB ((m : Nat) : Int) v))) rfl
theorem r4Put {σ : Store} (t : Int) (v : ByteArray) (h : prmOk t v) : PS Try.prog noDen 90 [(.agg ⟨[(.int .i64 t), (.string v)]⟩)] σ (.string (bstr (pB t v))) := by
  obtain ⟨m, rfl⟩ := Int.eq_ofNat_of_zero_le h.1
  exact r4PutN m v h
theorem r4All {σ : Store} (l : List Prp) (N : Nat) (hl : l.length = N) (j : Nat) (h : prpsOk l) (h16 : N ≤ 16) (hj : σ j = some (oPrp l))  : PS Try.prog noDen 89 [(.slice (some ⟨j, 0, none⟩) N 0)] σ (.string (bstr (qsL l))) := by
 refine PS.body (E := env) env_ok rfl rfl (by show _ ≤ _; exact of_decide_eq_true (by kernel_rfl)) (fun n hd => ?_)
 have lhj := hd.lt hj
 refine RA.sR hd env_ok <| OA.ps [(2, (.string (ByteArray.mk #[])))] rfl <| OA.nil fun _ => RA.sR hd env_ok <| OA.ps [(3, (.string (ByteArray.mk #[])))] rfl <| OA.nil fun _ => RA.seq hd <| RA.sR hd env_ok <| OA.ps [(4, (.int .i64 0))] rfl <| OA.nil fun _ => RA.block ?_
 refine RA.loop hd (fun kk_ τ n' D => (∃ i : Nat, kk_ = (N - i) ∧ n ≤ n' ∧ Has τ [(0, (.slice (some ⟨j, 0, none⟩) N 0)), (3, (.string (bstr (qsL (l.take i))))), (4, (.int .i64 ((i : Nat) : Int)))] ∧ D = [] ∧ (∀ i ∈ keys D, i < n') ∧ i ≤ N)) ((N - 0)) (⟨0, rfl, by omega, ⟨rfl, rfl, rfl, trivial⟩, rfl, (fun i hi => by cases hi), by omega⟩) ?_
 rintro kn1 τ1 n1 _ ⟨i, rfl, hn1, hHn1, rfl, hKn1, hIn1⟩
 rw [Has.eq hHn1]
 have hil := hIn1
 have hpl := qsL_len h (i := i) (by omega)
 refine RA.seq hd <| RA.sR hd env_ok <| OA.ps [(5, (.int .i64 ((i : Nat) : Int))), (6, (.slice (some ⟨j, 0, none⟩) N 0)), (7, (.int .i64 ((N : Nat) : Int)))] rfl ?_
 by_cases hc1 : ((i : Nat) : Int) < ((N : Nat) : Int)
 ·
  have hok := h _ (getD_mem (d := dPrp) (show i < l.length by omega))
  have hpb := pB_len hok
  refine oP 8 yT rfl (Eq.trans (r_bin rfl rfl rfl (b_lss rfl)) (dT hc1)) <| OA.nil fun _ => RA.condT rfl <| RA.skip env_ok ?_
  intro _
  refine RA.seq hd <| RA.block <| RA.region env_ok <| OA.ps [(11, (.string (bstr (qsL (l.take i))))), (12, (.slice (some ⟨j, 0, none⟩) N 0)), (13, (.int .i64 ((i : Nat) : Int)))] rfl <| oP 14 (Pt j i 0) rfl (r_iaS (l := i) rfl rfl rfl rfl rfl rfl (by omega) (by omega) hj rfl (by omega)) <| oP 15 (.agg ⟨(cPrp (l.getD i dPrp))⟩) rfl (r_loadR (c := cPrp) dPrp rfl rfl rfl rfl hj (by rw [hl]; omega) rfl) <| oC 16 (hd.up (by omega)) rfl rfl (r4Put ((l.getD i dPrp).typ) (l.getD i dPrp).val (by assumption)) fun n2 hn2 => oP 17 (.string (bstr ((qsL (l.take i)) ++ (pB ((l.getD i dPrp).typ) (l.getD i dPrp).val)))) rfl (Eq.trans (r_cat rfl rfl rfl (by simp only [bstr_size, size_lit, List.length_append, be2_len, be4_len, be1_len, List.length_replicate, List.length_cons, List.length_nil, List.size_toArray]; omega)) (by rw [bstr_app] <;> rfl)) <| OA.ps [(3, (.string (bstr ((qsL (l.take i)) ++ (pB ((l.getD i dPrp).typ) (l.getD i dPrp).val)))))] rfl <| OA.nil fun _ => RA.region env_ok ?_
  refine OA.ps [(9, (.int .i64 ((i : Nat) : Int)))] rfl <| oP 10 (.int .i64 (((i + 1) : Nat) : Int)) rfl (r_bin rfl rfl rfl (b_add (i64_eq (by omega)))) <| OA.ps [(4, (.int .i64 (((i + 1) : Nat) : Int)))] rfl <| OA.nil ?_
  refine ⟨(N - (i + 1)), by omega, [], (Less.refl _ _ _), ⟨(i + 1), rfl, by omega, ⟨rfl, (by rw [qsL_snoc (l := l) (i := i) (by omega)] <;> rfl), rfl, trivial⟩, rfl, (fun i hi => by cases hi), by omega⟩⟩
 ·
  refine oP 8 yF rfl (Eq.trans (r_bin rfl rfl rfl (b_lss rfl)) (dF hc1)) <| OA.nil fun _ => RA.condF rfl ?_
  refine RA.exit env_ok ?_
  intro _
  refine RA.sR hd env_ok <| OA.ps [(18, (.string (bstr (qsL (l.take i))))), (2, (.string (bstr (qsL (l.take i)))))] rfl <| OA.nil fun _ => ?_
  refine RA.ret env_ok ?_
  exact lf (.string (bstr (qsL (l.take i)))) (by rw [take_full (by omega)] <;> rfl)
theorem rParams {n : Nat} {σ : Store} (hd : Dom n σ) (l : List Prm) (v : Value) (h18 : l.length ≤ 18) (hv : RowQ σ 96 2 v (l.map cPrm))   : CQ Try.prog noDen 85 [v] n σ (fun v n' d => ∃ k, n ≤ k ∧ k < n' ∧ v = (.slice (some ⟨k, 0, none⟩) l.length 0) ∧ d = [(k, some (oPrp (l.map toP)))]) := by
 refine CQ.body (E := env) env_ok hd rfl rfl (by show _ ≤ _; exact of_decide_eq_true (by kernel_rfl)) ?_
 refine RA.sR hd env_ok <| OA.ps [(2, (.slice none 0 0))] rfl <| OA.nil fun _ => RA.sR hd env_ok <| o1 (some 5) (.slice (some ⟨n, 0, none⟩) 0 0) (n + 1) (n, some (oPrp ([] : List Prp))) (by kernel_rfl) <| OA.ps [(3, (.slice (some ⟨n, 0, none⟩) 0 0))] rfl <| OA.nil fun _ => RA.seq hd <| RA.sR hd env_ok <| OA.ps [(4, (.int .i64 0))] rfl <| OA.nil fun _ => ?_
 refine RA.block ?_
 refine RA.loop hd (fun kk_ τ n' D => (∃ i : Nat, ∃ k : Nat, kk_ = (l.length - i) ∧ (n + 1) ≤ n' ∧ Has τ [(0, v), (3, (.slice (some ⟨k, 0, none⟩) i 0)), (4, (.int .i64 ((i : Nat) : Int)))] ∧ D = [(k, some (oPrp ((l.take i).map toP)))] ∧ (∀ i ∈ keys D, i < n') ∧ i ≤ l.length ∧ n ≤ k)) ((l.length - 0)) (⟨0, n, rfl, by omega, ⟨rfl, rfl, rfl, trivial⟩, rfl, (kb1 (by omega)), ⟨by omega, by omega⟩⟩) ?_
 rintro kn1 τ1 n1 _ ⟨i, k, rfl, hn1, hHn1, rfl, hKn1, hIn1⟩
 rw [Has.eq hHn1]
 have hKn1_0 := kk0 hKn1
 clear hKn1
 obtain ⟨hil, hk1⟩ := hIn1
 refine RA.seq hd <| RA.sR hd env_ok <| OA.ps [(6, (.int .i64 ((i : Nat) : Int))), (7, v)] rfl <| oP 8 (.int .i64 ((l.length : Nat) : Int)) rfl (r_lenQ (c := cPrm) rfl rfl rfl rfl rfl rfl hv rfl) ?_
 by_cases hc1 : ((i : Nat) : Int) < ((l.length : Nat) : Int)
 ·
  obtain ⟨rv, wqhatv, hatv⟩ := hv.get (m := i) (by omega)
  have lathatv := hd.lt hatv
  refine oP 9 yT rfl (Eq.trans (r_bin rfl rfl rfl (b_lss rfl)) (dT hc1)) <| OA.nil fun _ => RA.condT rfl <| RA.skip env_ok ?_
  intro _
  refine RA.seq hd <| RA.block <| RA.region env_ok <| OA.ps [(12, (.slice (some ⟨k, 0, none⟩) i 0)), (13, v), (14, (.int .i64 ((i : Nat) : Int)))] rfl <| oP 15 (.pointer (some ⟨(rk v), i, some 0⟩)) rfl (r_iaQ (c := cPrm) (m := i) rfl rfl rfl rfl rfl rfl hv rfl (by omega) (get_there (by omega) hatv) rfl) <| oP 16 (.agg ⟨(cPrm (l.getD i dPrm))⟩) rfl (r_loadA (e := cPrm (l.getD i dPrm)) rfl rfl rfl rfl (get_there (by omega) hatv) (mp_getA (by omega)) rfl rfl) <| o1 (some 17) (.slice (some ⟨n1, 0, none⟩) 1 0) (n1 + 1) (n1, some ⟨[[(.int .i64 (l.getD i dPrm).typ), (.string (l.getD i dPrm).val)]], 2, 115, true⟩) (by kernel_rfl) <| OA.op (dst := (some 18)) (v := (.slice (some ⟨(n1 + 1), 0, none⟩) (i + 1) 0)) (n1 := (n1 + 2)) (d1 := [((n1 + 1), some (oPrp ((l.take (i + 1)).map toP))), (k, none)]) (D' := [((n1 + 1), some (oPrp ((l.take (i + 1)).map toP))), (k, none), (n1, some ⟨[[(.int .i64 (l.getD i dPrm).typ), (.string (l.getD i dPrm).val)]], 2, 115, true⟩), (k, some (oPrp ((l.take i).map toP)))]) rfl rfl rfl (r_appendR (c := cPrp) (l' := ((l.take (i + 1)).map toP)) rfl rfl rfl rfl rfl rfl rfl rfl rfl rfl (by decide) (get_there (by omega) get_here) get_here (by rw [toP_len (by omega)]) (toP_snoc (by omega)) (by omega) (of_decide_eq_true (by kernel_rfl)) (by omega)) (by omega) rfl <| OA.ps [(3, (.slice (some ⟨(n1 + 1), 0, none⟩) (i + 1) 0))] rfl <| OA.nil fun _ => RA.region env_ok ?_
  refine OA.ps [(10, (.int .i64 ((i : Nat) : Int)))] rfl <| oP 11 (.int .i64 (((i + 1) : Nat) : Int)) rfl (r_bin rfl rfl rfl (b_add (i64_eq (by omega)))) <| OA.ps [(4, (.int .i64 (((i + 1) : Nat) : Int)))] rfl <| OA.nil ?_
  refine ⟨(l.length - (i + 1)), by omega, [((n1 + 1), some (oPrp ((l.take (i + 1)).map toP)))], (LsO (fA get_here get_here fan)), ⟨(i + 1), (n1 + 1), rfl, by omega, ⟨rfl, rfl, rfl, trivial⟩, rfl, (kb1 (by omega)), ⟨by omega, by omega⟩⟩⟩
 ·
  refine oP 9 yF rfl (Eq.trans (r_bin rfl rfl rfl (b_lss rfl)) (dF hc1)) <| OA.nil fun _ => RA.condF rfl ?_
  refine RA.exit env_ok ?_
  intro _
  refine RA.sR hd env_ok <| OA.ps [(19, (.slice (some ⟨k, 0, none⟩) i 0)), (2, (.slice (some ⟨k, 0, none⟩) i 0))] rfl <| OA.nil fun _ => ?_
  refine RA.ret env_ok ?_
  refine ⟨.inr rfl, [(.slice (some ⟨k, 0, none⟩) i 0)], (resL_cons rfl resL_nil), [(k, some (oPrp ((l.take i).map toP)))], (Less.refl _ _ _), ⟨k, by omega, by omega, by rw [show i = l.length from by omega] <;> rfl, by rw [take_full (by omega)] <;> rfl⟩⟩
theorem rCauses {n : Nat} {σ : Store} (hd : Dom n σ) (l : List Cau) (v : Value) (h18 : l.length ≤ 18) (hv : RowQ σ 98 2 v (l.map cCau))   : CQ Try.prog noDen 86 [v] n σ (fun v n' d => ∃ k, n ≤ k ∧ k < n' ∧ v = (.slice (some ⟨k, 0, none⟩) l.length 0) ∧ d = [(k, some (oPrp (l.map toC)))]) := by
 refine CQ.body (E := env) env_ok hd rfl rfl (by show _ ≤ _; exact of_decide_eq_true (by kernel_rfl)) ?_
 refine RA.sR hd env_ok <| OA.ps [(2, (.slice none 0 0))] rfl <| OA.nil fun _ => RA.sR hd env_ok <| o1 (some 5) (.slice (some ⟨n, 0, none⟩) 0 0) (n + 1) (n, some (oPrp ([] : List Prp))) (by kernel_rfl) <| OA.ps [(3, (.slice (some ⟨n, 0, none⟩) 0 0))] rfl <| OA.nil fun _ => RA.seq hd <| RA.sR hd env_ok <| OA.ps [(4, (.int .i64 0))] rfl <| OA.nil fun _ => ?_
 refine RA.block ?_
 refine RA.loop hd (fun kk_ τ n' D => (∃ i : Nat, ∃ k : Nat, kk_ = (l.length - i) ∧ (n + 1) ≤ n' ∧ Has τ [(0, v), (3, (.slice (some ⟨k, 0, none⟩) i 0)), (4, (.int .i64 ((i : Nat) : Int)))] ∧ D = [(k, some (oPrp ((l.take i).map toC)))] ∧ (∀ i ∈ keys D, i < n') ∧ i ≤ l.length ∧ n ≤ k)) ((l.length - 0)) (⟨0, n, rfl, by omega, ⟨rfl, rfl, rfl, trivial⟩, rfl, (kb1 (by omega)), ⟨by omega, by omega⟩⟩) ?_
 rintro kn1 τ1 n1 _ ⟨i, k, rfl, hn1, hHn1, rfl, hKn1, hIn1⟩
 rw [Has.eq hHn1]
 have hKn1_0 := kk0 hKn1
 clear hKn1
 obtain ⟨hil, hk1⟩ := hIn1
 refine RA.seq hd <| RA.sR hd env_ok <| OA.ps [(6, (.int .i64 ((i : Nat) : Int))), (7, v)] rfl <| oP 8 (.int .i64 ((l.length : Nat) : Int)) rfl (r_lenQ (c := cCau) rfl rfl rfl rfl rfl rfl hv rfl) ?_
 by_cases hc1 : ((i : Nat) : Int) < ((l.length : Nat) : Int)
 ·
  obtain ⟨rv, wqhatv, hatv⟩ := hv.get (m := i) (by omega)
  have lathatv := hd.lt hatv
  refine oP 9 yT rfl (Eq.trans (r_bin rfl rfl rfl (b_lss rfl)) (dT hc1)) <| OA.nil fun _ => RA.condT rfl <| RA.skip env_ok ?_
  intro _
  refine RA.seq hd <| RA.block <| RA.par (md := [some [], some [], some [], none, some [], none, some [], some [], none, some [], none, some [], some [], none, some []]) env_ok (hd.of (by omega) (kb1 (by omega))) (by kernel_rfl) <| PQ.ps [(12, (.slice (some ⟨k, 0, none⟩) i 0)), (13, v), (14, (.int .i64 ((i : Nat) : Int)))] rfl <| PQ.pure (dst := (some 15)) (v := (.pointer (some ⟨(rk v), i, some 0⟩))) rfl rfl rfl _ (sA (V := []) (by kernel_rfl) (by kernel_rfl)) (r_iaQ (c := cCau) (m := i) rfl rfl rfl rfl rfl rfl hv rfl (by omega) (get_there (by omega) hatv) rfl) <| PQ.ps [(16, (.pointer (some ⟨(rk v), i, some 0⟩)))] rfl <| PQ.pure (dst := (some 17)) (v := (.int .i64 (l.getD i dCau).code)) rfl rfl rfl _ (sA (V := []) (by kernel_rfl) (by kernel_rfl)) (r_load1 (e := cCau (l.getD i dCau)) rfl rfl rfl rfl rfl (get_there (by omega) hatv) (mp_getA (by omega)) rfl) <| PQ.ps [(18, v), (19, (.int .i64 ((i : Nat) : Int)))] rfl <| PQ.pure (dst := (some 20)) (v := (.pointer (some ⟨(rk v), i, some 0⟩))) rfl rfl rfl _ (sA (V := []) (by kernel_rfl) (by kernel_rfl)) (r_iaQ (c := cCau) (m := i) rfl rfl rfl rfl rfl rfl hv rfl (by omega) (get_there (by omega) hatv) rfl) <| PQ.ps [(21, (.pointer (some ⟨(rk v), i, some 1⟩)))] rfl <| PQ.pure (dst := (some 22)) (v := (.string (l.getD i dCau).info)) rfl rfl rfl _ (sA (V := []) (by kernel_rfl) (by kernel_rfl)) (r_load1 (e := cCau (l.getD i dCau)) rfl rfl rfl rfl rfl (get_there (by omega) hatv) (mp_getA (by omega)) rfl) ?_
  refine pP 23 (.agg ⟨[(.int .i64 (l.getD i dCau).code), (.string (l.getD i dCau).info)]⟩) rfl (by kernel_rfl) <| PQ.op (dst := (some 24)) (v := (.slice (some ⟨n1, 0, none⟩) 1 0)) (n1 := (n1 + 1)) (d1 := [(n1, some ⟨[[(.int .i64 (l.getD i dCau).code), (.string (l.getD i dCau).info)]], 2, 115, true⟩)]) rfl rfl rfl noStore nOK (by kernel_rfl) (by omega) (kp1 (wr_new (by omega) (by omega))) <| PQ.op (dst := (some 25)) (v := (.slice (some ⟨(n1 + 1), 0, none⟩) (i + 1) 0)) (n1 := (n1 + 2)) (d1 := [((n1 + 1), some (oPrp ((l.take (i + 1)).map toC))), (k, none)]) rfl rfl rfl _ (sA (V := [(n1, some ⟨[[(.int .i64 (l.getD i dCau).code), (.string (l.getD i dCau).info)]], 2, 115, true⟩)]) (by kernel_rfl) (by kernel_rfl)) (r_appendR (c := cPrp) (l' := ((l.take (i + 1)).map toC)) rfl rfl rfl rfl rfl rfl rfl rfl rfl rfl (by decide) (get_there (by omega) get_here) get_here (by rw [toC_len (by omega)]) (toC_snoc (by omega)) (by omega) (of_decide_eq_true (by kernel_rfl)) (by omega)) (by omega) (kp2 (wr_new (by omega) (by omega)) (wr_tight (by kernel_rfl) (by omega))) <| PQ.ps [(3, (.slice (some ⟨(n1 + 1), 0, none⟩) (i + 1) 0))] rfl <| PQ.done (d := [((n1 + 1), some (oPrp ((l.take (i + 1)).map toC))), (k, none), (n1, some ⟨[[(.int .i64 (l.getD i dCau).code), (.string (l.getD i dCau).info)]], 2, 115, true⟩)]) (by kernel_rfl) fun _ => RA.region env_ok <| OA.ps [(10, (.int .i64 ((i : Nat) : Int)))] rfl <| oP 11 (.int .i64 (((i + 1) : Nat) : Int)) rfl (r_bin rfl rfl rfl (b_add (i64_eq (by omega)))) <| OA.ps [(4, (.int .i64 (((i + 1) : Nat) : Int)))] rfl <| OA.nil ?_
  refine ⟨(l.length - (i + 1)), by omega, [((n1 + 1), some (oPrp ((l.take (i + 1)).map toC)))], (LsO (fA get_here get_here fan)), ⟨(i + 1), (n1 + 1), rfl, by omega, ⟨rfl, rfl, rfl, trivial⟩, rfl, (kb1 (by omega)), ⟨by omega, by omega⟩⟩⟩
 ·
  refine oP 9 yF rfl (Eq.trans (r_bin rfl rfl rfl (b_lss rfl)) (dF hc1)) <| OA.nil fun _ => RA.condF rfl ?_
  refine RA.exit env_ok ?_
  intro _
  refine RA.sR hd env_ok <| OA.ps [(26, (.slice (some ⟨k, 0, none⟩) i 0)), (2, (.slice (some ⟨k, 0, none⟩) i 0))] rfl <| OA.nil fun _ => ?_
  refine RA.ret env_ok ?_
  refine ⟨.inr rfl, [(.slice (some ⟨k, 0, none⟩) i 0)], (resL_cons rfl resL_nil), [(k, some (oPrp ((l.take i).map toC)))], (Less.refl _ _ _), ⟨k, by omega, by omega, by rw [show i = l.length from by omega] <;> rfl, by rw [take_full (by omega)] <;> rfl⟩⟩
theorem rGaps {σ : Store} (d : Chk) (b : Bool) (hb : b = true ↔ gapsP d.gs)  (h : gd σ d) : PS Try.prog noDen 83 [d.gv] σ (.bool b) := by
 have hp18 := h.p18
 have hc18 := h.c18
 have hg18 := h.g18
 have hd18 := h.u18
 have hfl := h.fl
 have hgr := h.gr
 refine PS.body (E := env) env_ok rfl rfl (by show _ ≤ _; exact of_decide_eq_true (by kernel_rfl)) (fun n hd => ?_)
 refine RA.sR hd env_ok <| OA.ps [(2, yF)] rfl <| OA.nil fun _ => RA.sR hd env_ok <| OA.ps [(3, (.int .i64 0))] rfl <| OA.nil fun _ => RA.seq hd <| RA.sR hd env_ok <| OA.ps [(4, (.int .i64 0))] rfl <| OA.nil fun _ => RA.block ?_
 refine RA.loop hd (fun kk_ τ n' D => (∃ i : Nat, ∃ a : Int, kk_ = (d.gs.length - i) ∧ n ≤ n' ∧ Has τ [(0, d.gv), (3, (.int .i64 a)), (4, (.int .i64 ((i : Nat) : Int)))] ∧ D = [] ∧ (∀ i ∈ keys D, i < n') ∧ i ≤ d.gs.length ∧ 0 ≤ a ∧ a < 65536 ∧ (risP 0 d.gs ↔ risP a (d.gs.drop i)))) ((d.gs.length - 0)) (⟨0, 0, rfl, by omega, ⟨rfl, rfl, rfl, trivial⟩, rfl, (fun i hi => by cases hi), ⟨by omega, by omega, by omega, Iff.rfl⟩⟩) ?_
 rintro kn1 τ1 n1 _ ⟨i, a, rfl, hn1, hHn1, rfl, hKn1, hIn1⟩
 rw [Has.eq hHn1]
 obtain ⟨hil, ha0, ha1, hris⟩ := hIn1
 refine RA.seq hd <| RA.sR hd env_ok <| OA.ps [(5, (.int .i64 ((i : Nat) : Int))), (6, d.gv)] rfl <| oP 7 (.int .i64 ((d.gs.length : Nat) : Int)) rfl (r_lenQ (c := cGp) rfl rfl rfl rfl rfl rfl h.hg rfl) ?_
 by_cases hc1 : ((i : Nat) : Int) < ((d.gs.length : Nat) : Int)
 ·
  obtain ⟨rg, wqhatg, hatg⟩ := h.hg.get (m := i) (by omega)
  have lathatg := hd.lt hatg
  have hri := hris.trans (ris_cons (by omega))
  have hlo := hgr _ (getD_mem (d := dGp) (show i < d.gs.length by omega))
  refine oP 8 yT rfl (Eq.trans (r_bin rfl rfl rfl (b_lss rfl)) (dT hc1)) <| OA.nil fun _ => RA.condT rfl <| RA.skip env_ok ?_
  intro _
  refine RA.seq hd <| RA.block <| RA.seq hd <| RA.seq hd <| RA.par (md := [some [], some [], none, some [], none, some [], some [], some [], some [], none, some [], none, some [], some [], some [], some [], some [], some [], some [], none, some [], none, some [], some [], none, some [], none, some [], some [], some [], some [], some [], none, some [], none, some [], some []]) env_ok (hd.up (by omega)) (by kernel_rfl) <| PQ.ps [(11, d.gv), (12, (.int .i64 ((i : Nat) : Int)))] rfl <| PQ.pure (dst := (some 13)) (v := (.pointer (some ⟨(rk d.gv), i, some 0⟩))) rfl rfl rfl _ (sA (V := []) (by kernel_rfl) (by kernel_rfl)) (r_iaQ (c := cGp) (m := i) rfl rfl rfl rfl rfl rfl h.hg rfl (by omega) hatg rfl) <| PQ.ps [(14, (.pointer (some ⟨(rk d.gv), i, some 0⟩)))] rfl <| PQ.pure (dst := (some 15)) (v := (.int .i64 (d.gs.getD i dGp).lo)) rfl rfl rfl _ (sA (V := []) (by kernel_rfl) (by kernel_rfl)) (r_load1 (e := cGp (d.gs.getD i dGp)) rfl rfl rfl rfl rfl hatg (mp_getA (by omega)) rfl) ?_
  by_cases hc2 : (d.gs.getD i dGp).lo < 2
  ·
   refine pP 16 yT rfl (Eq.trans (r_bin rfl rfl rfl (b_lss rfl)) (dT hc2)) <| PQ.ps [(17, yT)] rfl <| PQ.offs 18 8 rfl <| PQ.ps [(26, yT), (27, yT)] rfl <| PQ.offs 28 11 rfl <| PQ.ps [(39, yT), (40, yT)] rfl <| PQ.offs 41 6 rfl <| PQ.ps [(47, yT)] rfl <| PQ.done (d := []) (by kernel_rfl) fun _ => RA.rb [(0, d.gv), (3, (.int .i64 a)), (4, (.int .i64 ((i : Nat) : Int))), (8, yT), (47, yT)] rfl (fun τr2 => ?_)
   refine RA.condT rfl <| RA.sR hd env_ok <| OA.ps [(2, yF)] rfl <| OA.nil fun _ => ?_
   refine RA.ret env_ok ?_
   exact lf yF (bf hb (fun q => by first | (have q2 := q.2; omega) | (obtain ⟨q1, q2, q3, q4⟩ := hri.1 q.1; omega)))
  ·
   refine pP 16 yF rfl (Eq.trans (r_bin rfl rfl rfl (b_lss rfl)) (dF hc2)) <| PQ.ps [(17, yF), (18, d.gv), (19, (.int .i64 ((i : Nat) : Int)))] rfl <| PQ.pure (dst := (some 20)) (v := (.pointer (some ⟨(rk d.gv), i, some 0⟩))) rfl rfl rfl _ (sA (V := []) (by kernel_rfl) (by kernel_rfl)) (r_iaQ (c := cGp) (m := i) rfl rfl rfl rfl rfl rfl h.hg rfl (by omega) hatg rfl) <| PQ.ps [(21, (.pointer (some ⟨(rk d.gv), i, some 0⟩)))] rfl <| PQ.pure (dst := (some 22)) (v := (.int .i64 (d.gs.getD i dGp).lo)) rfl rfl rfl _ (sA (V := []) (by kernel_rfl) (by kernel_rfl)) (r_load1 (e := cGp (d.gs.getD i dGp)) rfl rfl rfl rfl rfl hatg (mp_getA (by omega)) rfl) <| pP 23 (.int .i64 ((d.gs.getD i dGp).lo - 2)) rfl (r_bin rfl rfl rfl (b_sub (i64_eq (by omega)))) <| PQ.ps [(24, (.int .i64 a))] rfl ?_
   by_cases hc3 : ((d.gs.getD i dGp).lo - 2) < a
   ·
    refine pP 25 yT rfl (Eq.trans (r_bin rfl rfl rfl (b_lss rfl)) (dT hc3)) <| PQ.ps [(26, yT), (27, yT)] rfl <| PQ.offs 28 11 rfl <| PQ.ps [(39, yT), (40, yT)] rfl <| PQ.offs 41 6 rfl <| PQ.ps [(47, yT)] rfl <| PQ.done (d := []) (by kernel_rfl) fun _ => RA.rb [(0, d.gv), (3, (.int .i64 a)), (4, (.int .i64 ((i : Nat) : Int))), (8, yT), (47, yT)] rfl (fun τr3 => ?_)
    refine RA.condT rfl <| RA.sR hd env_ok <| OA.ps [(2, yF)] rfl <| OA.nil fun _ => ?_
    refine RA.ret env_ok ?_
    exact lf yF (bf hb (fun q => by first | (have q2 := q.2; omega) | (obtain ⟨q1, q2, q3, q4⟩ := hri.1 q.1; omega)))
   ·
    refine pP 25 yF rfl (Eq.trans (r_bin rfl rfl rfl (b_lss rfl)) (dF hc3)) <| PQ.ps [(26, yF), (27, yF), (28, d.gv), (29, (.int .i64 ((i : Nat) : Int)))] rfl <| PQ.pure (dst := (some 30)) (v := (.pointer (some ⟨(rk d.gv), i, some 0⟩))) rfl rfl rfl _ (sA (V := []) (by kernel_rfl) (by kernel_rfl)) (r_iaQ (c := cGp) (m := i) rfl rfl rfl rfl rfl rfl h.hg rfl (by omega) hatg rfl) <| PQ.ps [(31, (.pointer (some ⟨(rk d.gv), i, some 1⟩)))] rfl <| PQ.pure (dst := (some 32)) (v := (.int .i64 (d.gs.getD i dGp).hi)) rfl rfl rfl _ (sA (V := []) (by kernel_rfl) (by kernel_rfl)) (r_load1 (e := cGp (d.gs.getD i dGp)) rfl rfl rfl rfl rfl hatg (mp_getA (by omega)) rfl) <| PQ.ps [(33, d.gv), (34, (.int .i64 ((i : Nat) : Int)))] rfl <| PQ.pure (dst := (some 35)) (v := (.pointer (some ⟨(rk d.gv), i, some 0⟩))) rfl rfl rfl _ (sA (V := []) (by kernel_rfl) (by kernel_rfl)) (r_iaQ (c := cGp) (m := i) rfl rfl rfl rfl rfl rfl h.hg rfl (by omega) hatg rfl) <| PQ.ps [(36, (.pointer (some ⟨(rk d.gv), i, some 0⟩)))] rfl <| PQ.pure (dst := (some 37)) (v := (.int .i64 (d.gs.getD i dGp).lo)) rfl rfl rfl _ (sA (V := []) (by kernel_rfl) (by kernel_rfl)) (r_load1 (e := cGp (d.gs.getD i dGp)) rfl rfl rfl rfl rfl hatg (mp_getA (by omega)) rfl) ?_
    by_cases hc4 : (d.gs.getD i dGp).hi < (d.gs.getD i dGp).lo
    ·
     refine pP 38 yT rfl (Eq.trans (r_bin rfl rfl rfl (b_lss rfl)) (dT hc4)) <| PQ.ps [(39, yT), (40, yT)] rfl <| PQ.offs 41 6 rfl <| PQ.ps [(47, yT)] rfl <| PQ.done (d := []) (by kernel_rfl) fun _ => RA.rb [(0, d.gv), (3, (.int .i64 a)), (4, (.int .i64 ((i : Nat) : Int))), (8, yT), (47, yT)] rfl (fun τr4 => ?_)
     refine RA.condT rfl <| RA.sR hd env_ok <| OA.ps [(2, yF)] rfl <| OA.nil fun _ => ?_
     refine RA.ret env_ok ?_
     exact lf yF (bf hb (fun q => by first | (have q2 := q.2; omega) | (obtain ⟨q1, q2, q3, q4⟩ := hri.1 q.1; omega)))
    ·
     refine pP 38 yF rfl (Eq.trans (r_bin rfl rfl rfl (b_lss rfl)) (dF hc4)) <| PQ.ps [(39, yF), (40, yF), (41, d.gv), (42, (.int .i64 ((i : Nat) : Int)))] rfl <| PQ.pure (dst := (some 43)) (v := (.pointer (some ⟨(rk d.gv), i, some 0⟩))) rfl rfl rfl _ (sA (V := []) (by kernel_rfl) (by kernel_rfl)) (r_iaQ (c := cGp) (m := i) rfl rfl rfl rfl rfl rfl h.hg rfl (by omega) hatg rfl) <| PQ.ps [(44, (.pointer (some ⟨(rk d.gv), i, some 1⟩)))] rfl <| PQ.pure (dst := (some 45)) (v := (.int .i64 (d.gs.getD i dGp).hi)) rfl rfl rfl _ (sA (V := []) (by kernel_rfl) (by kernel_rfl)) (r_load1 (e := cGp (d.gs.getD i dGp)) rfl rfl rfl rfl rfl hatg (mp_getA (by omega)) rfl) ?_
     by_cases hc5 : 65535 < (d.gs.getD i dGp).hi
     ·
      refine pP 46 yT rfl (Eq.trans (r_bin rfl rfl rfl (b_gtr rfl)) (dT hc5)) <| PQ.ps [(47, yT)] rfl <| PQ.done (d := []) (by kernel_rfl) fun _ => RA.rb [(0, d.gv), (3, (.int .i64 a)), (4, (.int .i64 ((i : Nat) : Int))), (8, yT), (47, yT)] rfl (fun τr5 => ?_)
      refine RA.condT rfl <| RA.sR hd env_ok <| OA.ps [(2, yF)] rfl <| OA.nil fun _ => ?_
      refine RA.ret env_ok ?_
      exact lf yF (bf hb (fun q => by first | (have q2 := q.2; omega) | (obtain ⟨q1, q2, q3, q4⟩ := hri.1 q.1; omega)))
     ·
      refine pP 46 yF rfl (Eq.trans (r_bin rfl rfl rfl (b_gtr rfl)) (dF hc5)) <| PQ.ps [(47, yF)] rfl <| PQ.done (d := []) (by kernel_rfl) fun _ => RA.rb [(0, d.gv), (3, (.int .i64 a)), (4, (.int .i64 ((i : Nat) : Int))), (8, yT), (47, yF)] rfl (fun τr6 => ?_)
      refine RA.condF rfl <| RA.skip env_ok ?_
      intro _
      refine RA.region env_ok <| OA.ps [(48, d.gv), (49, (.int .i64 ((i : Nat) : Int)))] rfl <| oP 50 (.pointer (some ⟨(rk d.gv), i, some 0⟩)) rfl (r_iaQ (c := cGp) (m := i) rfl rfl rfl rfl rfl rfl h.hg rfl (by omega) hatg rfl) <| OA.ps [(51, (.pointer (some ⟨(rk d.gv), i, some 1⟩)))] rfl <| oP 52 (.int .i64 (d.gs.getD i dGp).hi) rfl (r_load1 (e := cGp (d.gs.getD i dGp)) rfl rfl rfl rfl rfl hatg (mp_getA (by omega)) rfl) <| OA.ps [(3, (.int .i64 (d.gs.getD i dGp).hi))] rfl <| OA.nil fun _ => RA.region env_ok <| OA.ps [(9, (.int .i64 ((i : Nat) : Int)))] rfl <| oP 10 (.int .i64 (((i + 1) : Nat) : Int)) rfl (r_bin rfl rfl rfl (b_add (i64_eq (by omega)))) <| OA.ps [(4, (.int .i64 (((i + 1) : Nat) : Int)))] rfl ?_
      refine OA.nil ?_
      refine ⟨(d.gs.length - (i + 1)), by omega, [], (Less.refl _ _ _), ⟨(i + 1), (d.gs.getD i dGp).hi, rfl, by omega, ⟨rfl, rfl, rfl, trivial⟩, rfl, (fun i hi => by cases hi), ⟨by omega, by omega, by omega, ⟨fun q => (hri.1 q).2.2.2, fun q => hri.2 ⟨by omega, by omega, by omega, q⟩⟩⟩⟩⟩
 ·
  have hrt : risP 0 d.gs := hris.2 (ris_nil (by omega))
  refine oP 8 yF rfl (Eq.trans (r_bin rfl rfl rfl (b_lss rfl)) (dF hc1)) <| OA.nil fun _ => RA.condF rfl ?_
  refine RA.exit env_ok ?_
  intro _
  refine RA.sR hd env_ok <| OA.ps [(53, d.gv)] rfl <| oP 54 (.int .i64 ((d.gs.length : Nat) : Int)) rfl (r_lenQ (c := cGp) rfl rfl rfl rfl rfl rfl h.hg rfl) ?_
  by_cases hc6 : ((d.gs.length : Nat) : Int) ≤ 16
  ·
   refine oP 55 yT rfl (Eq.trans (r_bin rfl rfl rfl (b_leq rfl)) (dT hc6)) <| OA.ps [(2, yT)] rfl <| OA.nil fun _ => ?_
   refine RA.ret env_ok ?_
   exact lf yT (bt hb (⟨hrt, by omega⟩))
  ·
   refine oP 55 yF rfl (Eq.trans (r_bin rfl rfl rfl (b_leq rfl)) (dF hc6)) <| OA.ps [(2, yF)] rfl <| OA.nil fun _ => ?_
   refine RA.ret env_ok ?_
   exact lf yF (bf hb (fun q => by first | (have q2 := q.2; omega) | (obtain ⟨q1, q2, q3, q4⟩ := hri.1 q.1; omega)))
end Go.Proofs.Ytdnkhdkflemkeaa.Vt.Cp
/- Cr2: walks through functions of the program, by the calculus; written by a program of this workplace. -/
namespace Go.Proofs.Ytdnkhdkflemkeaa.Vt.Cp
open Go Go.Proofs Go.Proofs.YtdnkhdkflemkeaaV
set_option maxRecDepth 100000
set_option linter.unusedVariables false
set_option linter.unusedSimpArgs false
set_option maxHeartbeats 8000000
def hasB (d : Chk) : Bool := (((((((((((decide ((d.tsn.toNat : Int) ≠ 0)) && (!(((((decide ((((kd d.typ) : Nat) : Int) = 0)) || (decide ((((kd d.typ) : Nat) : Int) = 1))) || (decide ((((kd d.typ) : Nat) : Int) = 3))) || (decide ((((kd d.typ) : Nat) : Int) = 7))) || (decide ((((kd d.typ) : Nat) : Int) = 16))))) || (((decide (d.stream ≠ 0)) && (decide ((((kd d.typ) : Nat) : Int) ≠ 0))) && (decide ((((kd d.typ) : Nat) : Int) ≠ 15)))) || (((decide (d.ssn ≠ 0)) && (decide ((((kd d.typ) : Nat) : Int) ≠ 0))) && (decide ((((kd d.typ) : Nat) : Int) ≠ 15)))) || ((decide ((d.proto.toNat : Int) ≠ 0)) && (decide ((((kd d.typ) : Nat) : Int) ≠ 0)))) || ((!(decide (d.data = (ByteArray.mk #[])))) && (!(((((decide ((((kd d.typ) : Nat) : Int) = 0)) || (decide ((((kd d.typ) : Nat) : Int) = 4))) || (decide ((((kd d.typ) : Nat) : Int) = 10))) || (decide ((((kd d.typ) : Nat) : Int) = 15))) || (decide ((((kd d.typ) : Nat) : Int) = 20)))))) || ((((decide ((d.tag.toNat : Int) ≠ 0)) || (decide (d.outs ≠ 0))) || (decide (d.ins ≠ 0))) && (decide ((((kd d.typ) : Nat) : Int) ≠ 1)))) || (((decide ((d.rwnd.toNat : Int) ≠ 0)) && (decide ((((kd d.typ) : Nat) : Int) ≠ 1))) && (decide ((((kd d.typ) : Nat) : Int) ≠ 3)))) || (((decide (0 < ((d.ps.length : Nat) : Int))) && (decide ((((kd d.typ) : Nat) : Int) ≠ 1))) && (decide ((((kd d.typ) : Nat) : Int) ≠ 16)))) || ((decide (0 < ((d.cs.length : Nat) : Int))) && (decide ((((kd d.typ) : Nat) : Int) ≠ 6)))) || ((decide (0 < (((d.gs.length + d.ds.length) : Nat) : Int))) && (decide ((((kd d.typ) : Nat) : Int) ≠ 3))))
theorem hc1 (q t : Nat) : (¬ (t : Int) = 0 ∧ (((¬ (q : Int) = 0 ∧ ¬ (q : Int) = 1) ∧ ¬ (q : Int) = 3) ∧ ¬ (q : Int) = 7) ∧ ¬ (q : Int) = 16) ↔ ¬ ((q = 0 ∨ q = 1 ∨ q = 3 ∨ q = 7 ∨ q = 16) ∨ t = 0) := by omega
theorem hc2 (q : Nat) (s : Int) : ((¬ s = 0 ∧ ¬ (q : Int) = 0) ∧ ¬ (q : Int) = 15) ↔ ¬ ((q = 0 ∨ q = 15) ∨ s = 0) := by omega
theorem hc4 (q t : Nat) : (¬ (t : Int) = 0 ∧ ¬ (q : Int) = 0) ↔ ¬ (q = 0 ∨ t = 0) := by omega
theorem hc5 (q t : Nat) : (¬ t = 0 ∧ (((¬ (q : Int) = 0 ∧ ¬ (q : Int) = 4) ∧ ¬ (q : Int) = 10) ∧ ¬ (q : Int) = 15) ∧ ¬ (q : Int) = 20) ↔ ¬ ((q = 0 ∨ q = 4 ∨ q = 10 ∨ q = 15 ∨ q = 20) ∨ t = 0) := by omega
theorem hc6 (q t : Nat) (o i : Int) : (((¬ (t : Int) = 0 ∨ ¬ o = 0) ∨ ¬ i = 0) ∧ ¬ (q : Int) = 1) ↔ ((¬ (q = 1 ∨ t = 0) ∨ ¬ (q = 1 ∨ o = 0)) ∨ ¬ (q = 1 ∨ i = 0)) := by omega
theorem hc7 (q t : Nat) : ((¬ (t : Int) = 0 ∧ ¬ (q : Int) = 1) ∧ ¬ (q : Int) = 3) ↔ ¬ ((q = 1 ∨ q = 3) ∨ t = 0) := by omega
theorem hc8 (q t : Nat) : ((0 < (t : Int) ∧ ¬ (q : Int) = 1) ∧ ¬ (q : Int) = 16) ↔ ¬ ((q = 1 ∨ q = 16) ∨ t = 0) := by omega
theorem hc9 (q t : Nat) : (0 < (t : Int) ∧ ¬ (q : Int) = 6) ↔ ¬ (q = 6 ∨ t = 0) := by omega
theorem hc10 (q a b : Nat) : (0 < ((a + b : Nat) : Int) ∧ ¬ (q : Int) = 3) ↔ (¬ (q = 3 ∨ a = 0) ∨ ¬ (q = 3 ∨ b = 0)) := by omega
theorem data0 (s : ByteArray) : (s = ByteArray.mk #[]) ↔ s.size = 0 := ⟨fun e => by rw [e]; rfl, fun h => sz0 h⟩
theorem has_iff (d : Chk) : hasB d = true ↔ ¬ hasntP d := by
  unfold hasB
  simp only [Bool.or_eq_true, Bool.and_eq_true, Bool.not_eq_true', decide_eq_true_eq, decide_eq_false_iff_not, Bool.or_eq_false_iff, ne_eq, data0]
  rw [hc1, hc2, hc2, hc4, hc5, hc6, hc7, hc8, hc9, hc10]
  unfold hasntP
  simp only [Classical.not_and_iff_not_or_not, or_assoc]
theorem rHas0 {σ : Store} (d : Chk)  (h : gd σ d) : PS Try.prog noDen 82 [(.agg ⟨(cChk d)⟩)] σ (.bool (hasB d)) := by
 have hp18 := h.p18
 have hc18 := h.c18
 have hg18 := h.g18
 have hd18 := h.u18
 have hfl := h.fl
 refine PS.body (E := env) env_ok rfl rfl (by show _ ≤ _; exact of_decide_eq_true (by kernel_rfl)) (fun n hd => ?_)
 refine RA.sR hd env_ok <| o1 (some 1) (Pt n 0 0) (n + 1) (n, some ⟨[(cChk d)], 15, 54, true⟩) (r_box (cs := (cChk d)) rfl rfl rfl (Nat.le_of_ble_eq_true rfl) (by simp only [List.all_cons, List.all_nil, Bool.and_true, Bool.and_eq_true, cChk]; exact ⟨rfl, rfl, rfl, rfl, rfl, rfl, rfl, rfl, rfl, rfl, rfl, (h.hp).one, (h.hc).one, (h.hg).one, (h.hu).one⟩)) <| OA.ps [(2, yF)] rfl <| OA.nil fun _ => RA.sR hd env_ok <| OA.ps [(6, (Pt n 0 0))] rfl <| oL 7 (.int .i64 d.typ) get_here <| oC 8 (hd.of (by omega) (kb1 (by omega))) rfl rfl (rKind d.typ) fun n1 hn1 => OA.ps [(3, (.int .i64 (((kd d.typ) : Nat) : Int)))] rfl <| OA.nil fun _ => RA.sR hd env_ok ?_
 refine OA.ps [(9, (.int .i64 (((kd d.typ) : Nat) : Int)))] rfl ?_
 obtain ⟨b2, hb2⟩ : ∃ b_ : Bool, (decide ((((kd d.typ) : Nat) : Int) = 0)) = b_ := ⟨_, rfl⟩
 refine oP 10 (.bool b2) rfl (Eq.trans (r_bin rfl rfl rfl (b_eql rfl)) (by rw [hb2])) <| OA.ps [(11, (.bool b2))] rfl <| oB (!b2) 12 (.int .i64 (((kd d.typ) : Nat) : Int)) (by cases b2 <;> rfl) rfl (fun hb_ => by cases b2 <;> first | exact Bool.noConfusion hb_ | exact rfl) ?_
 obtain ⟨b3, hb3⟩ : ∃ b_ : Bool, (decide ((((kd d.typ) : Nat) : Int) = 1)) = b_ := ⟨_, rfl⟩
 refine oB (!b2) 13 (.bool b3) (by cases b2 <;> rfl) rfl (fun hb_ => by cases b2 <;> first | exact Bool.noConfusion hb_ | exact (Eq.trans (r_bin rfl rfl rfl (b_eql rfl)) (by rw [hb3]))) ?_
 obtain ⟨b4, hb4⟩ : ∃ b_ : Bool, (b2 || b3) = b_ := ⟨_, rfl⟩
 refine oP 14 (.bool b4) rfl (by rw [← hb4]; cases b2 <;> rfl) <| OA.ps [(15, (.bool b4))] rfl <| oB (!b4) 16 (.int .i64 (((kd d.typ) : Nat) : Int)) (by cases b4 <;> rfl) rfl (fun hb_ => by cases b4 <;> first | exact Bool.noConfusion hb_ | exact rfl) ?_
 obtain ⟨b5, hb5⟩ : ∃ b_ : Bool, (decide ((((kd d.typ) : Nat) : Int) = 3)) = b_ := ⟨_, rfl⟩
 refine oB (!b4) 17 (.bool b5) (by cases b4 <;> rfl) rfl (fun hb_ => by cases b4 <;> first | exact Bool.noConfusion hb_ | exact (Eq.trans (r_bin rfl rfl rfl (b_eql rfl)) (by rw [hb5]))) ?_
 obtain ⟨b6, hb6⟩ : ∃ b_ : Bool, (b4 || b5) = b_ := ⟨_, rfl⟩
 refine oP 18 (.bool b6) rfl (by rw [← hb6]; cases b4 <;> rfl) <| OA.ps [(19, (.bool b6))] rfl <| oB (!b6) 20 (.int .i64 (((kd d.typ) : Nat) : Int)) (by cases b6 <;> rfl) rfl (fun hb_ => by cases b6 <;> first | exact Bool.noConfusion hb_ | exact rfl) ?_
 obtain ⟨b7, hb7⟩ : ∃ b_ : Bool, (decide ((((kd d.typ) : Nat) : Int) = 7)) = b_ := ⟨_, rfl⟩
 refine oB (!b6) 21 (.bool b7) (by cases b6 <;> rfl) rfl (fun hb_ => by cases b6 <;> first | exact Bool.noConfusion hb_ | exact (Eq.trans (r_bin rfl rfl rfl (b_eql rfl)) (by rw [hb7]))) ?_
 obtain ⟨b8, hb8⟩ : ∃ b_ : Bool, (b6 || b7) = b_ := ⟨_, rfl⟩
 refine oP 22 (.bool b8) rfl (by rw [← hb8]; cases b6 <;> rfl) <| OA.ps [(23, (.bool b8))] rfl <| oB (!b8) 24 (.int .i64 (((kd d.typ) : Nat) : Int)) (by cases b8 <;> rfl) rfl (fun hb_ => by cases b8 <;> first | exact Bool.noConfusion hb_ | exact rfl) ?_
 obtain ⟨b9, hb9⟩ : ∃ b_ : Bool, (decide ((((kd d.typ) : Nat) : Int) = 16)) = b_ := ⟨_, rfl⟩
 refine oB (!b8) 25 (.bool b9) (by cases b8 <;> rfl) rfl (fun hb_ => by cases b8 <;> first | exact Bool.noConfusion hb_ | exact (Eq.trans (r_bin rfl rfl rfl (b_eql rfl)) (by rw [hb9]))) ?_
 obtain ⟨b10, hb10⟩ : ∃ b_ : Bool, (b8 || b9) = b_ := ⟨_, rfl⟩
 refine oP 26 (.bool b10) rfl (by rw [← hb10]; cases b8 <;> rfl) <| OA.ps [(4, (.bool b10))] rfl <| OA.nil fun _ => RA.rb [(0, (.agg ⟨(cChk d)⟩)), (1, (Pt n 0 0)), (2, yF), (3, (.int .i64 (((kd d.typ) : Nat) : Int))), (4, (.bool b10))] rfl (fun τr11 => ?_)
 refine RA.sR hd env_ok <| OA.ps [(27, (.int .i64 (((kd d.typ) : Nat) : Int)))] rfl ?_
 obtain ⟨b12, hb12⟩ : ∃ b_ : Bool, (decide ((((kd d.typ) : Nat) : Int) = 0)) = b_ := ⟨_, rfl⟩
 refine oP 28 (.bool b12) rfl (Eq.trans (r_bin rfl rfl rfl (b_eql rfl)) (by rw [hb12])) <| OA.ps [(29, (.bool b12))] rfl <| oB (!b12) 30 (.int .i64 (((kd d.typ) : Nat) : Int)) (by cases b12 <;> rfl) rfl (fun hb_ => by cases b12 <;> first | exact Bool.noConfusion hb_ | exact rfl) ?_
 obtain ⟨b13, hb13⟩ : ∃ b_ : Bool, (decide ((((kd d.typ) : Nat) : Int) = 4)) = b_ := ⟨_, rfl⟩
 refine oB (!b12) 31 (.bool b13) (by cases b12 <;> rfl) rfl (fun hb_ => by cases b12 <;> first | exact Bool.noConfusion hb_ | exact (Eq.trans (r_bin rfl rfl rfl (b_eql rfl)) (by rw [hb13]))) ?_
 obtain ⟨b14, hb14⟩ : ∃ b_ : Bool, (b12 || b13) = b_ := ⟨_, rfl⟩
 refine oP 32 (.bool b14) rfl (by rw [← hb14]; cases b12 <;> rfl) <| OA.ps [(33, (.bool b14))] rfl <| oB (!b14) 34 (.int .i64 (((kd d.typ) : Nat) : Int)) (by cases b14 <;> rfl) rfl (fun hb_ => by cases b14 <;> first | exact Bool.noConfusion hb_ | exact rfl) ?_
 obtain ⟨b15, hb15⟩ : ∃ b_ : Bool, (decide ((((kd d.typ) : Nat) : Int) = 10)) = b_ := ⟨_, rfl⟩
 refine oB (!b14) 35 (.bool b15) (by cases b14 <;> rfl) rfl (fun hb_ => by cases b14 <;> first | exact Bool.noConfusion hb_ | exact (Eq.trans (r_bin rfl rfl rfl (b_eql rfl)) (by rw [hb15]))) ?_
 obtain ⟨b16, hb16⟩ : ∃ b_ : Bool, (b14 || b15) = b_ := ⟨_, rfl⟩
 refine oP 36 (.bool b16) rfl (by rw [← hb16]; cases b14 <;> rfl) <| OA.ps [(37, (.bool b16))] rfl <| oB (!b16) 38 (.int .i64 (((kd d.typ) : Nat) : Int)) (by cases b16 <;> rfl) rfl (fun hb_ => by cases b16 <;> first | exact Bool.noConfusion hb_ | exact rfl) ?_
 obtain ⟨b17, hb17⟩ : ∃ b_ : Bool, (decide ((((kd d.typ) : Nat) : Int) = 15)) = b_ := ⟨_, rfl⟩
 refine oB (!b16) 39 (.bool b17) (by cases b16 <;> rfl) rfl (fun hb_ => by cases b16 <;> first | exact Bool.noConfusion hb_ | exact (Eq.trans (r_bin rfl rfl rfl (b_eql rfl)) (by rw [hb17]))) ?_
 obtain ⟨b18, hb18⟩ : ∃ b_ : Bool, (b16 || b17) = b_ := ⟨_, rfl⟩
 refine oP 40 (.bool b18) rfl (by rw [← hb18]; cases b16 <;> rfl) <| OA.ps [(41, (.bool b18))] rfl <| oB (!b18) 42 (.int .i64 (((kd d.typ) : Nat) : Int)) (by cases b18 <;> rfl) rfl (fun hb_ => by cases b18 <;> first | exact Bool.noConfusion hb_ | exact rfl) ?_
 obtain ⟨b19, hb19⟩ : ∃ b_ : Bool, (decide ((((kd d.typ) : Nat) : Int) = 20)) = b_ := ⟨_, rfl⟩
 refine oB (!b18) 43 (.bool b19) (by cases b18 <;> rfl) rfl (fun hb_ => by cases b18 <;> first | exact Bool.noConfusion hb_ | exact (Eq.trans (r_bin rfl rfl rfl (b_eql rfl)) (by rw [hb19]))) ?_
 obtain ⟨b20, hb20⟩ : ∃ b_ : Bool, (b18 || b19) = b_ := ⟨_, rfl⟩
 refine oP 44 (.bool b20) rfl (by rw [← hb20]; cases b18 <;> rfl) <| OA.ps [(5, (.bool b20))] rfl <| OA.nil fun _ => RA.sR hd env_ok <| OA.ps [(45, (Pt n 0 2))] rfl <| oL 46 (W d.tsn) get_here ?_
 obtain ⟨b21, hb21⟩ : ∃ b_ : Bool, (decide ((d.tsn.toNat : Int) ≠ 0)) = b_ := ⟨_, rfl⟩
 refine oP 47 (.bool b21) rfl (Eq.trans (r_bin rfl rfl rfl (b_neq rfl)) (by rw [hb21])) <| OA.ps [(48, (.bool b21))] rfl <| oB b21 49 (.bool b10) (by cases b21 <;> rfl) rfl (fun hb_ => by cases b21 <;> first | exact Bool.noConfusion hb_ | exact rfl) ?_
 obtain ⟨b22, hb22⟩ : ∃ b_ : Bool, (!b10) = b_ := ⟨_, rfl⟩
 refine oB b21 50 (.bool b22) (by cases b21 <;> rfl) rfl (fun hb_ => by cases b21 <;> first | exact Bool.noConfusion hb_ | exact (Eq.trans (show _ = some (Value.bool (!b10), _, []) from rfl) (by rw [hb22]))) ?_
 obtain ⟨b23, hb23⟩ : ∃ b_ : Bool, (b21 && b22) = b_ := ⟨_, rfl⟩
 refine oP 51 (.bool b23) rfl (by rw [← hb23]; cases b21 <;> rfl) <| OA.ps [(52, (.bool b23))] rfl <| oB (!b23) 53 (Pt n 0 3) (by cases b23 <;> rfl) rfl (fun hb_ => by cases b23 <;> first | exact Bool.noConfusion hb_ | exact rfl) <| oB (!b23) 54 (.int .i64 d.stream) (by cases b23 <;> rfl) rfl (fun hb_ => by cases b23 <;> first | exact Bool.noConfusion hb_ | exact (rG get_here rfl rfl)) ?_
 obtain ⟨b24, hb24⟩ : ∃ b_ : Bool, (decide (d.stream ≠ 0)) = b_ := ⟨_, rfl⟩
 refine oB (!b23) 55 (.bool b24) (by cases b23 <;> rfl) rfl (fun hb_ => by cases b23 <;> first | exact Bool.noConfusion hb_ | exact (Eq.trans (r_bin rfl rfl rfl (b_neq rfl)) (by rw [hb24]))) <| oB (!b23) 56 (.bool b24) (by cases b23 <;> rfl) rfl (fun hb_ => by cases b23 <;> first | exact Bool.noConfusion hb_ | exact rfl) <| oB ((!b23) && b24) 57 (.int .i64 (((kd d.typ) : Nat) : Int)) (by cases b23 <;> cases b24 <;> rfl) rfl (fun hb_ => by cases b23 <;> cases b24 <;> first | exact Bool.noConfusion hb_ | exact rfl) ?_
 obtain ⟨b25, hb25⟩ : ∃ b_ : Bool, (decide ((((kd d.typ) : Nat) : Int) ≠ 0)) = b_ := ⟨_, rfl⟩
 refine oB ((!b23) && b24) 58 (.bool b25) (by cases b23 <;> cases b24 <;> rfl) rfl (fun hb_ => by cases b23 <;> cases b24 <;> first | exact Bool.noConfusion hb_ | exact (Eq.trans (r_bin rfl rfl rfl (b_neq rfl)) (by rw [hb25]))) ?_
 obtain ⟨b26, hb26⟩ : ∃ b_ : Bool, (b24 && b25) = b_ := ⟨_, rfl⟩
 refine oB (!b23) 59 (.bool b26) (by cases b23 <;> rfl) rfl (fun hb_ => by cases b23 <;> first | exact Bool.noConfusion hb_ | exact (by rw [← hb26]; cases b24 <;> rfl)) <| oB (!b23) 60 (.bool b26) (by cases b23 <;> rfl) rfl (fun hb_ => by cases b23 <;> first | exact Bool.noConfusion hb_ | exact rfl) <| oB ((!b23) && b26) 61 (.int .i64 (((kd d.typ) : Nat) : Int)) (by cases b23 <;> cases b26 <;> rfl) rfl (fun hb_ => by cases b23 <;> cases b26 <;> first | exact Bool.noConfusion hb_ | exact rfl) ?_
 obtain ⟨b27, hb27⟩ : ∃ b_ : Bool, (decide ((((kd d.typ) : Nat) : Int) ≠ 15)) = b_ := ⟨_, rfl⟩
 refine oB ((!b23) && b26) 62 (.bool b27) (by cases b23 <;> cases b26 <;> rfl) rfl (fun hb_ => by cases b23 <;> cases b26 <;> first | exact Bool.noConfusion hb_ | exact (Eq.trans (r_bin rfl rfl rfl (b_neq rfl)) (by rw [hb27]))) ?_
 obtain ⟨b28, hb28⟩ : ∃ b_ : Bool, (b26 && b27) = b_ := ⟨_, rfl⟩
 refine oB (!b23) 63 (.bool b28) (by cases b23 <;> rfl) rfl (fun hb_ => by cases b23 <;> first | exact Bool.noConfusion hb_ | exact (by rw [← hb28]; cases b26 <;> rfl)) ?_
 obtain ⟨b29, hb29⟩ : ∃ b_ : Bool, (b23 || b28) = b_ := ⟨_, rfl⟩
 refine oP 64 (.bool b29) rfl (by rw [← hb29]; cases b23 <;> rfl) <| OA.ps [(65, (.bool b29))] rfl <| oB (!b29) 66 (Pt n 0 4) (by cases b29 <;> rfl) rfl (fun hb_ => by cases b29 <;> first | exact Bool.noConfusion hb_ | exact rfl) <| oB (!b29) 67 (.int .i64 d.ssn) (by cases b29 <;> rfl) rfl (fun hb_ => by cases b29 <;> first | exact Bool.noConfusion hb_ | exact (rG get_here rfl rfl)) ?_
 obtain ⟨b30, hb30⟩ : ∃ b_ : Bool, (decide (d.ssn ≠ 0)) = b_ := ⟨_, rfl⟩
 refine oB (!b29) 68 (.bool b30) (by cases b29 <;> rfl) rfl (fun hb_ => by cases b29 <;> first | exact Bool.noConfusion hb_ | exact (Eq.trans (r_bin rfl rfl rfl (b_neq rfl)) (by rw [hb30]))) <| oB (!b29) 69 (.bool b30) (by cases b29 <;> rfl) rfl (fun hb_ => by cases b29 <;> first | exact Bool.noConfusion hb_ | exact rfl) <| oB ((!b29) && b30) 70 (.int .i64 (((kd d.typ) : Nat) : Int)) (by cases b29 <;> cases b30 <;> rfl) rfl (fun hb_ => by cases b29 <;> cases b30 <;> first | exact Bool.noConfusion hb_ | exact rfl) ?_
 obtain ⟨b31, hb31⟩ : ∃ b_ : Bool, (decide ((((kd d.typ) : Nat) : Int) ≠ 0)) = b_ := ⟨_, rfl⟩
 refine oB ((!b29) && b30) 71 (.bool b31) (by cases b29 <;> cases b30 <;> rfl) rfl (fun hb_ => by cases b29 <;> cases b30 <;> first | exact Bool.noConfusion hb_ | exact (Eq.trans (r_bin rfl rfl rfl (b_neq rfl)) (by rw [hb31]))) ?_
 obtain ⟨b32, hb32⟩ : ∃ b_ : Bool, (b30 && b31) = b_ := ⟨_, rfl⟩
 refine oB (!b29) 72 (.bool b32) (by cases b29 <;> rfl) rfl (fun hb_ => by cases b29 <;> first | exact Bool.noConfusion hb_ | exact (by rw [← hb32]; cases b30 <;> rfl)) <| oB (!b29) 73 (.bool b32) (by cases b29 <;> rfl) rfl (fun hb_ => by cases b29 <;> first | exact Bool.noConfusion hb_ | exact rfl) <| oB ((!b29) && b32) 74 (.int .i64 (((kd d.typ) : Nat) : Int)) (by cases b29 <;> cases b32 <;> rfl) rfl (fun hb_ => by cases b29 <;> cases b32 <;> first | exact Bool.noConfusion hb_ | exact rfl) ?_
 obtain ⟨b33, hb33⟩ : ∃ b_ : Bool, (decide ((((kd d.typ) : Nat) : Int) ≠ 15)) = b_ := ⟨_, rfl⟩
 refine oB ((!b29) && b32) 75 (.bool b33) (by cases b29 <;> cases b32 <;> rfl) rfl (fun hb_ => by cases b29 <;> cases b32 <;> first | exact Bool.noConfusion hb_ | exact (Eq.trans (r_bin rfl rfl rfl (b_neq rfl)) (by rw [hb33]))) ?_
 obtain ⟨b34, hb34⟩ : ∃ b_ : Bool, (b32 && b33) = b_ := ⟨_, rfl⟩
 refine oB (!b29) 76 (.bool b34) (by cases b29 <;> rfl) rfl (fun hb_ => by cases b29 <;> first | exact Bool.noConfusion hb_ | exact (by rw [← hb34]; cases b32 <;> rfl)) ?_
 obtain ⟨b35, hb35⟩ : ∃ b_ : Bool, (b29 || b34) = b_ := ⟨_, rfl⟩
 refine oP 77 (.bool b35) rfl (by rw [← hb35]; cases b29 <;> rfl) <| OA.ps [(78, (.bool b35))] rfl <| oB (!b35) 79 (Pt n 0 5) (by cases b35 <;> rfl) rfl (fun hb_ => by cases b35 <;> first | exact Bool.noConfusion hb_ | exact rfl) <| oB (!b35) 80 (W d.proto) (by cases b35 <;> rfl) rfl (fun hb_ => by cases b35 <;> first | exact Bool.noConfusion hb_ | exact (rG get_here rfl rfl)) ?_
 obtain ⟨b36, hb36⟩ : ∃ b_ : Bool, (decide ((d.proto.toNat : Int) ≠ 0)) = b_ := ⟨_, rfl⟩
 refine oB (!b35) 81 (.bool b36) (by cases b35 <;> rfl) rfl (fun hb_ => by cases b35 <;> first | exact Bool.noConfusion hb_ | exact (Eq.trans (r_bin rfl rfl rfl (b_neq rfl)) (by rw [hb36]))) <| oB (!b35) 82 (.bool b36) (by cases b35 <;> rfl) rfl (fun hb_ => by cases b35 <;> first | exact Bool.noConfusion hb_ | exact rfl) <| oB ((!b35) && b36) 83 (.int .i64 (((kd d.typ) : Nat) : Int)) (by cases b35 <;> cases b36 <;> rfl) rfl (fun hb_ => by cases b35 <;> cases b36 <;> first | exact Bool.noConfusion hb_ | exact rfl) ?_
 obtain ⟨b37, hb37⟩ : ∃ b_ : Bool, (decide ((((kd d.typ) : Nat) : Int) ≠ 0)) = b_ := ⟨_, rfl⟩
 refine oB ((!b35) && b36) 84 (.bool b37) (by cases b35 <;> cases b36 <;> rfl) rfl (fun hb_ => by cases b35 <;> cases b36 <;> first | exact Bool.noConfusion hb_ | exact (Eq.trans (r_bin rfl rfl rfl (b_neq rfl)) (by rw [hb37]))) ?_
 obtain ⟨b38, hb38⟩ : ∃ b_ : Bool, (b36 && b37) = b_ := ⟨_, rfl⟩
 refine oB (!b35) 85 (.bool b38) (by cases b35 <;> rfl) rfl (fun hb_ => by cases b35 <;> first | exact Bool.noConfusion hb_ | exact (by rw [← hb38]; cases b36 <;> rfl)) ?_
 obtain ⟨b39, hb39⟩ : ∃ b_ : Bool, (b35 || b38) = b_ := ⟨_, rfl⟩
 refine oP 86 (.bool b39) rfl (by rw [← hb39]; cases b35 <;> rfl) <| OA.ps [(87, (.bool b39))] rfl <| oB (!b39) 88 (Pt n 0 6) (by cases b39 <;> rfl) rfl (fun hb_ => by cases b39 <;> first | exact Bool.noConfusion hb_ | exact rfl) <| oB (!b39) 89 (.string d.data) (by cases b39 <;> rfl) rfl (fun hb_ => by cases b39 <;> first | exact Bool.noConfusion hb_ | exact (rG get_here rfl rfl)) ?_
 obtain ⟨b40, hb40⟩ : ∃ b_ : Bool, (!(decide (d.data = (ByteArray.mk #[])))) = b_ := ⟨_, rfl⟩
 refine oB (!b39) 90 (.bool b40) (by cases b39 <;> rfl) rfl (fun hb_ => by cases b39 <;> first | exact Bool.noConfusion hb_ | exact (Eq.trans (r_neqS rfl rfl rfl) (by rw [hb40]))) <| oB (!b39) 91 (.bool b40) (by cases b39 <;> rfl) rfl (fun hb_ => by cases b39 <;> first | exact Bool.noConfusion hb_ | exact rfl) <| oB ((!b39) && b40) 92 (.bool b20) (by cases b39 <;> cases b40 <;> rfl) rfl (fun hb_ => by cases b39 <;> cases b40 <;> first | exact Bool.noConfusion hb_ | exact rfl) ?_
 obtain ⟨b41, hb41⟩ : ∃ b_ : Bool, (!b20) = b_ := ⟨_, rfl⟩
 refine oB ((!b39) && b40) 93 (.bool b41) (by cases b39 <;> cases b40 <;> rfl) rfl (fun hb_ => by cases b39 <;> cases b40 <;> first | exact Bool.noConfusion hb_ | exact (Eq.trans (show _ = some (Value.bool (!b20), _, []) from rfl) (by rw [hb41]))) ?_
 obtain ⟨b42, hb42⟩ : ∃ b_ : Bool, (b40 && b41) = b_ := ⟨_, rfl⟩
 refine oB (!b39) 94 (.bool b42) (by cases b39 <;> rfl) rfl (fun hb_ => by cases b39 <;> first | exact Bool.noConfusion hb_ | exact (by rw [← hb42]; cases b40 <;> rfl)) ?_
 obtain ⟨b43, hb43⟩ : ∃ b_ : Bool, (b39 || b42) = b_ := ⟨_, rfl⟩
 refine oP 95 (.bool b43) rfl (by rw [← hb43]; cases b39 <;> rfl) <| OA.ps [(96, (.bool b43))] rfl <| oB (!b43) 97 (Pt n 0 7) (by cases b43 <;> rfl) rfl (fun hb_ => by cases b43 <;> first | exact Bool.noConfusion hb_ | exact rfl) <| oB (!b43) 98 (W d.tag) (by cases b43 <;> rfl) rfl (fun hb_ => by cases b43 <;> first | exact Bool.noConfusion hb_ | exact (rG get_here rfl rfl)) ?_
 obtain ⟨b44, hb44⟩ : ∃ b_ : Bool, (decide ((d.tag.toNat : Int) ≠ 0)) = b_ := ⟨_, rfl⟩
 refine oB (!b43) 99 (.bool b44) (by cases b43 <;> rfl) rfl (fun hb_ => by cases b43 <;> first | exact Bool.noConfusion hb_ | exact (Eq.trans (r_bin rfl rfl rfl (b_neq rfl)) (by rw [hb44]))) <| oB (!b43) 100 (.bool b44) (by cases b43 <;> rfl) rfl (fun hb_ => by cases b43 <;> first | exact Bool.noConfusion hb_ | exact rfl) <| oB ((!b43) && (!b44)) 101 (Pt n 0 9) (by cases b43 <;> cases b44 <;> rfl) rfl (fun hb_ => by cases b43 <;> cases b44 <;> first | exact Bool.noConfusion hb_ | exact rfl) <| oB ((!b43) && (!b44)) 102 (.int .i64 d.outs) (by cases b43 <;> cases b44 <;> rfl) rfl (fun hb_ => by cases b43 <;> cases b44 <;> first | exact Bool.noConfusion hb_ | exact (rG get_here rfl rfl)) ?_
 obtain ⟨b45, hb45⟩ : ∃ b_ : Bool, (decide (d.outs ≠ 0)) = b_ := ⟨_, rfl⟩
 refine oB ((!b43) && (!b44)) 103 (.bool b45) (by cases b43 <;> cases b44 <;> rfl) rfl (fun hb_ => by cases b43 <;> cases b44 <;> first | exact Bool.noConfusion hb_ | exact (Eq.trans (r_bin rfl rfl rfl (b_neq rfl)) (by rw [hb45]))) ?_
 obtain ⟨b46, hb46⟩ : ∃ b_ : Bool, (b44 || b45) = b_ := ⟨_, rfl⟩
 refine oB (!b43) 104 (.bool b46) (by cases b43 <;> rfl) rfl (fun hb_ => by cases b43 <;> first | exact Bool.noConfusion hb_ | exact (by rw [← hb46]; cases b44 <;> rfl)) <| oB (!b43) 105 (.bool b46) (by cases b43 <;> rfl) rfl (fun hb_ => by cases b43 <;> first | exact Bool.noConfusion hb_ | exact rfl) <| oB ((!b43) && (!b46)) 106 (Pt n 0 10) (by cases b43 <;> cases b46 <;> rfl) rfl (fun hb_ => by cases b43 <;> cases b46 <;> first | exact Bool.noConfusion hb_ | exact rfl) <| oB ((!b43) && (!b46)) 107 (.int .i64 d.ins) (by cases b43 <;> cases b46 <;> rfl) rfl (fun hb_ => by cases b43 <;> cases b46 <;> first | exact Bool.noConfusion hb_ | exact (rG get_here rfl rfl)) ?_
 obtain ⟨b47, hb47⟩ : ∃ b_ : Bool, (decide (d.ins ≠ 0)) = b_ := ⟨_, rfl⟩
 refine oB ((!b43) && (!b46)) 108 (.bool b47) (by cases b43 <;> cases b46 <;> rfl) rfl (fun hb_ => by cases b43 <;> cases b46 <;> first | exact Bool.noConfusion hb_ | exact (Eq.trans (r_bin rfl rfl rfl (b_neq rfl)) (by rw [hb47]))) ?_
 obtain ⟨b48, hb48⟩ : ∃ b_ : Bool, (b46 || b47) = b_ := ⟨_, rfl⟩
 refine oB (!b43) 109 (.bool b48) (by cases b43 <;> rfl) rfl (fun hb_ => by cases b43 <;> first | exact Bool.noConfusion hb_ | exact (by rw [← hb48]; cases b46 <;> rfl)) <| oB (!b43) 110 (.bool b48) (by cases b43 <;> rfl) rfl (fun hb_ => by cases b43 <;> first | exact Bool.noConfusion hb_ | exact rfl) <| oB ((!b43) && b48) 111 (.int .i64 (((kd d.typ) : Nat) : Int)) (by cases b43 <;> cases b48 <;> rfl) rfl (fun hb_ => by cases b43 <;> cases b48 <;> first | exact Bool.noConfusion hb_ | exact rfl) ?_
 obtain ⟨b49, hb49⟩ : ∃ b_ : Bool, (decide ((((kd d.typ) : Nat) : Int) ≠ 1)) = b_ := ⟨_, rfl⟩
 refine oB ((!b43) && b48) 112 (.bool b49) (by cases b43 <;> cases b48 <;> rfl) rfl (fun hb_ => by cases b43 <;> cases b48 <;> first | exact Bool.noConfusion hb_ | exact (Eq.trans (r_bin rfl rfl rfl (b_neq rfl)) (by rw [hb49]))) ?_
 obtain ⟨b50, hb50⟩ : ∃ b_ : Bool, (b48 && b49) = b_ := ⟨_, rfl⟩
 refine oB (!b43) 113 (.bool b50) (by cases b43 <;> rfl) rfl (fun hb_ => by cases b43 <;> first | exact Bool.noConfusion hb_ | exact (by rw [← hb50]; cases b48 <;> rfl)) ?_
 obtain ⟨b51, hb51⟩ : ∃ b_ : Bool, (b43 || b50) = b_ := ⟨_, rfl⟩
 refine oP 114 (.bool b51) rfl (by rw [← hb51]; cases b43 <;> rfl) <| OA.ps [(115, (.bool b51))] rfl <| oB (!b51) 116 (Pt n 0 8) (by cases b51 <;> rfl) rfl (fun hb_ => by cases b51 <;> first | exact Bool.noConfusion hb_ | exact rfl) <| oB (!b51) 117 (W d.rwnd) (by cases b51 <;> rfl) rfl (fun hb_ => by cases b51 <;> first | exact Bool.noConfusion hb_ | exact (rG get_here rfl rfl)) ?_
 obtain ⟨b52, hb52⟩ : ∃ b_ : Bool, (decide ((d.rwnd.toNat : Int) ≠ 0)) = b_ := ⟨_, rfl⟩
 refine oB (!b51) 118 (.bool b52) (by cases b51 <;> rfl) rfl (fun hb_ => by cases b51 <;> first | exact Bool.noConfusion hb_ | exact (Eq.trans (r_bin rfl rfl rfl (b_neq rfl)) (by rw [hb52]))) <| oB (!b51) 119 (.bool b52) (by cases b51 <;> rfl) rfl (fun hb_ => by cases b51 <;> first | exact Bool.noConfusion hb_ | exact rfl) <| oB ((!b51) && b52) 120 (.int .i64 (((kd d.typ) : Nat) : Int)) (by cases b51 <;> cases b52 <;> rfl) rfl (fun hb_ => by cases b51 <;> cases b52 <;> first | exact Bool.noConfusion hb_ | exact rfl) ?_
 obtain ⟨b53, hb53⟩ : ∃ b_ : Bool, (decide ((((kd d.typ) : Nat) : Int) ≠ 1)) = b_ := ⟨_, rfl⟩
 refine oB ((!b51) && b52) 121 (.bool b53) (by cases b51 <;> cases b52 <;> rfl) rfl (fun hb_ => by cases b51 <;> cases b52 <;> first | exact Bool.noConfusion hb_ | exact (Eq.trans (r_bin rfl rfl rfl (b_neq rfl)) (by rw [hb53]))) ?_
 obtain ⟨b54, hb54⟩ : ∃ b_ : Bool, (b52 && b53) = b_ := ⟨_, rfl⟩
 refine oB (!b51) 122 (.bool b54) (by cases b51 <;> rfl) rfl (fun hb_ => by cases b51 <;> first | exact Bool.noConfusion hb_ | exact (by rw [← hb54]; cases b52 <;> rfl)) <| oB (!b51) 123 (.bool b54) (by cases b51 <;> rfl) rfl (fun hb_ => by cases b51 <;> first | exact Bool.noConfusion hb_ | exact rfl) <| oB ((!b51) && b54) 124 (.int .i64 (((kd d.typ) : Nat) : Int)) (by cases b51 <;> cases b54 <;> rfl) rfl (fun hb_ => by cases b51 <;> cases b54 <;> first | exact Bool.noConfusion hb_ | exact rfl) ?_
 obtain ⟨b55, hb55⟩ : ∃ b_ : Bool, (decide ((((kd d.typ) : Nat) : Int) ≠ 3)) = b_ := ⟨_, rfl⟩
 refine oB ((!b51) && b54) 125 (.bool b55) (by cases b51 <;> cases b54 <;> rfl) rfl (fun hb_ => by cases b51 <;> cases b54 <;> first | exact Bool.noConfusion hb_ | exact (Eq.trans (r_bin rfl rfl rfl (b_neq rfl)) (by rw [hb55]))) ?_
 obtain ⟨b56, hb56⟩ : ∃ b_ : Bool, (b54 && b55) = b_ := ⟨_, rfl⟩
 refine oB (!b51) 126 (.bool b56) (by cases b51 <;> rfl) rfl (fun hb_ => by cases b51 <;> first | exact Bool.noConfusion hb_ | exact (by rw [← hb56]; cases b54 <;> rfl)) ?_
 obtain ⟨b57, hb57⟩ : ∃ b_ : Bool, (b51 || b56) = b_ := ⟨_, rfl⟩
 refine oP 127 (.bool b57) rfl (by rw [← hb57]; cases b51 <;> rfl) <| OA.ps [(128, (.bool b57))] rfl <| oB (!b57) 129 (Pt n 0 11) (by cases b57 <;> rfl) rfl (fun hb_ => by cases b57 <;> first | exact Bool.noConfusion hb_ | exact rfl) <| oB (!b57) 130 d.pv (by cases b57 <;> rfl) rfl (fun hb_ => by cases b57 <;> first | exact Bool.noConfusion hb_ | exact (rG get_here rfl rfl)) <| oB (!b57) 131 (.int .i64 ((d.ps.length : Nat) : Int)) (by cases b57 <;> rfl) rfl (fun hb_ => by cases b57 <;> first | exact Bool.noConfusion hb_ | exact (r_lenQ (c := cPrm) rfl rfl rfl rfl rfl rfl h.hp rfl)) ?_
 obtain ⟨b58, hb58⟩ : ∃ b_ : Bool, (decide (0 < ((d.ps.length : Nat) : Int))) = b_ := ⟨_, rfl⟩
 refine oB (!b57) 132 (.bool b58) (by cases b57 <;> rfl) rfl (fun hb_ => by cases b57 <;> first | exact Bool.noConfusion hb_ | exact (Eq.trans (r_bin rfl rfl rfl (b_gtr rfl)) (by rw [hb58]))) <| oB (!b57) 133 (.bool b58) (by cases b57 <;> rfl) rfl (fun hb_ => by cases b57 <;> first | exact Bool.noConfusion hb_ | exact rfl) <| oB ((!b57) && b58) 134 (.int .i64 (((kd d.typ) : Nat) : Int)) (by cases b57 <;> cases b58 <;> rfl) rfl (fun hb_ => by cases b57 <;> cases b58 <;> first | exact Bool.noConfusion hb_ | exact rfl) ?_
 obtain ⟨b59, hb59⟩ : ∃ b_ : Bool, (decide ((((kd d.typ) : Nat) : Int) ≠ 1)) = b_ := ⟨_, rfl⟩
 refine oB ((!b57) && b58) 135 (.bool b59) (by cases b57 <;> cases b58 <;> rfl) rfl (fun hb_ => by cases b57 <;> cases b58 <;> first | exact Bool.noConfusion hb_ | exact (Eq.trans (r_bin rfl rfl rfl (b_neq rfl)) (by rw [hb59]))) ?_
 obtain ⟨b60, hb60⟩ : ∃ b_ : Bool, (b58 && b59) = b_ := ⟨_, rfl⟩
 refine oB (!b57) 136 (.bool b60) (by cases b57 <;> rfl) rfl (fun hb_ => by cases b57 <;> first | exact Bool.noConfusion hb_ | exact (by rw [← hb60]; cases b58 <;> rfl)) <| oB (!b57) 137 (.bool b60) (by cases b57 <;> rfl) rfl (fun hb_ => by cases b57 <;> first | exact Bool.noConfusion hb_ | exact rfl) <| oB ((!b57) && b60) 138 (.int .i64 (((kd d.typ) : Nat) : Int)) (by cases b57 <;> cases b60 <;> rfl) rfl (fun hb_ => by cases b57 <;> cases b60 <;> first | exact Bool.noConfusion hb_ | exact rfl) ?_
 obtain ⟨b61, hb61⟩ : ∃ b_ : Bool, (decide ((((kd d.typ) : Nat) : Int) ≠ 16)) = b_ := ⟨_, rfl⟩
 refine oB ((!b57) && b60) 139 (.bool b61) (by cases b57 <;> cases b60 <;> rfl) rfl (fun hb_ => by cases b57 <;> cases b60 <;> first | exact Bool.noConfusion hb_ | exact (Eq.trans (r_bin rfl rfl rfl (b_neq rfl)) (by rw [hb61]))) ?_
 obtain ⟨b62, hb62⟩ : ∃ b_ : Bool, (b60 && b61) = b_ := ⟨_, rfl⟩
 refine oB (!b57) 140 (.bool b62) (by cases b57 <;> rfl) rfl (fun hb_ => by cases b57 <;> first | exact Bool.noConfusion hb_ | exact (by rw [← hb62]; cases b60 <;> rfl)) ?_
 obtain ⟨b63, hb63⟩ : ∃ b_ : Bool, (b57 || b62) = b_ := ⟨_, rfl⟩
 refine oP 141 (.bool b63) rfl (by rw [← hb63]; cases b57 <;> rfl) <| OA.ps [(142, (.bool b63))] rfl <| oB (!b63) 143 (Pt n 0 12) (by cases b63 <;> rfl) rfl (fun hb_ => by cases b63 <;> first | exact Bool.noConfusion hb_ | exact rfl) <| oB (!b63) 144 d.cv (by cases b63 <;> rfl) rfl (fun hb_ => by cases b63 <;> first | exact Bool.noConfusion hb_ | exact (rG get_here rfl rfl)) <| oB (!b63) 145 (.int .i64 ((d.cs.length : Nat) : Int)) (by cases b63 <;> rfl) rfl (fun hb_ => by cases b63 <;> first | exact Bool.noConfusion hb_ | exact (r_lenQ (c := cCau) rfl rfl rfl rfl rfl rfl h.hc rfl)) ?_
 obtain ⟨b64, hb64⟩ : ∃ b_ : Bool, (decide (0 < ((d.cs.length : Nat) : Int))) = b_ := ⟨_, rfl⟩
 refine oB (!b63) 146 (.bool b64) (by cases b63 <;> rfl) rfl (fun hb_ => by cases b63 <;> first | exact Bool.noConfusion hb_ | exact (Eq.trans (r_bin rfl rfl rfl (b_gtr rfl)) (by rw [hb64]))) <| oB (!b63) 147 (.bool b64) (by cases b63 <;> rfl) rfl (fun hb_ => by cases b63 <;> first | exact Bool.noConfusion hb_ | exact rfl) <| oB ((!b63) && b64) 148 (.int .i64 (((kd d.typ) : Nat) : Int)) (by cases b63 <;> cases b64 <;> rfl) rfl (fun hb_ => by cases b63 <;> cases b64 <;> first | exact Bool.noConfusion hb_ | exact rfl) ?_
 obtain ⟨b65, hb65⟩ : ∃ b_ : Bool, (decide ((((kd d.typ) : Nat) : Int) ≠ 6)) = b_ := ⟨_, rfl⟩
 refine oB ((!b63) && b64) 149 (.bool b65) (by cases b63 <;> cases b64 <;> rfl) rfl (fun hb_ => by cases b63 <;> cases b64 <;> first | exact Bool.noConfusion hb_ | exact (Eq.trans (r_bin rfl rfl rfl (b_neq rfl)) (by rw [hb65]))) ?_
 obtain ⟨b66, hb66⟩ : ∃ b_ : Bool, (b64 && b65) = b_ := ⟨_, rfl⟩
 refine oB (!b63) 150 (.bool b66) (by cases b63 <;> rfl) rfl (fun hb_ => by cases b63 <;> first | exact Bool.noConfusion hb_ | exact (by rw [← hb66]; cases b64 <;> rfl)) ?_
 obtain ⟨b67, hb67⟩ : ∃ b_ : Bool, (b63 || b66) = b_ := ⟨_, rfl⟩
 refine oP 151 (.bool b67) rfl (by rw [← hb67]; cases b63 <;> rfl) <| OA.ps [(152, (.bool b67))] rfl <| oB (!b67) 153 (Pt n 0 13) (by cases b67 <;> rfl) rfl (fun hb_ => by cases b67 <;> first | exact Bool.noConfusion hb_ | exact rfl) <| oB (!b67) 154 d.gv (by cases b67 <;> rfl) rfl (fun hb_ => by cases b67 <;> first | exact Bool.noConfusion hb_ | exact (rG get_here rfl rfl)) <| oB (!b67) 155 (.int .i64 ((d.gs.length : Nat) : Int)) (by cases b67 <;> rfl) rfl (fun hb_ => by cases b67 <;> first | exact Bool.noConfusion hb_ | exact (r_lenQ (c := cGp) rfl rfl rfl rfl rfl rfl h.hg rfl)) <| oB (!b67) 156 (Pt n 0 14) (by cases b67 <;> rfl) rfl (fun hb_ => by cases b67 <;> first | exact Bool.noConfusion hb_ | exact rfl) <| oB (!b67) 157 d.dv (by cases b67 <;> rfl) rfl (fun hb_ => by cases b67 <;> first | exact Bool.noConfusion hb_ | exact (rG get_here rfl rfl)) <| oB (!b67) 158 (.int .i64 ((d.ds.length : Nat) : Int)) (by cases b67 <;> rfl) rfl (fun hb_ => by cases b67 <;> first | exact Bool.noConfusion hb_ | exact (r_lenQ (c := cDp) rfl rfl rfl rfl rfl rfl h.hu rfl)) <| oB (!b67) 159 (.int .i64 (((d.gs.length + d.ds.length) : Nat) : Int)) (by cases b67 <;> rfl) rfl (fun hb_ => by cases b67 <;> first | exact Bool.noConfusion hb_ | exact (r_bin rfl rfl rfl (b_add (i64_eq (by omega))))) ?_
 obtain ⟨b68, hb68⟩ : ∃ b_ : Bool, (decide (0 < (((d.gs.length + d.ds.length) : Nat) : Int))) = b_ := ⟨_, rfl⟩
 refine oB (!b67) 160 (.bool b68) (by cases b67 <;> rfl) rfl (fun hb_ => by cases b67 <;> first | exact Bool.noConfusion hb_ | exact (Eq.trans (r_bin rfl rfl rfl (b_gtr rfl)) (by rw [hb68]))) <| oB (!b67) 161 (.bool b68) (by cases b67 <;> rfl) rfl (fun hb_ => by cases b67 <;> first | exact Bool.noConfusion hb_ | exact rfl) <| oB ((!b67) && b68) 162 (.int .i64 (((kd d.typ) : Nat) : Int)) (by cases b67 <;> cases b68 <;> rfl) rfl (fun hb_ => by cases b67 <;> cases b68 <;> first | exact Bool.noConfusion hb_ | exact rfl) ?_
 obtain ⟨b69, hb69⟩ : ∃ b_ : Bool, (decide ((((kd d.typ) : Nat) : Int) ≠ 3)) = b_ := ⟨_, rfl⟩
 refine oB ((!b67) && b68) 163 (.bool b69) (by cases b67 <;> cases b68 <;> rfl) rfl (fun hb_ => by cases b67 <;> cases b68 <;> first | exact Bool.noConfusion hb_ | exact (Eq.trans (r_bin rfl rfl rfl (b_neq rfl)) (by rw [hb69]))) ?_
 obtain ⟨b70, hb70⟩ : ∃ b_ : Bool, (b68 && b69) = b_ := ⟨_, rfl⟩
 refine oB (!b67) 164 (.bool b70) (by cases b67 <;> rfl) rfl (fun hb_ => by cases b67 <;> first | exact Bool.noConfusion hb_ | exact (by rw [← hb70]; cases b68 <;> rfl)) ?_
 obtain ⟨b71, hb71⟩ : ∃ b_ : Bool, (b67 || b70) = b_ := ⟨_, rfl⟩
 refine oP 165 (.bool b71) rfl (by rw [← hb71]; cases b67 <;> rfl) <| OA.ps [(2, (.bool b71))] rfl <| OA.nil fun _ => RA.rb [(0, (.agg ⟨(cChk d)⟩)), (1, (Pt n 0 0)), (2, (.bool b71)), (3, (.int .i64 (((kd d.typ) : Nat) : Int))), (4, (.bool b10)), (5, (.bool b20))] rfl (fun τr72 => ?_)
 refine RA.ret env_ok ?_
 exact lf (.bool b71) (by subst_vars; rfl)
theorem rHas {σ : Store} (d : Chk) (b : Bool) (hb : b = true ↔ (¬ hasntP d)) (h : gd σ d) : PS Try.prog noDen 82 [.agg ⟨cChk d⟩] σ (.bool b) :=
  PS.to (rHas0 d h) (by rw [show hasB d = b from by rw [Bool.eq_iff_iff, has_iff, hb]])
end Go.Proofs.Ytdnkhdkflemkeaa.Vt.Cp
