/- The tables of types and functions, for the abstract machine. -/
import Derived.Test.YtdnkhdkflemkeaaVm2
import Derived.Test.YtdnkhdkflemkeaaProg
namespace Go.Proofs.Ytdnkhdkflemkeaa.Vt
open Go Go.Proofs Go.Proofs.YtdnkhdkflemkeaaV
set_option maxRecDepth 100000
set_option linter.unusedVariables false
def t3 : TI := ⟨.int .i64, .int .i64 0, 1, 8, false⟩
theorem t3_ok : TyOk Try.prog 3 t3 := TyOk.mk' Try.underlying3 (by kernel_rfl) (by kernel_rfl) (.inl rfl)
def t4 : TI := ⟨.bool, .bool false, 1, 1, false⟩
theorem t4_ok : TyOk Try.prog 4 t4 := TyOk.mk' Try.underlying4 (by kernel_rfl) (by kernel_rfl) (.inl rfl)
def t5 : TI := ⟨.int .u8, .int .u8 0, 1, 1, false⟩
theorem t5_ok : TyOk Try.prog 5 t5 := TyOk.mk' Try.underlying5 (by kernel_rfl) (by kernel_rfl) (.inl rfl)
def t9 : TI := ⟨.string, .string ⟨#[]⟩, 1, 16, false⟩
theorem t9_ok : TyOk Try.prog 9 t9 := TyOk.mk' Try.underlying9 (by kernel_rfl) (by kernel_rfl) (.inl rfl)
def t25 : TI := ⟨.slice 5, .slice none 0 0, 1, 24, false⟩
theorem t25_ok : TyOk Try.prog 25 t25 := TyOk.mk' Try.underlying25 (by kernel_rfl) (by kernel_rfl) (.inl rfl)
def t30 : TI := ⟨.array 2 5, .agg #[.int .u8 0, .int .u8 0], 2, 2, false⟩
theorem t30_ok : TyOk Try.prog 30 t30 := TyOk.mk' Try.underlying30 (by kernel_rfl) (by kernel_rfl) (.inl rfl)
def t32 : TI := ⟨.int .u32, .int .u32 0, 1, 4, false⟩
theorem t32_ok : TyOk Try.prog 32 t32 := TyOk.mk' Try.underlying32 (by kernel_rfl) (by kernel_rfl) (.inl rfl)
def t33 : TI := ⟨.int .u32, .int .u32 0, 1, 4, false⟩
theorem t33_ok : TyOk Try.prog 33 t33 := TyOk.mk' Try.underlying33 (by kernel_rfl) (by kernel_rfl) (.inl rfl)
def t34 : TI := ⟨.struct #[{ name := "Made", type := 3, offset := 0, embedded := false, tag := "", pkgPath := "", byteOffset := 0 }, { name := "Mine", type := 32, offset := 1, embedded := false, tag := "", pkgPath := "", byteOffset := 8 }, { name := "Yours", type := 32, offset := 2, embedded := false, tag := "", pkgPath := "", byteOffset := 12 }, { name := "MyTsn", type := 32, offset := 3, embedded := false, tag := "", pkgPath := "", byteOffset := 16 }, { name := "YourTsn", type := 32, offset := 4, embedded := false, tag := "", pkgPath := "", byteOffset := 20 }, { name := "Peer", type := 33, offset := 5, embedded := false, tag := "", pkgPath := "", byteOffset := 24 }, { name := "Local", type := 33, offset := 6, embedded := false, tag := "", pkgPath := "", byteOffset := 28 }, { name := "PeerPort", type := 3, offset := 7, embedded := false, tag := "", pkgPath := "", byteOffset := 32 }, { name := "MyPort", type := 3, offset := 8, embedded := false, tag := "", pkgPath := "", byteOffset := 40 }, { name := "Rwnd", type := 32, offset := 9, embedded := false, tag := "", pkgPath := "", byteOffset := 48 }, { name := "Out", type := 3, offset := 10, embedded := false, tag := "", pkgPath := "", byteOffset := 56 }, { name := "In", type := 3, offset := 11, embedded := false, tag := "", pkgPath := "", byteOffset := 64 }, { name := "TieMine", type := 32, offset := 12, embedded := false, tag := "", pkgPath := "", byteOffset := 72 }, { name := "TieYours", type := 32, offset := 13, embedded := false, tag := "", pkgPath := "", byteOffset := 76 }, { name := "MyRandom", type := 9, offset := 14, embedded := false, tag := "", pkgPath := "", byteOffset := 80 }, { name := "Random", type := 9, offset := 15, embedded := false, tag := "", pkgPath := "", byteOffset := 96 }], .agg #[.int .i64 0, .int .u32 0, .int .u32 0, .int .u32 0, .int .u32 0, .int .u32 0, .int .u32 0, .int .i64 0, .int .i64 0, .int .u32 0, .int .i64 0, .int .i64 0, .int .u32 0, .int .u32 0, .string ⟨#[]⟩, .string ⟨#[]⟩], 16, 112, true⟩
theorem t34_ok : TyOk Try.prog 34 t34 := TyOk.mk' Try.underlying34 (by kernel_rfl) (by kernel_rfl) (.inr ⟨by kernel_rfl, by kernel_rfl⟩)
def t35 : TI := ⟨.struct #[{ name := "Made", type := 3, offset := 0, embedded := false, tag := "", pkgPath := "", byteOffset := 0 }, { name := "Mine", type := 32, offset := 1, embedded := false, tag := "", pkgPath := "", byteOffset := 8 }, { name := "Yours", type := 32, offset := 2, embedded := false, tag := "", pkgPath := "", byteOffset := 12 }, { name := "MyTsn", type := 32, offset := 3, embedded := false, tag := "", pkgPath := "", byteOffset := 16 }, { name := "YourTsn", type := 32, offset := 4, embedded := false, tag := "", pkgPath := "", byteOffset := 20 }, { name := "Peer", type := 33, offset := 5, embedded := false, tag := "", pkgPath := "", byteOffset := 24 }, { name := "Local", type := 33, offset := 6, embedded := false, tag := "", pkgPath := "", byteOffset := 28 }, { name := "PeerPort", type := 3, offset := 7, embedded := false, tag := "", pkgPath := "", byteOffset := 32 }, { name := "MyPort", type := 3, offset := 8, embedded := false, tag := "", pkgPath := "", byteOffset := 40 }, { name := "Rwnd", type := 32, offset := 9, embedded := false, tag := "", pkgPath := "", byteOffset := 48 }, { name := "Out", type := 3, offset := 10, embedded := false, tag := "", pkgPath := "", byteOffset := 56 }, { name := "In", type := 3, offset := 11, embedded := false, tag := "", pkgPath := "", byteOffset := 64 }, { name := "TieMine", type := 32, offset := 12, embedded := false, tag := "", pkgPath := "", byteOffset := 72 }, { name := "TieYours", type := 32, offset := 13, embedded := false, tag := "", pkgPath := "", byteOffset := 76 }, { name := "MyRandom", type := 9, offset := 14, embedded := false, tag := "", pkgPath := "", byteOffset := 80 }, { name := "Random", type := 9, offset := 15, embedded := false, tag := "", pkgPath := "", byteOffset := 96 }], .agg #[.int .i64 0, .int .u32 0, .int .u32 0, .int .u32 0, .int .u32 0, .int .u32 0, .int .u32 0, .int .i64 0, .int .i64 0, .int .u32 0, .int .i64 0, .int .i64 0, .int .u32 0, .int .u32 0, .string ⟨#[]⟩, .string ⟨#[]⟩], 16, 112, true⟩
theorem t35_ok : TyOk Try.prog 35 t35 := TyOk.mk' Try.underlying35 (by kernel_rfl) (by kernel_rfl) (.inr ⟨by kernel_rfl, by kernel_rfl⟩)
def t39 : TI := ⟨.int .i64, .int .i64 0, 1, 8, false⟩
theorem t39_ok : TyOk Try.prog 39 t39 := TyOk.mk' Try.underlying39 (by kernel_rfl) (by kernel_rfl) (.inl rfl)
def t45 : TI := ⟨.slice 54, .slice none 0 0, 1, 24, false⟩
theorem t45_ok : TyOk Try.prog 45 t45 := TyOk.mk' Try.underlying45 (by kernel_rfl) (by kernel_rfl) (.inl rfl)
def t49 : TI := ⟨.slice 96, .slice none 0 0, 1, 24, false⟩
theorem t49_ok : TyOk Try.prog 49 t49 := TyOk.mk' Try.underlying49 (by kernel_rfl) (by kernel_rfl) (.inl rfl)
def t50 : TI := ⟨.slice 98, .slice none 0 0, 1, 24, false⟩
theorem t50_ok : TyOk Try.prog 50 t50 := TyOk.mk' Try.underlying50 (by kernel_rfl) (by kernel_rfl) (.inl rfl)
def t51 : TI := ⟨.slice 101, .slice none 0 0, 1, 24, false⟩
theorem t51_ok : TyOk Try.prog 51 t51 := TyOk.mk' Try.underlying51 (by kernel_rfl) (by kernel_rfl) (.inl rfl)
def t52 : TI := ⟨.slice 32, .slice none 0 0, 1, 24, false⟩
theorem t52_ok : TyOk Try.prog 52 t52 := TyOk.mk' Try.underlying52 (by kernel_rfl) (by kernel_rfl) (.inl rfl)
def t53 : TI := ⟨.struct #[{ name := "Type", type := 3, offset := 0, embedded := false, tag := "", pkgPath := "", byteOffset := 0 }, { name := "Flags", type := 3, offset := 1, embedded := false, tag := "", pkgPath := "", byteOffset := 8 }, { name := "Tsn", type := 32, offset := 2, embedded := false, tag := "", pkgPath := "", byteOffset := 16 }, { name := "Stream", type := 3, offset := 3, embedded := false, tag := "", pkgPath := "", byteOffset := 24 }, { name := "Ssn", type := 3, offset := 4, embedded := false, tag := "", pkgPath := "", byteOffset := 32 }, { name := "Proto", type := 32, offset := 5, embedded := false, tag := "", pkgPath := "", byteOffset := 40 }, { name := "Data", type := 9, offset := 6, embedded := false, tag := "", pkgPath := "", byteOffset := 48 }, { name := "Tag", type := 32, offset := 7, embedded := false, tag := "", pkgPath := "", byteOffset := 64 }, { name := "Rwnd", type := 32, offset := 8, embedded := false, tag := "", pkgPath := "", byteOffset := 68 }, { name := "Out", type := 3, offset := 9, embedded := false, tag := "", pkgPath := "", byteOffset := 72 }, { name := "In", type := 3, offset := 10, embedded := false, tag := "", pkgPath := "", byteOffset := 80 }, { name := "Params", type := 49, offset := 11, embedded := false, tag := "", pkgPath := "", byteOffset := 88 }, { name := "Causes", type := 50, offset := 12, embedded := false, tag := "", pkgPath := "", byteOffset := 112 }, { name := "Gaps", type := 51, offset := 13, embedded := false, tag := "", pkgPath := "", byteOffset := 136 }, { name := "Dups", type := 52, offset := 14, embedded := false, tag := "", pkgPath := "", byteOffset := 160 }], .agg #[.int .i64 0, .int .i64 0, .int .u32 0, .int .i64 0, .int .i64 0, .int .u32 0, .string ⟨#[]⟩, .int .u32 0, .int .u32 0, .int .i64 0, .int .i64 0, .slice none 0 0, .slice none 0 0, .slice none 0 0, .slice none 0 0], 15, 184, false⟩
theorem t53_ok : TyOk Try.prog 53 t53 := TyOk.mk' Try.underlying53 (by kernel_rfl) (by kernel_rfl) (.inl rfl)
def t54 : TI := ⟨.struct #[{ name := "Type", type := 3, offset := 0, embedded := false, tag := "", pkgPath := "", byteOffset := 0 }, { name := "Flags", type := 3, offset := 1, embedded := false, tag := "", pkgPath := "", byteOffset := 8 }, { name := "Tsn", type := 32, offset := 2, embedded := false, tag := "", pkgPath := "", byteOffset := 16 }, { name := "Stream", type := 3, offset := 3, embedded := false, tag := "", pkgPath := "", byteOffset := 24 }, { name := "Ssn", type := 3, offset := 4, embedded := false, tag := "", pkgPath := "", byteOffset := 32 }, { name := "Proto", type := 32, offset := 5, embedded := false, tag := "", pkgPath := "", byteOffset := 40 }, { name := "Data", type := 9, offset := 6, embedded := false, tag := "", pkgPath := "", byteOffset := 48 }, { name := "Tag", type := 32, offset := 7, embedded := false, tag := "", pkgPath := "", byteOffset := 64 }, { name := "Rwnd", type := 32, offset := 8, embedded := false, tag := "", pkgPath := "", byteOffset := 68 }, { name := "Out", type := 3, offset := 9, embedded := false, tag := "", pkgPath := "", byteOffset := 72 }, { name := "In", type := 3, offset := 10, embedded := false, tag := "", pkgPath := "", byteOffset := 80 }, { name := "Params", type := 49, offset := 11, embedded := false, tag := "", pkgPath := "", byteOffset := 88 }, { name := "Causes", type := 50, offset := 12, embedded := false, tag := "", pkgPath := "", byteOffset := 112 }, { name := "Gaps", type := 51, offset := 13, embedded := false, tag := "", pkgPath := "", byteOffset := 136 }, { name := "Dups", type := 52, offset := 14, embedded := false, tag := "", pkgPath := "", byteOffset := 160 }], .agg #[.int .i64 0, .int .i64 0, .int .u32 0, .int .i64 0, .int .i64 0, .int .u32 0, .string ⟨#[]⟩, .int .u32 0, .int .u32 0, .int .i64 0, .int .i64 0, .slice none 0 0, .slice none 0 0, .slice none 0 0, .slice none 0 0], 15, 184, false⟩
theorem t54_ok : TyOk Try.prog 54 t54 := TyOk.mk' Try.underlying54 (by kernel_rfl) (by kernel_rfl) (.inl rfl)
def t57 : TI := ⟨.slice 4, .slice none 0 0, 1, 24, false⟩
theorem t57_ok : TyOk Try.prog 57 t57 := TyOk.mk' Try.underlying57 (by kernel_rfl) (by kernel_rfl) (.inl rfl)
def t59 : TI := ⟨.array 5 32, .agg #[.int .u32 0, .int .u32 0, .int .u32 0, .int .u32 0, .int .u32 0], 5, 20, false⟩
theorem t59_ok : TyOk Try.prog 59 t59 := TyOk.mk' Try.underlying59 (by kernel_rfl) (by kernel_rfl) (.inl rfl)
def t60 : TI := ⟨.array 5 32, .agg #[.int .u32 0, .int .u32 0, .int .u32 0, .int .u32 0, .int .u32 0], 5, 20, false⟩
theorem t60_ok : TyOk Try.prog 60 t60 := TyOk.mk' Try.underlying60 (by kernel_rfl) (by kernel_rfl) (.inl rfl)
def t63 : TI := ⟨.int .u64, .int .u64 0, 1, 8, false⟩
theorem t63_ok : TyOk Try.prog 63 t63 := TyOk.mk' Try.underlying63 (by kernel_rfl) (by kernel_rfl) (.inl rfl)
def t78 : TI := ⟨.int .u64, .int .u64 0, 1, 8, false⟩
theorem t78_ok : TyOk Try.prog 78 t78 := TyOk.mk' Try.underlying78 (by kernel_rfl) (by kernel_rfl) (.inl rfl)
def t79 : TI := ⟨.array 80 32, .agg #[.int .u32 0, .int .u32 0, .int .u32 0, .int .u32 0, .int .u32 0, .int .u32 0, .int .u32 0, .int .u32 0, .int .u32 0, .int .u32 0, .int .u32 0, .int .u32 0, .int .u32 0, .int .u32 0, .int .u32 0, .int .u32 0, .int .u32 0, .int .u32 0, .int .u32 0, .int .u32 0, .int .u32 0, .int .u32 0, .int .u32 0, .int .u32 0, .int .u32 0, .int .u32 0, .int .u32 0, .int .u32 0, .int .u32 0, .int .u32 0, .int .u32 0, .int .u32 0, .int .u32 0, .int .u32 0, .int .u32 0, .int .u32 0, .int .u32 0, .int .u32 0, .int .u32 0, .int .u32 0, .int .u32 0, .int .u32 0, .int .u32 0, .int .u32 0, .int .u32 0, .int .u32 0, .int .u32 0, .int .u32 0, .int .u32 0, .int .u32 0, .int .u32 0, .int .u32 0, .int .u32 0, .int .u32 0, .int .u32 0, .int .u32 0, .int .u32 0, .int .u32 0, .int .u32 0, .int .u32 0, .int .u32 0, .int .u32 0, .int .u32 0, .int .u32 0, .int .u32 0, .int .u32 0, .int .u32 0, .int .u32 0, .int .u32 0, .int .u32 0, .int .u32 0, .int .u32 0, .int .u32 0, .int .u32 0, .int .u32 0, .int .u32 0, .int .u32 0, .int .u32 0, .int .u32 0, .int .u32 0], 80, 320, false⟩
theorem t79_ok : TyOk Try.prog 79 t79 := TyOk.mk' Try.underlying79 (by kernel_rfl) (by kernel_rfl) (.inl rfl)
def t84 : TI := ⟨.struct #[{ name := "S", type := 9, offset := 0, embedded := false, tag := "", pkgPath := "", byteOffset := 0 }, { name := "Err", type := 3, offset := 1, embedded := false, tag := "", pkgPath := "", byteOffset := 16 }], .agg #[.string ⟨#[]⟩, .int .i64 0], 2, 24, false⟩
theorem t84_ok : TyOk Try.prog 84 t84 := TyOk.mk' Try.underlying84 (by kernel_rfl) (by kernel_rfl) (.inl rfl)
def t85 : TI := ⟨.struct #[{ name := "S", type := 9, offset := 0, embedded := false, tag := "", pkgPath := "", byteOffset := 0 }, { name := "Err", type := 3, offset := 1, embedded := false, tag := "", pkgPath := "", byteOffset := 16 }], .agg #[.string ⟨#[]⟩, .int .i64 0], 2, 24, false⟩
theorem t85_ok : TyOk Try.prog 85 t85 := TyOk.mk' Try.underlying85 (by kernel_rfl) (by kernel_rfl) (.inl rfl)
def t89 : TI := ⟨.pointer 106, .pointer none, 1, 8, false⟩
theorem t89_ok : TyOk Try.prog 89 t89 := TyOk.mk' Try.underlying89 (by kernel_rfl) (by kernel_rfl) (.inl rfl)
def t95 : TI := ⟨.struct #[{ name := "Type", type := 3, offset := 0, embedded := false, tag := "", pkgPath := "", byteOffset := 0 }, { name := "Value", type := 9, offset := 1, embedded := false, tag := "", pkgPath := "", byteOffset := 8 }], .agg #[.int .i64 0, .string ⟨#[]⟩], 2, 24, true⟩
theorem t95_ok : TyOk Try.prog 95 t95 := TyOk.mk' Try.underlying95 (by kernel_rfl) (by kernel_rfl) (.inr ⟨by kernel_rfl, by kernel_rfl⟩)
def t96 : TI := ⟨.struct #[{ name := "Type", type := 3, offset := 0, embedded := false, tag := "", pkgPath := "", byteOffset := 0 }, { name := "Value", type := 9, offset := 1, embedded := false, tag := "", pkgPath := "", byteOffset := 8 }], .agg #[.int .i64 0, .string ⟨#[]⟩], 2, 24, true⟩
theorem t96_ok : TyOk Try.prog 96 t96 := TyOk.mk' Try.underlying96 (by kernel_rfl) (by kernel_rfl) (.inr ⟨by kernel_rfl, by kernel_rfl⟩)
def t97 : TI := ⟨.struct #[{ name := "Code", type := 3, offset := 0, embedded := false, tag := "", pkgPath := "", byteOffset := 0 }, { name := "Info", type := 9, offset := 1, embedded := false, tag := "", pkgPath := "", byteOffset := 8 }], .agg #[.int .i64 0, .string ⟨#[]⟩], 2, 24, true⟩
theorem t97_ok : TyOk Try.prog 97 t97 := TyOk.mk' Try.underlying97 (by kernel_rfl) (by kernel_rfl) (.inr ⟨by kernel_rfl, by kernel_rfl⟩)
def t98 : TI := ⟨.struct #[{ name := "Code", type := 3, offset := 0, embedded := false, tag := "", pkgPath := "", byteOffset := 0 }, { name := "Info", type := 9, offset := 1, embedded := false, tag := "", pkgPath := "", byteOffset := 8 }], .agg #[.int .i64 0, .string ⟨#[]⟩], 2, 24, true⟩
theorem t98_ok : TyOk Try.prog 98 t98 := TyOk.mk' Try.underlying98 (by kernel_rfl) (by kernel_rfl) (.inr ⟨by kernel_rfl, by kernel_rfl⟩)
def t100 : TI := ⟨.struct #[{ name := "From", type := 3, offset := 0, embedded := false, tag := "", pkgPath := "", byteOffset := 0 }, { name := "To", type := 3, offset := 1, embedded := false, tag := "", pkgPath := "", byteOffset := 8 }], .agg #[.int .i64 0, .int .i64 0], 2, 16, true⟩
theorem t100_ok : TyOk Try.prog 100 t100 := TyOk.mk' Try.underlying100 (by kernel_rfl) (by kernel_rfl) (.inr ⟨by kernel_rfl, by kernel_rfl⟩)
def t101 : TI := ⟨.struct #[{ name := "From", type := 3, offset := 0, embedded := false, tag := "", pkgPath := "", byteOffset := 0 }, { name := "To", type := 3, offset := 1, embedded := false, tag := "", pkgPath := "", byteOffset := 8 }], .agg #[.int .i64 0, .int .i64 0], 2, 16, true⟩
theorem t101_ok : TyOk Try.prog 101 t101 := TyOk.mk' Try.underlying101 (by kernel_rfl) (by kernel_rfl) (.inr ⟨by kernel_rfl, by kernel_rfl⟩)
def t105 : TI := ⟨.struct #[{ name := "s", type := 9, offset := 0, embedded := false, tag := "", pkgPath := "crossway/octet", byteOffset := 0 }, { name := "err", type := 39, offset := 1, embedded := false, tag := "", pkgPath := "crossway/octet", byteOffset := 16 }], .agg #[.string ⟨#[]⟩, .int .i64 0], 2, 24, false⟩
theorem t105_ok : TyOk Try.prog 105 t105 := TyOk.mk' Try.underlying105 (by kernel_rfl) (by kernel_rfl) (.inl rfl)
def t106 : TI := ⟨.struct #[{ name := "s", type := 9, offset := 0, embedded := false, tag := "", pkgPath := "crossway/octet", byteOffset := 0 }, { name := "err", type := 39, offset := 1, embedded := false, tag := "", pkgPath := "crossway/octet", byteOffset := 16 }], .agg #[.string ⟨#[]⟩, .int .i64 0], 2, 24, false⟩
theorem t106_ok : TyOk Try.prog 106 t106 := TyOk.mk' Try.underlying106 (by kernel_rfl) (by kernel_rfl) (.inl rfl)
def t111 : TI := ⟨.slice 115, .slice none 0 0, 1, 24, false⟩
theorem t111_ok : TyOk Try.prog 111 t111 := TyOk.mk' Try.underlying111 (by kernel_rfl) (by kernel_rfl) (.inl rfl)
def t115 : TI := ⟨.struct #[{ name := "Type", type := 3, offset := 0, embedded := false, tag := "", pkgPath := "", byteOffset := 0 }, { name := "Value", type := 9, offset := 1, embedded := false, tag := "", pkgPath := "", byteOffset := 8 }], .agg #[.int .i64 0, .string ⟨#[]⟩], 2, 24, false⟩
theorem t115_ok : TyOk Try.prog 115 t115 := TyOk.mk' Try.underlying115 (by kernel_rfl) (by kernel_rfl) (.inl rfl)
theorem f3_ok : FnOk Try.prog 3 Try.f3 := ⟨Try.func3, by kernel_rfl⟩
theorem f4_ok : FnOk Try.prog 4 Try.f4 := ⟨Try.func4, by kernel_rfl⟩
theorem f5_ok : FnOk Try.prog 5 Try.f5 := ⟨Try.func5, by kernel_rfl⟩
theorem f6_ok : FnOk Try.prog 6 Try.f6 := ⟨Try.func6, by kernel_rfl⟩
theorem f7_ok : FnOk Try.prog 7 Try.f7 := ⟨Try.func7, by kernel_rfl⟩
theorem f8_ok : FnOk Try.prog 8 Try.f8 := ⟨Try.func8, by kernel_rfl⟩
theorem f9_ok : FnOk Try.prog 9 Try.f9 := ⟨Try.func9, by kernel_rfl⟩
theorem f10_ok : FnOk Try.prog 10 Try.f10 := ⟨Try.func10, by kernel_rfl⟩
theorem f11_ok : FnOk Try.prog 11 Try.f11 := ⟨Try.func11, by kernel_rfl⟩
theorem f12_ok : FnOk Try.prog 12 Try.f12 := ⟨Try.func12, by kernel_rfl⟩
theorem f13_ok : FnOk Try.prog 13 Try.f13 := ⟨Try.func13, by kernel_rfl⟩
theorem f14_ok : FnOk Try.prog 14 Try.f14 := ⟨Try.func14, by kernel_rfl⟩
theorem f15_ok : FnOk Try.prog 15 Try.f15 := ⟨Try.func15, by kernel_rfl⟩
theorem f16_ok : FnOk Try.prog 16 Try.f16 := ⟨Try.func16, by kernel_rfl⟩
theorem f17_ok : FnOk Try.prog 17 Try.f17 := ⟨Try.func17, by kernel_rfl⟩
theorem f18_ok : FnOk Try.prog 18 Try.f18 := ⟨Try.func18, by kernel_rfl⟩
theorem f19_ok : FnOk Try.prog 19 Try.f19 := ⟨Try.func19, by kernel_rfl⟩
theorem f20_ok : FnOk Try.prog 20 Try.f20 := ⟨Try.func20, by kernel_rfl⟩
theorem f21_ok : FnOk Try.prog 21 Try.f21 := ⟨Try.func21, by kernel_rfl⟩
theorem f22_ok : FnOk Try.prog 22 Try.f22 := ⟨Try.func22, by kernel_rfl⟩
theorem f23_ok : FnOk Try.prog 23 Try.f23 := ⟨Try.func23, by kernel_rfl⟩
theorem f24_ok : FnOk Try.prog 24 Try.f24 := ⟨Try.func24, by kernel_rfl⟩
theorem f25_ok : FnOk Try.prog 25 Try.f25 := ⟨Try.func25, by kernel_rfl⟩
theorem f26_ok : FnOk Try.prog 26 Try.f26 := ⟨Try.func26, by kernel_rfl⟩
theorem f27_ok : FnOk Try.prog 27 Try.f27 := ⟨Try.func27, by kernel_rfl⟩
theorem f28_ok : FnOk Try.prog 28 Try.f28 := ⟨Try.func28, by kernel_rfl⟩
theorem f29_ok : FnOk Try.prog 29 Try.f29 := ⟨Try.func29, by kernel_rfl⟩
theorem f30_ok : FnOk Try.prog 30 Try.f30 := ⟨Try.func30, by kernel_rfl⟩
theorem f31_ok : FnOk Try.prog 31 Try.f31 := ⟨Try.func31, by kernel_rfl⟩
theorem f32_ok : FnOk Try.prog 32 Try.f32 := ⟨Try.func32, by kernel_rfl⟩
theorem f33_ok : FnOk Try.prog 33 Try.f33 := ⟨Try.func33, by kernel_rfl⟩
theorem f34_ok : FnOk Try.prog 34 Try.f34 := ⟨Try.func34, by kernel_rfl⟩
theorem f35_ok : FnOk Try.prog 35 Try.f35 := ⟨Try.func35, by kernel_rfl⟩
theorem f36_ok : FnOk Try.prog 36 Try.f36 := ⟨Try.func36, by kernel_rfl⟩
theorem f37_ok : FnOk Try.prog 37 Try.f37 := ⟨Try.func37, by kernel_rfl⟩
theorem f38_ok : FnOk Try.prog 38 Try.f38 := ⟨Try.func38, by kernel_rfl⟩
theorem f39_ok : FnOk Try.prog 39 Try.f39 := ⟨Try.func39, by kernel_rfl⟩
theorem f40_ok : FnOk Try.prog 40 Try.f40 := ⟨Try.func40, by kernel_rfl⟩
theorem f41_ok : FnOk Try.prog 41 Try.f41 := ⟨Try.func41, by kernel_rfl⟩
theorem f42_ok : FnOk Try.prog 42 Try.f42 := ⟨Try.func42, by kernel_rfl⟩
theorem f43_ok : FnOk Try.prog 43 Try.f43 := ⟨Try.func43, by kernel_rfl⟩
theorem f44_ok : FnOk Try.prog 44 Try.f44 := ⟨Try.func44, by kernel_rfl⟩
theorem f45_ok : FnOk Try.prog 45 Try.f45 := ⟨Try.func45, by kernel_rfl⟩
theorem f46_ok : FnOk Try.prog 46 Try.f46 := ⟨Try.func46, by kernel_rfl⟩
theorem f47_ok : FnOk Try.prog 47 Try.f47 := ⟨Try.func47, by kernel_rfl⟩
theorem f48_ok : FnOk Try.prog 48 Try.f48 := ⟨Try.func48, by kernel_rfl⟩
theorem f49_ok : FnOk Try.prog 49 Try.f49 := ⟨Try.func49, by kernel_rfl⟩
theorem f50_ok : FnOk Try.prog 50 Try.f50 := ⟨Try.func50, by kernel_rfl⟩
theorem f51_ok : FnOk Try.prog 51 Try.f51 := ⟨Try.func51, by kernel_rfl⟩
theorem f52_ok : FnOk Try.prog 52 Try.f52 := ⟨Try.func52, by kernel_rfl⟩
theorem f53_ok : FnOk Try.prog 53 Try.f53 := ⟨Try.func53, by kernel_rfl⟩
theorem f54_ok : FnOk Try.prog 54 Try.f54 := ⟨Try.func54, by kernel_rfl⟩
theorem f55_ok : FnOk Try.prog 55 Try.f55 := ⟨Try.func55, by kernel_rfl⟩
theorem f56_ok : FnOk Try.prog 56 Try.f56 := ⟨Try.func56, by kernel_rfl⟩
theorem f57_ok : FnOk Try.prog 57 Try.f57 := ⟨Try.func57, by kernel_rfl⟩
theorem f58_ok : FnOk Try.prog 58 Try.f58 := ⟨Try.func58, by kernel_rfl⟩
theorem f59_ok : FnOk Try.prog 59 Try.f59 := ⟨Try.func59, by kernel_rfl⟩
theorem f60_ok : FnOk Try.prog 60 Try.f60 := ⟨Try.func60, by kernel_rfl⟩
theorem f61_ok : FnOk Try.prog 61 Try.f61 := ⟨Try.func61, by kernel_rfl⟩
theorem f62_ok : FnOk Try.prog 62 Try.f62 := ⟨Try.func62, by kernel_rfl⟩
theorem f63_ok : FnOk Try.prog 63 Try.f63 := ⟨Try.func63, by kernel_rfl⟩
theorem f64_ok : FnOk Try.prog 64 Try.f64 := ⟨Try.func64, by kernel_rfl⟩
theorem f65_ok : FnOk Try.prog 65 Try.f65 := ⟨Try.func65, by kernel_rfl⟩
theorem f66_ok : FnOk Try.prog 66 Try.f66 := ⟨Try.func66, by kernel_rfl⟩
theorem f67_ok : FnOk Try.prog 67 Try.f67 := ⟨Try.func67, by kernel_rfl⟩
theorem f68_ok : FnOk Try.prog 68 Try.f68 := ⟨Try.func68, by kernel_rfl⟩
theorem f69_ok : FnOk Try.prog 69 Try.f69 := ⟨Try.func69, by kernel_rfl⟩
theorem f70_ok : FnOk Try.prog 70 Try.f70 := ⟨Try.func70, by kernel_rfl⟩
theorem f71_ok : FnOk Try.prog 71 Try.f71 := ⟨Try.func71, by kernel_rfl⟩
theorem f72_ok : FnOk Try.prog 72 Try.f72 := ⟨Try.func72, by kernel_rfl⟩
theorem f73_ok : FnOk Try.prog 73 Try.f73 := ⟨Try.func73, by kernel_rfl⟩
theorem f74_ok : FnOk Try.prog 74 Try.f74 := ⟨Try.func74, by kernel_rfl⟩
theorem f75_ok : FnOk Try.prog 75 Try.f75 := ⟨Try.func75, by kernel_rfl⟩
theorem f76_ok : FnOk Try.prog 76 Try.f76 := ⟨Try.func76, by kernel_rfl⟩
theorem f77_ok : FnOk Try.prog 77 Try.f77 := ⟨Try.func77, by kernel_rfl⟩
theorem f78_ok : FnOk Try.prog 78 Try.f78 := ⟨Try.func78, by kernel_rfl⟩
theorem f79_ok : FnOk Try.prog 79 Try.f79 := ⟨Try.func79, by kernel_rfl⟩
theorem f80_ok : FnOk Try.prog 80 Try.f80 := ⟨Try.func80, by kernel_rfl⟩
theorem f81_ok : FnOk Try.prog 81 Try.f81 := ⟨Try.func81, by kernel_rfl⟩
theorem f82_ok : FnOk Try.prog 82 Try.f82 := ⟨Try.func82, by kernel_rfl⟩
theorem f83_ok : FnOk Try.prog 83 Try.f83 := ⟨Try.func83, by kernel_rfl⟩
theorem f84_ok : FnOk Try.prog 84 Try.f84 := ⟨Try.func84, by kernel_rfl⟩
theorem f85_ok : FnOk Try.prog 85 Try.f85 := ⟨Try.func85, by kernel_rfl⟩
theorem f86_ok : FnOk Try.prog 86 Try.f86 := ⟨Try.func86, by kernel_rfl⟩
theorem f87_ok : FnOk Try.prog 87 Try.f87 := ⟨Try.func87, by kernel_rfl⟩
theorem f88_ok : FnOk Try.prog 88 Try.f88 := ⟨Try.func88, by kernel_rfl⟩
theorem f89_ok : FnOk Try.prog 89 Try.f89 := ⟨Try.func89, by kernel_rfl⟩
theorem f90_ok : FnOk Try.prog 90 Try.f90 := ⟨Try.func90, by kernel_rfl⟩
theorem f91_ok : FnOk Try.prog 91 Try.f91 := ⟨Try.func91, by kernel_rfl⟩
theorem f92_ok : FnOk Try.prog 92 Try.f92 := ⟨Try.func92, by kernel_rfl⟩
theorem f93_ok : FnOk Try.prog 93 Try.f93 := ⟨Try.func93, by kernel_rfl⟩
theorem f94_ok : FnOk Try.prog 94 Try.f94 := ⟨Try.func94, by kernel_rfl⟩
theorem f95_ok : FnOk Try.prog 95 Try.f95 := ⟨Try.func95, by kernel_rfl⟩
theorem f96_ok : FnOk Try.prog 96 Try.f96 := ⟨Try.func96, by kernel_rfl⟩
theorem f97_ok : FnOk Try.prog 97 Try.f97 := ⟨Try.func97, by kernel_rfl⟩
theorem f98_ok : FnOk Try.prog 98 Try.f98 := ⟨Try.func98, by kernel_rfl⟩
theorem f99_ok : FnOk Try.prog 99 Try.f99 := ⟨Try.func99, by kernel_rfl⟩
theorem f100_ok : FnOk Try.prog 100 Try.f100 := ⟨Try.func100, by kernel_rfl⟩
theorem f101_ok : FnOk Try.prog 101 Try.f101 := ⟨Try.func101, by kernel_rfl⟩
theorem f102_ok : FnOk Try.prog 102 Try.f102 := ⟨Try.func102, by kernel_rfl⟩
theorem f103_ok : FnOk Try.prog 103 Try.f103 := ⟨Try.func103, by kernel_rfl⟩
theorem f104_ok : FnOk Try.prog 104 Try.f104 := ⟨Try.func104, by kernel_rfl⟩
theorem f105_ok : FnOk Try.prog 105 Try.f105 := ⟨Try.func105, by kernel_rfl⟩
theorem f106_ok : FnOk Try.prog 106 Try.f106 := ⟨Try.func106, by kernel_rfl⟩
def g9 : Gd := Gd.str
theorem o9 {N : Nat} {w0 w : World} (hN : N = w.heap.size) : Opn Try.prog N w0 w 9 g9 := Opn.str Try.underlying9
def g3 : Gd := Gd.int .i64
theorem o3 {N : Nat} {w0 w : World} (hN : N = w.heap.size) : Opn Try.prog N w0 w 3 g3 := Opn.int Try.underlying3
def g5 : Gd := Gd.int .u8
theorem o5 {N : Nat} {w0 w : World} (hN : N = w.heap.size) : Opn Try.prog N w0 w 5 g5 := Opn.int Try.underlying5
def g30 : Gd := Gd.agg [g5, g5]
theorem o30 {N : Nat} {w0 w : World} (hN : N = w.heap.size) : Opn Try.prog N w0 w 30 g30 := Opn.array Try.underlying30 (by kernel_rfl) (show OpnAll Try.prog N w0 w [(5, 0), (5, 1)] [g5, g5] from ⟨o5 hN, o5 hN, trivial⟩)
def g32 : Gd := Gd.int .u32
theorem o32 {N : Nat} {w0 w : World} (hN : N = w.heap.size) : Opn Try.prog N w0 w 32 g32 := Opn.int Try.underlying32
def g33 : Gd := Gd.int .u32
theorem o33 {N : Nat} {w0 w : World} (hN : N = w.heap.size) : Opn Try.prog N w0 w 33 g33 := Opn.int Try.underlying33
def g35 : Gd := Gd.agg [g3, g32, g32, g32, g32, g33, g33, g3, g3, g32, g3, g3, g32, g32, g9, g9]
theorem o35 {N : Nat} {w0 w : World} (hN : N = w.heap.size) : Opn Try.prog N w0 w 35 g35 := Opn.struct Try.underlying35 (by kernel_rfl) (show OpnAll Try.prog N w0 w [(3, 0), (32, 1), (32, 2), (32, 3), (32, 4), (33, 5), (33, 6), (3, 7), (3, 8), (32, 9), (3, 10), (3, 11), (32, 12), (32, 13), (9, 14), (9, 15)] [g3, g32, g32, g32, g32, g33, g33, g3, g3, g32, g3, g3, g32, g32, g9, g9] from ⟨o3 hN, o32 hN, o32 hN, o32 hN, o32 hN, o33 hN, o33 hN, o3 hN, o3 hN, o32 hN, o3 hN, o3 hN, o32 hN, o32 hN, o9 hN, o9 hN, trivial⟩)
def g4 : Gd := Gd.bool
theorem o4 {N : Nat} {w0 w : World} (hN : N = w.heap.size) : Opn Try.prog N w0 w 4 g4 := Opn.bool Try.underlying4
def g96 : Gd := Gd.agg [g3, g9]
theorem o96 {N : Nat} {w0 w : World} (hN : N = w.heap.size) : Opn Try.prog N w0 w 96 g96 := Opn.struct Try.underlying96 (by kernel_rfl) (show OpnAll Try.prog N w0 w [(3, 0), (9, 1)] [g3, g9] from ⟨o3 hN, o9 hN, trivial⟩)
def g49 : Gd := Gd.row 96 2 g96
theorem o49 {N : Nat} {w0 w : World} (hN : N = w.heap.size) : Opn Try.prog N w0 w 49 g49 := Opn.slice Try.underlying49 (by kernel_rfl) (by decide) (o96 hN) hN
def g98 : Gd := Gd.agg [g3, g9]
theorem o98 {N : Nat} {w0 w : World} (hN : N = w.heap.size) : Opn Try.prog N w0 w 98 g98 := Opn.struct Try.underlying98 (by kernel_rfl) (show OpnAll Try.prog N w0 w [(3, 0), (9, 1)] [g3, g9] from ⟨o3 hN, o9 hN, trivial⟩)
def g50 : Gd := Gd.row 98 2 g98
theorem o50 {N : Nat} {w0 w : World} (hN : N = w.heap.size) : Opn Try.prog N w0 w 50 g50 := Opn.slice Try.underlying50 (by kernel_rfl) (by decide) (o98 hN) hN
def g101 : Gd := Gd.agg [g3, g3]
theorem o101 {N : Nat} {w0 w : World} (hN : N = w.heap.size) : Opn Try.prog N w0 w 101 g101 := Opn.struct Try.underlying101 (by kernel_rfl) (show OpnAll Try.prog N w0 w [(3, 0), (3, 1)] [g3, g3] from ⟨o3 hN, o3 hN, trivial⟩)
def g51 : Gd := Gd.row 101 2 g101
theorem o51 {N : Nat} {w0 w : World} (hN : N = w.heap.size) : Opn Try.prog N w0 w 51 g51 := Opn.slice Try.underlying51 (by kernel_rfl) (by decide) (o101 hN) hN
def g52 : Gd := Gd.row 32 1 g32
theorem o52 {N : Nat} {w0 w : World} (hN : N = w.heap.size) : Opn Try.prog N w0 w 52 g52 := Opn.slice Try.underlying52 (by kernel_rfl) (by decide) (o32 hN) hN
def g54 : Gd := Gd.agg [g3, g3, g32, g3, g3, g32, g9, g32, g32, g3, g3, g49, g50, g51, g52]
theorem o54 {N : Nat} {w0 w : World} (hN : N = w.heap.size) : Opn Try.prog N w0 w 54 g54 := Opn.struct Try.underlying54 (by kernel_rfl) (show OpnAll Try.prog N w0 w [(3, 0), (3, 1), (32, 2), (3, 3), (3, 4), (32, 5), (9, 6), (32, 7), (32, 8), (3, 9), (3, 10), (49, 11), (50, 12), (51, 13), (52, 14)] [g3, g3, g32, g3, g3, g32, g9, g32, g32, g3, g3, g49, g50, g51, g52] from ⟨o3 hN, o3 hN, o32 hN, o3 hN, o3 hN, o32 hN, o9 hN, o32 hN, o32 hN, o3 hN, o3 hN, o49 hN, o50 hN, o51 hN, o52 hN, trivial⟩)
def g45 : Gd := Gd.row 54 15 g54
theorem o45 {N : Nat} {w0 w : World} (hN : N = w.heap.size) : Opn Try.prog N w0 w 45 g45 := Opn.slice Try.underlying45 (by kernel_rfl) (by decide) (o54 hN) hN
def g57 : Gd := Gd.row 4 1 g4
theorem o57 {N : Nat} {w0 w : World} (hN : N = w.heap.size) : Opn Try.prog N w0 w 57 g57 := Opn.slice Try.underlying57 (by kernel_rfl) (by decide) (o4 hN) hN
noncomputable def tys : Tr TI := (.node 57 t57 (.node 35 t35 (.node 25 t25 (.node 5 t5 (.node 4 t4 (.node 3 t3 .leaf .leaf) .leaf) (.node 9 t9 .leaf .leaf)) (.node 33 t33 (.node 32 t32 (.node 30 t30 .leaf .leaf) .leaf) (.node 34 t34 .leaf .leaf))) (.node 51 t51 (.node 49 t49 (.node 45 t45 (.node 39 t39 .leaf .leaf) .leaf) (.node 50 t50 .leaf .leaf)) (.node 53 t53 (.node 52 t52 .leaf .leaf) (.node 54 t54 .leaf .leaf)))) (.node 96 t96 (.node 79 t79 (.node 63 t63 (.node 60 t60 (.node 59 t59 .leaf .leaf) .leaf) (.node 78 t78 .leaf .leaf)) (.node 89 t89 (.node 85 t85 (.node 84 t84 .leaf .leaf) .leaf) (.node 95 t95 .leaf .leaf))) (.node 105 t105 (.node 100 t100 (.node 98 t98 (.node 97 t97 .leaf .leaf) .leaf) (.node 101 t101 .leaf .leaf)) (.node 111 t111 (.node 106 t106 .leaf .leaf) (.node 115 t115 .leaf .leaf)))))
noncomputable def fns : Tr Func := (.node 55 Try.f55 (.node 29 Try.f29 (.node 16 Try.f16 (.node 9 Try.f9 (.node 6 Try.f6 (.node 4 Try.f4 (.node 3 Try.f3 .leaf .leaf) (.node 5 Try.f5 .leaf .leaf)) (.node 8 Try.f8 (.node 7 Try.f7 .leaf .leaf) .leaf)) (.node 13 Try.f13 (.node 11 Try.f11 (.node 10 Try.f10 .leaf .leaf) (.node 12 Try.f12 .leaf .leaf)) (.node 15 Try.f15 (.node 14 Try.f14 .leaf .leaf) .leaf))) (.node 23 Try.f23 (.node 20 Try.f20 (.node 18 Try.f18 (.node 17 Try.f17 .leaf .leaf) (.node 19 Try.f19 .leaf .leaf)) (.node 22 Try.f22 (.node 21 Try.f21 .leaf .leaf) .leaf)) (.node 26 Try.f26 (.node 25 Try.f25 (.node 24 Try.f24 .leaf .leaf) .leaf) (.node 28 Try.f28 (.node 27 Try.f27 .leaf .leaf) .leaf)))) (.node 42 Try.f42 (.node 36 Try.f36 (.node 33 Try.f33 (.node 31 Try.f31 (.node 30 Try.f30 .leaf .leaf) (.node 32 Try.f32 .leaf .leaf)) (.node 35 Try.f35 (.node 34 Try.f34 .leaf .leaf) .leaf)) (.node 39 Try.f39 (.node 38 Try.f38 (.node 37 Try.f37 .leaf .leaf) .leaf) (.node 41 Try.f41 (.node 40 Try.f40 .leaf .leaf) .leaf))) (.node 49 Try.f49 (.node 46 Try.f46 (.node 44 Try.f44 (.node 43 Try.f43 .leaf .leaf) (.node 45 Try.f45 .leaf .leaf)) (.node 48 Try.f48 (.node 47 Try.f47 .leaf .leaf) .leaf)) (.node 52 Try.f52 (.node 51 Try.f51 (.node 50 Try.f50 .leaf .leaf) .leaf) (.node 54 Try.f54 (.node 53 Try.f53 .leaf .leaf) .leaf))))) (.node 81 Try.f81 (.node 68 Try.f68 (.node 62 Try.f62 (.node 59 Try.f59 (.node 57 Try.f57 (.node 56 Try.f56 .leaf .leaf) (.node 58 Try.f58 .leaf .leaf)) (.node 61 Try.f61 (.node 60 Try.f60 .leaf .leaf) .leaf)) (.node 65 Try.f65 (.node 64 Try.f64 (.node 63 Try.f63 .leaf .leaf) .leaf) (.node 67 Try.f67 (.node 66 Try.f66 .leaf .leaf) .leaf))) (.node 75 Try.f75 (.node 72 Try.f72 (.node 70 Try.f70 (.node 69 Try.f69 .leaf .leaf) (.node 71 Try.f71 .leaf .leaf)) (.node 74 Try.f74 (.node 73 Try.f73 .leaf .leaf) .leaf)) (.node 78 Try.f78 (.node 77 Try.f77 (.node 76 Try.f76 .leaf .leaf) .leaf) (.node 80 Try.f80 (.node 79 Try.f79 .leaf .leaf) .leaf)))) (.node 94 Try.f94 (.node 88 Try.f88 (.node 85 Try.f85 (.node 83 Try.f83 (.node 82 Try.f82 .leaf .leaf) (.node 84 Try.f84 .leaf .leaf)) (.node 87 Try.f87 (.node 86 Try.f86 .leaf .leaf) .leaf)) (.node 91 Try.f91 (.node 90 Try.f90 (.node 89 Try.f89 .leaf .leaf) .leaf) (.node 93 Try.f93 (.node 92 Try.f92 .leaf .leaf) .leaf))) (.node 101 Try.f101 (.node 98 Try.f98 (.node 96 Try.f96 (.node 95 Try.f95 .leaf .leaf) (.node 97 Try.f97 .leaf .leaf)) (.node 100 Try.f100 (.node 99 Try.f99 .leaf .leaf) .leaf)) (.node 104 Try.f104 (.node 103 Try.f103 (.node 102 Try.f102 .leaf .leaf) .leaf) (.node 106 Try.f106 (.node 105 Try.f105 .leaf .leaf) .leaf))))))
noncomputable def env : Env := mkEnv tys fns
theorem env_ok : EnvOk Try.prog env := mkEnv_ok (T := tys) (F := fns) ⟨t57_ok, ⟨t35_ok, ⟨t25_ok, ⟨t5_ok, ⟨t4_ok, ⟨t3_ok, trivial, trivial⟩, trivial⟩, ⟨t9_ok, trivial, trivial⟩⟩, ⟨t33_ok, ⟨t32_ok, ⟨t30_ok, trivial, trivial⟩, trivial⟩, ⟨t34_ok, trivial, trivial⟩⟩⟩, ⟨t51_ok, ⟨t49_ok, ⟨t45_ok, ⟨t39_ok, trivial, trivial⟩, trivial⟩, ⟨t50_ok, trivial, trivial⟩⟩, ⟨t53_ok, ⟨t52_ok, trivial, trivial⟩, ⟨t54_ok, trivial, trivial⟩⟩⟩⟩, ⟨t96_ok, ⟨t79_ok, ⟨t63_ok, ⟨t60_ok, ⟨t59_ok, trivial, trivial⟩, trivial⟩, ⟨t78_ok, trivial, trivial⟩⟩, ⟨t89_ok, ⟨t85_ok, ⟨t84_ok, trivial, trivial⟩, trivial⟩, ⟨t95_ok, trivial, trivial⟩⟩⟩, ⟨t105_ok, ⟨t100_ok, ⟨t98_ok, ⟨t97_ok, trivial, trivial⟩, trivial⟩, ⟨t101_ok, trivial, trivial⟩⟩, ⟨t111_ok, ⟨t106_ok, trivial, trivial⟩, ⟨t115_ok, trivial, trivial⟩⟩⟩⟩⟩ ⟨f55_ok, ⟨f29_ok, ⟨f16_ok, ⟨f9_ok, ⟨f6_ok, ⟨f4_ok, ⟨f3_ok, trivial, trivial⟩, ⟨f5_ok, trivial, trivial⟩⟩, ⟨f8_ok, ⟨f7_ok, trivial, trivial⟩, trivial⟩⟩, ⟨f13_ok, ⟨f11_ok, ⟨f10_ok, trivial, trivial⟩, ⟨f12_ok, trivial, trivial⟩⟩, ⟨f15_ok, ⟨f14_ok, trivial, trivial⟩, trivial⟩⟩⟩, ⟨f23_ok, ⟨f20_ok, ⟨f18_ok, ⟨f17_ok, trivial, trivial⟩, ⟨f19_ok, trivial, trivial⟩⟩, ⟨f22_ok, ⟨f21_ok, trivial, trivial⟩, trivial⟩⟩, ⟨f26_ok, ⟨f25_ok, ⟨f24_ok, trivial, trivial⟩, trivial⟩, ⟨f28_ok, ⟨f27_ok, trivial, trivial⟩, trivial⟩⟩⟩⟩, ⟨f42_ok, ⟨f36_ok, ⟨f33_ok, ⟨f31_ok, ⟨f30_ok, trivial, trivial⟩, ⟨f32_ok, trivial, trivial⟩⟩, ⟨f35_ok, ⟨f34_ok, trivial, trivial⟩, trivial⟩⟩, ⟨f39_ok, ⟨f38_ok, ⟨f37_ok, trivial, trivial⟩, trivial⟩, ⟨f41_ok, ⟨f40_ok, trivial, trivial⟩, trivial⟩⟩⟩, ⟨f49_ok, ⟨f46_ok, ⟨f44_ok, ⟨f43_ok, trivial, trivial⟩, ⟨f45_ok, trivial, trivial⟩⟩, ⟨f48_ok, ⟨f47_ok, trivial, trivial⟩, trivial⟩⟩, ⟨f52_ok, ⟨f51_ok, ⟨f50_ok, trivial, trivial⟩, trivial⟩, ⟨f54_ok, ⟨f53_ok, trivial, trivial⟩, trivial⟩⟩⟩⟩⟩, ⟨f81_ok, ⟨f68_ok, ⟨f62_ok, ⟨f59_ok, ⟨f57_ok, ⟨f56_ok, trivial, trivial⟩, ⟨f58_ok, trivial, trivial⟩⟩, ⟨f61_ok, ⟨f60_ok, trivial, trivial⟩, trivial⟩⟩, ⟨f65_ok, ⟨f64_ok, ⟨f63_ok, trivial, trivial⟩, trivial⟩, ⟨f67_ok, ⟨f66_ok, trivial, trivial⟩, trivial⟩⟩⟩, ⟨f75_ok, ⟨f72_ok, ⟨f70_ok, ⟨f69_ok, trivial, trivial⟩, ⟨f71_ok, trivial, trivial⟩⟩, ⟨f74_ok, ⟨f73_ok, trivial, trivial⟩, trivial⟩⟩, ⟨f78_ok, ⟨f77_ok, ⟨f76_ok, trivial, trivial⟩, trivial⟩, ⟨f80_ok, ⟨f79_ok, trivial, trivial⟩, trivial⟩⟩⟩⟩, ⟨f94_ok, ⟨f88_ok, ⟨f85_ok, ⟨f83_ok, ⟨f82_ok, trivial, trivial⟩, ⟨f84_ok, trivial, trivial⟩⟩, ⟨f87_ok, ⟨f86_ok, trivial, trivial⟩, trivial⟩⟩, ⟨f91_ok, ⟨f90_ok, ⟨f89_ok, trivial, trivial⟩, trivial⟩, ⟨f93_ok, ⟨f92_ok, trivial, trivial⟩, trivial⟩⟩⟩, ⟨f101_ok, ⟨f98_ok, ⟨f96_ok, ⟨f95_ok, trivial, trivial⟩, ⟨f97_ok, trivial, trivial⟩⟩, ⟨f100_ok, ⟨f99_ok, trivial, trivial⟩, trivial⟩⟩, ⟨f104_ok, ⟨f103_ok, ⟨f102_ok, trivial, trivial⟩, trivial⟩, ⟨f106_ok, ⟨f105_ok, trivial, trivial⟩, trivial⟩⟩⟩⟩⟩⟩ (by kernel_rfl)
instance : Plain env := ⟨fun _ _ _ => rfl⟩
end Go.Proofs.Ytdnkhdkflemkeaa.Vt
