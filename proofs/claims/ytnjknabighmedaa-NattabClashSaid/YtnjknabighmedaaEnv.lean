/- The tables of types and functions, for the abstract machine. -/
import Derived.Test.YtnjknabighmedaaVmU
import Derived.Test.YtnjknabighmedaaProg
namespace Go.Proofs.Ytnjknabighmedaa.Vt
open Go Go.Proofs Go.Proofs.YtnjknabighmedaaV
set_option maxRecDepth 100000
set_option linter.unusedVariables false
def t3 : TI := ⟨.int .i64, .int .i64 0, 1, 8, false⟩
theorem t3_ok : TyOk Try.prog 3 t3 := TyOk.mk' Try.underlying3 (by kernel_rfl) (by kernel_rfl) (.inl rfl)
def t4 : TI := ⟨.bool, .bool false, 1, 1, false⟩
theorem t4_ok : TyOk Try.prog 4 t4 := TyOk.mk' Try.underlying4 (by kernel_rfl) (by kernel_rfl) (.inl rfl)
def t5 : TI := ⟨.int .u8, .int .u8 0, 1, 1, false⟩
theorem t5_ok : TyOk Try.prog 5 t5 := TyOk.mk' Try.underlying5 (by kernel_rfl) (by kernel_rfl) (.inl rfl)
def t9 : TI := ⟨.string, .string ⟨#[]⟩, 1, 16, false⟩
theorem t9_ok : TyOk Try.prog 9 t9 := TyOk.mk' Try.underlying9 (by kernel_rfl) (by kernel_rfl) (.inl rfl)
def t22 : TI := ⟨.slice 26, .slice none 0 0, 1, 24, false⟩
theorem t22_ok : TyOk Try.prog 22 t22 := TyOk.mk' Try.underlying22 (by kernel_rfl) (by kernel_rfl) (.inl rfl)
def t23 : TI := ⟨.int .u32, .int .u32 0, 1, 4, false⟩
theorem t23_ok : TyOk Try.prog 23 t23 := TyOk.mk' Try.underlying23 (by kernel_rfl) (by kernel_rfl) (.inl rfl)
def t24 : TI := ⟨.int .u32, .int .u32 0, 1, 4, false⟩
theorem t24_ok : TyOk Try.prog 24 t24 := TyOk.mk' Try.underlying24 (by kernel_rfl) (by kernel_rfl) (.inl rfl)
def t25 : TI := ⟨.struct #[{ name := "Inner", type := 24, offset := 0, embedded := false, tag := "", pkgPath := "", byteOffset := 0 }, { name := "Port", type := 3, offset := 1, embedded := false, tag := "", pkgPath := "", byteOffset := 8 }, { name := "Peer", type := 24, offset := 2, embedded := false, tag := "", pkgPath := "", byteOffset := 16 }, { name := "PeerPort", type := 3, offset := 3, embedded := false, tag := "", pkgPath := "", byteOffset := 24 }, { name := "In", type := 23, offset := 4, embedded := false, tag := "", pkgPath := "", byteOffset := 32 }, { name := "Out", type := 23, offset := 5, embedded := false, tag := "", pkgPath := "", byteOffset := 36 }, { name := "Seen", type := 3, offset := 6, embedded := false, tag := "", pkgPath := "", byteOffset := 40 }], .agg #[.int .u32 0, .int .i64 0, .int .u32 0, .int .i64 0, .int .u32 0, .int .u32 0, .int .i64 0], 7, 48, true⟩
theorem t25_ok : TyOk Try.prog 25 t25 := TyOk.mk' Try.underlying25 (by kernel_rfl) (by kernel_rfl) (.inr ⟨by kernel_rfl, by kernel_rfl⟩)
def t26 : TI := ⟨.struct #[{ name := "Inner", type := 24, offset := 0, embedded := false, tag := "", pkgPath := "", byteOffset := 0 }, { name := "Port", type := 3, offset := 1, embedded := false, tag := "", pkgPath := "", byteOffset := 8 }, { name := "Peer", type := 24, offset := 2, embedded := false, tag := "", pkgPath := "", byteOffset := 16 }, { name := "PeerPort", type := 3, offset := 3, embedded := false, tag := "", pkgPath := "", byteOffset := 24 }, { name := "In", type := 23, offset := 4, embedded := false, tag := "", pkgPath := "", byteOffset := 32 }, { name := "Out", type := 23, offset := 5, embedded := false, tag := "", pkgPath := "", byteOffset := 36 }, { name := "Seen", type := 3, offset := 6, embedded := false, tag := "", pkgPath := "", byteOffset := 40 }], .agg #[.int .u32 0, .int .i64 0, .int .u32 0, .int .i64 0, .int .u32 0, .int .u32 0, .int .i64 0], 7, 48, true⟩
theorem t26_ok : TyOk Try.prog 26 t26 := TyOk.mk' Try.underlying26 (by kernel_rfl) (by kernel_rfl) (.inr ⟨by kernel_rfl, by kernel_rfl⟩)
def t37 : TI := ⟨.pointer 108, .pointer none, 1, 8, false⟩
theorem t37_ok : TyOk Try.prog 37 t37 := TyOk.mk' Try.underlying37 (by kernel_rfl) (by kernel_rfl) (.inl rfl)
def t39 : TI := ⟨.int .i64, .int .i64 0, 1, 8, false⟩
theorem t39_ok : TyOk Try.prog 39 t39 := TyOk.mk' Try.underlying39 (by kernel_rfl) (by kernel_rfl) (.inl rfl)
def t53 : TI := ⟨.pointer 115, .pointer none, 1, 8, false⟩
theorem t53_ok : TyOk Try.prog 53 t53 := TyOk.mk' Try.underlying53 (by kernel_rfl) (by kernel_rfl) (.inl rfl)
def t56 : TI := ⟨.struct #[{ name := "From", type := 24, offset := 0, embedded := false, tag := "", pkgPath := "", byteOffset := 0 }, { name := "To", type := 24, offset := 1, embedded := false, tag := "", pkgPath := "", byteOffset := 4 }, { name := "S", type := 9, offset := 2, embedded := false, tag := "", pkgPath := "", byteOffset := 8 }], .agg #[.int .u32 0, .int .u32 0, .string ⟨#[]⟩], 3, 24, false⟩
theorem t56_ok : TyOk Try.prog 56 t56 := TyOk.mk' Try.underlying56 (by kernel_rfl) (by kernel_rfl) (.inl rfl)
def t57 : TI := ⟨.struct #[{ name := "From", type := 24, offset := 0, embedded := false, tag := "", pkgPath := "", byteOffset := 0 }, { name := "To", type := 24, offset := 1, embedded := false, tag := "", pkgPath := "", byteOffset := 4 }, { name := "S", type := 9, offset := 2, embedded := false, tag := "", pkgPath := "", byteOffset := 8 }], .agg #[.int .u32 0, .int .u32 0, .string ⟨#[]⟩], 3, 24, false⟩
theorem t57_ok : TyOk Try.prog 57 t57 := TyOk.mk' Try.underlying57 (by kernel_rfl) (by kernel_rfl) (.inl rfl)
def t58 : TI := ⟨.struct #[{ name := "Leg", type := 3, offset := 0, embedded := false, tag := "", pkgPath := "", byteOffset := 0 }, { name := "Nat", type := 3, offset := 1, embedded := false, tag := "", pkgPath := "", byteOffset := 8 }, { name := "D", type := 57, offset := 2, embedded := false, tag := "", pkgPath := "", byteOffset := 16 }, { name := "Bent", type := 4, offset := 5, embedded := false, tag := "", pkgPath := "", byteOffset := 40 }], .agg #[.int .i64 0, .int .i64 0, .int .u32 0, .int .u32 0, .string ⟨#[]⟩, .bool false], 6, 48, false⟩
theorem t58_ok : TyOk Try.prog 58 t58 := TyOk.mk' Try.underlying58 (by kernel_rfl) (by kernel_rfl) (.inl rfl)
def t59 : TI := ⟨.struct #[{ name := "Leg", type := 3, offset := 0, embedded := false, tag := "", pkgPath := "", byteOffset := 0 }, { name := "Nat", type := 3, offset := 1, embedded := false, tag := "", pkgPath := "", byteOffset := 8 }, { name := "D", type := 57, offset := 2, embedded := false, tag := "", pkgPath := "", byteOffset := 16 }, { name := "Bent", type := 4, offset := 5, embedded := false, tag := "", pkgPath := "", byteOffset := 40 }], .agg #[.int .i64 0, .int .i64 0, .int .u32 0, .int .u32 0, .string ⟨#[]⟩, .bool false], 6, 48, false⟩
theorem t59_ok : TyOk Try.prog 59 t59 := TyOk.mk' Try.underlying59 (by kernel_rfl) (by kernel_rfl) (.inl rfl)
def t65 : TI := ⟨.slice 59, .slice none 0 0, 1, 24, false⟩
theorem t65_ok : TyOk Try.prog 65 t65 := TyOk.mk' Try.underlying65 (by kernel_rfl) (by kernel_rfl) (.inl rfl)
def t78 : TI := ⟨.func #[26] #[4] false, .nilFunc, 1, 8, false⟩
theorem t78_ok : TyOk Try.prog 78 t78 := TyOk.mk' Try.underlying78 (by kernel_rfl) (by kernel_rfl) (.inl rfl)
def t82 : TI := ⟨.pointer 131, .pointer none, 1, 8, false⟩
theorem t82_ok : TyOk Try.prog 82 t82 := TyOk.mk' Try.underlying82 (by kernel_rfl) (by kernel_rfl) (.inl rfl)
def t84 : TI := ⟨.struct #[{ name := "Mean", type := 3, offset := 0, embedded := false, tag := "", pkgPath := "", byteOffset := 0 }, { name := "Var", type := 3, offset := 1, embedded := false, tag := "", pkgPath := "", byteOffset := 8 }, { name := "Wait", type := 3, offset := 2, embedded := false, tag := "", pkgPath := "", byteOffset := 16 }, { name := "Known", type := 4, offset := 3, embedded := false, tag := "", pkgPath := "", byteOffset := 24 }], .agg #[.int .i64 0, .int .i64 0, .int .i64 0, .bool false], 4, 32, true⟩
theorem t84_ok : TyOk Try.prog 84 t84 := TyOk.mk' Try.underlying84 (by kernel_rfl) (by kernel_rfl) (.inr ⟨by kernel_rfl, by kernel_rfl⟩)
def t85 : TI := ⟨.struct #[{ name := "Mean", type := 3, offset := 0, embedded := false, tag := "", pkgPath := "", byteOffset := 0 }, { name := "Var", type := 3, offset := 1, embedded := false, tag := "", pkgPath := "", byteOffset := 8 }, { name := "Wait", type := 3, offset := 2, embedded := false, tag := "", pkgPath := "", byteOffset := 16 }, { name := "Known", type := 4, offset := 3, embedded := false, tag := "", pkgPath := "", byteOffset := 24 }], .agg #[.int .i64 0, .int .i64 0, .int .i64 0, .bool false], 4, 32, true⟩
theorem t85_ok : TyOk Try.prog 85 t85 := TyOk.mk' Try.underlying85 (by kernel_rfl) (by kernel_rfl) (.inr ⟨by kernel_rfl, by kernel_rfl⟩)
def t86 : TI := ⟨.struct #[{ name := "Local", type := 24, offset := 0, embedded := false, tag := "", pkgPath := "", byteOffset := 0 }, { name := "Peer", type := 24, offset := 1, embedded := false, tag := "", pkgPath := "", byteOffset := 4 }, { name := "State", type := 3, offset := 2, embedded := false, tag := "", pkgPath := "", byteOffset := 8 }, { name := "Errors", type := 3, offset := 3, embedded := false, tag := "", pkgPath := "", byteOffset := 16 }, { name := "Rto", type := 85, offset := 4, embedded := false, tag := "", pkgPath := "", byteOffset := 24 }, { name := "Cwnd", type := 3, offset := 8, embedded := false, tag := "", pkgPath := "", byteOffset := 56 }, { name := "Ssthresh", type := 3, offset := 9, embedded := false, tag := "", pkgPath := "", byteOffset := 64 }, { name := "Part", type := 3, offset := 10, embedded := false, tag := "", pkgPath := "", byteOffset := 72 }, { name := "Flight", type := 3, offset := 11, embedded := false, tag := "", pkgPath := "", byteOffset := 80 }, { name := "BeatAt", type := 3, offset := 12, embedded := false, tag := "", pkgPath := "", byteOffset := 88 }, { name := "Beat", type := 23, offset := 13, embedded := false, tag := "", pkgPath := "", byteOffset := 96 }, { name := "BeatSent", type := 3, offset := 14, embedded := false, tag := "", pkgPath := "", byteOffset := 104 }], .agg #[.int .u32 0, .int .u32 0, .int .i64 0, .int .i64 0, .int .i64 0, .int .i64 0, .int .i64 0, .bool false, .int .i64 0, .int .i64 0, .int .i64 0, .int .i64 0, .int .i64 0, .int .u32 0, .int .i64 0], 15, 112, true⟩
theorem t86_ok : TyOk Try.prog 86 t86 := TyOk.mk' Try.underlying86 (by kernel_rfl) (by kernel_rfl) (.inr ⟨by kernel_rfl, by kernel_rfl⟩)
def t87 : TI := ⟨.struct #[{ name := "Local", type := 24, offset := 0, embedded := false, tag := "", pkgPath := "", byteOffset := 0 }, { name := "Peer", type := 24, offset := 1, embedded := false, tag := "", pkgPath := "", byteOffset := 4 }, { name := "State", type := 3, offset := 2, embedded := false, tag := "", pkgPath := "", byteOffset := 8 }, { name := "Errors", type := 3, offset := 3, embedded := false, tag := "", pkgPath := "", byteOffset := 16 }, { name := "Rto", type := 85, offset := 4, embedded := false, tag := "", pkgPath := "", byteOffset := 24 }, { name := "Cwnd", type := 3, offset := 8, embedded := false, tag := "", pkgPath := "", byteOffset := 56 }, { name := "Ssthresh", type := 3, offset := 9, embedded := false, tag := "", pkgPath := "", byteOffset := 64 }, { name := "Part", type := 3, offset := 10, embedded := false, tag := "", pkgPath := "", byteOffset := 72 }, { name := "Flight", type := 3, offset := 11, embedded := false, tag := "", pkgPath := "", byteOffset := 80 }, { name := "BeatAt", type := 3, offset := 12, embedded := false, tag := "", pkgPath := "", byteOffset := 88 }, { name := "Beat", type := 23, offset := 13, embedded := false, tag := "", pkgPath := "", byteOffset := 96 }, { name := "BeatSent", type := 3, offset := 14, embedded := false, tag := "", pkgPath := "", byteOffset := 104 }], .agg #[.int .u32 0, .int .u32 0, .int .i64 0, .int .i64 0, .int .i64 0, .int .i64 0, .int .i64 0, .bool false, .int .i64 0, .int .i64 0, .int .i64 0, .int .i64 0, .int .i64 0, .int .u32 0, .int .i64 0], 15, 112, true⟩
theorem t87_ok : TyOk Try.prog 87 t87 := TyOk.mk' Try.underlying87 (by kernel_rfl) (by kernel_rfl) (.inr ⟨by kernel_rfl, by kernel_rfl⟩)
def t89 : TI := ⟨.slice 87, .slice none 0 0, 1, 24, false⟩
theorem t89_ok : TyOk Try.prog 89 t89 := TyOk.mk' Try.underlying89 (by kernel_rfl) (by kernel_rfl) (.inl rfl)
def t94 : TI := ⟨.slice 3, .slice none 0 0, 1, 24, false⟩
theorem t94_ok : TyOk Try.prog 94 t94 := TyOk.mk' Try.underlying94 (by kernel_rfl) (by kernel_rfl) (.inl rfl)
def t107 : TI := ⟨.struct #[{ name := "most", type := 3, offset := 0, embedded := false, tag := "", pkgPath := "crossway/nattab", byteOffset := 0 }, { name := "list", type := 22, offset := 1, embedded := false, tag := "", pkgPath := "crossway/nattab", byteOffset := 8 }], .agg #[.int .i64 0, .slice none 0 0], 2, 32, false⟩
theorem t107_ok : TyOk Try.prog 107 t107 := TyOk.mk' Try.underlying107 (by kernel_rfl) (by kernel_rfl) (.inl rfl)
def t108 : TI := ⟨.struct #[{ name := "most", type := 3, offset := 0, embedded := false, tag := "", pkgPath := "crossway/nattab", byteOffset := 0 }, { name := "list", type := 22, offset := 1, embedded := false, tag := "", pkgPath := "crossway/nattab", byteOffset := 8 }], .agg #[.int .i64 0, .slice none 0 0], 2, 32, false⟩
theorem t108_ok : TyOk Try.prog 108 t108 := TyOk.mk' Try.underlying108 (by kernel_rfl) (by kernel_rfl) (.inl rfl)
def t110 : TI := ⟨.struct #[{ name := "peer", type := 24, offset := 0, embedded := false, tag := "", pkgPath := "crossway/nattab", byteOffset := 0 }, { name := "peerPort", type := 3, offset := 1, embedded := false, tag := "", pkgPath := "crossway/nattab", byteOffset := 8 }, { name := "port", type := 3, offset := 2, embedded := false, tag := "", pkgPath := "crossway/nattab", byteOffset := 16 }, { name := "in", type := 23, offset := 3, embedded := false, tag := "", pkgPath := "crossway/nattab", byteOffset := 24 }], .agg #[.int .u32 0, .int .i64 0, .int .i64 0, .int .u32 0], 4, 32, true⟩
theorem t110_ok : TyOk Try.prog 110 t110 := TyOk.mk' Try.underlying110 (by kernel_rfl) (by kernel_rfl) (.inr ⟨by kernel_rfl, by kernel_rfl⟩)
def t111 : TI := ⟨.struct #[{ name := "peer", type := 24, offset := 0, embedded := false, tag := "", pkgPath := "crossway/nattab", byteOffset := 0 }, { name := "peerPort", type := 3, offset := 1, embedded := false, tag := "", pkgPath := "crossway/nattab", byteOffset := 8 }, { name := "port", type := 3, offset := 2, embedded := false, tag := "", pkgPath := "crossway/nattab", byteOffset := 16 }, { name := "in", type := 23, offset := 3, embedded := false, tag := "", pkgPath := "crossway/nattab", byteOffset := 24 }], .agg #[.int .u32 0, .int .i64 0, .int .i64 0, .int .u32 0], 4, 32, true⟩
theorem t111_ok : TyOk Try.prog 111 t111 := TyOk.mk' Try.underlying111 (by kernel_rfl) (by kernel_rfl) (.inr ⟨by kernel_rfl, by kernel_rfl⟩)
def t114 : TI := ⟨.struct #[{ name := "list", type := 65, offset := 0, embedded := false, tag := "", pkgPath := "crossway/net", byteOffset := 0 }, { name := "full", type := 3, offset := 1, embedded := false, tag := "", pkgPath := "crossway/net", byteOffset := 24 }], .agg #[.slice none 0 0, .int .i64 0], 2, 32, false⟩
theorem t114_ok : TyOk Try.prog 114 t114 := TyOk.mk' Try.underlying114 (by kernel_rfl) (by kernel_rfl) (.inl rfl)
def t115 : TI := ⟨.struct #[{ name := "list", type := 65, offset := 0, embedded := false, tag := "", pkgPath := "crossway/net", byteOffset := 0 }, { name := "full", type := 3, offset := 1, embedded := false, tag := "", pkgPath := "crossway/net", byteOffset := 24 }], .agg #[.slice none 0 0, .int .i64 0], 2, 32, false⟩
theorem t115_ok : TyOk Try.prog 115 t115 := TyOk.mk' Try.underlying115 (by kernel_rfl) (by kernel_rfl) (.inl rfl)
def t125 : TI := ⟨.slice 5, .slice none 0 0, 1, 24, false⟩
theorem t125_ok : TyOk Try.prog 125 t125 := TyOk.mk' Try.underlying125 (by kernel_rfl) (by kernel_rfl) (.inl rfl)
def t130 : TI := ⟨.struct #[{ name := "list", type := 89, offset := 0, embedded := false, tag := "", pkgPath := "crossway/paths", byteOffset := 0 }, { name := "first", type := 3, offset := 1, embedded := false, tag := "", pkgPath := "crossway/paths", byteOffset := 24 }], .agg #[.slice none 0 0, .int .i64 0], 2, 32, false⟩
theorem t130_ok : TyOk Try.prog 130 t130 := TyOk.mk' Try.underlying130 (by kernel_rfl) (by kernel_rfl) (.inl rfl)
def t131 : TI := ⟨.struct #[{ name := "list", type := 89, offset := 0, embedded := false, tag := "", pkgPath := "crossway/paths", byteOffset := 0 }, { name := "first", type := 3, offset := 1, embedded := false, tag := "", pkgPath := "crossway/paths", byteOffset := 24 }], .agg #[.slice none 0 0, .int .i64 0], 2, 32, false⟩
theorem t131_ok : TyOk Try.prog 131 t131 := TyOk.mk' Try.underlying131 (by kernel_rfl) (by kernel_rfl) (.inl rfl)
def t138 : TI := ⟨.func #[87] #[4] false, .nilFunc, 1, 8, false⟩
theorem t138_ok : TyOk Try.prog 138 t138 := TyOk.mk' Try.underlying138 (by kernel_rfl) (by kernel_rfl) (.inl rfl)
def t139 : TI := ⟨.array 2 3, .agg #[.int .i64 0, .int .i64 0], 2, 16, false⟩
theorem t139_ok : TyOk Try.prog 139 t139 := TyOk.mk' Try.underlying139 (by kernel_rfl) (by kernel_rfl) (.inl rfl)
def t140 : TI := ⟨.slice 139, .slice none 0 0, 1, 24, false⟩
theorem t140_ok : TyOk Try.prog 140 t140 := TyOk.mk' Try.underlying140 (by kernel_rfl) (by kernel_rfl) (.inl rfl)
theorem f5_ok : FnOk Try.prog 5 Try.f5 := ⟨Try.func5, by kernel_rfl⟩
theorem f7_ok : FnOk Try.prog 7 Try.f7 := ⟨Try.func7, by kernel_rfl⟩
theorem f10_ok : FnOk Try.prog 10 Try.f10 := ⟨Try.func10, by kernel_rfl⟩
theorem f11_ok : FnOk Try.prog 11 Try.f11 := ⟨Try.func11, by kernel_rfl⟩
theorem f13_ok : FnOk Try.prog 13 Try.f13 := ⟨Try.func13, by kernel_rfl⟩
theorem f14_ok : FnOk Try.prog 14 Try.f14 := ⟨Try.func14, by kernel_rfl⟩
theorem f19_ok : FnOk Try.prog 19 Try.f19 := ⟨Try.func19, by kernel_rfl⟩
theorem f20_ok : FnOk Try.prog 20 Try.f20 := ⟨Try.func20, by kernel_rfl⟩
theorem f21_ok : FnOk Try.prog 21 Try.f21 := ⟨Try.func21, by kernel_rfl⟩
theorem f22_ok : FnOk Try.prog 22 Try.f22 := ⟨Try.func22, by kernel_rfl⟩
theorem f23_ok : FnOk Try.prog 23 Try.f23 := ⟨Try.func23, by kernel_rfl⟩
theorem f27_ok : FnOk Try.prog 27 Try.f27 := ⟨Try.func27, by kernel_rfl⟩
theorem f28_ok : FnOk Try.prog 28 Try.f28 := ⟨Try.func28, by kernel_rfl⟩
theorem f29_ok : FnOk Try.prog 29 Try.f29 := ⟨Try.func29, by kernel_rfl⟩
theorem f30_ok : FnOk Try.prog 30 Try.f30 := ⟨Try.func30, by kernel_rfl⟩
theorem f31_ok : FnOk Try.prog 31 Try.f31 := ⟨Try.func31, by kernel_rfl⟩
theorem f32_ok : FnOk Try.prog 32 Try.f32 := ⟨Try.func32, by kernel_rfl⟩
theorem f38_ok : FnOk Try.prog 38 Try.f38 := ⟨Try.func38, by kernel_rfl⟩
theorem f39_ok : FnOk Try.prog 39 Try.f39 := ⟨Try.func39, by kernel_rfl⟩
theorem f41_ok : FnOk Try.prog 41 Try.f41 := ⟨Try.func41, by kernel_rfl⟩
theorem f42_ok : FnOk Try.prog 42 Try.f42 := ⟨Try.func42, by kernel_rfl⟩
theorem f43_ok : FnOk Try.prog 43 Try.f43 := ⟨Try.func43, by kernel_rfl⟩
theorem f44_ok : FnOk Try.prog 44 Try.f44 := ⟨Try.func44, by kernel_rfl⟩
theorem f45_ok : FnOk Try.prog 45 Try.f45 := ⟨Try.func45, by kernel_rfl⟩
theorem f46_ok : FnOk Try.prog 46 Try.f46 := ⟨Try.func46, by kernel_rfl⟩
theorem f47_ok : FnOk Try.prog 47 Try.f47 := ⟨Try.func47, by kernel_rfl⟩
theorem f48_ok : FnOk Try.prog 48 Try.f48 := ⟨Try.func48, by kernel_rfl⟩
theorem f49_ok : FnOk Try.prog 49 Try.f49 := ⟨Try.func49, by kernel_rfl⟩
theorem f50_ok : FnOk Try.prog 50 Try.f50 := ⟨Try.func50, by kernel_rfl⟩
theorem f51_ok : FnOk Try.prog 51 Try.f51 := ⟨Try.func51, by kernel_rfl⟩
theorem f52_ok : FnOk Try.prog 52 Try.f52 := ⟨Try.func52, by kernel_rfl⟩
theorem f54_ok : FnOk Try.prog 54 Try.f54 := ⟨Try.func54, by kernel_rfl⟩
theorem f56_ok : FnOk Try.prog 56 Try.f56 := ⟨Try.func56, by kernel_rfl⟩
theorem f57_ok : FnOk Try.prog 57 Try.f57 := ⟨Try.func57, by kernel_rfl⟩
theorem f58_ok : FnOk Try.prog 58 Try.f58 := ⟨Try.func58, by kernel_rfl⟩
theorem f60_ok : FnOk Try.prog 60 Try.f60 := ⟨Try.func60, by kernel_rfl⟩
theorem f61_ok : FnOk Try.prog 61 Try.f61 := ⟨Try.func61, by kernel_rfl⟩
theorem f62_ok : FnOk Try.prog 62 Try.f62 := ⟨Try.func62, by kernel_rfl⟩
theorem f63_ok : FnOk Try.prog 63 Try.f63 := ⟨Try.func63, by kernel_rfl⟩
theorem f64_ok : FnOk Try.prog 64 Try.f64 := ⟨Try.func64, by kernel_rfl⟩
theorem f65_ok : FnOk Try.prog 65 Try.f65 := ⟨Try.func65, by kernel_rfl⟩
theorem f66_ok : FnOk Try.prog 66 Try.f66 := ⟨Try.func66, by kernel_rfl⟩
theorem f67_ok : FnOk Try.prog 67 Try.f67 := ⟨Try.func67, by kernel_rfl⟩
theorem f69_ok : FnOk Try.prog 69 Try.f69 := ⟨Try.func69, by kernel_rfl⟩
theorem f71_ok : FnOk Try.prog 71 Try.f71 := ⟨Try.func71, by kernel_rfl⟩
theorem f72_ok : FnOk Try.prog 72 Try.f72 := ⟨Try.func72, by kernel_rfl⟩
theorem f73_ok : FnOk Try.prog 73 Try.f73 := ⟨Try.func73, by kernel_rfl⟩
theorem f81_ok : FnOk Try.prog 81 Try.f81 := ⟨Try.func81, by kernel_rfl⟩
theorem f82_ok : FnOk Try.prog 82 Try.f82 := ⟨Try.func82, by kernel_rfl⟩
theorem f83_ok : FnOk Try.prog 83 Try.f83 := ⟨Try.func83, by kernel_rfl⟩
theorem f84_ok : FnOk Try.prog 84 Try.f84 := ⟨Try.func84, by kernel_rfl⟩
theorem f85_ok : FnOk Try.prog 85 Try.f85 := ⟨Try.func85, by kernel_rfl⟩
theorem f86_ok : FnOk Try.prog 86 Try.f86 := ⟨Try.func86, by kernel_rfl⟩
theorem f87_ok : FnOk Try.prog 87 Try.f87 := ⟨Try.func87, by kernel_rfl⟩
theorem f88_ok : FnOk Try.prog 88 Try.f88 := ⟨Try.func88, by kernel_rfl⟩
theorem f89_ok : FnOk Try.prog 89 Try.f89 := ⟨Try.func89, by kernel_rfl⟩
theorem f90_ok : FnOk Try.prog 90 Try.f90 := ⟨Try.func90, by kernel_rfl⟩
theorem f91_ok : FnOk Try.prog 91 Try.f91 := ⟨Try.func91, by kernel_rfl⟩
theorem f93_ok : FnOk Try.prog 93 Try.f93 := ⟨Try.func93, by kernel_rfl⟩
theorem f94_ok : FnOk Try.prog 94 Try.f94 := ⟨Try.func94, by kernel_rfl⟩
theorem f95_ok : FnOk Try.prog 95 Try.f95 := ⟨Try.func95, by kernel_rfl⟩
theorem f96_ok : FnOk Try.prog 96 Try.f96 := ⟨Try.func96, by kernel_rfl⟩
theorem f97_ok : FnOk Try.prog 97 Try.f97 := ⟨Try.func97, by kernel_rfl⟩
theorem f98_ok : FnOk Try.prog 98 Try.f98 := ⟨Try.func98, by kernel_rfl⟩
def g24 : Gd := Gd.int .u32
theorem o24 {N : Nat} {w0 w : World} (hN : N = w.heap.size) : Opn Try.prog N w0 w 24 g24 := Opn.int Try.underlying24
def g3 : Gd := Gd.int .i64
theorem o3 {N : Nat} {w0 w : World} (hN : N = w.heap.size) : Opn Try.prog N w0 w 3 g3 := Opn.int Try.underlying3
def g23 : Gd := Gd.int .u32
theorem o23 {N : Nat} {w0 w : World} (hN : N = w.heap.size) : Opn Try.prog N w0 w 23 g23 := Opn.int Try.underlying23
def g26 : Gd := Gd.agg [g24, g3, g24, g3, g23, g23, g3]
theorem o26 {N : Nat} {w0 w : World} (hN : N = w.heap.size) : Opn Try.prog N w0 w 26 g26 := Opn.struct Try.underlying26 (by kernel_rfl) (show OpnAll Try.prog N w0 w [(24, 0), (3, 1), (24, 2), (3, 3), (23, 4), (23, 5), (3, 6)] [g24, g3, g24, g3, g23, g23, g3] from ⟨o24 hN, o3 hN, o24 hN, o3 hN, o23 hN, o23 hN, o3 hN, trivial⟩)
def g9 : Gd := Gd.str
theorem o9 {N : Nat} {w0 w : World} (hN : N = w.heap.size) : Opn Try.prog N w0 w 9 g9 := Opn.str Try.underlying9
def g57 : Gd := Gd.agg [g24, g24, g9]
theorem o57 {N : Nat} {w0 w : World} (hN : N = w.heap.size) : Opn Try.prog N w0 w 57 g57 := Opn.struct Try.underlying57 (by kernel_rfl) (show OpnAll Try.prog N w0 w [(24, 0), (24, 1), (9, 2)] [g24, g24, g9] from ⟨o24 hN, o24 hN, o9 hN, trivial⟩)
def g4 : Gd := Gd.bool
theorem o4 {N : Nat} {w0 w : World} (hN : N = w.heap.size) : Opn Try.prog N w0 w 4 g4 := Opn.bool Try.underlying4
def g59 : Gd := Gd.agg [g3, g3, g57, g4]
theorem o59 {N : Nat} {w0 w : World} (hN : N = w.heap.size) : Opn Try.prog N w0 w 59 g59 := Opn.struct Try.underlying59 (by kernel_rfl) (show OpnAll Try.prog N w0 w [(3, 0), (3, 1), (57, 2), (4, 5)] [g3, g3, g57, g4] from ⟨o3 hN, o3 hN, o57 hN, o4 hN, trivial⟩)
noncomputable def tys : Tr TI := (.node 82 t82 (.node 37 t37 (.node 22 t22 (.node 5 t5 (.node 4 t4 (.node 3 t3 .leaf .leaf) .leaf) (.node 9 t9 .leaf .leaf)) (.node 25 t25 (.node 24 t24 (.node 23 t23 .leaf .leaf) .leaf) (.node 26 t26 .leaf .leaf))) (.node 58 t58 (.node 56 t56 (.node 53 t53 (.node 39 t39 .leaf .leaf) .leaf) (.node 57 t57 .leaf .leaf)) (.node 65 t65 (.node 59 t59 .leaf .leaf) (.node 78 t78 .leaf .leaf)))) (.node 111 t111 (.node 89 t89 (.node 86 t86 (.node 85 t85 (.node 84 t84 .leaf .leaf) .leaf) (.node 87 t87 .leaf .leaf)) (.node 108 t108 (.node 107 t107 (.node 94 t94 .leaf .leaf) .leaf) (.node 110 t110 .leaf .leaf))) (.node 131 t131 (.node 125 t125 (.node 115 t115 (.node 114 t114 .leaf .leaf) .leaf) (.node 130 t130 .leaf .leaf)) (.node 139 t139 (.node 138 t138 .leaf .leaf) (.node 140 t140 .leaf .leaf)))))
noncomputable def fns : Tr Func := (.node 56 Try.f56 (.node 32 Try.f32 (.node 21 Try.f21 (.node 13 Try.f13 (.node 10 Try.f10 (.node 7 Try.f7 (.node 5 Try.f5 .leaf .leaf) .leaf) (.node 11 Try.f11 .leaf .leaf)) (.node 19 Try.f19 (.node 14 Try.f14 .leaf .leaf) (.node 20 Try.f20 .leaf .leaf))) (.node 28 Try.f28 (.node 23 Try.f23 (.node 22 Try.f22 .leaf .leaf) (.node 27 Try.f27 .leaf .leaf)) (.node 30 Try.f30 (.node 29 Try.f29 .leaf .leaf) (.node 31 Try.f31 .leaf .leaf)))) (.node 46 Try.f46 (.node 42 Try.f42 (.node 39 Try.f39 (.node 38 Try.f38 .leaf .leaf) (.node 41 Try.f41 .leaf .leaf)) (.node 44 Try.f44 (.node 43 Try.f43 .leaf .leaf) (.node 45 Try.f45 .leaf .leaf))) (.node 50 Try.f50 (.node 48 Try.f48 (.node 47 Try.f47 .leaf .leaf) (.node 49 Try.f49 .leaf .leaf)) (.node 52 Try.f52 (.node 51 Try.f51 .leaf .leaf) (.node 54 Try.f54 .leaf .leaf))))) (.node 82 Try.f82 (.node 65 Try.f65 (.node 61 Try.f61 (.node 58 Try.f58 (.node 57 Try.f57 .leaf .leaf) (.node 60 Try.f60 .leaf .leaf)) (.node 63 Try.f63 (.node 62 Try.f62 .leaf .leaf) (.node 64 Try.f64 .leaf .leaf))) (.node 71 Try.f71 (.node 67 Try.f67 (.node 66 Try.f66 .leaf .leaf) (.node 69 Try.f69 .leaf .leaf)) (.node 73 Try.f73 (.node 72 Try.f72 .leaf .leaf) (.node 81 Try.f81 .leaf .leaf)))) (.node 90 Try.f90 (.node 86 Try.f86 (.node 84 Try.f84 (.node 83 Try.f83 .leaf .leaf) (.node 85 Try.f85 .leaf .leaf)) (.node 88 Try.f88 (.node 87 Try.f87 .leaf .leaf) (.node 89 Try.f89 .leaf .leaf))) (.node 95 Try.f95 (.node 93 Try.f93 (.node 91 Try.f91 .leaf .leaf) (.node 94 Try.f94 .leaf .leaf)) (.node 97 Try.f97 (.node 96 Try.f96 .leaf .leaf) (.node 98 Try.f98 .leaf .leaf))))))
noncomputable def env : Env := mkEnv tys fns
theorem env_ok : EnvOk Try.prog env := mkEnv_ok (T := tys) (F := fns) ⟨t82_ok, ⟨t37_ok, ⟨t22_ok, ⟨t5_ok, ⟨t4_ok, ⟨t3_ok, trivial, trivial⟩, trivial⟩, ⟨t9_ok, trivial, trivial⟩⟩, ⟨t25_ok, ⟨t24_ok, ⟨t23_ok, trivial, trivial⟩, trivial⟩, ⟨t26_ok, trivial, trivial⟩⟩⟩, ⟨t58_ok, ⟨t56_ok, ⟨t53_ok, ⟨t39_ok, trivial, trivial⟩, trivial⟩, ⟨t57_ok, trivial, trivial⟩⟩, ⟨t65_ok, ⟨t59_ok, trivial, trivial⟩, ⟨t78_ok, trivial, trivial⟩⟩⟩⟩, ⟨t111_ok, ⟨t89_ok, ⟨t86_ok, ⟨t85_ok, ⟨t84_ok, trivial, trivial⟩, trivial⟩, ⟨t87_ok, trivial, trivial⟩⟩, ⟨t108_ok, ⟨t107_ok, ⟨t94_ok, trivial, trivial⟩, trivial⟩, ⟨t110_ok, trivial, trivial⟩⟩⟩, ⟨t131_ok, ⟨t125_ok, ⟨t115_ok, ⟨t114_ok, trivial, trivial⟩, trivial⟩, ⟨t130_ok, trivial, trivial⟩⟩, ⟨t139_ok, ⟨t138_ok, trivial, trivial⟩, ⟨t140_ok, trivial, trivial⟩⟩⟩⟩⟩ ⟨f56_ok, ⟨f32_ok, ⟨f21_ok, ⟨f13_ok, ⟨f10_ok, ⟨f7_ok, ⟨f5_ok, trivial, trivial⟩, trivial⟩, ⟨f11_ok, trivial, trivial⟩⟩, ⟨f19_ok, ⟨f14_ok, trivial, trivial⟩, ⟨f20_ok, trivial, trivial⟩⟩⟩, ⟨f28_ok, ⟨f23_ok, ⟨f22_ok, trivial, trivial⟩, ⟨f27_ok, trivial, trivial⟩⟩, ⟨f30_ok, ⟨f29_ok, trivial, trivial⟩, ⟨f31_ok, trivial, trivial⟩⟩⟩⟩, ⟨f46_ok, ⟨f42_ok, ⟨f39_ok, ⟨f38_ok, trivial, trivial⟩, ⟨f41_ok, trivial, trivial⟩⟩, ⟨f44_ok, ⟨f43_ok, trivial, trivial⟩, ⟨f45_ok, trivial, trivial⟩⟩⟩, ⟨f50_ok, ⟨f48_ok, ⟨f47_ok, trivial, trivial⟩, ⟨f49_ok, trivial, trivial⟩⟩, ⟨f52_ok, ⟨f51_ok, trivial, trivial⟩, ⟨f54_ok, trivial, trivial⟩⟩⟩⟩⟩, ⟨f82_ok, ⟨f65_ok, ⟨f61_ok, ⟨f58_ok, ⟨f57_ok, trivial, trivial⟩, ⟨f60_ok, trivial, trivial⟩⟩, ⟨f63_ok, ⟨f62_ok, trivial, trivial⟩, ⟨f64_ok, trivial, trivial⟩⟩⟩, ⟨f71_ok, ⟨f67_ok, ⟨f66_ok, trivial, trivial⟩, ⟨f69_ok, trivial, trivial⟩⟩, ⟨f73_ok, ⟨f72_ok, trivial, trivial⟩, ⟨f81_ok, trivial, trivial⟩⟩⟩⟩, ⟨f90_ok, ⟨f86_ok, ⟨f84_ok, ⟨f83_ok, trivial, trivial⟩, ⟨f85_ok, trivial, trivial⟩⟩, ⟨f88_ok, ⟨f87_ok, trivial, trivial⟩, ⟨f89_ok, trivial, trivial⟩⟩⟩, ⟨f95_ok, ⟨f93_ok, ⟨f91_ok, trivial, trivial⟩, ⟨f94_ok, trivial, trivial⟩⟩, ⟨f97_ok, ⟨f96_ok, trivial, trivial⟩, ⟨f98_ok, trivial, trivial⟩⟩⟩⟩⟩⟩ (by kernel_rfl)
end Go.Proofs.Ytnjknabighmedaa.Vt
