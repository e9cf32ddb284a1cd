/- The tables of types and functions, for the abstract machine. -/
import Derived.Test.YtnjknabighmedaaVm2
import Derived.Test.YtnjknabighmedaaProg
namespace Go.Proofs.Ytnjknabighmedaa.Vt
open Go Go.Proofs Go.Proofs.YtnjknabighmedaaV
set_option maxRecDepth 100000
set_option linter.unusedVariables false
def t3 : TI := ⟨.int .i64, .int .i64 0, 1, 8, false⟩
theorem t3_ok : TyOk Try.prog 3 t3 := TyOk.mk' Try.underlying3 (by kernel_rfl) (by kernel_rfl) (.inl rfl)
def t4 : TI := ⟨.bool, .bool false, 1, 1, false⟩
theorem t4_ok : TyOk Try.prog 4 t4 := TyOk.mk' Try.underlying4 (by kernel_rfl) (by kernel_rfl) (.inl rfl)
def t9 : TI := ⟨.string, .string ⟨#[]⟩, 1, 16, false⟩
theorem t9_ok : TyOk Try.prog 9 t9 := TyOk.mk' Try.underlying9 (by kernel_rfl) (by kernel_rfl) (.inl rfl)
def t23 : TI := ⟨.int .u32, .int .u32 0, 1, 4, false⟩
theorem t23_ok : TyOk Try.prog 23 t23 := TyOk.mk' Try.underlying23 (by kernel_rfl) (by kernel_rfl) (.inl rfl)
def t24 : TI := ⟨.int .u32, .int .u32 0, 1, 4, false⟩
theorem t24_ok : TyOk Try.prog 24 t24 := TyOk.mk' Try.underlying24 (by kernel_rfl) (by kernel_rfl) (.inl rfl)
def t60 : TI := ⟨.slice 117, .slice none 0 0, 1, 24, false⟩
theorem t60_ok : TyOk Try.prog 60 t60 := TyOk.mk' Try.underlying60 (by kernel_rfl) (by kernel_rfl) (.inl rfl)
def t81 : TI := ⟨.slice 91, .slice none 0 0, 1, 24, false⟩
theorem t81_ok : TyOk Try.prog 81 t81 := TyOk.mk' Try.underlying81 (by kernel_rfl) (by kernel_rfl) (.inl rfl)
def t82 : TI := ⟨.pointer 131, .pointer none, 1, 8, false⟩
theorem t82_ok : TyOk Try.prog 82 t82 := TyOk.mk' Try.underlying82 (by kernel_rfl) (by kernel_rfl) (.inl rfl)
def t84 : TI := ⟨.struct #[{ name := "Mean", type := 3, offset := 0, embedded := false, tag := "", pkgPath := "", byteOffset := 0 }, { name := "Var", type := 3, offset := 1, embedded := false, tag := "", pkgPath := "", byteOffset := 8 }, { name := "Wait", type := 3, offset := 2, embedded := false, tag := "", pkgPath := "", byteOffset := 16 }, { name := "Known", type := 4, offset := 3, embedded := false, tag := "", pkgPath := "", byteOffset := 24 }], .agg #[.int .i64 0, .int .i64 0, .int .i64 0, .bool false], 4, 32, true⟩
theorem t84_ok : TyOk Try.prog 84 t84 := TyOk.mk' Try.underlying84 (by kernel_rfl) (by kernel_rfl) (.inr ⟨by kernel_rfl, by kernel_rfl⟩)
def t85 : TI := ⟨.struct #[{ name := "Mean", type := 3, offset := 0, embedded := false, tag := "", pkgPath := "", byteOffset := 0 }, { name := "Var", type := 3, offset := 1, embedded := false, tag := "", pkgPath := "", byteOffset := 8 }, { name := "Wait", type := 3, offset := 2, embedded := false, tag := "", pkgPath := "", byteOffset := 16 }, { name := "Known", type := 4, offset := 3, embedded := false, tag := "", pkgPath := "", byteOffset := 24 }], .agg #[.int .i64 0, .int .i64 0, .int .i64 0, .bool false], 4, 32, true⟩
theorem t85_ok : TyOk Try.prog 85 t85 := TyOk.mk' Try.underlying85 (by kernel_rfl) (by kernel_rfl) (.inr ⟨by kernel_rfl, by kernel_rfl⟩)
def t86 : TI := ⟨.struct #[{ name := "Local", type := 24, offset := 0, embedded := false, tag := "", pkgPath := "", byteOffset := 0 }, { name := "Peer", type := 24, offset := 1, embedded := false, tag := "", pkgPath := "", byteOffset := 4 }, { name := "State", type := 3, offset := 2, embedded := false, tag := "", pkgPath := "", byteOffset := 8 }, { name := "Errors", type := 3, offset := 3, embedded := false, tag := "", pkgPath := "", byteOffset := 16 }, { name := "Rto", type := 85, offset := 4, embedded := false, tag := "", pkgPath := "", byteOffset := 24 }, { name := "Cwnd", type := 3, offset := 8, embedded := false, tag := "", pkgPath := "", byteOffset := 56 }, { name := "Ssthresh", type := 3, offset := 9, embedded := false, tag := "", pkgPath := "", byteOffset := 64 }, { name := "Part", type := 3, offset := 10, embedded := false, tag := "", pkgPath := "", byteOffset := 72 }, { name := "Flight", type := 3, offset := 11, embedded := false, tag := "", pkgPath := "", byteOffset := 80 }, { name := "BeatAt", type := 3, offset := 12, embedded := false, tag := "", pkgPath := "", byteOffset := 88 }, { name := "Beat", type := 23, offset := 13, embedded := false, tag := "", pkgPath := "", byteOffset := 96 }, { name := "BeatSent", type := 3, offset := 14, embedded := false, tag := "", pkgPath := "", byteOffset := 104 }], .agg #[.int .u32 0, .int .u32 0, .int .i64 0, .int .i64 0, .int .i64 0, .int .i64 0, .int .i64 0, .bool false, .int .i64 0, .int .i64 0, .int .i64 0, .int .i64 0, .int .i64 0, .int .u32 0, .int .i64 0], 15, 112, true⟩
theorem t86_ok : TyOk Try.prog 86 t86 := TyOk.mk' Try.underlying86 (by kernel_rfl) (by kernel_rfl) (.inr ⟨by kernel_rfl, by kernel_rfl⟩)
def t87 : TI := ⟨.struct #[{ name := "Local", type := 24, offset := 0, embedded := false, tag := "", pkgPath := "", byteOffset := 0 }, { name := "Peer", type := 24, offset := 1, embedded := false, tag := "", pkgPath := "", byteOffset := 4 }, { name := "State", type := 3, offset := 2, embedded := false, tag := "", pkgPath := "", byteOffset := 8 }, { name := "Errors", type := 3, offset := 3, embedded := false, tag := "", pkgPath := "", byteOffset := 16 }, { name := "Rto", type := 85, offset := 4, embedded := false, tag := "", pkgPath := "", byteOffset := 24 }, { name := "Cwnd", type := 3, offset := 8, embedded := false, tag := "", pkgPath := "", byteOffset := 56 }, { name := "Ssthresh", type := 3, offset := 9, embedded := false, tag := "", pkgPath := "", byteOffset := 64 }, { name := "Part", type := 3, offset := 10, embedded := false, tag := "", pkgPath := "", byteOffset := 72 }, { name := "Flight", type := 3, offset := 11, embedded := false, tag := "", pkgPath := "", byteOffset := 80 }, { name := "BeatAt", type := 3, offset := 12, embedded := false, tag := "", pkgPath := "", byteOffset := 88 }, { name := "Beat", type := 23, offset := 13, embedded := false, tag := "", pkgPath := "", byteOffset := 96 }, { name := "BeatSent", type := 3, offset := 14, embedded := false, tag := "", pkgPath := "", byteOffset := 104 }], .agg #[.int .u32 0, .int .u32 0, .int .i64 0, .int .i64 0, .int .i64 0, .int .i64 0, .int .i64 0, .bool false, .int .i64 0, .int .i64 0, .int .i64 0, .int .i64 0, .int .i64 0, .int .u32 0, .int .i64 0], 15, 112, true⟩
theorem t87_ok : TyOk Try.prog 87 t87 := TyOk.mk' Try.underlying87 (by kernel_rfl) (by kernel_rfl) (.inr ⟨by kernel_rfl, by kernel_rfl⟩)
def t89 : TI := ⟨.slice 87, .slice none 0 0, 1, 24, false⟩
theorem t89_ok : TyOk Try.prog 89 t89 := TyOk.mk' Try.underlying89 (by kernel_rfl) (by kernel_rfl) (.inl rfl)
def t90 : TI := ⟨.struct #[{ name := "What", type := 3, offset := 0, embedded := false, tag := "", pkgPath := "", byteOffset := 0 }, { name := "Local", type := 3, offset := 1, embedded := false, tag := "", pkgPath := "", byteOffset := 8 }, { name := "Peer", type := 3, offset := 2, embedded := false, tag := "", pkgPath := "", byteOffset := 16 }, { name := "N", type := 3, offset := 3, embedded := false, tag := "", pkgPath := "", byteOffset := 24 }], .agg #[.int .i64 0, .int .i64 0, .int .i64 0, .int .i64 0], 4, 32, false⟩
theorem t90_ok : TyOk Try.prog 90 t90 := TyOk.mk' Try.underlying90 (by kernel_rfl) (by kernel_rfl) (.inl rfl)
def t91 : TI := ⟨.struct #[{ name := "What", type := 3, offset := 0, embedded := false, tag := "", pkgPath := "", byteOffset := 0 }, { name := "Local", type := 3, offset := 1, embedded := false, tag := "", pkgPath := "", byteOffset := 8 }, { name := "Peer", type := 3, offset := 2, embedded := false, tag := "", pkgPath := "", byteOffset := 16 }, { name := "N", type := 3, offset := 3, embedded := false, tag := "", pkgPath := "", byteOffset := 24 }], .agg #[.int .i64 0, .int .i64 0, .int .i64 0, .int .i64 0], 4, 32, false⟩
theorem t91_ok : TyOk Try.prog 91 t91 := TyOk.mk' Try.underlying91 (by kernel_rfl) (by kernel_rfl) (.inl rfl)
def t94 : TI := ⟨.slice 3, .slice none 0 0, 1, 24, false⟩
theorem t94_ok : TyOk Try.prog 94 t94 := TyOk.mk' Try.underlying94 (by kernel_rfl) (by kernel_rfl) (.inl rfl)
def t116 : TI := ⟨.struct #[{ name := "Stream", type := 3, offset := 0, embedded := false, tag := "", pkgPath := "", byteOffset := 0 }, { name := "Ssn", type := 3, offset := 1, embedded := false, tag := "", pkgPath := "", byteOffset := 8 }, { name := "Loose", type := 4, offset := 2, embedded := false, tag := "", pkgPath := "", byteOffset := 16 }, { name := "Proto", type := 23, offset := 3, embedded := false, tag := "", pkgPath := "", byteOffset := 20 }, { name := "Data", type := 9, offset := 4, embedded := false, tag := "", pkgPath := "", byteOffset := 24 }], .agg #[.int .i64 0, .int .i64 0, .bool false, .int .u32 0, .string ⟨#[]⟩], 5, 40, true⟩
theorem t116_ok : TyOk Try.prog 116 t116 := TyOk.mk' Try.underlying116 (by kernel_rfl) (by kernel_rfl) (.inr ⟨by kernel_rfl, by kernel_rfl⟩)
def t117 : TI := ⟨.struct #[{ name := "Stream", type := 3, offset := 0, embedded := false, tag := "", pkgPath := "", byteOffset := 0 }, { name := "Ssn", type := 3, offset := 1, embedded := false, tag := "", pkgPath := "", byteOffset := 8 }, { name := "Loose", type := 4, offset := 2, embedded := false, tag := "", pkgPath := "", byteOffset := 16 }, { name := "Proto", type := 23, offset := 3, embedded := false, tag := "", pkgPath := "", byteOffset := 20 }, { name := "Data", type := 9, offset := 4, embedded := false, tag := "", pkgPath := "", byteOffset := 24 }], .agg #[.int .i64 0, .int .i64 0, .bool false, .int .u32 0, .string ⟨#[]⟩], 5, 40, true⟩
theorem t117_ok : TyOk Try.prog 117 t117 := TyOk.mk' Try.underlying117 (by kernel_rfl) (by kernel_rfl) (.inr ⟨by kernel_rfl, by kernel_rfl⟩)
def t120 : TI := ⟨.func #[117, 117] #[4] false, .nilFunc, 1, 8, false⟩
theorem t120_ok : TyOk Try.prog 120 t120 := TyOk.mk' Try.underlying120 (by kernel_rfl) (by kernel_rfl) (.inl rfl)
def t122 : TI := ⟨.func #[117] #[4] false, .nilFunc, 1, 8, false⟩
theorem t122_ok : TyOk Try.prog 122 t122 := TyOk.mk' Try.underlying122 (by kernel_rfl) (by kernel_rfl) (.inl rfl)
def t130 : TI := ⟨.struct #[{ name := "list", type := 89, offset := 0, embedded := false, tag := "", pkgPath := "crossway/paths", byteOffset := 0 }, { name := "first", type := 3, offset := 1, embedded := false, tag := "", pkgPath := "crossway/paths", byteOffset := 24 }], .agg #[.slice none 0 0, .int .i64 0], 2, 32, false⟩
theorem t130_ok : TyOk Try.prog 130 t130 := TyOk.mk' Try.underlying130 (by kernel_rfl) (by kernel_rfl) (.inl rfl)
def t131 : TI := ⟨.struct #[{ name := "list", type := 89, offset := 0, embedded := false, tag := "", pkgPath := "crossway/paths", byteOffset := 0 }, { name := "first", type := 3, offset := 1, embedded := false, tag := "", pkgPath := "crossway/paths", byteOffset := 24 }], .agg #[.slice none 0 0, .int .i64 0], 2, 32, false⟩
theorem t131_ok : TyOk Try.prog 131 t131 := TyOk.mk' Try.underlying131 (by kernel_rfl) (by kernel_rfl) (.inl rfl)
def t138 : TI := ⟨.func #[87] #[4] false, .nilFunc, 1, 8, false⟩
theorem t138_ok : TyOk Try.prog 138 t138 := TyOk.mk' Try.underlying138 (by kernel_rfl) (by kernel_rfl) (.inl rfl)
def t139 : TI := ⟨.array 2 3, .agg #[.int .i64 0, .int .i64 0], 2, 16, false⟩
theorem t139_ok : TyOk Try.prog 139 t139 := TyOk.mk' Try.underlying139 (by kernel_rfl) (by kernel_rfl) (.inl rfl)
def t140 : TI := ⟨.slice 139, .slice none 0 0, 1, 24, false⟩
theorem t140_ok : TyOk Try.prog 140 t140 := TyOk.mk' Try.underlying140 (by kernel_rfl) (by kernel_rfl) (.inl rfl)
theorem f8_ok : FnOk Try.prog 8 Try.f8 := ⟨Try.func8, by kernel_rfl⟩
theorem f12_ok : FnOk Try.prog 12 Try.f12 := ⟨Try.func12, by kernel_rfl⟩
theorem f33_ok : FnOk Try.prog 33 Try.f33 := ⟨Try.func33, by kernel_rfl⟩
theorem f34_ok : FnOk Try.prog 34 Try.f34 := ⟨Try.func34, by kernel_rfl⟩
theorem f35_ok : FnOk Try.prog 35 Try.f35 := ⟨Try.func35, by kernel_rfl⟩
theorem f36_ok : FnOk Try.prog 36 Try.f36 := ⟨Try.func36, by kernel_rfl⟩
theorem f37_ok : FnOk Try.prog 37 Try.f37 := ⟨Try.func37, by kernel_rfl⟩
theorem f50_ok : FnOk Try.prog 50 Try.f50 := ⟨Try.func50, by kernel_rfl⟩
theorem f51_ok : FnOk Try.prog 51 Try.f51 := ⟨Try.func51, by kernel_rfl⟩
theorem f52_ok : FnOk Try.prog 52 Try.f52 := ⟨Try.func52, by kernel_rfl⟩
theorem f53_ok : FnOk Try.prog 53 Try.f53 := ⟨Try.func53, by kernel_rfl⟩
theorem f54_ok : FnOk Try.prog 54 Try.f54 := ⟨Try.func54, by kernel_rfl⟩
theorem f55_ok : FnOk Try.prog 55 Try.f55 := ⟨Try.func55, by kernel_rfl⟩
theorem f56_ok : FnOk Try.prog 56 Try.f56 := ⟨Try.func56, by kernel_rfl⟩
theorem f57_ok : FnOk Try.prog 57 Try.f57 := ⟨Try.func57, by kernel_rfl⟩
theorem f58_ok : FnOk Try.prog 58 Try.f58 := ⟨Try.func58, by kernel_rfl⟩
theorem f59_ok : FnOk Try.prog 59 Try.f59 := ⟨Try.func59, by kernel_rfl⟩
theorem f60_ok : FnOk Try.prog 60 Try.f60 := ⟨Try.func60, by kernel_rfl⟩
theorem f61_ok : FnOk Try.prog 61 Try.f61 := ⟨Try.func61, by kernel_rfl⟩
theorem f62_ok : FnOk Try.prog 62 Try.f62 := ⟨Try.func62, by kernel_rfl⟩
theorem f63_ok : FnOk Try.prog 63 Try.f63 := ⟨Try.func63, by kernel_rfl⟩
theorem f64_ok : FnOk Try.prog 64 Try.f64 := ⟨Try.func64, by kernel_rfl⟩
theorem f65_ok : FnOk Try.prog 65 Try.f65 := ⟨Try.func65, by kernel_rfl⟩
theorem f66_ok : FnOk Try.prog 66 Try.f66 := ⟨Try.func66, by kernel_rfl⟩
theorem f67_ok : FnOk Try.prog 67 Try.f67 := ⟨Try.func67, by kernel_rfl⟩
theorem f75_ok : FnOk Try.prog 75 Try.f75 := ⟨Try.func75, by kernel_rfl⟩
theorem f76_ok : FnOk Try.prog 76 Try.f76 := ⟨Try.func76, by kernel_rfl⟩
theorem f77_ok : FnOk Try.prog 77 Try.f77 := ⟨Try.func77, by kernel_rfl⟩
theorem f78_ok : FnOk Try.prog 78 Try.f78 := ⟨Try.func78, by kernel_rfl⟩
theorem f79_ok : FnOk Try.prog 79 Try.f79 := ⟨Try.func79, by kernel_rfl⟩
theorem f80_ok : FnOk Try.prog 80 Try.f80 := ⟨Try.func80, by kernel_rfl⟩
theorem f89_ok : FnOk Try.prog 89 Try.f89 := ⟨Try.func89, by kernel_rfl⟩
theorem f90_ok : FnOk Try.prog 90 Try.f90 := ⟨Try.func90, by kernel_rfl⟩
theorem f91_ok : FnOk Try.prog 91 Try.f91 := ⟨Try.func91, by kernel_rfl⟩
theorem f92_ok : FnOk Try.prog 92 Try.f92 := ⟨Try.func92, by kernel_rfl⟩
theorem f93_ok : FnOk Try.prog 93 Try.f93 := ⟨Try.func93, by kernel_rfl⟩
theorem f94_ok : FnOk Try.prog 94 Try.f94 := ⟨Try.func94, by kernel_rfl⟩
theorem f95_ok : FnOk Try.prog 95 Try.f95 := ⟨Try.func95, by kernel_rfl⟩
theorem f96_ok : FnOk Try.prog 96 Try.f96 := ⟨Try.func96, by kernel_rfl⟩
theorem f97_ok : FnOk Try.prog 97 Try.f97 := ⟨Try.func97, by kernel_rfl⟩
theorem f98_ok : FnOk Try.prog 98 Try.f98 := ⟨Try.func98, by kernel_rfl⟩
theorem f100_ok : FnOk Try.prog 100 Try.f100 := ⟨Try.func100, by kernel_rfl⟩
theorem f101_ok : FnOk Try.prog 101 Try.f101 := ⟨Try.func101, by kernel_rfl⟩
def g3 : Gd := Gd.int .i64
theorem o3 {N : Nat} {w0 w : World} (hN : N = w.heap.size) : Opn Try.prog N w0 w 3 g3 := Opn.int Try.underlying3
def g4 : Gd := Gd.bool
theorem o4 {N : Nat} {w0 w : World} (hN : N = w.heap.size) : Opn Try.prog N w0 w 4 g4 := Opn.bool Try.underlying4
def g23 : Gd := Gd.int .u32
theorem o23 {N : Nat} {w0 w : World} (hN : N = w.heap.size) : Opn Try.prog N w0 w 23 g23 := Opn.int Try.underlying23
def g9 : Gd := Gd.str
theorem o9 {N : Nat} {w0 w : World} (hN : N = w.heap.size) : Opn Try.prog N w0 w 9 g9 := Opn.str Try.underlying9
def g117 : Gd := Gd.agg [g3, g3, g4, g23, g9]
theorem o117 {N : Nat} {w0 w : World} (hN : N = w.heap.size) : Opn Try.prog N w0 w 117 g117 := Opn.struct Try.underlying117 (by kernel_rfl) (show OpnAll Try.prog N w0 w [(3, 0), (3, 1), (4, 2), (23, 3), (9, 4)] [g3, g3, g4, g23, g9] from ⟨o3 hN, o3 hN, o4 hN, o23 hN, o9 hN, trivial⟩)
def g60 : Gd := Gd.row 117 5 g117
theorem o60 {N : Nat} {w0 w : World} (hN : N = w.heap.size) : Opn Try.prog N w0 w 60 g60 := Opn.slice Try.underlying60 (by kernel_rfl) (by decide) (o117 hN) hN
def g91 : Gd := Gd.agg [g3, g3, g3, g3]
theorem o91 {N : Nat} {w0 w : World} (hN : N = w.heap.size) : Opn Try.prog N w0 w 91 g91 := Opn.struct Try.underlying91 (by kernel_rfl) (show OpnAll Try.prog N w0 w [(3, 0), (3, 1), (3, 2), (3, 3)] [g3, g3, g3, g3] from ⟨o3 hN, o3 hN, o3 hN, o3 hN, trivial⟩)
def g81 : Gd := Gd.row 91 4 g91
theorem o81 {N : Nat} {w0 w : World} (hN : N = w.heap.size) : Opn Try.prog N w0 w 81 g81 := Opn.slice Try.underlying81 (by kernel_rfl) (by decide) (o91 hN) hN
noncomputable def tys : Tr TI := (.node 89 t89 (.node 81 t81 (.node 23 t23 (.node 4 t4 (.node 3 t3 .leaf .leaf) (.node 9 t9 .leaf .leaf)) (.node 60 t60 (.node 24 t24 .leaf .leaf) .leaf)) (.node 85 t85 (.node 84 t84 (.node 82 t82 .leaf .leaf) .leaf) (.node 87 t87 (.node 86 t86 .leaf .leaf) .leaf))) (.node 122 t122 (.node 116 t116 (.node 91 t91 (.node 90 t90 .leaf .leaf) (.node 94 t94 .leaf .leaf)) (.node 120 t120 (.node 117 t117 .leaf .leaf) .leaf)) (.node 138 t138 (.node 131 t131 (.node 130 t130 .leaf .leaf) .leaf) (.node 140 t140 (.node 139 t139 .leaf .leaf) .leaf))))
noncomputable def fns : Tr Func := (.node 64 Try.f64 (.node 53 Try.f53 (.node 36 Try.f36 (.node 33 Try.f33 (.node 12 Try.f12 (.node 8 Try.f8 .leaf .leaf) .leaf) (.node 35 Try.f35 (.node 34 Try.f34 .leaf .leaf) .leaf)) (.node 51 Try.f51 (.node 50 Try.f50 (.node 37 Try.f37 .leaf .leaf) .leaf) (.node 52 Try.f52 .leaf .leaf))) (.node 59 Try.f59 (.node 56 Try.f56 (.node 55 Try.f55 (.node 54 Try.f54 .leaf .leaf) .leaf) (.node 58 Try.f58 (.node 57 Try.f57 .leaf .leaf) .leaf)) (.node 62 Try.f62 (.node 61 Try.f61 (.node 60 Try.f60 .leaf .leaf) .leaf) (.node 63 Try.f63 .leaf .leaf)))) (.node 90 Try.f90 (.node 77 Try.f77 (.node 67 Try.f67 (.node 66 Try.f66 (.node 65 Try.f65 .leaf .leaf) .leaf) (.node 76 Try.f76 (.node 75 Try.f75 .leaf .leaf) .leaf)) (.node 80 Try.f80 (.node 79 Try.f79 (.node 78 Try.f78 .leaf .leaf) .leaf) (.node 89 Try.f89 .leaf .leaf))) (.node 96 Try.f96 (.node 93 Try.f93 (.node 92 Try.f92 (.node 91 Try.f91 .leaf .leaf) .leaf) (.node 95 Try.f95 (.node 94 Try.f94 .leaf .leaf) .leaf)) (.node 100 Try.f100 (.node 98 Try.f98 (.node 97 Try.f97 .leaf .leaf) .leaf) (.node 101 Try.f101 .leaf .leaf)))))
noncomputable def env : Env := mkEnv tys fns
theorem env_ok : EnvOk Try.prog env := mkEnv_ok (T := tys) (F := fns) ⟨t89_ok, ⟨t81_ok, ⟨t23_ok, ⟨t4_ok, ⟨t3_ok, trivial, trivial⟩, ⟨t9_ok, trivial, trivial⟩⟩, ⟨t60_ok, ⟨t24_ok, trivial, trivial⟩, trivial⟩⟩, ⟨t85_ok, ⟨t84_ok, ⟨t82_ok, trivial, trivial⟩, trivial⟩, ⟨t87_ok, ⟨t86_ok, trivial, trivial⟩, trivial⟩⟩⟩, ⟨t122_ok, ⟨t116_ok, ⟨t91_ok, ⟨t90_ok, trivial, trivial⟩, ⟨t94_ok, trivial, trivial⟩⟩, ⟨t120_ok, ⟨t117_ok, trivial, trivial⟩, trivial⟩⟩, ⟨t138_ok, ⟨t131_ok, ⟨t130_ok, trivial, trivial⟩, trivial⟩, ⟨t140_ok, ⟨t139_ok, trivial, trivial⟩, trivial⟩⟩⟩⟩ ⟨f64_ok, ⟨f53_ok, ⟨f36_ok, ⟨f33_ok, ⟨f12_ok, ⟨f8_ok, trivial, trivial⟩, trivial⟩, ⟨f35_ok, ⟨f34_ok, trivial, trivial⟩, trivial⟩⟩, ⟨f51_ok, ⟨f50_ok, ⟨f37_ok, trivial, trivial⟩, trivial⟩, ⟨f52_ok, trivial, trivial⟩⟩⟩, ⟨f59_ok, ⟨f56_ok, ⟨f55_ok, ⟨f54_ok, trivial, trivial⟩, trivial⟩, ⟨f58_ok, ⟨f57_ok, trivial, trivial⟩, trivial⟩⟩, ⟨f62_ok, ⟨f61_ok, ⟨f60_ok, trivial, trivial⟩, trivial⟩, ⟨f63_ok, trivial, trivial⟩⟩⟩⟩, ⟨f90_ok, ⟨f77_ok, ⟨f67_ok, ⟨f66_ok, ⟨f65_ok, trivial, trivial⟩, trivial⟩, ⟨f76_ok, ⟨f75_ok, trivial, trivial⟩, trivial⟩⟩, ⟨f80_ok, ⟨f79_ok, ⟨f78_ok, trivial, trivial⟩, trivial⟩, ⟨f89_ok, trivial, trivial⟩⟩⟩, ⟨f96_ok, ⟨f93_ok, ⟨f92_ok, ⟨f91_ok, trivial, trivial⟩, trivial⟩, ⟨f95_ok, ⟨f94_ok, trivial, trivial⟩, trivial⟩⟩, ⟨f100_ok, ⟨f98_ok, ⟨f97_ok, trivial, trivial⟩, trivial⟩, ⟨f101_ok, trivial, trivial⟩⟩⟩⟩⟩ (by kernel_rfl)
instance : Plain env := ⟨fun _ _ _ => rfl⟩
end Go.Proofs.Ytnjknabighmedaa.Vt
