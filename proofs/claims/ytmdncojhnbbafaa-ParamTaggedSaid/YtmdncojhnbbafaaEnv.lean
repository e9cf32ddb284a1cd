/- The tables of types and functions, for the abstract machine. -/
import Derived.Test.YtmdncojhnbbafaaVm2
import Derived.Test.YtmdncojhnbbafaaProg
namespace Go.Proofs.Ytmdncojhnbbafaa.Vt
open Go Go.Proofs Go.Proofs.YtmdncojhnbbafaaV
set_option maxRecDepth 100000
set_option linter.unusedVariables false
def t3 : TI := ⟨.int .i64, .int .i64 0, 1, 8, false⟩
theorem t3_ok : TyOk Try.prog 3 t3 := TyOk.mk' Try.underlying3 (by kernel_rfl) (by kernel_rfl) (.inl rfl)
def t4 : TI := ⟨.bool, .bool false, 1, 1, false⟩
theorem t4_ok : TyOk Try.prog 4 t4 := TyOk.mk' Try.underlying4 (by kernel_rfl) (by kernel_rfl) (.inl rfl)
def t5 : TI := ⟨.int .u8, .int .u8 0, 1, 1, false⟩
theorem t5_ok : TyOk Try.prog 5 t5 := TyOk.mk' Try.underlying5 (by kernel_rfl) (by kernel_rfl) (.inl rfl)
def t9 : TI := ⟨.string, .string ⟨#[]⟩, 1, 16, false⟩
theorem t9_ok : TyOk Try.prog 9 t9 := TyOk.mk' Try.underlying9 (by kernel_rfl) (by kernel_rfl) (.inl rfl)
def t23 : TI := ⟨.int .u32, .int .u32 0, 1, 4, false⟩
theorem t23_ok : TyOk Try.prog 23 t23 := TyOk.mk' Try.underlying23 (by kernel_rfl) (by kernel_rfl) (.inl rfl)
def t31 : TI := ⟨.int .u64, .int .u64 0, 1, 8, false⟩
theorem t31_ok : TyOk Try.prog 31 t31 := TyOk.mk' Try.underlying31 (by kernel_rfl) (by kernel_rfl) (.inl rfl)
def t42 : TI := ⟨.pointer 113, .pointer none, 1, 8, false⟩
theorem t42_ok : TyOk Try.prog 42 t42 := TyOk.mk' Try.underlying42 (by kernel_rfl) (by kernel_rfl) (.inl rfl)
def t58 : TI := ⟨.int .i64, .int .i64 0, 1, 8, false⟩
theorem t58_ok : TyOk Try.prog 58 t58 := TyOk.mk' Try.underlying58 (by kernel_rfl) (by kernel_rfl) (.inl rfl)
def t64 : TI := ⟨.struct #[{ name := "Type", type := 3, offset := 0, embedded := false, tag := "", pkgPath := "", byteOffset := 0 }, { name := "Value", type := 9, offset := 1, embedded := false, tag := "", pkgPath := "", byteOffset := 8 }], .agg #[.int .i64 0, .string ⟨#[]⟩], 2, 24, false⟩
theorem t64_ok : TyOk Try.prog 64 t64 := TyOk.mk' Try.underlying64 (by kernel_rfl) (by kernel_rfl) (.inl rfl)
def t65 : TI := ⟨.struct #[{ name := "Type", type := 3, offset := 0, embedded := false, tag := "", pkgPath := "", byteOffset := 0 }, { name := "Value", type := 9, offset := 1, embedded := false, tag := "", pkgPath := "", byteOffset := 8 }], .agg #[.int .i64 0, .string ⟨#[]⟩], 2, 24, false⟩
theorem t65_ok : TyOk Try.prog 65 t65 := TyOk.mk' Try.underlying65 (by kernel_rfl) (by kernel_rfl) (.inl rfl)
def t69 : TI := ⟨.array 2 23, .agg #[.int .u32 0, .int .u32 0], 2, 8, false⟩
theorem t69_ok : TyOk Try.prog 69 t69 := TyOk.mk' Try.underlying69 (by kernel_rfl) (by kernel_rfl) (.inl rfl)
def t94 : TI := ⟨.int .u32, .int .u32 0, 1, 4, false⟩
theorem t94_ok : TyOk Try.prog 94 t94 := TyOk.mk' Try.underlying94 (by kernel_rfl) (by kernel_rfl) (.inl rfl)
def t110 : TI := ⟨.slice 5, .slice none 0 0, 1, 24, false⟩
theorem t110_ok : TyOk Try.prog 110 t110 := TyOk.mk' Try.underlying110 (by kernel_rfl) (by kernel_rfl) (.inl rfl)
def t112 : TI := ⟨.struct #[{ name := "s", type := 9, offset := 0, embedded := false, tag := "", pkgPath := "crossway/octet", byteOffset := 0 }, { name := "err", type := 58, offset := 1, embedded := false, tag := "", pkgPath := "crossway/octet", byteOffset := 16 }], .agg #[.string ⟨#[]⟩, .int .i64 0], 2, 24, false⟩
theorem t112_ok : TyOk Try.prog 112 t112 := TyOk.mk' Try.underlying112 (by kernel_rfl) (by kernel_rfl) (.inl rfl)
def t113 : TI := ⟨.struct #[{ name := "s", type := 9, offset := 0, embedded := false, tag := "", pkgPath := "crossway/octet", byteOffset := 0 }, { name := "err", type := 58, offset := 1, embedded := false, tag := "", pkgPath := "crossway/octet", byteOffset := 16 }], .agg #[.string ⟨#[]⟩, .int .i64 0], 2, 24, false⟩
theorem t113_ok : TyOk Try.prog 113 t113 := TyOk.mk' Try.underlying113 (by kernel_rfl) (by kernel_rfl) (.inl rfl)
theorem f8_ok : FnOk Try.prog 8 Try.f8 := ⟨Try.func8, by kernel_rfl⟩
theorem f24_ok : FnOk Try.prog 24 Try.f24 := ⟨Try.func24, by kernel_rfl⟩
theorem f25_ok : FnOk Try.prog 25 Try.f25 := ⟨Try.func25, by kernel_rfl⟩
theorem f27_ok : FnOk Try.prog 27 Try.f27 := ⟨Try.func27, by kernel_rfl⟩
theorem f29_ok : FnOk Try.prog 29 Try.f29 := ⟨Try.func29, by kernel_rfl⟩
theorem f30_ok : FnOk Try.prog 30 Try.f30 := ⟨Try.func30, by kernel_rfl⟩
theorem f34_ok : FnOk Try.prog 34 Try.f34 := ⟨Try.func34, by kernel_rfl⟩
theorem f37_ok : FnOk Try.prog 37 Try.f37 := ⟨Try.func37, by kernel_rfl⟩
theorem f41_ok : FnOk Try.prog 41 Try.f41 := ⟨Try.func41, by kernel_rfl⟩
theorem f43_ok : FnOk Try.prog 43 Try.f43 := ⟨Try.func43, by kernel_rfl⟩
theorem f45_ok : FnOk Try.prog 45 Try.f45 := ⟨Try.func45, by kernel_rfl⟩
theorem f47_ok : FnOk Try.prog 47 Try.f47 := ⟨Try.func47, by kernel_rfl⟩
theorem f48_ok : FnOk Try.prog 48 Try.f48 := ⟨Try.func48, by kernel_rfl⟩
theorem f49_ok : FnOk Try.prog 49 Try.f49 := ⟨Try.func49, by kernel_rfl⟩
theorem f53_ok : FnOk Try.prog 53 Try.f53 := ⟨Try.func53, by kernel_rfl⟩
theorem f55_ok : FnOk Try.prog 55 Try.f55 := ⟨Try.func55, by kernel_rfl⟩
theorem f63_ok : FnOk Try.prog 63 Try.f63 := ⟨Try.func63, by kernel_rfl⟩
theorem f71_ok : FnOk Try.prog 71 Try.f71 := ⟨Try.func71, by kernel_rfl⟩
theorem f73_ok : FnOk Try.prog 73 Try.f73 := ⟨Try.func73, by kernel_rfl⟩
def g3 : Gd := Gd.int .i64
theorem o3 {N : Nat} {w0 w : World} (hN : N = w.heap.size) : Opn Try.prog N w0 w 3 g3 := Opn.int Try.underlying3
def g9 : Gd := Gd.str
theorem o9 {N : Nat} {w0 w : World} (hN : N = w.heap.size) : Opn Try.prog N w0 w 9 g9 := Opn.str Try.underlying9
def g65 : Gd := Gd.agg [g3, g9]
theorem o65 {N : Nat} {w0 w : World} (hN : N = w.heap.size) : Opn Try.prog N w0 w 65 g65 := Opn.struct Try.underlying65 (by kernel_rfl) (show OpnAll Try.prog N w0 w [(3, 0), (9, 1)] [g3, g9] from ⟨o3 hN, o9 hN, trivial⟩)
def g23 : Gd := Gd.int .u32
theorem o23 {N : Nat} {w0 w : World} (hN : N = w.heap.size) : Opn Try.prog N w0 w 23 g23 := Opn.int Try.underlying23
def g69 : Gd := Gd.agg [g23, g23]
theorem o69 {N : Nat} {w0 w : World} (hN : N = w.heap.size) : Opn Try.prog N w0 w 69 g69 := Opn.array Try.underlying69 (by kernel_rfl) (show OpnAll Try.prog N w0 w [(23, 0), (23, 1)] [g23, g23] from ⟨o23 hN, o23 hN, trivial⟩)
noncomputable def tys : Tr TI := (.node 58 t58 (.node 9 t9 (.node 4 t4 (.node 3 t3 .leaf .leaf) (.node 5 t5 .leaf .leaf)) (.node 31 t31 (.node 23 t23 .leaf .leaf) (.node 42 t42 .leaf .leaf))) (.node 94 t94 (.node 65 t65 (.node 64 t64 .leaf .leaf) (.node 69 t69 .leaf .leaf)) (.node 112 t112 (.node 110 t110 .leaf .leaf) (.node 113 t113 .leaf .leaf))))
noncomputable def fns : Tr Func := (.node 43 Try.f43 (.node 29 Try.f29 (.node 25 Try.f25 (.node 24 Try.f24 (.node 8 Try.f8 .leaf .leaf) .leaf) (.node 27 Try.f27 .leaf .leaf)) (.node 37 Try.f37 (.node 34 Try.f34 (.node 30 Try.f30 .leaf .leaf) .leaf) (.node 41 Try.f41 .leaf .leaf))) (.node 53 Try.f53 (.node 48 Try.f48 (.node 47 Try.f47 (.node 45 Try.f45 .leaf .leaf) .leaf) (.node 49 Try.f49 .leaf .leaf)) (.node 71 Try.f71 (.node 63 Try.f63 (.node 55 Try.f55 .leaf .leaf) .leaf) (.node 73 Try.f73 .leaf .leaf))))
noncomputable def env : Env := mkEnv tys fns
theorem env_ok : EnvOk Try.prog env := mkEnv_ok (T := tys) (F := fns) ⟨t58_ok, ⟨t9_ok, ⟨t4_ok, ⟨t3_ok, trivial, trivial⟩, ⟨t5_ok, trivial, trivial⟩⟩, ⟨t31_ok, ⟨t23_ok, trivial, trivial⟩, ⟨t42_ok, trivial, trivial⟩⟩⟩, ⟨t94_ok, ⟨t65_ok, ⟨t64_ok, trivial, trivial⟩, ⟨t69_ok, trivial, trivial⟩⟩, ⟨t112_ok, ⟨t110_ok, trivial, trivial⟩, ⟨t113_ok, trivial, trivial⟩⟩⟩⟩ ⟨f43_ok, ⟨f29_ok, ⟨f25_ok, ⟨f24_ok, ⟨f8_ok, trivial, trivial⟩, trivial⟩, ⟨f27_ok, trivial, trivial⟩⟩, ⟨f37_ok, ⟨f34_ok, ⟨f30_ok, trivial, trivial⟩, trivial⟩, ⟨f41_ok, trivial, trivial⟩⟩⟩, ⟨f53_ok, ⟨f48_ok, ⟨f47_ok, ⟨f45_ok, trivial, trivial⟩, trivial⟩, ⟨f49_ok, trivial, trivial⟩⟩, ⟨f71_ok, ⟨f63_ok, ⟨f55_ok, trivial, trivial⟩, trivial⟩, ⟨f73_ok, trivial, trivial⟩⟩⟩⟩ (by kernel_rfl)
instance : Plain env := ⟨fun _ _ _ => rfl⟩
end Go.Proofs.Ytmdncojhnbbafaa.Vt
