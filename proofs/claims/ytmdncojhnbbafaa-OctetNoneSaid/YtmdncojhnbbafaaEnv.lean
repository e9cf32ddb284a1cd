/- The tables of types and functions, for the abstract machine. -/
import Derived.Test.YtmdncojhnbbafaaVmU
import Derived.Test.YtmdncojhnbbafaaProg
namespace Go.Proofs.Ytmdncojhnbbafaa.Vt
open Go Go.Proofs Go.Proofs.YtmdncojhnbbafaaV
set_option maxRecDepth 100000
set_option linter.unusedVariables false
def t3 : TI := ⟨.int .i64, .int .i64 0, 1, 8, false⟩
theorem t3_ok : TyOk Try.prog 3 t3 := TyOk.mk' Try.underlying3 (by kernel_rfl) (by kernel_rfl) (.inl rfl)
def t5 : TI := ⟨.int .u8, .int .u8 0, 1, 1, false⟩
theorem t5_ok : TyOk Try.prog 5 t5 := TyOk.mk' Try.underlying5 (by kernel_rfl) (by kernel_rfl) (.inl rfl)
def t9 : TI := ⟨.string, .string ⟨#[]⟩, 1, 16, false⟩
theorem t9_ok : TyOk Try.prog 9 t9 := TyOk.mk' Try.underlying9 (by kernel_rfl) (by kernel_rfl) (.inl rfl)
def t23 : TI := ⟨.int .u32, .int .u32 0, 1, 4, false⟩
theorem t23_ok : TyOk Try.prog 23 t23 := TyOk.mk' Try.underlying23 (by kernel_rfl) (by kernel_rfl) (.inl rfl)
def t31 : TI := ⟨.int .u64, .int .u64 0, 1, 8, false⟩
theorem t31_ok : TyOk Try.prog 31 t31 := TyOk.mk' Try.underlying31 (by kernel_rfl) (by kernel_rfl) (.inl rfl)
def t42 : TI := ⟨.pointer 113, .pointer none, 1, 8, false⟩
theorem t42_ok : TyOk Try.prog 42 t42 := TyOk.mk' Try.underlying42 (by kernel_rfl) (by kernel_rfl) (.inl rfl)
def t58 : TI := ⟨.int .i64, .int .i64 0, 1, 8, false⟩
theorem t58_ok : TyOk Try.prog 58 t58 := TyOk.mk' Try.underlying58 (by kernel_rfl) (by kernel_rfl) (.inl rfl)
def t110 : TI := ⟨.slice 5, .slice none 0 0, 1, 24, false⟩
theorem t110_ok : TyOk Try.prog 110 t110 := TyOk.mk' Try.underlying110 (by kernel_rfl) (by kernel_rfl) (.inl rfl)
def t112 : TI := ⟨.struct #[{ name := "s", type := 9, offset := 0, embedded := false, tag := "", pkgPath := "crossway/octet", byteOffset := 0 }, { name := "err", type := 58, offset := 1, embedded := false, tag := "", pkgPath := "crossway/octet", byteOffset := 16 }], .agg #[.string ⟨#[]⟩, .int .i64 0], 2, 24, false⟩
theorem t112_ok : TyOk Try.prog 112 t112 := TyOk.mk' Try.underlying112 (by kernel_rfl) (by kernel_rfl) (.inl rfl)
def t113 : TI := ⟨.struct #[{ name := "s", type := 9, offset := 0, embedded := false, tag := "", pkgPath := "crossway/octet", byteOffset := 0 }, { name := "err", type := 58, offset := 1, embedded := false, tag := "", pkgPath := "crossway/octet", byteOffset := 16 }], .agg #[.string ⟨#[]⟩, .int .i64 0], 2, 24, false⟩
theorem t113_ok : TyOk Try.prog 113 t113 := TyOk.mk' Try.underlying113 (by kernel_rfl) (by kernel_rfl) (.inl rfl)
theorem f6_ok : FnOk Try.prog 6 Try.f6 := ⟨Try.func6, by kernel_rfl⟩
theorem f22_ok : FnOk Try.prog 22 Try.f22 := ⟨Try.func22, by kernel_rfl⟩
theorem f25_ok : FnOk Try.prog 25 Try.f25 := ⟨Try.func25, by kernel_rfl⟩
theorem f29_ok : FnOk Try.prog 29 Try.f29 := ⟨Try.func29, by kernel_rfl⟩
theorem f30_ok : FnOk Try.prog 30 Try.f30 := ⟨Try.func30, by kernel_rfl⟩
theorem f32_ok : FnOk Try.prog 32 Try.f32 := ⟨Try.func32, by kernel_rfl⟩
theorem f33_ok : FnOk Try.prog 33 Try.f33 := ⟨Try.func33, by kernel_rfl⟩
theorem f34_ok : FnOk Try.prog 34 Try.f34 := ⟨Try.func34, by kernel_rfl⟩
theorem f35_ok : FnOk Try.prog 35 Try.f35 := ⟨Try.func35, by kernel_rfl⟩
theorem f37_ok : FnOk Try.prog 37 Try.f37 := ⟨Try.func37, by kernel_rfl⟩
theorem f38_ok : FnOk Try.prog 38 Try.f38 := ⟨Try.func38, by kernel_rfl⟩
theorem f39_ok : FnOk Try.prog 39 Try.f39 := ⟨Try.func39, by kernel_rfl⟩
theorem f41_ok : FnOk Try.prog 41 Try.f41 := ⟨Try.func41, by kernel_rfl⟩
theorem f42_ok : FnOk Try.prog 42 Try.f42 := ⟨Try.func42, by kernel_rfl⟩
theorem f43_ok : FnOk Try.prog 43 Try.f43 := ⟨Try.func43, by kernel_rfl⟩
theorem f45_ok : FnOk Try.prog 45 Try.f45 := ⟨Try.func45, by kernel_rfl⟩
theorem f71_ok : FnOk Try.prog 71 Try.f71 := ⟨Try.func71, by kernel_rfl⟩
def g3 : Gd := Gd.int .i64
theorem o3 {N : Nat} {w0 w : World} (hN : N = w.heap.size) : Opn Try.prog N w0 w 3 g3 := Opn.int Try.underlying3
noncomputable def tys : Tr TI := (.node 42 t42 (.node 9 t9 (.node 5 t5 (.node 3 t3 .leaf .leaf) .leaf) (.node 31 t31 (.node 23 t23 .leaf .leaf) .leaf)) (.node 112 t112 (.node 110 t110 (.node 58 t58 .leaf .leaf) .leaf) (.node 113 t113 .leaf .leaf)))
noncomputable def fns : Tr Func := (.node 35 Try.f35 (.node 30 Try.f30 (.node 25 Try.f25 (.node 22 Try.f22 (.node 6 Try.f6 .leaf .leaf) .leaf) (.node 29 Try.f29 .leaf .leaf)) (.node 33 Try.f33 (.node 32 Try.f32 .leaf .leaf) (.node 34 Try.f34 .leaf .leaf))) (.node 42 Try.f42 (.node 39 Try.f39 (.node 38 Try.f38 (.node 37 Try.f37 .leaf .leaf) .leaf) (.node 41 Try.f41 .leaf .leaf)) (.node 45 Try.f45 (.node 43 Try.f43 .leaf .leaf) (.node 71 Try.f71 .leaf .leaf))))
noncomputable def env : Env := mkEnv tys fns
theorem env_ok : EnvOk Try.prog env := mkEnv_ok (T := tys) (F := fns) ⟨t42_ok, ⟨t9_ok, ⟨t5_ok, ⟨t3_ok, trivial, trivial⟩, trivial⟩, ⟨t31_ok, ⟨t23_ok, trivial, trivial⟩, trivial⟩⟩, ⟨t112_ok, ⟨t110_ok, ⟨t58_ok, trivial, trivial⟩, trivial⟩, ⟨t113_ok, trivial, trivial⟩⟩⟩ ⟨f35_ok, ⟨f30_ok, ⟨f25_ok, ⟨f22_ok, ⟨f6_ok, trivial, trivial⟩, trivial⟩, ⟨f29_ok, trivial, trivial⟩⟩, ⟨f33_ok, ⟨f32_ok, trivial, trivial⟩, ⟨f34_ok, trivial, trivial⟩⟩⟩, ⟨f42_ok, ⟨f39_ok, ⟨f38_ok, ⟨f37_ok, trivial, trivial⟩, trivial⟩, ⟨f41_ok, trivial, trivial⟩⟩, ⟨f45_ok, ⟨f43_ok, trivial, trivial⟩, ⟨f71_ok, trivial, trivial⟩⟩⟩⟩ (by kernel_rfl)
end Go.Proofs.Ytmdncojhnbbafaa.Vt
