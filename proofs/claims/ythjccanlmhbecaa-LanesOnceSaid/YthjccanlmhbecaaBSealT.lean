/- Types and functions of seals, as instances. -/
import Derived.Test.YthjccanlmhbecaaBAesT
import Derived.Test.YthjccanlmhbecaaBSealS
set_option linter.unusedVariables false
set_option linter.unusedSimpArgs false
open Go Go.Bx Go.Proofs
namespace Go.Proofs.X
instance : Clb Try.prog 23 := ⟨_, Try.func23, by kernel_rfl, rfl⟩
instance : Clb Try.prog 17 := ⟨_, Try.func17, by kernel_rfl, rfl⟩
instance : Clb Try.prog 16 := ⟨_, Try.func16, by kernel_rfl, rfl⟩
instance : Clb Try.prog 18 := ⟨_, Try.func18, by kernel_rfl, rfl⟩
instance : Und Try.prog 26 (.struct #[{ name := "Mac", type := 23, offset := 0, embedded := false, tag := "", pkgPath := "", byteOffset := 0 }, { name := "Cipher", type := 24, offset := 32, embedded := false, tag := "", pkgPath := "", byteOffset := 32 }]) := ⟨Try.underlying26⟩
instance : Sz Try.prog 26 48 := ⟨Try.sizeOf26⟩
instance : Ag Try.prog 26 true := ⟨Try.isAgg26⟩
instance : Zv Try.prog 26 [.ints .u8 32 (zs (List.replicate 32 0)), .ints .u8 16 (zs (List.replicate 16 0))] := ⟨_, Try.zeroValue26, by kernel_rfl⟩
instance : FldC Try.prog 26 0 0 := ⟨_, _, _, Try.underlying26, rfl, Try.sizeOf23, by decide, rfl⟩
instance : FldC Try.prog 26 1 32 := ⟨_, _, _, Try.underlying26, rfl, Try.sizeOf24, by decide, rfl⟩
instance : Pl Try.prog 26 #[(0, 32), (32, 16)] := ⟨_, Try.underlying26, fun w => by kernel_rfl⟩
instance : Inf Try.prog 26 Try.t26 := ⟨by kernel_rfl⟩
end Go.Proofs.X
