/- Types and functions of ciphers, as instances. -/
import Derived.Test.YthjccanlmhbecaaBMacT
import Derived.Test.YthjccanlmhbecaaBAesS
set_option linter.unusedVariables false
set_option linter.unusedSimpArgs false
open Go Go.Bx Go.Proofs
namespace Go.Proofs.X
instance : Clb Try.prog 39 := ⟨_, Try.func39, by kernel_rfl, rfl⟩
instance : Clb Try.prog 41 := ⟨_, Try.func41, by kernel_rfl, rfl⟩
instance : Clb Try.prog 40 := ⟨_, Try.func40, by kernel_rfl, rfl⟩
instance : Clb Try.prog 38 := ⟨_, Try.func38, by kernel_rfl, rfl⟩
instance : Clb Try.prog 42 := ⟨_, Try.func42, by kernel_rfl, rfl⟩
instance : Clb Try.prog 30 := ⟨_, Try.func30, by kernel_rfl, rfl⟩
instance : Clb Try.prog 31 := ⟨_, Try.func31, by kernel_rfl, rfl⟩
instance : Clb Try.prog 22 := ⟨_, Try.func22, by kernel_rfl, rfl⟩
instance : Und Try.prog 24 (.array 16 5) := ⟨Try.underlying24⟩
instance : Sz Try.prog 24 16 := ⟨Try.sizeOf24⟩
instance : Ag Try.prog 24 true := ⟨Try.isAgg24⟩
instance : Zv Try.prog 24 [.ints .u8 16 (zs (List.replicate 16 0))] := ⟨_, Try.zeroValue24, by kernel_rfl⟩
instance : Zb Try.prog 24 .u8 16 := ⟨_, Try.zeroValue24, by kernel_rfl⟩
instance : Inf Try.prog 24 Try.t24 := ⟨by kernel_rfl⟩
instance : Und Try.prog 75 (.pointer 93) := ⟨Try.underlying75⟩
instance : Sz Try.prog 75 1 := ⟨Try.sizeOf75⟩
instance : Ag Try.prog 75 false := ⟨Try.isAgg75⟩
instance : Zv Try.prog 75 [.one .nilp] := ⟨_, Try.zeroValue75, by kernel_rfl⟩
instance : Inf Try.prog 75 Try.t75 := ⟨by kernel_rfl⟩
instance : Und Try.prog 90 (.array 256 5) := ⟨Try.underlying90⟩
instance : Sz Try.prog 90 256 := ⟨Try.sizeOf90⟩
instance : Ag Try.prog 90 true := ⟨Try.isAgg90⟩
instance : Zv Try.prog 90 [.ints .u8 256 (zs (List.replicate 256 0))] := ⟨.agg (List.replicate 256 (Value.int .u8 0)).toArray, fun w => by kernel_rfl, by kernel_rfl⟩
instance : Inf Try.prog 90 Try.t90 := ⟨by kernel_rfl⟩
instance : Und Try.prog 91 (.array 11 24) := ⟨Try.underlying91⟩
instance : Sz Try.prog 91 176 := ⟨Try.sizeOf91⟩
instance : Ag Try.prog 91 true := ⟨Try.isAgg91⟩
instance : Zv Try.prog 91 [.ints .u8 176 (zs (List.replicate 176 0))] := ⟨.agg (List.replicate 16 (Value.int .u8 0) ++ List.replicate 16 (Value.int .u8 0) ++ List.replicate 16 (Value.int .u8 0) ++ List.replicate 16 (Value.int .u8 0) ++ List.replicate 16 (Value.int .u8 0) ++ List.replicate 16 (Value.int .u8 0) ++ List.replicate 16 (Value.int .u8 0) ++ List.replicate 16 (Value.int .u8 0) ++ List.replicate 16 (Value.int .u8 0) ++ List.replicate 16 (Value.int .u8 0) ++ List.replicate 16 (Value.int .u8 0)).toArray, fun w => by kernel_rfl, by kernel_rfl⟩
instance : Inf Try.prog 91 Try.t91 := ⟨by kernel_rfl⟩
instance : Und Try.prog 93 (.struct #[{ name := "s", type := 90, offset := 0, embedded := false, tag := "", pkgPath := "burrow/ciphers", byteOffset := 0 }, { name := "back", type := 90, offset := 256, embedded := false, tag := "", pkgPath := "burrow/ciphers", byteOffset := 256 }, { name := "keys", type := 91, offset := 512, embedded := false, tag := "", pkgPath := "burrow/ciphers", byteOffset := 512 }]) := ⟨Try.underlying93⟩
instance : Sz Try.prog 93 688 := ⟨Try.sizeOf93⟩
instance : Ag Try.prog 93 true := ⟨Try.isAgg93⟩
instance : Zv Try.prog 93 [.ints .u8 256 (zs (List.replicate 256 0)), .ints .u8 256 (zs (List.replicate 256 0)), .ints .u8 176 (zs (List.replicate 176 0))] := ⟨.agg (List.replicate 256 (Value.int .u8 0) ++ List.replicate 256 (Value.int .u8 0) ++ List.replicate 16 (Value.int .u8 0) ++ List.replicate 16 (Value.int .u8 0) ++ List.replicate 16 (Value.int .u8 0) ++ List.replicate 16 (Value.int .u8 0) ++ List.replicate 16 (Value.int .u8 0) ++ List.replicate 16 (Value.int .u8 0) ++ List.replicate 16 (Value.int .u8 0) ++ List.replicate 16 (Value.int .u8 0) ++ List.replicate 16 (Value.int .u8 0) ++ List.replicate 16 (Value.int .u8 0) ++ List.replicate 16 (Value.int .u8 0)).toArray, fun w => by kernel_rfl, by kernel_rfl⟩
instance : FldC Try.prog 93 0 0 := ⟨_, _, _, Try.underlying93, rfl, Try.sizeOf90, by decide, rfl⟩
instance : FldC Try.prog 93 1 256 := ⟨_, _, _, Try.underlying93, rfl, Try.sizeOf90, by decide, rfl⟩
instance : FldC Try.prog 93 2 512 := ⟨_, _, _, Try.underlying93, rfl, Try.sizeOf91, by decide, rfl⟩
instance : Pl Try.prog 93 #[(0, 256), (256, 256), (512, 176)] := ⟨_, Try.underlying93, fun w => by kernel_rfl⟩
instance : Inf Try.prog 93 Try.t93 := ⟨by kernel_rfl⟩
instance : Und Try.prog 96 (.array 4 5) := ⟨Try.underlying96⟩
instance : Sz Try.prog 96 4 := ⟨Try.sizeOf96⟩
instance : Ag Try.prog 96 true := ⟨Try.isAgg96⟩
instance : Zv Try.prog 96 [.ints .u8 4 (zs (List.replicate 4 0))] := ⟨_, Try.zeroValue96, by kernel_rfl⟩
instance : Zb Try.prog 96 .u8 4 := ⟨_, Try.zeroValue96, by kernel_rfl⟩
instance : Inf Try.prog 96 Try.t96 := ⟨by kernel_rfl⟩
end Go.Proofs.X
