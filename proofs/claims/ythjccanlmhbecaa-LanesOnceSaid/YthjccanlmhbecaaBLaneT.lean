/- Types and functions of lanes, as instances. -/
import Derived.Test.YthjccanlmhbecaaBWinT
import Derived.Test.YthjccanlmhbecaaBLaneS
set_option linter.unusedVariables false
set_option linter.unusedSimpArgs false
open Go Go.Bx Go.Proofs
namespace Go.Proofs.X
instance : Clb Try.prog 6 := ⟨_, Try.func6, by kernel_rfl, rfl⟩
instance : Clb Try.prog 7 := ⟨_, Try.func7, by kernel_rfl, rfl⟩
instance : Clb Try.prog 8 := ⟨_, Try.func8, by kernel_rfl, rfl⟩
instance : Clb Try.prog 12 := ⟨_, Try.func12, by kernel_rfl, rfl⟩
instance : Clb Try.prog 9 := ⟨_, Try.func9, by kernel_rfl, rfl⟩
instance : Clb Try.prog 11 := ⟨_, Try.func11, by kernel_rfl, rfl⟩
instance : Clb Try.prog 13 := ⟨_, Try.func13, by kernel_rfl, rfl⟩
instance : Clb Try.prog 10 := ⟨_, Try.func10, by kernel_rfl, rfl⟩
instance : Und Try.prog 31 (.pointer 52) := ⟨Try.underlying31⟩
instance : Sz Try.prog 31 1 := ⟨Try.sizeOf31⟩
instance : Ag Try.prog 31 false := ⟨Try.isAgg31⟩
instance : Zv Try.prog 31 [.one .nilp] := ⟨_, Try.zeroValue31, by kernel_rfl⟩
instance : Inf Try.prog 31 Try.t31 := ⟨by kernel_rfl⟩
instance : Und Try.prog 34 (.pointer 56) := ⟨Try.underlying34⟩
instance : Sz Try.prog 34 1 := ⟨Try.sizeOf34⟩
instance : Ag Try.prog 34 false := ⟨Try.isAgg34⟩
instance : Zv Try.prog 34 [.one .nilp] := ⟨_, Try.zeroValue34, by kernel_rfl⟩
instance : Inf Try.prog 34 Try.t34 := ⟨by kernel_rfl⟩
instance : Und Try.prog 50 (.struct #[{ name := "keys", type := 26, offset := 0, embedded := false, tag := "", pkgPath := "burrow/lanes", byteOffset := 0 }, { name := "num", type := 33, offset := 48, embedded := false, tag := "", pkgPath := "burrow/lanes", byteOffset := 48 }, { name := "made", type := 3, offset := 49, embedded := false, tag := "", pkgPath := "burrow/lanes", byteOffset := 56 }]) := ⟨Try.underlying50⟩
instance : Sz Try.prog 50 50 := ⟨Try.sizeOf50⟩
instance : Ag Try.prog 50 true := ⟨Try.isAgg50⟩
instance : Zv Try.prog 50 [.ints .u8 32 (zs (List.replicate 32 0)), .ints .u8 16 (zs (List.replicate 16 0)), .one (.int .u32 0), .one (.int .i64 0)] := ⟨_, Try.zeroValue50, by kernel_rfl⟩
instance : FldC Try.prog 50 0 0 := ⟨_, _, _, Try.underlying50, rfl, Try.sizeOf26, by decide, rfl⟩
instance : FldC Try.prog 50 1 48 := ⟨_, _, _, Try.underlying50, rfl, Try.sizeOf33, by decide, rfl⟩
instance : FldC Try.prog 50 2 49 := ⟨_, _, _, Try.underlying50, rfl, Try.sizeOf3, by decide, rfl⟩
instance : Pl Try.prog 50 #[(0, 48), (48, 1), (49, 1)] := ⟨_, Try.underlying50, fun w => by kernel_rfl⟩
instance : Inf Try.prog 50 Try.t50 := ⟨by kernel_rfl⟩
instance : Und Try.prog 52 (.struct #[{ name := "end", type := 50, offset := 0, embedded := true, tag := "", pkgPath := "burrow/lanes", byteOffset := 0 }, { name := "used", type := 3, offset := 50, embedded := false, tag := "", pkgPath := "burrow/lanes", byteOffset := 64 }]) := ⟨Try.underlying52⟩
instance : Sz Try.prog 52 51 := ⟨Try.sizeOf52⟩
instance : Ag Try.prog 52 true := ⟨Try.isAgg52⟩
instance : Zv Try.prog 52 [.ints .u8 32 (zs (List.replicate 32 0)), .ints .u8 16 (zs (List.replicate 16 0)), .one (.int .u32 0), .one (.int .i64 0), .one (.int .i64 0)] := ⟨_, Try.zeroValue52, by kernel_rfl⟩
instance : FldC Try.prog 52 0 0 := ⟨_, _, _, Try.underlying52, rfl, Try.sizeOf50, by decide, rfl⟩
instance : FldC Try.prog 52 1 50 := ⟨_, _, _, Try.underlying52, rfl, Try.sizeOf3, by decide, rfl⟩
instance : Pl Try.prog 52 #[(0, 50), (50, 1)] := ⟨_, Try.underlying52, fun w => by kernel_rfl⟩
instance : Inf Try.prog 52 Try.t52 := ⟨by kernel_rfl⟩
instance : Und Try.prog 56 (.struct #[{ name := "end", type := 50, offset := 0, embedded := true, tag := "", pkgPath := "burrow/lanes", byteOffset := 0 }, { name := "Window", type := 53, offset := 50, embedded := true, tag := "", pkgPath := "", byteOffset := 64 }]) := ⟨Try.underlying56⟩
instance : Sz Try.prog 56 51 := ⟨Try.sizeOf56⟩
instance : Ag Try.prog 56 true := ⟨Try.isAgg56⟩
instance : Zv Try.prog 56 [.ints .u8 32 (zs (List.replicate 32 0)), .ints .u8 16 (zs (List.replicate 16 0)), .one (.int .u32 0), .one (.int .i64 0), .one .nilp] := ⟨_, Try.zeroValue56, by kernel_rfl⟩
instance : FldC Try.prog 56 0 0 := ⟨_, _, _, Try.underlying56, rfl, Try.sizeOf50, by decide, rfl⟩
instance : FldC Try.prog 56 1 50 := ⟨_, _, _, Try.underlying56, rfl, Try.sizeOf53, by decide, rfl⟩
instance : Pl Try.prog 56 #[(0, 50), (50, 1)] := ⟨_, Try.underlying56, fun w => by kernel_rfl⟩
instance : Inf Try.prog 56 Try.t56 := ⟨by kernel_rfl⟩
end Go.Proofs.X
