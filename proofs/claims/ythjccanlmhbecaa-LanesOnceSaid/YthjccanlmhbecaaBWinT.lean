/- Types and functions of windows, as instances. -/
import Derived.Test.YthjccanlmhbecaaBSealT
import Derived.Test.YthjccanlmhbecaaBWinS
set_option linter.unusedVariables false
set_option linter.unusedSimpArgs false
open Go Go.Bx Go.Proofs
namespace Go.Proofs.X
instance : Clb Try.prog 15 := ⟨_, Try.func15, by kernel_rfl, rfl⟩
instance : Clb Try.prog 28 := ⟨_, Try.func28, by kernel_rfl, rfl⟩
instance : Clb Try.prog 27 := ⟨_, Try.func27, by kernel_rfl, rfl⟩
instance : Clb Try.prog 19 := ⟨_, Try.func19, by kernel_rfl, rfl⟩
instance : Clb Try.prog 20 := ⟨_, Try.func20, by kernel_rfl, rfl⟩
instance : Und Try.prog 38 (.int .i64) := ⟨Try.underlying38⟩
instance : Sz Try.prog 38 1 := ⟨Try.sizeOf38⟩
instance : Ag Try.prog 38 false := ⟨Try.isAgg38⟩
instance : Zv Try.prog 38 [.one (.int .i64 0)] := ⟨_, Try.zeroValue38, by kernel_rfl⟩
instance : Zi Try.prog 38 .i64 := ⟨Try.zeroValue38⟩
instance : Inf Try.prog 38 Try.t38 := ⟨by kernel_rfl⟩
instance : Und Try.prog 53 (.pointer 67) := ⟨Try.underlying53⟩
instance : Sz Try.prog 53 1 := ⟨Try.sizeOf53⟩
instance : Ag Try.prog 53 false := ⟨Try.isAgg53⟩
instance : Zv Try.prog 53 [.one .nilp] := ⟨_, Try.zeroValue53, by kernel_rfl⟩
instance : Inf Try.prog 53 Try.t53 := ⟨by kernel_rfl⟩
instance : Und Try.prog 64 (.array 1 3) := ⟨Try.underlying64⟩
instance : Sz Try.prog 64 1 := ⟨Try.sizeOf64⟩
instance : Ag Try.prog 64 true := ⟨Try.isAgg64⟩
instance : Zv Try.prog 64 [.ints .i64 1 (zs (List.replicate 1 0))] := ⟨_, Try.zeroValue64, by kernel_rfl⟩
instance : Zb Try.prog 64 .i64 1 := ⟨_, Try.zeroValue64, by kernel_rfl⟩
instance : Inf Try.prog 64 Try.t64 := ⟨by kernel_rfl⟩
instance : Und Try.prog 65 (.array 64 37) := ⟨Try.underlying65⟩
instance : Sz Try.prog 65 64 := ⟨Try.sizeOf65⟩
instance : Ag Try.prog 65 true := ⟨Try.isAgg65⟩
instance : Zv Try.prog 65 [.ints .u64 64 (zs (List.replicate 64 0))] := ⟨_, Try.zeroValue65, by kernel_rfl⟩
instance : Zb Try.prog 65 .u64 64 := ⟨_, Try.zeroValue65, by kernel_rfl⟩
instance : Inf Try.prog 65 Try.t65 := ⟨by kernel_rfl⟩
instance : Und Try.prog 67 (.struct #[{ name := "made", type := 64, offset := 0, embedded := false, tag := "", pkgPath := "burrow/windows", byteOffset := 0 }, { name := "came", type := 65, offset := 1, embedded := false, tag := "", pkgPath := "burrow/windows", byteOffset := 8 }, { name := "top", type := 37, offset := 65, embedded := false, tag := "", pkgPath := "burrow/windows", byteOffset := 520 }, { name := "taken", type := 37, offset := 66, embedded := false, tag := "", pkgPath := "burrow/windows", byteOffset := 528 }]) := ⟨Try.underlying67⟩
instance : Sz Try.prog 67 67 := ⟨Try.sizeOf67⟩
instance : Ag Try.prog 67 true := ⟨Try.isAgg67⟩
instance : Zv Try.prog 67 [.ints .i64 1 (zs (List.replicate 1 0)), .ints .u64 64 (zs (List.replicate 64 0)), .one (.int .u64 0), .one (.int .u64 0)] := ⟨.agg (List.replicate 1 (Value.int .i64 0) ++ List.replicate 64 (Value.int .u64 0) ++ [Value.int .u64 0] ++ [Value.int .u64 0]).toArray, fun w => by kernel_rfl, by kernel_rfl⟩
instance : FldC Try.prog 67 0 0 := ⟨_, _, _, Try.underlying67, rfl, Try.sizeOf64, by decide, rfl⟩
instance : FldC Try.prog 67 1 1 := ⟨_, _, _, Try.underlying67, rfl, Try.sizeOf65, by decide, rfl⟩
instance : FldC Try.prog 67 2 65 := ⟨_, _, _, Try.underlying67, rfl, Try.sizeOf37, by decide, rfl⟩
instance : FldC Try.prog 67 3 66 := ⟨_, _, _, Try.underlying67, rfl, Try.sizeOf37, by decide, rfl⟩
instance : Pl Try.prog 67 #[(0, 1), (1, 64), (65, 1), (66, 1)] := ⟨_, Try.underlying67, fun w => by kernel_rfl⟩
instance : Inf Try.prog 67 Try.t67 := ⟨by kernel_rfl⟩
end Go.Proofs.X
