/- Types and functions of LanesOnce, as instances. -/
import Derived.Test.YthjccanlmhbecaaBLaneT
import Derived.Test.YthjccanlmhbecaaBL20S
set_option linter.unusedVariables false
set_option linter.unusedSimpArgs false
open Go Go.Bx Go.Proofs
namespace Go.Proofs.X
instance : Clb Try.prog 4 := ⟨_, Try.func4, by kernel_rfl, rfl⟩
instance : Clb Try.prog 5 := ⟨_, Try.func5, by kernel_rfl, rfl⟩
instance : Clb Try.prog 14 := ⟨_, Try.func14, by kernel_rfl, rfl⟩
instance : Clb Try.prog 3 := ⟨_, Try.func3, by kernel_rfl, rfl⟩
instance : Und Try.prog 9 (.string) := ⟨Try.underlying9⟩
instance : Sz Try.prog 9 1 := ⟨Try.sizeOf9⟩
instance : Ag Try.prog 9 false := ⟨Try.isAgg9⟩
instance : Zv Try.prog 9 [.one (.val (.string ⟨#[]⟩))] := ⟨_, Try.zeroValue9, by kernel_rfl⟩
instance : Inf Try.prog 9 Try.t9 := ⟨by kernel_rfl⟩
instance : Und Try.prog 36 (.array 64 3) := ⟨Try.underlying36⟩
instance : Sz Try.prog 36 64 := ⟨Try.sizeOf36⟩
instance : Ag Try.prog 36 true := ⟨Try.isAgg36⟩
instance : Zv Try.prog 36 [.ints .i64 64 (zs (List.replicate 64 0))] := ⟨_, Try.zeroValue36, by kernel_rfl⟩
instance : Zb Try.prog 36 .i64 64 := ⟨_, Try.zeroValue36, by kernel_rfl⟩
instance : Inf Try.prog 36 Try.t36 := ⟨by kernel_rfl⟩
end Go.Proofs.X
