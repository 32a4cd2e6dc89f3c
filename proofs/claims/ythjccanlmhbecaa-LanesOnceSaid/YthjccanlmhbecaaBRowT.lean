/- Types and functions of rows, as instances. -/
import Derived.Test.YthjccanlmhbecaaBShaT
import Derived.Test.YthjccanlmhbecaaBRowS
set_option linter.unusedVariables false
set_option linter.unusedSimpArgs false
open Go Go.Bx Go.Proofs
namespace Go.Proofs.X
instance : Clb Try.prog 37 := ⟨_, Try.func37, by kernel_rfl, rfl⟩
instance : Clb Try.prog 44 := ⟨_, Try.func44, by kernel_rfl, rfl⟩
instance : Clb Try.prog 29 := ⟨_, Try.func29, by kernel_rfl, rfl⟩
instance : Clb Try.prog 21 := ⟨_, Try.func21, by kernel_rfl, rfl⟩
instance : Und Try.prog 4 (.bool) := ⟨Try.underlying4⟩
instance : Sz Try.prog 4 1 := ⟨Try.sizeOf4⟩
instance : Ag Try.prog 4 false := ⟨Try.isAgg4⟩
instance : Zv Try.prog 4 [.one (.bool false)] := ⟨_, Try.zeroValue4, by kernel_rfl⟩
instance : Inf Try.prog 4 Try.t4 := ⟨by kernel_rfl⟩
instance : Und Try.prog 86 (.slice 37) := ⟨Try.underlying86⟩
instance : Sz Try.prog 86 1 := ⟨Try.sizeOf86⟩
instance : Ag Try.prog 86 false := ⟨Try.isAgg86⟩
instance : Zv Try.prog 86 [.one .nils] := ⟨_, Try.zeroValue86, by kernel_rfl⟩
instance : Zn Try.prog 86 := ⟨Try.zeroValue86⟩
instance : Inf Try.prog 86 Try.t86 := ⟨by kernel_rfl⟩
end Go.Proofs.X
