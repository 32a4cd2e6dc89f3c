/- Types and functions of sums by a key, as instances. -/
import Derived.Test.YthjccanlmhbecaaBRowT
import Derived.Test.YthjccanlmhbecaaBMacS
set_option linter.unusedVariables false
set_option linter.unusedSimpArgs false
open Go Go.Bx Go.Proofs
namespace Go.Proofs.X
instance : Clb Try.prog 24 := ⟨_, Try.func24, by kernel_rfl, rfl⟩
instance : Clb Try.prog 33 := ⟨_, Try.func33, by kernel_rfl, rfl⟩
instance : Clb Try.prog 26 := ⟨_, Try.func26, by kernel_rfl, rfl⟩
end Go.Proofs.X
