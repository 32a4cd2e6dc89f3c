/- A closed fact of the program, by the kernel. No conditions. -/
import Derived.Test.YthlkbpkjmkdilaaGreatRows
import Derived.JoinedOf
import Derived.ProofKit
set_option linter.unusedVariables false
set_option linter.unusedSimpArgs false
namespace Go.Proofs.X.noneLift
open Go Go.Proofs Go.Proofs.YthlkbpkjmkdilaaGreat
theorem rowed : mapsRowed Tryz.prog = true := by kernel_rfl
end Go.Proofs.X.noneLift
