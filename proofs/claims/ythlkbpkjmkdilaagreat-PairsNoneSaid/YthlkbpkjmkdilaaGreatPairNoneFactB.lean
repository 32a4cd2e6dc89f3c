/- Closed facts of the row, by the kernel. No conditions. -/
import Derived.Test.YthlkbpkjmkdilaaGreatNoneLift
import Derived.JoinedOf
set_option linter.unusedVariables false
set_option linter.unusedSimpArgs false
namespace Go.Proofs.X.pairsNone
open Go Go.Ab Go.Proofs Go.Proofs.X Go.Proofs.X.noneLift Go.Proofs.YthlkbpkjmkdilaaGreat
open Go.ChangeShapes Go.WideShapes Go.ChangeAt Go.RowKit
theorem recurses_fact : (Rows.pairsNoneRow.recurses == Tryz.prog.recurses 4) = true := by kernel_rfl
theorem named_fact : (Rows.pairsNoneRow.named == Tryz.prog.varsNamed 4) = true := by kernel_rfl
end Go.Proofs.X.pairsNone
