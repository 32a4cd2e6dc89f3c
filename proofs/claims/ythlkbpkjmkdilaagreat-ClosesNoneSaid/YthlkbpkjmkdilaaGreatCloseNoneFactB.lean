/- Closed facts of the row, by the kernel. No conditions. -/
import Derived.Test.YthlkbpkjmkdilaaGreatNoneLift
import Derived.JoinedOf
set_option linter.unusedVariables false
set_option linter.unusedSimpArgs false
namespace Go.Proofs.X.closesNone
open Go Go.Ab Go.Proofs Go.Proofs.X Go.Proofs.X.noneLift Go.Proofs.YthlkbpkjmkdilaaGreat
open Go.ChangeShapes Go.WideShapes Go.ChangeAt Go.RowKit
theorem recurses_fact : (Rows.closesNoneRow.recurses == Tryz.prog.recurses 3) = true := by kernel_rfl
theorem named_fact : (Rows.closesNoneRow.named == Tryz.prog.varsNamed 3) = true := by kernel_rfl
end Go.Proofs.X.closesNone
