/- One that is not there, or that no call made, does nothing, and says nothing: the law, joined. No conditions. -/
import Derived.Test.YthlkbpkjmkdilaaGreatCloseNoneLift
import Derived.Test.YthlkbpkjmkdilaaGreatCloseNoneFactA
import Derived.Test.YthlkbpkjmkdilaaGreatCloseNoneFactB
import Derived.Test.YthlkbpkjmkdilaaGreatNoneRowed
set_option linter.unusedVariables false
set_option linter.unusedSimpArgs false
namespace Go.Proofs.YthlkbpkjmkdilaaGreat.closesNone
open Go Go.Ab Go.Proofs Go.Proofs.X Go.Proofs.X.noneLift Go.Proofs.YthlkbpkjmkdilaaGreat
open Go.ChangeShapes Go.WideShapes Go.ChangeAt Go.RowKit
open Go.Proofs.X.closesNone
theorem closed : joinedFacts Tryz.pinned.checked.prog 3 Tryz.f3 Rows.closesNoneSpec Rows.closesNoneRow = true := by
  unfold joinedFacts
  rw [show laidOutB Tryz.pinned.checked.prog = true from laidOut, show mapsRowed Tryz.pinned.checked.prog = true from rowed, show (Rows.closesNoneRow.inPlace == Tryz.pinned.checked.prog.inPlace 3) = true from inPlace_fact, show (Rows.closesNoneRow.unfollowed == Tryz.pinned.checked.prog.unfollowed 3) = true from unfollowed_fact,
    show (Rows.closesNoneRow.recurses == Tryz.pinned.checked.prog.recurses 3) = true from recurses_fact, show (Rows.closesNoneRow.named == Tryz.pinned.checked.prog.varsNamed 3) = true from named_fact]
  kernel_rfl
theorem over : Rows.closesNoneRow.holds Tryz.pinned (OpenSpec.ofChange Rows.closesNoneSpec) :=
  OpenClaim.holds_of_wide 3 Tryz.f3 rfl rfl rfl rfl rfl rfl rfl ⟨rfl, rfl, rfl, rfl, rfl⟩ rfl rfl rfl rfl rfl (by kernel_rfl) Tryz.func3 closed
    (of_decide_eq_true (by kernel_rfl)) (by unfold Func.isWrapper; first | (rw [if_pos (by decide +kernel)]; kernel_rfl) | (rw [if_neg (by decide +kernel)]; exact ⟨rfl, rfl⟩))
    (fun os started H enc _ => lifted os started H enc)
theorem proved : Rows.ClosesNoneSaid := over
end Go.Proofs.YthlkbpkjmkdilaaGreat.closesNone
namespace Go.Proofs.YthlkbpkjmkdilaaGreat
/-- The row, under a short name, for the claim. -/
theorem closesNone_holds : Rows.ClosesNoneSaid := closesNone.proved
end Go.Proofs.YthlkbpkjmkdilaaGreat
#print axioms Go.Proofs.YthlkbpkjmkdilaaGreat.closesNone_holds
