/- A pair that is not there, or that no call made, does nothing, and says nothing: the law, joined. No conditions. -/
import Derived.Test.YthlkbpkjmkdilaaGreatPairNoneLift
import Derived.Test.YthlkbpkjmkdilaaGreatPairNoneFactA
import Derived.Test.YthlkbpkjmkdilaaGreatPairNoneFactB
import Derived.Test.YthlkbpkjmkdilaaGreatNoneRowed
set_option linter.unusedVariables false
set_option linter.unusedSimpArgs false
namespace Go.Proofs.YthlkbpkjmkdilaaGreat.pairsNone
open Go Go.Ab Go.Proofs Go.Proofs.X Go.Proofs.X.noneLift Go.Proofs.YthlkbpkjmkdilaaGreat
open Go.ChangeShapes Go.WideShapes Go.ChangeAt Go.RowKit
open Go.Proofs.X.pairsNone
theorem closed : joinedFacts Tryz.pinned.checked.prog 4 Tryz.f4 Rows.pairsNoneSpec Rows.pairsNoneRow = true := by
  unfold joinedFacts
  rw [show laidOutB Tryz.pinned.checked.prog = true from laidOut, show mapsRowed Tryz.pinned.checked.prog = true from rowed, show (Rows.pairsNoneRow.inPlace == Tryz.pinned.checked.prog.inPlace 4) = true from inPlace_fact, show (Rows.pairsNoneRow.unfollowed == Tryz.pinned.checked.prog.unfollowed 4) = true from unfollowed_fact,
    show (Rows.pairsNoneRow.recurses == Tryz.pinned.checked.prog.recurses 4) = true from recurses_fact, show (Rows.pairsNoneRow.named == Tryz.pinned.checked.prog.varsNamed 4) = true from named_fact]
  kernel_rfl
theorem over : Rows.pairsNoneRow.holds Tryz.pinned (OpenSpec.ofChange Rows.pairsNoneSpec) :=
  OpenClaim.holds_of_wide 4 Tryz.f4 rfl rfl rfl rfl rfl rfl rfl ⟨rfl, rfl, rfl, rfl, rfl⟩ rfl rfl rfl rfl rfl (by kernel_rfl) Tryz.func4 closed
    (of_decide_eq_true (by kernel_rfl)) (by unfold Func.isWrapper; first | (rw [if_pos (by decide +kernel)]; kernel_rfl) | (rw [if_neg (by decide +kernel)]; exact ⟨rfl, rfl⟩))
    (fun os started H enc _ => lifted os started H enc)
theorem proved : Rows.PairsNoneSaid := over
end Go.Proofs.YthlkbpkjmkdilaaGreat.pairsNone
namespace Go.Proofs.YthlkbpkjmkdilaaGreat
/-- The row, under a short name, for the claim. -/
theorem pairsNone_holds : Rows.PairsNoneSaid := pairsNone.proved
end Go.Proofs.YthlkbpkjmkdilaaGreat
#print axioms Go.Proofs.YthlkbpkjmkdilaaGreat.pairsNone_holds
