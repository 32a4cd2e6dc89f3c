/- A pool that is not there, or that no call made, has nothing: the law, joined. No conditions. -/
import Derived.Test.YthlkbpkjmkdilaaGreatPoolNoneLift
import Derived.Test.YthlkbpkjmkdilaaGreatPoolNoneFactA
import Derived.Test.YthlkbpkjmkdilaaGreatPoolNoneFactB
import Derived.Test.YthlkbpkjmkdilaaGreatNoneRowed
set_option linter.unusedVariables false
set_option linter.unusedSimpArgs false
namespace Go.Proofs.YthlkbpkjmkdilaaGreat.poolsNone
open Go Go.Ab Go.Proofs Go.Proofs.X Go.Proofs.X.noneLift Go.Proofs.YthlkbpkjmkdilaaGreat
open Go.ChangeShapes Go.WideShapes Go.ChangeAt Go.RowKit
open Go.Proofs.X.poolsNone
theorem closed : joinedFacts Tryz.pinned.checked.prog 5 Tryz.f5 Rows.poolsNoneSpec Rows.poolsNoneRow = true := by
  unfold joinedFacts
  rw [show laidOutB Tryz.pinned.checked.prog = true from laidOut, show mapsRowed Tryz.pinned.checked.prog = true from rowed, show (Rows.poolsNoneRow.inPlace == Tryz.pinned.checked.prog.inPlace 5) = true from inPlace_fact, show (Rows.poolsNoneRow.unfollowed == Tryz.pinned.checked.prog.unfollowed 5) = true from unfollowed_fact,
    show (Rows.poolsNoneRow.recurses == Tryz.pinned.checked.prog.recurses 5) = true from recurses_fact, show (Rows.poolsNoneRow.named == Tryz.pinned.checked.prog.varsNamed 5) = true from named_fact]
  kernel_rfl
theorem over : Rows.poolsNoneRow.holds Tryz.pinned (OpenSpec.ofChange Rows.poolsNoneSpec) :=
  OpenClaim.holds_of_wide 5 Tryz.f5 rfl rfl rfl rfl rfl rfl rfl ⟨rfl, rfl, rfl, rfl, rfl⟩ rfl rfl rfl rfl rfl (by kernel_rfl) Tryz.func5 closed
    (of_decide_eq_true (by kernel_rfl)) (by unfold Func.isWrapper; first | (rw [if_pos (by decide +kernel)]; kernel_rfl) | (rw [if_neg (by decide +kernel)]; exact ⟨rfl, rfl⟩))
    (fun os started H enc _ => lifted os started H enc)
theorem proved : Rows.PoolsNoneSaid := over
end Go.Proofs.YthlkbpkjmkdilaaGreat.poolsNone
namespace Go.Proofs.YthlkbpkjmkdilaaGreat
/-- The row, under a short name, for the claim. -/
theorem poolsNone_holds : Rows.PoolsNoneSaid := poolsNone.proved
end Go.Proofs.YthlkbpkjmkdilaaGreat
#print axioms Go.Proofs.YthlkbpkjmkdilaaGreat.poolsNone_holds
