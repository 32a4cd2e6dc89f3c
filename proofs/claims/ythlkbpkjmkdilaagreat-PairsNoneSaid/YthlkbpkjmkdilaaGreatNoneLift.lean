/- What the lifts of this seat's rows share. No conditions. -/
import Derived.Test.YthlkbpkjmkdilaaGreatAbB
import Derived.Test.YthlkbpkjmkdilaaGreatRows
import Derived.Below
import Derived.Carry
import Derived.ProofKit
set_option linter.unusedVariables false
set_option linter.unusedSimpArgs false
namespace Go.Proofs.X.noneLift
open Go Go.Ab Go.Proofs Go.Proofs.X Go.Proofs.YthlkbpkjmkdilaaGreat
open Go.ChangeShapes Go.WideShapes Go.ChangeAt Go.RowKit
theorem own : ownKnob Tryz.prog.godebug = none := by kernel_rfl
theorem laidOut : laidOutB Tryz.prog = true := by kernel_rfl
theorem calls_below {P : Program} {f : FuncId} {args : List AV} {r : Bool} {vals : Array Value} {w : World} (h : ACall P f [] args (.s (.bool r)) []) (ha : ArgsRep (fun _ => none) args vals) :
    Calls P f vals w fun e w' => e = .returned (.bool r) ∧ Below w.heap.size w w' := by
  refine (h (fun _ => True) (fun _ => none) vals w ⟨fun _ _ _ e => (by cases e), fun _ _ _ _ e => (by cases e), fun _ _ _ _ _ _ _ _ e => (by cases e)⟩ (fun _ _ => rfl) ha).mono ?_
  rintro e w' ⟨v', ρ', rfl, hn, hv⟩
  have hv : v' = .bool r := hv
  subst hv
  exact ⟨rfl, hn.ext.os, hn.ext.tape, hn.ext.output, hn.ext.size, hn.ext.block⟩
theorem args1 {ρ : Rho} {a : AV} {u : Value} (h0 : a.rep ρ u) : ArgsRep ρ [a] #[u] :=
  ⟨rfl, fun i x hx => by match i, hx with | 0, hx => (simp at hx; subst hx; exact h0) | i + 1, hx => simp at hx⟩
end Go.Proofs.X.noneLift
