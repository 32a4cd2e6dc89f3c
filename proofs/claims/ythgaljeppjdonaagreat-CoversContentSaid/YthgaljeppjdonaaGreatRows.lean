/-
  No cell of these rows narrows 'for every input' (looked for: loops, veiled, ifaces, maps, wideKeys, modest, calm, conditions, laid).
  DERIVED. THE GIVEN ROWS OF THIS SEAT. 2 by the template 'for every input the law returns true; each argument reads behind the call as it read before'; 0 by the template 'total and deterministic' (their statements: YthgaljeppjdonaaGreatTotals.lean).
  GIVEN WITH THE SEED: the statements are not yours to turn. If you find one false, say at which input.
  Laid BY PROGRAM, IN A SANDBOX (cutbox-rows.mjs): the forced cells as the released guide's own fill.sh prints them over the translation 9bacd0721cf7f141… (all of the seat's roots in one cut). By AI agents, Wed Nov 11 2026. No macro, syntax, notation, axiom, sorry.
-/
import Derived.Test.YthgaljeppjdonaaGreatChecked
import GoSem.Claim
import GoSem.ClaimJoined
import GoSem.ClaimMapViews
import Derived.JoinedTies
import Derived.KernelRfl
namespace Go.Proofs.YthgaljeppjdonaaGreat
/- THE CELL 'sum', in the pinned program and in every row, IS THE sha256 OF THE DUMP (.gsa) THAT YthgaljeppjdonaaGreatProg.lean LOADS. Nothing in Lean hashes anything: it is a label: what it is worth is what the hold of that sum in a sandbox is worth. -/
noncomputable def Tryz.pinned : Pinned := { name := "ythgaljeppjdonaagreat", sum := "9bacd0721cf7f141e39189e6e872fb08a61eed9dbbd921995232b9afcc834e7e", checked := Tryz.checked }
namespace Rows
def none {H : Type} : Left H := { results := [], args := [] }

/-- 'burrowlaw16.CoversThere': WHATEVER THE INPUT: true; the input reads as it did. -/
def coversThereSpec : ChangeSpec := { name := "coversThere", fn := fun _ => fun
  | [d1, d2, d3] => { results := [.lit (.bool true)], args := [d1, d2, d3] }
  | _ => none }
def coversThereRow : OpenClaim := { program := "ythgaljeppjdonaagreat", sum := "9bacd0721cf7f141e39189e6e872fb08a61eed9dbbd921995232b9afcc834e7e", func := "burrow/burrowlaw16.CoversThere", spec := "coversThere", inPlace := ["slices.overlaps[burrow/api.Param]"], unfollowed := true, recurses := true, named := ["math/bits.divideError", "math/bits.overflowError"], apart := false }
def CoversThereSaid : Prop := coversThereRow.holds Tryz.pinned (OpenSpec.ofChange coversThereSpec)

/-- ITS FALSE NEIGHBOUR: 'it returns false'. Refute it at one input. -/
def coversThereWrong : ChangeSpec := { name := "coversThere", fn := fun _ => fun
  | [d1, d2, d3] => { results := [.lit (.bool false)], args := [d1, d2, d3] }
  | _ => none }
def CoversThereWrongFalsely : Prop := coversThereRow.holds Tryz.pinned (OpenSpec.ofChange coversThereWrong)

/-- 'burrowlaw16.CoversContent': WHATEVER THE INPUT: true; the input reads as it did. -/
def coversContentSpec : ChangeSpec := { name := "coversContent", fn := fun _ => fun
  | [d1, d2] => { results := [.lit (.bool true)], args := [d1, d2] }
  | _ => none }
def coversContentRow : OpenClaim := { program := "ythgaljeppjdonaagreat", sum := "9bacd0721cf7f141e39189e6e872fb08a61eed9dbbd921995232b9afcc834e7e", func := "burrow/burrowlaw16.CoversContent", spec := "coversContent", inPlace := ["slices.overlaps[burrow/api.Param]"], unfollowed := true, recurses := true, named := ["math/bits.divideError", "math/bits.overflowError"], apart := false }
def CoversContentSaid : Prop := coversContentRow.holds Tryz.pinned (OpenSpec.ofChange coversContentSpec)

/-- ITS FALSE NEIGHBOUR: 'it returns false'. Refute it at one input. -/
def coversContentWrong : ChangeSpec := { name := "coversContent", fn := fun _ => fun
  | [d1, d2] => { results := [.lit (.bool false)], args := [d1, d2] }
  | _ => none }
def CoversContentWrongFalsely : Prop := coversContentRow.holds Tryz.pinned (OpenSpec.ofChange coversContentWrong)

/- THE SECOND FORM. 'bulk': how many values and letters a reading holds, each counted each time it is reached (what is shared counts as often as it is met; a slice's spare places count too). A statement '..UptoSaid' is the law's where the arguments, and the package variables that the reading takes, are together of bulk at most 1048576: NARROWER than '..Said'. Prove '..Said' where nothing that the law and all that it calls make is longer than what came in: it says more and counts as full. Else prove '..UptoSaid'. A law counts once. -/
mutual
def uptoBulk {H : Type} : DataW H → Nat
  | .lit (.string bytes) => bytes.length + 1
  | .lit _ => 1
  | .nil => 1
  | .ptr d => uptoBulk d + 1
  | .slice elems spare => uptoBulkAll elems + uptoBulkAll spare + 1
  | .agg parts => uptoBulkAll parts + 1
  | .iface _ d => uptoBulk d + 1
  | .map entries => uptoBulkEntries entries + 1
  | .held _ => 1
def uptoBulkAll {H : Type} : List (DataW H) → Nat
  | [] => 0
  | d :: r => uptoBulk d + uptoBulkAll r
def uptoBulkEntries {H : Type} : List (Lit × DataW H) → Nat
  | [] => 0
  | x :: r => uptoBulkEntry x + uptoBulkEntries r
def uptoBulkEntry {H : Type} : Lit × DataW H → Nat
  | (.string bytes, d) => bytes.length + uptoBulk d + 1
  | (_, d) => uptoBulk d + 1
 end
def uptoSmall : (H : Type) → List (DataW H) → Bool := fun _ ds => decide (uptoBulkAll ds ≤ 1048576)
def OpenSpec.upto (s : _root_.Go.ChangeSpec) : _root_.Go.OpenSpec := { _root_.Go.OpenSpec.ofChange s with cond := some uptoSmall }

/-- 'burrowlaw16.CoversThere', WHERE WHAT IT READS IS OF BULK AT MOST 1048576: true; the input reads as it did. -/
def coversThereUptoRow : OpenClaim := { program := "ythgaljeppjdonaagreat", sum := "9bacd0721cf7f141e39189e6e872fb08a61eed9dbbd921995232b9afcc834e7e", func := "burrow/burrowlaw16.CoversThere", spec := "coversThere", inPlace := ["slices.overlaps[burrow/api.Param]"], unfollowed := true, recurses := true, named := ["math/bits.divideError", "math/bits.overflowError"], apart := false, narrowed := true }
def CoversThereUptoSaid : Prop := coversThereUptoRow.holds Tryz.pinned (OpenSpec.upto coversThereSpec)

/-- 'burrowlaw16.CoversContent', WHERE WHAT IT READS IS OF BULK AT MOST 1048576: true; the input reads as it did. -/
def coversContentUptoRow : OpenClaim := { program := "ythgaljeppjdonaagreat", sum := "9bacd0721cf7f141e39189e6e872fb08a61eed9dbbd921995232b9afcc834e7e", func := "burrow/burrowlaw16.CoversContent", spec := "coversContent", inPlace := ["slices.overlaps[burrow/api.Param]"], unfollowed := true, recurses := true, named := ["math/bits.divideError", "math/bits.overflowError"], apart := false, narrowed := true }
def CoversContentUptoSaid : Prop := coversContentUptoRow.holds Tryz.pinned (OpenSpec.upto coversContentSpec)

end Rows
end Go.Proofs.YthgaljeppjdonaaGreat
