/-
  No cell of these rows narrows 'for every input' (looked for: loops, veiled, ifaces, maps, wideKeys, modest, calm, conditions, laid).
  DERIVED. THE GIVEN ROWS OF THIS SEAT. 4 by the template 'for every input the law returns true; each argument reads behind the call as it read before'; 0 by the template 'total and deterministic' (their statements: YthlkbpkjmkdilaaGreatTotals.lean).
  GIVEN WITH THE SEED: the statements are not yours to turn. If you find one false, say at which input.
  Laid BY PROGRAM, IN A SANDBOX (cutbox-rows.mjs): the forced cells as the released guide's own fill.sh prints them over the translation 6ff2d42c664ec3fe… (all of the seat's roots in one cut). By AI agents, Wed Nov 11 2026. No macro, syntax, notation, axiom, sorry.
-/
import Derived.Test.YthlkbpkjmkdilaaGreatChecked
import GoSem.Claim
import GoSem.ClaimJoined
import GoSem.ClaimMapViews
import Derived.JoinedTies
import Derived.KernelRfl
namespace Go.Proofs.YthlkbpkjmkdilaaGreat
/- THE CELL 'sum', in the pinned program and in every row, IS THE sha256 OF THE DUMP (.gsa) THAT YthlkbpkjmkdilaaGreatProg.lean LOADS. Nothing in Lean hashes anything: it is a label: what it is worth is what the hold of that sum in a sandbox is worth. -/
noncomputable def Tryz.pinned : Pinned := { name := "ythlkbpkjmkdilaagreat", sum := "6ff2d42c664ec3fefb1e47026f14c79d92f3926f92e13b666f0bafc460522015", checked := Tryz.checked }
namespace Rows
def none {H : Type} : Left H := { results := [], args := [] }

/-- 'burrowlaw25.ClosesNone': WHATEVER THE INPUT: true; the input reads as it did. -/
def closesNoneSpec : ChangeSpec := { name := "closesNone", fn := fun _ => fun
  | [d] => { results := [.lit (.bool true)], args := [d] }
  | _ => none }
def closesNoneRow : OpenClaim := { program := "ythlkbpkjmkdilaagreat", sum := "6ff2d42c664ec3fefb1e47026f14c79d92f3926f92e13b666f0bafc460522015", func := "burrow/burrowlaw25.ClosesNone", spec := "closesNone", inPlace := ["slices.overlaps[burrow/api.Param]"], unfollowed := true, recurses := true, named := ["math/bits.divideError", "math/bits.overflowError"], plainKeys := false, apart := false }
def ClosesNoneSaid : Prop := closesNoneRow.holds Tryz.pinned (OpenSpec.ofChange closesNoneSpec)

/-- ITS FALSE NEIGHBOUR: 'it returns false'. Refute it at one input. -/
def closesNoneWrong : ChangeSpec := { name := "closesNone", fn := fun _ => fun
  | [d] => { results := [.lit (.bool false)], args := [d] }
  | _ => none }
def ClosesNoneWrongFalsely : Prop := closesNoneRow.holds Tryz.pinned (OpenSpec.ofChange closesNoneWrong)

/-- 'burrowlaw23.PairsNone': WHATEVER THE INPUT: true; the input reads as it did. -/
def pairsNoneSpec : ChangeSpec := { name := "pairsNone", fn := fun _ => fun
  | [d] => { results := [.lit (.bool true)], args := [d] }
  | _ => none }
def pairsNoneRow : OpenClaim := { program := "ythlkbpkjmkdilaagreat", sum := "6ff2d42c664ec3fefb1e47026f14c79d92f3926f92e13b666f0bafc460522015", func := "burrow/burrowlaw23.PairsNone", spec := "pairsNone", inPlace := ["internal/reflectlite.TypeOf", "slices.overlaps[burrow/api.Param]"], unfollowed := true, recurses := true, named := ["math/bits.divideError", "math/bits.overflowError"], plainKeys := false, apart := false }
def PairsNoneSaid : Prop := pairsNoneRow.holds Tryz.pinned (OpenSpec.ofChange pairsNoneSpec)

/-- ITS FALSE NEIGHBOUR: 'it returns false'. Refute it at one input. -/
def pairsNoneWrong : ChangeSpec := { name := "pairsNone", fn := fun _ => fun
  | [d] => { results := [.lit (.bool false)], args := [d] }
  | _ => none }
def PairsNoneWrongFalsely : Prop := pairsNoneRow.holds Tryz.pinned (OpenSpec.ofChange pairsNoneWrong)

/-- 'burrowlaw17.PoolsNone': WHATEVER THE INPUT: true; the input reads as it did. -/
def poolsNoneSpec : ChangeSpec := { name := "poolsNone", fn := fun _ => fun
  | [d] => { results := [.lit (.bool true)], args := [d] }
  | _ => none }
def poolsNoneRow : OpenClaim := { program := "ythlkbpkjmkdilaagreat", sum := "6ff2d42c664ec3fefb1e47026f14c79d92f3926f92e13b666f0bafc460522015", func := "burrow/burrowlaw17.PoolsNone", spec := "poolsNone", inPlace := ["slices.overlaps[burrow/api.Param]"], unfollowed := true, recurses := true, named := ["math/bits.divideError", "math/bits.overflowError"], plainKeys := false, apart := false }
def PoolsNoneSaid : Prop := poolsNoneRow.holds Tryz.pinned (OpenSpec.ofChange poolsNoneSpec)

/-- ITS FALSE NEIGHBOUR: 'it returns false'. Refute it at one input. -/
def poolsNoneWrong : ChangeSpec := { name := "poolsNone", fn := fun _ => fun
  | [d] => { results := [.lit (.bool false)], args := [d] }
  | _ => none }
def PoolsNoneWrongFalsely : Prop := poolsNoneRow.holds Tryz.pinned (OpenSpec.ofChange poolsNoneWrong)

/-- 'burrowlaw24.ShiftsNone': WHATEVER THE INPUT: true; the input reads as it did. -/
def shiftsNoneSpec : ChangeSpec := { name := "shiftsNone", fn := fun _ => fun
  | [d] => { results := [.lit (.bool true)], args := [d] }
  | _ => none }
def shiftsNoneRow : OpenClaim := { program := "ythlkbpkjmkdilaagreat", sum := "6ff2d42c664ec3fefb1e47026f14c79d92f3926f92e13b666f0bafc460522015", func := "burrow/burrowlaw24.ShiftsNone", spec := "shiftsNone", inPlace := ["slices.overlaps[burrow/api.Param]"], unfollowed := true, recurses := true, named := ["math/bits.divideError", "math/bits.overflowError"], plainKeys := false, apart := false }
def ShiftsNoneSaid : Prop := shiftsNoneRow.holds Tryz.pinned (OpenSpec.ofChange shiftsNoneSpec)

/-- ITS FALSE NEIGHBOUR: 'it returns false'. Refute it at one input. -/
def shiftsNoneWrong : ChangeSpec := { name := "shiftsNone", fn := fun _ => fun
  | [d] => { results := [.lit (.bool false)], args := [d] }
  | _ => none }
def ShiftsNoneWrongFalsely : Prop := shiftsNoneRow.holds Tryz.pinned (OpenSpec.ofChange shiftsNoneWrong)

/- THE SECOND FORM. 'bulk': how many values and letters a reading holds, each counted each time it is reached (what is shared counts as often as it is met; a slice's spare places count too). A statement '..UptoSaid' is the law's where the arguments, and the package variables that the reading takes, are together of bulk at most 1048576: NARROWER than '..Said'. Prove '..Said' where nothing that the law and all that it calls make is longer than what came in: it says more and counts as full. Else prove '..UptoSaid'. A law counts once. -/
mutual
def uptoBulk {H : Type} : DataW H → Nat
  | .lit (.string bytes) => bytes.length + 1
  | .lit _ => 1
  | .nil => 1
  | .ptr d => uptoBulk d + 1
  | .slice elems spare => uptoBulkAll elems + uptoBulkAll spare + 1
  | .agg parts => uptoBulkAll parts + 1
  | .iface _ d => uptoBulk d + 1
  | .map entries => uptoBulkEntries entries + 1
  | .held _ => 1
def uptoBulkAll {H : Type} : List (DataW H) → Nat
  | [] => 0
  | d :: r => uptoBulk d + uptoBulkAll r
def uptoBulkEntries {H : Type} : List (Lit × DataW H) → Nat
  | [] => 0
  | x :: r => uptoBulkEntry x + uptoBulkEntries r
def uptoBulkEntry {H : Type} : Lit × DataW H → Nat
  | (.string bytes, d) => bytes.length + uptoBulk d + 1
  | (_, d) => uptoBulk d + 1
 end
def uptoSmall : (H : Type) → List (DataW H) → Bool := fun _ ds => decide (uptoBulkAll ds ≤ 1048576)
def OpenSpec.upto (s : _root_.Go.ChangeSpec) : _root_.Go.OpenSpec := { _root_.Go.OpenSpec.ofChange s with cond := some uptoSmall }

/-- 'burrowlaw25.ClosesNone', WHERE WHAT IT READS IS OF BULK AT MOST 1048576: true; the input reads as it did. -/
def closesNoneUptoRow : OpenClaim := { program := "ythlkbpkjmkdilaagreat", sum := "6ff2d42c664ec3fefb1e47026f14c79d92f3926f92e13b666f0bafc460522015", func := "burrow/burrowlaw25.ClosesNone", spec := "closesNone", inPlace := ["slices.overlaps[burrow/api.Param]"], unfollowed := true, recurses := true, named := ["math/bits.divideError", "math/bits.overflowError"], plainKeys := false, apart := false, narrowed := true }
def ClosesNoneUptoSaid : Prop := closesNoneUptoRow.holds Tryz.pinned (OpenSpec.upto closesNoneSpec)

/-- 'burrowlaw23.PairsNone', WHERE WHAT IT READS IS OF BULK AT MOST 1048576: true; the input reads as it did. -/
def pairsNoneUptoRow : OpenClaim := { program := "ythlkbpkjmkdilaagreat", sum := "6ff2d42c664ec3fefb1e47026f14c79d92f3926f92e13b666f0bafc460522015", func := "burrow/burrowlaw23.PairsNone", spec := "pairsNone", inPlace := ["internal/reflectlite.TypeOf", "slices.overlaps[burrow/api.Param]"], unfollowed := true, recurses := true, named := ["math/bits.divideError", "math/bits.overflowError"], plainKeys := false, apart := false, narrowed := true }
def PairsNoneUptoSaid : Prop := pairsNoneUptoRow.holds Tryz.pinned (OpenSpec.upto pairsNoneSpec)

/-- 'burrowlaw17.PoolsNone', WHERE WHAT IT READS IS OF BULK AT MOST 1048576: true; the input reads as it did. -/
def poolsNoneUptoRow : OpenClaim := { program := "ythlkbpkjmkdilaagreat", sum := "6ff2d42c664ec3fefb1e47026f14c79d92f3926f92e13b666f0bafc460522015", func := "burrow/burrowlaw17.PoolsNone", spec := "poolsNone", inPlace := ["slices.overlaps[burrow/api.Param]"], unfollowed := true, recurses := true, named := ["math/bits.divideError", "math/bits.overflowError"], plainKeys := false, apart := false, narrowed := true }
def PoolsNoneUptoSaid : Prop := poolsNoneUptoRow.holds Tryz.pinned (OpenSpec.upto poolsNoneSpec)

/-- 'burrowlaw24.ShiftsNone', WHERE WHAT IT READS IS OF BULK AT MOST 1048576: true; the input reads as it did. -/
def shiftsNoneUptoRow : OpenClaim := { program := "ythlkbpkjmkdilaagreat", sum := "6ff2d42c664ec3fefb1e47026f14c79d92f3926f92e13b666f0bafc460522015", func := "burrow/burrowlaw24.ShiftsNone", spec := "shiftsNone", inPlace := ["slices.overlaps[burrow/api.Param]"], unfollowed := true, recurses := true, named := ["math/bits.divideError", "math/bits.overflowError"], plainKeys := false, apart := false, narrowed := true }
def ShiftsNoneUptoSaid : Prop := shiftsNoneUptoRow.holds Tryz.pinned (OpenSpec.upto shiftsNoneSpec)

end Rows
end Go.Proofs.YthlkbpkjmkdilaaGreat
