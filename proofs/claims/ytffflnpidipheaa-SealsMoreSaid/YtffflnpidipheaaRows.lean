/-
  No cell of these rows narrows 'for every input' (looked for: loops, veiled, ifaces, maps, wideKeys, modest, calm, conditions, laid).
  DERIVED. THE GIVEN ROWS OF THIS SEAT. 17 by the template 'for every input the law returns true; each argument reads behind the call as it read before'; 0 by the template 'total and deterministic' (their statements: YtffflnpidipheaaTotals.lean).
  GIVEN WITH THE SEED: the statements are not yours to turn. If you find one false, say at which input.
  Laid BY PROGRAM, IN A SANDBOX (cutbox-rows.mjs): the forced cells as the released guide's own fill.sh prints them over the translation 13ffae818fa330f9… (all of the seat's roots in one cut). By AI agents, Wed Nov 11 2026. No macro, syntax, notation, axiom, sorry.
-/
import Derived.Test.YtffflnpidipheaaChecked
import GoSem.Claim
import GoSem.ClaimJoined
import GoSem.ClaimMapViews
import Derived.JoinedTies
import Derived.KernelRfl
namespace Go.Proofs.Ytffflnpidipheaa
/- THE CELL 'sum', in the pinned program and in every row, IS THE sha256 OF THE DUMP (.gsa) THAT YtffflnpidipheaaProg.lean LOADS. Nothing in Lean hashes anything: it is a label: what it is worth is what the hold of that sum in a sandbox is worth. -/
noncomputable def Try.pinned : Pinned := { name := "ytffflnpidipheaa", sum := "13ffae818fa330f9f43ec27ba1f10248ed57148cc4e8b94bddb8bbc40770ec93", checked := Try.checked }
namespace Rows
def none {H : Type} : Left H := { results := [], args := [] }

/-- 'burrowlaw09.CiphersOf': WHATEVER THE INPUT: true; the input reads as it did. -/
def ciphersOfSpec : ChangeSpec := { name := "ciphersOf", fn := fun _ => fun
  | [d1, d2] => { results := [.lit (.bool true)], args := [d1, d2] }
  | _ => none }
def ciphersOfRow : OpenClaim := { program := "ytffflnpidipheaa", sum := "13ffae818fa330f9f43ec27ba1f10248ed57148cc4e8b94bddb8bbc40770ec93", func := "burrow/burrowlaw09.CiphersOf", spec := "ciphersOf", apart := false }
def CiphersOfSaid : Prop := ciphersOfRow.holds Try.pinned (OpenSpec.ofChange ciphersOfSpec)

/-- ITS FALSE NEIGHBOUR: 'it returns false'. Refute it at one input. -/
def ciphersOfWrong : ChangeSpec := { name := "ciphersOf", fn := fun _ => fun
  | [d1, d2] => { results := [.lit (.bool false)], args := [d1, d2] }
  | _ => none }
def CiphersOfWrongFalsely : Prop := ciphersOfRow.holds Try.pinned (OpenSpec.ofChange ciphersOfWrong)

/-- 'burrowlaw09.CiphersBack': WHATEVER THE INPUT: true; the input reads as it did. -/
def ciphersBackSpec : ChangeSpec := { name := "ciphersBack", fn := fun _ => fun
  | [d1, d2, d3] => { results := [.lit (.bool true)], args := [d1, d2, d3] }
  | _ => none }
def ciphersBackRow : OpenClaim := { program := "ytffflnpidipheaa", sum := "13ffae818fa330f9f43ec27ba1f10248ed57148cc4e8b94bddb8bbc40770ec93", func := "burrow/burrowlaw09.CiphersBack", spec := "ciphersBack", apart := false }
def CiphersBackSaid : Prop := ciphersBackRow.holds Try.pinned (OpenSpec.ofChange ciphersBackSpec)

/-- ITS FALSE NEIGHBOUR: 'it returns false'. Refute it at one input. -/
def ciphersBackWrong : ChangeSpec := { name := "ciphersBack", fn := fun _ => fun
  | [d1, d2, d3] => { results := [.lit (.bool false)], args := [d1, d2, d3] }
  | _ => none }
def CiphersBackWrongFalsely : Prop := ciphersBackRow.holds Try.pinned (OpenSpec.ofChange ciphersBackWrong)

/-- 'burrowlaw09.CiphersTwice': WHATEVER THE INPUT: true; the input reads as it did. -/
def ciphersTwiceSpec : ChangeSpec := { name := "ciphersTwice", fn := fun _ => fun
  | [d1, d2, d3] => { results := [.lit (.bool true)], args := [d1, d2, d3] }
  | _ => none }
def ciphersTwiceRow : OpenClaim := { program := "ytffflnpidipheaa", sum := "13ffae818fa330f9f43ec27ba1f10248ed57148cc4e8b94bddb8bbc40770ec93", func := "burrow/burrowlaw09.CiphersTwice", spec := "ciphersTwice", apart := false }
def CiphersTwiceSaid : Prop := ciphersTwiceRow.holds Try.pinned (OpenSpec.ofChange ciphersTwiceSpec)

/-- ITS FALSE NEIGHBOUR: 'it returns false'. Refute it at one input. -/
def ciphersTwiceWrong : ChangeSpec := { name := "ciphersTwice", fn := fun _ => fun
  | [d1, d2, d3] => { results := [.lit (.bool false)], args := [d1, d2, d3] }
  | _ => none }
def CiphersTwiceWrongFalsely : Prop := ciphersTwiceRow.holds Try.pinned (OpenSpec.ofChange ciphersTwiceWrong)

/-- 'burrowlaw09.CiphersOn': WHATEVER THE INPUT: true; the input reads as it did. -/
def ciphersOnSpec : ChangeSpec := { name := "ciphersOn", fn := fun _ => fun
  | [d1, d2, d3] => { results := [.lit (.bool true)], args := [d1, d2, d3] }
  | _ => none }
def ciphersOnRow : OpenClaim := { program := "ytffflnpidipheaa", sum := "13ffae818fa330f9f43ec27ba1f10248ed57148cc4e8b94bddb8bbc40770ec93", func := "burrow/burrowlaw09.CiphersOn", spec := "ciphersOn", apart := false }
def CiphersOnSaid : Prop := ciphersOnRow.holds Try.pinned (OpenSpec.ofChange ciphersOnSpec)

/-- ITS FALSE NEIGHBOUR: 'it returns false'. Refute it at one input. -/
def ciphersOnWrong : ChangeSpec := { name := "ciphersOn", fn := fun _ => fun
  | [d1, d2, d3] => { results := [.lit (.bool false)], args := [d1, d2, d3] }
  | _ => none }
def CiphersOnWrongFalsely : Prop := ciphersOnRow.holds Try.pinned (OpenSpec.ofChange ciphersOnWrong)

/-- 'burrowlaw09.CiphersAgainst': WHATEVER THE INPUT: true; the input reads as it did. -/
def ciphersAgainstSpec : ChangeSpec := { name := "ciphersAgainst", fn := fun _ => fun
  | [d1, d2, d3] => { results := [.lit (.bool true)], args := [d1, d2, d3] }
  | _ => none }
def ciphersAgainstRow : OpenClaim := { program := "ytffflnpidipheaa", sum := "13ffae818fa330f9f43ec27ba1f10248ed57148cc4e8b94bddb8bbc40770ec93", func := "burrow/burrowlaw09.CiphersAgainst", spec := "ciphersAgainst", apart := false }
def CiphersAgainstSaid : Prop := ciphersAgainstRow.holds Try.pinned (OpenSpec.ofChange ciphersAgainstSpec)

/-- ITS FALSE NEIGHBOUR: 'it returns false'. Refute it at one input. -/
def ciphersAgainstWrong : ChangeSpec := { name := "ciphersAgainst", fn := fun _ => fun
  | [d1, d2, d3] => { results := [.lit (.bool false)], args := [d1, d2, d3] }
  | _ => none }
def CiphersAgainstWrongFalsely : Prop := ciphersAgainstRow.holds Try.pinned (OpenSpec.ofChange ciphersAgainstWrong)

/-- 'burrowlaw10.KeymatsBegin': WHATEVER THE INPUT: true; the input reads as it did. -/
def keymatsBeginSpec : ChangeSpec := { name := "keymatsBegin", fn := fun _ => fun
  | [d1, d2, d3] => { results := [.lit (.bool true)], args := [d1, d2, d3] }
  | _ => none }
def keymatsBeginRow : OpenClaim := { program := "ytffflnpidipheaa", sum := "13ffae818fa330f9f43ec27ba1f10248ed57148cc4e8b94bddb8bbc40770ec93", func := "burrow/burrowlaw10.KeymatsBegin", spec := "keymatsBegin", unfollowed := true, recurses := true, apart := false }
def KeymatsBeginSaid : Prop := keymatsBeginRow.holds Try.pinned (OpenSpec.ofChange keymatsBeginSpec)

/-- ITS FALSE NEIGHBOUR: 'it returns false'. Refute it at one input. -/
def keymatsBeginWrong : ChangeSpec := { name := "keymatsBegin", fn := fun _ => fun
  | [d1, d2, d3] => { results := [.lit (.bool false)], args := [d1, d2, d3] }
  | _ => none }
def KeymatsBeginWrongFalsely : Prop := keymatsBeginRow.holds Try.pinned (OpenSpec.ofChange keymatsBeginWrong)

/-- 'burrowlaw10.KeymatsChain': WHATEVER THE INPUT: true; the input reads as it did. -/
def keymatsChainSpec : ChangeSpec := { name := "keymatsChain", fn := fun _ => fun
  | [d1, d2, d3] => { results := [.lit (.bool true)], args := [d1, d2, d3] }
  | _ => none }
def keymatsChainRow : OpenClaim := { program := "ytffflnpidipheaa", sum := "13ffae818fa330f9f43ec27ba1f10248ed57148cc4e8b94bddb8bbc40770ec93", func := "burrow/burrowlaw10.KeymatsChain", spec := "keymatsChain", unfollowed := true, recurses := true, apart := false }
def KeymatsChainSaid : Prop := keymatsChainRow.holds Try.pinned (OpenSpec.ofChange keymatsChainSpec)

/-- ITS FALSE NEIGHBOUR: 'it returns false'. Refute it at one input. -/
def keymatsChainWrong : ChangeSpec := { name := "keymatsChain", fn := fun _ => fun
  | [d1, d2, d3] => { results := [.lit (.bool false)], args := [d1, d2, d3] }
  | _ => none }
def KeymatsChainWrongFalsely : Prop := keymatsChainRow.holds Try.pinned (OpenSpec.ofChange keymatsChainWrong)

/-- 'burrowlaw10.KeymatsCut': WHATEVER THE INPUT: true; the input reads as it did. -/
def keymatsCutSpec : ChangeSpec := { name := "keymatsCut", fn := fun _ => fun
  | [d] => { results := [.lit (.bool true)], args := [d] }
  | _ => none }
def keymatsCutRow : OpenClaim := { program := "ytffflnpidipheaa", sum := "13ffae818fa330f9f43ec27ba1f10248ed57148cc4e8b94bddb8bbc40770ec93", func := "burrow/burrowlaw10.KeymatsCut", spec := "keymatsCut", unfollowed := true, recurses := true, apart := false }
def KeymatsCutSaid : Prop := keymatsCutRow.holds Try.pinned (OpenSpec.ofChange keymatsCutSpec)

/-- ITS FALSE NEIGHBOUR: 'it returns false'. Refute it at one input. -/
def keymatsCutWrong : ChangeSpec := { name := "keymatsCut", fn := fun _ => fun
  | [d] => { results := [.lit (.bool false)], args := [d] }
  | _ => none }
def KeymatsCutWrongFalsely : Prop := keymatsCutRow.holds Try.pinned (OpenSpec.ofChange keymatsCutWrong)

/-- 'burrowlaw19.SealsBack': WHATEVER THE INPUT: true; the input reads as it did. -/
def sealsBackSpec : ChangeSpec := { name := "sealsBack", fn := fun _ => fun
  | [d1, d2] => { results := [.lit (.bool true)], args := [d1, d2] }
  | _ => none }
def sealsBackRow : OpenClaim := { program := "ytffflnpidipheaa", sum := "13ffae818fa330f9f43ec27ba1f10248ed57148cc4e8b94bddb8bbc40770ec93", func := "burrow/burrowlaw19.SealsBack", spec := "sealsBack", unfollowed := true, recurses := true, apart := false }
def SealsBackSaid : Prop := sealsBackRow.holds Try.pinned (OpenSpec.ofChange sealsBackSpec)

/-- ITS FALSE NEIGHBOUR: 'it returns false'. Refute it at one input. -/
def sealsBackWrong : ChangeSpec := { name := "sealsBack", fn := fun _ => fun
  | [d1, d2] => { results := [.lit (.bool false)], args := [d1, d2] }
  | _ => none }
def SealsBackWrongFalsely : Prop := sealsBackRow.holds Try.pinned (OpenSpec.ofChange sealsBackWrong)

/-- 'burrowlaw19.SealsPart': WHATEVER THE INPUT: true; the input reads as it did. -/
def sealsPartSpec : ChangeSpec := { name := "sealsPart", fn := fun _ => fun
  | [d1, d2, d3] => { results := [.lit (.bool true)], args := [d1, d2, d3] }
  | _ => none }
def sealsPartRow : OpenClaim := { program := "ytffflnpidipheaa", sum := "13ffae818fa330f9f43ec27ba1f10248ed57148cc4e8b94bddb8bbc40770ec93", func := "burrow/burrowlaw19.SealsPart", spec := "sealsPart", unfollowed := true, recurses := true, apart := false }
def SealsPartSaid : Prop := sealsPartRow.holds Try.pinned (OpenSpec.ofChange sealsPartSpec)

/-- ITS FALSE NEIGHBOUR: 'it returns false'. Refute it at one input. -/
def sealsPartWrong : ChangeSpec := { name := "sealsPart", fn := fun _ => fun
  | [d1, d2, d3] => { results := [.lit (.bool false)], args := [d1, d2, d3] }
  | _ => none }
def SealsPartWrongFalsely : Prop := sealsPartRow.holds Try.pinned (OpenSpec.ofChange sealsPartWrong)

/-- 'burrowlaw19.SealsHead': WHATEVER THE INPUT: true; the input reads as it did. -/
def sealsHeadSpec : ChangeSpec := { name := "sealsHead", fn := fun _ => fun
  | [d1, d2] => { results := [.lit (.bool true)], args := [d1, d2] }
  | _ => none }
def sealsHeadRow : OpenClaim := { program := "ytffflnpidipheaa", sum := "13ffae818fa330f9f43ec27ba1f10248ed57148cc4e8b94bddb8bbc40770ec93", func := "burrow/burrowlaw19.SealsHead", spec := "sealsHead", unfollowed := true, recurses := true, apart := false }
def SealsHeadSaid : Prop := sealsHeadRow.holds Try.pinned (OpenSpec.ofChange sealsHeadSpec)

/-- ITS FALSE NEIGHBOUR: 'it returns false'. Refute it at one input. -/
def sealsHeadWrong : ChangeSpec := { name := "sealsHead", fn := fun _ => fun
  | [d1, d2] => { results := [.lit (.bool false)], args := [d1, d2] }
  | _ => none }
def SealsHeadWrongFalsely : Prop := sealsHeadRow.holds Try.pinned (OpenSpec.ofChange sealsHeadWrong)

/-- 'burrowlaw19.SealsOpen': WHATEVER THE INPUT: true; the input reads as it did. -/
def sealsOpenSpec : ChangeSpec := { name := "sealsOpen", fn := fun _ => fun
  | [d1, d2] => { results := [.lit (.bool true)], args := [d1, d2] }
  | _ => none }
def sealsOpenRow : OpenClaim := { program := "ytffflnpidipheaa", sum := "13ffae818fa330f9f43ec27ba1f10248ed57148cc4e8b94bddb8bbc40770ec93", func := "burrow/burrowlaw19.SealsOpen", spec := "sealsOpen", unfollowed := true, recurses := true, apart := false }
def SealsOpenSaid : Prop := sealsOpenRow.holds Try.pinned (OpenSpec.ofChange sealsOpenSpec)

/-- ITS FALSE NEIGHBOUR: 'it returns false'. Refute it at one input. -/
def sealsOpenWrong : ChangeSpec := { name := "sealsOpen", fn := fun _ => fun
  | [d1, d2] => { results := [.lit (.bool false)], args := [d1, d2] }
  | _ => none }
def SealsOpenWrongFalsely : Prop := sealsOpenRow.holds Try.pinned (OpenSpec.ofChange sealsOpenWrong)

/-- 'burrowlaw19.SealsMore': WHATEVER THE INPUT: true; the input reads as it did. -/
def sealsMoreSpec : ChangeSpec := { name := "sealsMore", fn := fun _ => fun
  | [d1, d2, d3] => { results := [.lit (.bool true)], args := [d1, d2, d3] }
  | _ => none }
def sealsMoreRow : OpenClaim := { program := "ytffflnpidipheaa", sum := "13ffae818fa330f9f43ec27ba1f10248ed57148cc4e8b94bddb8bbc40770ec93", func := "burrow/burrowlaw19.SealsMore", spec := "sealsMore", unfollowed := true, recurses := true, apart := false }
def SealsMoreSaid : Prop := sealsMoreRow.holds Try.pinned (OpenSpec.ofChange sealsMoreSpec)

/-- ITS FALSE NEIGHBOUR: 'it returns false'. Refute it at one input. -/
def sealsMoreWrong : ChangeSpec := { name := "sealsMore", fn := fun _ => fun
  | [d1, d2, d3] => { results := [.lit (.bool false)], args := [d1, d2, d3] }
  | _ => none }
def SealsMoreWrongFalsely : Prop := sealsMoreRow.holds Try.pinned (OpenSpec.ofChange sealsMoreWrong)

/-- 'burrowlaw20.LanesNone': WHATEVER THE INPUT: true; the input reads as it did. -/
def lanesNoneSpec : ChangeSpec := { name := "lanesNone", fn := fun _ => fun
  | [d] => { results := [.lit (.bool true)], args := [d] }
  | _ => none }
def lanesNoneRow : OpenClaim := { program := "ytffflnpidipheaa", sum := "13ffae818fa330f9f43ec27ba1f10248ed57148cc4e8b94bddb8bbc40770ec93", func := "burrow/burrowlaw20.LanesNone", spec := "lanesNone", unfollowed := true, recurses := true, apart := false }
def LanesNoneSaid : Prop := lanesNoneRow.holds Try.pinned (OpenSpec.ofChange lanesNoneSpec)

/-- ITS FALSE NEIGHBOUR: 'it returns false'. Refute it at one input. -/
def lanesNoneWrong : ChangeSpec := { name := "lanesNone", fn := fun _ => fun
  | [d] => { results := [.lit (.bool false)], args := [d] }
  | _ => none }
def LanesNoneWrongFalsely : Prop := lanesNoneRow.holds Try.pinned (OpenSpec.ofChange lanesNoneWrong)

/-- 'burrowlaw20.LanesOnce': WHATEVER THE INPUT: true; the input reads as it did. -/
def lanesOnceSpec : ChangeSpec := { name := "lanesOnce", fn := fun _ => fun
  | [d1, d2, d3] => { results := [.lit (.bool true)], args := [d1, d2, d3] }
  | _ => none }
def lanesOnceRow : OpenClaim := { program := "ytffflnpidipheaa", sum := "13ffae818fa330f9f43ec27ba1f10248ed57148cc4e8b94bddb8bbc40770ec93", func := "burrow/burrowlaw20.LanesOnce", spec := "lanesOnce", unfollowed := true, recurses := true, apart := false }
def LanesOnceSaid : Prop := lanesOnceRow.holds Try.pinned (OpenSpec.ofChange lanesOnceSpec)

/-- ITS FALSE NEIGHBOUR: 'it returns false'. Refute it at one input. -/
def lanesOnceWrong : ChangeSpec := { name := "lanesOnce", fn := fun _ => fun
  | [d1, d2, d3] => { results := [.lit (.bool false)], args := [d1, d2, d3] }
  | _ => none }
def LanesOnceWrongFalsely : Prop := lanesOnceRow.holds Try.pinned (OpenSpec.ofChange lanesOnceWrong)

/-- 'burrowlaw20.LanesFull': WHATEVER THE INPUT: true; the input reads as it did. -/
def lanesFullSpec : ChangeSpec := { name := "lanesFull", fn := fun _ => fun
  | [d1, d2, d3] => { results := [.lit (.bool true)], args := [d1, d2, d3] }
  | _ => none }
def lanesFullRow : OpenClaim := { program := "ytffflnpidipheaa", sum := "13ffae818fa330f9f43ec27ba1f10248ed57148cc4e8b94bddb8bbc40770ec93", func := "burrow/burrowlaw20.LanesFull", spec := "lanesFull", unfollowed := true, recurses := true, apart := false }
def LanesFullSaid : Prop := lanesFullRow.holds Try.pinned (OpenSpec.ofChange lanesFullSpec)

/-- ITS FALSE NEIGHBOUR: 'it returns false'. Refute it at one input. -/
def lanesFullWrong : ChangeSpec := { name := "lanesFull", fn := fun _ => fun
  | [d1, d2, d3] => { results := [.lit (.bool false)], args := [d1, d2, d3] }
  | _ => none }
def LanesFullWrongFalsely : Prop := lanesFullRow.holds Try.pinned (OpenSpec.ofChange lanesFullWrong)

/-- 'burrowlaw20.LanesApart': WHATEVER THE INPUT: true; the input reads as it did. -/
def lanesApartSpec : ChangeSpec := { name := "lanesApart", fn := fun _ => fun
  | [d1, d2, d3] => { results := [.lit (.bool true)], args := [d1, d2, d3] }
  | _ => none }
def lanesApartRow : OpenClaim := { program := "ytffflnpidipheaa", sum := "13ffae818fa330f9f43ec27ba1f10248ed57148cc4e8b94bddb8bbc40770ec93", func := "burrow/burrowlaw20.LanesApart", spec := "lanesApart", unfollowed := true, recurses := true, apart := false }
def LanesApartSaid : Prop := lanesApartRow.holds Try.pinned (OpenSpec.ofChange lanesApartSpec)

/-- ITS FALSE NEIGHBOUR: 'it returns false'. Refute it at one input. -/
def lanesApartWrong : ChangeSpec := { name := "lanesApart", fn := fun _ => fun
  | [d1, d2, d3] => { results := [.lit (.bool false)], args := [d1, d2, d3] }
  | _ => none }
def LanesApartWrongFalsely : Prop := lanesApartRow.holds Try.pinned (OpenSpec.ofChange lanesApartWrong)

/- THE SECOND FORM. 'bulk': how many values and letters a reading holds, each counted each time it is reached (what is shared counts as often as it is met; a slice's spare places count too). A statement '..UptoSaid' is the law's where the arguments, and the package variables that the reading takes, are together of bulk at most 1048576: NARROWER than '..Said'. Prove '..Said' where nothing that the law and all that it calls make is longer than what came in: it says more and counts as full. Else prove '..UptoSaid'. A law counts once. -/
mutual
def uptoBulk {H : Type} : DataW H → Nat
  | .lit (.string bytes) => bytes.length + 1
  | .lit _ => 1
  | .nil => 1
  | .ptr d => uptoBulk d + 1
  | .slice elems spare => uptoBulkAll elems + uptoBulkAll spare + 1
  | .agg parts => uptoBulkAll parts + 1
  | .iface _ d => uptoBulk d + 1
  | .map entries => uptoBulkEntries entries + 1
  | .held _ => 1
def uptoBulkAll {H : Type} : List (DataW H) → Nat
  | [] => 0
  | d :: r => uptoBulk d + uptoBulkAll r
def uptoBulkEntries {H : Type} : List (Lit × DataW H) → Nat
  | [] => 0
  | x :: r => uptoBulkEntry x + uptoBulkEntries r
def uptoBulkEntry {H : Type} : Lit × DataW H → Nat
  | (.string bytes, d) => bytes.length + uptoBulk d + 1
  | (_, d) => uptoBulk d + 1
 end
def uptoSmall : (H : Type) → List (DataW H) → Bool := fun _ ds => decide (uptoBulkAll ds ≤ 1048576)
def OpenSpec.upto (s : _root_.Go.ChangeSpec) : _root_.Go.OpenSpec := { _root_.Go.OpenSpec.ofChange s with cond := some uptoSmall }

/-- 'burrowlaw09.CiphersOf', WHERE WHAT IT READS IS OF BULK AT MOST 1048576: true; the input reads as it did. -/
def ciphersOfUptoRow : OpenClaim := { program := "ytffflnpidipheaa", sum := "13ffae818fa330f9f43ec27ba1f10248ed57148cc4e8b94bddb8bbc40770ec93", func := "burrow/burrowlaw09.CiphersOf", spec := "ciphersOf", apart := false, narrowed := true }
def CiphersOfUptoSaid : Prop := ciphersOfUptoRow.holds Try.pinned (OpenSpec.upto ciphersOfSpec)

/-- 'burrowlaw09.CiphersBack', WHERE WHAT IT READS IS OF BULK AT MOST 1048576: true; the input reads as it did. -/
def ciphersBackUptoRow : OpenClaim := { program := "ytffflnpidipheaa", sum := "13ffae818fa330f9f43ec27ba1f10248ed57148cc4e8b94bddb8bbc40770ec93", func := "burrow/burrowlaw09.CiphersBack", spec := "ciphersBack", apart := false, narrowed := true }
def CiphersBackUptoSaid : Prop := ciphersBackUptoRow.holds Try.pinned (OpenSpec.upto ciphersBackSpec)

/-- 'burrowlaw09.CiphersTwice', WHERE WHAT IT READS IS OF BULK AT MOST 1048576: true; the input reads as it did. -/
def ciphersTwiceUptoRow : OpenClaim := { program := "ytffflnpidipheaa", sum := "13ffae818fa330f9f43ec27ba1f10248ed57148cc4e8b94bddb8bbc40770ec93", func := "burrow/burrowlaw09.CiphersTwice", spec := "ciphersTwice", apart := false, narrowed := true }
def CiphersTwiceUptoSaid : Prop := ciphersTwiceUptoRow.holds Try.pinned (OpenSpec.upto ciphersTwiceSpec)

/-- 'burrowlaw09.CiphersOn', WHERE WHAT IT READS IS OF BULK AT MOST 1048576: true; the input reads as it did. -/
def ciphersOnUptoRow : OpenClaim := { program := "ytffflnpidipheaa", sum := "13ffae818fa330f9f43ec27ba1f10248ed57148cc4e8b94bddb8bbc40770ec93", func := "burrow/burrowlaw09.CiphersOn", spec := "ciphersOn", apart := false, narrowed := true }
def CiphersOnUptoSaid : Prop := ciphersOnUptoRow.holds Try.pinned (OpenSpec.upto ciphersOnSpec)

/-- 'burrowlaw09.CiphersAgainst', WHERE WHAT IT READS IS OF BULK AT MOST 1048576: true; the input reads as it did. -/
def ciphersAgainstUptoRow : OpenClaim := { program := "ytffflnpidipheaa", sum := "13ffae818fa330f9f43ec27ba1f10248ed57148cc4e8b94bddb8bbc40770ec93", func := "burrow/burrowlaw09.CiphersAgainst", spec := "ciphersAgainst", apart := false, narrowed := true }
def CiphersAgainstUptoSaid : Prop := ciphersAgainstUptoRow.holds Try.pinned (OpenSpec.upto ciphersAgainstSpec)

/-- 'burrowlaw10.KeymatsBegin', WHERE WHAT IT READS IS OF BULK AT MOST 1048576: true; the input reads as it did. -/
def keymatsBeginUptoRow : OpenClaim := { program := "ytffflnpidipheaa", sum := "13ffae818fa330f9f43ec27ba1f10248ed57148cc4e8b94bddb8bbc40770ec93", func := "burrow/burrowlaw10.KeymatsBegin", spec := "keymatsBegin", unfollowed := true, recurses := true, apart := false, narrowed := true }
def KeymatsBeginUptoSaid : Prop := keymatsBeginUptoRow.holds Try.pinned (OpenSpec.upto keymatsBeginSpec)

/-- 'burrowlaw10.KeymatsChain', WHERE WHAT IT READS IS OF BULK AT MOST 1048576: true; the input reads as it did. -/
def keymatsChainUptoRow : OpenClaim := { program := "ytffflnpidipheaa", sum := "13ffae818fa330f9f43ec27ba1f10248ed57148cc4e8b94bddb8bbc40770ec93", func := "burrow/burrowlaw10.KeymatsChain", spec := "keymatsChain", unfollowed := true, recurses := true, apart := false, narrowed := true }
def KeymatsChainUptoSaid : Prop := keymatsChainUptoRow.holds Try.pinned (OpenSpec.upto keymatsChainSpec)

/-- 'burrowlaw10.KeymatsCut', WHERE WHAT IT READS IS OF BULK AT MOST 1048576: true; the input reads as it did. -/
def keymatsCutUptoRow : OpenClaim := { program := "ytffflnpidipheaa", sum := "13ffae818fa330f9f43ec27ba1f10248ed57148cc4e8b94bddb8bbc40770ec93", func := "burrow/burrowlaw10.KeymatsCut", spec := "keymatsCut", unfollowed := true, recurses := true, apart := false, narrowed := true }
def KeymatsCutUptoSaid : Prop := keymatsCutUptoRow.holds Try.pinned (OpenSpec.upto keymatsCutSpec)

/-- 'burrowlaw19.SealsBack', WHERE WHAT IT READS IS OF BULK AT MOST 1048576: true; the input reads as it did. -/
def sealsBackUptoRow : OpenClaim := { program := "ytffflnpidipheaa", sum := "13ffae818fa330f9f43ec27ba1f10248ed57148cc4e8b94bddb8bbc40770ec93", func := "burrow/burrowlaw19.SealsBack", spec := "sealsBack", unfollowed := true, recurses := true, apart := false, narrowed := true }
def SealsBackUptoSaid : Prop := sealsBackUptoRow.holds Try.pinned (OpenSpec.upto sealsBackSpec)

/-- 'burrowlaw19.SealsPart', WHERE WHAT IT READS IS OF BULK AT MOST 1048576: true; the input reads as it did. -/
def sealsPartUptoRow : OpenClaim := { program := "ytffflnpidipheaa", sum := "13ffae818fa330f9f43ec27ba1f10248ed57148cc4e8b94bddb8bbc40770ec93", func := "burrow/burrowlaw19.SealsPart", spec := "sealsPart", unfollowed := true, recurses := true, apart := false, narrowed := true }
def SealsPartUptoSaid : Prop := sealsPartUptoRow.holds Try.pinned (OpenSpec.upto sealsPartSpec)

/-- 'burrowlaw19.SealsHead', WHERE WHAT IT READS IS OF BULK AT MOST 1048576: true; the input reads as it did. -/
def sealsHeadUptoRow : OpenClaim := { program := "ytffflnpidipheaa", sum := "13ffae818fa330f9f43ec27ba1f10248ed57148cc4e8b94bddb8bbc40770ec93", func := "burrow/burrowlaw19.SealsHead", spec := "sealsHead", unfollowed := true, recurses := true, apart := false, narrowed := true }
def SealsHeadUptoSaid : Prop := sealsHeadUptoRow.holds Try.pinned (OpenSpec.upto sealsHeadSpec)

/-- 'burrowlaw19.SealsOpen', WHERE WHAT IT READS IS OF BULK AT MOST 1048576: true; the input reads as it did. -/
def sealsOpenUptoRow : OpenClaim := { program := "ytffflnpidipheaa", sum := "13ffae818fa330f9f43ec27ba1f10248ed57148cc4e8b94bddb8bbc40770ec93", func := "burrow/burrowlaw19.SealsOpen", spec := "sealsOpen", unfollowed := true, recurses := true, apart := false, narrowed := true }
def SealsOpenUptoSaid : Prop := sealsOpenUptoRow.holds Try.pinned (OpenSpec.upto sealsOpenSpec)

/-- 'burrowlaw19.SealsMore', WHERE WHAT IT READS IS OF BULK AT MOST 1048576: true; the input reads as it did. -/
def sealsMoreUptoRow : OpenClaim := { program := "ytffflnpidipheaa", sum := "13ffae818fa330f9f43ec27ba1f10248ed57148cc4e8b94bddb8bbc40770ec93", func := "burrow/burrowlaw19.SealsMore", spec := "sealsMore", unfollowed := true, recurses := true, apart := false, narrowed := true }
def SealsMoreUptoSaid : Prop := sealsMoreUptoRow.holds Try.pinned (OpenSpec.upto sealsMoreSpec)

/-- 'burrowlaw20.LanesNone', WHERE WHAT IT READS IS OF BULK AT MOST 1048576: true; the input reads as it did. -/
def lanesNoneUptoRow : OpenClaim := { program := "ytffflnpidipheaa", sum := "13ffae818fa330f9f43ec27ba1f10248ed57148cc4e8b94bddb8bbc40770ec93", func := "burrow/burrowlaw20.LanesNone", spec := "lanesNone", unfollowed := true, recurses := true, apart := false, narrowed := true }
def LanesNoneUptoSaid : Prop := lanesNoneUptoRow.holds Try.pinned (OpenSpec.upto lanesNoneSpec)

/-- 'burrowlaw20.LanesOnce', WHERE WHAT IT READS IS OF BULK AT MOST 1048576: true; the input reads as it did. -/
def lanesOnceUptoRow : OpenClaim := { program := "ytffflnpidipheaa", sum := "13ffae818fa330f9f43ec27ba1f10248ed57148cc4e8b94bddb8bbc40770ec93", func := "burrow/burrowlaw20.LanesOnce", spec := "lanesOnce", unfollowed := true, recurses := true, apart := false, narrowed := true }
def LanesOnceUptoSaid : Prop := lanesOnceUptoRow.holds Try.pinned (OpenSpec.upto lanesOnceSpec)

/-- 'burrowlaw20.LanesFull', WHERE WHAT IT READS IS OF BULK AT MOST 1048576: true; the input reads as it did. -/
def lanesFullUptoRow : OpenClaim := { program := "ytffflnpidipheaa", sum := "13ffae818fa330f9f43ec27ba1f10248ed57148cc4e8b94bddb8bbc40770ec93", func := "burrow/burrowlaw20.LanesFull", spec := "lanesFull", unfollowed := true, recurses := true, apart := false, narrowed := true }
def LanesFullUptoSaid : Prop := lanesFullUptoRow.holds Try.pinned (OpenSpec.upto lanesFullSpec)

/-- 'burrowlaw20.LanesApart', WHERE WHAT IT READS IS OF BULK AT MOST 1048576: true; the input reads as it did. -/
def lanesApartUptoRow : OpenClaim := { program := "ytffflnpidipheaa", sum := "13ffae818fa330f9f43ec27ba1f10248ed57148cc4e8b94bddb8bbc40770ec93", func := "burrow/burrowlaw20.LanesApart", spec := "lanesApart", unfollowed := true, recurses := true, apart := false, narrowed := true }
def LanesApartUptoSaid : Prop := lanesApartUptoRow.holds Try.pinned (OpenSpec.upto lanesApartSpec)

end Rows
end Go.Proofs.Ytffflnpidipheaa
