/-
  DERIVED. GIVEN WITH THE SEED: THE CARDS: each row of YtokgpammicpahaaGreatDoorRows.lean that lists a variable, with what it lists TIED to the program's text (the seventh form; the later family's looks); each row that meets fmt, with fmt's text TOLD by the authors' own Lean function (tested against real Go, not proved from fmt's source: count such statements apart). THE CARD IS WHAT COUNTS. Prove the row's statement (the work); the ties are given (YtokgpammicpahaaGreatDoorTie.lean); close each card by the builder's one call (the guide's Derived/Test/ToyasCard.lean, 'card_holds'). Laid BY PROGRAM, IN A SANDBOX (cutbox-door.mjs). By AI agents, Wed Nov 11 2026. No macro, syntax, notation, axiom, sorry.
-/
import Derived.Test.YtokgpammicpahaaGreatDoorRows
import GoSem.ClaimSeven
namespace Go.Proofs.YtokgpammicpahaaGreatDoor
namespace Rows

/-- THE TIED CARD OF 'burrowlaw09.CiphersStream'. -/
def ciphersStreamCard : Claim7 := { stood := { row := ciphersStreamRow, standIns := [], harness := (true, "f4455375d3a473d53b01549b96f5a1b98acbbf75c31e7aa4731a42647a2420b5"), looks := false }, kinds := [], alts := [], laidByText := true, laidKinds := [.data, .data, .data], laidTests := true, laidLooks := .later }
def CiphersStreamCardSaid : Prop := Claim7.holds Tryz.pinned (.plain (OpenSpec.ofChange ciphersStreamSpec)) ciphersStreamCard

/-- THE TIED CARD OF 'burrowlaw10.KeymatsOf'. -/
def keymatsOfCard : Claim7 := { stood := { row := keymatsOfRow, standIns := [], harness := (true, "f4455375d3a473d53b01549b96f5a1b98acbbf75c31e7aa4731a42647a2420b5"), looks := false }, kinds := [], alts := [], laidByText := true, laidKinds := [.data, .data, .data], laidTests := true, laidLooks := .later }
def KeymatsOfCardSaid : Prop := Claim7.holds Tryz.pinned (.plain (OpenSpec.ofChange keymatsOfSpec)) keymatsOfCard

/-- THE TIED CARD OF 'burrowlaw19.SealsOf'. -/
def sealsOfCard : Claim7 := { stood := { row := sealsOfRow, standIns := [], harness := (true, "f4455375d3a473d53b01549b96f5a1b98acbbf75c31e7aa4731a42647a2420b5"), looks := false }, kinds := [], alts := [], laidByText := true, laidKinds := [.data, .data, .data], laidTests := true, laidLooks := .later }
def SealsOfCardSaid : Prop := Claim7.holds Tryz.pinned (.plain (OpenSpec.ofChange sealsOfSpec)) sealsOfCard

/-- THE TIED CARD OF 'burrowlaw20.LanesPlay'. -/
def lanesPlayCard : Claim7 := { stood := { row := lanesPlayRow, standIns := [], harness := (true, "f4455375d3a473d53b01549b96f5a1b98acbbf75c31e7aa4731a42647a2420b5"), looks := false }, kinds := [], alts := [], laidByText := true, laidKinds := [.data, .data, .data], laidTests := true, laidLooks := .later }
def LanesPlayCardSaid : Prop := Claim7.holds Tryz.pinned (.plain (OpenSpec.ofChange lanesPlaySpec)) lanesPlayCard

/-- THE SECOND FORM's CARD OF 'burrowlaw09.CiphersStream'. -/
def ciphersStreamUptoCard : Claim7 := { stood := { row := ciphersStreamUptoRow, standIns := [], harness := (true, "f4455375d3a473d53b01549b96f5a1b98acbbf75c31e7aa4731a42647a2420b5"), looks := false }, kinds := [], alts := [], laidByText := true, laidKinds := [.data, .data, .data], laidTests := true, laidLooks := .later }
def CiphersStreamUptoCardSaid : Prop := Claim7.holds Tryz.pinned (.plain (OpenSpec.upto ciphersStreamSpec)) ciphersStreamUptoCard

/-- THE SECOND FORM's CARD OF 'burrowlaw10.KeymatsOf'. -/
def keymatsOfUptoCard : Claim7 := { stood := { row := keymatsOfUptoRow, standIns := [], harness := (true, "f4455375d3a473d53b01549b96f5a1b98acbbf75c31e7aa4731a42647a2420b5"), looks := false }, kinds := [], alts := [], laidByText := true, laidKinds := [.data, .data, .data], laidTests := true, laidLooks := .later }
def KeymatsOfUptoCardSaid : Prop := Claim7.holds Tryz.pinned (.plain (OpenSpec.upto keymatsOfSpec)) keymatsOfUptoCard

/-- THE SECOND FORM's CARD OF 'burrowlaw19.SealsOf'. -/
def sealsOfUptoCard : Claim7 := { stood := { row := sealsOfUptoRow, standIns := [], harness := (true, "f4455375d3a473d53b01549b96f5a1b98acbbf75c31e7aa4731a42647a2420b5"), looks := false }, kinds := [], alts := [], laidByText := true, laidKinds := [.data, .data, .data], laidTests := true, laidLooks := .later }
def SealsOfUptoCardSaid : Prop := Claim7.holds Tryz.pinned (.plain (OpenSpec.upto sealsOfSpec)) sealsOfUptoCard

/-- THE SECOND FORM's CARD OF 'burrowlaw20.LanesPlay'. -/
def lanesPlayUptoCard : Claim7 := { stood := { row := lanesPlayUptoRow, standIns := [], harness := (true, "f4455375d3a473d53b01549b96f5a1b98acbbf75c31e7aa4731a42647a2420b5"), looks := false }, kinds := [], alts := [], laidByText := true, laidKinds := [.data, .data, .data], laidTests := true, laidLooks := .later }
def LanesPlayUptoCardSaid : Prop := Claim7.holds Tryz.pinned (.plain (OpenSpec.upto lanesPlaySpec)) lanesPlayUptoCard
end Rows
end Go.Proofs.YtokgpammicpahaaGreatDoor
