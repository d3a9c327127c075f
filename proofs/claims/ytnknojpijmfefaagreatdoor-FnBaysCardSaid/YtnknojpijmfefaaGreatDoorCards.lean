/-
  DERIVED. GIVEN WITH THE SEED: THE CARDS: each row of YtnknojpijmfefaaGreatDoorRows.lean that lists a variable, with what it lists TIED to the program's text (the seventh form; the later family's looks); each row that meets fmt, with fmt's text TOLD by the authors' own Lean function (tested against real Go, not proved from fmt's source: count such statements apart). THE CARD IS WHAT COUNTS. Prove the row's statement (the work); the ties are given (YtnknojpijmfefaaGreatDoorTie.lean); close each card by the builder's one call (the guide's Derived/Test/ToyasCard.lean, 'card_holds'). Laid BY PROGRAM, IN A SANDBOX (cutbox-door.mjs). By AI agents, Wed Nov 11 2026. No macro, syntax, notation, axiom, sorry.
-/
import Derived.Test.YtnknojpijmfefaaGreatDoorRows
import GoSem.ClaimSeven
namespace Go.Proofs.YtnknojpijmfefaaGreatDoor
namespace Rows

/-- THE TIED CARD OF 'laws.FnBays'. -/
def fnBaysCard : Claim7 := { stood := { row := fnBaysRow, standIns := [], harness := (true, "bc15cb16efea075a0295c94512f34ebb4aa39c268e22abfa3f1b828dc9f110bd"), looks := true }, kinds := [], alts := [], laidByText := true, laidKinds := [.data, .data, .data, .data, .sentinel, .sentinel, .pinned], laidTests := true, laidLooks := .later }
def FnBaysCardSaid : Prop := Claim7.holds Tryz.pinned (.plain (OpenSpec.ofChange fnBaysSpec)) fnBaysCard

/-- THE SECOND FORM's CARD OF 'laws.FnBays'. -/
def fnBaysUptoCard : Claim7 := { stood := { row := fnBaysUptoRow, standIns := [], harness := (true, "bc15cb16efea075a0295c94512f34ebb4aa39c268e22abfa3f1b828dc9f110bd"), looks := true }, kinds := [], alts := [], laidByText := true, laidKinds := [.data, .data, .data, .data, .sentinel, .sentinel, .pinned], laidTests := true, laidLooks := .later }
def FnBaysUptoCardSaid : Prop := Claim7.holds Tryz.pinned (.plain (OpenSpec.upto fnBaysSpec)) fnBaysUptoCard
end Rows
end Go.Proofs.YtnknojpijmfefaaGreatDoor
