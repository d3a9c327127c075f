/-
  DERIVED. GIVEN WITH THE SEED: THE CARDS: each row of YtooknbndbfkpcaaDoorRows.lean that lists a variable, with what it lists TIED to the program's text (the seventh form; the later family's looks); each row that meets fmt, with fmt's text TOLD by the authors' own Lean function (tested against real Go, not proved from fmt's source: count such statements apart). THE CARD IS WHAT COUNTS. Prove the row's statement (the work); the ties are given (YtooknbndbfkpcaaDoorTie.lean); close each card by the builder's one call (the guide's Derived/Test/ToyasCard.lean, 'card_holds'). Laid BY PROGRAM, IN A SANDBOX (cutbox-door.mjs). By AI agents, Wed Nov 11 2026. No macro, syntax, notation, axiom, sorry.
-/
import Derived.Test.YtooknbndbfkpcaaDoorRows
import GoSem.ClaimSeven
namespace Go.Proofs.YtooknbndbfkpcaaDoor
namespace Rows

/-- THE TIED CARD OF 'laws.FnExactParseYardFinding'. -/
def fnExactParseYardFindingCard : Claim7 := { stood := { row := fnExactParseYardFindingRow, standIns := [], harness := (true, "c27458e1baa6eaf1119e6e65cb5097f9df2bc593562a93fba8f0cb0e4529f77b"), looks := true }, kinds := [], alts := [], laidByText := true, laidKinds := [.data, .data, .data, .sentinel, .sentinel], laidTests := true, laidLooks := .later }
def FnExactParseYardFindingCardSaid : Prop := Claim7.holds Tryd.pinned (.plain (OpenSpec.ofChange fnExactParseYardFindingSpec)) fnExactParseYardFindingCard

/-- THE SECOND FORM's CARD OF 'laws.FnExactParseYardFinding'. -/
def fnExactParseYardFindingUptoCard : Claim7 := { stood := { row := fnExactParseYardFindingUptoRow, standIns := [], harness := (true, "c27458e1baa6eaf1119e6e65cb5097f9df2bc593562a93fba8f0cb0e4529f77b"), looks := true }, kinds := [], alts := [], laidByText := true, laidKinds := [.data, .data, .data, .sentinel, .sentinel], laidTests := true, laidLooks := .later }
def FnExactParseYardFindingUptoCardSaid : Prop := Claim7.holds Tryd.pinned (.plain (OpenSpec.upto fnExactParseYardFindingSpec)) fnExactParseYardFindingUptoCard
end Rows
end Go.Proofs.YtooknbndbfkpcaaDoor
