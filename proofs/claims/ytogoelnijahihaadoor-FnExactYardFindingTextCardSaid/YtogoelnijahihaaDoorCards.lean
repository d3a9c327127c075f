/-
  DERIVED. GIVEN WITH THE SEED: THE CARDS: each row of YtogoelnijahihaaDoorRows.lean that lists a variable, with what it lists TIED to the program's text (the seventh form; the later family's looks); each row that meets fmt, with fmt's text TOLD by the authors' own Lean function (tested against real Go, not proved from fmt's source: count such statements apart). THE CARD IS WHAT COUNTS. Prove the row's statement (the work); the ties are given (YtogoelnijahihaaDoorTie.lean); close each card by the builder's one call (the guide's Derived/Test/ToyasCard.lean, 'card_holds'). Laid BY PROGRAM, IN A SANDBOX (cutbox-door.mjs). By AI agents, Wed Nov 11 2026. No macro, syntax, notation, axiom, sorry.
-/
import Derived.Test.YtogoelnijahihaaDoorRows
import GoSem.ClaimSeven
namespace Go.Proofs.YtogoelnijahihaaDoor
namespace Rows

/-- THE TIED CARD OF 'laws.FnExactYardFindingText'. -/
def fnExactYardFindingTextCard : Claim7 := { stood := { row := fnExactYardFindingTextRow, standIns := [], harness := (true, "dbc630a5e815547d4018c5aa78ac49bca630899f3e7aeca99635ef95f3be23bb"), looks := false }, kinds := [], alts := [], laidByText := true, laidKinds := [.data, .data, .data], laidTests := true, laidLooks := .later }
def FnExactYardFindingTextCardSaid : Prop := Claim7.holds Tryd.pinned (.plain (OpenSpec.ofChange fnExactYardFindingTextSpec)) fnExactYardFindingTextCard

/-- THE SECOND FORM's CARD OF 'laws.FnExactYardFindingText'. -/
def fnExactYardFindingTextUptoCard : Claim7 := { stood := { row := fnExactYardFindingTextUptoRow, standIns := [], harness := (true, "dbc630a5e815547d4018c5aa78ac49bca630899f3e7aeca99635ef95f3be23bb"), looks := false }, kinds := [], alts := [], laidByText := true, laidKinds := [.data, .data, .data], laidTests := true, laidLooks := .later }
def FnExactYardFindingTextUptoCardSaid : Prop := Claim7.holds Tryd.pinned (.plain (OpenSpec.upto fnExactYardFindingTextSpec)) fnExactYardFindingTextUptoCard
end Rows
end Go.Proofs.YtogoelnijahihaaDoor
