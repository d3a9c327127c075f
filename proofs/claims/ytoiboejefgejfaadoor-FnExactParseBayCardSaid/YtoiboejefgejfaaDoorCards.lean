/-
  DERIVED. GIVEN WITH THE SEED: THE CARDS: each row of YtoiboejefgejfaaDoorRows.lean that lists a variable, with what it lists TIED to the program's text (the seventh form; the later family's looks); each row that meets fmt, with fmt's text TOLD by the authors' own Lean function (tested against real Go, not proved from fmt's source: count such statements apart). THE CARD IS WHAT COUNTS. Prove the row's statement (the work); the ties are given (YtoiboejefgejfaaDoorTie.lean); close each card by the builder's one call (the guide's Derived/Test/ToyasCard.lean, 'card_holds'). Laid BY PROGRAM, IN A SANDBOX (cutbox-door.mjs). By AI agents, Wed Nov 11 2026. No macro, syntax, notation, axiom, sorry.
-/
import Derived.Test.YtoiboejefgejfaaDoorRows
import GoSem.ClaimSeven
namespace Go.Proofs.YtoiboejefgejfaaDoor
namespace Rows

/-- THE TIED CARD OF 'laws.FnExactParseBay'. -/
def fnExactParseBayCard : Claim7 := { stood := { row := fnExactParseBayRow, standIns := [], harness := (true, "6c3d055eab347c734a88ba7e394457ad2bc0f9604ebd327309be5e7a70707e0c"), looks := true }, kinds := [], alts := [], laidByText := true, laidKinds := [.data, .data, .data, .data, .sentinel, .sentinel, .pinned], laidTests := true, laidLooks := .later }
def FnExactParseBayCardSaid : Prop := Claim7.holds Tryd.pinned (.plain (OpenSpec.ofChange fnExactParseBaySpec)) fnExactParseBayCard

/-- THE SECOND FORM's CARD OF 'laws.FnExactParseBay'. -/
def fnExactParseBayUptoCard : Claim7 := { stood := { row := fnExactParseBayUptoRow, standIns := [], harness := (true, "6c3d055eab347c734a88ba7e394457ad2bc0f9604ebd327309be5e7a70707e0c"), looks := true }, kinds := [], alts := [], laidByText := true, laidKinds := [.data, .data, .data, .data, .sentinel, .sentinel, .pinned], laidTests := true, laidLooks := .later }
def FnExactParseBayUptoCardSaid : Prop := Claim7.holds Tryd.pinned (.plain (OpenSpec.upto fnExactParseBaySpec)) fnExactParseBayUptoCard
end Rows
end Go.Proofs.YtoiboejefgejfaaDoor
