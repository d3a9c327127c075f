/-
  DERIVED. GIVEN WITH THE SEED: THE CARDS: each row of YtdjimfejjkleaaaDoorRows.lean that lists a variable, with what it lists TIED to the program's text (the seventh form; the later family's looks); each row that meets fmt, with fmt's text TOLD by the authors' own Lean function (tested against real Go, not proved from fmt's source: count such statements apart). THE CARD IS WHAT COUNTS. Prove the row's statement (the work); the ties are given (YtdjimfejjkleaaaDoorTie.lean); close each card by the builder's one call (the guide's Derived/Test/ToyasCard.lean, 'card_holds'). Laid BY PROGRAM, IN A SANDBOX (cutbox-door.mjs). By AI agents, Wed Nov 11 2026. No macro, syntax, notation, axiom, sorry.
-/
import Derived.Test.YtdjimfejjkleaaaDoorRows
import GoSem.ClaimSeven
namespace Go.Proofs.YtdjimfejjkleaaaDoor
namespace Rows

/-- THE TIED CARD OF 'laws.FnExactBayText'. -/
def fnExactBayTextCard : Claim7 := { stood := { row := fnExactBayTextRow, standIns := [], harness := (true, "698b97994a3d541ef2e0764829295b3469f068dccd7dc35fde8f0325d68d9966"), looks := false }, kinds := [], alts := [], laidByText := true, laidKinds := [.data, .data, .data], laidTests := true, laidLooks := .later }
def FnExactBayTextCardSaid : Prop := Claim7.holds Tryd.pinned (.plain (OpenSpec.ofChange fnExactBayTextSpec)) fnExactBayTextCard

/-- THE SECOND FORM's CARD OF 'laws.FnExactBayText'. -/
def fnExactBayTextUptoCard : Claim7 := { stood := { row := fnExactBayTextUptoRow, standIns := [], harness := (true, "698b97994a3d541ef2e0764829295b3469f068dccd7dc35fde8f0325d68d9966"), looks := false }, kinds := [], alts := [], laidByText := true, laidKinds := [.data, .data, .data], laidTests := true, laidLooks := .later }
def FnExactBayTextUptoCardSaid : Prop := Claim7.holds Tryd.pinned (.plain (OpenSpec.upto fnExactBayTextSpec)) fnExactBayTextUptoCard
end Rows
end Go.Proofs.YtdjimfejjkleaaaDoor
