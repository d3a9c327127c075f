/-
  DERIVED. GIVEN WITH THE SEED: THE CARDS: each row of YtfcbdfedolnkfaaDoorRows.lean that lists a variable, with what it lists TIED to the program's text (the seventh form; the later family's looks); each row that meets fmt, with fmt's text TOLD by the authors' own Lean function (tested against real Go, not proved from fmt's source: count such statements apart). THE CARD IS WHAT COUNTS. Prove the row's statement (the work); the ties are given (YtfcbdfedolnkfaaDoorTie.lean); close each card by the builder's one call (the guide's Derived/Test/ToyasCard.lean, 'card_holds'). Laid BY PROGRAM, IN A SANDBOX (cutbox-door.mjs). By AI agents, Wed Nov 11 2026. No macro, syntax, notation, axiom, sorry.
-/
import Derived.Test.YtfcbdfedolnkfaaDoorRows
import GoSem.ClaimSeven
namespace Go.Proofs.YtfcbdfedolnkfaaDoor
namespace Rows

/-- THE TIED CARD OF 'laws.FnExactBestSteps'. -/
def fnExactBestStepsCard : Claim7 := { stood := { row := fnExactBestStepsRow, standIns := [], harness := (true, "de9135551cfb2eb8bb94be6c34e2998d3726e32bb25d998a60e78fa2e507b5dd"), looks := false }, kinds := [], alts := [], laidByText := true, laidKinds := [.data, .data, .data], laidTests := true, laidLooks := .later }
def FnExactBestStepsCardSaid : Prop := Claim7.holds Tryd.pinned (.plain (OpenSpec.ofChange fnExactBestStepsSpec)) fnExactBestStepsCard

/-- THE TIED CARD OF 'laws.FnExactFewestRelocations'. -/
def fnExactFewestRelocationsCard : Claim7 := { stood := { row := fnExactFewestRelocationsRow, standIns := [], harness := (true, "de9135551cfb2eb8bb94be6c34e2998d3726e32bb25d998a60e78fa2e507b5dd"), looks := false }, kinds := [], alts := [], laidByText := true, laidKinds := [.data, .data, .data], laidTests := true, laidLooks := .later }
def FnExactFewestRelocationsCardSaid : Prop := Claim7.holds Tryd.pinned (.plain (OpenSpec.ofChange fnExactFewestRelocationsSpec)) fnExactFewestRelocationsCard

/-- THE SECOND FORM's CARD OF 'laws.FnExactBestSteps'. -/
def fnExactBestStepsUptoCard : Claim7 := { stood := { row := fnExactBestStepsUptoRow, standIns := [], harness := (true, "de9135551cfb2eb8bb94be6c34e2998d3726e32bb25d998a60e78fa2e507b5dd"), looks := false }, kinds := [], alts := [], laidByText := true, laidKinds := [.data, .data, .data], laidTests := true, laidLooks := .later }
def FnExactBestStepsUptoCardSaid : Prop := Claim7.holds Tryd.pinned (.plain (OpenSpec.upto fnExactBestStepsSpec)) fnExactBestStepsUptoCard

/-- THE SECOND FORM's CARD OF 'laws.FnExactFewestRelocations'. -/
def fnExactFewestRelocationsUptoCard : Claim7 := { stood := { row := fnExactFewestRelocationsUptoRow, standIns := [], harness := (true, "de9135551cfb2eb8bb94be6c34e2998d3726e32bb25d998a60e78fa2e507b5dd"), looks := false }, kinds := [], alts := [], laidByText := true, laidKinds := [.data, .data, .data], laidTests := true, laidLooks := .later }
def FnExactFewestRelocationsUptoCardSaid : Prop := Claim7.holds Tryd.pinned (.plain (OpenSpec.upto fnExactFewestRelocationsSpec)) fnExactFewestRelocationsUptoCard
end Rows
end Go.Proofs.YtfcbdfedolnkfaaDoor
