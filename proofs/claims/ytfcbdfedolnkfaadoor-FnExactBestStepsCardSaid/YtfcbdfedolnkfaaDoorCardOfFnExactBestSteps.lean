/- The tied card of the law FnExactBestSteps: for every input the law returns true; the listed package-level variables are tied to the program's text (the given ties). -/
import Derived.Test.YtfcbdfedolnkfaaDoorLawFnExactBestSteps
import Derived.Test.YtfcbdfedolnkfaaDoorCards
import Derived.Test.YtfcbdfedolnkfaaDoorTie
import Derived.SevenTiedAt
namespace Go.Proofs.YtfcbdfedolnkfaaDoor
open Go

theorem fnExactBestSteps_card : Rows.FnExactBestStepsCardSaid :=
  Claim7.holds_tied_plain_at .later [] [.data, .data, .data] true (true, "de9135551cfb2eb8bb94be6c34e2998d3726e32bb25d998a60e78fa2e507b5dd") false
    fnExactBestSteps_holds (fun _ h => by cases h) (by kernel_rfl) (fun _ h => by cases h) fnExactBestSteps_row_tie rfl ⟨rfl, rfl⟩ (by kernel_rfl) rfl
    (fun f fn hf hfn => by
      obtain rfl : f = 3 := Option.some.inj ((show Tryd.prog.funcNamed "loop.example/g00906/laws.FnExactBestSteps" = some 3 by kernel_rfl).symm.trans hf) |>.symm
      obtain rfl : fn = Tryd.f3 := (Option.some.inj (Tryd.func3.symm.trans hfn)).symm
      exact ⟨by kernel_rfl, fun j t ht => by
        rw [Tryd.params3] at ht
        have hm : t ∈ (#[24, 25] : Array Nat).toList := by
          rw [Array.getElem?_eq_some_iff] at ht
          obtain ⟨hj, rfl⟩ := ht
          exact Array.getElem_mem_toList hj
        simp only [List.mem_cons, List.not_mem_nil, or_false] at hm
        rcases hm with hm | hm <;> (subst hm; first | exact (show Tryd.prog.wantsStandIn 25 = false by kernel_rfl) | exact (show Tryd.prog.wantsStandIn 24 = false by kernel_rfl))⟩)
    (by kernel_rfl)
#print axioms fnExactBestSteps_card
end Go.Proofs.YtfcbdfedolnkfaaDoor
