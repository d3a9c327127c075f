/- The tied card of the law FnExactFewestRelocations: for every input the law returns true; the listed package-level variables are tied to the program's text (the given ties). -/
import Derived.Test.YtfcbdfedolnkfaaDoorLawFnExactFewestRelocations
import Derived.Test.YtfcbdfedolnkfaaDoorCards
import Derived.Test.YtfcbdfedolnkfaaDoorTie
import Derived.SevenTiedAt
namespace Go.Proofs.YtfcbdfedolnkfaaDoor
open Go

theorem fnExactFewestRelocations_card : Rows.FnExactFewestRelocationsCardSaid :=
  Claim7.holds_tied_plain_at .later [] [.data, .data, .data] true (true, "de9135551cfb2eb8bb94be6c34e2998d3726e32bb25d998a60e78fa2e507b5dd") false
    fnExactFewestRelocations_holds (fun _ h => by cases h) (by kernel_rfl) (fun _ h => by cases h) fnExactFewestRelocations_row_tie rfl ⟨rfl, rfl⟩ (by kernel_rfl) rfl
    (fun f fn hf hfn => by
      obtain rfl : f = 4 := Option.some.inj ((show Tryd.prog.funcNamed "loop.example/g00906/laws.FnExactFewestRelocations" = some 4 by kernel_rfl).symm.trans hf) |>.symm
      obtain rfl : fn = Tryd.f4 := (Option.some.inj (Tryd.func4.symm.trans hfn)).symm
      exact ⟨by kernel_rfl, fun j t ht => by
        rw [Tryd.params4] at ht
        have hm : t ∈ (#[24, 25] : Array Nat).toList := by
          rw [Array.getElem?_eq_some_iff] at ht
          obtain ⟨hj, rfl⟩ := ht
          exact Array.getElem_mem_toList hj
        simp only [List.mem_cons, List.not_mem_nil, or_false] at hm
        rcases hm with hm | hm <;> (subst hm; first | exact (show Tryd.prog.wantsStandIn 25 = false by kernel_rfl) | exact (show Tryd.prog.wantsStandIn 24 = false by kernel_rfl))⟩)
    (by kernel_rfl)
#print axioms fnExactFewestRelocations_card
end Go.Proofs.YtfcbdfedolnkfaaDoor
