/- The tied card of the law FnExactBayText: for every input the law returns true; the listed package-level variables are tied to the program's text (the given ties). -/
import Derived.Test.YtdjimfejjkleaaaDoorLawFnExactBayText
import Derived.Test.YtdjimfejjkleaaaDoorCards
import Derived.Test.YtdjimfejjkleaaaDoorTie
import Derived.SevenTiedAt
namespace Go.Proofs.YtdjimfejjkleaaaDoor
open Go

theorem fnExactBayText_card : Rows.FnExactBayTextCardSaid :=
  Claim7.holds_tied_plain_at .later [] [.data, .data, .data] true (true, "698b97994a3d541ef2e0764829295b3469f068dccd7dc35fde8f0325d68d9966") false
    fnExactBayText_holds (fun _ h => by cases h) (by kernel_rfl) (fun _ h => by cases h) fnExactBayText_row_tie rfl ⟨rfl, rfl⟩ (by kernel_rfl) rfl
    (fun f fn hf hfn => by
      obtain rfl : f = 3 := Option.some.inj ((show Tryd.prog.funcNamed "loop.example/g00906/laws.FnExactBayText" = some 3 by kernel_rfl).symm.trans hf) |>.symm
      obtain rfl : fn = Tryd.f3 := (Option.some.inj (Tryd.func3.symm.trans hfn)).symm
      exact ⟨by kernel_rfl, fun j t ht => by
        rw [Tryd.params3] at ht
        have hm : t ∈ (#[24] : Array Nat).toList := by
          rw [Array.getElem?_eq_some_iff] at ht
          obtain ⟨hj, rfl⟩ := ht
          exact Array.getElem_mem_toList hj
        simp only [List.mem_cons, List.not_mem_nil, or_false] at hm
        rcases hm with hm <;> (subst hm; first | exact (show Tryd.prog.wantsStandIn 24 = false by kernel_rfl))⟩)
    (by kernel_rfl)
#print axioms fnExactBayText_card
end Go.Proofs.YtdjimfejjkleaaaDoor
