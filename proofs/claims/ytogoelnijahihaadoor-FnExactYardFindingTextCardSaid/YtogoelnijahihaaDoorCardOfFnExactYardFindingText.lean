/- The tied card of the law FnExactYardFindingText: for every input the law returns true; the listed package-level variables are tied to the program's text (the given ties). -/
import Derived.Test.YtogoelnijahihaaDoorLawFnExactYardFindingText
import Derived.Test.YtogoelnijahihaaDoorCards
import Derived.Test.YtogoelnijahihaaDoorTie
import Derived.SevenTiedAt
namespace Go.Proofs.YtogoelnijahihaaDoor
open Go

theorem fnExactYardFindingText_card : Rows.FnExactYardFindingTextCardSaid :=
  Claim7.holds_tied_plain_at .later [] [.data, .data, .data] true (true, "dbc630a5e815547d4018c5aa78ac49bca630899f3e7aeca99635ef95f3be23bb") false
    fnExactYardFindingText_holds (fun _ h => by cases h) (by kernel_rfl) (fun _ h => by cases h) fnExactYardFindingText_row_tie rfl ⟨rfl, rfl⟩ (by kernel_rfl) rfl
    (fun f fn hf hfn => by
      obtain rfl : f = 3 := Option.some.inj ((show Tryd.prog.funcNamed "loop.example/g00906/laws.FnExactYardFindingText" = some 3 by kernel_rfl).symm.trans hf) |>.symm
      obtain rfl : fn = Tryd.f3 := (Option.some.inj (Tryd.func3.symm.trans hfn)).symm
      exact ⟨by kernel_rfl, fun j t ht => by
        rw [Tryd.params3] at ht
        have hm : t ∈ (#[23] : Array Nat).toList := by
          rw [Array.getElem?_eq_some_iff] at ht
          obtain ⟨hj, rfl⟩ := ht
          exact Array.getElem_mem_toList hj
        simp only [List.mem_cons, List.not_mem_nil, or_false] at hm
        rcases hm with hm <;> (subst hm; first | exact (show Tryd.prog.wantsStandIn 23 = false by kernel_rfl))⟩)
    (by kernel_rfl)
#print axioms fnExactYardFindingText_card
end Go.Proofs.YtogoelnijahihaaDoor
