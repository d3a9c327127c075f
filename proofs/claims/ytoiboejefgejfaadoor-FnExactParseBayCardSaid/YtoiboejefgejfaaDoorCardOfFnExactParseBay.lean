/- The tied card of the law FnExactParseBay: for every input the law returns true; the listed package-level variables are tied to the program's text (the given ties). -/
import Derived.Test.YtoiboejefgejfaaDoorLawFnExactParseBay
import Derived.Test.YtoiboejefgejfaaDoorCards
import Derived.Test.YtoiboejefgejfaaDoorTie
import Derived.SevenTiedAt
namespace Go.Proofs.YtoiboejefgejfaaDoor
open Go

theorem fnExactParseBay_card : Rows.FnExactParseBayCardSaid :=
  Claim7.holds_tied_plain_at .later [] [.data, .data, .data, .data, .sentinel, .sentinel, .pinned] true (true, "6c3d055eab347c734a88ba7e394457ad2bc0f9604ebd327309be5e7a70707e0c") true
    fnExactParseBay_holds (fun _ h => by cases h) (by kernel_rfl) (fun _ h => by cases h) fnExactParseBay_row_tie rfl ⟨rfl, rfl⟩ (by kernel_rfl) rfl
    (fun f fn hf hfn => by
      obtain rfl : f = 3 := Option.some.inj ((show Tryd.prog.funcNamed "loop.example/g00906/laws.FnExactParseBay" = some 3 by kernel_rfl).symm.trans hf) |>.symm
      obtain rfl : fn = Tryd.f3 := (Option.some.inj (Tryd.func3.symm.trans hfn)).symm
      exact ⟨by kernel_rfl, fun j t ht => by
        rw [Tryd.params3] at ht
        have hm : t ∈ (#[9] : Array Nat).toList := by
          rw [Array.getElem?_eq_some_iff] at ht
          obtain ⟨hj, rfl⟩ := ht
          exact Array.getElem_mem_toList hj
        simp only [List.mem_cons, List.not_mem_nil, or_false] at hm
        rcases hm with hm <;> (subst hm; first | exact (show Tryd.prog.wantsStandIn 9 = false by kernel_rfl))⟩)
    (by kernel_rfl)
#print axioms fnExactParseBay_card
end Go.Proofs.YtoiboejefgejfaaDoor
