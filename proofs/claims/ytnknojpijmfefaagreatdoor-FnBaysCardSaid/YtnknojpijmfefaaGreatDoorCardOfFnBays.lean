/- The tied card of the law FnBays: for every input the law returns true; the listed package-level variables are tied to the program's text (the given ties). -/
import Derived.Test.YtnknojpijmfefaaGreatDoorLawFnBays
import Derived.Test.YtnknojpijmfefaaGreatDoorCards
import Derived.Test.YtnknojpijmfefaaGreatDoorTie
import Derived.SevenTiedAt
namespace Go.Proofs.YtnknojpijmfefaaGreatDoor
open Go

theorem fnBays_card : Rows.FnBaysCardSaid :=
  Claim7.holds_tied_plain_at .later [] [.data, .data, .data, .data, .sentinel, .sentinel, .pinned] true (true, "bc15cb16efea075a0295c94512f34ebb4aa39c268e22abfa3f1b828dc9f110bd") true
    fnBays_holds (fun _ h => by cases h) (by kernel_rfl) (fun _ h => by cases h) fnBays_row_tie rfl ⟨rfl, rfl⟩ (by kernel_rfl) rfl
    (fun f fn hf hfn => by
      obtain rfl : f = 3 := Option.some.inj ((show Tryz.prog.funcNamed "loop.example/g00906/laws.FnBays" = some 3 by kernel_rfl).symm.trans hf) |>.symm
      obtain rfl : fn = Tryz.f3 := (Option.some.inj (Tryz.func3.symm.trans hfn)).symm
      exact ⟨by kernel_rfl, fun j t ht => by
        rw [Tryz.params3] at ht
        have hm : t ∈ (#[22] : Array Nat).toList := by
          rw [Array.getElem?_eq_some_iff] at ht
          obtain ⟨hj, rfl⟩ := ht
          exact Array.getElem_mem_toList hj
        simp only [List.mem_cons, List.not_mem_nil, or_false] at hm
        rcases hm with hm <;> (subst hm; first | exact (show Tryz.prog.wantsStandIn 22 = false by kernel_rfl))⟩)
    (by kernel_rfl)
#print axioms fnBays_card
end Go.Proofs.YtnknojpijmfefaaGreatDoor
