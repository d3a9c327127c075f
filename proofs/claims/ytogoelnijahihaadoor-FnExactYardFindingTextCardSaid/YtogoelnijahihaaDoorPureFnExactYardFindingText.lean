/- The pure statement of the law FnExactYardFindingText: over numbers and texts alone. -/
import Derived.Test.YtogoelnijahihaaDoorPx0
import Derived.Test.YtogoelnijahihaaDoorPx1
import Derived.Test.YtogoelnijahihaaDoorPx4
import Derived.Test.YtogoelnijahihaaDoorU
namespace Go.Proofs.YtogoelnijahihaaDoor.Pure
open Go.RowKit Go.Proofs.YtogoelnijahihaaDoor.P Go.Proofs.YtogoelnijahihaaDoorW.PrintWords Go.Proofs.YtogoelnijahihaaDoorW.PrintLast Go.Proofs.YtogoelnijahihaaDoor.U
set_option linter.unusedVariables false

theorem findingTexts : ∀ r, r < 5 → ∀ s, s < 6 → ∀ t, t < 4 → spec_l7Good.f (r : Nat) (s : Nat) (t : Nat) = some true → laws_FnExactYardFindingText.f 3 (r : Nat) (s : Nat) (t : Nat) = some true := by decide +kernel
theorem FnExactYardFindingText : laws_FnExactYardFindingText.Pure := by
  intro x hx
  refine ⟨3, ?_⟩
  obtain ⟨a, b, c⟩ := x
  dsimp only
  have hb : (∃ v, spec_l7Good.f a b c = some v) ∧ (spec_l7Good.f a b c = some true → (0 ≤ a ∧ a < 5) ∧ (0 ≤ b ∧ b < 6) ∧ (0 ≤ c ∧ c < 4)) := by
    unfold spec_l7Good.f spec_l1In.f
    by_cases h1 : a ≥ 1 <;> by_cases h2 : a ≤ 4 <;> by_cases h3 : b ≥ 0 <;> by_cases h4 : b ≤ 5 <;> by_cases h5 : c ≥ 0 <;> by_cases h6 : c ≤ 3 <;> by_cases h7 : c > 0 <;> simp [h1, h2, h3, h4, h5, h6, h7] <;> omega
  obtain ⟨⟨v, hv⟩, hr⟩ := hb
  cases v with
  | false =>
    have hi : impl_isFinding.f a b c = some false := hv
    unfold laws_FnExactYardFindingText.f laws_toYardFinding.f spec_YardFindingText.f impl_YardFindingText.f
    simp [hv, hi]
  | true =>
    obtain ⟨⟨a0, a1⟩, ⟨b0, b1⟩, c0, c1⟩ := hr hv
    obtain ⟨a, rfl⟩ := Int.eq_ofNat_of_zero_le a0
    obtain ⟨b, rfl⟩ := Int.eq_ofNat_of_zero_le b0
    obtain ⟨c, rfl⟩ := Int.eq_ofNat_of_zero_le c0
    exact findingTexts a (by omega) b (by omega) c (by omega) hv

end Go.Proofs.YtogoelnijahihaaDoor.Pure
