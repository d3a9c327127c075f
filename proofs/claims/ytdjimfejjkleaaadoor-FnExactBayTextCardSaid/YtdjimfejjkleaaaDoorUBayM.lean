/- A valid bay's rows and numbers. -/
import Derived.Test.YtdjimfejjkleaaaDoorPx0
import Derived.Test.YtdjimfejjkleaaaDoorPx3
import Derived.Test.YtdjimfejjkleaaaDoorUBayB
namespace Go.Proofs.YtdjimfejjkleaaaDoor.UB
open Go.RowKit Go.Proofs.YtdjimfejjkleaaaDoorW.PrintWords Go.Proofs.YtdjimfejjkleaaaDoorW.PrintMore Go.Proofs.YtdjimfejjkleaaaDoor.P Go.Proofs.YtdjimfejjkleaaaDoor.U Go.Proofs.YtdjimfejjkleaaaDoor.UT
set_option linter.unusedVariables false

/-! A valid yard. -/
theorem chkRow_mem : ∀ (l s t : List Int), chkRow l s = some t → ∀ n, n ∈ l → inr n 1 99 = true
  | [], _, _, _, n, hn => by cases hn
  | x :: l, s, t, h, n, hn => by
    unfold chkRow at h
    split at h
    · rename_i hc
      rw [Bool.and_eq_true] at hc
      rcases List.mem_cons.mp hn with rfl | hn
      · exact hc.1
      · exact chkRow_mem l _ _ h n hn
    · cases h
theorem chkRows_mem (cap : Int) : ∀ (l : List (List Int)) (s t : List Int), chkRows cap l s = some t → ∀ x, x ∈ l → (x.length : Int) ≤ cap ∧ ∀ n, n ∈ x → inr n 1 99 = true
  | [], _, _, _, x, hx => by cases hx
  | r :: l, s, t, h, x, hx => by
    unfold chkRows at h
    split at h
    · rename_i hc
      cases h1 : chkRow r s with
      | none => rw [h1] at h; cases h
      | some u =>
        rw [h1] at h
        rcases List.mem_cons.mp hx with rfl | hx
        · exact ⟨hc, chkRow_mem _ _ _ h1⟩
        · exact chkRows_mem cap l _ _ h x hx
    · cases h
theorem rdl_mem {l : List (List Int)} {s : Int} (h0 : 0 ≤ s) (h1 : s < (l.length : Int)) : rd_L1 l s ∈ l := by
  obtain ⟨n, rfl⟩ := Int.eq_ofNat_of_zero_le h0
  have h : n < l.length := by omega
  rw [show rd_L1 l (n : Int) = l[n] from rd_l1 l n h]
  exact List.getElem_mem h

theorem okBay_mem {h : Int} {l : List (List Int)} (hb : okBay h l = true) : (1 ≤ l.length ∧ l.length ≤ 5) ∧ ∀ x, x ∈ l → x.length ≤ 4 ∧ ∀ n, n ∈ x → 1 ≤ n ∧ n ≤ 99 := by
  unfold okBay at hb
  simp only [Bool.and_eq_true, inr_iff] at hb
  obtain ⟨h1, h2, h3⟩ := hb
  obtain ⟨t, ht⟩ := Option.isSome_iff_exists.mp h3
  refine ⟨⟨by omega, by omega⟩, fun x hx => ?_⟩
  obtain ⟨h4, h5⟩ := chkRows_mem h l _ _ ht x hx
  exact ⟨by omega, fun n hn => inr_iff.mp (h5 n hn)⟩
end Go.Proofs.YtdjimfejjkleaaaDoor.UB
