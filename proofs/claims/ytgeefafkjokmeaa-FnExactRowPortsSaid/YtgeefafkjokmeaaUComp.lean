/- A sorted list's repetitions struck out: the rising list of its members. No function of the program is named here. -/
import Derived.Test.YtgeefafkjokmeaaUSort
import Derived.Lib.SlicesCompact
namespace Go.Proofs.Ytgeefafkjokmeaa.US
open Go.Lib
set_option linter.unusedVariables false
theorem at_arr (zs : List Int) (j : Nat) (h : j < zs.length) : zs.toArray[j]! = zs[j] := by simp [h]
theorem keeps_first (zs : List Int) : ∀ j, j < zs.length → ∃ i, i ≤ j ∧ keeps zs.toArray i = true ∧ zs.toArray[i]! = zs.toArray[j]!
  | 0, h => ⟨0, Nat.le_refl _, keeps_lt_one _ 0 (by omega), rfl⟩
  | j + 1, h => by
    cases hk : keeps zs.toArray (j + 1)
    · obtain ⟨i, h1, h2, h3⟩ := keeps_first zs j (by omega)
      refine ⟨i, by omega, h2, ?_⟩
      rw [h3]
      have hn : ¬ (zs.toArray[j + 1]! ≠ zs.toArray[j + 1 - 1]!) := fun h4 => by rw [keeps_pos h4] at hk; cases hk
      have := Classical.not_not.mp hn
      rw [this]; rfl
    · exact ⟨j + 1, Nat.le_refl _, hk, rfl⟩
theorem compact_mem (zs : List Int) (x : Int) : x ∈ compact zs ↔ x ∈ zs := by
  unfold compact compactUpTo
  rw [List.mem_map]
  constructor
  · rintro ⟨j, hj, rfl⟩
    have h1 := List.mem_range.mp (List.mem_filter.mp hj).1
    rw [at_arr _ _ h1]
    exact List.getElem_mem h1
  · intro hx
    obtain ⟨j, hj, rfl⟩ := List.mem_iff_getElem.mp hx
    obtain ⟨i, h1, h2, h3⟩ := keeps_first zs j hj
    refine ⟨i, List.mem_filter.mpr ⟨List.mem_range.mpr (by omega), h2⟩, ?_⟩
    rw [h3, at_arr _ _ hj]
theorem sorted_at (zs : List Int) (h : zs.Pairwise (· ≤ ·)) (i j : Nat) (hij : i ≤ j) (hj : j < zs.length) : zs[i] ≤ zs[j] := by
  rcases Nat.lt_or_eq_of_le hij with h1 | h1
  · exact List.pairwise_iff_getElem.mp h i j (by omega) hj h1
  · subst h1; exact Int.le_refl _
theorem compact_rising (zs : List Int) (h : zs.Pairwise (· ≤ ·)) : (compact zs).Pairwise (· < ·) := by
  unfold compact compactUpTo
  rw [List.pairwise_map]
  have h1 : ((List.range zs.length).filter (keeps zs.toArray)).Pairwise (· < ·) := List.Pairwise.filter _ List.pairwise_lt_range
  refine List.Pairwise.imp_of_mem (fun {a b} ha hb hab => ?_) h1
  obtain ⟨a1, a2⟩ := List.mem_filter.mp ha
  obtain ⟨b1, b2⟩ := List.mem_filter.mp hb
  have a1 := List.mem_range.mp a1
  have b1 := List.mem_range.mp b1
  have hb0 : 0 < b := by have : a < b := hab; omega
  have hne : zs.toArray[b]! ≠ zs.toArray[b - 1]! := fun he => by rw [keeps_neg hb0 he] at b2; cases b2
  rw [at_arr _ _ b1, at_arr _ _ (show b - 1 < zs.length by omega)] at hne
  rw [at_arr _ _ a1, at_arr _ _ b1]
  have s1 := sorted_at zs h a (b - 1) (by have : a < b := hab; omega) (by omega)
  have s2 := sorted_at zs h (b - 1) b (by omega) b1
  omega
theorem compact_sort (l : List Int) : compact (l.mergeSort fun x y => decide (x ≤ y)) = puts [] l := by
  have h1 := List.pairwise_mergeSort (le := fun (x y : Int) => decide (x ≤ y)) (fun a b c h1 h2 => by simp at *; omega) (fun a b => by simp; omega) l
  refine eq_of_mem _ _ (compact_rising _ (h1.imp (fun {a b} hab => of_decide_eq_true hab))) (puts_rising l [] List.Pairwise.nil) (fun x => ?_)
  rw [compact_mem, List.mem_mergeSort, puts_mem]; simp
end Go.Proofs.Ytgeefafkjokmeaa.US
