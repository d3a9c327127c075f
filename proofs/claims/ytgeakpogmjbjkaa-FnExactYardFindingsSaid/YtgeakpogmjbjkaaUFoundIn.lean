/- What is among the findings. -/
import Derived.Test.YtgeakpogmjbjkaaPx0
import Derived.Test.YtgeakpogmjbjkaaPx9
import Derived.Test.YtgeakpogmjbjkaaUFind
namespace Go.Proofs.Ytgeakpogmjbjkaa.UF
open Go.RowKit Go.Proofs.YtgeakpogmjbjkaaW.PrintWords Go.Proofs.YtgeakpogmjbjkaaW.PrintMore Go.Proofs.Ytgeakpogmjbjkaa.P Go.Proofs.Ytgeakpogmjbjkaa.U Go.Proofs.Ytgeakpogmjbjkaa.UT Go.Proofs.Ytgeakpogmjbjkaa.UY Go.Proofs.Ytgeakpogmjbjkaa.UC
set_option linter.unusedVariables false

/-! What is among the findings. -/
theorem rl_in (cs : List C) (a i : Int) (row : List Int) (j : Nat) : ∀ r, r ∈ rl cs a i row j → 1 ≤ r ∧ r ≤ 4 := by
  intro r hr
  unfold rl at hr
  simp only [List.mem_append] at hr
  have h : ∀ (p : Prop) [Decidable p] (x : Int), r ∈ (if p then [x] else []) → r = x := by
    intro p _ x h
    split at h
    · simpa using h
    · cases h
  rcases hr with ((hr | hr) | hr) | hr
  all_goals (have := h _ _ hr; omega)
theorem fRow_in (cs : List C) (a : Int) (i : Nat) (row : List Int) : ∀ (e j : Nat) (acc : List F) (f : F), f ∈ fRow cs a i row e j acc → f ∈ acc ∨ (f.f1 = (i : Int) ∧ 1 ≤ f.f0 ∧ f.f0 ≤ 4)
  | 0, _, acc, f, h => Or.inl h
  | e + 1, j, acc, f, h => by
    rcases fRow_in cs a i row e (j + 1) _ f h with h | h
    · rcases List.mem_append.mp h with h | h
      · exact Or.inl h
      · obtain ⟨r, hr, rfl⟩ := List.mem_map.mp h
        have := rl_in cs a i row j r hr
        exact Or.inr ⟨rfl, this⟩
    · exact Or.inr h
theorem fAll_in (cs : List C) (a : Int) : ∀ (l : List (List Int)) (i : Nat) (acc : List F) (f : F), f ∈ fAll cs a l i acc → f ∈ acc ∨ ((i : Int) ≤ f.f1 ∧ f.f1 < ((i + l.length : Nat) : Int) ∧ 1 ≤ f.f0 ∧ f.f0 ≤ 4)
  | [], _, acc, f, h => Or.inl h
  | row :: l, i, acc, f, h => by
    rcases fAll_in cs a l (i + 1) _ f h with h | h
    · rcases fRow_in cs a i row row.length 0 acc f h with h | h
      · exact Or.inl h
      · right; simp only [List.length_cons]; omega
    · right; simp only [List.length_cons]; omega
theorem fRow_len (cs : List C) (a : Int) (i : Nat) (row : List Int) : ∀ (e j : Nat) (acc : List F), (fRow cs a i row e j acc).length ≤ acc.length + 4 * e
  | 0, _, acc => Nat.le_add_right _ _
  | e + 1, j, acc => by
    have h1 := fRow_len cs a i row e (j + 1) (acc ++ (rl cs a i row j).map (mk i j))
    have h2 := rl_len cs a i row j
    rw [List.length_append, List.length_map] at h1
    unfold fRow
    omega
theorem fAll_len (cs : List C) (a : Int) : ∀ (l : List (List Int)) (i : Nat) (acc : List F), (∀ x, x ∈ l → x.length ≤ 4) → (fAll cs a l i acc).length ≤ acc.length + 16 * l.length
  | [], _, acc, _ => Nat.le_add_right _ _
  | row :: l, i, acc, h => by
    have h1 := fAll_len cs a l (i + 1) (fRow cs a i row row.length 0 acc) (fun x hx => h x (List.mem_cons_of_mem _ hx))
    have h2 := fRow_len cs a i row row.length 0 acc
    have h3 := h row (List.mem_cons_self ..)
    unfold fAll
    rw [List.length_cons]
    omega
theorem found_in {l : List (List Int)} {cs : List C} {a : Int} (hy : okYard l = true) : (found l cs a).length ≤ 96 ∧ ∀ f, f ∈ found l cs a → (0 ≤ f.f1 ∧ f.f1 < (l.length : Int)) ∧ 1 ≤ f.f0 ∧ f.f0 ≤ 4 := by
  obtain ⟨h1, h2⟩ := okYard_mem hy
  unfold found
  refine ⟨?_, fun f hf => ?_⟩
  · have := fAll_len cs a l 0 [] (fun x hx => (h2 x hx).1)
    simp only [List.length_nil] at this
    omega
  · rcases fAll_in cs a l 0 [] f hf with h | h
    · cases h
    · rw [Nat.zero_add] at h
      exact ⟨⟨h.1, h.2.1⟩, h.2.2⟩

end Go.Proofs.Ytgeakpogmjbjkaa.UF
