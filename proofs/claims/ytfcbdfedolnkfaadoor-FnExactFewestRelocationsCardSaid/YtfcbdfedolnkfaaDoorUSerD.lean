/- The fewest relocations: the reference's beside the program's. -/
import Derived.Test.YtfcbdfedolnkfaaDoorPx0
import Derived.Test.YtfcbdfedolnkfaaDoorPx23
import Derived.Test.YtfcbdfedolnkfaaDoorPx7
import Derived.Test.YtfcbdfedolnkfaaDoorUSerAll
namespace Go.Proofs.YtfcbdfedolnkfaaDoor.UY
open Go.RowKit Go.Proofs.YtfcbdfedolnkfaaDoorW.PrintWords Go.Proofs.YtfcbdfedolnkfaaDoorW.PrintMore Go.Proofs.YtfcbdfedolnkfaaDoor.P Go.Proofs.YtfcbdfedolnkfaaDoor.U Go.Proofs.YtfcbdfedolnkfaaDoor.UT Go.Proofs.YtfcbdfedolnkfaaDoor.UQ
set_option linter.unusedVariables false

theorem count_spec_l (l : List Q) (hl : l.length ≤ 1000) : ∀ d i (c : Nat), i + d = l.length → c ≤ i → Ev (fun k => spec_CountRelocations.l0 k l (c : Int) (i : Int)) ((c + rel (l.drop i) : Nat) : Int) := by
  intro d
  induction d with
  | zero =>
    intro i c hi hc
    refine Ev.step (fun k => by simp only [spec_CountRelocations.l0]; rfl) (ev_neg (by omega) (ev_const ?_))
    rw [List.drop_of_length_le (by omega)]; rfl
  | succ d ih =>
    intro i c hi hc
    have hlt : i < l.length := by omega
    refine Ev.step (fun k => by simp only [spec_CountRelocations.l0]; rfl) (ev_pos (by omega) (ev_pos (by omega) ?_))
    rw [rd_q l i hlt, wsucc hlt (by omega), List.drop_eq_getElem_cons hlt, rel]
    by_cases e : l[i].f1 = -1
    · rw [if_pos e]
      exact ev_pos e (ev_eq (ih (i + 1) c (by omega) (by omega)) (by congr 1; omega))
    · rw [if_neg e, show wrap64 ((c : Int) + 1) = ((c + 1 : Nat) : Int) from by rw [wr (by omega) (by omega)]; rfl]
      exact ev_neg e (ev_eq (ih (i + 1) (c + 1) (by omega) (by omega)) (by congr 1; omega))
theorem count_spec (l : List Q) (hl : l.length ≤ 1000) : Ev (fun k => spec_CountRelocations.f k l) ((rel l : Nat) : Int) := by
  unfold spec_CountRelocations.f
  exact ev_eq (count_spec_l l hl l.length 0 0 (by omega) (by omega)) (by rw [List.drop_zero, Nat.zero_add])
theorem count_impl_l (l : List Q) (hl : l.length ≤ 1000) : ∀ d i (c : Nat), i + d = l.length → c ≤ i → Ev (fun k => impl_CountRelocations.l0 k (c : Int) l (l.length : Int) (i : Int)) ((c + rel (l.drop i) : Nat) : Int) := by
  intro d
  induction d with
  | zero =>
    intro i c hi hc
    refine Ev.step (fun k => by simp only [impl_CountRelocations.l0]; rfl) (ev_neg (by omega) (ev_const ?_))
    rw [List.drop_of_length_le (by omega)]; rfl
  | succ d ih =>
    intro i c hi hc
    have hlt : i < l.length := by omega
    refine Ev.step (fun k => by simp only [impl_CountRelocations.l0]; rfl) (ev_pos (by omega) (ev_pos (by omega) (ev_pos (by omega) ?_)))
    rw [rd_q l i hlt, wsucc hlt (by omega), List.drop_eq_getElem_cons hlt, rel]
    by_cases e : l[i].f1 = -1
    · rw [if_pos e]
      exact ev_pos e (ev_eq (ih (i + 1) c (by omega) (by omega)) (by congr 1; omega))
    · rw [if_neg e, show wrap64 ((c : Int) + 1) = ((c + 1 : Nat) : Int) from by rw [wr (by omega) (by omega)]; rfl]
      exact ev_neg e (ev_eq (ih (i + 1) (c + 1) (by omega) (by omega)) (by congr 1; omega))
theorem count_impl (l : List Q) (hl : l.length ≤ 1000) : Ev (fun k => impl_CountRelocations.f k l) ((rel l : Nat) : Int) := by
  unfold impl_CountRelocations.f
  exact ev_eq (count_impl_l l hl l.length 0 0 (by omega) (by omega)) (by rw [List.drop_zero, Nat.zero_add])
theorem few_same (l : List (List Int)) (hn : l.length ≤ 1048576) (hx : ∀ x, x ∈ l → x.length ≤ 1048576) (a : List Int) (ha : a.length ≤ 1048576) :
    ∃ (r : Int) (b : Bool), Ev (fun k => spec_FewestRelocations.f k l a) (r, b) ∧ Ev (fun k => impl_FewestRelocations.f k l a) (r, b) := by
  have hs := ordA_spec l hn hx a ha
  have hi := ordA_impl l hn hx a ha
  unfold spec_FewestRelocations.f impl_FewestRelocations.f spec_BestSteps.f
  cases h : okOrd l a
  · rw [h] at hs hi
    exact ⟨0, false, Ev.bind (a := (([] : List Q), false)) (Ev.bind hs (ev_neg (by simp) (ev_const rfl))) (ev_neg (by simp) (ev_const rfl)), Ev.bind hi (ev_neg (by simp) (ev_const rfl))⟩
  · rw [h] at hs hi
    obtain ⟨X, h1, h2, h3, h4⟩ := best_both h
    have c1 := count_spec X.1 (by omega)
    have c2 := count_impl X.1 (by omega)
    obtain ⟨x, b⟩ := X
    cases b with
    | true => exact ⟨_, true, Ev.bind (a := (x, true)) (Ev.bind hs (ev_pos rfl (Ev.bind h1 (ev_const rfl)))) (ev_pos rfl (Ev.bind c1 (ev_const rfl))), Ev.bind hi (ev_pos rfl (Ev.bind h2 (Ev.bind c2 (ev_const rfl))))⟩
    | false =>
      obtain rfl : x = [] := h4 rfl
      exact ⟨0, false, Ev.bind (a := (([] : List Q), false)) (Ev.bind hs (ev_pos rfl (Ev.bind h1 (ev_const rfl)))) (ev_neg (by simp) (ev_const rfl)), Ev.bind hi (ev_pos rfl (Ev.bind h2 (Ev.bind c2 (ev_const rfl))))⟩
end Go.Proofs.YtfcbdfedolnkfaaDoor.UY
