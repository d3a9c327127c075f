/- The numbers of a stack that are badly placed. -/
import Derived.Test.YtchjkaondonldaaPx0
import Derived.Test.YtchjkaondonldaaPx15
import Derived.Test.YtchjkaondonldaaPx6
import Derived.Test.YtchjkaondonldaaPx7
import Derived.Test.YtchjkaondonldaaUBelow
namespace Go.Proofs.Ytchjkaondonldaa.UY
open Go.RowKit Go.Proofs.YtchjkaondonldaaW.PrintWords Go.Proofs.YtchjkaondonldaaW.PrintMore Go.Proofs.Ytchjkaondonldaa.P Go.Proofs.Ytchjkaondonldaa.U Go.Proofs.Ytchjkaondonldaa.UT
set_option linter.unusedVariables false

/-- Whether a number stands above a smaller one. -/
def bad (row : List Int) (j : Nat) : Bool := (row.take j).any fun x => decide (x < row.getD j 0)
theorem cnt_any (v : Int) : ∀ (l : List Int) (s : Int), 0 ≤ s → s + l.length ≤ 9223372036854775807 →
    s ≤ cntLess v l s ∧ cntLess v l s ≤ s + l.length ∧ (l.any (fun x => decide (x < v)) = true → s < cntLess v l s) ∧ (l.any (fun x => decide (x < v)) = false → cntLess v l s = s)
  | [], s, h0, h1 => by simp [cntLess]
  | x :: l, s, h0, h1 => by
    rw [List.length_cons] at h1
    unfold cntLess
    rw [List.any_cons, List.length_cons]
    by_cases h : x < v
    · rw [if_pos h, wr (by omega) (by omega), decide_eq_true h]
      obtain ⟨i1, i2, i3, i4⟩ := cnt_any v l (s + 1) (by omega) (by omega)
      exact ⟨by omega, by omega, fun _ => by omega, fun hh => by simp at hh⟩
    · rw [if_neg h, decide_eq_false h]
      obtain ⟨i1, i2, i3, i4⟩ := cnt_any v l s h0 (by omega)
      exact ⟨by omega, by omega, fun hh => i3 (by simpa using hh), fun hh => i4 (by simpa using hh)⟩
theorem bad_spec (row : List Int) (t : Nat) (ht : t < row.length) (hn : row.length ≤ 1048576) :
    ∃ c, Ev (fun k => spec_l8Below.f k row (t : Int)) c ∧ (c == 0) = !bad row t ∧ decide (c > 0) = bad row t := by
  refine ⟨_, below_ev row t ht hn, ?_⟩
  obtain ⟨h1, h2, h3, h4⟩ := cnt_any (row.getD t 0) (row.take t) 0 (by omega) (by rw [List.length_take]; omega)
  unfold bad
  cases hb : (row.take t).any fun x => decide (x < row.getD t 0)
  · rw [h4 hb]; simp
  · have h5 := h3 hb
    have h6 : ¬ cntLess (row.getD t 0) (row.take t) 0 = 0 := by omega
    generalize cntLess (row.getD t 0) (row.take t) 0 = c at h5 h6 ⊢
    exact ⟨by simp [h6], by simp; omega⟩
theorem mn_lt (m x v : Int) : mn m x < v ↔ m < v ∨ x < v := by
  unfold mn
  split <;> omega
theorem mnL_lt (v : Int) : ∀ (l : List Int) (m : Int), mnL l m < v ↔ m < v ∨ l.any (fun x => decide (x < v)) = true
  | [], m => by simp [mnL]
  | x :: l, m => by
    unfold mnL
    rw [mnL_lt v l, mn_lt, List.any_cons, Bool.or_eq_true, decide_eq_true_iff, or_assoc]
theorem min_bad (row : List Int) (j : Nat) (h0 : 0 < j) (hj : j < row.length) : ∃ m, slices_Min_int_int.f (row.take j) = some m ∧ decide (m < row.getD j 0) = bad row j := by
  have hlen : (row.take j).length = j := by rw [List.length_take]; omega
  unfold bad
  cases hr : row.take j with
  | nil => rw [hr] at hlen; simp at hlen; omega
  | cons x l =>
    refine ⟨mnL l x, rfl, ?_⟩
    rw [Bool.eq_iff_iff, decide_eq_true_iff, mnL_lt, List.any_cons, Bool.or_eq_true, decide_eq_true_iff]
def blist (row : List Int) : Nat → Nat → List Int → List Int
  | 0, _, acc => acc
  | d + 1, j, acc => blist row d (j + 1) (if bad row j = true then acc ++ [row.getD j 0] else acc)
theorem bp_l (row : List Int) (hn : row.length ≤ 1048576) : ∀ d j (acc : List Int), j + d = row.length → acc.length ≤ j → Ev (fun k => impl_badlyPlaced.l0 k row acc row (row.length : Int) (j : Int)) (blist row d j acc) := by
  intro d
  induction d with
  | zero =>
    intro j acc hj ha
    exact Ev.step (fun k => by simp only [impl_badlyPlaced.l0]; rfl) (ev_neg (by omega) (ev_const rfl))
  | succ d ih =>
    intro j acc hj ha
    have hlt : j < row.length := by omega
    refine Ev.step (fun k => by simp only [impl_badlyPlaced.l0]; rfl) ?_
    refine ev_pos (by omega) (ev_pos (by omega) (ev_pos (by omega) ?_))
    rw [wsucc hlt (by omega), rd_at row j hlt]
    unfold blist
    by_cases h0 : j = 0
    · subst h0
      refine ev_neg (by omega) ?_
      have hb : bad row 0 = false := by simp [bad]
      rw [hb]
      exact ih 1 acc (by omega) (by omega)
    · obtain ⟨m, hm, hb⟩ := min_bad row j (by omega) hlt
      rw [getD_at _ _ _ hlt] at hb
      refine ev_pos (by omega) (ev_pos (by omega) (ev_call (by rw [Int.toNat_natCast]; exact hm) ?_))
      rw [getD_at _ _ _ hlt]
      by_cases hc : m < row[j]
      · rw [decide_eq_true hc] at hb
        rw [if_pos hb.symm]
        exact ev_pos hc (ev_pos (by omega) (ih (j + 1) _ (by omega) (by rw [List.length_append, List.length_singleton]; omega)))
      · rw [decide_eq_false hc] at hb
        rw [if_neg (by rw [← hb]; simp)]
        exact ev_neg hc (ih (j + 1) _ (by omega) (by omega))
theorem bp_ev (row : List Int) (hn : row.length ≤ 1048576) : Ev (fun k => impl_badlyPlaced.f k row) (blist row row.length 0 []) := by
  unfold impl_badlyPlaced.f
  exact bp_l row hn row.length 0 [] (by omega) (by simp)
end Go.Proofs.Ytchjkaondonldaa.UY
