/- Which stacks are sorted: the program's and the reference's. -/
import Derived.Test.YtchjkaondonldaaPx0
import Derived.Test.YtchjkaondonldaaPx14
import Derived.Test.YtchjkaondonldaaPx17
import Derived.Test.YtchjkaondonldaaPx18
import Derived.Test.YtchjkaondonldaaPx3
import Derived.Test.YtchjkaondonldaaPx6
import Derived.Test.YtchjkaondonldaaUWorst
namespace Go.Proofs.Ytchjkaondonldaa.UY
open Go.RowKit Go.Proofs.YtchjkaondonldaaW.PrintWords Go.Proofs.YtchjkaondonldaaW.PrintMore Go.Proofs.Ytchjkaondonldaa.P Go.Proofs.Ytchjkaondonldaa.U Go.Proofs.Ytchjkaondonldaa.UT
set_option linter.unusedVariables false

/-- Whether a number stands above a smaller one. -/
def bad (row : List Int) (j : Nat) : Bool := (row.take j).any fun x => decide (x < row.getD j 0)
theorem cnt_any (v : Int) : ∀ (l : List Int) (s : Int), 0 ≤ s → s + l.length ≤ 9223372036854775807 →
    s ≤ cntLess v l s ∧ cntLess v l s ≤ s + l.length ∧ (l.any (fun x => decide (x < v)) = true → s < cntLess v l s) ∧ (l.any (fun x => decide (x < v)) = false → cntLess v l s = s)
  | [], s, h0, h1 => by simp [cntLess]
  | x :: l, s, h0, h1 => by
    rw [List.length_cons] at h1
    unfold cntLess
    rw [List.any_cons, List.length_cons]
    by_cases h : x < v
    · rw [if_pos h, wr (by omega) (by omega), decide_eq_true h]
      obtain ⟨i1, i2, i3, i4⟩ := cnt_any v l (s + 1) (by omega) (by omega)
      exact ⟨by omega, by omega, fun _ => by omega, fun hh => by simp at hh⟩
    · rw [if_neg h, decide_eq_false h]
      obtain ⟨i1, i2, i3, i4⟩ := cnt_any v l s h0 (by omega)
      exact ⟨by omega, by omega, fun hh => i3 (by simpa using hh), fun hh => i4 (by simpa using hh)⟩
theorem bad_spec (row : List Int) (t : Nat) (ht : t < row.length) (hn : row.length ≤ 1048576) :
    ∃ c, Ev (fun k => spec_l8Below.f k row (t : Int)) c ∧ (c == 0) = !bad row t ∧ decide (c > 0) = bad row t := by
  refine ⟨_, below_ev row t ht hn, ?_⟩
  obtain ⟨h1, h2, h3, h4⟩ := cnt_any (row.getD t 0) (row.take t) 0 (by omega) (by rw [List.length_take]; omega)
  unfold bad
  cases hb : (row.take t).any fun x => decide (x < row.getD t 0)
  · rw [h4 hb]; simp
  · have h5 := h3 hb
    have h6 : ¬ cntLess (row.getD t 0) (row.take t) 0 = 0 := by omega
    generalize cntLess (row.getD t 0) (row.take t) 0 = c at h5 h6 ⊢
    exact ⟨by simp [h6], by simp; omega⟩
theorem mn_lt (m x v : Int) : mn m x < v ↔ m < v ∨ x < v := by
  unfold mn
  split <;> omega
theorem mnL_lt (v : Int) : ∀ (l : List Int) (m : Int), mnL l m < v ↔ m < v ∨ l.any (fun x => decide (x < v)) = true
  | [], m => by simp [mnL]
  | x :: l, m => by
    unfold mnL
    rw [mnL_lt v l, mn_lt, List.any_cons, Bool.or_eq_true, decide_eq_true_iff, or_assoc]
theorem min_bad (row : List Int) (j : Nat) (h0 : 0 < j) (hj : j < row.length) : ∃ m, slices_Min_int_int.f (row.take j) = some m ∧ decide (m < row.getD j 0) = bad row j := by
  have hlen : (row.take j).length = j := by rw [List.length_take]; omega
  unfold bad
  cases hr : row.take j with
  | nil => rw [hr] at hlen; simp at hlen; omega
  | cons x l =>
    refine ⟨mnL l x, rfl, ?_⟩
    rw [Bool.eq_iff_iff, decide_eq_true_iff, mnL_lt, List.any_cons, Bool.or_eq_true, decide_eq_true_iff]
def srt (row : List Int) : Nat → Nat → Bool → Bool
  | 0, _, b => b
  | d + 1, j, b => srt row d (j + 1) (b && !bad row j)
def blist (row : List Int) : Nat → Nat → List Int → List Int
  | 0, _, acc => acc
  | d + 1, j, acc => blist row d (j + 1) (if bad row j = true then acc ++ [row.getD j 0] else acc)
theorem srt_blist (row : List Int) : ∀ d j (acc : List Int), srt row d j acc.isEmpty = (blist row d j acc).isEmpty
  | 0, _, _ => rfl
  | d + 1, j, acc => by
    unfold srt blist
    rw [← srt_blist row d (j + 1)]
    cases bad row j
    · simp
    · rw [if_pos rfl, show (acc ++ [row.getD j 0]).isEmpty = false by cases acc <;> rfl]; simp
theorem bp_l (row : List Int) (hn : row.length ≤ 1048576) : ∀ d j (acc : List Int), j + d = row.length → acc.length ≤ j → Ev (fun k => impl_badlyPlaced.l0 k row acc row (row.length : Int) (j : Int)) (blist row d j acc) := by
  intro d
  induction d with
  | zero =>
    intro j acc hj ha
    exact Ev.step (fun k => by simp only [impl_badlyPlaced.l0]; rfl) (ev_neg (by omega) (ev_const rfl))
  | succ d ih =>
    intro j acc hj ha
    have hlt : j < row.length := by omega
    refine Ev.step (fun k => by simp only [impl_badlyPlaced.l0]; rfl) ?_
    refine ev_pos (by omega) (ev_pos (by omega) (ev_pos (by omega) ?_))
    rw [wsucc hlt (by omega), rd_at row j hlt]
    unfold blist
    by_cases h0 : j = 0
    · subst h0
      refine ev_neg (by omega) ?_
      have hb : bad row 0 = false := by simp [bad]
      rw [hb]
      exact ih 1 acc (by omega) (by omega)
    · obtain ⟨m, hm, hb⟩ := min_bad row j (by omega) hlt
      rw [getD_at _ _ _ hlt] at hb
      refine ev_pos (by omega) (ev_pos (by omega) (ev_call (by rw [Int.toNat_natCast]; exact hm) ?_))
      rw [getD_at _ _ _ hlt]
      by_cases hc : m < row[j]
      · rw [decide_eq_true hc] at hb
        rw [if_pos hb.symm]
        exact ev_pos hc (ev_pos (by omega) (ih (j + 1) _ (by omega) (by rw [List.length_append, List.length_singleton]; omega)))
      · rw [decide_eq_false hc] at hb
        rw [if_neg (by rw [← hb]; simp)]
        exact ev_neg hc (ih (j + 1) _ (by omega) (by omega))
theorem bp_ev (row : List Int) (hn : row.length ≤ 1048576) : Ev (fun k => impl_badlyPlaced.f k row) (blist row row.length 0 []) := by
  unfold impl_badlyPlaced.f
  exact bp_l row hn row.length 0 [] (by omega) (by simp)
def sst (l : List (List Int)) : Nat → Nat → List Int → List Int
  | 0, _, acc => acc
  | d + 1, i, acc => sst l d (i + 1) (if srt (rd_L1 l i) (rd_L1 l i).length 0 true = true then acc ++ [(i : Int)] else acc)
theorem sst_len (l : List (List Int)) : ∀ d i (acc : List Int), (sst l d i acc).length ≤ acc.length + d
  | 0, _, _ => Nat.le_refl _
  | d + 1, i, acc => by
    unfold sst
    refine Nat.le_trans (sst_len l d (i + 1) _) ?_
    split
    · rw [List.length_append, List.length_singleton]; omega
    · omega
theorem ss_impl (l : List (List Int)) (hn : l.length ≤ 1048576) (hx : ∀ x, x ∈ l → x.length ≤ 1048576) : ∀ d i (acc : List Int), i + d = l.length → acc.length ≤ i → Ev (fun k => impl_SortedStacks.l0 k acc l (l.length : Int) (i : Int)) (sst l d i acc, true) := by
  intro d
  induction d with
  | zero =>
    intro i acc hi ha
    exact Ev.step (fun k => by simp only [impl_SortedStacks.l0]; rfl) (ev_neg (by omega) (ev_const rfl))
  | succ d ih =>
    intro i acc hi ha
    have hlt : i < l.length := by omega
    refine Ev.step (fun k => by simp only [impl_SortedStacks.l0]; rfl) ?_
    refine ev_pos (by omega) (ev_pos (by omega) (ev_pos (by omega) ?_))
    rw [wsucc hlt (by omega)]
    unfold sst
    rw [rd_l1 l i hlt]
    refine Ev.bind (bp_ev _ (hx _ (List.getElem_mem hlt))) ?_
    have hs := srt_blist l[i] l[i].length 0 []
    rw [show ([] : List Int).isEmpty = true from rfl] at hs
    rw [hs]
    cases hb : blist l[i] l[i].length 0 [] with
    | nil =>
      rw [if_pos (show ([] : List Int).isEmpty = true from rfl)]
      exact ev_pos (by simp) (ev_pos (by omega) (ih (i + 1) _ (by omega) (by rw [List.length_append, List.length_singleton]; omega)))
    | cons x r =>
      rw [if_neg (by simp)]
      exact ev_neg (by simp; omega) (ih (i + 1) _ (by omega) (by omega))
theorem srt_false (row : List Int) : ∀ d j, srt row d j false = false
  | 0, _ => rfl
  | d + 1, j => by unfold srt; rw [Bool.false_and]; exact srt_false row d (j + 1)
theorem ss_spec (l : List (List Int)) (hn : l.length ≤ 1048576) (hx : ∀ x, x ∈ l → x.length ≤ 1048576) : ∀ d i (acc : List Int), i + d = l.length → acc.length ≤ i → Ev (fun k => spec_SortedStacks.l0 k acc (i : Int) l) (sst l d i acc, true) := by
  intro d
  induction d with
  | zero =>
    intro i acc hi ha
    exact Ev.step (fun k => by simp only [spec_SortedStacks.l0]; rfl) (ev_neg (by omega) (ev_const rfl))
  | succ d ih =>
    intro i acc hi ha
    have hlt : i < l.length := by omega
    have hxi := hx _ (List.getElem_mem hlt)
    refine Ev.step (fun k => by simp only [spec_SortedStacks.l0]; rfl) (ev_pos (by omega) ?_)
    have inner : ∀ e j (b : Bool), j + e = l[i].length → Ev (fun k => spec_SortedStacks.l1 k acc (i : Int) b (j : Int) l) (sst l d (i + 1) (if srt l[i] e j b = true then acc ++ [(i : Int)] else acc), true) := by
      intro e
      induction e with
      | zero =>
        intro j b hj
        refine Ev.step (fun k => by simp only [spec_SortedStacks.l1]; rfl) (ev_pos (by omega) (ev_pos (by omega) ?_))
        rw [rd_l1 l i hlt, wsucc hlt (by omega)]
        unfold srt
        refine ev_neg (by omega) ?_
        cases b
        · rw [if_neg (by simp)]
          exact ev_neg (by simp) (ih (i + 1) _ (by omega) (by omega))
        · rw [if_pos rfl]
          exact ev_pos rfl (ev_pos (by omega) (ih (i + 1) _ (by omega) (by rw [List.length_append, List.length_singleton]; omega)))
      | succ e ihe =>
        intro j b hj
        have hjt : j < l[i].length := by omega
        refine Ev.step (fun k => by simp only [spec_SortedStacks.l1]; rfl) (ev_pos (by omega) (ev_pos (by omega) ?_))
        rw [rd_l1 l i hlt, wsucc hjt (by omega)]
        refine ev_pos (by omega) ?_
        unfold srt
        cases b
        · rw [Bool.false_and]
          exact ev_neg (by simp) (ihe (j + 1) false (by omega))
        · obtain ⟨c, hc, hb, _⟩ := bad_spec l[i] j hjt hxi
          refine ev_pos rfl (Ev.bind hc ?_)
          rw [hb, Bool.true_and]
          exact ihe (j + 1) _ (by omega)
    unfold sst
    rw [rd_l1 l i hlt]
    exact inner l[i].length 0 true (by omega)
theorem sorted_same (l : List (List Int)) (hn : l.length ≤ 1048576) (hx : ∀ x, x ∈ l → x.length ≤ 1048576) :
    ∃ (r : List Int) (b : Bool), Ev (fun k => spec_SortedStacks.f k l) (r, b) ∧ Ev (fun k => impl_SortedStacks.f k l) (r, b) ∧ r.length ≤ 1048576 := by
  unfold spec_SortedStacks.f impl_SortedStacks.f
  cases h : okYard l
  · refine ⟨[], false, ev_call rfl (Ev.bind (good_spec l hn hx) ?_), ev_call (show impl_IsValidYard.f l = some (okYard l) from rfl) ?_, by simp⟩
    · rw [h]; exact ev_neg (by simp) (ev_const rfl)
    · rw [h]; exact ev_neg (by simp) (ev_const rfl)
  · refine ⟨sst l l.length 0 [], true, ev_call rfl (Ev.bind (good_spec l hn hx) ?_), ev_call (show impl_IsValidYard.f l = some (okYard l) from rfl) ?_, ?_⟩
    · rw [h]; exact ev_pos rfl (ss_spec l hn hx l.length 0 [] (by omega) (by simp))
    · rw [h]; exact ev_pos rfl (ss_impl l hn hx l.length 0 [] (by omega) (by simp))
    · exact Nat.le_trans (sst_len l l.length 0 []) (by simp; omega)
end Go.Proofs.Ytchjkaondonldaa.UY
