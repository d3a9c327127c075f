/- The worst box of a yard: the program's and the reference's. -/
import Derived.Test.YtchjkaondonldaaPx0
import Derived.Test.YtchjkaondonldaaPx3
import Derived.Test.YtchjkaondonldaaPx4
import Derived.Test.YtchjkaondonldaaPx6
import Derived.Test.YtchjkaondonldaaPx7
import Derived.Test.YtchjkaondonldaaUYard
namespace Go.Proofs.Ytchjkaondonldaa.UY
open Go.RowKit Go.Proofs.YtchjkaondonldaaW.PrintWords Go.Proofs.YtchjkaondonldaaW.PrintMore Go.Proofs.Ytchjkaondonldaa.P Go.Proofs.Ytchjkaondonldaa.U Go.Proofs.Ytchjkaondonldaa.UT
set_option linter.unusedVariables false

def cntLess (v : Int) : List Int → Int → Int
  | [], s => s
  | x :: l, s => cntLess v l (if x < v then wrap64 (s + 1) else s)
def upd (s : Int × Int) (n c : Int) : Int × Int := if c > s.2 then (n, c) else if c = s.2 then (if c > 0 then (if n < s.1 then (n, c) else s) else s) else s
def wrow (row : List Int) : Nat → Nat → Int × Int → Int × Int
  | 0, _, s => s
  | d + 1, j, s => wrow row d (j + 1) (upd s (row.getD j 0) (cntLess (row.getD j 0) (row.take j) 0))
def wtab : List (List Int) → Int × Int → Int × Int
  | [], s => s
  | row :: l, s => wtab l (wrow row row.length 0 s)
def wfin (s : Int × Int) : Int × Int × Bool := (s.1, s.2, decide (s.2 > 0))

theorem below_l (row : List Int) (t : Nat) (ht : t < row.length) (hn : row.length ≤ 1048576) : ∀ d j (s : Int), j + d = t → Ev (fun k => spec_l8Below.l0 k row (t : Int) s (j : Int)) (cntLess (row.getD t 0) ((row.take t).drop j) s) := by
  intro d
  induction d with
  | zero =>
    intro j s hj
    refine Ev.step (fun k => by simp only [spec_l8Below.l0]; rfl) ?_
    refine ev_neg (by omega) (ev_const ?_)
    rw [List.drop_of_length_le (by rw [List.length_take]; omega)]; rfl
  | succ d ih =>
    intro j s hj
    have hjt : j < (row.take t).length := by rw [List.length_take]; omega
    refine Ev.step (fun k => by simp only [spec_l8Below.l0]; rfl) ?_
    rw [rd_at row j (by omega), rd_at row t ht, wsucc (show j < row.length by omega) (by omega), List.drop_eq_getElem_cons hjt, getD_at _ _ _ ht]
    refine ev_pos (by omega) (ev_pos (by omega) (ev_pos (by omega) (ev_pos (by omega) (ev_pos (by omega) ?_))))
    have e : (row.take t)[j] = row[j] := by simp
    rw [e]
    unfold cntLess
    have h := ih (j + 1)
    rw [getD_at _ _ _ ht] at h
    by_cases hc : row[j] < row[t]
    · rw [if_pos hc]; exact ev_pos hc (h _ (by omega))
    · rw [if_neg hc]; exact ev_neg hc (h _ (by omega))
theorem below_ev (row : List Int) (t : Nat) (ht : t < row.length) (hn : row.length ≤ 1048576) : Ev (fun k => spec_l8Below.f k row (t : Int)) (cntLess (row.getD t 0) (row.take t) 0) := by
  unfold spec_l8Below.f
  exact below_l row t ht hn t 0 0 (by omega)

theorem worst_spec_l (l : List (List Int)) (hn : l.length ≤ 1048576) (hx : ∀ x, x ∈ l → x.length ≤ 1048576) : ∀ d i (s : Int × Int), i + d = l.length → Ev (fun k => spec_WorstBox.l0 k s.1 s.2 (i : Int) l) (wfin (wtab (l.drop i) s)) := by
  intro d
  induction d with
  | zero =>
    intro i s hi
    refine Ev.step (fun k => by simp only [spec_WorstBox.l0]; rfl) ?_
    refine ev_neg (by omega) (ev_const ?_)
    rw [List.drop_of_length_le (by omega)]; rfl
  | succ d ih =>
    intro i s hi
    have hlt : i < l.length := by omega
    have hxi := hx _ (List.getElem_mem hlt)
    refine Ev.step (fun k => by simp only [spec_WorstBox.l0]; rfl) ?_
    refine ev_pos (by omega) ?_
    rw [List.drop_eq_getElem_cons hlt]
    have inner : ∀ e j (s : Int × Int), j + e = l[i].length → Ev (fun k => spec_WorstBox.l1 k s.1 s.2 (i : Int) (j : Int) l) (wfin (wtab (l.drop (i + 1)) (wrow l[i] e j s))) := by
      intro e
      induction e with
      | zero =>
        intro j s hj
        refine Ev.step (fun k => by simp only [spec_WorstBox.l1]; rfl) ?_
        refine ev_pos (by omega) (ev_pos (by omega) ?_)
        rw [rd_l1 l i hlt, wsucc hlt (by omega)]
        exact ev_neg (by omega) (ih (i + 1) s (by omega))
      | succ e ihe =>
        intro j s hj
        have hjt : j < l[i].length := by omega
        refine Ev.step (fun k => by simp only [spec_WorstBox.l1]; rfl) ?_
        refine ev_pos (by omega) (ev_pos (by omega) ?_)
        rw [rd_l1 l i hlt]
        refine ev_pos (by omega) (Ev.bind (below_ev _ j hjt hxi) ?_)
        rw [rd_at _ j hjt, wsucc hjt (by omega)]
        unfold wrow
        rw [getD_at _ _ _ hjt]
        generalize cntLess l[i][j] (l[i].take j) 0 = c
        unfold upd
        by_cases h1 : c > s.2
        · rw [if_pos h1]
          exact ev_pos h1 (ev_pos (by omega) (ihe (j + 1) (l[i][j], c) (by omega)))
        rw [if_neg h1]
        by_cases h2 : c = s.2
        · rw [if_pos h2]
          by_cases h3 : c > 0
          · rw [if_pos h3]
            by_cases h4 : l[i][j] < s.1
            · rw [if_pos h4]
              exact ev_neg h1 (ev_pos h2 (ev_pos h3 (ev_pos (by omega) (ev_pos h4 (ihe (j + 1) (l[i][j], c) (by omega))))))
            · rw [if_neg h4]
              exact ev_neg h1 (ev_pos h2 (ev_pos h3 (ev_pos (by omega) (ev_neg h4 (ihe (j + 1) s (by omega))))))
          · rw [if_neg h3]
            exact ev_neg h1 (ev_pos h2 (ev_neg h3 (ihe (j + 1) s (by omega))))
        · rw [if_neg h2]
          exact ev_neg h1 (ev_neg h2 (ihe (j + 1) s (by omega)))
    unfold wtab
    exact inner l[i].length 0 s (by omega)
theorem worst_impl_l (l : List (List Int)) (hn : l.length ≤ 1048576) (hx : ∀ x, x ∈ l → x.length ≤ 1048576) : ∀ d i (s : Int × Int), i + d = l.length → Ev (fun k => impl_WorstBox.l0 k s.1 s.2 l (l.length : Int) (i : Int)) (wfin (wtab (l.drop i) s)) := by
  intro d
  induction d with
  | zero =>
    intro i s hi
    refine Ev.step (fun k => by simp only [impl_WorstBox.l0]; rfl) ?_
    refine ev_neg (by omega) (ev_const ?_)
    rw [List.drop_of_length_le (by omega)]; rfl
  | succ d ih =>
    intro i s hi
    have hlt : i < l.length := by omega
    have hxi := hx _ (List.getElem_mem hlt)
    refine Ev.step (fun k => by simp only [impl_WorstBox.l0]; rfl) ?_
    rw [rd_l1 l i hlt]
    refine ev_pos (by omega) (ev_pos (by omega) (ev_pos (by omega) ?_))
    rw [List.drop_eq_getElem_cons hlt]
    generalize hrow : l[i] = row at hxi
    have inner : ∀ e j (s : Int × Int), j + e = row.length → Ev (fun k => impl_WorstBox.l1 k s.1 s.2 row l (l.length : Int) (i : Int) row (row.length : Int) (j : Int)) (wfin (wtab (l.drop (i + 1)) (wrow row e j s))) := by
      intro e
      induction e with
      | zero =>
        intro j s hj
        refine Ev.step (fun k => by simp only [impl_WorstBox.l1]; rfl) ?_
        rw [wsucc hlt (by omega)]
        exact ev_neg (by omega) (ih (i + 1) s (by omega))
      | succ e ihe =>
        intro j s hj
        have hjt : j < row.length := by omega
        refine Ev.step (fun k => by simp only [impl_WorstBox.l1]; rfl) ?_
        rw [rd_at _ j hjt, Int.toNat_natCast]
        refine ev_pos (by omega) (ev_pos (by omega) (ev_pos (by omega) (ev_pos (by omega) ?_)))
        have htl : (row.take j).length = j := by rw [List.length_take]; omega
        have low : ∀ f m (c : Int), m + f = (row.take j).length → Ev (fun k => impl_WorstBox.l2 k s.1 s.2 row row[j] c l (l.length : Int) (i : Int) row (row.length : Int) (j : Int) (row.take j) ((row.take j).length : Int) (m : Int)) (wfin (wtab (l.drop (i + 1)) (wrow row e (j + 1) (upd s row[j] (cntLess row[j] ((row.take j).drop m) c))))) := by
          intro f
          induction f with
          | zero =>
            intro m c hm
            refine Ev.step (fun k => by simp only [impl_WorstBox.l2]; rfl) ?_
            rw [wsucc hjt (by omega), List.drop_of_length_le (show (row.take j).length ≤ m by omega)]
            refine ev_neg (by omega) ?_
            unfold cntLess upd
            by_cases h1 : c > s.2
            · rw [if_pos h1]
              exact ev_pos h1 (ihe (j + 1) (row[j], c) (by omega))
            rw [if_neg h1]
            by_cases h2 : c = s.2
            · rw [if_pos h2]
              by_cases h3 : c > 0
              · rw [if_pos h3]
                by_cases h4 : row[j] < s.1
                · rw [if_pos h4]
                  exact ev_neg h1 (ev_pos h2 (ev_pos h3 (ev_pos h4 (ihe (j + 1) (row[j], c) (by omega)))))
                · rw [if_neg h4]
                  exact ev_neg h1 (ev_pos h2 (ev_pos h3 (ev_neg h4 (ihe (j + 1) s (by omega)))))
              · rw [if_neg h3]
                exact ev_neg h1 (ev_pos h2 (ev_neg h3 (ihe (j + 1) s (by omega))))
            · rw [if_neg h2]
              exact ev_neg h1 (ev_neg h2 (ihe (j + 1) s (by omega)))
          | succ f ihf =>
            intro m c hm
            have hmt : m < (row.take j).length := by omega
            refine Ev.step (fun k => by simp only [impl_WorstBox.l2]; rfl) ?_
            rw [rd_at _ m hmt, wsucc hmt (by omega), List.drop_eq_getElem_cons hmt]
            refine ev_pos (by omega) (ev_pos (by omega) (ev_pos (by omega) ?_))
            unfold cntLess
            by_cases hc : (row.take j)[m] < row[j]
            · rw [if_pos hc]; exact ev_pos hc (ihf (m + 1) _ (by omega))
            · rw [if_neg hc]; exact ev_neg hc (ihf (m + 1) _ (by omega))
        unfold wrow
        rw [getD_at _ _ _ hjt]
        exact low (row.take j).length 0 0 (by omega)
    unfold wtab
    exact inner row.length 0 s (by omega)
theorem worst_same (l : List (List Int)) (hn : l.length ≤ 1048576) (hx : ∀ x, x ∈ l → x.length ≤ 1048576) : ∃ r, Ev (fun k => spec_WorstBox.f k l) r ∧ Ev (fun k => impl_WorstBox.f k l) r := by
  unfold spec_WorstBox.f impl_WorstBox.f impl_IsValidYard.f
  have hg := good_spec l hn hx
  generalize okYard l = ok at hg ⊢
  cases ok
  · exact ⟨_, Ev.bind hg (ev_neg (by simp) (ev_const rfl)), ev_call rfl (ev_neg (by simp) (ev_const rfl))⟩
  · exact ⟨_, Ev.bind hg (ev_pos rfl (worst_spec_l l hn hx l.length 0 (0, 0) (by omega))), ev_call rfl (ev_pos rfl (worst_impl_l l hn hx l.length 0 (0, 0) (by omega)))⟩
end Go.Proofs.Ytchjkaondonldaa.UY
