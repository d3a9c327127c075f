/- How many smaller numbers stand below one. -/
import Derived.Test.YtchjkaondonldaaPx0
import Derived.Test.YtchjkaondonldaaPx15
import Derived.Test.YtchjkaondonldaaUYard
namespace Go.Proofs.Ytchjkaondonldaa.UY
open Go.RowKit Go.Proofs.YtchjkaondonldaaW.PrintWords Go.Proofs.YtchjkaondonldaaW.PrintMore Go.Proofs.Ytchjkaondonldaa.P Go.Proofs.Ytchjkaondonldaa.U Go.Proofs.Ytchjkaondonldaa.UT
set_option linter.unusedVariables false

def cntLess (v : Int) : List Int → Int → Int
  | [], s => s
  | x :: l, s => cntLess v l (if x < v then wrap64 (s + 1) else s)
theorem below_l (row : List Int) (t : Nat) (ht : t < row.length) (hn : row.length ≤ 1048576) : ∀ d j (s : Int), j + d = t → Ev (fun k => spec_l8Below.l0 k row (t : Int) s (j : Int)) (cntLess (row.getD t 0) ((row.take t).drop j) s) := by
  intro d
  induction d with
  | zero =>
    intro j s hj
    refine Ev.step (fun k => by simp only [spec_l8Below.l0]; rfl) ?_
    refine ev_neg (by omega) (ev_const ?_)
    rw [List.drop_of_length_le (by rw [List.length_take]; omega)]; rfl
  | succ d ih =>
    intro j s hj
    have hjt : j < (row.take t).length := by rw [List.length_take]; omega
    refine Ev.step (fun k => by simp only [spec_l8Below.l0]; rfl) ?_
    rw [rd_at row j (by omega), rd_at row t ht, wsucc (show j < row.length by omega) (by omega), List.drop_eq_getElem_cons hjt, getD_at _ _ _ ht]
    refine ev_pos (by omega) (ev_pos (by omega) (ev_pos (by omega) (ev_pos (by omega) (ev_pos (by omega) ?_))))
    have e : (row.take t)[j] = row[j] := by simp
    rw [e]
    unfold cntLess
    have h := ih (j + 1)
    rw [getD_at _ _ _ ht] at h
    by_cases hc : row[j] < row[t]
    · rw [if_pos hc]; exact ev_pos hc (h _ (by omega))
    · rw [if_neg hc]; exact ev_neg hc (h _ (by omega))
theorem below_ev (row : List Int) (t : Nat) (ht : t < row.length) (hn : row.length ≤ 1048576) : Ev (fun k => spec_l8Below.f k row (t : Int)) (cntLess (row.getD t 0) (row.take t) 0) := by
  unfold spec_l8Below.f
  exact below_l row t ht hn t 0 0 (by omega)
end Go.Proofs.Ytchjkaondonldaa.UY
