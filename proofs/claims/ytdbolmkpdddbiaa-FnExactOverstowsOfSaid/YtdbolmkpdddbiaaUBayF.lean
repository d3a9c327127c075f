/- Where a number stands in a bay. -/
import Derived.Test.YtdbolmkpdddbiaaPx0
import Derived.Test.YtdbolmkpdddbiaaPx4
import Derived.Test.YtdbolmkpdddbiaaPx8
import Derived.Test.YtdbolmkpdddbiaaUBayB
namespace Go.Proofs.Ytdbolmkpdddbiaa.UB
open Go.RowKit Go.Proofs.YtdbolmkpdddbiaaW.PrintWords Go.Proofs.YtdbolmkpdddbiaaW.PrintMore Go.Proofs.Ytdbolmkpdddbiaa.P Go.Proofs.Ytdbolmkpdddbiaa.U Go.Proofs.Ytdbolmkpdddbiaa.UT
set_option linter.unusedVariables false

def idx (v : Int) : List Int → Nat → Int
  | [], _ => -1
  | x :: l, i => if x = v then (i : Int) else idx v l (i + 1)
theorem idx_lo (v : Int) : ∀ (l : List Int) (i : Nat), idx v l i = -1 ∨ (i : Int) ≤ idx v l i
  | [], _ => .inl rfl
  | x :: l, i => by
    unfold idx
    split
    · exact .inr (Int.le_refl _)
    · rcases idx_lo v l (i + 1) with h | h
      · exact .inl h
      · exact .inr (by omega)
def find (v : Int) : List (List Int) → Nat → Int × Int
  | [], _ => (-1, -1)
  | x :: l, i => if 0 ≤ idx v x 0 then ((i : Int), idx v x 0) else find v l (i + 1)
theorem find_spec (h v : Int) (l : List (List Int)) (hn : l.length ≤ 1048576) (hx : ∀ x, x ∈ l → x.length ≤ 1048576) : ∀ d i, i + d = l.length → Ev (fun k => spec_l9Find.l0 k v (i : Int) h l) (find v (l.drop i) i) := by
  intro d
  induction d with
  | zero =>
    intro i hi
    refine Ev.step (fun k => by simp only [spec_l9Find.l0]; rfl) ?_
    refine ev_neg (by omega) (ev_const ?_)
    rw [List.drop_of_length_le (by omega)]; rfl
  | succ d ih =>
    intro i hi
    have hlt : i < l.length := by omega
    have hxi := hx _ (List.getElem_mem hlt)
    refine Ev.step (fun k => by simp only [spec_l9Find.l0]; rfl) ?_
    refine ev_pos (by omega) ?_
    rw [List.drop_eq_getElem_cons hlt]
    have inner : ∀ e j, j + e = l[i].length → Ev (fun k => spec_l9Find.l1 k v (i : Int) (j : Int) h l) (if 0 ≤ idx v (l[i].drop j) j then ((i : Int), idx v (l[i].drop j) j) else find v (l.drop (i + 1)) (i + 1)) := by
      intro e
      induction e with
      | zero =>
        intro j hj
        refine Ev.step (fun k => by simp only [spec_l9Find.l1]; rfl) ?_
        refine ev_pos (by omega) (ev_pos (by omega) ?_)
        rw [rd_l1 l i hlt, wsucc hlt (by omega), List.drop_of_length_le (show l[i].length ≤ j by omega)]
        refine ev_neg (by omega) ?_
        exact ev_eq (ih (i + 1) (by omega)) (by simp [idx])
      | succ e ihe =>
        intro j hj
        have hjt : j < l[i].length := by omega
        refine Ev.step (fun k => by simp only [spec_l9Find.l1]; rfl) ?_
        refine ev_pos (by omega) (ev_pos (by omega) ?_)
        rw [rd_l1 l i hlt, rd_at _ j hjt, wsucc hjt (by omega), List.drop_eq_getElem_cons hjt]
        refine ev_pos (by omega) (ev_pos (by omega) ?_)
        unfold idx
        by_cases e1 : l[i][j] = v
        · rw [if_pos e1, if_pos (by omega)]
          exact ev_pos e1 (ev_const rfl)
        · rw [if_neg e1]
          exact ev_neg e1 (ihe (j + 1) (by omega))
    unfold find
    exact inner l[i].length 0 (by omega)
theorem index_l (l : List Int) (v : Int) (hn : l.length ≤ 1048576) : ∀ d i, i + d = l.length → Ev (fun k => slices_Index_int_int.l0 k l v (l.length : Int) (i : Int)) (idx v (l.drop i) i) := by
  intro d
  induction d with
  | zero =>
    intro i hi
    refine Ev.step (fun k => by simp only [slices_Index_int_int.l0]; rfl) ?_
    refine ev_neg (by omega) (ev_const ?_)
    rw [List.drop_of_length_le (by omega)]; rfl
  | succ d ih =>
    intro i hi
    have hlt : i < l.length := by omega
    refine Ev.step (fun k => by simp only [slices_Index_int_int.l0]; rfl) ?_
    rw [rd_at l i hlt, wsucc hlt (by omega), List.drop_eq_getElem_cons hlt]
    refine ev_pos (by omega) (ev_pos (by omega) (ev_pos (by omega) ?_))
    unfold idx
    by_cases e : l[i] = v
    · rw [if_pos e]; exact ev_pos e.symm (ev_const rfl)
    · rw [if_neg e]; exact ev_neg (Ne.symm e) (ih (i + 1) (by omega))
theorem index_ev (l : List Int) (v : Int) (hn : l.length ≤ 1048576) : Ev (fun k => slices_Index_int_int.f k l v) (idx v l 0) := by
  unfold slices_Index_int_int.f
  exact index_l l v hn l.length 0 (by omega)
theorem find_impl (v : Int) (l : List (List Int)) (hn : l.length ≤ 1048576) (hx : ∀ x, x ∈ l → x.length ≤ 1048576) : ∀ d i, i + d = l.length → Ev (fun k => impl_placeOf.l0 k v l (l.length : Int) (i : Int)) (find v (l.drop i) i) := by
  intro d
  induction d with
  | zero =>
    intro i hi
    refine Ev.step (fun k => by simp only [impl_placeOf.l0]; rfl) ?_
    refine ev_neg (by omega) (ev_const ?_)
    rw [List.drop_of_length_le (by omega)]; rfl
  | succ d ih =>
    intro i hi
    have hlt : i < l.length := by omega
    refine Ev.step (fun k => by simp only [impl_placeOf.l0]; rfl) ?_
    rw [rd_l1 l i hlt, wsucc hlt (by omega), List.drop_eq_getElem_cons hlt]
    refine ev_pos (by omega) (ev_pos (by omega) (ev_pos (by omega) ?_))
    refine Ev.bind (index_ev _ _ (hx _ (List.getElem_mem hlt))) ?_
    unfold find
    by_cases e : 0 ≤ idx v l[i] 0
    · rw [if_pos e]; exact ev_pos e (ev_const rfl)
    · rw [if_neg e]; exact ev_neg e (ih (i + 1) (by omega))
end Go.Proofs.Ytdbolmkpdddbiaa.UB
