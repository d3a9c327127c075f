/- Columns and stowages: the reference's validity and weight beside the program's. -/
import Derived.Test.YtfhdccfbokgajaaPx0
import Derived.Test.YtfhdccfbokgajaaPx1
import Derived.Test.YtfhdccfbokgajaaPx10
import Derived.Test.YtfhdccfbokgajaaPx13
import Derived.Test.YtfhdccfbokgajaaPx14
import Derived.Test.YtfhdccfbokgajaaPx15
import Derived.Test.YtfhdccfbokgajaaPx5
import Derived.Test.YtfhdccfbokgajaaPx8
import Derived.Test.YtfhdccfbokgajaaPx9
import Derived.Test.YtfhdccfbokgajaaUInt
namespace Go.Proofs.Ytfhdccfbokgajaa.UC
open Go.RowKit Go.Proofs.YtfhdccfbokgajaaW.PrintWords Go.Proofs.YtfhdccfbokgajaaW.PrintMore Go.Proofs.Ytfhdccfbokgajaa.P Go.Proofs.Ytfhdccfbokgajaa.U Go.Proofs.Ytfhdccfbokgajaa.UT
set_option linter.unusedVariables false

theorem in_impl (a b c : Int) : impl_within.f a b c = some (inr a b c) := by
  unfold impl_within.f inr
  by_cases h : b ≤ a <;> simp [h]
theorem all_not_any (p : Int → Bool) : ∀ l : List Int, l.all p = !(l.any fun x => !p x)
  | [] => rfl
  | x :: l => by rw [List.all_cons, List.any_cons, all_not_any p l]; cases p x <;> simp
theorem weights_l (l : List Int) (c : Int) (hn : l.length ≤ 9223372036854775807) : ∀ d i, i + d = l.length → Ev (fun k => spec_l12Weights.l0 k l c (i : Int)) ((l.drop i).all (fun x => inr x 1 32000) && decide ((l.length : Int) ≤ c)) := by
  intro d
  induction d with
  | zero =>
    intro i hi
    refine Ev.step (fun k => by simp only [spec_l12Weights.l0]; rfl) ?_
    refine ev_neg (by omega) (ev_const ?_)
    rw [List.drop_of_length_le (by omega)]; simp
  | succ d ih =>
    intro i hi
    have hlt : i < l.length := by omega
    refine Ev.step (fun k => by simp only [spec_l12Weights.l0]; rfl) ?_
    rw [rd_at l i hlt, wsucc hlt hn, List.drop_eq_getElem_cons hlt, List.all_cons]
    refine ev_pos (by omega) (ev_pos (by omega) (ev_call (in_spec _ _ _) ?_))
    cases h : inr l[i] 1 32000
    · exact ev_neg (by simp) (ev_const (by simp))
    · exact ev_eq (ev_pos rfl (ih (i + 1) (by omega))) (by simp)
theorem col_spec (l : List Int) (hn : l.length ≤ 9223372036854775807) : Ev (fun k => spec_l12Good.f k l) (okCol l) := by
  unfold spec_l12Good.f spec_l12Weights.f okCol
  refine Ev.bind (weights_l l 4 hn l.length 0 (by omega)) (ev_const ?_)
  rw [List.drop_zero, all_not_any, Bool.and_comm]
theorem col_same (l : List Int) (hn : l.length ≤ 9223372036854775807) : ∃ r, Ev (fun k => spec_IsValidColumn.f k l) r ∧ Ev (fun _ => impl_IsValidColumn.f l) r := by
  unfold spec_IsValidColumn.f impl_IsValidColumn.f
  exact ⟨_, Ev.bind (col_spec l hn) (ev_const rfl), ev_const rfl⟩

def total : List Int → Int → Int
  | [], s => s
  | x :: l, s => total l (wrap64 (s + x))
theorem sum_spec (l : List Int) (hn : l.length ≤ 9223372036854775807) : ∀ d i (s : Int), i + d = l.length → Ev (fun k => spec_l12Sum.l0 k l s (i : Int)) (total (l.drop i) s) := by
  intro d
  induction d with
  | zero =>
    intro i s hi
    refine Ev.step (fun k => by simp only [spec_l12Sum.l0]; rfl) ?_
    refine ev_neg (by omega) (ev_const ?_)
    rw [List.drop_of_length_le (by omega)]; rfl
  | succ d ih =>
    intro i s hi
    have hlt : i < l.length := by omega
    refine Ev.step (fun k => by simp only [spec_l12Sum.l0]; rfl) ?_
    rw [rd_at l i hlt, wsucc hlt hn, List.drop_eq_getElem_cons hlt]
    exact ev_pos (by omega) (ev_pos (by omega) (ih (i + 1) _ (by omega)))
theorem sum_impl (l : List Int) (hn : l.length ≤ 9223372036854775807) : ∀ d i (s : Int), i + d = l.length → Ev (fun k => impl_sumOf.l0 k s l (l.length : Int) (i : Int)) (total (l.drop i) s) := by
  intro d
  induction d with
  | zero =>
    intro i s hi
    refine Ev.step (fun k => by simp only [impl_sumOf.l0]; rfl) ?_
    refine ev_neg (by omega) (ev_const ?_)
    rw [List.drop_of_length_le (by omega)]; rfl
  | succ d ih =>
    intro i s hi
    have hlt : i < l.length := by omega
    refine Ev.step (fun k => by simp only [impl_sumOf.l0]; rfl) ?_
    rw [rd_at l i hlt, wsucc hlt hn, List.drop_eq_getElem_cons hlt]
    exact ev_pos (by omega) (ev_pos (by omega) (ev_pos (by omega) (ih (i + 1) _ (by omega))))
def okRules (a b c : Int) : Bool := inr a 1 200000 && (inr b 0 100 && inr c 1 100000)
theorem rules_spec (a b c : Int) : spec_l12Rules.f a b c = some (okRules a b c) := by
  unfold spec_l12Rules.f okRules
  simp only [in_spec, Option.bind_some]
  cases inr a 1 200000 <;> cases inr b 0 100 <;> cases inr c 1 100000 <;> rfl
theorem lashed (l : List Int) (a b c : Int) : impl_isLashed.f l a b c = some (okCol l && okRules a b c) := by
  unfold impl_isLashed.f okRules impl_IsValidColumn.f
  simp only [in_impl, Option.bind_some]
  cases okCol l <;> cases inr a 1 200000 <;> cases inr b 0 100 <;> cases inr c 1 100000 <;> rfl
theorem weight_same (l : List Int) (hn : l.length ≤ 9223372036854775807) (a b c : Int) : ∃ r, Ev (fun k => spec_ColumnWeight.f k l a b c) r ∧ Ev (fun k => impl_ColumnWeight.f k l a b c) r := by
  unfold spec_ColumnWeight.f impl_ColumnWeight.f spec_l12Sum.f impl_sumOf.f
  have hg := col_spec l hn
  have hs := rules_spec a b c
  have hl := lashed l a b c
  generalize okCol l = o at hg hl
  generalize okRules a b c = q at hs hl
  cases o
  · exact ⟨_, Ev.bind hg (ev_neg (by simp) (ev_const rfl)), ev_call hl (ev_neg (by simp) (ev_const rfl))⟩
  cases q
  · exact ⟨_, Ev.bind hg (ev_pos rfl (ev_call hs (ev_neg (by simp) (ev_const rfl)))), ev_call hl (ev_neg (by simp) (ev_const rfl))⟩
  · exact ⟨_, Ev.bind hg (ev_pos rfl (ev_call hs (ev_pos rfl (Ev.bind (sum_spec l hn l.length 0 0 (by omega)) (ev_const rfl))))), ev_call hl (ev_pos rfl (Ev.bind (sum_impl l hn l.length 0 0 (by omega)) (ev_const rfl)))⟩

/-! Stowages. -/
theorem ports_l (a b : Int) (l : List Int) (hn : l.length ≤ 9223372036854775807) : ∀ d i, i + d = l.length → Ev (fun k => spec_l10Good.l0 k (i : Int) a b l) ((l.drop i).all (fun x => inr x 1 9)) := by
  intro d
  induction d with
  | zero =>
    intro i hi
    refine Ev.step (fun k => by simp only [spec_l10Good.l0]; rfl) ?_
    refine ev_neg (by omega) (ev_const ?_)
    rw [List.drop_of_length_le (by omega)]; simp
  | succ d ih =>
    intro i hi
    have hlt : i < l.length := by omega
    refine Ev.step (fun k => by simp only [spec_l10Good.l0]; rfl) ?_
    rw [rd_at l i hlt, wsucc hlt hn, List.drop_eq_getElem_cons hlt, List.all_cons]
    refine ev_pos (by omega) (ev_pos (by omega) (ev_call (in_spec _ _ _) ?_))
    cases h : inr l[i] 1 9
    · exact ev_neg (by simp) (ev_const (by simp))
    · exact ev_eq (ev_pos rfl (ih (i + 1) (by omega))) (by simp)
theorem st_spec (a b : Int) (l : List Int) (hn : l.length ≤ 9223372036854775807) : Ev (fun k => spec_l10Good.f k a b l) (okSt a b l) := by
  unfold spec_l10Good.f okSt
  have fs : Ev (fun k => spec_l10Good.j0 k true a b l) false := by
    refine Ev.step (fun k => by simp only [spec_l10Good.j0]; rfl) ?_
    exact ev_pos (by simp) (ev_const rfl)
  refine ev_call (in_spec _ _ _) ?_
  cases h1 : inr a 1 5
  · exact ev_neg (by simp) fs
  refine ev_pos rfl (ev_call (in_spec _ _ _) ?_)
  cases h2 : inr b 1 4
  · exact ev_neg (by simp) fs
  refine ev_pos rfl ?_
  have hp := impl_IsValidStowage.prod h1 h2
  rw [hp]
  by_cases h3 : (l.length : Int) ≤ 7
  · refine ev_neg (by omega) ?_
    rw [decide_eq_true h3]
    by_cases h4 : (l.length : Int) ≤ a * b
    · rw [decide_eq_true h4]
      refine Ev.step (fun k => by simp only [spec_l10Good.j0]; rfl) ?_
      refine ev_neg (by simp; omega) ?_
      exact ev_eq (ports_l a b l hn l.length 0 (by omega)) (by rw [List.drop_zero, all_not_any]; simp)
    · rw [decide_eq_false h4]
      refine Ev.step (fun k => by simp only [spec_l10Good.j0]; rfl) ?_
      exact ev_pos (by simp; omega) (ev_const (by simp))
  · rw [decide_eq_false h3]
    exact ev_eq (ev_pos (by omega) fs) (by simp)
theorem st_same (a b : Int) (l : List Int) (hn : l.length ≤ 9223372036854775807) : ∃ r, Ev (fun k => spec_IsValidStowage.f k a b l) r ∧ Ev (fun _ => impl_IsValidStowage.f a b l) r := by
  unfold spec_IsValidStowage.f impl_IsValidStowage.f
  exact ⟨_, Ev.bind (st_spec a b l hn) (ev_const rfl), ev_const rfl⟩
end Go.Proofs.Ytfhdccfbokgajaa.UC
