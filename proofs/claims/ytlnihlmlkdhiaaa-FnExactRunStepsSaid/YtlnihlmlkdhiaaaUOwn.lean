/- A copy of a yard; one number more on a stack. -/
import Derived.Test.YtlnihlmlkdhiaaaPx0
import Derived.Test.YtlnihlmlkdhiaaaPx1
import Derived.Test.YtlnihlmlkdhiaaaPx2
import Derived.Test.YtlnihlmlkdhiaaaPx8
import Derived.Test.YtlnihlmlkdhiaaaPx9
import Derived.Test.YtlnihlmlkdhiaaaUYardMem
namespace Go.Proofs.Ytlnihlmlkdhiaaa.UY
open Go.RowKit Go.Proofs.YtlnihlmlkdhiaaaW.PrintWords Go.Proofs.YtlnihlmlkdhiaaaW.PrintMore Go.Proofs.Ytlnihlmlkdhiaaa.P Go.Proofs.Ytlnihlmlkdhiaaa.U Go.Proofs.Ytlnihlmlkdhiaaa.UT
set_option linter.unusedVariables false

/-! A copy. -/
theorem own1_spec (l : List Int) (hn : l.length ≤ 1048576) : spec_l1Own.f l = some l := by
  unfold spec_l1Own.f
  show (if ([] : List Int).length + l.length < 17592186044416 then some ([] ++ l) else none) = some l
  rw [if_pos (by simp; omega)]; rfl
theorem own1_impl (l : List Int) (hn : l.length ≤ 1048576) : slices_Clone_int_int.f l = some l := by
  unfold slices_Clone_int_int.f
  rw [if_pos (by omega)]
theorem own_spec_l (l : List (List Int)) (hn : l.length ≤ 1048576) (hx : ∀ x, x ∈ l → x.length ≤ 1048576) : ∀ d i, i + d = l.length → Ev (fun k => spec_l5Own.l0 k (i : Int) l (l.take i)) l := by
  intro d
  induction d with
  | zero =>
    intro i hi
    refine Ev.step (fun k => by simp only [spec_l5Own.l0]; rfl) (ev_neg (by omega) (ev_const ?_))
    rw [List.take_of_length_le (by omega)]
  | succ d ih =>
    intro i hi
    have hlt : i < l.length := by omega
    refine Ev.step (fun k => by simp only [spec_l5Own.l0]; rfl) (ev_pos (by omega) (ev_pos (by omega) ?_))
    rw [rd_l1 l i hlt, wsucc hlt (by omega)]
    refine ev_call (own1_spec _ (hx _ (List.getElem_mem hlt))) (ev_pos (by rw [List.length_take]; omega) ?_)
    have h := ih (i + 1) (by omega)
    rw [List.take_succ_eq_append_getElem hlt] at h
    exact h
theorem own_spec (l : List (List Int)) (hn : l.length ≤ 1048576) (hx : ∀ x, x ∈ l → x.length ≤ 1048576) : Ev (fun k => spec_l5Own.f k l) l := by
  unfold spec_l5Own.f
  exact own_spec_l l hn hx l.length 0 (by omega)
theorem own_impl_l (l : List (List Int)) (hn : l.length ≤ 1048576) (hx : ∀ x, x ∈ l → x.length ≤ 1048576) : ∀ d i, i + d = l.length → Ev (fun k => impl_ownYard.l0 k l (l.length : Int) (i : Int) (l.take i)) l := by
  intro d
  induction d with
  | zero =>
    intro i hi
    refine Ev.step (fun k => by simp only [impl_ownYard.l0]; rfl) (ev_neg (by omega) (ev_const ?_))
    rw [List.take_of_length_le (by omega)]
  | succ d ih =>
    intro i hi
    have hlt : i < l.length := by omega
    refine Ev.step (fun k => by simp only [impl_ownYard.l0]; rfl) (ev_pos (by omega) (ev_pos (by omega) (ev_pos (by omega) ?_)))
    rw [rd_l1 l i hlt, wsucc hlt (by omega)]
    refine ev_call (own1_impl _ (hx _ (List.getElem_mem hlt))) (ev_pos (by rw [List.length_take]; omega) ?_)
    have h := ih (i + 1) (by omega)
    rw [List.take_succ_eq_append_getElem hlt] at h
    exact h
theorem own_impl (l : List (List Int)) (hn : l.length ≤ 1048576) (hx : ∀ x, x ∈ l → x.length ≤ 1048576) : Ev (fun k => impl_ownYard.f k l) l := by
  unfold impl_ownYard.f
  exact own_impl_l l hn hx l.length 0 (by omega)

/-! One number more on a stack. -/
end Go.Proofs.Ytlnihlmlkdhiaaa.UY
