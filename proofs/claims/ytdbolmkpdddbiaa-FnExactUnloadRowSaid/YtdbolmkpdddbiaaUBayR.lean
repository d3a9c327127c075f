/- A row of a bay. -/
import Derived.Test.YtdbolmkpdddbiaaPx0
import Derived.Test.YtdbolmkpdddbiaaPx4
import Derived.Test.YtdbolmkpdddbiaaPx5
import Derived.Test.YtdbolmkpdddbiaaPx6
import Derived.Test.YtdbolmkpdddbiaaPx7
import Derived.Test.YtdbolmkpdddbiaaUBayM
namespace Go.Proofs.Ytdbolmkpdddbiaa.UB
open Go.RowKit Go.Proofs.YtdbolmkpdddbiaaW.PrintWords Go.Proofs.YtdbolmkpdddbiaaW.PrintMore Go.Proofs.Ytdbolmkpdddbiaa.P Go.Proofs.Ytdbolmkpdddbiaa.U Go.Proofs.Ytdbolmkpdddbiaa.UT
set_option linter.unusedVariables false

theorem within_impl (a b c : Int) : impl_within.f a b c = some (inr a b c) := by
  unfold impl_within.f inr
  by_cases h : b ≤ a <;> simp [h]
def okRow (h : Int) (l : List (List Int)) (a : Int) : Bool := okBay h l && inr a 0 ((l.length : Int) - 1)
theorem okRow_in {h : Int} {l : List (List Int)} {a : Int} (hb : okRow h l a = true) : okBay h l = true ∧ 0 ≤ a ∧ a < (l.length : Int) := by
  unfold okRow at hb
  rw [Bool.and_eq_true, inr_iff] at hb
  exact ⟨hb.1, by omega, by omega⟩
theorem row_spec (h : Int) (l : List (List Int)) (hn : l.length ≤ 1048576) (hx : ∀ x, x ∈ l → x.length ≤ 1048576) (a : Int) : Ev (fun k => spec_l9Row.f k h l a) (okRow h l a) := by
  unfold spec_l9Row.f okRow
  refine Ev.bind (good_spec h l hn hx) ?_
  rw [wr (x := (l.length : Int) - 1) (by omega) (by omega)]
  cases okBay h l
  · exact ev_neg (by simp) (ev_const rfl)
  · exact ev_pos rfl (ev_call (in_spec _ _ _) (ev_const rfl))
theorem row_impl (h : Int) (l : List (List Int)) (hn : l.length ≤ 1048576) (a : Int) : impl_hasRow.f h l a = some (okRow h l a) := by
  unfold impl_hasRow.f okRow
  rw [show impl_IsValidBay.f h l = some (okBay h l) from rfl, Option.bind_some, wr (x := (l.length : Int) - 1) (by omega) (by omega)]
  cases okBay h l
  · rw [if_neg (by simp)]; rfl
  · rw [if_pos rfl, within_impl]; rfl
end Go.Proofs.Ytdbolmkpdddbiaa.UB
