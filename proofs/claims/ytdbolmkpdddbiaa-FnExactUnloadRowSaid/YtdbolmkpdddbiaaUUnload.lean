/- A row's top taken off. -/
import Derived.Test.YtdbolmkpdddbiaaPx0
import Derived.Test.YtdbolmkpdddbiaaPx5
import Derived.Test.YtdbolmkpdddbiaaPx9
import Derived.Test.YtdbolmkpdddbiaaUBayR
import Derived.Test.YtdbolmkpdddbiaaUBayOwn
import Derived.Test.YtdbolmkpdddbiaaUBayTop
namespace Go.Proofs.Ytdbolmkpdddbiaa.UB
open Go.RowKit Go.Proofs.YtdbolmkpdddbiaaW.PrintWords Go.Proofs.YtdbolmkpdddbiaaW.PrintMore Go.Proofs.Ytdbolmkpdddbiaa.P Go.Proofs.Ytdbolmkpdddbiaa.U Go.Proofs.Ytdbolmkpdddbiaa.UT
set_option linter.unusedVariables false

theorem unload_same (h : Int) (l : List (List Int)) (hn : l.length ≤ 1048576) (hx : ∀ x, x ∈ l → x.length ≤ 1048576) (a : Int) :
    ∃ (c : Int) (r : List (List Int)) (m : Int) (b : Bool), Ev (fun k => spec_UnloadRow.f k h l a) (c, r, m, b) ∧ Ev (fun k => impl_UnloadRow.f k h l a) (c, r, m, b) ∧ r.length ≤ 1048576 ∧ ∀ x, x ∈ r → x.length ≤ 1048576 := by
  unfold spec_UnloadRow.f impl_UnloadRow.f
  have h1 := row_spec h l hn hx a
  have h2 := row_impl h l hn a
  have no : Ev (fun k => impl_UnloadRow.j0 k a true h l) (0, [], 0, false) := by
    refine Ev.step (fun k => by simp only [impl_UnloadRow.j0]; rfl) ?_
    exact ev_pos trivial (ev_const rfl)
  cases hr : okRow h l a
  · rw [hr] at h1 h2
    exact ⟨0, [], 0, false, Ev.bind h1 (ev_neg (by simp) (ev_const rfl)), ev_call h2 (ev_neg (by simp) no), by simp, fun x hx => by cases hx⟩
  rw [hr] at h1 h2
  obtain ⟨hb, h0, h3⟩ := okRow_in hr
  obtain ⟨⟨_, hl5⟩, hm⟩ := okBay_mem hb
  have hrow := (hm _ (rdl_mem h0 h3)).1
  by_cases hz : (rd_L1 l a).length = 0
  · refine ⟨0, [], 0, false, Ev.bind h1 (ev_pos rfl (ev_pos h0 (ev_pos h3 (ev_pos (by omega) (ev_const rfl))))), ev_call h2 (ev_pos rfl (ev_pos h0 (ev_pos h3 ?_))), by simp, fun x hx => by cases hx⟩
    rw [hz]
    exact no
  · obtain ⟨w1, w2⟩ := wlast (n := (rd_L1 l a).length) (by omega) (by omega)
    refine ⟨h, cutR l a, top (rd_L1 l a), true, Ev.bind h1 (ev_pos rfl (ev_pos h0 (ev_pos h3 (ev_neg (by omega) (Ev.bind (own_spec h l hn hx) ?_))))), ev_call h2 (ev_pos rfl (ev_pos h0 (ev_pos h3 ?_))), by rw [cutR_len]; exact hn, fun x hx => by have := cutR_rows (fun x hx => (hm x hx).1) h0 h3 x hx; omega⟩
    · refine ev_pos h3 ?_
      dsimp only
      rw [w1, w2]
      refine ev_pos (by omega) ?_
      refine ev_pos (by omega) ?_
      refine ev_pos (by omega) ?_
      exact ev_const rfl
    · rw [show (((rd_L1 l a).length : Int) == 0) = false by rw [beq_eq_false_iff_ne]; omega]
      refine Ev.step (fun k => by simp only [impl_UnloadRow.j0]; rfl) (ev_neg (by simp) (Ev.bind (own_impl h l hn hx) (ev_pos h0 (ev_pos h3 ?_))))
      refine ev_call (top_impl (rd_L1 l a) (by omega) (by omega)) ?_
      dsimp only
      rw [w1, w2]
      refine ev_pos (by omega) ?_
      refine ev_pos (by omega) ?_
      exact ev_const rfl
end Go.Proofs.Ytdbolmkpdddbiaa.UB
