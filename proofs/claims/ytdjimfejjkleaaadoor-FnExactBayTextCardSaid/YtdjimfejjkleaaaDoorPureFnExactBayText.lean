/- The pure statement of the law FnExactBayText: over numbers, lists and texts alone. -/
import Derived.Test.YtdjimfejjkleaaaDoorPx0
import Derived.Test.YtdjimfejjkleaaaDoorPx8
import Derived.Test.YtdjimfejjkleaaaDoorUBText
namespace Go.Proofs.YtdjimfejjkleaaaDoor.Pure
open Go.RowKit Go.Proofs.YtdjimfejjkleaaaDoor.P Go.Proofs.YtdjimfejjkleaaaDoorW.PrintWords Go.Proofs.YtdjimfejjkleaaaDoorW.PrintLast Go.Proofs.YtdjimfejjkleaaaDoor.U Go.Proofs.YtdjimfejjkleaaaDoor.UT Go.Proofs.YtdjimfejjkleaaaDoor.UB

theorem FnExactBayText : laws_FnExactBayText.Pure := by
  intro s hs
  obtain ⟨hl, hx⟩ := good_args hs
  refine Ev.rounds ?_
  unfold laws_FnExactBayText.f
  obtain ⟨n, hz, hz2⟩ := sz_bay s.f0 s.f1 hl hx
  by_cases hn : n < 0
  · exact Ev.bind hz (ev_pos hn (ev_const rfl))
  obtain ⟨hl2, hx2⟩ := hz2 (by omega)
  have ht := to_bay s.f0 s.f1 hl2 hx2
  have he := eq_bay s.f0 s.f1 hl hx
  obtain ⟨r, b, h1, h2⟩ := text_same s.f0 s.f1 hl2 hx2
  refine Ev.bind hz (ev_neg hn ?_)
  refine Ev.bind ht (Ev.bind h1 (Ev.bind ht (Ev.bind h2 ?_)))
  refine ev_pos rfl (ev_neg (by simp) (Ev.bind ht (Ev.bind he (ev_pos rfl (ev_const rfl)))))

end Go.Proofs.YtdjimfejjkleaaaDoor.Pure
