/- The pure statement of the law FnExactChooseStack: over numbers and lists alone. -/
import Derived.Test.YtchjkaondonldaaPx52
import Derived.Test.YtchjkaondonldaaUChooseAll
namespace Go.Proofs.Ytchjkaondonldaa.Pure
open Go.RowKit Go.Proofs.Ytchjkaondonldaa.P Go.Proofs.YtchjkaondonldaaW.PrintWords Go.Proofs.YtchjkaondonldaaW.PrintLast Go.Proofs.Ytchjkaondonldaa.U Go.Proofs.Ytchjkaondonldaa.UT Go.Proofs.Ytchjkaondonldaa.UY

theorem FnExactChooseStack : laws_FnExactChooseStack.Pure := by
  intro s a1 hs w1
  obtain ⟨hl, hx⟩ := good_args hs
  refine Ev.rounds ?_
  unfold laws_FnExactChooseStack.f
  obtain ⟨n, hz, hz2⟩ := sz_yard s.f0 hl hx
  by_cases hn : n < 0
  · exact Ev.bind hz (ev_pos hn (ev_const rfl))
  obtain ⟨hl2, hx2⟩ := hz2 (by omega)
  have ht := to_yard s.f0 hl2 hx2
  have he := eq_yard s.f0 hl hx
  obtain ⟨r, h1, h2⟩ := choose_same s.f0 hl2 hx2 a1
  refine Ev.bind hz (ev_neg hn ?_)
  refine Ev.bind ht (Ev.bind h1 (Ev.bind ht (Ev.bind h2 ?_)))
  repeat' first
    | exact ev_const rfl
    | refine Ev.bind ht ?_
    | refine Ev.bind he ?_
    | refine ev_pos rfl ?_
    | (refine ev_neg ?hc ?_; (case hc => first | omega | (simp; done)))
    | refine Ev.step (fun k => by simp only [laws_FnExactChooseStack.j0]; rfl) ?_

end Go.Proofs.Ytchjkaondonldaa.Pure
