/- The pure statement of the law FnExactColumnWeight: over numbers and lists alone. -/
import Derived.Test.YtfhdccfbokgajaaPx16
import Derived.Test.YtfhdccfbokgajaaUCol
namespace Go.Proofs.Ytfhdccfbokgajaa.Pure
open Go.RowKit Go.Proofs.Ytfhdccfbokgajaa.P Go.Proofs.YtfhdccfbokgajaaW.PrintWords Go.Proofs.YtfhdccfbokgajaaW.PrintLast Go.Proofs.Ytfhdccfbokgajaa.U Go.Proofs.Ytfhdccfbokgajaa.UT Go.Proofs.Ytfhdccfbokgajaa.UC

theorem FnExactColumnWeight : laws_FnExactColumnWeight.Pure := by
  intro l s hl hs1
  refine Ev.rounds ?_
  unfold laws_FnExactColumnWeight.f
  by_cases hs : (l.length : Int) > 1048576
  · exact ev_pos hs (ev_const rfl)
  have ht := to1 l (by omega)
  have he := eq1 l (by omega)
  obtain ⟨r, h1, h2⟩ := weight_same l (by omega) s.f0 s.f1 s.f2
  have hr : laws_toLashRules.f s.f0 s.f1 s.f2 = some (s.f0, s.f1, s.f2) := rfl
  refine ev_neg hs (Ev.bind ht (ev_call hr (Ev.bind h1 (Ev.bind ht (ev_call hr (Ev.bind h2 ?_))))))
  repeat' first
    | exact ev_const rfl
    | refine Ev.bind ht ?_
    | refine Ev.bind he ?_
    | refine ev_pos rfl ?_
    | (refine ev_neg ?hc ?_; (case hc => first | omega | (simp; done)))
    | refine Ev.step (fun k => by simp only [laws_FnExactColumnWeight.j0]; rfl) ?_

end Go.Proofs.Ytfhdccfbokgajaa.Pure
