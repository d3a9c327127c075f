/- The pure statement of the law FnExactIsValidColumn: over numbers and lists alone. -/
import Derived.Test.YtfhdccfbokgajaaPx7
import Derived.Test.YtfhdccfbokgajaaUCol
namespace Go.Proofs.Ytfhdccfbokgajaa.Pure
open Go.RowKit Go.Proofs.Ytfhdccfbokgajaa.P Go.Proofs.YtfhdccfbokgajaaW.PrintWords Go.Proofs.YtfhdccfbokgajaaW.PrintLast Go.Proofs.Ytfhdccfbokgajaa.U Go.Proofs.Ytfhdccfbokgajaa.UT Go.Proofs.Ytfhdccfbokgajaa.UC

theorem FnExactIsValidColumn : laws_FnExactIsValidColumn.Pure := by
  intro l hl
  refine Ev.rounds ?_
  unfold laws_FnExactIsValidColumn.f
  by_cases hs : (l.length : Int) > 1048576
  · exact ev_pos hs (ev_const rfl)
  have ht := to1 l (by omega)
  have he := eq1 l (by omega)
  obtain ⟨r, h1, h2⟩ := col_same l (by omega)
  refine ev_neg hs (Ev.bind ht (Ev.bind h1 (Ev.bind ht (Ev.bind h2 ?_))))
  repeat' first
    | exact ev_const rfl
    | refine Ev.bind ht ?_
    | refine Ev.bind he ?_
    | refine ev_pos rfl ?_
    | (refine ev_neg ?hc ?_; (case hc => first | omega | (simp; done)))

end Go.Proofs.Ytfhdccfbokgajaa.Pure
