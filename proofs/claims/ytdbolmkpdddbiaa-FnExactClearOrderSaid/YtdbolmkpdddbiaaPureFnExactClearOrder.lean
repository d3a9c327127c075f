/- The pure statement of the law FnExactClearOrder: over numbers and lists alone. -/
import Derived.Test.YtdbolmkpdddbiaaPx12
import Derived.Test.YtdbolmkpdddbiaaUMark
import Derived.Test.YtdbolmkpdddbiaaUClear
namespace Go.Proofs.Ytdbolmkpdddbiaa.Pure
open Go.RowKit Go.Proofs.Ytdbolmkpdddbiaa.P Go.Proofs.YtdbolmkpdddbiaaW.PrintWords Go.Proofs.YtdbolmkpdddbiaaW.PrintLast Go.Proofs.Ytdbolmkpdddbiaa.U Go.Proofs.Ytdbolmkpdddbiaa.UT Go.Proofs.Ytdbolmkpdddbiaa.UB Go.Proofs.Ytdbolmkpdddbiaa.UK
set_option linter.unusedVariables false

theorem FnExactClearOrder : laws_FnExactClearOrder.Pure := by
  intro s hs 
  obtain ⟨hl, hx⟩ := good_args hs
  refine EvP.rounds ?_
  unfold laws_FnExactClearOrder.Ok
  obtain ⟨n, hz, hz2⟩ := sz_bay s.f0 s.f1 hl hx
  by_cases hn : n < 0
  · exact EvP.bind hz (EvP.out hn)
  obtain ⟨hl2, hx2⟩ := hz2 (by omega)
  have hty := to_bay s.f0 s.f1 hl2 hx2
  have hey := eq_bay s.f0 s.f1 hl hx
  obtain ⟨r1, r2, h1, h2, gr1⟩ := clear_same s.f0 s.f1 hl2 hx2
  have hs0 := sumL_big hl2 hx2
  have hp0 := sumL_pos s.f1
  have hmy : Ev (fun k => laws_markBay.f k s.f0 s.f1 1) _ := mark2 s.f1 1 (by omega) (by omega) hl2 hx2
  have qr1 := eq1 r1 (by omega)
  have mr1 := mark1 r1 1 (by omega) gr1
  have dr1 := held1 r1.length 1 (by omega) gr1
  refine EvP.bind hz (EvP.on hn ?_)
  repeat' first
    | exact EvP.tr
    | refine EvP.bind2 h1 ?_
    | refine EvP.bind2 h2 ?_
    | refine EvP.bind hey ?_
    | refine EvP.bind qr1 ?_
    | refine EvP.bind dr1 ?_
    | refine EvP.bind2 hty ?_
    | refine EvP.bind2 hmy ?_
    | refine EvP.bind2 mr1 ?_
    | (refine EvP.no ?hc ?_; (case hc => first | omega | (simp; done) | (simp; omega)))

end Go.Proofs.Ytdbolmkpdddbiaa.Pure
