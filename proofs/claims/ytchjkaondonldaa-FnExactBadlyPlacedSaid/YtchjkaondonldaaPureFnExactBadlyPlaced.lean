/- The pure statement of the law FnExactBadlyPlaced: over numbers and lists alone. -/
import Derived.Test.YtchjkaondonldaaPx18
import Derived.Test.YtchjkaondonldaaUMark
import Derived.Test.YtchjkaondonldaaUBad
namespace Go.Proofs.Ytchjkaondonldaa.Pure
open Go.RowKit Go.Proofs.Ytchjkaondonldaa.P Go.Proofs.YtchjkaondonldaaW.PrintWords Go.Proofs.YtchjkaondonldaaW.PrintLast Go.Proofs.Ytchjkaondonldaa.U Go.Proofs.Ytchjkaondonldaa.UT Go.Proofs.Ytchjkaondonldaa.UY Go.Proofs.Ytchjkaondonldaa.UK
set_option linter.unusedVariables false

theorem FnExactBadlyPlaced : laws_FnExactBadlyPlaced.Pure := by
  intro s hs 
  obtain ⟨hl, hx⟩ := good_args hs
  refine EvP.rounds ?_
  unfold laws_FnExactBadlyPlaced.Ok
  obtain ⟨n, hz, hz2⟩ := sz_yard s.f0 hl hx
  by_cases hn : n < 0
  · exact EvP.bind hz (EvP.out hn)
  obtain ⟨hl2, hx2⟩ := hz2 (by omega)
  have hty := to_yard s.f0 hl2 hx2
  have hey := eq_yard s.f0 hl hx
  obtain ⟨r1, r2, h1, h2, gr1⟩ := badly_same s.f0 hl2 hx2
  have hs0 := sumL_big hl2 hx2
  have hp0 := sumL_pos s.f0
  have hmy : Ev (fun k => laws_markYard.f k s.f0 1) _ := mark2 s.f0 1 (by omega) (by omega) hl2 hx2
  have qr1 := eq1 r1 (by omega)
  have mr1 := mark1 r1 1 (by omega) gr1
  have dr1 := held1 r1.length 1 (by omega) gr1
  refine EvP.bind hz (EvP.on hn ?_)
  repeat' first
    | exact EvP.tr
    | refine EvP.bind2 h1 ?_
    | refine EvP.bind2 h2 ?_
    | refine EvP.bind hty ?_
    | refine EvP.bind hey ?_
    | refine EvP.bind qr1 ?_
    | refine EvP.bind dr1 ?_
    | refine EvP.bind2 hmy ?_
    | refine EvP.bind2 mr1 ?_
    | (refine EvP.no ?hc ?_; (case hc => first | omega | (simp; done) | (simp; omega)))

end Go.Proofs.Ytchjkaondonldaa.Pure
