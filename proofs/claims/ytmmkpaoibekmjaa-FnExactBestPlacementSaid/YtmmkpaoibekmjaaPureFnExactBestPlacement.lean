/- The pure statement of the law FnExactBestPlacement: over numbers and lists alone. -/
import Derived.Test.YtmmkpaoibekmjaaPx25
import Derived.Test.YtmmkpaoibekmjaaUBestPAll
namespace Go.Proofs.Ytmmkpaoibekmjaa.Pure
open Go.RowKit Go.Proofs.Ytmmkpaoibekmjaa.P Go.Proofs.YtmmkpaoibekmjaaW.PrintWords Go.Proofs.YtmmkpaoibekmjaaW.PrintLast Go.Proofs.Ytmmkpaoibekmjaa.U Go.Proofs.Ytmmkpaoibekmjaa.UT Go.Proofs.Ytmmkpaoibekmjaa.UY Go.Proofs.Ytmmkpaoibekmjaa.UK
set_option linter.unusedVariables false

theorem FnExactBestPlacement : laws_FnExactBestPlacement.Pure := by
  intro s l1 hs hl1
  obtain ⟨hl, hx⟩ := good_args hs
  refine EvP.rounds ?_
  unfold laws_FnExactBestPlacement.Ok
  by_cases bl1 : (l1.length : Int) > 1048576
  · exact EvP.out bl1
  have nl1 : l1.length ≤ 1048576 := by omega
  refine EvP.on bl1 ?_
  have tl1 := to1 l1 nl1
  have el1 := eq1 l1 (by omega)
  obtain ⟨n, hz, hz2⟩ := sz_yard s.f0 hl hx
  by_cases hn : n < 0
  · exact EvP.bind hz (EvP.out hn)
  obtain ⟨hl2, hx2⟩ := hz2 (by omega)
  have hty := to_yard s.f0 hl2 hx2
  have hey := eq_yard s.f0 hl hx
  obtain ⟨r1, r2, r3, h1, h2, gr1⟩ := best_same s.f0 hl2 hx2 l1 nl1
  have hs0 := sumL_big hl2 hx2
  have hp0 := sumL_pos s.f0
  have hmy : Ev (fun k => laws_markYard.f k s.f0 1) _ := mark2 s.f0 1 (by omega) (by omega) hl2 hx2
  have ml1 := mark1 l1 (1 + sumL s.f0) (by omega) nl1
  have qr1 := eq1 r1 (by omega)
  have mr1 := mark1 r1 1 (by omega) gr1
  have dr1 := held1 r1.length 1 (by omega) gr1
  refine EvP.bind hz (EvP.on hn ?_)
  repeat' first
    | exact EvP.tr
    | refine EvP.bind3 h1 ?_
    | refine EvP.bind3 h2 ?_
    | refine EvP.bind hty ?_
    | refine EvP.bind hey ?_
    | refine EvP.bind tl1 ?_
    | refine EvP.bind el1 ?_
    | refine EvP.bind qr1 ?_
    | refine EvP.bind dr1 ?_
    | refine EvP.bind2 hmy ?_
    | refine EvP.bind2 ml1 ?_
    | refine EvP.bind2 mr1 ?_
    | (refine EvP.no ?hc ?_; (case hc => first | omega | (simp; done) | (simp; omega)))

end Go.Proofs.Ytmmkpaoibekmjaa.Pure
