/- The pure statement of the law FnExactUnloadRow: over numbers and lists alone. -/
import Derived.Test.YtdbolmkpdddbiaaPx10
import Derived.Test.YtdbolmkpdddbiaaUMark2
import Derived.Test.YtdbolmkpdddbiaaUUnload
namespace Go.Proofs.Ytdbolmkpdddbiaa.Pure
open Go.RowKit Go.Proofs.Ytdbolmkpdddbiaa.P Go.Proofs.YtdbolmkpdddbiaaW.PrintWords Go.Proofs.YtdbolmkpdddbiaaW.PrintLast Go.Proofs.Ytdbolmkpdddbiaa.U Go.Proofs.Ytdbolmkpdddbiaa.UT Go.Proofs.Ytdbolmkpdddbiaa.UB Go.Proofs.Ytdbolmkpdddbiaa.UK
set_option linter.unusedVariables false

theorem FnExactUnloadRow : laws_FnExactUnloadRow.Pure := by
  intro s a1 hs ha1
  obtain ⟨hl, hx⟩ := good_args hs
  refine EvP.rounds ?_
  unfold laws_FnExactUnloadRow.Ok
  obtain ⟨n, hz, hz2⟩ := sz_bay s.f0 s.f1 hl hx
  by_cases hn : n < 0
  · exact EvP.bind hz (EvP.out hn)
  obtain ⟨hl2, hx2⟩ := hz2 (by omega)
  have hty := to_bay s.f0 s.f1 hl2 hx2
  have hey := eq_bay s.f0 s.f1 hl hx
  obtain ⟨cr1, r1, r2, r3, h1, h2, gr1, gxr1⟩ := unload_same s.f0 s.f1 hl2 hx2 a1
  have hs0 := sumL_big hl2 hx2
  have hp0 := sumL_pos s.f1
  have hmy : Ev (fun k => laws_markBay.f k s.f0 s.f1 1) _ := mark2 s.f1 1 (by omega) (by omega) hl2 hx2
  have sr1 := sumL_big gr1 gxr1
  have pr1 := sumL_pos r1
  have qr1 := eq_bay cr1 r1 (by omega) (fun x h => by have := gxr1 x h; omega)
  have mr1 : Ev (fun k => laws_markBay.f k cr1 r1 1) _ := mark2 r1 1 (by omega) (by omega) gr1 gxr1
  have dr1 : Ev (fun k => laws_heldBay.f k cr1 (mk2 r1 1) 1) _ := Ev.bind (held2 r1 1 (by omega) (by omega) gr1 gxr1) (ev_neg (by omega) (ev_const rfl))
  refine EvP.bind hz (EvP.on hn ?_)
  repeat' first
    | exact EvP.tr
    | refine EvP.bind4 h1 ?_
    | refine EvP.bind4 h2 ?_
    | refine EvP.bind hey ?_
    | refine EvP.bind qr1 ?_
    | refine EvP.bind dr1 ?_
    | refine EvP.bind2 hty ?_
    | refine EvP.bind2 hmy ?_
    | refine EvP.bind2 mr1 ?_
    | (refine EvP.no ?hc ?_; (case hc => first | omega | (simp; done) | (simp; omega)))

end Go.Proofs.Ytdbolmkpdddbiaa.Pure
