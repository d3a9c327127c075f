/- The pure statement of the law FnExactBestSteps: over numbers and lists alone. -/
import Derived.Test.YtfcbdfedolnkfaaDoorPx22
import Derived.Test.YtfcbdfedolnkfaaDoorUSerAll
namespace Go.Proofs.YtfcbdfedolnkfaaDoor.Pure
open Go.RowKit Go.Proofs.YtfcbdfedolnkfaaDoor.P Go.Proofs.YtfcbdfedolnkfaaDoorW.PrintWords Go.Proofs.YtfcbdfedolnkfaaDoorW.PrintLast Go.Proofs.YtfcbdfedolnkfaaDoor.U Go.Proofs.YtfcbdfedolnkfaaDoor.UT Go.Proofs.YtfcbdfedolnkfaaDoor.UY Go.Proofs.YtfcbdfedolnkfaaDoor.UQ Go.Proofs.YtfcbdfedolnkfaaDoor.UK
set_option linter.unusedVariables false

theorem FnExactBestSteps : laws_FnExactBestSteps.Pure := by
  intro s l hs hl
  obtain ⟨hn, hx⟩ := good_args hs
  have hll : l.length ≤ 9223372036854775807 := hl.1
  refine EvP.rounds ?_
  unfold laws_FnExactBestSteps.Ok
  by_cases bl : (l.length : Int) > 1048576
  · exact EvP.out bl
  have nl : l.length ≤ 1048576 := by omega
  refine EvP.on bl ?_
  have tl := to1 l nl
  have el := eq1 l (by omega)
  obtain ⟨n, hz, hz2⟩ := sz_yardb s.f0 hn hx
  by_cases hneg : n < 0
  · exact EvP.bind hz (EvP.out hneg)
  obtain ⟨hn1, hn2, hx2⟩ := hz2 (by omega)
  have ht := to_yard s.f0 hn2 hx2
  have he := eq_yard s.f0 hn hx
  obtain ⟨r1, r2, h1, h2, g1⟩ := best_same s.f0 hn2 hx2 l nl
  have hs0 := sumL_big hn2 hx2
  have hp0 := sumL_pos s.f0
  have hmy : Ev (fun k => laws_markYard.f k s.f0 1) _ := mark2 s.f0 1 (by omega) (by omega) hn2 hx2
  have hmc := mark1 l (1 + sumL s.f0) (by omega) nl
  have q1 := eqq_ev r1 (by omega)
  have mr1 := markQ r1 1 (by omega) g1
  have dr1 := heldQ r1.length 1 (by omega) g1
  refine EvP.bind hz (EvP.on hneg ?_)
  repeat' first
    | exact EvP.tr
    | refine EvP.bind2 h1 ?_
    | refine EvP.bind2 h2 ?_
    | refine EvP.bind ht ?_
    | refine EvP.bind he ?_
    | refine EvP.bind tl ?_
    | refine EvP.bind el ?_
    | refine EvP.bind q1 ?_
    | refine EvP.bind dr1 ?_
    | refine EvP.bind2 hmy ?_
    | refine EvP.bind2 hmc ?_
    | refine EvP.bind2 mr1 ?_
    | (refine EvP.no ?hc ?_; (case hc => first | omega | (simp; done) | (simp; omega)))

end Go.Proofs.YtfcbdfedolnkfaaDoor.Pure
