/- The pure statement of the law FnExactParseBay: over texts, numbers and lists alone. -/
import Derived.Test.YtoiboejefgejfaaDoorPx0
import Derived.Test.YtoiboejefgejfaaDoorPx23
import Derived.Test.YtoiboejefgejfaaDoorPx24
import Derived.Test.YtoiboejefgejfaaDoorPx25
import Derived.Test.YtoiboejefgejfaaDoorUPbAll
namespace Go.Proofs.YtoiboejefgejfaaDoor.Pure
open Go.RowKit Go.Proofs.YtoiboejefgejfaaDoor.P Go.Proofs.YtoiboejefgejfaaDoorW.PrintWords Go.Proofs.YtoiboejefgejfaaDoorW.PrintLast Go.Proofs.YtoiboejefgejfaaDoor.U Go.Proofs.YtoiboejefgejfaaDoor.UT Go.Proofs.YtoiboejefgejfaaDoor.UB Go.Proofs.YtoiboejefgejfaaDoor.UK Go.Proofs.YtoiboejefgejfaaDoor.PB
set_option linter.unusedVariables false

theorem FnExactParseBay : laws_FnExactParseBay.Pure := by
  intro s hs0
  refine EvP.rounds ?_
  unfold laws_FnExactParseBay.Ok
  by_cases hs : (s.size : Int) > 1048576
  · exact EvP.out hs
  obtain ⟨h, l, b, h1, h2, hl, hx⟩ := parse_same s (by omega)
  have sr1 := sumL_big hl hx
  have pr1 := sumL_pos l
  have qr1 := eq_bay h l (by omega) (fun x h => by have := hx x h; omega)
  have mr1 : Ev (fun k => laws_markBay.f k h l 1) _ := mark2 l 1 (by omega) (by omega) hl hx
  have dr1 : Ev (fun k => laws_heldBay.f k h (mk2 l 1) 1) _ := Ev.bind (held2 l 1 (by omega) (by omega) hl hx) (ev_neg (by omega) (ev_const rfl))
  refine EvP.on hs ?_
  repeat' first
    | exact EvP.tr
    | refine EvP.bind3 h1 ?_
    | refine EvP.bind3 h2 ?_
    | refine EvP.bind qr1 ?_
    | refine EvP.bind dr1 ?_
    | refine EvP.bind2 mr1 ?_
    | (refine EvP.no ?hc ?_; (case hc => first | omega | (simp; done) | (simp; omega)))

end Go.Proofs.YtoiboejefgejfaaDoor.Pure
