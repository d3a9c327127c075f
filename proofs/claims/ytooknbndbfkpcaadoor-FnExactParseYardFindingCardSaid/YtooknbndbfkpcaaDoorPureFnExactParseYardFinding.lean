/- The pure statement of the law FnExactParseYardFinding: over numbers and texts alone. -/
import Derived.Test.YtooknbndbfkpcaaDoorPx0
import Derived.Test.YtooknbndbfkpcaaDoorPx13
import Derived.Test.YtooknbndbfkpcaaDoorUParse
namespace Go.Proofs.YtooknbndbfkpcaaDoor.Pure
open Go.RowKit Go.Proofs.YtooknbndbfkpcaaDoor.P Go.Proofs.YtooknbndbfkpcaaDoorW.PrintWords Go.Proofs.YtooknbndbfkpcaaDoorW.PrintLast Go.Proofs.YtooknbndbfkpcaaDoor.U Go.Proofs.YtooknbndbfkpcaaDoor.UP

theorem FnExactParseYardFinding : laws_FnExactParseYardFinding.Pure := by
  intro x _
  refine Ev.rounds ?_
  unfold laws_FnExactParseYardFinding.f
  by_cases hx : (x.size : Int) > 1048576
  · exact ev_pos hx (ev_const rfl)
  obtain ⟨⟨r1, r2, r3, r4⟩, h1, h2⟩ := parse_same x (by omega)
  refine ev_neg hx (Ev.bind h1 (Ev.bind h2 (Ev.bind (a := true) (ev_const ?_) (ev_pos rfl (ev_neg (by simp) (ev_const rfl))))))
  unfold laws_eqYardFinding.f
  rw [if_pos rfl, if_pos rfl, if_pos rfl]

end Go.Proofs.YtooknbndbfkpcaaDoor.Pure
