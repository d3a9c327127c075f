/- The pure statement of the law FnExactFewestRelocations: over numbers and lists alone. -/
import Derived.Test.YtfcbdfedolnkfaaDoorPx23
import Derived.Test.YtfcbdfedolnkfaaDoorUSerD
namespace Go.Proofs.YtfcbdfedolnkfaaDoor.Pure
open Go.RowKit Go.Proofs.YtfcbdfedolnkfaaDoor.P Go.Proofs.YtfcbdfedolnkfaaDoorW.PrintWords Go.Proofs.YtfcbdfedolnkfaaDoorW.PrintLast Go.Proofs.YtfcbdfedolnkfaaDoor.U Go.Proofs.YtfcbdfedolnkfaaDoor.UT Go.Proofs.YtfcbdfedolnkfaaDoor.UY Go.Proofs.YtfcbdfedolnkfaaDoor.UQ
set_option linter.unusedVariables false

theorem FnExactFewestRelocations : laws_FnExactFewestRelocations.Pure := by
  intro s l hs hl
  obtain ⟨hn, hx⟩ := good_args hs
  have hll : l.length ≤ 9223372036854775807 := hl.1
  refine Ev.rounds (g := fun k => laws_FnExactFewestRelocations.f k s.f0 l) ?_
  unfold laws_FnExactFewestRelocations.f
  by_cases bl : (l.length : Int) > 1048576
  · exact ev_pos bl (ev_const rfl)
  have nl : l.length ≤ 1048576 := by omega
  refine ev_neg bl ?_
  have tl := to1 l nl
  have el := eq1 l (by omega)
  obtain ⟨n, hz, hz2⟩ := sz_yardb s.f0 hn hx
  by_cases hneg : n < 0
  · exact Ev.bind hz (ev_pos hneg (ev_const rfl))
  obtain ⟨hn1, hn2, hx2⟩ := hz2 (by omega)
  have ht := to_yard s.f0 hn2 hx2
  have he := eq_yard s.f0 hn hx
  obtain ⟨r, b, h1, h2⟩ := few_same s.f0 hn2 hx2 l nl
  exact Ev.bind hz (ev_neg hneg (Ev.bind ht (Ev.bind tl (Ev.bind h1 (Ev.bind ht (Ev.bind tl (Ev.bind h2 (ev_pos rfl (ev_neg (by simp) (Ev.bind ht (Ev.bind he (ev_pos rfl (Ev.bind tl (Ev.bind el (ev_pos rfl (ev_const rfl))))))))))))))))

end Go.Proofs.YtfcbdfedolnkfaaDoor.Pure
