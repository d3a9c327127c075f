/- The pure statement of the law FnExactSlotOf: over numbers and lists alone. -/
import Derived.Test.YtnilmfhnelgmnaaPx16
import Derived.Test.YtnilmfhnelgmnaaUBay
namespace Go.Proofs.Ytnilmfhnelgmnaa.Pure
open Go.RowKit Go.Proofs.Ytnilmfhnelgmnaa.P Go.Proofs.YtnilmfhnelgmnaaW.PrintWords Go.Proofs.YtnilmfhnelgmnaaW.PrintLast Go.Proofs.Ytnilmfhnelgmnaa.U Go.Proofs.Ytnilmfhnelgmnaa.UT Go.Proofs.Ytnilmfhnelgmnaa.UB

theorem FnExactSlotOf : laws_FnExactSlotOf.Pure := by
  intro s a1 hs w1
  obtain ⟨hl, hx⟩ := good_args hs
  refine Ev.rounds ?_
  unfold laws_FnExactSlotOf.f
  obtain ⟨n, hz, hz2⟩ := sz_bay s.f0 s.f1 hl hx
  by_cases hn : n < 0
  · exact Ev.bind hz (ev_pos hn (ev_const rfl))
  obtain ⟨hl2, hx2⟩ := hz2 (by omega)
  have ht := to_bay s.f0 s.f1 hl2 hx2
  have he := eq_bay s.f0 s.f1 hl hx
  obtain ⟨r, h1, h2⟩ := slot_same s.f0 s.f1 hl2 hx2 a1
  refine Ev.bind hz (ev_neg hn ?_)
  refine Ev.bind ht (Ev.bind h1 (Ev.bind ht (Ev.bind h2 ?_)))
  repeat' first
    | exact ev_const rfl
    | refine Ev.bind ht ?_
    | refine Ev.bind he ?_
    | refine ev_pos rfl ?_
    | (refine ev_neg ?hc ?_; (case hc => first | omega | (simp; done)))
    | refine Ev.step (fun k => by simp only [laws_FnExactSlotOf.j0]; rfl) ?_

end Go.Proofs.Ytnilmfhnelgmnaa.Pure
