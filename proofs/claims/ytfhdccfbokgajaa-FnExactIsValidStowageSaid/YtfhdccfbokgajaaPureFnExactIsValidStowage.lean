/- The pure statement of the law FnExactIsValidStowage: over numbers and lists alone. -/
import Derived.Test.YtfhdccfbokgajaaPx12
import Derived.Test.YtfhdccfbokgajaaUCol
namespace Go.Proofs.Ytfhdccfbokgajaa.Pure
open Go.RowKit Go.Proofs.Ytfhdccfbokgajaa.P Go.Proofs.YtfhdccfbokgajaaW.PrintWords Go.Proofs.YtfhdccfbokgajaaW.PrintLast Go.Proofs.Ytfhdccfbokgajaa.U Go.Proofs.Ytfhdccfbokgajaa.UT Go.Proofs.Ytfhdccfbokgajaa.UC

theorem FnExactIsValidStowage : laws_FnExactIsValidStowage.Pure := by
  intro s hs
  have hl : s.f2.length ≤ 9223372036854775807 := hs.2.2.1
  refine Ev.rounds ?_
  unfold laws_FnExactIsValidStowage.f
  have hz : laws_szStowage.f s.f0 s.f1 s.f2 1048576 = some (if 1048576 - (s.f2.length : Int) < 0 then -1 else 1048576 - (s.f2.length : Int)) := by
    unfold laws_szStowage.f
    rw [sz1 _ _ (by omega) hl]
    by_cases h : 1048576 - (s.f2.length : Int) < 0
    · rw [if_pos h]; rfl
    · rw [if_neg h]; simp only [Option.bind_some]; rw [if_neg h]
  refine ev_call hz ?_
  by_cases hn : 1048576 - (s.f2.length : Int) < 0
  · exact ev_pos (by rw [if_pos hn]; omega) (ev_const rfl)
  have ht : Ev (fun k => laws_toStowage.f k s.f0 s.f1 s.f2) (s.f0, s.f1, s.f2) := by
    unfold laws_toStowage.f
    exact Ev.bind (to1 s.f2 (by omega)) (ev_const rfl)
  have he : Ev (fun k => laws_eqStowage.f k s.f0 s.f1 s.f2 s.f0 s.f1 s.f2) true := by
    unfold laws_eqStowage.f
    exact ev_pos rfl (ev_pos rfl (Ev.bind (eq1 s.f2 hl) (ev_pos rfl (ev_const rfl))))
  obtain ⟨r, h1, h2⟩ := st_same s.f0 s.f1 s.f2 hl
  refine ev_neg (by rw [if_neg hn]; exact hn) (Ev.bind ht (Ev.bind h1 (Ev.bind ht (Ev.bind h2 ?_))))
  repeat' first
    | exact ev_const rfl
    | refine Ev.bind ht ?_
    | refine Ev.bind he ?_
    | refine ev_pos rfl ?_
    | (refine ev_neg ?hc ?_; (case hc => first | omega | (simp; done)))

end Go.Proofs.Ytfhdccfbokgajaa.Pure
