/- The pure statement of the law FnExactBestStowage: over numbers and lists alone. -/
import Derived.Test.YtbcklegbkdjlpaaPx23
import Derived.Test.YtbcklegbkdjlpaaUBestAll
namespace Go.Proofs.Ytbcklegbkdjlpaa.Pure
open Go.RowKit Go.Proofs.Ytbcklegbkdjlpaa.P Go.Proofs.YtbcklegbkdjlpaaW.PrintWords Go.Proofs.YtbcklegbkdjlpaaW.PrintLast Go.Proofs.Ytbcklegbkdjlpaa.U Go.Proofs.Ytbcklegbkdjlpaa.UT Go.Proofs.Ytbcklegbkdjlpaa.UB Go.Proofs.Ytbcklegbkdjlpaa.UK
set_option linter.unusedVariables false

theorem FnExactBestStowage : laws_FnExactBestStowage.Pure := by
  intro s hs 
  have hl : s.f2.length ≤ 9223372036854775807 := hs.2.2.1
  refine EvP.rounds ?_
  unfold laws_FnExactBestStowage.Ok
  have hz : laws_szStowage.f s.f0 s.f1 s.f2 1048576 = some (if 1048576 - (s.f2.length : Int) < 0 then -1 else 1048576 - (s.f2.length : Int)) := by
    unfold laws_szStowage.f
    rw [sz1 _ _ (by omega) hl]
    by_cases h : 1048576 - (s.f2.length : Int) < 0
    · rw [if_pos h]; rfl
    · rw [if_neg h]; simp only [Option.bind_some]; rw [if_neg h]
  by_cases hn : 1048576 - (s.f2.length : Int) < 0
  · rw [if_pos hn] at hz
    exact EvP.bind (ev_const hz) (EvP.out (by omega))
  rw [if_neg hn] at hz
  refine EvP.bind (ev_const hz) (EvP.on hn ?_)
  have n2 : s.f2.length ≤ 1048576 := by omega
  have ht : Ev (fun k => laws_toStowage.f k s.f0 s.f1 s.f2) (s.f0, s.f1, s.f2) := by
    unfold laws_toStowage.f
    exact Ev.bind (to1 s.f2 n2) (ev_const rfl)
  have he : Ev (fun k => laws_eqStowage.f k s.f0 s.f1 s.f2 s.f0 s.f1 s.f2) true := by
    unfold laws_eqStowage.f
    exact ev_pos rfl (ev_pos rfl (Ev.bind (eq1 s.f2 hl) (ev_pos rfl (ev_const rfl))))
  have hm : Ev (fun k => laws_markStowage.f k s.f0 s.f1 s.f2 1) (1 + (s.f2.length : Int), mk1 s.f2.length 1) := by
    unfold laws_markStowage.f
    exact Ev.bind (mark1 s.f2 1 (by omega) n2) (ev_const rfl)
  obtain ⟨r0, r1, r2, h1, h2, gr0⟩ := best_same s.f0 s.f1 s.f2 n2
  have qr0 := eq1 r0 (by omega)
  have mr0 := mark1 r0 1 (by omega) gr0
  have dr0 := held1 r0.length 1 (by omega) gr0
  repeat' first
    | exact EvP.tr
    | refine EvP.bind3 h1 ?_
    | refine EvP.bind3 h2 ?_
    | refine EvP.bind3 ht ?_
    | refine EvP.bind he ?_
    | refine EvP.bind qr0 ?_
    | refine EvP.bind dr0 ?_
    | refine EvP.bind2 hm ?_
    | refine EvP.bind2 mr0 ?_
    | (refine EvP.no ?hc ?_; (case hc => first | omega | (simp; done) | (simp; omega)))

end Go.Proofs.Ytbcklegbkdjlpaa.Pure
