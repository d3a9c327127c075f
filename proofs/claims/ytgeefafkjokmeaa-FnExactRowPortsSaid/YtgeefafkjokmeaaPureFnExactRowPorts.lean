/- The pure statement of the law FnExactRowPorts: over numbers and lists alone. -/
import Derived.Test.YtgeefafkjokmeaaPx22
import Derived.Test.YtgeefafkjokmeaaURowsAll
namespace Go.Proofs.Ytgeefafkjokmeaa.Pure
open Go.RowKit Go.Proofs.Ytgeefafkjokmeaa.P Go.Proofs.YtgeefafkjokmeaaW.PrintWords Go.Proofs.YtgeefafkjokmeaaW.PrintLast Go.Proofs.Ytgeefafkjokmeaa.U Go.Proofs.Ytgeefafkjokmeaa.UT Go.Proofs.Ytgeefafkjokmeaa.UB Go.Proofs.Ytgeefafkjokmeaa.UK
set_option linter.unusedVariables false

theorem FnExactRowPorts : laws_FnExactRowPorts.Pure := by
  intro s l1 hs hl1
  have hl : s.f2.length ≤ 9223372036854775807 := hs.2.2.1
  refine EvP.rounds ?_
  unfold laws_FnExactRowPorts.Ok
  by_cases bl1 : (l1.length : Int) > 1048576
  · exact EvP.out bl1
  have nl1 : l1.length ≤ 1048576 := by omega
  refine EvP.on bl1 ?_
  have tl1 := to1 l1 nl1
  have el1 := eq1 l1 (by omega)
  have hz : laws_szStowage.f s.f0 s.f1 s.f2 1048576 = some (if 1048576 - (s.f2.length : Int) < 0 then -1 else 1048576 - (s.f2.length : Int)) := by
    unfold laws_szStowage.f
    rw [sz1 _ _ (by omega) hl]
    by_cases h : 1048576 - (s.f2.length : Int) < 0
    · rw [if_pos h]; rfl
    · rw [if_neg h]; simp only [Option.bind_some]; rw [if_neg h]
  by_cases hn : 1048576 - (s.f2.length : Int) < 0
  · rw [if_pos hn] at hz
    exact EvP.bind (ev_const hz) (EvP.out (by omega))
  rw [if_neg hn] at hz
  refine EvP.bind (ev_const hz) (EvP.on hn ?_)
  have n2 : s.f2.length ≤ 1048576 := by omega
  have ht : Ev (fun k => laws_toStowage.f k s.f0 s.f1 s.f2) (s.f0, s.f1, s.f2) := by
    unfold laws_toStowage.f
    exact Ev.bind (to1 s.f2 n2) (ev_const rfl)
  have he : Ev (fun k => laws_eqStowage.f k s.f0 s.f1 s.f2 s.f0 s.f1 s.f2) true := by
    unfold laws_eqStowage.f
    exact ev_pos rfl (ev_pos rfl (Ev.bind (eq1 s.f2 hl) (ev_pos rfl (ev_const rfl))))
  have hm : Ev (fun k => laws_markStowage.f k s.f0 s.f1 s.f2 1) (1 + (s.f2.length : Int), mk1 s.f2.length 1) := by
    unfold laws_markStowage.f
    exact Ev.bind (mark1 s.f2 1 (by omega) n2) (ev_const rfl)
  obtain ⟨r0, r1, h1, h2, gr0, gxr0⟩ := rows_same s.f0 s.f1 s.f2 n2 l1 nl1
  have ml1 := mark1 l1 (1 + (s.f2.length : Int)) (by omega) nl1
  have sr0 := sumL_big gr0 gxr0
  have pr0 := sumL_pos r0
  have qr0 := eq_ev r0 (by omega) (fun x h => by have := gxr0 x h; omega)
  have mr0 := mark2 r0 1 (by omega) (by omega) gr0 gxr0
  have dr0 := held2 r0 1 (by omega) (by omega) gr0 gxr0
  repeat' first
    | exact EvP.tr
    | refine EvP.bind2 h1 ?_
    | refine EvP.bind2 h2 ?_
    | refine EvP.bind3 ht ?_
    | refine EvP.bind tl1 ?_
    | refine EvP.bind el1 ?_
    | refine EvP.bind he ?_
    | refine EvP.bind qr0 ?_
    | refine EvP.bind dr0 ?_
    | refine EvP.bind2 hm ?_
    | refine EvP.bind2 ml1 ?_
    | refine EvP.bind2 mr0 ?_
    | (refine EvP.no ?hc ?_; (case hc => first | omega | (simp; done) | (simp; omega)))

end Go.Proofs.Ytgeefafkjokmeaa.Pure
