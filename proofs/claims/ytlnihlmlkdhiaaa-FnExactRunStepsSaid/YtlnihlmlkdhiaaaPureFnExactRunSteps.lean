/- The pure statement of the law FnExactRunSteps: over numbers and lists alone. -/
import Derived.Test.YtlnihlmlkdhiaaaPx17
import Derived.Test.YtlnihlmlkdhiaaaUMark2
import Derived.Test.YtlnihlmlkdhiaaaURun
namespace Go.Proofs.Ytlnihlmlkdhiaaa.Pure
open Go.RowKit Go.Proofs.Ytlnihlmlkdhiaaa.P Go.Proofs.YtlnihlmlkdhiaaaW.PrintWords Go.Proofs.YtlnihlmlkdhiaaaW.PrintLast Go.Proofs.Ytlnihlmlkdhiaaa.U Go.Proofs.Ytlnihlmlkdhiaaa.UT Go.Proofs.Ytlnihlmlkdhiaaa.UY Go.Proofs.Ytlnihlmlkdhiaaa.UQ Go.Proofs.Ytlnihlmlkdhiaaa.UK
set_option linter.unusedVariables false

theorem FnExactRunSteps : laws_FnExactRunSteps.Pure := by
  intro s l hs hl
  obtain ⟨hn, hx⟩ := good_args hs
  have hll : l.length ≤ 9223372036854775807 := hl.1
  refine EvP.rounds ?_
  unfold laws_FnExactRunSteps.Ok
  obtain ⟨n, hz, hz2⟩ := sz_yardb s.f0 hn hx
  by_cases hneg : n < 0
  · exact EvP.bind hz (EvP.out hneg)
  obtain ⟨hn1, hn2, hx2⟩ := hz2 (by omega)
  obtain ⟨m, hm, hm1, hm2⟩ := szq_ev l hll n (by omega)
  refine EvP.bind hz (EvP.on hneg ?_)
  by_cases hneg2 : m < 0
  · exact EvP.bind (ev_const hm) (EvP.out hneg2)
  have hl2 := hm2 (by omega)
  have ht := to_yard s.f0 hn2 hx2
  have he := eq_yard s.f0 hn hx
  have hc := toq_ev l hl2
  have hq : (l.map qv).length ≤ 1048576 := by rw [List.length_map]; exact hl2
  have hd := eqq_ev (l.map qv) (by omega)
  obtain ⟨r1, r2, r3, h1, h2, g1, gx1, g2⟩ := run_same s.f0 hn2 hx2 (l.map qv) hq
  have hs0 := sumL_big hn2 hx2
  have hp0 := sumL_pos s.f0
  have hmy : Ev (fun k => laws_markYard.f k s.f0 1) _ := mark2 s.f0 1 (by omega) (by omega) hn2 hx2
  have hmc := markQ (l.map qv) (1 + sumL s.f0) (by omega) hq
  have s1 := sumL_big g1 gx1
  have p1 := sumL_pos r1
  have q1 := eq_yard r1 (by omega) (fun x h => by have := gx1 x h; omega)
  have mr1 : Ev (fun k => laws_markYard.f k r1 1) _ := mark2 r1 1 (by omega) (by omega) g1 gx1
  have dr1 : Ev (fun k => laws_heldYard.f k (mk2 r1 1) 1) _ := Ev.bind (held2 r1 1 (by omega) (by omega) g1 gx1) (ev_neg (by omega) (ev_const rfl))
  have q2 := eq1 r2 (by omega)
  have mr2 := mark1 r2 (1 + sumL r1) (by omega) g2
  have dr2 := held1 r2.length (1 + sumL r1) (by omega) g2
  refine EvP.bind (ev_const hm) (EvP.on hneg2 ?_)
  repeat' first
    | exact EvP.tr
    | refine EvP.bind3 h1 ?_
    | refine EvP.bind3 h2 ?_
    | refine EvP.bind ht ?_
    | refine EvP.bind he ?_
    | refine EvP.bind hc ?_
    | refine EvP.bind hd ?_
    | refine EvP.bind q1 ?_
    | refine EvP.bind q2 ?_
    | refine EvP.bind dr1 ?_
    | refine EvP.bind dr2 ?_
    | refine EvP.bind2 hmy ?_
    | refine EvP.bind2 hmc ?_
    | refine EvP.bind2 mr1 ?_
    | refine EvP.bind2 mr2 ?_
    | (refine EvP.no ?hc ?_; (case hc => first | omega | (simp; done) | (simp; omega)))

end Go.Proofs.Ytlnihlmlkdhiaaa.Pure
