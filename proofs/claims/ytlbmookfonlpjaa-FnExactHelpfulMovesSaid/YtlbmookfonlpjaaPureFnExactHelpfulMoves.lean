/- The pure statement of the law FnExactHelpfulMoves: over numbers and lists alone. -/
import Derived.Test.YtlbmookfonlpjaaPx25
import Derived.Test.YtlbmookfonlpjaaUHelpAll
namespace Go.Proofs.Ytlbmookfonlpjaa.Pure
open Go.RowKit Go.Proofs.Ytlbmookfonlpjaa.P Go.Proofs.YtlbmookfonlpjaaW.PrintWords Go.Proofs.YtlbmookfonlpjaaW.PrintLast Go.Proofs.Ytlbmookfonlpjaa.U Go.Proofs.Ytlbmookfonlpjaa.UT Go.Proofs.Ytlbmookfonlpjaa.UY Go.Proofs.Ytlbmookfonlpjaa.UC Go.Proofs.Ytlbmookfonlpjaa.UF Go.Proofs.Ytlbmookfonlpjaa.UK
set_option linter.unusedVariables false

theorem FnExactHelpfulMoves : laws_FnExactHelpfulMoves.Pure := by
  intro s l a hs hl ha
  obtain ⟨hn, hx⟩ := good_args hs
  have hll : l.length ≤ 9223372036854775807 := hl.1
  have hlx : ∀ x, x ∈ l → x.f0.size ≤ 9223372036854775807 := fun x h => (hl.2 x h).1
  refine EvP.rounds ?_
  unfold laws_FnExactHelpfulMoves.Ok
  obtain ⟨n, hz, hz1, hz2⟩ := sz_yard2 s.f0 hn hx
  by_cases hneg : n < 0
  · exact EvP.bind hz (EvP.out hneg)
  obtain ⟨hn2, hx2⟩ := hz2 (by omega)
  obtain ⟨m, hm, hm1, hm2⟩ := szc_ev l hll hlx n (by omega)
  refine EvP.bind hz (EvP.on hneg ?_)
  by_cases hneg2 : m < 0
  · exact EvP.bind hm (EvP.out hneg2)
  obtain ⟨hl2, hlx2⟩ := hm2 (by omega)
  have ht := to_yard s.f0 hn2 hx2
  have he := eq_yard s.f0 hn hx
  have hc := toc_ev l hl2
  have hq : (l.map cv).length ≤ 1048576 := by rw [List.length_map]; exact hl2
  have hd := eqc_ev (l.map cv) (by omega)
  obtain ⟨r1, r2, h1, h2, g1, gx⟩ := help_same s.f0 (l.map cv) a hn2 hx2 hq
  have hs0 := sumL_big hn2 hx2
  have hp0 := sumL_pos s.f0
  have hmy : Ev (fun k => laws_markYard.f k s.f0 1) _ := mark2 s.f0 1 (by omega) (by omega) hn2 hx2
  obtain ⟨lc, hmc⟩ := markC (l.map cv) (1 + sumL s.f0) hq (by omega) (by omega)
  have er := eq_ev r1 (by omega) (fun x hx => by have := gx x hx; omega)
  have s1 := sumL_big g1 gx
  have p1 := sumL_pos r1
  have mr : Ev (fun k => laws_markIntSS.f k r1 1) _ := mark2 r1 1 (by omega) (by omega) g1 gx
  have dr := held2 r1 1 (by omega) (by omega) g1 gx
  refine EvP.bind hm (EvP.on hneg2 ?_)
  repeat' first
    | exact EvP.tr
    | refine EvP.bind2 h1 ?_
    | refine EvP.bind2 h2 ?_
    | refine EvP.bind ht ?_
    | refine EvP.bind he ?_
    | refine EvP.bind hc ?_
    | refine EvP.bind hd ?_
    | refine EvP.bind er ?_
    | refine EvP.bind dr ?_
    | refine EvP.bind2 hmy ?_
    | refine EvP.bind2 hmc ?_
    | refine EvP.bind2 mr ?_
    | (refine EvP.no ?hc ?_; (case hc => first | omega | (simp; done) | (simp; omega)))

end Go.Proofs.Ytlbmookfonlpjaa.Pure
