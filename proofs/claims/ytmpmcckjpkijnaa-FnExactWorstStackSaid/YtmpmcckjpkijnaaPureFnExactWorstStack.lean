/- The pure statement of the law FnExactWorstStack: over numbers and lists alone. -/
import Derived.Test.YtmpmcckjpkijnaaPx25
import Derived.Test.YtmpmcckjpkijnaaUWStack
namespace Go.Proofs.Ytmpmcckjpkijnaa.Pure
open Go.RowKit Go.Proofs.Ytmpmcckjpkijnaa.P Go.Proofs.YtmpmcckjpkijnaaW.PrintWords Go.Proofs.YtmpmcckjpkijnaaW.PrintLast Go.Proofs.Ytmpmcckjpkijnaa.U Go.Proofs.Ytmpmcckjpkijnaa.UT Go.Proofs.Ytmpmcckjpkijnaa.UY Go.Proofs.Ytmpmcckjpkijnaa.UC Go.Proofs.Ytmpmcckjpkijnaa.UF

theorem FnExactWorstStack : laws_FnExactWorstStack.Pure := by
  intro s l a hs hl ha
  obtain ⟨hn, hx⟩ := good_args hs
  have hll : l.length ≤ 9223372036854775807 := hl.1
  have hlx : ∀ x, x ∈ l → x.f0.size ≤ 9223372036854775807 := fun x h => (hl.2 x h).1
  refine Ev.rounds ?_
  unfold laws_FnExactWorstStack.f
  obtain ⟨n, hz, hz1, hz2⟩ := sz_yard2 s.f0 hn hx
  by_cases hneg : n < 0
  · exact Ev.bind hz (ev_pos hneg (ev_const rfl))
  obtain ⟨hn2, hx2⟩ := hz2 (by omega)
  obtain ⟨m, hm, hm1, hm2⟩ := szc_ev l hll hlx n (by omega)
  refine Ev.bind hz (ev_neg hneg ?_)
  by_cases hneg2 : m < 0
  · exact Ev.bind hm (ev_pos hneg2 (ev_const rfl))
  obtain ⟨hl2, hlx2⟩ := hm2 (by omega)
  have ht := to_yard s.f0 hn2 hx2
  have he := eq_yard s.f0 hn hx
  have hc := toc_ev l hl2
  have hq : (l.map cv).length ≤ 1048576 := by rw [List.length_map]; exact hl2
  have hd := eqc_ev (l.map cv) (by omega)
  obtain ⟨r, h1, h2⟩ := worstStack_same s.f0 (l.map cv) a hn2 hx2 hq
  refine Ev.bind hm (ev_neg hneg2 ?_)
  refine Ev.bind ht (Ev.bind hc (Ev.bind h1 (Ev.bind ht (Ev.bind hc (Ev.bind h2 ?_)))))
  repeat' first
    | exact ev_const rfl
    | refine Ev.bind ht ?_
    | refine Ev.bind he ?_
    | refine Ev.bind hc ?_
    | refine Ev.bind hd ?_
    | refine ev_pos rfl ?_
    | (refine ev_neg ?hc ?_; (case hc => first | omega | (simp; done)))
    | refine Ev.step (fun k => by simp only [laws_FnExactWorstStack.j0]; rfl) ?_

end Go.Proofs.Ytmpmcckjpkijnaa.Pure
