/- The pure statement of the law FnExactMirrorLoads: over numbers and lists alone. -/
import Derived.Test.YtmdodjcmpgojhaaPx0
import Derived.Test.YtmdodjcmpgojhaaPx19
import Derived.Test.YtmdodjcmpgojhaaUStab
import Derived.Test.YtmdodjcmpgojhaaULoadM
namespace Go.Proofs.Ytmdodjcmpgojhaa.Pure
open Go.RowKit Go.Proofs.Ytmdodjcmpgojhaa.P Go.Proofs.YtmdodjcmpgojhaaW.PrintWords Go.Proofs.YtmdodjcmpgojhaaW.PrintLast Go.Proofs.Ytmdodjcmpgojhaa.U Go.Proofs.Ytmdodjcmpgojhaa.UL Go.Proofs.Ytmdodjcmpgojhaa.US

theorem FnExactMirrorLoads : laws_FnExactMirrorLoads.Pure := by
  intro l hl
  refine Ev.rounds ?_
  unfold laws_FnExactMirrorLoads.f
  by_cases hs : 1048576 < l.length
  · exact ev_call (sz_neg l hl.1 hs) (ev_pos (by decide) (ev_const rfl))
  obtain ⟨n, hn, e⟩ := sz_pos l (by omega)
  have ht := to_ev l (by omega)
  have hq : (l.map cv).length ≤ 1048576 := by rw [List.length_map]; omega
  obtain ⟨r, hr, h1, h2⟩ := mirror_same (l.map cv) hq
  have he := eq_ev (l.map cv) (by omega)
  have he2 := eq_ev r.1 (by omega)
  have hm := mark_ev (l.map cv) hq
  have hm2 := mark_ev r.1 hr
  have hh := held_ev r.1.length hr
  refine ev_call e (ev_neg (by omega) ?_)
  refine Ev.bind ht (Ev.bind h1 (Ev.bind ht (Ev.bind h2 ?_)))
  repeat' first
    | exact ev_const rfl
    | refine Ev.bind ht ?_
    | refine Ev.bind he ?_
    | refine Ev.bind he2 ?_
    | refine Ev.bind hm ?_
    | refine Ev.bind hm2 ?_
    | refine Ev.bind hh ?_
    | refine Ev.bind h2 ?_
    | refine ev_pos rfl ?_
    | (refine ev_neg ?hc ?_; (case hc => first | omega | (simp; done)))
    | refine Ev.step (fun k => by simp only [laws_FnExactMirrorLoads.j0]; rfl) ?_
    | refine Ev.step (fun k => by simp only [laws_FnExactMirrorLoads.j1]; rfl) ?_
    | refine Ev.step (fun k => by simp only [laws_FnExactMirrorLoads.j2]; rfl) ?_
end Go.Proofs.Ytmdodjcmpgojhaa.Pure
