/- The pure statement of the law FnExactStabilityMargin: over numbers and lists alone. -/
import Derived.Test.YtmdodjcmpgojhaaPx31
import Derived.Test.YtmdodjcmpgojhaaUStab
import Derived.Test.YtmdodjcmpgojhaaUFrac
namespace Go.Proofs.Ytmdodjcmpgojhaa.Pure
open Go.RowKit Go.Proofs.Ytmdodjcmpgojhaa.P Go.Proofs.YtmdodjcmpgojhaaW.PrintWords Go.Proofs.YtmdodjcmpgojhaaW.PrintLast Go.Proofs.Ytmdodjcmpgojhaa.U Go.Proofs.Ytmdodjcmpgojhaa.UL Go.Proofs.Ytmdodjcmpgojhaa.US

theorem FnExactStabilityMargin : laws_FnExactStabilityMargin.Pure := by
  intro l a1 a2 a3 hl w1 w2 w3
  refine Ev.rounds ?_
  unfold laws_FnExactStabilityMargin.f
  by_cases hs : 1048576 < l.length
  · exact ev_call (sz_neg l hl.1 hs) (ev_pos (by decide) (ev_const rfl))
  obtain ⟨n, hn, e⟩ := sz_pos l (by omega)
  have ht := to_ev l (by omega)
  have hq : (l.map cv).length ≤ 9223372036854775807 := by rw [List.length_map]; omega
  have he := eq_ev (l.map cv) hq
  obtain ⟨r, h1, h2⟩ := margin_same (l.map cv) hq a1 a2 a3
  refine ev_call e (ev_neg (by omega) ?_)
  refine Ev.bind ht (Ev.bind h1 (Ev.bind ht (Ev.bind h2 ?_)))
  repeat' first
    | exact ev_const rfl
    | refine Ev.bind ht ?_
    | refine Ev.bind he ?_
    | refine ev_pos rfl ?_
    | refine ev_neg (by simp) ?_
    | refine Ev.step (fun k => by simp only [laws_FnExactStabilityMargin.j0]; rfl) ?_

end Go.Proofs.Ytmdodjcmpgojhaa.Pure
