/- The pure statement of the law FnExactBestSwap: over numbers and lists alone. -/
import Derived.Test.YtcklpjdkhbfikaaPx0
import Derived.Test.YtcklpjdkhbfikaaPx5
import Derived.Test.YtcklpjdkhbfikaaUSwap
import Derived.Test.YtcklpjdkhbfikaaULoadM0
import Derived.Test.YtcklpjdkhbfikaaUInts
namespace Go.Proofs.Ytcklpjdkhbfikaa.Pure
open Go.RowKit Go.Proofs.Ytcklpjdkhbfikaa.P Go.Proofs.YtcklpjdkhbfikaaW.PrintWords Go.Proofs.YtcklpjdkhbfikaaW.PrintLast Go.Proofs.Ytcklpjdkhbfikaa.U Go.Proofs.Ytcklpjdkhbfikaa.UL Go.Proofs.Ytcklpjdkhbfikaa.US Go.Proofs.Ytcklpjdkhbfikaa.UK
set_option linter.unusedVariables false

theorem FnExactBestSwap : laws_FnExactBestSwap.Pure := by
  intro l hl
  refine EvP.rounds ?_
  unfold laws_FnExactBestSwap.Ok
  by_cases hs : 1048576 < l.length
  · exact EvP.bind (ev_const (sz_neg l hl.1 hs)) (EvP.out (by decide))
  obtain ⟨n, hn, e⟩ := sz_pos l (by omega)
  have ht := to_ev l (by omega)
  have hq : (l.map cv).length ≤ 1048576 := by rw [List.length_map]; omega
  obtain ⟨xs, s, b, hx, h1, h2⟩ := swap_same (l.map cv) hq
  have he := eq_ev (l.map cv) (by omega)
  have hm := mark_ev (l.map cv) hq
  have q1 := eq1 xs (by omega)
  have m1 := mark1 xs 1 (by omega) (by omega)
  have d1 := held1 xs.length 1 (by omega) (by omega)
  refine EvP.bind (ev_const e) (EvP.on (by omega) ?_)
  repeat' first
    | exact EvP.tr
    | refine EvP.bind3 h1 ?_
    | refine EvP.bind3 h2 ?_
    | refine EvP.bind ht ?_
    | refine EvP.bind he ?_
    | refine EvP.bind q1 ?_
    | refine EvP.bind d1 ?_
    | refine EvP.bind2 hm ?_
    | refine EvP.bind2 m1 ?_
    | (refine EvP.no ?hc ?_; (case hc => first | omega | (simp; done) | (simp; omega)))
end Go.Proofs.Ytcklpjdkhbfikaa.Pure
