/- The pure statement of the law FnBallast: over numbers and lists alone. -/
import Derived.Test.YtkahifpcimoogaaPx20
import Derived.Test.YtkahifpcimoogaaUBal
namespace Go.Proofs.Ytkahifpcimoogaa.Pure
open Go.RowKit Go.Proofs.Ytkahifpcimoogaa.P Go.Proofs.YtkahifpcimoogaaW.PrintWords Go.Proofs.YtkahifpcimoogaaW.PrintLast

theorem FnBallast : laws_FnBallast.Pure := by
  intro l0 h
  have hl : l0.length ≤ 9223372036854775807 := h.1
  obtain ⟨K, hK⟩ := Go.Proofs.Ytkahifpcimoogaa.US.bal_true hl (fun x hx => Go.Proofs.Ytkahifpcimoogaa.UD.wf_u8 (h.2 x hx))
  exact ⟨K, hK K (Nat.le_refl _)⟩

end Go.Proofs.Ytkahifpcimoogaa.Pure
