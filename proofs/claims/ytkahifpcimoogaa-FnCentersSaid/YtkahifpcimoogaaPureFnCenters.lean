/- The pure statement of the law FnCenters: over numbers and lists alone. -/
import Derived.Test.YtkahifpcimoogaaPx34
import Derived.Test.YtkahifpcimoogaaUCent
namespace Go.Proofs.Ytkahifpcimoogaa.Pure
open Go.RowKit Go.Proofs.Ytkahifpcimoogaa.P Go.Proofs.YtkahifpcimoogaaW.PrintWords Go.Proofs.YtkahifpcimoogaaW.PrintLast

theorem FnCenters : laws_FnCenters.Pure := by
  intro l0 h
  have hl : l0.length ≤ 9223372036854775807 := h.1
  obtain ⟨K, hK⟩ := Go.Proofs.Ytkahifpcimoogaa.US.cent_true hl (fun x hx => Go.Proofs.Ytkahifpcimoogaa.UD.wf_u8 (h.2 x hx))
  exact ⟨K, hK K (Nat.le_refl _)⟩

end Go.Proofs.Ytkahifpcimoogaa.Pure
