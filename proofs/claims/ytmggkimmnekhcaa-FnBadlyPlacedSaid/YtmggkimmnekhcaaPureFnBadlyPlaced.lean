/- The pure statement of the law FnBadlyPlaced: over numbers and lists alone. -/
import Derived.Test.YtmggkimmnekhcaaPx23
import Derived.Test.YtmggkimmnekhcaaUBadPAll
namespace Go.Proofs.Ytmggkimmnekhcaa.Pure
open Go.RowKit Go.Proofs.Ytmggkimmnekhcaa.P Go.Proofs.YtmggkimmnekhcaaW.PrintWords Go.Proofs.YtmggkimmnekhcaaW.PrintLast

theorem FnBadlyPlaced : laws_FnBadlyPlaced.Pure := by
  intro l0 h
  have hl : l0.length ≤ 9223372036854775807 := h.1
  obtain ⟨K, hK⟩ := Go.Proofs.Ytmggkimmnekhcaa.UY.law_true hl (fun x hx => Go.Proofs.Ytmggkimmnekhcaa.UD.wf_u8 (h.2 x hx))
  exact ⟨K, hK K (Nat.le_refl _)⟩

end Go.Proofs.Ytmggkimmnekhcaa.Pure
