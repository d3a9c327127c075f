/- The pure statement of the law FnStowage: over numbers and lists alone. -/
import Derived.Test.YtipahijdcgoemaaPx28
import Derived.Test.YtipahijdcgoemaaUStowAll
namespace Go.Proofs.Ytipahijdcgoemaa.Pure
open Go.RowKit Go.Proofs.Ytipahijdcgoemaa.P Go.Proofs.YtipahijdcgoemaaW.PrintWords Go.Proofs.YtipahijdcgoemaaW.PrintLast

theorem FnStowage : laws_FnStowage.Pure := by
  intro l0 h
  have hl : l0.length ≤ 9223372036854775807 := h.1
  obtain ⟨K, hK⟩ := Go.Proofs.Ytipahijdcgoemaa.UB.law_true hl (fun x hx => Go.Proofs.Ytipahijdcgoemaa.UD.wf_u8 (h.2 x hx))
  exact ⟨K, hK K (Nat.le_refl _)⟩

end Go.Proofs.Ytipahijdcgoemaa.Pure
