/- The pure statement of the law FnUnloading: over numbers and lists alone. -/
import Derived.Test.YtdooakhjaffcdaaPx18
import Derived.Test.YtdooakhjaffcdaaUUnlAll
namespace Go.Proofs.Ytdooakhjaffcdaa.Pure
open Go.RowKit Go.Proofs.Ytdooakhjaffcdaa.P Go.Proofs.YtdooakhjaffcdaaW.PrintWords Go.Proofs.YtdooakhjaffcdaaW.PrintLast

theorem FnUnloading : laws_FnUnloading.Pure := by
  intro l0 h
  have hl : l0.length ≤ 9223372036854775807 := h.1
  obtain ⟨K, hK⟩ := Go.Proofs.Ytdooakhjaffcdaa.UB.law_true hl (fun x hx => Go.Proofs.Ytdooakhjaffcdaa.UD.wf_u8 (h.2 x hx))
  exact ⟨K, hK K (Nat.le_refl _)⟩

end Go.Proofs.Ytdooakhjaffcdaa.Pure
