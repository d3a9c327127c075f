/- For every input the law FnYardMoves answers true and leaves its arguments as they were; no condition. The row, out of its pure statement and the walk. Written by a program of this session. -/
import Derived.Test.YtemildnlfjijmaaPx33
import Derived.Test.YtemildnlfjijmaaUYmAll
import Derived.Test.YtemildnlfjijmaaRows
import Derived.Test.YtemildnlfjijmaaOpen
import Derived.WalkKit
import Derived.ProofKit
import Derived.OpenShut
import Derived.ShutString
import Derived.ChangeOld
import Derived.Below
import Derived.SizedLaws
import Derived.Carry
namespace Go.Proofs.Ytemildnlfjijmaa.Pure
open Go.RowKit Go.Proofs.Ytemildnlfjijmaa.P Go.Proofs.YtemildnlfjijmaaW.PrintWords Go.Proofs.YtemildnlfjijmaaW.PrintLast

theorem FnYardMoves : laws_FnYardMoves.Pure := by
  intro l0 h
  have hl : l0.length ≤ 9223372036854775807 := h.1
  obtain ⟨K, hK⟩ := Go.Proofs.Ytemildnlfjijmaa.UF.law_true hl (fun x hx => Go.Proofs.Ytemildnlfjijmaa.UD.wf_u8 (h.2 x hx))
  exact ⟨K, hK K rfl⟩

end Go.Proofs.Ytemildnlfjijmaa.Pure
namespace Go.Proofs.Ytemildnlfjijmaa.fnYardMoves
open Go.ChangeShapes Go.WideShapes Go.ChangeAt Go.RowKit Go.Proofs.YtemildnlfjijmaaW.PrintWords Go.Proofs.Ytemildnlfjijmaa.P
open Go.ChangeMaps (open_string shut_string)
set_option linter.unusedVariables false
theorem own : ownKnob Try.prog.godebug = none := by kernel_rfl
theorem laidOut : laidOutB Try.prog = true := by kernel_rfl
set_option maxRecDepth 100000 in
theorem lifted (os : Os) (started : os.Started) (H : Type) (enc : TypeId × Value → H) :
    ReturnsInHanded {} Try.checked os 3 .any (Rows.fnYardMovesSpec.pre6 enc Try.prog Try.f3 Rows.fnYardMovesRow.domain false) (Rows.fnYardMovesSpec.post enc Try.prog Try.f3 false true false false) := by
  refine returnsInHanded_of_change_sized (C := Try.checked) own started (by kernel_rfl) Try.func3
    (ChangeSpec.witness6 (enc := enc) (C := Try.checked) false ⟨#[], #[.slice none 0 0], []⟩ 8 (by kernel_rfl) (by kernel_rfl) (by kernel_rfl) (by kernel_rfl)) ?_
  intro W base args ds gs before hval0 hW hcnd hsz0 _
  have hsz : (DataW.weightsEach Try.prog (Try.f3.params.toList ++ Rows.fnYardMovesSpec.plain.varTypes Try.prog) (ds ++ gs)).all (· ≤ reachBytes) = true := hsz0
  have hval : ∀ (j : Nat) t v, Try.f3.params[j]? = some t → args[j]? = some v → Value.okWide Try.prog W .any base t v := hval0
  have hW' := hW
  obtain ⟨p, q, hA0, hV, rfl, hfz, hnd⟩ := hW
  have hA : DataW.TrodAll enc Try.prog W 0 (fun _ => true) true Try.f3.params.toList args.toList ds p := hA0
  rw [Try.params3] at hA hval hsz
  obtain ⟨v0, vs0, d0, ds0, p0, q0, hargs, rfl, rfl, h0, r0⟩ := trodAll_cons hA
  obtain ⟨rfl, rfl, rfl⟩ := trodAll_nil r0
  obtain rfl : args = #[v0] := by cases args; simp_all
  obtain ⟨rfl, rfl⟩ := trodVars_none hV
  obtain ⟨A0, len0, c0, rfl⟩ := okWide_slice Try.underlying22 (hval 0 22 v0 rfl rfl)
  have k0 := h0
  have lt0 : ∀ x ∈ p0, x.block < W.heap.size := by obtain ⟨m, hm⟩ := k0; exact DataW.trod_lt m _ _ _ hm
  obtain ⟨l0, rfl, hc0, hr0, g0⟩ := Go.Proofs.Ytemildnlfjijmaa.Open.arg_slice (Go.Proofs.Ytemildnlfjijmaa.Open.opens_slice Try.underlying22 (by kernel_rfl) (Go.Proofs.Ytemildnlfjijmaa.Open.opens_int Try.underlying5)) h0
  clear hA0 hval0 hsz0 hsz
  refine (P.laws_FnYardMoves.walk Pure.FnYardMoves A0 c0 l0 W hr0 hc0 g0).mono fun e W' ⟨he, bel⟩ => ?_
  subst he
  exact ⟨_, rfl, _, _, _, [], _, [], hW', trodAll_mk1 (shut_bool Try.underlying4 _), (trodAll_cons_mk (Below.trod laidOut (by kernel_rfl) (of_decide_eq_true (by kernel_rfl)) k0 bel lt0) trodAll_mk0), rfl, bel.frame _, fun h => by cases h⟩
theorem over : Rows.fnYardMovesRow.holds Try.pinned (OpenSpec.ofChange Rows.fnYardMovesSpec) :=
  OpenClaim.holds_of_wide 3 Try.f3 rfl rfl rfl rfl rfl rfl rfl ⟨rfl, rfl, rfl, rfl, rfl⟩ rfl rfl rfl rfl rfl (by kernel_rfl) Try.func3 (by kernel_rfl)
    (of_decide_eq_true (by kernel_rfl)) (by unfold Func.isWrapper; first | (rw [if_pos (by decide +kernel)]; kernel_rfl) | (rw [if_neg (by decide +kernel)]; exact ⟨rfl, rfl⟩))
    (fun os started H enc _ => lifted os started H enc)
theorem proved : Rows.FnYardMovesSaid := over
#print axioms proved
end Go.Proofs.Ytemildnlfjijmaa.fnYardMoves
namespace Go.Proofs.Ytemildnlfjijmaa
/-- The row, under a short name, for the claim. -/
theorem fnYardMoves_holds : Rows.FnYardMovesSaid := fnYardMoves.proved
end Go.Proofs.Ytemildnlfjijmaa
