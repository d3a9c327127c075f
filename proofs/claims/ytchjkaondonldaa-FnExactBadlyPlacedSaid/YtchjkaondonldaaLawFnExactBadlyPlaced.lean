/- For every input the law FnExactBadlyPlaced answers true and leaves its arguments as they were; no condition. The row, out of its pure statement and the walk. Written by a program of this session. -/
import Derived.Test.YtchjkaondonldaaRows
import Derived.Test.YtchjkaondonldaaPx18
import Derived.Test.YtchjkaondonldaaPureFnExactBadlyPlaced
import Derived.Test.YtchjkaondonldaaOpen
import Derived.WalkKit
import Derived.ProofKit
import Derived.OpenShut
import Derived.ShutString
import Derived.ChangeOld
import Derived.Below
import Derived.SizedLaws
import Derived.Carry
namespace Go.Proofs.Ytchjkaondonldaa.fnExactBadlyPlaced
open Go.ChangeShapes Go.WideShapes Go.ChangeAt Go.RowKit Go.Proofs.YtchjkaondonldaaW.PrintWords Go.Proofs.Ytchjkaondonldaa.P
open Go.ChangeMaps (open_string shut_string)
set_option linter.unusedVariables false
theorem own : ownKnob Try.prog.godebug = none := by kernel_rfl
theorem laidOut : laidOutB Try.prog = true := by kernel_rfl
theorem opens24 : Go.Proofs.Ytchjkaondonldaa.Open.Opens Try.prog 24 k24 G24 := fun H enc W fuel cs x hx => by
  obtain ⟨hl, hf⟩ := Go.Proofs.Ytchjkaondonldaa.Open.fields Try.underlying24 (by kernel_rfl) (by kernel_rfl) hx
  obtain ⟨v0, n0, y0, e0, h0⟩ := hf 0 _ rfl
  obtain ⟨z0, q0, g0⟩ := (Go.Proofs.Ytchjkaondonldaa.Open.opens_slice Try.underlying22 (by kernel_rfl) (Go.Proofs.Ytchjkaondonldaa.Open.opens_slice Try.underlying35 (by kernel_rfl) (Go.Proofs.Ytchjkaondonldaa.Open.opens_int Try.underlying3))) H enc W _ _ _ h0
  obtain ⟨A0, c0, u0, l0, r0⟩ := q0
  obtain rfl := (List.cons.inj u0).1
  obtain rfl := Go.Proofs.Ytchjkaondonldaa.Open.cells1 hl e0
  exact ⟨(⟨z0⟩ : S24), k24_mk W (⟨z0⟩ : S24) l0 r0, g0⟩
set_option maxRecDepth 100000 in
theorem lifted (os : Os) (started : os.Started) (H : Type) (enc : TypeId × Value → H) :
    ReturnsInHanded {} Try.checked os 10 .any (Rows.fnExactBadlyPlacedSpec.pre6 enc Try.prog Try.f10 Rows.fnExactBadlyPlacedRow.domain false) (Rows.fnExactBadlyPlacedSpec.post enc Try.prog Try.f10 false true false false) := by
  refine returnsInHanded_of_change_sized (C := Try.checked) own started (by kernel_rfl) Try.func10
    (ChangeSpec.witness6 (enc := enc) (C := Try.checked) false ⟨#[], #[.agg #[.slice none 0 0]], []⟩ 8 (by kernel_rfl) (by kernel_rfl) (by kernel_rfl) (by kernel_rfl)) ?_
  intro W base args ds gs before hval0 hW hcnd hsz0 _
  have hsz : (DataW.weightsEach Try.prog (Try.f10.params.toList ++ Rows.fnExactBadlyPlacedSpec.plain.varTypes Try.prog) (ds ++ gs)).all (· ≤ reachBytes) = true := hsz0
  have hval : ∀ (j : Nat) t v, Try.f10.params[j]? = some t → args[j]? = some v → Value.okWide Try.prog W .any base t v := hval0
  have hW' := hW
  obtain ⟨p, q, hA0, hV, rfl, hfz, hnd⟩ := hW
  have hA : DataW.TrodAll enc Try.prog W 0 (fun _ => true) true Try.f10.params.toList args.toList ds p := hA0
  rw [Try.params10] at hA hval hsz
  obtain ⟨v0, vs0, d0, ds0, p0, q0, hargs, rfl, rfl, h0, r0⟩ := trodAll_cons hA
  obtain ⟨rfl, rfl, rfl⟩ := trodAll_nil r0
  obtain rfl : args = #[v0] := by cases args; simp_all
  obtain ⟨rfl, rfl⟩ := trodVars_none hV
  obtain ⟨cs0, rfl, hsz0⟩ := okWide_struct Try.underlying23 (hval 0 24 v0 rfl rfl)
  have k0 := h0
  have lt0 : ∀ x ∈ p0, x.block < W.heap.size := by obtain ⟨m, hm⟩ := k0; exact DataW.trod_lt m _ _ _ hm
  obtain ⟨s0, q0_, g0⟩ := Go.Proofs.Ytchjkaondonldaa.Open.arg_struct opens24 h0
  obtain ⟨A0_0, c0_0, e0, hc0_0, hr0_0⟩ := k24_open q0_
  obtain rfl : cs0 = #[.slice A0_0 s0.f0.length c0_0] := by rw [← Array.toList_inj]; exact e0
  clear hA0 hval0 hsz0 hsz
  refine (P.laws_FnExactBadlyPlaced.walk Pure.FnExactBadlyPlaced A0_0 c0_0 s0 W hr0_0 hc0_0 g0).mono fun e W' ⟨he, bel⟩ => ?_
  subst he
  exact ⟨_, rfl, _, _, _, [], _, [], hW', trodAll_mk1 (shut_bool Try.underlying4 _), (trodAll_cons_mk (Below.trod laidOut (by kernel_rfl) (of_decide_eq_true (by kernel_rfl)) k0 bel lt0) trodAll_mk0), rfl, bel.frame _, fun h => by cases h⟩
theorem over : Rows.fnExactBadlyPlacedRow.holds Try.pinned (OpenSpec.ofChange Rows.fnExactBadlyPlacedSpec) :=
  OpenClaim.holds_of_wide 10 Try.f10 rfl rfl rfl rfl rfl rfl rfl ⟨rfl, rfl, rfl, rfl, rfl⟩ rfl rfl rfl rfl rfl (by kernel_rfl) Try.func10 (by kernel_rfl)
    (of_decide_eq_true (by kernel_rfl)) (by unfold Func.isWrapper; first | (rw [if_pos (by decide +kernel)]; kernel_rfl) | (rw [if_neg (by decide +kernel)]; exact ⟨rfl, rfl⟩))
    (fun os started H enc _ => lifted os started H enc)
theorem proved : Rows.FnExactBadlyPlacedSaid := over
#print axioms proved
end Go.Proofs.Ytchjkaondonldaa.fnExactBadlyPlaced
namespace Go.Proofs.Ytchjkaondonldaa
/-- The row, under a short name, for the claim. -/
theorem fnExactBadlyPlaced_holds : Rows.FnExactBadlyPlacedSaid := fnExactBadlyPlaced.proved
end Go.Proofs.Ytchjkaondonldaa
