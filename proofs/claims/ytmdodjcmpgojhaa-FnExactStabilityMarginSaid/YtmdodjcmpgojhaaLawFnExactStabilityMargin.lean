/- For every input the law FnExactStabilityMargin answers true and leaves its arguments as they were; no condition. The row, out of its pure statement and the walk. Written by a program of this session. -/
import Derived.Test.YtmdodjcmpgojhaaRows
import Derived.Test.YtmdodjcmpgojhaaPx31
import Derived.Test.YtmdodjcmpgojhaaPureFnExactStabilityMargin
import Derived.Test.YtmdodjcmpgojhaaOpen
import Derived.WalkKit
import Derived.ProofKit
import Derived.OpenShut
import Derived.ShutString
import Derived.ChangeOld
import Derived.Below
import Derived.SizedLaws
import Derived.Carry
namespace Go.Proofs.Ytmdodjcmpgojhaa.fnExactStabilityMargin
open Go.ChangeShapes Go.WideShapes Go.ChangeAt Go.RowKit Go.Proofs.YtmdodjcmpgojhaaW.PrintWords Go.Proofs.Ytmdodjcmpgojhaa.P
open Go.ChangeMaps (open_string shut_string)
set_option linter.unusedVariables false
theorem own : ownKnob Try.prog.godebug = none := by kernel_rfl
theorem laidOut : laidOutB Try.prog = true := by kernel_rfl
theorem opens64 : Go.Proofs.Ytmdodjcmpgojhaa.Open.Opens Try.prog 64 k64 G64 := fun H enc W fuel cs x hx => by
  obtain ⟨hl, hf⟩ := Go.Proofs.Ytmdodjcmpgojhaa.Open.fields Try.underlying64 (by kernel_rfl) (by kernel_rfl) hx
  obtain ⟨v0, n0, y0, e0, h0⟩ := hf 0 _ rfl
  obtain ⟨z0, q0, g0⟩ := (Go.Proofs.Ytmdodjcmpgojhaa.Open.opens_int Try.underlying3) H enc W _ _ _ h0
  obtain rfl := (List.cons.inj q0).1
  obtain ⟨v1, n1, y1, e1, h1⟩ := hf 1 _ rfl
  obtain ⟨z1, q1, g1⟩ := (Go.Proofs.Ytmdodjcmpgojhaa.Open.opens_int Try.underlying3) H enc W _ _ _ h1
  obtain rfl := (List.cons.inj q1).1
  obtain ⟨v2, n2, y2, e2, h2⟩ := hf 2 _ rfl
  obtain ⟨z2, q2, g2⟩ := (Go.Proofs.Ytmdodjcmpgojhaa.Open.opens_int Try.underlying3) H enc W _ _ _ h2
  obtain rfl := (List.cons.inj q2).1
  obtain rfl := Go.Proofs.Ytmdodjcmpgojhaa.Open.cells3 hl e0 e1 e2
  exact ⟨(⟨z0, z1, z2⟩ : S64), k64_mk W (⟨z0, z1, z2⟩ : S64) , ⟨g0, g1, g2⟩⟩
set_option maxRecDepth 100000 in
theorem lifted (os : Os) (started : os.Started) (H : Type) (enc : TypeId × Value → H) :
    ReturnsInHanded {} Try.checked os 11 .any (Rows.fnExactStabilityMarginSpec.pre6 enc Try.prog Try.f11 Rows.fnExactStabilityMarginRow.domain false) (Rows.fnExactStabilityMarginSpec.post enc Try.prog Try.f11 false true false false) := by
  refine returnsInHanded_of_change_sized (C := Try.checked) own started (by kernel_rfl) Try.func11
    (ChangeSpec.witness6 (enc := enc) (C := Try.checked) false ⟨#[], #[.slice none 0 0, .int .i64 0, .int .i64 0, .int .i64 0], []⟩ 8 (by kernel_rfl) (by kernel_rfl) (by kernel_rfl) (by kernel_rfl)) ?_
  intro W base args ds gs before hval0 hW hcnd hsz0 _
  have hsz : (DataW.weightsEach Try.prog (Try.f11.params.toList ++ Rows.fnExactStabilityMarginSpec.plain.varTypes Try.prog) (ds ++ gs)).all (· ≤ reachBytes) = true := hsz0
  have hval : ∀ (j : Nat) t v, Try.f11.params[j]? = some t → args[j]? = some v → Value.okWide Try.prog W .any base t v := hval0
  have hW' := hW
  obtain ⟨p, q, hA0, hV, rfl, hfz, hnd⟩ := hW
  have hA : DataW.TrodAll enc Try.prog W 0 (fun _ => true) true Try.f11.params.toList args.toList ds p := hA0
  rw [Try.params11] at hA hval hsz
  obtain ⟨v0, vs0, d0, ds0, p0, q0, hargs, rfl, rfl, h0, r0⟩ := trodAll_cons hA
  obtain ⟨v1, vs1, d1, ds1, p1, q1, rfl, rfl, rfl, h1, r1⟩ := trodAll_cons r0
  obtain ⟨v2, vs2, d2, ds2, p2, q2, rfl, rfl, rfl, h2, r2⟩ := trodAll_cons r1
  obtain ⟨v3, vs3, d3, ds3, p3, q3, rfl, rfl, rfl, h3, r3⟩ := trodAll_cons r2
  obtain ⟨rfl, rfl, rfl⟩ := trodAll_nil r3
  obtain rfl : args = #[v0, v1, v2, v3] := by cases args; simp_all
  obtain ⟨rfl, rfl⟩ := trodVars_none hV
  obtain ⟨A0, len0, c0, rfl⟩ := okWide_slice Try.underlying22 (hval 0 22 v0 rfl rfl)
  have k0 := h0
  have lt0 : ∀ x ∈ p0, x.block < W.heap.size := by obtain ⟨m, hm⟩ := k0; exact DataW.trod_lt m _ _ _ hm
  obtain ⟨l0, rfl, hc0, hr0, g0⟩ := Go.Proofs.Ytmdodjcmpgojhaa.Open.arg_slice (Go.Proofs.Ytmdodjcmpgojhaa.Open.opens_slice Try.underlying22 (by kernel_rfl) opens64) h0
  obtain ⟨a1, rfl, rfl, rfl, w1⟩ := open_int Try.underlying3 (hval 1 3 v1 rfl rfl) h1
  obtain ⟨a2, rfl, rfl, rfl, w2⟩ := open_int Try.underlying3 (hval 2 3 v2 rfl rfl) h2
  obtain ⟨a3, rfl, rfl, rfl, w3⟩ := open_int Try.underlying3 (hval 3 3 v3 rfl rfl) h3
  clear hA0 hval0 hsz0 hsz
  refine (P.laws_FnExactStabilityMargin.walk Pure.FnExactStabilityMargin A0 c0 l0 a1 a2 a3 W hr0 hc0 g0 w1 w2 w3).mono fun e W' ⟨he, bel⟩ => ?_
  subst he
  exact ⟨_, rfl, _, _, _, [], _, [], hW', trodAll_mk1 (shut_bool Try.underlying4 _), (trodAll_cons_mk (Below.trod laidOut (by kernel_rfl) (of_decide_eq_true (by kernel_rfl)) k0 bel lt0) (trodAll_cons_mk (shut_int Try.underlying3 w1) (trodAll_cons_mk (shut_int Try.underlying3 w2) (trodAll_cons_mk (shut_int Try.underlying3 w3) trodAll_mk0)))), rfl, bel.frame _, fun h => by cases h⟩
theorem over : Rows.fnExactStabilityMarginRow.holds Try.pinned (OpenSpec.ofChange Rows.fnExactStabilityMarginSpec) :=
  OpenClaim.holds_of_wide 11 Try.f11 rfl rfl rfl rfl rfl rfl rfl ⟨rfl, rfl, rfl, rfl, rfl⟩ rfl rfl rfl rfl rfl (by kernel_rfl) Try.func11 (by kernel_rfl)
    (of_decide_eq_true (by kernel_rfl)) (by unfold Func.isWrapper; first | (rw [if_pos (by decide +kernel)]; kernel_rfl) | (rw [if_neg (by decide +kernel)]; exact ⟨rfl, rfl⟩))
    (fun os started H enc _ => lifted os started H enc)
theorem proved : Rows.FnExactStabilityMarginSaid := over
#print axioms proved
end Go.Proofs.Ytmdodjcmpgojhaa.fnExactStabilityMargin
namespace Go.Proofs.Ytmdodjcmpgojhaa
/-- The row, under a short name, for the claim. -/
theorem fnExactStabilityMargin_holds : Rows.FnExactStabilityMarginSaid := fnExactStabilityMargin.proved
end Go.Proofs.Ytmdodjcmpgojhaa
