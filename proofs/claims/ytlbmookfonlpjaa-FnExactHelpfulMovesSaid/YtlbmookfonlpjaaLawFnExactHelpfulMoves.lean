/- For every input the law FnExactHelpfulMoves answers true and leaves its arguments as they were; no condition. The row, out of its pure statement and the walk. Written by a program of this session. -/
import Derived.Test.YtlbmookfonlpjaaRows
import Derived.Test.YtlbmookfonlpjaaPx25
import Derived.Test.YtlbmookfonlpjaaPureFnExactHelpfulMoves
import Derived.Test.YtlbmookfonlpjaaOpen
import Derived.WalkKit
import Derived.ProofKit
import Derived.OpenShut
import Derived.ShutString
import Derived.ChangeOld
import Derived.Below
import Derived.SizedLaws
import Derived.Carry
namespace Go.Proofs.Ytlbmookfonlpjaa.fnExactHelpfulMoves
open Go.ChangeShapes Go.WideShapes Go.ChangeAt Go.RowKit Go.Proofs.YtlbmookfonlpjaaW.PrintWords Go.Proofs.Ytlbmookfonlpjaa.P
open Go.ChangeMaps (open_string shut_string)
set_option linter.unusedVariables false
theorem own : ownKnob Try.prog.godebug = none := by kernel_rfl
theorem laidOut : laidOutB Try.prog = true := by kernel_rfl
theorem opens24 : Go.Proofs.Ytlbmookfonlpjaa.Open.Opens Try.prog 24 k24 G24 := fun H enc W fuel cs x hx => by
  obtain ⟨hl, hf⟩ := Go.Proofs.Ytlbmookfonlpjaa.Open.fields Try.underlying24 (by kernel_rfl) (by kernel_rfl) hx
  obtain ⟨v0, n0, y0, e0, h0⟩ := hf 0 _ rfl
  obtain ⟨z0, q0, g0⟩ := (Go.Proofs.Ytlbmookfonlpjaa.Open.opens_slice Try.underlying22 (by kernel_rfl) (Go.Proofs.Ytlbmookfonlpjaa.Open.opens_slice Try.underlying47 (by kernel_rfl) (Go.Proofs.Ytlbmookfonlpjaa.Open.opens_int Try.underlying3))) H enc W _ _ _ h0
  obtain ⟨A0, c0, u0, l0, r0⟩ := q0
  obtain rfl := (List.cons.inj u0).1
  obtain rfl := Go.Proofs.Ytlbmookfonlpjaa.Open.cells1 hl e0
  exact ⟨(⟨z0⟩ : S24), k24_mk W (⟨z0⟩ : S24) l0 r0, g0⟩
theorem opens43 : Go.Proofs.Ytlbmookfonlpjaa.Open.Opens Try.prog 43 k43 G43 := fun H enc W fuel cs x hx => by
  obtain ⟨hl, hf⟩ := Go.Proofs.Ytlbmookfonlpjaa.Open.fields Try.underlying43 (by kernel_rfl) (by kernel_rfl) hx
  obtain ⟨v0, n0, y0, e0, h0⟩ := hf 0 _ rfl
  obtain ⟨z0, q0, g0⟩ := (Go.Proofs.Ytlbmookfonlpjaa.Open.opens_string Try.underlying9) H enc W _ _ _ h0
  obtain rfl := (List.cons.inj q0).1
  obtain ⟨v1, n1, y1, e1, h1⟩ := hf 1 _ rfl
  obtain ⟨z1, q1, g1⟩ := (Go.Proofs.Ytlbmookfonlpjaa.Open.opens_int Try.underlying3) H enc W _ _ _ h1
  obtain rfl := (List.cons.inj q1).1
  obtain ⟨v2, n2, y2, e2, h2⟩ := hf 2 _ rfl
  obtain ⟨z2, q2, g2⟩ := (Go.Proofs.Ytlbmookfonlpjaa.Open.opens_int Try.underlying3) H enc W _ _ _ h2
  obtain rfl := (List.cons.inj q2).1
  obtain ⟨v3, n3, y3, e3, h3⟩ := hf 3 _ rfl
  obtain ⟨z3, q3, g3⟩ := (Go.Proofs.Ytlbmookfonlpjaa.Open.opens_int Try.underlying3) H enc W _ _ _ h3
  obtain rfl := (List.cons.inj q3).1
  obtain ⟨v4, n4, y4, e4, h4⟩ := hf 4 _ rfl
  obtain ⟨z4, q4, g4⟩ := (Go.Proofs.Ytlbmookfonlpjaa.Open.opens_int Try.underlying3) H enc W _ _ _ h4
  obtain rfl := (List.cons.inj q4).1
  obtain rfl := Go.Proofs.Ytlbmookfonlpjaa.Open.cells5 hl e0 e1 e2 e3 e4
  exact ⟨(⟨z0, z1, z2, z3, z4⟩ : S43), k43_mk W (⟨z0, z1, z2, z3, z4⟩ : S43) , ⟨g0, g1, g2, g3, g4⟩⟩
set_option maxRecDepth 100000 in
theorem lifted (os : Os) (started : os.Started) (H : Type) (enc : TypeId × Value → H) :
    ReturnsInHanded {} Try.checked os 3 .any (Rows.fnExactHelpfulMovesSpec.pre6 enc Try.prog Try.f3 Rows.fnExactHelpfulMovesRow.domain false) (Rows.fnExactHelpfulMovesSpec.post enc Try.prog Try.f3 false true false false) := by
  refine returnsInHanded_of_change_sized (C := Try.checked) own started (by kernel_rfl) Try.func3
    (ChangeSpec.witness6 (enc := enc) (C := Try.checked) false ⟨#[], #[.agg #[.slice none 0 0], .slice none 0 0, .int .i64 0], []⟩ 8 (by kernel_rfl) (by kernel_rfl) (by kernel_rfl) (by kernel_rfl)) ?_
  intro W base args ds gs before hval0 hW hcnd hsz0 _
  have hsz : (DataW.weightsEach Try.prog (Try.f3.params.toList ++ Rows.fnExactHelpfulMovesSpec.plain.varTypes Try.prog) (ds ++ gs)).all (· ≤ reachBytes) = true := hsz0
  have hval : ∀ (j : Nat) t v, Try.f3.params[j]? = some t → args[j]? = some v → Value.okWide Try.prog W .any base t v := hval0
  have hW' := hW
  obtain ⟨p, q, hA0, hV, rfl, hfz, hnd⟩ := hW
  have hA : DataW.TrodAll enc Try.prog W 0 (fun _ => true) true Try.f3.params.toList args.toList ds p := hA0
  rw [Try.params3] at hA hval hsz
  obtain ⟨v0, vs0, d0, ds0, p0, q0, hargs, rfl, rfl, h0, r0⟩ := trodAll_cons hA
  obtain ⟨v1, vs1, d1, ds1, p1, q1, rfl, rfl, rfl, h1, r1⟩ := trodAll_cons r0
  obtain ⟨v2, vs2, d2, ds2, p2, q2, rfl, rfl, rfl, h2, r2⟩ := trodAll_cons r1
  obtain ⟨rfl, rfl, rfl⟩ := trodAll_nil r2
  obtain rfl : args = #[v0, v1, v2] := by cases args; simp_all
  obtain ⟨rfl, rfl⟩ := trodVars_none hV
  obtain ⟨cs0, rfl, hsz0⟩ := okWide_struct Try.underlying23 (hval 0 24 v0 rfl rfl)
  have k0 := h0
  have lt0 : ∀ x ∈ p0, x.block < W.heap.size := by obtain ⟨m, hm⟩ := k0; exact DataW.trod_lt m _ _ _ hm
  obtain ⟨s0, q0_, g0⟩ := Go.Proofs.Ytlbmookfonlpjaa.Open.arg_struct opens24 h0
  obtain ⟨A0_0, c0_0, e0, hc0_0, hr0_0⟩ := k24_open q0_
  obtain rfl : cs0 = #[.slice A0_0 s0.f0.length c0_0] := by rw [← Array.toList_inj]; exact e0
  obtain ⟨A1, len1, c1, rfl⟩ := okWide_slice Try.underlying25 (hval 1 25 v1 rfl rfl)
  have k1 := h1
  have lt1 : ∀ x ∈ p1, x.block < W.heap.size := by obtain ⟨m, hm⟩ := k1; exact DataW.trod_lt m _ _ _ hm
  obtain ⟨l1, rfl, hc1, hr1, g1⟩ := Go.Proofs.Ytlbmookfonlpjaa.Open.arg_slice (Go.Proofs.Ytlbmookfonlpjaa.Open.opens_slice Try.underlying25 (by kernel_rfl) opens43) h1
  obtain ⟨a2, rfl, rfl, rfl, w2⟩ := open_int Try.underlying3 (hval 2 3 v2 rfl rfl) h2
  clear hA0 hval0 hsz0 hsz
  refine (P.laws_FnExactHelpfulMoves.walk Pure.FnExactHelpfulMoves A0_0 c0_0 s0 A1 c1 l1 a2 W hr0_0 hc0_0 g0 hr1 hc1 g1 w2).mono fun e W' ⟨he, bel⟩ => ?_
  subst he
  exact ⟨_, rfl, _, _, _, [], _, [], hW', trodAll_mk1 (shut_bool Try.underlying4 _), (trodAll_cons_mk (Below.trod laidOut (by kernel_rfl) (of_decide_eq_true (by kernel_rfl)) k0 bel lt0) (trodAll_cons_mk (Below.trod laidOut (by kernel_rfl) (of_decide_eq_true (by kernel_rfl)) k1 bel lt1) (trodAll_cons_mk (shut_int Try.underlying3 w2) trodAll_mk0))), rfl, bel.frame _, fun h => by cases h⟩
theorem over : Rows.fnExactHelpfulMovesRow.holds Try.pinned (OpenSpec.ofChange Rows.fnExactHelpfulMovesSpec) :=
  OpenClaim.holds_of_wide 3 Try.f3 rfl rfl rfl rfl rfl rfl rfl ⟨rfl, rfl, rfl, rfl, rfl⟩ rfl rfl rfl rfl rfl (by kernel_rfl) Try.func3 (by kernel_rfl)
    (of_decide_eq_true (by kernel_rfl)) (by unfold Func.isWrapper; first | (rw [if_pos (by decide +kernel)]; kernel_rfl) | (rw [if_neg (by decide +kernel)]; exact ⟨rfl, rfl⟩))
    (fun os started H enc _ => lifted os started H enc)
theorem proved : Rows.FnExactHelpfulMovesSaid := over
#print axioms proved
end Go.Proofs.Ytlbmookfonlpjaa.fnExactHelpfulMoves
namespace Go.Proofs.Ytlbmookfonlpjaa
/-- The row, under a short name, for the claim. -/
theorem fnExactHelpfulMoves_holds : Rows.FnExactHelpfulMovesSaid := fnExactHelpfulMoves.proved
end Go.Proofs.Ytlbmookfonlpjaa
