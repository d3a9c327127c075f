/- For every input the law FnExactBayText answers true and leaves its arguments as they were; no condition. The row, out of its pure statement and the walk. Written by a program of this session. -/
import Derived.Test.YtdjimfejjkleaaaDoorRows
import Derived.Test.YtdjimfejjkleaaaDoorPx8
import Derived.Test.YtdjimfejjkleaaaDoorPureFnExactBayText
import Derived.Test.YtdjimfejjkleaaaDoorOpen
import Derived.WalkKit
import Derived.ProofKit
import Derived.OpenShut
import Derived.ShutString
import Derived.ChangeOld
import Derived.Below
import Derived.SizedLaws
import Derived.Carry
import Derived.LaidMore
import Derived.Stop.Joined
namespace Go.Proofs.YtdjimfejjkleaaaDoor.fnExactBayText
open Go.ChangeShapes Go.WideShapes Go.ChangeAt Go.RowKit Go.Proofs.YtdjimfejjkleaaaDoorW.PrintWords Go.Proofs.YtdjimfejjkleaaaDoor.P
open Go.ChangeMaps (open_string shut_string)
set_option linter.unusedVariables false
theorem own : ownKnob Tryd.prog.godebug = none := by kernel_rfl
theorem laidOut : laidOutB Tryd.prog = true := by kernel_rfl
theorem opens24 : Go.Proofs.YtdjimfejjkleaaaDoor.Open.Opens Tryd.prog 24 k24 G24 := fun H enc W fuel cs x hx => by
  obtain ⟨hl, hf⟩ := Go.Proofs.YtdjimfejjkleaaaDoor.Open.fields Tryd.underlying24 (by kernel_rfl) (by kernel_rfl) hx
  obtain ⟨v0, n0, y0, e0, h0⟩ := hf 0 _ rfl
  obtain ⟨z0, q0, g0⟩ := (Go.Proofs.YtdjimfejjkleaaaDoor.Open.opens_int Tryd.underlying3) H enc W _ _ _ h0
  obtain rfl := (List.cons.inj q0).1
  obtain ⟨v1, n1, y1, e1, h1⟩ := hf 1 _ rfl
  obtain ⟨z1, q1, g1⟩ := (Go.Proofs.YtdjimfejjkleaaaDoor.Open.opens_slice Tryd.underlying22 (by kernel_rfl) (Go.Proofs.YtdjimfejjkleaaaDoor.Open.opens_slice Tryd.underlying38 (by kernel_rfl) (Go.Proofs.YtdjimfejjkleaaaDoor.Open.opens_int Tryd.underlying3))) H enc W _ _ _ h1
  obtain ⟨A1, c1, u1, l1, r1⟩ := q1
  obtain rfl := (List.cons.inj u1).1
  obtain rfl := Go.Proofs.YtdjimfejjkleaaaDoor.Open.cells2 hl e0 e1
  exact ⟨(⟨z0, z1⟩ : S24), k24_mk W (⟨z0, z1⟩ : S24) l1 r1, ⟨g0, g1⟩⟩
/-- The door's own heap meets the condition on the listed variables: three closed facts. -/
theorem door_met (os : Os) (args : Array Value) : laidMetH Tryd.prog Rows.fnExactBayTextRow.laid ((World.doorLaid Tryd.prog 400 os).forCall (fun _ _ => 0) ⟨#[], args, []⟩).memory :=
  laidMetH_of_parts3 (fuel := 8) (laidMet_of_run' 8 (by kernel_rfl) (by kernel_rfl)) (by kernel_rfl) (by kernel_rfl)
set_option maxRecDepth 100000 in
theorem lifted (os : Os) (started : os.Started) (H : Type) (enc : TypeId × Value → H) :
    ReturnsInHanded {} Tryd.checked os 3 .any (fun w args => (Rows.fnExactBayTextSpec.pre enc Tryd.prog Tryd.f3 [] false w args ∧ laidMetH Tryd.prog Rows.fnExactBayTextRow.laid w) ∧ sizedMet enc Tryd.prog Tryd.f3 (OpenSpec.ofChange Rows.fnExactBayTextSpec) false w args) (Rows.fnExactBayTextSpec.post enc Tryd.prog Tryd.f3 false true false false) := by
  refine returnsInHanded_of_change_and (C := Tryd.checked) (X := fun w _ => laidMetH Tryd.prog Rows.fnExactBayTextRow.laid w) (fun _ _ _ hh h => h.of_heap hh) own started (by kernel_rfl) Tryd.func3
    (ChangeSpec.witness_shaped (enc := enc) (C := Tryd.checked) (os := os) (X := fun w _ => laidMetH Tryd.prog Rows.fnExactBayTextRow.laid w) false (World.doorLaid Tryd.prog 400 os) #[.agg #[.int .i64 0, .slice none 0 0]] 8 rfl (World.shaped_of_RefB (by kernel_rfl) (by kernel_rfl)) (by kernel_rfl) (by kernel_rfl) (by kernel_rfl) (door_met os _)) ?_
  intro W base args ds gs before hval0 hW hcnd hsz0 hL _
  have hsz : (DataW.weightsEach Tryd.prog (Tryd.f3.params.toList ++ Rows.fnExactBayTextSpec.plain.varTypes Tryd.prog) (ds ++ gs)).all (· ≤ reachBytes) = true := hsz0
  have hval : ∀ (j : Nat) t v, Tryd.f3.params[j]? = some t → args[j]? = some v → Value.okWide Tryd.prog W .any base t v := hval0
  have hW' := hW
  obtain ⟨p, q, hA0, hV, rfl, hfz, hnd⟩ := hW
  have hA : DataW.TrodAll enc Tryd.prog W 0 (fun _ => true) true Tryd.f3.params.toList args.toList ds p := hA0
  rw [Tryd.params3] at hA hval hsz
  obtain ⟨v0, vs0, d0, ds0, p0, q0, hargs, rfl, rfl, h0, r0⟩ := trodAll_cons hA
  obtain ⟨rfl, rfl, rfl⟩ := trodAll_nil r0
  obtain rfl : args = #[v0] := by cases args; simp_all
  obtain ⟨rfl, rfl⟩ := trodVars_none hV
  obtain ⟨cs0, rfl, hsz0⟩ := okWide_struct Tryd.underlying23 (hval 0 24 v0 rfl rfl)
  have k0 := h0
  have lt0 : ∀ x ∈ p0, x.block < W.heap.size := by obtain ⟨m, hm⟩ := k0; exact DataW.trod_lt m _ _ _ hm
  obtain ⟨s0, q0_, g0⟩ := Go.Proofs.YtdjimfejjkleaaaDoor.Open.arg_struct opens24 h0
  obtain ⟨A0_1, c0_1, e0, hc0_1, hr0_1⟩ := k24_open q0_
  obtain rfl : cs0 = #[.int .i64 s0.f0, .slice A0_1 s0.f1.length c0_1] := by rw [← Array.toList_inj]; exact e0
  clear hA0 hval0 hsz0 hsz
  refine (P.laws_FnExactBayText.walk Pure.FnExactBayText A0_1 c0_1 s0 W hr0_1 hc0_1 g0).mono fun e W' ⟨he, bel⟩ => ?_
  subst he
  exact ⟨_, rfl, _, _, _, [], _, [], hW', trodAll_mk1 (shut_bool Tryd.underlying4 _), (trodAll_cons_mk (Below.trod laidOut (by kernel_rfl) (of_decide_eq_true (by kernel_rfl)) k0 bel lt0) trodAll_mk0), rfl, bel.frame _, fun h => by cases h⟩
theorem over : Rows.fnExactBayTextRow.holds Tryd.pinned (OpenSpec.ofChange Rows.fnExactBayTextSpec) :=
  OpenClaim.holds_of_wide 3 Tryd.f3 rfl rfl rfl rfl rfl rfl rfl ⟨rfl, rfl, rfl, rfl, rfl⟩ rfl rfl rfl rfl rfl (by kernel_rfl) Tryd.func3 (by kernel_rfl)
    (of_decide_eq_true (by kernel_rfl)) (by unfold Func.isWrapper; first | (rw [if_pos (by decide +kernel)]; kernel_rfl) | (rw [if_neg (by decide +kernel)]; exact ⟨rfl, rfl⟩))
    (fun os started H enc _ => lifted os started H enc)
theorem proved : Rows.FnExactBayTextSaid := over
#print axioms proved
end Go.Proofs.YtdjimfejjkleaaaDoor.fnExactBayText
namespace Go.Proofs.YtdjimfejjkleaaaDoor
/-- The row, under a short name, for the claim. -/
theorem fnExactBayText_holds : Rows.FnExactBayTextSaid := fnExactBayText.proved
end Go.Proofs.YtdjimfejjkleaaaDoor
