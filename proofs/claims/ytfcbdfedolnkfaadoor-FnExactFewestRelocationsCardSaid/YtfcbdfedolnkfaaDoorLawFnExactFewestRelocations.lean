/- For every input the law FnExactFewestRelocations answers true and leaves its arguments as they were; no condition. The row, out of its pure statement and the walk. Written by a program of this session. -/
import Derived.Test.YtfcbdfedolnkfaaDoorRows
import Derived.Test.YtfcbdfedolnkfaaDoorPx23
import Derived.Test.YtfcbdfedolnkfaaDoorPureFnExactFewestRelocations
import Derived.Test.YtfcbdfedolnkfaaDoorOpen
import Derived.WalkKit
import Derived.ProofKit
import Derived.OpenShut
import Derived.ShutString
import Derived.ChangeOld
import Derived.Below
import Derived.SizedLaws
import Derived.Carry
import Derived.LaidMore
import Derived.Stop.Joined
namespace Go.Proofs.YtfcbdfedolnkfaaDoor.fnExactFewestRelocations
open Go.ChangeShapes Go.WideShapes Go.ChangeAt Go.RowKit Go.Proofs.YtfcbdfedolnkfaaDoorW.PrintWords Go.Proofs.YtfcbdfedolnkfaaDoor.P
open Go.ChangeMaps (open_string shut_string)
set_option linter.unusedVariables false
theorem own : ownKnob Tryd.prog.godebug = none := by kernel_rfl
theorem laidOut : laidOutB Tryd.prog = true := by kernel_rfl
theorem opens24 : Go.Proofs.YtfcbdfedolnkfaaDoor.Open.Opens Tryd.prog 24 k24 G24 := fun H enc W fuel cs x hx => by
  obtain ⟨hl, hf⟩ := Go.Proofs.YtfcbdfedolnkfaaDoor.Open.fields Tryd.underlying24 (by kernel_rfl) (by kernel_rfl) hx
  obtain ⟨v0, n0, y0, e0, h0⟩ := hf 0 _ rfl
  obtain ⟨z0, q0, g0⟩ := (Go.Proofs.YtfcbdfedolnkfaaDoor.Open.opens_slice Tryd.underlying22 (by kernel_rfl) (Go.Proofs.YtfcbdfedolnkfaaDoor.Open.opens_slice Tryd.underlying25 (by kernel_rfl) (Go.Proofs.YtfcbdfedolnkfaaDoor.Open.opens_int Tryd.underlying3))) H enc W _ _ _ h0
  obtain ⟨A0, c0, u0, l0, r0⟩ := q0
  obtain rfl := (List.cons.inj u0).1
  obtain rfl := Go.Proofs.YtfcbdfedolnkfaaDoor.Open.cells1 hl e0
  exact ⟨(⟨z0⟩ : S24), k24_mk W (⟨z0⟩ : S24) l0 r0, g0⟩
/-- The door's own heap meets the condition on the listed variables: three closed facts. -/
theorem door_met (os : Os) (args : Array Value) : laidMetH Tryd.prog Rows.fnExactFewestRelocationsRow.laid ((World.doorLaid Tryd.prog 400 os).forCall (fun _ _ => 0) ⟨#[], args, []⟩).memory :=
  laidMetH_of_parts3 (fuel := 8) (laidMet_of_run' 8 (by kernel_rfl) (by kernel_rfl)) (by kernel_rfl) (by kernel_rfl)
set_option maxRecDepth 100000 in
theorem lifted (os : Os) (started : os.Started) (H : Type) (enc : TypeId × Value → H) :
    ReturnsInHanded {} Tryd.checked os 4 .any (fun w args => (Rows.fnExactFewestRelocationsSpec.pre enc Tryd.prog Tryd.f4 [] false w args ∧ laidMetH Tryd.prog Rows.fnExactFewestRelocationsRow.laid w) ∧ sizedMet enc Tryd.prog Tryd.f4 (OpenSpec.ofChange Rows.fnExactFewestRelocationsSpec) false w args) (Rows.fnExactFewestRelocationsSpec.post enc Tryd.prog Tryd.f4 false true false false) := by
  refine returnsInHanded_of_change_and (C := Tryd.checked) (X := fun w _ => laidMetH Tryd.prog Rows.fnExactFewestRelocationsRow.laid w) (fun _ _ _ hh h => h.of_heap hh) own started (by kernel_rfl) Tryd.func4
    (ChangeSpec.witness_shaped (enc := enc) (C := Tryd.checked) (os := os) (X := fun w _ => laidMetH Tryd.prog Rows.fnExactFewestRelocationsRow.laid w) false (World.doorLaid Tryd.prog 400 os) #[.agg #[.slice none 0 0], .slice none 0 0] 8 rfl (World.shaped_of_RefB (by kernel_rfl) (by kernel_rfl)) (by kernel_rfl) (by kernel_rfl) (by kernel_rfl) (door_met os _)) ?_
  intro W base args ds gs before hval0 hW hcnd hsz0 hL _
  have hsz : (DataW.weightsEach Tryd.prog (Tryd.f4.params.toList ++ Rows.fnExactFewestRelocationsSpec.plain.varTypes Tryd.prog) (ds ++ gs)).all (· ≤ reachBytes) = true := hsz0
  have hval : ∀ (j : Nat) t v, Tryd.f4.params[j]? = some t → args[j]? = some v → Value.okWide Tryd.prog W .any base t v := hval0
  have hW' := hW
  obtain ⟨p, q, hA0, hV, rfl, hfz, hnd⟩ := hW
  have hA : DataW.TrodAll enc Tryd.prog W 0 (fun _ => true) true Tryd.f4.params.toList args.toList ds p := hA0
  rw [Tryd.params4] at hA hval hsz
  obtain ⟨v0, vs0, d0, ds0, p0, q0, hargs, rfl, rfl, h0, r0⟩ := trodAll_cons hA
  obtain ⟨v1, vs1, d1, ds1, p1, q1, rfl, rfl, rfl, h1, r1⟩ := trodAll_cons r0
  obtain ⟨rfl, rfl, rfl⟩ := trodAll_nil r1
  obtain rfl : args = #[v0, v1] := by cases args; simp_all
  obtain ⟨rfl, rfl⟩ := trodVars_none hV
  obtain ⟨cs0, rfl, hsz0⟩ := okWide_struct Tryd.underlying23 (hval 0 24 v0 rfl rfl)
  have k0 := h0
  have lt0 : ∀ x ∈ p0, x.block < W.heap.size := by obtain ⟨m, hm⟩ := k0; exact DataW.trod_lt m _ _ _ hm
  obtain ⟨s0, q0_, g0⟩ := Go.Proofs.YtfcbdfedolnkfaaDoor.Open.arg_struct opens24 h0
  obtain ⟨A0_0, c0_0, e0, hc0_0, hr0_0⟩ := k24_open q0_
  obtain rfl : cs0 = #[.slice A0_0 s0.f0.length c0_0] := by rw [← Array.toList_inj]; exact e0
  obtain ⟨A1, len1, c1, rfl⟩ := okWide_slice Tryd.underlying25 (hval 1 25 v1 rfl rfl)
  have k1 := h1
  have lt1 : ∀ x ∈ p1, x.block < W.heap.size := by obtain ⟨m, hm⟩ := k1; exact DataW.trod_lt m _ _ _ hm
  obtain ⟨l1, rfl, hc1, hr1, g1⟩ := Go.Proofs.YtfcbdfedolnkfaaDoor.Open.arg_slice (Go.Proofs.YtfcbdfedolnkfaaDoor.Open.opens_slice Tryd.underlying25 (by kernel_rfl) (Go.Proofs.YtfcbdfedolnkfaaDoor.Open.opens_int Tryd.underlying3)) h1
  clear hA0 hval0 hsz0 hsz
  refine (P.laws_FnExactFewestRelocations.walk Pure.FnExactFewestRelocations A0_0 c0_0 s0 A1 c1 l1 W hr0_0 hc0_0 g0 hr1 hc1 g1).mono fun e W' ⟨he, bel⟩ => ?_
  subst he
  exact ⟨_, rfl, _, _, _, [], _, [], hW', trodAll_mk1 (shut_bool Tryd.underlying4 _), (trodAll_cons_mk (Below.trod laidOut (by kernel_rfl) (of_decide_eq_true (by kernel_rfl)) k0 bel lt0) (trodAll_cons_mk (Below.trod laidOut (by kernel_rfl) (of_decide_eq_true (by kernel_rfl)) k1 bel lt1) trodAll_mk0)), rfl, bel.frame _, fun h => by cases h⟩
theorem over : Rows.fnExactFewestRelocationsRow.holds Tryd.pinned (OpenSpec.ofChange Rows.fnExactFewestRelocationsSpec) :=
  OpenClaim.holds_of_wide 4 Tryd.f4 rfl rfl rfl rfl rfl rfl rfl ⟨rfl, rfl, rfl, rfl, rfl⟩ rfl rfl rfl rfl rfl (by kernel_rfl) Tryd.func4 (by kernel_rfl)
    (of_decide_eq_true (by kernel_rfl)) (by unfold Func.isWrapper; first | (rw [if_pos (by decide +kernel)]; kernel_rfl) | (rw [if_neg (by decide +kernel)]; exact ⟨rfl, rfl⟩))
    (fun os started H enc _ => lifted os started H enc)
theorem proved : Rows.FnExactFewestRelocationsSaid := over
#print axioms proved
end Go.Proofs.YtfcbdfedolnkfaaDoor.fnExactFewestRelocations
namespace Go.Proofs.YtfcbdfedolnkfaaDoor
/-- The row, under a short name, for the claim. -/
theorem fnExactFewestRelocations_holds : Rows.FnExactFewestRelocationsSaid := fnExactFewestRelocations.proved
end Go.Proofs.YtfcbdfedolnkfaaDoor
