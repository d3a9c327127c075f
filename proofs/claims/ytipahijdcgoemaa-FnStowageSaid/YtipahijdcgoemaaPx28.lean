-- Written by a program of this session over the translation (a variant of the printer, see wip/gen); Lean checks it.
import Derived.Test.YtipahijdcgoemaaPx0
import Derived.Test.YtipahijdcgoemaaPx1
import Derived.Test.YtipahijdcgoemaaPx4
import Derived.Test.YtipahijdcgoemaaPx9
import Derived.Test.YtipahijdcgoemaaPx14
import Derived.Test.YtipahijdcgoemaaPx17
import Derived.Test.YtipahijdcgoemaaPx20
import Derived.Test.YtipahijdcgoemaaPx23
import Derived.Test.YtipahijdcgoemaaPx24
import Derived.Test.YtipahijdcgoemaaPx25
import Derived.Test.YtipahijdcgoemaaPx26
import Derived.Test.YtipahijdcgoemaaPx27
namespace Go.Proofs.Ytipahijdcgoemaa.P
open Go.RowKit Go.Proofs.YtipahijdcgoemaaW.PrintWords Go.Proofs.YtipahijdcgoemaaW.PrintLast Go.Proofs.YtipahijdcgoemaaW.PrintMore
attribute [local go_sem] Go.Proofs.Ytipahijdcgoemaa.V.isSome_setCell max2_int min2_int max_two min_two max_three min_three max_four min_four
set_option linter.unusedVariables false
set_option linter.unusedSimpArgs false
/-! ### laws_FnStowage: function 4 -/
def laws_FnStowage.j0 : Nat → List Int → Int → Bool → Bool → Int → Int → List Int → Option (Bool)
 | 0, _, _, _, _, _, _, _ => none
 | k + 1, x5, x6, x7, x93, x400000, x400001, x400002 => if x93 = true then (none) else ((impl_GreedyStowage.f x400000 x400001 x400002).bind fun bt421 => ((spec_GreedyStowage.f k x400000 x400001 x400002).bind fun bt426 => (if (bt421.2.2 != bt426.2.2) = true then (none) else (if bt421.2.1 = bt426.2.1 then ((laws_vInts.f k bt421.1 bt426.1).bind fun t431 => (if t431 = true then (if (bt421.2.2 != x7) = true then (none) else (if bt421.2.1 < x6 then (none) else (if x7 = true then ((impl_ShiftedBoxes.f k x400000 x400001 x400002 x5).bind fun bt432 => ((impl_PlanBay.f k x400000 x400001 x400002 x5).bind fun bt436 => (if bt432.2 = true then (if (bt432.1.length : Int) = x6 then (if bt436.2.2 = true then ((impl_IsValidBay.f bt436.1 bt436.2.1).bind fun t442 => (if t442 = true then (some ((bt436.2.1.length : Int) == x400000)) else (none))) else (none)) else (none)) else (none)))) else (some ((x5.length : Int) == 0))))) else (none))) else (none)))))
def laws_FnStowage.f (k : Nat) (l0 : List Int) : Option (Bool) := (laws_vBig.f l0).bind fun t390 => (if t390 = true then (some true) else ((spec_DrawShiftedBoxes.f k l0).bind fun bt391 => ((impl_BestStowage.f k bt391.1 bt391.2.1 bt391.2.2.1).bind fun bt400 => ((spec_BestStowage.f k bt391.1 bt391.2.1 bt391.2.2.1).bind fun bt405 => (if (bt400.2.2 != bt405.2.2) = true then (none) else (if bt400.2.1 = bt405.2.1 then ((laws_vInts.f k bt400.1 bt405.1).bind fun t410 => (if t410 = true then ((impl_IsValidStowage.f bt391.1 bt391.2.1 bt391.2.2.1).bind fun t411 => (if (t411 != bt400.2.2) = true then (none) else ((impl_ShiftedBoxes.f k bt391.1 bt391.2.1 bt391.2.2.1 bt391.2.2.2).bind fun bt412 => ((spec_ShiftedBoxes.f k bt391.1 bt391.2.1 bt391.2.2.1 bt391.2.2.2).bind fun bt416 => (if (bt412.2 != bt416.2) = true then (none) else ((laws_vInts.f k bt412.1 bt416.1).bind fun t420 => (if t420 = true then (if bt412.2 = true then (laws_FnStowage.j0 k bt400.1 bt400.2.1 bt400.2.2 (decide ((bt412.1.length : Int) < bt400.2.1)) bt391.1 bt391.2.1 bt391.2.2.1) else (laws_FnStowage.j0 k bt400.1 bt400.2.1 bt400.2.2 false bt391.1 bt391.2.1 bt391.2.2.1)) else (none)))))))) else (none))) else (none)))))))
theorem laws_FnStowage.mono_l : ∀ k, (∀ y0 y1 y2 y3 y4 y5 y6, LeO (laws_FnStowage.j0 k y0 y1 y2 y3 y4 y5 y6) (laws_FnStowage.j0 (k + 1) y0 y1 y2 y3 y4 y5 y6))
 | 0 => fun _ _ _ _ _ _ _ r h => by simp [laws_FnStowage.j0] at h
 | k + 1 => by
  have ih0 := laws_FnStowage.mono_l k
  ·intro y0 y1 y2 y3 y4 y5 y6
   unfold laws_FnStowage.j0
   repeat' first
   | (with_reducible exact ih0 _ _ _ _ _ _ _)
   | (with_reducible exact impl_BestStowage.mono _ _ _ _)
   | (with_reducible exact impl_PlanBay.mono _ _ _ _ _)
   | (with_reducible exact impl_ShiftedBoxes.mono _ _ _ _ _)
   | (with_reducible exact laws_vInts.mono _ _ _)
   | (with_reducible exact spec_BestStowage.mono _ _ _ _)
   | (with_reducible exact spec_DrawShiftedBoxes.mono _ _)
   | (with_reducible exact spec_GreedyStowage.mono _ _ _ _)
   | (with_reducible exact spec_ShiftedBoxes.mono _ _ _ _ _)
   | (with_reducible exact LeO.refl _)
   | (with_reducible exact LeO.none _)
   | (with_reducible refine LeO.ite ?_ ?_)
   | (with_reducible refine LeO.bind ?_ (fun _ => ?_))
   | exact ih0 _ _ _ _ _ _ _
   | exact impl_BestStowage.mono _ _ _ _
   | exact impl_PlanBay.mono _ _ _ _ _
   | exact impl_ShiftedBoxes.mono _ _ _ _ _
   | exact laws_vInts.mono _ _ _
   | exact spec_BestStowage.mono _ _ _ _
   | exact spec_DrawShiftedBoxes.mono _ _
   | exact spec_GreedyStowage.mono _ _ _ _
   | exact spec_ShiftedBoxes.mono _ _ _ _ _
   | exact LeO.none _
   | refine LeO.ite ?_ ?_
   | refine LeO.bind ?_ (fun _ => ?_)
theorem laws_FnStowage.mono : ∀ a0 k, LeO (laws_FnStowage.f k a0) (laws_FnStowage.f (k + 1) a0) := by
 intro a0 k
 have ih0 := laws_FnStowage.mono_l k
 unfold laws_FnStowage.f
 repeat' first
   | (with_reducible exact ih0 _ _ _ _ _ _ _)
   | (with_reducible exact impl_BestStowage.mono _ _ _ _)
   | (with_reducible exact impl_PlanBay.mono _ _ _ _ _)
   | (with_reducible exact impl_ShiftedBoxes.mono _ _ _ _ _)
   | (with_reducible exact laws_vInts.mono _ _ _)
   | (with_reducible exact spec_BestStowage.mono _ _ _ _)
   | (with_reducible exact spec_DrawShiftedBoxes.mono _ _)
   | (with_reducible exact spec_GreedyStowage.mono _ _ _ _)
   | (with_reducible exact spec_ShiftedBoxes.mono _ _ _ _ _)
   | (with_reducible exact LeO.refl _)
   | (with_reducible exact LeO.none _)
   | (with_reducible refine LeO.ite ?_ ?_)
   | (with_reducible refine LeO.bind ?_ (fun _ => ?_))
   | exact ih0 _ _ _ _ _ _ _
   | exact impl_BestStowage.mono _ _ _ _
   | exact impl_PlanBay.mono _ _ _ _ _
   | exact impl_ShiftedBoxes.mono _ _ _ _ _
   | exact laws_vInts.mono _ _ _
   | exact spec_BestStowage.mono _ _ _ _
   | exact spec_DrawShiftedBoxes.mono _ _
   | exact spec_GreedyStowage.mono _ _ _ _
   | exact spec_ShiftedBoxes.mono _ _ _ _ _
   | exact LeO.none _
   | refine LeO.ite ?_ ?_
   | refine LeO.bind ?_ (fun _ => ?_)
set_option maxHeartbeats 8000000 in
set_option maxRecDepth 100000 in
theorem laws_FnStowage.calls (k : Nat) (A0 : Option Addr) (c0 : Nat) (l0 : List Int) (r : Bool) (w : World) (hr0 : Kd.C (Kd.int .u8) w A0 l0.length l0) (hc0 : l0.length ≤ c0) (h : laws_FnStowage.f k l0 = some r) :
  Calls Try.prog 4 #[.slice A0 l0.length c0] w fun e w' => e = .returned (.bool r) ∧ Below w.heap.size w w' := by
 have hu26 := Try.underlying26
 have hu45 := Try.underlying45
 have HR0 := Aside0.mk hr0
 have HC0 := Aside0.mk hc0
 clear hr0 hc0
 have HB := Aside0.mk (Below.refl w.heap.size w)
 have H : ((laws_vBig.f l0).bind fun t390 => (if t390 = true then (some true) else ((spec_DrawShiftedBoxes.f k l0).bind fun bt391 => ((impl_BestStowage.f k bt391.1 bt391.2.1 bt391.2.2.1).bind fun bt400 => ((spec_BestStowage.f k bt391.1 bt391.2.1 bt391.2.2.1).bind fun bt405 => (if (bt400.2.2 != bt405.2.2) = true then (none) else (if bt400.2.1 = bt405.2.1 then ((laws_vInts.f k bt400.1 bt405.1).bind fun t410 => (if t410 = true then ((impl_IsValidStowage.f bt391.1 bt391.2.1 bt391.2.2.1).bind fun t411 => (if (t411 != bt400.2.2) = true then (none) else ((impl_ShiftedBoxes.f k bt391.1 bt391.2.1 bt391.2.2.1 bt391.2.2.2).bind fun bt412 => ((spec_ShiftedBoxes.f k bt391.1 bt391.2.1 bt391.2.2.1 bt391.2.2.2).bind fun bt416 => (if (bt412.2 != bt416.2) = true then (none) else ((laws_vInts.f k bt412.1 bt416.1).bind fun t420 => (if t420 = true then (if bt412.2 = true then (laws_FnStowage.j0 k bt400.1 bt400.2.1 bt400.2.2 (decide ((bt412.1.length : Int) < bt400.2.1)) bt391.1 bt391.2.1 bt391.2.2.1) else (laws_FnStowage.j0 k bt400.1 bt400.2.1 bt400.2.2 false bt391.1 bt391.2.1 bt391.2.2.1)) else (none)))))))) else (none))) else (none)))))))) = some r := h
 clear h
 replace H := Option.bind_eq_some_iff.mp H
 obtain ⟨t390, A20, H⟩ := H
 replace H : (if t390 = true then (some true) else ((spec_DrawShiftedBoxes.f k l0).bind fun bt391 => ((impl_BestStowage.f k bt391.1 bt391.2.1 bt391.2.2.1).bind fun bt400 => ((spec_BestStowage.f k bt391.1 bt391.2.1 bt391.2.2.1).bind fun bt405 => (if (bt400.2.2 != bt405.2.2) = true then (none) else (if bt400.2.1 = bt405.2.1 then ((laws_vInts.f k bt400.1 bt405.1).bind fun t410 => (if t410 = true then ((impl_IsValidStowage.f bt391.1 bt391.2.1 bt391.2.2.1).bind fun t411 => (if (t411 != bt400.2.2) = true then (none) else ((impl_ShiftedBoxes.f k bt391.1 bt391.2.1 bt391.2.2.1 bt391.2.2.2).bind fun bt412 => ((spec_ShiftedBoxes.f k bt391.1 bt391.2.1 bt391.2.2.1 bt391.2.2.2).bind fun bt416 => (if (bt412.2 != bt416.2) = true then (none) else ((laws_vInts.f k bt412.1 bt416.1).bind fun t420 => (if t420 = true then (if bt412.2 = true then (laws_FnStowage.j0 k bt400.1 bt400.2.1 bt400.2.2 (decide ((bt412.1.length : Int) < bt400.2.1)) bt391.1 bt391.2.1 bt391.2.2.1) else (laws_FnStowage.j0 k bt400.1 bt400.2.1 bt400.2.2 false bt391.1 bt391.2.1 bt391.2.2.1)) else (none)))))))) else (none))) else (none))))))) = some r := H
 have A2 := Aside0.mk A20
 clear A20
 by_cases c3 : t390 = true
 ·subst c3
  have H1 : (some true) = some r := by rw [if_pos rfl] at H; exact H
  clear H
  have H := H1
  clear H1
  obtain rfl := Option.some.inj H
  go_enter Try.func4, Try.ntmps4
  go_wp2_with (first | ((with_reducible refine gate_callee (f := 5) rfl ?_); refine goesL_ (some 26) rfl rfl Try.func5 (by kernel_rfl) rfl #[.slice A0 l0.length c0] rfl gmp ?_; (with_reducible refine (laws_vBig.calls _ _ l0 true _ ?side1 ?side2 A2.out).mono ?_); (case side1 => exact cdl HR0.out); (case side2 => exact HC0.out); rintro e w' ⟨rfl, ⟨nd, rfl⟩⟩; refine ⟨_, rfl, ?_⟩))
  go_ret
  exact ⟨by first | rfl | (simp [errW_none, errW_some] <;> rfl) | (simp [*, errW_none, errW_some] <;> rfl), bel HB⟩
 replace c3 := Bool.eq_false_iff.mpr c3
 subst c3
 have H1 : ((spec_DrawShiftedBoxes.f k l0).bind fun bt391 => ((impl_BestStowage.f k bt391.1 bt391.2.1 bt391.2.2.1).bind fun bt400 => ((spec_BestStowage.f k bt391.1 bt391.2.1 bt391.2.2.1).bind fun bt405 => (if (bt400.2.2 != bt405.2.2) = true then (none) else (if bt400.2.1 = bt405.2.1 then ((laws_vInts.f k bt400.1 bt405.1).bind fun t410 => (if t410 = true then ((impl_IsValidStowage.f bt391.1 bt391.2.1 bt391.2.2.1).bind fun t411 => (if (t411 != bt400.2.2) = true then (none) else ((impl_ShiftedBoxes.f k bt391.1 bt391.2.1 bt391.2.2.1 bt391.2.2.2).bind fun bt412 => ((spec_ShiftedBoxes.f k bt391.1 bt391.2.1 bt391.2.2.1 bt391.2.2.2).bind fun bt416 => (if (bt412.2 != bt416.2) = true then (none) else ((laws_vInts.f k bt412.1 bt416.1).bind fun t420 => (if t420 = true then (if bt412.2 = true then (laws_FnStowage.j0 k bt400.1 bt400.2.1 bt400.2.2 (decide ((bt412.1.length : Int) < bt400.2.1)) bt391.1 bt391.2.1 bt391.2.2.1) else (laws_FnStowage.j0 k bt400.1 bt400.2.1 bt400.2.2 false bt391.1 bt391.2.1 bt391.2.2.1)) else (none)))))))) else (none))) else (none)))))) = some r := by rw [if_neg (show ¬ (false = true) by decide)] at H; exact H
 clear H
 have H := H1
 clear H1
 replace H := Option.bind_eq_some_iff.mp H
 obtain ⟨⟨t391, t392, t393, t396⟩, A40, H⟩ := H
 replace H : ((impl_BestStowage.f k t391 t392 t393).bind fun bt400 => ((spec_BestStowage.f k t391 t392 t393).bind fun bt405 => (if (bt400.2.2 != bt405.2.2) = true then (none) else (if bt400.2.1 = bt405.2.1 then ((laws_vInts.f k bt400.1 bt405.1).bind fun t410 => (if t410 = true then ((impl_IsValidStowage.f t391 t392 t393).bind fun t411 => (if (t411 != bt400.2.2) = true then (none) else ((impl_ShiftedBoxes.f k t391 t392 t393 t396).bind fun bt412 => ((spec_ShiftedBoxes.f k t391 t392 t393 t396).bind fun bt416 => (if (bt412.2 != bt416.2) = true then (none) else ((laws_vInts.f k bt412.1 bt416.1).bind fun t420 => (if t420 = true then (if bt412.2 = true then (laws_FnStowage.j0 k bt400.1 bt400.2.1 bt400.2.2 (decide ((bt412.1.length : Int) < bt400.2.1)) t391 t392 t393) else (laws_FnStowage.j0 k bt400.1 bt400.2.1 bt400.2.2 false t391 t392 t393)) else (none)))))))) else (none))) else (none))))) = some r := H
 have A4 := Aside0.mk A40
 clear A40
 replace H := Option.bind_eq_some_iff.mp H
 obtain ⟨⟨t400, t403, t404⟩, A50, H⟩ := H
 replace H : ((spec_BestStowage.f k t391 t392 t393).bind fun bt405 => (if (t404 != bt405.2.2) = true then (none) else (if t403 = bt405.2.1 then ((laws_vInts.f k t400 bt405.1).bind fun t410 => (if t410 = true then ((impl_IsValidStowage.f t391 t392 t393).bind fun t411 => (if (t411 != t404) = true then (none) else ((impl_ShiftedBoxes.f k t391 t392 t393 t396).bind fun bt412 => ((spec_ShiftedBoxes.f k t391 t392 t393 t396).bind fun bt416 => (if (bt412.2 != bt416.2) = true then (none) else ((laws_vInts.f k bt412.1 bt416.1).bind fun t420 => (if t420 = true then (if bt412.2 = true then (laws_FnStowage.j0 k t400 t403 t404 (decide ((bt412.1.length : Int) < t403)) t391 t392 t393) else (laws_FnStowage.j0 k t400 t403 t404 false t391 t392 t393)) else (none)))))))) else (none))) else (none)))) = some r := H
 have A5 := Aside0.mk A50
 clear A50
 replace H := Option.bind_eq_some_iff.mp H
 obtain ⟨⟨t405, t408, t409⟩, A60, H⟩ := H
 replace H : (if (t404 != t409) = true then (none) else (if t403 = t408 then ((laws_vInts.f k t400 t405).bind fun t410 => (if t410 = true then ((impl_IsValidStowage.f t391 t392 t393).bind fun t411 => (if (t411 != t404) = true then (none) else ((impl_ShiftedBoxes.f k t391 t392 t393 t396).bind fun bt412 => ((spec_ShiftedBoxes.f k t391 t392 t393 t396).bind fun bt416 => (if (bt412.2 != bt416.2) = true then (none) else ((laws_vInts.f k bt412.1 bt416.1).bind fun t420 => (if t420 = true then (if bt412.2 = true then (laws_FnStowage.j0 k t400 t403 t404 (decide ((bt412.1.length : Int) < t403)) t391 t392 t393) else (laws_FnStowage.j0 k t400 t403 t404 false t391 t392 t393)) else (none)))))))) else (none))) else (none))) = some r := H
 have A6 := Aside0.mk A60
 clear A60
 by_cases c7 : (t404 != t409) = true
 ·rw [if_pos c7] at H
  exact absurd H (by simp)
 rw [if_neg c7] at H
 have c7b0 : (t404 != t409) = false := by simpa using c7
 (try (have c7b1 : decide (t404 = t409) = true := by simpa using c7))
 (try (have c7b2 : (t404 == t409) = true := by simpa using c7))
 clear c7
 by_cases c8 : t403 = t408
 rotate_left
 ·rw [if_neg c8] at H
  exact absurd H (by simp)
 rw [if_pos c8] at H
 have c8b0 : (t403 == t408) = true := beq_iff_eq.mpr c8
 have c8b1 : (t403 != t408) = false := bne_eq_false_iff_eq.mpr c8
 clear c8
 replace H := Option.bind_eq_some_iff.mp H
 obtain ⟨t410, A90, H⟩ := H
 replace H : (if t410 = true then ((impl_IsValidStowage.f t391 t392 t393).bind fun t411 => (if (t411 != t404) = true then (none) else ((impl_ShiftedBoxes.f k t391 t392 t393 t396).bind fun bt412 => ((spec_ShiftedBoxes.f k t391 t392 t393 t396).bind fun bt416 => (if (bt412.2 != bt416.2) = true then (none) else ((laws_vInts.f k bt412.1 bt416.1).bind fun t420 => (if t420 = true then (if bt412.2 = true then (laws_FnStowage.j0 k t400 t403 t404 (decide ((bt412.1.length : Int) < t403)) t391 t392 t393) else (laws_FnStowage.j0 k t400 t403 t404 false t391 t392 t393)) else (none)))))))) else (none)) = some r := H
 have A9 := Aside0.mk A90
 clear A90
 by_cases c10 : t410 = true
 rotate_left
 ·replace c10 := Bool.eq_false_iff.mpr c10
  subst c10
  have H1 : (none) = some r := by rw [if_neg (show ¬ (false = true) by decide)] at H; exact H
  clear H
  have H := H1
  clear H1
  exact absurd H (by simp)
 subst c10
 have H1 : ((impl_IsValidStowage.f t391 t392 t393).bind fun t411 => (if (t411 != t404) = true then (none) else ((impl_ShiftedBoxes.f k t391 t392 t393 t396).bind fun bt412 => ((spec_ShiftedBoxes.f k t391 t392 t393 t396).bind fun bt416 => (if (bt412.2 != bt416.2) = true then (none) else ((laws_vInts.f k bt412.1 bt416.1).bind fun t420 => (if t420 = true then (if bt412.2 = true then (laws_FnStowage.j0 k t400 t403 t404 (decide ((bt412.1.length : Int) < t403)) t391 t392 t393) else (laws_FnStowage.j0 k t400 t403 t404 false t391 t392 t393)) else (none)))))))) = some r := by rw [if_pos rfl] at H; exact H
 clear H
 have H := H1
 clear H1
 replace H := Option.bind_eq_some_iff.mp H
 obtain ⟨t411, A110, H⟩ := H
 replace H : (if (t411 != t404) = true then (none) else ((impl_ShiftedBoxes.f k t391 t392 t393 t396).bind fun bt412 => ((spec_ShiftedBoxes.f k t391 t392 t393 t396).bind fun bt416 => (if (bt412.2 != bt416.2) = true then (none) else ((laws_vInts.f k bt412.1 bt416.1).bind fun t420 => (if t420 = true then (if bt412.2 = true then (laws_FnStowage.j0 k t400 t403 t404 (decide ((bt412.1.length : Int) < t403)) t391 t392 t393) else (laws_FnStowage.j0 k t400 t403 t404 false t391 t392 t393)) else (none))))))) = some r := H
 have A11 := Aside0.mk A110
 clear A110
 by_cases c12 : (t411 != t404) = true
 ·rw [if_pos c12] at H
  exact absurd H (by simp)
 rw [if_neg c12] at H
 have c12b0 : (t411 != t404) = false := by simpa using c12
 (try (have c12b1 : decide (t411 = t404) = true := by simpa using c12))
 (try (have c12b2 : (t411 == t404) = true := by simpa using c12))
 clear c12
 replace H := Option.bind_eq_some_iff.mp H
 obtain ⟨⟨t412, t415⟩, A130, H⟩ := H
 replace H : ((spec_ShiftedBoxes.f k t391 t392 t393 t396).bind fun bt416 => (if (t415 != bt416.2) = true then (none) else ((laws_vInts.f k t412 bt416.1).bind fun t420 => (if t420 = true then (if t415 = true then (laws_FnStowage.j0 k t400 t403 t404 (decide ((t412.length : Int) < t403)) t391 t392 t393) else (laws_FnStowage.j0 k t400 t403 t404 false t391 t392 t393)) else (none))))) = some r := H
 have A13 := Aside0.mk A130
 clear A130
 replace H := Option.bind_eq_some_iff.mp H
 obtain ⟨⟨t416, t419⟩, A140, H⟩ := H
 replace H : (if (t415 != t419) = true then (none) else ((laws_vInts.f k t412 t416).bind fun t420 => (if t420 = true then (if t415 = true then (laws_FnStowage.j0 k t400 t403 t404 (decide ((t412.length : Int) < t403)) t391 t392 t393) else (laws_FnStowage.j0 k t400 t403 t404 false t391 t392 t393)) else (none)))) = some r := H
 have A14 := Aside0.mk A140
 clear A140
 have HC15 := Aside0.mk H
 clear H
 go_enter Try.func4, Try.ntmps4
 go_upto_region 10 with (first | ((with_reducible refine gate_callee (f := 5) rfl ?_); refine goesL_ (some 26) rfl rfl Try.func5 (by kernel_rfl) rfl #[.slice A0 l0.length c0] rfl gmp ?_; (with_reducible refine (laws_vBig.calls _ _ l0 false _ ?side1 ?side2 A2.out).mono ?_); (case side1 => exact cdl HR0.out); (case side2 => exact HC0.out); rintro e w' ⟨rfl, ⟨nd, rfl⟩⟩; refine ⟨_, rfl, ?_⟩) | ((with_reducible refine gate_callee (f := 14) rfl ?_); refine goesL_ (some 29) rfl rfl Try.func14 (by kernel_rfl) rfl #[.slice A0 l0.length c0] rfl gmp ?_; (with_reducible refine (spec_DrawShiftedBoxes.calls k _ _ l0 t391 t392 t393 t396 _ ?side1 ?side2 A4.out).mono ?_); (case side1 => exact cdl HR0.out); (case side2 => exact HC0.out); rintro e w16 ⟨v394, v397, rfl, ho0, ho1, hb⟩; refine ⟨_, rfl, ?_⟩; have n0_ := Aside0.mk (Kd.R_lower ho0 (below_size (bel HB))); have n1_ := Aside0.mk (Kd.R_lower ho1 (below_size (bel HB))); have n2_ := Aside0.mk (below_step (bel HB) hb); clear HB; have HO395 := n0_; have HO398 := n1_; have HB := n2_; clear n0_ n1_ n2_; (try clear hb); (try clear hb2); (try clear hk); (try clear hi); (try clear ho0); (try clear ho1)) | ((with_reducible refine gate_dst (N := 3) rfl ?_); (try (refine gate_guard (by rfl) ?_; dsimp only)); refine box_event ?hg (N := 3) ?hd (cs := #[.int .i64 0, .int .i64 0, .slice none 0 0]) (t := 26) ?hr ?_; (case hd => rfl); (case hg => rfl); (case hr => first | (go_simp; done) | (go_simp; rfl)); intro gb399 hg w17 hbox hb; have n0_ := Aside0.mk (Kd.R_below (rdl HO395) hb); have n1_ := Aside0.mk (Kd.R_below (rdl HO398) hb); have n2_ := Aside0.mk (below_step (bel HB) hb); have n3_ := Aside0.mk (hbox); have n4_ := Aside0.mk ((by rw [hg]; exact (below_size (bel HB)) : w.heap.size ≤ gb399)); have n5_ := Aside0.mk ((by rw [hg]; exact (below_size (bel HB)) : w.heap.size ≤ gb399)); clear HO395; clear HO398; clear HB; have HO395 := n0_; have HO398 := n1_; have HB := n2_; have BK399 := n3_; have GW399 := n4_; have GE399 := n5_; clear n0_ n1_ n2_ n3_ n4_ n5_; clear hb hbox hg; have hcz18_0 : w17.cell? ⟨gb399, 0, none⟩ = some (.int .i64 0) := (blk_cell BK399.out 0).trans rfl; have hcz18_1 : w17.cell? ⟨gb399, 1, none⟩ = some (.int .i64 0) := (blk_cell BK399.out 1).trans rfl; have hcz18_2 : w17.cell? ⟨gb399, 2, none⟩ = some (.slice none 0 0) := (blk_cell BK399.out 2).trans rfl; have hfz18_0 := blk_frozen BK399.out 0; have hfz18_1 := blk_frozen BK399.out 1; have hfz18_2 := blk_frozen BK399.out 2; obtain ⟨Ao19, co19, eo19⟩ := Kd.R_slice HO395.out; subst eo19) | ((with_reducible refine gate_callee (f := 15) rfl ?_); refine goesL_ (some 34) rfl rfl Try.func15 (by kernel_rfl) rfl #[.agg #[.int .i64 t391, .int .i64 t392, .slice Ao19 t393.length co19]] rfl gmp ?_; (with_reducible refine (impl_BestStowage.calls k t391 t392 _ _ t393 t400 t403 t404 _ ?side1 ?side2 A5.out).mono ?_); (case side1 => refine (Kd.R_reads' (e := 3) (base := w.heap.size) (ok := fun k_ => some k_ ≠ (v397 : Value).ownBlock) (n := t393.length) (c := co19) ?_).2.2; exact (rdl (rf3 HO395 BK399 (.int .i64 t391) (.int .i64 t392) (.slice Ao19 t393.length co19)))); (case side2 => exact (Kd.R_reads' HO395.out).2.1); rintro e w20 ⟨v401, rfl, ho0, hb⟩; refine ⟨_, rfl, ?_⟩; have n0_ := Aside0.mk (Kd.R_elder' (rdl (rf3 HO395 BK399 (.int .i64 t391) (.int .i64 t392) (.slice Ao19 t393.length co19))) (Kd.R_base ho0) hb); have n1_ := Aside0.mk (Kd.R_elder' (rdl (rf3 HO398 BK399 (.int .i64 t391) (.int .i64 t392) (.slice Ao19 t393.length co19))) (Kd.R_base ho0) hb); have n2_ := Aside0.mk (Kd.R_lower (Kd.R_new' (Kd.R_new' ho0 (Kd.R_lt (rdl (rf3 HO395 BK399 (.int .i64 t391) (.int .i64 t392) (.slice Ao19 t393.length co19))))) (Kd.R_lt (rdl (rf3 HO398 BK399 (.int .i64 t391) (.int .i64 t392) (.slice Ao19 t393.length co19))))) (below_size (bel1 HB GE399))); have n3_ := Aside0.mk (blk_below (g := gb399) (o := .cells #[.int .i64 t391, .int .i64 t392, .slice Ao19 t393.length co19] 26 (0, 0)) (by (with_reducible repeat (first | refine blk_drewN ?_ _ | refine blk_drew ?_ | refine blk_alloc ?_ _)); refine blk_put (cs := #[.int .i64 t391, .int .i64 t392, .slice none 0 0]) ?_ 2 _ rfl; (with_reducible repeat (first | refine blk_drewN ?_ _ | refine blk_drew ?_ | refine blk_alloc ?_ _)); refine blk_put (cs := #[.int .i64 t391, .int .i64 0, .slice none 0 0]) ?_ 1 _ rfl; (with_reducible repeat (first | refine blk_drewN ?_ _ | refine blk_drew ?_ | refine blk_alloc ?_ _)); refine blk_put (cs := #[.int .i64 0, .int .i64 0, .slice none 0 0]) ?_ 0 _ rfl; (with_reducible repeat (first | refine blk_drewN ?_ _ | refine blk_drew ?_ | refine blk_alloc ?_ _)); exact BK399.out) hb); have n4_ := Aside0.mk (below_step (bel1 HB GE399) hb); clear HO395; clear HO398; clear BK399; clear HB; have HO395 := n0_; have HO398 := n1_; have HO402 := n2_; have BK399 := n3_; have HB := n4_; clear n0_ n1_ n2_ n3_ n4_; (try clear hb); (try clear hb2); (try clear hk); (try clear hi); (try clear ho0); have hcz21_0 : w20.cell? ⟨gb399, 0, none⟩ = some (.int .i64 t391) := (blk_cell BK399.out 0).trans rfl; have hcz21_1 : w20.cell? ⟨gb399, 1, none⟩ = some (.int .i64 t392) := (blk_cell BK399.out 1).trans rfl; have hcz21_2 : w20.cell? ⟨gb399, 2, none⟩ = some (.slice Ao19 t393.length co19) := (blk_cell BK399.out 2).trans rfl; have hfz21_0 := blk_frozen BK399.out 0; have hfz21_1 := blk_frozen BK399.out 1; have hfz21_2 := blk_frozen BK399.out 2) | ((with_reducible refine gate_callee (f := 16) rfl ?_); refine goesL_ (some 40) rfl rfl Try.func16 (by kernel_rfl) rfl #[.agg #[.int .i64 t391, .int .i64 t392, .slice Ao19 t393.length co19]] rfl gmp ?_; (with_reducible refine (spec_BestStowage.calls k t391 t392 _ _ t393 t405 t408 t409 _ ?side1 ?side2 A6.out).mono ?_); (case side1 => exact cdl (Kd.R_reads' HO395.out).2.2); (case side2 => exact (Kd.R_reads' HO395.out).2.1); rintro e w22 ⟨v406, rfl, ho0, hb⟩; refine ⟨_, rfl, ?_⟩; have n0_ := Aside0.mk (Kd.R_elder' (rdl HO395) (Kd.R_base ho0) hb); have n1_ := Aside0.mk (Kd.R_elder' (rdl HO398) (Kd.R_base ho0) hb); have n2_ := Aside0.mk (Kd.R_elder' (rdl HO402) (Kd.R_base ho0) hb); have n3_ := Aside0.mk (Kd.R_lower (Kd.R_new' (Kd.R_new' (Kd.R_new' ho0 (Kd.R_lt (rdl HO395))) (Kd.R_lt (rdl HO398))) (Kd.R_lt (rdl HO402))) (below_size (bel1 HB GE399))); have n4_ := Aside0.mk (blk_below (g := gb399) (o := .cells #[.int .i64 t391, .int .i64 t392, .slice Ao19 t393.length co19] 26 (0, 0)) (bkl BK399) hb); have n5_ := Aside0.mk (below_step (bel1 HB GE399) hb); clear HO395; clear HO398; clear HO402; clear BK399; clear HB; have HO395 := n0_; have HO398 := n1_; have HO402 := n2_; have HO407 := n3_; have BK399 := n4_; have HB := n5_; clear n0_ n1_ n2_ n3_ n4_ n5_; (try clear hb); (try clear hb2); (try clear hk); (try clear hi); (try clear ho0); obtain ⟨Ao23, co23, eo23⟩ := Kd.R_slice HO402.out; subst eo23; obtain ⟨Ao24, co24, eo24⟩ := Kd.R_slice HO407.out; subst eo24) | (go_at_call 9; (with_reducible refine (laws_vInts.calls k _ _ t400 _ _ t405 true _ ?side1 ?side2 ?side3 ?side4 A9.out).mono ?_); (case side1 => exact cdl (Kd.R_reads' HO402.out).2.2); (case side2 => exact (Kd.R_reads' HO402.out).2.1); (case side3 => exact cdl (Kd.R_reads' HO407.out).2.2); (case side4 => exact (Kd.R_reads' HO407.out).2.1); rintro e w' ⟨rfl, ⟨nd, rfl⟩⟩; have hcz25_0 : w22.cell? ⟨gb399, 0, none⟩ = some (.int .i64 t391) := (blk_cell BK399.out 0).trans rfl; have hcz25_1 : w22.cell? ⟨gb399, 1, none⟩ = some (.int .i64 t392) := (blk_cell BK399.out 1).trans rfl; have hcz25_2 : w22.cell? ⟨gb399, 2, none⟩ = some (.slice Ao19 t393.length co19) := (blk_cell BK399.out 2).trans rfl; have hfz25_0 := blk_frozen BK399.out 0; have hfz25_1 := blk_frozen BK399.out 1; have hfz25_2 := blk_frozen BK399.out 2) | (go_at_call 17; (with_reducible refine (impl_IsValidStowage.calls t391 t392 _ _ t393 t411 _ ?side1 ?side2 A11.out).mono ?_); (case side1 => exact cdl (Kd.R_reads' HO395.out).2.2); (case side2 => exact (Kd.R_reads' HO395.out).2.1); rintro e w26 ⟨rfl, hb⟩; have n0_ := Aside0.mk (Kd.R_below (rdl HO395) hb); have n1_ := Aside0.mk (Kd.R_below (rdl HO398) hb); have n2_ := Aside0.mk (Kd.R_below (rdl HO402) hb); have n3_ := Aside0.mk (Kd.R_below (rdl HO407) hb); have n4_ := Aside0.mk (blk_below (g := gb399) (o := .cells #[.int .i64 t391, .int .i64 t392, .slice Ao19 t393.length co19] 26 (0, 0)) (bkl BK399) hb); have n5_ := Aside0.mk (below_step (bel1 HB GE399) hb); clear HO395; clear HO398; clear HO402; clear HO407; clear BK399; clear HB; have HO395 := n0_; have HO398 := n1_; have HO402 := n2_; have HO407 := n3_; have BK399 := n4_; have HB := n5_; clear n0_ n1_ n2_ n3_ n4_ n5_; (try clear hb); (try clear hb2); (try clear hk); (try clear hi); have hcz27_0 : w26.cell? ⟨gb399, 0, none⟩ = some (.int .i64 t391) := (blk_cell BK399.out 0).trans rfl; have hcz27_1 : w26.cell? ⟨gb399, 1, none⟩ = some (.int .i64 t392) := (blk_cell BK399.out 1).trans rfl; have hcz27_2 : w26.cell? ⟨gb399, 2, none⟩ = some (.slice Ao19 t393.length co19) := (blk_cell BK399.out 2).trans rfl; have hfz27_0 := blk_frozen BK399.out 0; have hfz27_1 := blk_frozen BK399.out 1; have hfz27_2 := blk_frozen BK399.out 2; obtain ⟨Ao28, co28, eo28⟩ := Kd.R_slice HO398.out; subst eo28) | ((with_reducible refine gate_callee (f := 10) rfl ?_); refine goesL_ (some 67) rfl rfl Try.func10 (by kernel_rfl) rfl #[.agg #[.int .i64 t391, .int .i64 t392, .slice Ao19 t393.length co19], .slice Ao28 t396.length co28] rfl gmp ?_; (with_reducible refine (impl_ShiftedBoxes.calls k t391 t392 _ _ t393 _ _ t396 t412 t415 _ ?side1 ?side2 ?side3 ?side4 A13.out).mono ?_); (case side1 => exact cdl (Kd.R_reads' HO395.out).2.2); (case side2 => exact (Kd.R_reads' HO395.out).2.1); (case side3 => exact cdl (Kd.R_reads' HO398.out).2.2); (case side4 => exact (Kd.R_reads' HO398.out).2.1); rintro e w29 ⟨v413, rfl, ho0, hb⟩; refine ⟨_, rfl, ?_⟩; have n0_ := Aside0.mk (Kd.R_elder' (rdl HO395) (Kd.R_base ho0) hb); have n1_ := Aside0.mk (Kd.R_elder' (rdl HO398) (Kd.R_base ho0) hb); have n2_ := Aside0.mk (Kd.R_elder' (rdl HO402) (Kd.R_base ho0) hb); have n3_ := Aside0.mk (Kd.R_elder' (rdl HO407) (Kd.R_base ho0) hb); have n4_ := Aside0.mk (Kd.R_lower (Kd.R_new' (Kd.R_new' (Kd.R_new' (Kd.R_new' ho0 (Kd.R_lt (rdl HO395))) (Kd.R_lt (rdl HO398))) (Kd.R_lt (rdl HO402))) (Kd.R_lt (rdl HO407))) (below_size (bel1 HB GE399))); have n5_ := Aside0.mk (blk_below (g := gb399) (o := .cells #[.int .i64 t391, .int .i64 t392, .slice Ao19 t393.length co19] 26 (0, 0)) (bkl BK399) hb); have n6_ := Aside0.mk (below_step (bel1 HB GE399) hb); clear HO395; clear HO398; clear HO402; clear HO407; clear BK399; clear HB; have HO395 := n0_; have HO398 := n1_; have HO402 := n2_; have HO407 := n3_; have HO414 := n4_; have BK399 := n5_; have HB := n6_; clear n0_ n1_ n2_ n3_ n4_ n5_ n6_; (try clear hb); (try clear hb2); (try clear hk); (try clear hi); (try clear ho0); have hcz30_0 : w29.cell? ⟨gb399, 0, none⟩ = some (.int .i64 t391) := (blk_cell BK399.out 0).trans rfl; have hcz30_1 : w29.cell? ⟨gb399, 1, none⟩ = some (.int .i64 t392) := (blk_cell BK399.out 1).trans rfl; have hcz30_2 : w29.cell? ⟨gb399, 2, none⟩ = some (.slice Ao19 t393.length co19) := (blk_cell BK399.out 2).trans rfl; have hfz30_0 := blk_frozen BK399.out 0; have hfz30_1 := blk_frozen BK399.out 1; have hfz30_2 := blk_frozen BK399.out 2) | ((with_reducible refine gate_callee (f := 18) rfl ?_); refine goesL_ (some 73) rfl rfl Try.func18 (by kernel_rfl) rfl #[.agg #[.int .i64 t391, .int .i64 t392, .slice Ao19 t393.length co19], .slice Ao28 t396.length co28] rfl gmp ?_; (with_reducible refine (spec_ShiftedBoxes.calls k t391 t392 _ _ t393 _ _ t396 t416 t419 _ ?side1 ?side2 ?side3 ?side4 A14.out).mono ?_); (case side1 => exact cdl (Kd.R_reads' HO395.out).2.2); (case side2 => exact (Kd.R_reads' HO395.out).2.1); (case side3 => exact cdl (Kd.R_reads' HO398.out).2.2); (case side4 => exact (Kd.R_reads' HO398.out).2.1); rintro e w31 ⟨v417, rfl, ho0, hb⟩; refine ⟨_, rfl, ?_⟩; have n0_ := Aside0.mk (Kd.R_below (rdl HO395) hb); have n1_ := Aside0.mk (Kd.R_below (rdl HO398) hb); have n2_ := Aside0.mk (Kd.R_below (rdl HO402) hb); have n3_ := Aside0.mk (Kd.R_below (rdl HO407) hb); have n4_ := Aside0.mk (Kd.R_below (rdl HO414) hb); have n5_ := Aside0.mk (Kd.V_lower (Kd.V_mono (ok' := fun k_ => some k_ ≠ (.slice Ao19 t393.length co19 : Value).ownBlock ∧ some k_ ≠ (.slice Ao28 t396.length co28 : Value).ownBlock ∧ some k_ ≠ (.slice Ao23 t400.length co23 : Value).ownBlock ∧ some k_ ≠ (.slice Ao24 t405.length co24 : Value).ownBlock ∧ some k_ ≠ (v413 : Value).ownBlock ∧ k_ ≠ gb399) ho0 (fun k_ hk_ => ⟨(Kd.fresh' (Kd.R_lt (rdl HO395)) k_ hk_), (Kd.fresh' (Kd.R_lt (rdl HO398)) k_ hk_), (Kd.fresh' (Kd.R_lt (rdl HO402)) k_ hk_), (Kd.fresh' (Kd.R_lt (rdl HO407)) k_ hk_), (Kd.fresh' (Kd.R_lt (rdl HO414)) k_ hk_), (Kd.freshB (g := gb399) (o := .cells #[.int .i64 t391, .int .i64 t392, .slice Ao19 t393.length co19] 26 (0, 0)) (bkl BK399) k_ hk_)⟩)) (below_size (bel1 HB GE399))); have n6_ := Aside0.mk (blk_below (g := gb399) (o := .cells #[.int .i64 t391, .int .i64 t392, .slice Ao19 t393.length co19] 26 (0, 0)) (bkl BK399) hb); have n7_ := Aside0.mk (below_step (bel1 HB GE399) hb); clear HO395; clear HO398; clear HO402; clear HO407; clear HO414; clear BK399; clear HB; have HO395 := n0_; have HO398 := n1_; have HO402 := n2_; have HO407 := n3_; have HO414 := n4_; have HO418 := n5_; have BK399 := n6_; have HB := n7_; clear n0_ n1_ n2_ n3_ n4_ n5_ n6_ n7_; (try clear hb); (try clear hb2); (try clear hk); (try clear hi); (try clear ho0)))
 (try simp only [Act.put, List.setIfInBounds_toArray, List.set_cons_zero, List.set_cons_succ])
 go_cut [93] (fun v93 wc => ∃ (kq : Nat) (x93_14 : Bool), v93 = .bool x93_14 ∧ Aside0 (laws_FnStowage.j0 kq t400 t403 t404 x93_14 t391 t392 t393 = some r) ∧ Aside0 (kq ≤ k) ∧ Aside0 (Kd.R (Kd.int .i64) 3 wc w.heap.size (fun k_ => some k_ ≠ ((.slice Ao19 t393.length co19) : Value).ownBlock) (.slice Ao23 t400.length co23) t400) ∧ Aside0 (Kd.R (Kd.int .i64) 3 wc w.heap.size (fun k_ => some k_ ≠ ((.slice Ao23 t400.length co23) : Value).ownBlock) (.slice Ao19 t393.length co19) t393) ∧ Aside0 (wc.heap[gb399]? = some (.cells #[.int .i64 t391, .int .i64 t392, (.slice Ao19 t393.length co19)] 26 (0, 0))) ∧ Aside0 (Below w.heap.size w wc))
 case first =>
  have H := HC15.out
  clear HC15
  by_cases c32 : (t415 != t419) = true
  ·rw [if_pos c32] at H
   exact absurd H (by simp)
  rw [if_neg c32] at H
  have c32b0 : (t415 != t419) = false := by simpa using c32
  (try (have c32b1 : decide (t415 = t419) = true := by simpa using c32))
  (try (have c32b2 : (t415 == t419) = true := by simpa using c32))
  clear c32
  (first | rw [c32b0] | (simp only [i64_w, i32_w]; rw [c32b0]) | skip)
  replace H := Option.bind_eq_some_iff.mp H
  obtain ⟨t420, A330, H⟩ := H
  replace H : (if t420 = true then (if t415 = true then (laws_FnStowage.j0 k t400 t403 t404 (decide ((t412.length : Int) < t403)) t391 t392 t393) else (laws_FnStowage.j0 k t400 t403 t404 false t391 t392 t393)) else (none)) = some r := H
  have A33 := Aside0.mk A330
  clear A330
  by_cases c34 : t420 = true
  rotate_left
  ·replace c34 := Bool.eq_false_iff.mpr c34
   subst c34
   have H1 : (none) = some r := by rw [if_neg (show ¬ (false = true) by decide)] at H; exact H
   clear H
   have H := H1
   clear H1
   exact absurd H (by simp)
  subst c34
  have H1 : (if t415 = true then (laws_FnStowage.j0 k t400 t403 t404 (decide ((t412.length : Int) < t403)) t391 t392 t393) else (laws_FnStowage.j0 k t400 t403 t404 false t391 t392 t393)) = some r := by rw [if_pos rfl] at H; exact H
  clear H
  have H := H1
  clear H1
  by_cases c35 : t415 = true
  ·subst c35
   have H1 : (laws_FnStowage.j0 k t400 t403 t404 (decide ((t412.length : Int) < t403)) t391 t392 t393) = some r := by rw [if_pos rfl] at H; exact H
   clear H
   have H := H1
   clear H1
   have H' := Aside0.mk H
   clear H
   obtain ⟨Ao36, co36, eo36⟩ := Kd.R_slice HO414.out
   subst eo36
   obtain ⟨Ao37, co37, eo37⟩ := Kd.V_slice HO418.out
   subst eo37
   go_wp2_with (first | (go_at_call 9; (with_reducible refine (laws_vInts.calls k _ _ t412 _ _ t416 true _ ?side1 ?side2 ?side3 ?side4 A33.out).mono ?_); (case side1 => exact cdl (Kd.R_reads' HO414.out).2.2); (case side2 => exact (Kd.R_reads' HO414.out).2.1); (case side3 => exact cdl (Kd.V_reads' HO418.out).2.2); (case side4 => exact (Kd.V_reads' HO418.out).2.1); rintro e w' ⟨rfl, ⟨nd, rfl⟩⟩))
   go_meet
   case rel => exact ⟨_, (decide ((t412.length : Int) < t403)), (by first | rfl | (simp; done) | (simp [*]; done)), H', ⟨by first | omega | exact Nat.le_refl _⟩, ⟨by (with_reducible repeat (first | apply Kd.R_alloc | apply Kd.R_drewN | apply Kd.R_drew)); exact Kd.R_mono HO402.out (fun _ hk => hk.1.1.1.2)⟩, ⟨by (with_reducible repeat (first | apply Kd.R_alloc | apply Kd.R_drewN | apply Kd.R_drew)); exact Kd.R_mono HO395.out (fun _ hk => hk.1.1.2)⟩, ⟨bkl BK399⟩, ⟨bel1 HB GE399⟩⟩
  replace c35 := Bool.eq_false_iff.mpr c35
  subst c35
  have H1 : (laws_FnStowage.j0 k t400 t403 t404 false t391 t392 t393) = some r := by rw [if_neg (show ¬ (false = true) by decide)] at H; exact H
  clear H
  have H := H1
  clear H1
  have H' := Aside0.mk H
  clear H
  obtain ⟨Ao38, co38, eo38⟩ := Kd.R_slice HO414.out
  subst eo38
  obtain ⟨Ao39, co39, eo39⟩ := Kd.V_slice HO418.out
  subst eo39
  go_wp2_with (first | (go_at_call 9; (with_reducible refine (laws_vInts.calls k _ _ t412 _ _ t416 true _ ?side1 ?side2 ?side3 ?side4 A33.out).mono ?_); (case side1 => exact cdl (Kd.R_reads' HO414.out).2.2); (case side2 => exact (Kd.R_reads' HO414.out).2.1); (case side3 => exact cdl (Kd.V_reads' HO418.out).2.2); (case side4 => exact (Kd.V_reads' HO418.out).2.1); rintro e w' ⟨rfl, ⟨nd, rfl⟩⟩))
  go_meet
  case rel => exact ⟨_, (false), (by first | rfl | (simp; done) | (simp [*]; done)), H', ⟨by first | omega | exact Nat.le_refl _⟩, ⟨by (with_reducible repeat (first | apply Kd.R_alloc | apply Kd.R_drewN | apply Kd.R_drew)); exact Kd.R_mono HO402.out (fun _ hk => hk.1.1.1.2)⟩, ⟨by (with_reducible repeat (first | apply Kd.R_alloc | apply Kd.R_drewN | apply Kd.R_drew)); exact Kd.R_mono HO395.out (fun _ hk => hk.1.1.2)⟩, ⟨bkl BK399⟩, ⟨bel1 HB GE399⟩⟩
 clear HC15
 try clear c1
 try clear p2
 try clear c3
 try clear c4
 try clear c5
 try clear c7
 try clear c7b0
 try clear c7b1
 try clear c7b2
 try clear c8
 try clear c8b0
 try clear c8b1
 try clear c10
 try clear c12
 try clear c12b0
 try clear c12b1
 try clear c12b2
 try clear c14
 try clear c15
 try clear c16
 try clear c18
 try clear c32
 try clear c32b0
 try clear c32b1
 try clear c32b2
 try clear c34
 try clear c35
 try clear hcz18_0
 try clear hcz18_1
 try clear hcz18_2
 try clear hcz21_0
 try clear hcz21_1
 try clear hcz21_2
 try clear hcz25_0
 try clear hcz25_1
 try clear hcz25_2
 try clear hcz27_0
 try clear hcz27_1
 try clear hcz27_2
 try clear hcz30_0
 try clear hcz30_1
 try clear hcz30_2
 try clear hfz18_0
 try clear hfz18_1
 try clear hfz18_2
 try clear hfz21_0
 try clear hfz21_1
 try clear hfz21_2
 try clear hfz25_0
 try clear hfz25_1
 try clear hfz25_2
 try clear hfz27_0
 try clear hfz27_1
 try clear hfz27_2
 try clear hfz30_0
 try clear hfz30_1
 try clear hfz30_2
 obtain ⟨kq, x93_14, rfl, HA, HJ14, HO_5, HO_400002, BK399, HB⟩ := hcut
 cases kq with
 | zero => exact absurd HA.out (by simp [laws_FnStowage.j0])
 | succ kj14 =>
  have H := HA.out
  clear HA
  simp only [laws_FnStowage.j0] at H
  by_cases c40 : x93_14 = true
  ·subst c40
   have H1 : (none) = some r := by rw [if_pos rfl] at H; exact H
   clear H
   have H := H1
   clear H1
   exact absurd H (by simp)
  replace c40 := Bool.eq_false_iff.mpr c40
  subst c40
  have H1 : ((impl_GreedyStowage.f t391 t392 t393).bind fun bt421 => ((spec_GreedyStowage.f kj14 t391 t392 t393).bind fun bt426 => (if (bt421.2.2 != bt426.2.2) = true then (none) else (if bt421.2.1 = bt426.2.1 then ((laws_vInts.f kj14 bt421.1 bt426.1).bind fun t431 => (if t431 = true then (if (bt421.2.2 != t404) = true then (none) else (if bt421.2.1 < t403 then (none) else (if t404 = true then ((impl_ShiftedBoxes.f kj14 t391 t392 t393 t400).bind fun bt432 => ((impl_PlanBay.f kj14 t391 t392 t393 t400).bind fun bt436 => (if bt432.2 = true then (if (bt432.1.length : Int) = t403 then (if bt436.2.2 = true then ((impl_IsValidBay.f bt436.1 bt436.2.1).bind fun t442 => (if t442 = true then (some ((bt436.2.1.length : Int) == t391)) else (none))) else (none)) else (none)) else (none)))) else (some ((t400.length : Int) == 0))))) else (none))) else (none))))) = some r := by rw [if_neg (show ¬ (false = true) by decide)] at H; exact H
  clear H
  have H := H1
  clear H1
  replace H := Option.bind_eq_some_iff.mp H
  obtain ⟨⟨t421, t424, t425⟩, A410, H⟩ := H
  replace H : ((spec_GreedyStowage.f kj14 t391 t392 t393).bind fun bt426 => (if (t425 != bt426.2.2) = true then (none) else (if t424 = bt426.2.1 then ((laws_vInts.f kj14 t421 bt426.1).bind fun t431 => (if t431 = true then (if (t425 != t404) = true then (none) else (if t424 < t403 then (none) else (if t404 = true then ((impl_ShiftedBoxes.f kj14 t391 t392 t393 t400).bind fun bt432 => ((impl_PlanBay.f kj14 t391 t392 t393 t400).bind fun bt436 => (if bt432.2 = true then (if (bt432.1.length : Int) = t403 then (if bt436.2.2 = true then ((impl_IsValidBay.f bt436.1 bt436.2.1).bind fun t442 => (if t442 = true then (some ((bt436.2.1.length : Int) == t391)) else (none))) else (none)) else (none)) else (none)))) else (some ((t400.length : Int) == 0))))) else (none))) else (none)))) = some r := H
  have A41 := Aside0.mk A410
  clear A410
  replace H := Option.bind_eq_some_iff.mp H
  obtain ⟨⟨t426, t429, t430⟩, A420, H⟩ := H
  replace H : (if (t425 != t430) = true then (none) else (if t424 = t429 then ((laws_vInts.f kj14 t421 t426).bind fun t431 => (if t431 = true then (if (t425 != t404) = true then (none) else (if t424 < t403 then (none) else (if t404 = true then ((impl_ShiftedBoxes.f kj14 t391 t392 t393 t400).bind fun bt432 => ((impl_PlanBay.f kj14 t391 t392 t393 t400).bind fun bt436 => (if bt432.2 = true then (if (bt432.1.length : Int) = t403 then (if bt436.2.2 = true then ((impl_IsValidBay.f bt436.1 bt436.2.1).bind fun t442 => (if t442 = true then (some ((bt436.2.1.length : Int) == t391)) else (none))) else (none)) else (none)) else (none)))) else (some ((t400.length : Int) == 0))))) else (none))) else (none))) = some r := H
  have A42 := Aside0.mk A420
  clear A420
  by_cases c43 : (t425 != t430) = true
  ·rw [if_pos c43] at H
   exact absurd H (by simp)
  rw [if_neg c43] at H
  have c43b0 : (t425 != t430) = false := by simpa using c43
  (try (have c43b1 : decide (t425 = t430) = true := by simpa using c43))
  (try (have c43b2 : (t425 == t430) = true := by simpa using c43))
  clear c43
  by_cases c44 : t424 = t429
  rotate_left
  ·rw [if_neg c44] at H
   exact absurd H (by simp)
  rw [if_pos c44] at H
  have c44b0 : (t424 == t429) = true := beq_iff_eq.mpr c44
  have c44b1 : (t424 != t429) = false := bne_eq_false_iff_eq.mpr c44
  clear c44
  replace H := Option.bind_eq_some_iff.mp H
  obtain ⟨t431, A450, H⟩ := H
  replace H : (if t431 = true then (if (t425 != t404) = true then (none) else (if t424 < t403 then (none) else (if t404 = true then ((impl_ShiftedBoxes.f kj14 t391 t392 t393 t400).bind fun bt432 => ((impl_PlanBay.f kj14 t391 t392 t393 t400).bind fun bt436 => (if bt432.2 = true then (if (bt432.1.length : Int) = t403 then (if bt436.2.2 = true then ((impl_IsValidBay.f bt436.1 bt436.2.1).bind fun t442 => (if t442 = true then (some ((bt436.2.1.length : Int) == t391)) else (none))) else (none)) else (none)) else (none)))) else (some ((t400.length : Int) == 0))))) else (none)) = some r := H
  have A45 := Aside0.mk A450
  clear A450
  by_cases c46 : t431 = true
  rotate_left
  ·replace c46 := Bool.eq_false_iff.mpr c46
   subst c46
   have H1 : (none) = some r := by rw [if_neg (show ¬ (false = true) by decide)] at H; exact H
   clear H
   have H := H1
   clear H1
   exact absurd H (by simp)
  subst c46
  have H1 : (if (t425 != t404) = true then (none) else (if t424 < t403 then (none) else (if t404 = true then ((impl_ShiftedBoxes.f kj14 t391 t392 t393 t400).bind fun bt432 => ((impl_PlanBay.f kj14 t391 t392 t393 t400).bind fun bt436 => (if bt432.2 = true then (if (bt432.1.length : Int) = t403 then (if bt436.2.2 = true then ((impl_IsValidBay.f bt436.1 bt436.2.1).bind fun t442 => (if t442 = true then (some ((bt436.2.1.length : Int) == t391)) else (none))) else (none)) else (none)) else (none)))) else (some ((t400.length : Int) == 0))))) = some r := by rw [if_pos rfl] at H; exact H
  clear H
  have H := H1
  clear H1
  by_cases c47 : (t425 != t404) = true
  ·rw [if_pos c47] at H
   exact absurd H (by simp)
  rw [if_neg c47] at H
  have c47b0 : (t425 != t404) = false := by simpa using c47
  (try (have c47b1 : decide (t425 = t404) = true := by simpa using c47))
  (try (have c47b2 : (t425 == t404) = true := by simpa using c47))
  clear c47
  by_cases c48 : t424 < t403
  ·rw [if_pos c48] at H
   exact absurd H (by simp)
  rw [if_neg c48] at H
  have c48b0 : decide (t424 < t403) = false := decide_eq_false c48
  clear c48
  by_cases c49 : t404 = true
  rotate_left
  ·replace c49 := Bool.eq_false_iff.mpr c49
   subst c49
   have H1 : (some ((t400.length : Int) == 0)) = some r := by rw [if_neg (show ¬ (false = true) by decide)] at H; exact H
   clear H
   have H := H1
   clear H1
   obtain rfl := Option.some.inj H
   have hcz75_0 : wc.cell? ⟨gb399, 0, none⟩ = some (.int .i64 t391) := (blk_cell BK399.out 0).trans rfl
   have hcz75_1 : wc.cell? ⟨gb399, 1, none⟩ = some (.int .i64 t392) := (blk_cell BK399.out 1).trans rfl
   have hcz75_2 : wc.cell? ⟨gb399, 2, none⟩ = some (.slice Ao19 t393.length co19) := (blk_cell BK399.out 2).trans rfl
   have hfz75_0 := blk_frozen BK399.out 0
   have hfz75_1 := blk_frozen BK399.out 1
   have hfz75_2 := blk_frozen BK399.out 2
   go_wp2_with (first | ((with_reducible refine gate_callee (f := 19) rfl ?_); refine goesL_ (some 96) rfl rfl Try.func19 (by kernel_rfl) rfl #[.agg #[.int .i64 t391, .int .i64 t392, .slice Ao19 t393.length co19]] rfl gmp ?_; (with_reducible refine (impl_GreedyStowage.calls t391 t392 _ _ t393 t421 t424 t425 _ ?side1 ?side2 A41.out).mono ?_); (case side1 => exact cdl (Kd.R_reads' HO_400002.out).2.2); (case side2 => exact (Kd.R_reads' HO_400002.out).2.1); rintro e w76 ⟨v422, rfl, ho0, hb⟩; refine ⟨_, rfl, ?_⟩; have n0_ := Aside0.mk (Kd.R_elder' (rdl HO_5) (Kd.R_base ho0) hb); have n1_ := Aside0.mk (Kd.R_elder' (rdl HO_400002) (Kd.R_base ho0) hb); have n2_ := Aside0.mk (Kd.R_lower (Kd.R_new' (Kd.R_new' ho0 (Kd.R_lt (rdl HO_5))) (Kd.R_lt (rdl HO_400002))) (below_size (bel1 HB GE399))); have n3_ := Aside0.mk (blk_below (g := gb399) (o := .cells #[.int .i64 t391, .int .i64 t392, .slice Ao19 t393.length co19] 26 (0, 0)) (bkl BK399) hb); have n4_ := Aside0.mk (below_step (bel1 HB GE399) hb); clear HO_5; clear HO_400002; clear BK399; clear HB; have HO_5 := n0_; have HO_400002 := n1_; have HO423 := n2_; have BK399 := n3_; have HB := n4_; clear n0_ n1_ n2_ n3_ n4_; (try clear hb); (try clear hb2); (try clear hk); (try clear hi); (try clear ho0); have hcz77_0 : w76.cell? ⟨gb399, 0, none⟩ = some (.int .i64 t391) := (blk_cell BK399.out 0).trans rfl; have hcz77_1 : w76.cell? ⟨gb399, 1, none⟩ = some (.int .i64 t392) := (blk_cell BK399.out 1).trans rfl; have hcz77_2 : w76.cell? ⟨gb399, 2, none⟩ = some (.slice Ao19 t393.length co19) := (blk_cell BK399.out 2).trans rfl; have hfz77_0 := blk_frozen BK399.out 0; have hfz77_1 := blk_frozen BK399.out 1; have hfz77_2 := blk_frozen BK399.out 2) | ((with_reducible refine gate_callee (f := 20) rfl ?_); refine goesL_ (some 102) rfl rfl Try.func20 (by kernel_rfl) rfl #[.agg #[.int .i64 t391, .int .i64 t392, .slice Ao19 t393.length co19]] rfl gmp ?_; (with_reducible refine (spec_GreedyStowage.calls kj14 t391 t392 _ _ t393 t426 t429 t430 _ ?side1 ?side2 A42.out).mono ?_); (case side1 => exact cdl (Kd.R_reads' HO_400002.out).2.2); (case side2 => exact (Kd.R_reads' HO_400002.out).2.1); rintro e w78 ⟨v427, rfl, ho0, hb⟩; refine ⟨_, rfl, ?_⟩; have n0_ := Aside0.mk (Kd.R_elder' (rdl HO_5) (Kd.R_base ho0) hb); have n1_ := Aside0.mk (Kd.R_elder' (rdl HO_400002) (Kd.R_base ho0) hb); have n2_ := Aside0.mk (Kd.R_elder' (rdl HO423) (Kd.R_base ho0) hb); have n3_ := Aside0.mk (Kd.R_lower (Kd.R_new' (Kd.R_new' (Kd.R_new' ho0 (Kd.R_lt (rdl HO_5))) (Kd.R_lt (rdl HO_400002))) (Kd.R_lt (rdl HO423))) (below_size (bel1 HB GE399))); have n4_ := Aside0.mk (blk_below (g := gb399) (o := .cells #[.int .i64 t391, .int .i64 t392, .slice Ao19 t393.length co19] 26 (0, 0)) (bkl BK399) hb); have n5_ := Aside0.mk (below_step (bel1 HB GE399) hb); clear HO_5; clear HO_400002; clear HO423; clear BK399; clear HB; have HO_5 := n0_; have HO_400002 := n1_; have HO423 := n2_; have HO428 := n3_; have BK399 := n4_; have HB := n5_; clear n0_ n1_ n2_ n3_ n4_ n5_; (try clear hb); (try clear hb2); (try clear hk); (try clear hi); (try clear ho0); obtain ⟨Ao79, co79, eo79⟩ := Kd.R_slice HO423.out; subst eo79; obtain ⟨Ao80, co80, eo80⟩ := Kd.R_slice HO428.out; subst eo80) | (go_at_call 9; (with_reducible refine (laws_vInts.calls kj14 _ _ t421 _ _ t426 true _ ?side1 ?side2 ?side3 ?side4 A45.out).mono ?_); (case side1 => exact cdl (Kd.R_reads' HO423.out).2.2); (case side2 => exact (Kd.R_reads' HO423.out).2.1); (case side3 => exact cdl (Kd.R_reads' HO428.out).2.2); (case side4 => exact (Kd.R_reads' HO428.out).2.1); rintro e w' ⟨rfl, ⟨nd, rfl⟩⟩))
   go_ret
   exact ⟨by first | rfl | (simp [errW_none, errW_some] <;> rfl) | (simp [*, errW_none, errW_some] <;> rfl), bel1 HB GE399⟩
  subst c49
  have H1 : ((impl_ShiftedBoxes.f kj14 t391 t392 t393 t400).bind fun bt432 => ((impl_PlanBay.f kj14 t391 t392 t393 t400).bind fun bt436 => (if bt432.2 = true then (if (bt432.1.length : Int) = t403 then (if bt436.2.2 = true then ((impl_IsValidBay.f bt436.1 bt436.2.1).bind fun t442 => (if t442 = true then (some ((bt436.2.1.length : Int) == t391)) else (none))) else (none)) else (none)) else (none)))) = some r := by rw [if_pos rfl] at H; exact H
  clear H
  have H := H1
  clear H1
  replace H := Option.bind_eq_some_iff.mp H
  obtain ⟨⟨t432, t435⟩, A500, H⟩ := H
  replace H : ((impl_PlanBay.f kj14 t391 t392 t393 t400).bind fun bt436 => (if t435 = true then (if (t432.length : Int) = t403 then (if bt436.2.2 = true then ((impl_IsValidBay.f bt436.1 bt436.2.1).bind fun t442 => (if t442 = true then (some ((bt436.2.1.length : Int) == t391)) else (none))) else (none)) else (none)) else (none))) = some r := H
  have A50 := Aside0.mk A500
  clear A500
  replace H := Option.bind_eq_some_iff.mp H
  obtain ⟨⟨t436, t437, t440⟩, A510, H⟩ := H
  replace H : (if t435 = true then (if (t432.length : Int) = t403 then (if t440 = true then ((impl_IsValidBay.f t436 t437).bind fun t442 => (if t442 = true then (some ((t437.length : Int) == t391)) else (none))) else (none)) else (none)) else (none)) = some r := H
  have A51 := Aside0.mk A510
  clear A510
  by_cases c52 : t435 = true
  rotate_left
  ·replace c52 := Bool.eq_false_iff.mpr c52
   subst c52
   have H1 : (none) = some r := by rw [if_neg (show ¬ (false = true) by decide)] at H; exact H
   clear H
   have H := H1
   clear H1
   exact absurd H (by simp)
  subst c52
  have H1 : (if (t432.length : Int) = t403 then (if t440 = true then ((impl_IsValidBay.f t436 t437).bind fun t442 => (if t442 = true then (some ((t437.length : Int) == t391)) else (none))) else (none)) else (none)) = some r := by rw [if_pos rfl] at H; exact H
  clear H
  have H := H1
  clear H1
  by_cases c53 : (t432.length : Int) = t403
  rotate_left
  ·rw [if_neg c53] at H
   exact absurd H (by simp)
  rw [if_pos c53] at H
  have c53b0 : ((t432.length : Int) == t403) = true := beq_iff_eq.mpr c53
  have c53b1 : ((t432.length : Int) != t403) = false := bne_eq_false_iff_eq.mpr c53
  clear c53
  by_cases c54 : t440 = true
  rotate_left
  ·replace c54 := Bool.eq_false_iff.mpr c54
   subst c54
   have H1 : (none) = some r := by rw [if_neg (show ¬ (false = true) by decide)] at H; exact H
   clear H
   have H := H1
   clear H1
   exact absurd H (by simp)
  subst c54
  have H1 : ((impl_IsValidBay.f t436 t437).bind fun t442 => (if t442 = true then (some ((t437.length : Int) == t391)) else (none))) = some r := by rw [if_pos rfl] at H; exact H
  clear H
  have H := H1
  clear H1
  replace H := Option.bind_eq_some_iff.mp H
  obtain ⟨t442, A550, H⟩ := H
  replace H : (if t442 = true then (some ((t437.length : Int) == t391)) else (none)) = some r := H
  have A55 := Aside0.mk A550
  clear A550
  by_cases c56 : t442 = true
  rotate_left
  ·replace c56 := Bool.eq_false_iff.mpr c56
   subst c56
   have H1 : (none) = some r := by rw [if_neg (show ¬ (false = true) by decide)] at H; exact H
   clear H
   have H := H1
   clear H1
   exact absurd H (by simp)
  subst c56
  have H1 : (some ((t437.length : Int) == t391)) = some r := by rw [if_pos rfl] at H; exact H
  clear H
  have H := H1
  clear H1
  obtain rfl := Option.some.inj H
  have hcz57_0 : wc.cell? ⟨gb399, 0, none⟩ = some (.int .i64 t391) := (blk_cell BK399.out 0).trans rfl
  have hcz57_1 : wc.cell? ⟨gb399, 1, none⟩ = some (.int .i64 t392) := (blk_cell BK399.out 1).trans rfl
  have hcz57_2 : wc.cell? ⟨gb399, 2, none⟩ = some (.slice Ao19 t393.length co19) := (blk_cell BK399.out 2).trans rfl
  have hfz57_0 := blk_frozen BK399.out 0
  have hfz57_1 := blk_frozen BK399.out 1
  have hfz57_2 := blk_frozen BK399.out 2
  go_wp2_with (first | ((with_reducible refine gate_callee (f := 19) rfl ?_); refine goesL_ (some 96) rfl rfl Try.func19 (by kernel_rfl) rfl #[.agg #[.int .i64 t391, .int .i64 t392, .slice Ao19 t393.length co19]] rfl gmp ?_; (with_reducible refine (impl_GreedyStowage.calls t391 t392 _ _ t393 t421 t424 t425 _ ?side1 ?side2 A41.out).mono ?_); (case side1 => exact cdl (Kd.R_reads' HO_400002.out).2.2); (case side2 => exact (Kd.R_reads' HO_400002.out).2.1); rintro e w58 ⟨v422, rfl, ho0, hb⟩; refine ⟨_, rfl, ?_⟩; have n0_ := Aside0.mk (Kd.R_elder' (rdl HO_5) (Kd.R_base ho0) hb); have n1_ := Aside0.mk (Kd.R_elder' (rdl HO_400002) (Kd.R_base ho0) hb); have n2_ := Aside0.mk (Kd.R_lower (Kd.R_new' (Kd.R_new' ho0 (Kd.R_lt (rdl HO_5))) (Kd.R_lt (rdl HO_400002))) (below_size (bel1 HB GE399))); have n3_ := Aside0.mk (blk_below (g := gb399) (o := .cells #[.int .i64 t391, .int .i64 t392, .slice Ao19 t393.length co19] 26 (0, 0)) (bkl BK399) hb); have n4_ := Aside0.mk (below_step (bel1 HB GE399) hb); clear HO_5; clear HO_400002; clear BK399; clear HB; have HO_5 := n0_; have HO_400002 := n1_; have HO423 := n2_; have BK399 := n3_; have HB := n4_; clear n0_ n1_ n2_ n3_ n4_; (try clear hb); (try clear hb2); (try clear hk); (try clear hi); (try clear ho0); have hcz59_0 : w58.cell? ⟨gb399, 0, none⟩ = some (.int .i64 t391) := (blk_cell BK399.out 0).trans rfl; have hcz59_1 : w58.cell? ⟨gb399, 1, none⟩ = some (.int .i64 t392) := (blk_cell BK399.out 1).trans rfl; have hcz59_2 : w58.cell? ⟨gb399, 2, none⟩ = some (.slice Ao19 t393.length co19) := (blk_cell BK399.out 2).trans rfl; have hfz59_0 := blk_frozen BK399.out 0; have hfz59_1 := blk_frozen BK399.out 1; have hfz59_2 := blk_frozen BK399.out 2) | ((with_reducible refine gate_callee (f := 20) rfl ?_); refine goesL_ (some 102) rfl rfl Try.func20 (by kernel_rfl) rfl #[.agg #[.int .i64 t391, .int .i64 t392, .slice Ao19 t393.length co19]] rfl gmp ?_; (with_reducible refine (spec_GreedyStowage.calls kj14 t391 t392 _ _ t393 t426 t429 t430 _ ?side1 ?side2 A42.out).mono ?_); (case side1 => exact cdl (Kd.R_reads' HO_400002.out).2.2); (case side2 => exact (Kd.R_reads' HO_400002.out).2.1); rintro e w60 ⟨v427, rfl, ho0, hb⟩; refine ⟨_, rfl, ?_⟩; have n0_ := Aside0.mk (Kd.R_elder' (rdl HO_5) (Kd.R_base ho0) hb); have n1_ := Aside0.mk (Kd.R_elder' (rdl HO_400002) (Kd.R_base ho0) hb); have n2_ := Aside0.mk (Kd.R_elder' (rdl HO423) (Kd.R_base ho0) hb); have n3_ := Aside0.mk (Kd.R_lower (Kd.R_new' (Kd.R_new' (Kd.R_new' ho0 (Kd.R_lt (rdl HO_5))) (Kd.R_lt (rdl HO_400002))) (Kd.R_lt (rdl HO423))) (below_size (bel1 HB GE399))); have n4_ := Aside0.mk (blk_below (g := gb399) (o := .cells #[.int .i64 t391, .int .i64 t392, .slice Ao19 t393.length co19] 26 (0, 0)) (bkl BK399) hb); have n5_ := Aside0.mk (below_step (bel1 HB GE399) hb); clear HO_5; clear HO_400002; clear HO423; clear BK399; clear HB; have HO_5 := n0_; have HO_400002 := n1_; have HO423 := n2_; have HO428 := n3_; have BK399 := n4_; have HB := n5_; clear n0_ n1_ n2_ n3_ n4_ n5_; (try clear hb); (try clear hb2); (try clear hk); (try clear hi); (try clear ho0); obtain ⟨Ao61, co61, eo61⟩ := Kd.R_slice HO423.out; subst eo61; obtain ⟨Ao62, co62, eo62⟩ := Kd.R_slice HO428.out; subst eo62) | (go_at_call 9; (with_reducible refine (laws_vInts.calls kj14 _ _ t421 _ _ t426 true _ ?side1 ?side2 ?side3 ?side4 A45.out).mono ?_); (case side1 => exact cdl (Kd.R_reads' HO423.out).2.2); (case side2 => exact (Kd.R_reads' HO423.out).2.1); (case side3 => exact cdl (Kd.R_reads' HO428.out).2.2); (case side4 => exact (Kd.R_reads' HO428.out).2.1); rintro e w' ⟨rfl, ⟨nd, rfl⟩⟩; (try (rw [drewN_self w60]; generalize hq_ : World.drewN w60 _ = w60; have n0_ : Aside0 (Kd.R (Kd.int .i64) 3 w60 w.heap.size (fun k_ => some k_ ≠ (.slice Ao62 t426.length co62 : Value).ownBlock ∧ some k_ ≠ (.slice Ao19 t393.length co19 : Value).ownBlock ∧ some k_ ≠ (.slice Ao23 t400.length co23 : Value).ownBlock) (.slice Ao61 t421.length co61) t421) := ⟨by rw [← hq_]; exact (by (with_reducible repeat (first | apply Kd.R_alloc | apply Kd.R_drewN | apply Kd.R_drew)); exact Kd.R_mono HO423.out (fun _ hk => ⟨hk.2, ⟨hk.1.2, hk.1.1.2⟩⟩))⟩; have n1_ : Aside0 (Kd.R (Kd.int .i64) 3 w60 w.heap.size (fun k_ => some k_ ≠ (.slice Ao61 t421.length co61 : Value).ownBlock ∧ some k_ ≠ (.slice Ao19 t393.length co19 : Value).ownBlock ∧ some k_ ≠ (.slice Ao23 t400.length co23 : Value).ownBlock) (.slice Ao62 t426.length co62) t426) := ⟨by rw [← hq_]; exact (by (with_reducible repeat (first | apply Kd.R_alloc | apply Kd.R_drewN | apply Kd.R_drew)); exact Kd.R_mono HO428.out (fun _ hk => ⟨hk.2, ⟨hk.1.2, hk.1.1.2⟩⟩))⟩; have n2_ : Aside0 (Kd.R (Kd.int .i64) 3 w60 w.heap.size (fun k_ => some k_ ≠ (.slice Ao61 t421.length co61 : Value).ownBlock ∧ some k_ ≠ (.slice Ao62 t426.length co62 : Value).ownBlock ∧ some k_ ≠ (.slice Ao23 t400.length co23 : Value).ownBlock) (.slice Ao19 t393.length co19) t393) := ⟨by rw [← hq_]; exact (by (with_reducible repeat (first | apply Kd.R_alloc | apply Kd.R_drewN | apply Kd.R_drew)); exact Kd.R_mono HO_400002.out (fun _ hk => ⟨hk.1.2, ⟨hk.2, hk.1.1⟩⟩))⟩; have n3_ : Aside0 (Kd.R (Kd.int .i64) 3 w60 w.heap.size (fun k_ => some k_ ≠ (.slice Ao61 t421.length co61 : Value).ownBlock ∧ some k_ ≠ (.slice Ao62 t426.length co62 : Value).ownBlock ∧ some k_ ≠ (.slice Ao19 t393.length co19 : Value).ownBlock) (.slice Ao23 t400.length co23) t400) := ⟨by rw [← hq_]; exact (by (with_reducible repeat (first | apply Kd.R_alloc | apply Kd.R_drewN | apply Kd.R_drew)); exact Kd.R_mono HO_5.out (fun _ hk => ⟨hk.1.2, ⟨hk.2, hk.1.1⟩⟩))⟩; have n4_ : Aside0 (w60.heap[gb399]? = some (.cells #[.int .i64 t391, .int .i64 t392, .slice Ao19 t393.length co19] 26 (0, 0))) := ⟨by rw [← hq_]; exact (bkl BK399)⟩; have n5_ : Aside0 (Below w.heap.size w w60) := ⟨by rw [← hq_]; exact (bel1 HB GE399)⟩; clear HO423 HO428 HO_400002 HO_5 BK399 HB hq_; have HO423 := n0_; have HO428 := n1_; have HO_400002 := n2_; have HO_5 := n3_; have BK399 := n4_; have HB := n5_; clear n0_ n1_ n2_ n3_ n4_ n5_)); have hcz63_0 : w60.cell? ⟨gb399, 0, none⟩ = some (.int .i64 t391) := (blk_cell BK399.out 0).trans rfl; have hcz63_1 : w60.cell? ⟨gb399, 1, none⟩ = some (.int .i64 t392) := (blk_cell BK399.out 1).trans rfl; have hcz63_2 : w60.cell? ⟨gb399, 2, none⟩ = some (.slice Ao19 t393.length co19) := (blk_cell BK399.out 2).trans rfl; have hfz63_0 := blk_frozen BK399.out 0; have hfz63_1 := blk_frozen BK399.out 1; have hfz63_2 := blk_frozen BK399.out 2) | ((with_reducible refine gate_callee (f := 10) rfl ?_); refine goesL_ (some 138) rfl rfl Try.func10 (by kernel_rfl) rfl #[.agg #[.int .i64 t391, .int .i64 t392, .slice Ao19 t393.length co19], .slice Ao23 t400.length co23] rfl gmp ?_; (with_reducible refine (impl_ShiftedBoxes.calls kj14 t391 t392 _ _ t393 _ _ t400 t432 true _ ?side1 ?side2 ?side3 ?side4 A50.out).mono ?_); (case side1 => exact cdl (Kd.R_reads' HO_400002.out).2.2); (case side2 => exact (Kd.R_reads' HO_400002.out).2.1); (case side3 => exact cdl (Kd.R_reads' HO_5.out).2.2); (case side4 => exact (Kd.R_reads' HO_5.out).2.1); rintro e w64 ⟨v433, rfl, ho0, hb⟩; refine ⟨_, rfl, ?_⟩; have n0_ := Aside0.mk (Kd.R_elder' (rdl HO_5) (Kd.R_base ho0) hb); have n1_ := Aside0.mk (Kd.R_elder' (rdl HO_400002) (Kd.R_base ho0) hb); have n2_ := Aside0.mk (Kd.R_elder' (rdl HO423) (Kd.R_base ho0) hb); have n3_ := Aside0.mk (Kd.R_elder' (rdl HO428) (Kd.R_base ho0) hb); have n4_ := Aside0.mk (Kd.R_lower (Kd.R_new' (Kd.R_new' (Kd.R_new' (Kd.R_new' ho0 (Kd.R_lt (rdl HO_5))) (Kd.R_lt (rdl HO_400002))) (Kd.R_lt (rdl HO423))) (Kd.R_lt (rdl HO428))) (below_size (bel1 HB GE399))); have n5_ := Aside0.mk (blk_below (g := gb399) (o := .cells #[.int .i64 t391, .int .i64 t392, .slice Ao19 t393.length co19] 26 (0, 0)) (bkl BK399) hb); have n6_ := Aside0.mk (below_step (bel1 HB GE399) hb); clear HO_5; clear HO_400002; clear HO423; clear HO428; clear BK399; clear HB; have HO_5 := n0_; have HO_400002 := n1_; have HO423 := n2_; have HO428 := n3_; have HO434 := n4_; have BK399 := n5_; have HB := n6_; clear n0_ n1_ n2_ n3_ n4_ n5_ n6_; (try clear hb); (try clear hb2); (try clear hk); (try clear hi); (try clear ho0); have hcz65_0 : w64.cell? ⟨gb399, 0, none⟩ = some (.int .i64 t391) := (blk_cell BK399.out 0).trans rfl; have hcz65_1 : w64.cell? ⟨gb399, 1, none⟩ = some (.int .i64 t392) := (blk_cell BK399.out 1).trans rfl; have hcz65_2 : w64.cell? ⟨gb399, 2, none⟩ = some (.slice Ao19 t393.length co19) := (blk_cell BK399.out 2).trans rfl; have hfz65_0 := blk_frozen BK399.out 0; have hfz65_1 := blk_frozen BK399.out 1; have hfz65_2 := blk_frozen BK399.out 2) | ((with_reducible refine gate_callee (f := 21) rfl ?_); refine goesL_ (some 144) rfl rfl Try.func21 (by kernel_rfl) rfl #[.agg #[.int .i64 t391, .int .i64 t392, .slice Ao19 t393.length co19], .slice Ao23 t400.length co23] rfl gmp ?_; (with_reducible refine (impl_PlanBay.calls kj14 t391 t392 _ _ t393 _ _ t400 t436 t437 true _ ?side1 ?side2 ?side3 ?side4 A51.out).mono ?_); (case side1 => exact cdl (Kd.R_reads' HO_400002.out).2.2); (case side2 => exact (Kd.R_reads' HO_400002.out).2.1); (case side3 => exact cdl (Kd.R_reads' HO_5.out).2.2); (case side4 => exact (Kd.R_reads' HO_5.out).2.1); rintro e w66 ⟨v438, rfl, ho0, hb⟩; refine ⟨_, rfl, ?_⟩; have n0_ := Aside0.mk (Kd.R_below (rdl HO_5) hb); have n1_ := Aside0.mk (Kd.R_below (rdl HO_400002) hb); have n2_ := Aside0.mk (Kd.R_below (rdl HO423) hb); have n3_ := Aside0.mk (Kd.R_below (rdl HO428) hb); have n4_ := Aside0.mk (Kd.R_below (rdl HO434) hb); have n5_ := Aside0.mk (Kd.S_lower (Kd.S_new' (Kd.S_new' (Kd.S_new' (Kd.S_new' (Kd.S_new' ho0 (Kd.R_lt (rdl HO_5))) (Kd.R_lt (rdl HO_400002))) (Kd.R_lt (rdl HO423))) (Kd.R_lt (rdl HO428))) (Kd.R_lt (rdl HO434))) (below_size (bel1 HB GE399))); have n6_ := Aside0.mk (blk_below (g := gb399) (o := .cells #[.int .i64 t391, .int .i64 t392, .slice Ao19 t393.length co19] 26 (0, 0)) (bkl BK399) hb); have n7_ := Aside0.mk (below_step (bel1 HB GE399) hb); clear HO_5; clear HO_400002; clear HO423; clear HO428; clear HO434; clear BK399; clear HB; have HO_5 := n0_; have HO_400002 := n1_; have HO423 := n2_; have HO428 := n3_; have HO434 := n4_; have HO439 := n5_; have BK399 := n6_; have HB := n7_; clear n0_ n1_ n2_ n3_ n4_ n5_ n6_ n7_; (try clear hb); (try clear hb2); (try clear hk); (try clear hi); (try clear ho0)) | ((with_reducible refine gate_dst (N := 23) rfl ?_); (try (refine gate_guard (by rfl) ?_; dsimp only)); refine box_event ?hg (N := 23) ?hd (cs := #[.int .i64 0, .slice none 0 0]) (t := 45) ?hr ?_; (case hd => rfl); (case hg => rfl); (case hr => first | (go_simp; done) | (go_simp; rfl)); intro gb441 hg w67 hbox hb; have n0_ := Aside0.mk (Kd.R_below (rdl HO_5) hb); have n1_ := Aside0.mk (Kd.R_below (rdl HO_400002) hb); have n2_ := Aside0.mk (Kd.R_below (rdl HO423) hb); have n3_ := Aside0.mk (Kd.R_below (rdl HO428) hb); have n4_ := Aside0.mk (Kd.R_below (rdl HO434) hb); have n5_ := Aside0.mk (Kd.S_below (sdl HO439) hb); have n6_ := Aside0.mk (blk_below (g := gb399) (o := .cells #[.int .i64 t391, .int .i64 t392, .slice Ao19 t393.length co19] 26 (0, 0)) (bkl BK399) hb); have n7_ := Aside0.mk (below_step (bel1 HB GE399) hb); have n8_ := Aside0.mk (hbox); have n9_ := Aside0.mk ((by rw [hg]; exact (below_size (bel1 HB GE399)) : w.heap.size ≤ gb441)); have n10_ := Aside0.mk ((by rw [hg]; exact (below_size (bel1 HB GE399)) : w.heap.size ≤ gb441)); have n11_ := Aside0.mk ((by rw [hg]; exact Nat.ne_of_lt (blk_lt (g := gb399) (o := .cells #[.int .i64 t391, .int .i64 t392, .slice Ao19 t393.length co19] 26 (0, 0)) (bkl BK399)) : gb399 ≠ gb441)); have n12_ := Aside0.mk ((by rw [hg]; exact Nat.ne_of_gt (blk_lt (g := gb399) (o := .cells #[.int .i64 t391, .int .i64 t392, .slice Ao19 t393.length co19] 26 (0, 0)) (bkl BK399)) : gb441 ≠ gb399)); clear HO_5; clear HO_400002; clear HO423; clear HO428; clear HO434; clear HO439; clear BK399; clear HB; have HO_5 := n0_; have HO_400002 := n1_; have HO423 := n2_; have HO428 := n3_; have HO434 := n4_; have HO439 := n5_; have BK399 := n6_; have HB := n7_; have BK441 := n8_; have GW441 := n9_; have GE441 := n10_; have NB399_441 := n11_; have NB441_399 := n12_; clear n0_ n1_ n2_ n3_ n4_ n5_ n6_ n7_ n8_ n9_ n10_ n11_ n12_; clear hb hbox hg; have hnb68 := NB441_399.out; have hnc68 := NB399_441.out; have hcz69_0 : w67.cell? ⟨gb441, 0, none⟩ = some (.int .i64 0) := (blk_cell BK441.out 0).trans rfl; have hcz69_1 : w67.cell? ⟨gb441, 1, none⟩ = some (.slice none 0 0) := (blk_cell BK441.out 1).trans rfl; have hfz69_0 := blk_frozen BK441.out 0; have hfz69_1 := blk_frozen BK441.out 1; obtain ⟨Ao70, co70, eo70⟩ := Kd.S_slice HO439.out; subst eo70; obtain ⟨Ao71, co71, eo71⟩ := Kd.R_slice HO434.out; subst eo71) | (go_at_call 22; (with_reducible refine (impl_IsValidBay.calls t436 _ _ t437 true _ ?side1 ?side2 A55.out).mono ?_); (case side1 => refine (Kd.S_reads' (e := 24) (base := w.heap.size) (ok := fun k_ => (((((True ∧ some k_ ≠ (.slice Ao23 t400.length co23 : Value).ownBlock) ∧ some k_ ≠ (.slice Ao19 t393.length co19 : Value).ownBlock) ∧ some k_ ≠ (.slice Ao61 t421.length co61 : Value).ownBlock) ∧ some k_ ≠ (.slice Ao62 t426.length co62 : Value).ownBlock) ∧ some k_ ≠ (.slice Ao71 t432.length co71 : Value).ownBlock)) (n := t437.length) (c := co70) ?_).2.2; exact (by (with_reducible repeat (first | apply Kd.S_alloc | apply Kd.S_drewN | apply Kd.S_drew)); exact (Kd.S_mono (Kd.S_far (p := ⟨gb441, 1, none⟩) (Kd.S_far (p := ⟨gb441, 0, none⟩) (Kd.S_types HO439.out BK441.out (by decide)) (fun _ hk => hk.2) (.int .i64 t436)) (fun _ hk => hk.2) (.slice Ao70 t437.length co70)) (fun _ h_ => h_.1)))); (case side2 => exact (Kd.S_reads' HO439.out).2.1); rintro e w72 ⟨rfl, hb⟩; have n0_ := Aside0.mk (Kd.R_below (by (with_reducible repeat (first | apply Kd.R_alloc | apply Kd.R_drewN | apply Kd.R_drew)); exact (Kd.R_mono (Kd.R_far (p := ⟨gb441, 1, none⟩) (Kd.R_far (p := ⟨gb441, 0, none⟩) (Kd.R_types HO_5.out BK441.out (by decide)) (fun _ hk => hk.2) (.int .i64 t436)) (fun _ hk => hk.2) (.slice Ao70 t437.length co70)) (fun _ h_ => h_.1))) hb); have n1_ := Aside0.mk (Kd.R_below (by (with_reducible repeat (first | apply Kd.R_alloc | apply Kd.R_drewN | apply Kd.R_drew)); exact (Kd.R_mono (Kd.R_far (p := ⟨gb441, 1, none⟩) (Kd.R_far (p := ⟨gb441, 0, none⟩) (Kd.R_types HO_400002.out BK441.out (by decide)) (fun _ hk => hk.2) (.int .i64 t436)) (fun _ hk => hk.2) (.slice Ao70 t437.length co70)) (fun _ h_ => h_.1))) hb); have n2_ := Aside0.mk (Kd.R_below (by (with_reducible repeat (first | apply Kd.R_alloc | apply Kd.R_drewN | apply Kd.R_drew)); exact (Kd.R_mono (Kd.R_far (p := ⟨gb441, 1, none⟩) (Kd.R_far (p := ⟨gb441, 0, none⟩) (Kd.R_types HO423.out BK441.out (by decide)) (fun _ hk => hk.2) (.int .i64 t436)) (fun _ hk => hk.2) (.slice Ao70 t437.length co70)) (fun _ h_ => h_.1))) hb); have n3_ := Aside0.mk (Kd.R_below (by (with_reducible repeat (first | apply Kd.R_alloc | apply Kd.R_drewN | apply Kd.R_drew)); exact (Kd.R_mono (Kd.R_far (p := ⟨gb441, 1, none⟩) (Kd.R_far (p := ⟨gb441, 0, none⟩) (Kd.R_types HO428.out BK441.out (by decide)) (fun _ hk => hk.2) (.int .i64 t436)) (fun _ hk => hk.2) (.slice Ao70 t437.length co70)) (fun _ h_ => h_.1))) hb); have n4_ := Aside0.mk (Kd.R_below (by (with_reducible repeat (first | apply Kd.R_alloc | apply Kd.R_drewN | apply Kd.R_drew)); exact (Kd.R_mono (Kd.R_far (p := ⟨gb441, 1, none⟩) (Kd.R_far (p := ⟨gb441, 0, none⟩) (Kd.R_types HO434.out BK441.out (by decide)) (fun _ hk => hk.2) (.int .i64 t436)) (fun _ hk => hk.2) (.slice Ao70 t437.length co70)) (fun _ h_ => h_.1))) hb); have n5_ := Aside0.mk (Kd.S_below (by (with_reducible repeat (first | apply Kd.S_alloc | apply Kd.S_drewN | apply Kd.S_drew)); exact (Kd.S_mono (Kd.S_far (p := ⟨gb441, 1, none⟩) (Kd.S_far (p := ⟨gb441, 0, none⟩) (Kd.S_types HO439.out BK441.out (by decide)) (fun _ hk => hk.2) (.int .i64 t436)) (fun _ hk => hk.2) (.slice Ao70 t437.length co70)) (fun _ h_ => h_.1))) hb); have n6_ := Aside0.mk (blk_below (g := gb399) (o := .cells #[.int .i64 t391, .int .i64 t392, .slice Ao19 t393.length co19] 26 (0, 0)) (by (with_reducible repeat (first | refine blk_drewN ?_ _ | refine blk_drew ?_ | refine blk_alloc ?_ _)); refine blk_far ?_ NB399_441.out _; (with_reducible repeat (first | refine blk_drewN ?_ _ | refine blk_drew ?_ | refine blk_alloc ?_ _)); refine blk_far ?_ NB399_441.out _; (with_reducible repeat (first | refine blk_drewN ?_ _ | refine blk_drew ?_ | refine blk_alloc ?_ _)); exact BK399.out) hb); have n7_ := Aside0.mk (blk_below (g := gb441) (o := .cells #[.int .i64 t436, .slice Ao70 t437.length co70] 45 (0, 0)) (by (with_reducible repeat (first | refine blk_drewN ?_ _ | refine blk_drew ?_ | refine blk_alloc ?_ _)); refine blk_put (cs := #[.int .i64 t436, .slice none 0 0]) ?_ 1 _ rfl; (with_reducible repeat (first | refine blk_drewN ?_ _ | refine blk_drew ?_ | refine blk_alloc ?_ _)); refine blk_put (cs := #[.int .i64 0, .slice none 0 0]) ?_ 0 _ rfl; (with_reducible repeat (first | refine blk_drewN ?_ _ | refine blk_drew ?_ | refine blk_alloc ?_ _)); exact BK441.out) hb); have n8_ := Aside0.mk (below_step (bel2 HB GE399 GE441) hb); clear HO_5; clear HO_400002; clear HO423; clear HO428; clear HO434; clear HO439; clear BK399; clear BK441; clear HB; have HO_5 := n0_; have HO_400002 := n1_; have HO423 := n2_; have HO428 := n3_; have HO434 := n4_; have HO439 := n5_; have BK399 := n6_; have BK441 := n7_; have HB := n8_; clear n0_ n1_ n2_ n3_ n4_ n5_ n6_ n7_ n8_; (try clear hb); (try clear hb2); (try clear hk); (try clear hi); have hcz73_0 : w72.cell? ⟨gb441, 0, none⟩ = some (.int .i64 t436) := (blk_cell BK441.out 0).trans rfl; have hcz73_1 : w72.cell? ⟨gb441, 1, none⟩ = some (.slice Ao70 t437.length co70) := (blk_cell BK441.out 1).trans rfl; have hfz73_0 := blk_frozen BK441.out 0; have hfz73_1 := blk_frozen BK441.out 1; have hcz74_0 : w72.cell? ⟨gb399, 0, none⟩ = some (.int .i64 t391) := (blk_cell BK399.out 0).trans rfl; have hcz74_1 : w72.cell? ⟨gb399, 1, none⟩ = some (.int .i64 t392) := (blk_cell BK399.out 1).trans rfl; have hcz74_2 : w72.cell? ⟨gb399, 2, none⟩ = some (.slice Ao19 t393.length co19) := (blk_cell BK399.out 2).trans rfl; have hfz74_0 := blk_frozen BK399.out 0; have hfz74_1 := blk_frozen BK399.out 1; have hfz74_2 := blk_frozen BK399.out 2))
  go_ret
  exact ⟨by first | rfl | (simp [errW_none, errW_some] <;> rfl) | (simp [*, errW_none, errW_some] <;> rfl), bel2 HB GE399 GE441⟩
/-- THE ONE PURE STATEMENT of laws_FnStowage. -/
def laws_FnStowage.Pure : Prop := ∀ (l0 : List Int), (l0.length ≤ maxLen ∧ ∀ z443, z443 ∈ l0 → (Lit.int .u8 z443).wf = true) → ∃ k, laws_FnStowage.f k l0 = some true
theorem laws_FnStowage.walk (P : laws_FnStowage.Pure) (A0 : Option Addr) (c0 : Nat) (l0 : List Int) (w : World) (hr0 : Kd.C (Kd.int .u8) w A0 l0.length l0) (hc0 : l0.length ≤ c0) (g0 : (l0.length ≤ maxLen ∧ ∀ z444, z444 ∈ l0 → (Lit.int .u8 z444).wf = true)) :
  Calls Try.prog 4 #[.slice A0 l0.length c0] w fun e w' => e = .returned (.bool true) ∧ Below w.heap.size w w' := by
 obtain ⟨k, h⟩ := P l0 g0
 refine (laws_FnStowage.calls k _ _ l0 true w hr0 hc0 h).mono ?_
 rintro e w' ⟨rfl, hd⟩
 exact ⟨rfl, hd⟩
end Go.Proofs.Ytipahijdcgoemaa.P
