-- Written by a program of this session over the translation (a variant of the printer, see wip/gen); Lean checks it.
import Derived.Test.YtkahifpcimoogaaPx0
import Derived.Test.YtkahifpcimoogaaPx1
import Derived.Test.YtkahifpcimoogaaPx5
import Derived.Test.YtkahifpcimoogaaPx11
import Derived.Test.YtkahifpcimoogaaPx21
import Derived.Test.YtkahifpcimoogaaPx22
import Derived.Test.YtkahifpcimoogaaPx23
import Derived.Test.YtkahifpcimoogaaPx24
import Derived.Test.YtkahifpcimoogaaPx27
import Derived.Test.YtkahifpcimoogaaPx28
import Derived.Test.YtkahifpcimoogaaPx29
import Derived.Test.YtkahifpcimoogaaPx30
import Derived.Test.YtkahifpcimoogaaPx31
import Derived.Test.YtkahifpcimoogaaPx32
import Derived.Test.YtkahifpcimoogaaPx33
namespace Go.Proofs.Ytkahifpcimoogaa.P
open Go.RowKit Go.Proofs.YtkahifpcimoogaaW.PrintWords Go.Proofs.YtkahifpcimoogaaW.PrintLast Go.Proofs.YtkahifpcimoogaaW.PrintMore
attribute [local go_sem] Go.Proofs.Ytkahifpcimoogaa.V.isSome_setCell max2_int min2_int max_two min_two max_three min_three max_four min_four   -- for this text's walks alone
set_option linter.unusedVariables false
set_option linter.unusedSimpArgs false

/-! ### laws_FnCenters: function 4 -/
mutual
def laws_FnCenters.j0 : Nat → List Int → Option (Bool)
 | 0, _ => none
 | k + 1, x0 => (spec_DrawStabilityMargin.f k x0).bind fun bt424 => ((impl_StabilityMargin.f k bt424.1 bt424.2.1 bt424.2.2.1 bt424.2.2.2).bind fun bt430 => ((spec_StabilityMargin.f k bt424.1 bt424.2.1 bt424.2.2.1 bt424.2.2.2).bind fun bt433 => (if bt430.1 = bt433.1 then (if bt430.2.1 = bt433.2.1 then (if (bt430.2.2 != bt433.2.2) = true then (none) else (if bt430.2.2 = true then ((impl_CenterHeight.f k bt424.1 bt424.2.1 bt424.2.2.1).bind fun bt436 => (if bt436.2.2 = true then (if bt436.2.1 = bt430.2.1 then (if (wrap64 (bt436.1 + bt430.1)) = (wrap64 (bt424.2.2.2 * bt436.2.1)) then (laws_FnCenters.j1 k x0) else (none)) else (none)) else (none))) else (laws_FnCenters.j1 k x0))) else (none)) else (none))))
def laws_FnCenters.j1 : Nat → List Int → Option (Bool)
 | 0, _ => none
 | k + 1, x0 => (spec_DrawWeightAbove.f k x0).bind fun bt439 => ((impl_WeightAbove.f k bt439.1 bt439.2).bind fun bt443 => ((spec_WeightAbove.f k bt439.1 bt439.2).bind fun bt445 => (if bt443.1 = bt445.1 then (if (bt443.2 != bt445.2) = true then (none) else (if bt443.2 = true then ((impl_LoadMoments.f k bt439.1).bind fun bt447 => (if bt447.2.2.2 = true then (if bt443.1 > bt447.1 then (none) else (if bt443.1 < 0 then (none) else (some true))) else (none))) else (some true))) else (none))))
end
def laws_FnCenters.f (k : Nat) (l0 : List Int) : Option (Bool) := (laws_rBig.f l0).bind fun t406 => (if t406 = true then (some true) else ((spec_DrawCenterAcross.f k l0).bind fun t407 => ((impl_CenterAcross.f k t407).bind fun bt410 => ((spec_CenterAcross.f k t407).bind fun bt413 => (if bt410.1 = bt413.1 then (if bt410.2.1 = bt413.2.1 then (if (bt410.2.2 != bt413.2.2) = true then (none) else (if bt410.2.2 = true then ((impl_MirrorLoads.f k t407).bind fun bt416 => ((impl_CenterAcross.f k bt416.1).bind fun bt420 => (if bt416.2 = true then (if bt420.2.2 = true then (if bt420.1 = (wrap64 (-bt410.1)) then (if bt420.2.1 = bt410.2.1 then ((impl_IsValidLoads.f k bt416.1).bind fun t423 => (if t423 = true then (laws_FnCenters.j0 k l0) else (none))) else (none)) else (none)) else (none)) else (none)))) else (laws_FnCenters.j0 k l0))) else (none)) else (none))))))
theorem laws_FnCenters.mono_l : ∀ k, (∀ y0, LeO (laws_FnCenters.j0 k y0) (laws_FnCenters.j0 (k + 1) y0)) ∧ (∀ y0, LeO (laws_FnCenters.j1 k y0) (laws_FnCenters.j1 (k + 1) y0))
 | 0 => ⟨fun _ r h => by simp [laws_FnCenters.j0] at h, fun _ r h => by simp [laws_FnCenters.j1] at h⟩
 | k + 1 => by
  obtain ⟨ih0, ih1⟩ := laws_FnCenters.mono_l k
  refine ⟨?_, ?_⟩
  ·intro y0
   unfold laws_FnCenters.j0
   repeat' first
   | (with_reducible exact ih0 _)
   | (with_reducible exact ih1 _)
   | (with_reducible exact impl_CenterAcross.mono _ _)
   | (with_reducible exact impl_CenterHeight.mono _ _ _ _)
   | (with_reducible exact impl_IsValidLoads.mono _ _)
   | (with_reducible exact impl_LoadMoments.mono _ _)
   | (with_reducible exact impl_MirrorLoads.mono _ _)
   | (with_reducible exact impl_StabilityMargin.mono _ _ _ _ _)
   | (with_reducible exact impl_WeightAbove.mono _ _ _)
   | (with_reducible exact spec_CenterAcross.mono _ _)
   | (with_reducible exact spec_DrawCenterAcross.mono _ _)
   | (with_reducible exact spec_DrawStabilityMargin.mono _ _)
   | (with_reducible exact spec_DrawWeightAbove.mono _ _)
   | (with_reducible exact spec_StabilityMargin.mono _ _ _ _ _)
   | (with_reducible exact spec_WeightAbove.mono _ _ _)
   | (with_reducible exact LeO.refl _)
   | (with_reducible exact LeO.none _)
   | (with_reducible refine LeO.ite ?_ ?_)
   | (with_reducible refine LeO.bind ?_ (fun _ => ?_))
   | exact ih0 _
   | exact ih1 _
   | exact impl_CenterAcross.mono _ _
   | exact impl_CenterHeight.mono _ _ _ _
   | exact impl_IsValidLoads.mono _ _
   | exact impl_LoadMoments.mono _ _
   | exact impl_MirrorLoads.mono _ _
   | exact impl_StabilityMargin.mono _ _ _ _ _
   | exact impl_WeightAbove.mono _ _ _
   | exact spec_CenterAcross.mono _ _
   | exact spec_DrawCenterAcross.mono _ _
   | exact spec_DrawStabilityMargin.mono _ _
   | exact spec_DrawWeightAbove.mono _ _
   | exact spec_StabilityMargin.mono _ _ _ _ _
   | exact spec_WeightAbove.mono _ _ _
   | exact LeO.none _
   | refine LeO.ite ?_ ?_
   | refine LeO.bind ?_ (fun _ => ?_)
  ·intro y0
   unfold laws_FnCenters.j1
   repeat' first
   | (with_reducible exact ih0 _)
   | (with_reducible exact ih1 _)
   | (with_reducible exact impl_CenterAcross.mono _ _)
   | (with_reducible exact impl_CenterHeight.mono _ _ _ _)
   | (with_reducible exact impl_IsValidLoads.mono _ _)
   | (with_reducible exact impl_LoadMoments.mono _ _)
   | (with_reducible exact impl_MirrorLoads.mono _ _)
   | (with_reducible exact impl_StabilityMargin.mono _ _ _ _ _)
   | (with_reducible exact impl_WeightAbove.mono _ _ _)
   | (with_reducible exact spec_CenterAcross.mono _ _)
   | (with_reducible exact spec_DrawCenterAcross.mono _ _)
   | (with_reducible exact spec_DrawStabilityMargin.mono _ _)
   | (with_reducible exact spec_DrawWeightAbove.mono _ _)
   | (with_reducible exact spec_StabilityMargin.mono _ _ _ _ _)
   | (with_reducible exact spec_WeightAbove.mono _ _ _)
   | (with_reducible exact LeO.refl _)
   | (with_reducible exact LeO.none _)
   | (with_reducible refine LeO.ite ?_ ?_)
   | (with_reducible refine LeO.bind ?_ (fun _ => ?_))
   | exact ih0 _
   | exact ih1 _
   | exact impl_CenterAcross.mono _ _
   | exact impl_CenterHeight.mono _ _ _ _
   | exact impl_IsValidLoads.mono _ _
   | exact impl_LoadMoments.mono _ _
   | exact impl_MirrorLoads.mono _ _
   | exact impl_StabilityMargin.mono _ _ _ _ _
   | exact impl_WeightAbove.mono _ _ _
   | exact spec_CenterAcross.mono _ _
   | exact spec_DrawCenterAcross.mono _ _
   | exact spec_DrawStabilityMargin.mono _ _
   | exact spec_DrawWeightAbove.mono _ _
   | exact spec_StabilityMargin.mono _ _ _ _ _
   | exact spec_WeightAbove.mono _ _ _
   | exact LeO.none _
   | refine LeO.ite ?_ ?_
   | refine LeO.bind ?_ (fun _ => ?_)
theorem laws_FnCenters.mono : ∀ a0 k, LeO (laws_FnCenters.f k a0) (laws_FnCenters.f (k + 1) a0) := by
 intro a0 k
 obtain ⟨ih0, ih1⟩ := laws_FnCenters.mono_l k
 unfold laws_FnCenters.f
 repeat' first
   | (with_reducible exact ih0 _)
   | (with_reducible exact ih1 _)
   | (with_reducible exact impl_CenterAcross.mono _ _)
   | (with_reducible exact impl_CenterHeight.mono _ _ _ _)
   | (with_reducible exact impl_IsValidLoads.mono _ _)
   | (with_reducible exact impl_LoadMoments.mono _ _)
   | (with_reducible exact impl_MirrorLoads.mono _ _)
   | (with_reducible exact impl_StabilityMargin.mono _ _ _ _ _)
   | (with_reducible exact impl_WeightAbove.mono _ _ _)
   | (with_reducible exact spec_CenterAcross.mono _ _)
   | (with_reducible exact spec_DrawCenterAcross.mono _ _)
   | (with_reducible exact spec_DrawStabilityMargin.mono _ _)
   | (with_reducible exact spec_DrawWeightAbove.mono _ _)
   | (with_reducible exact spec_StabilityMargin.mono _ _ _ _ _)
   | (with_reducible exact spec_WeightAbove.mono _ _ _)
   | (with_reducible exact LeO.refl _)
   | (with_reducible exact LeO.none _)
   | (with_reducible refine LeO.ite ?_ ?_)
   | (with_reducible refine LeO.bind ?_ (fun _ => ?_))
   | exact ih0 _
   | exact ih1 _
   | exact impl_CenterAcross.mono _ _
   | exact impl_CenterHeight.mono _ _ _ _
   | exact impl_IsValidLoads.mono _ _
   | exact impl_LoadMoments.mono _ _
   | exact impl_MirrorLoads.mono _ _
   | exact impl_StabilityMargin.mono _ _ _ _ _
   | exact impl_WeightAbove.mono _ _ _
   | exact spec_CenterAcross.mono _ _
   | exact spec_DrawCenterAcross.mono _ _
   | exact spec_DrawStabilityMargin.mono _ _
   | exact spec_DrawWeightAbove.mono _ _
   | exact spec_StabilityMargin.mono _ _ _ _ _
   | exact spec_WeightAbove.mono _ _ _
   | exact LeO.none _
   | refine LeO.ite ?_ ?_
   | refine LeO.bind ?_ (fun _ => ?_)
set_option maxHeartbeats 8000000 in
set_option maxRecDepth 100000 in
theorem laws_FnCenters.calls (k : Nat) (A0 : Option Addr) (c0 : Nat) (l0 : List Int) (r : Bool) (w : World) (hr0 : Kd.C (Kd.int .u8) w A0 l0.length l0) (hc0 : l0.length ≤ c0) (h : laws_FnCenters.f k l0 = some r) :
  Calls Try.prog 4 #[.slice A0 l0.length c0] w fun e w' => e = .returned (.bool r) ∧ Below w.heap.size w w' := by
 have HR0 := Aside0.mk hr0
 have HC0 := Aside0.mk hc0
 clear hr0 hc0
 have HB := Aside0.mk (Below.refl w.heap.size w)
 have H : ((laws_rBig.f l0).bind fun t406 => (if t406 = true then (some true) else ((spec_DrawCenterAcross.f k l0).bind fun t407 => ((impl_CenterAcross.f k t407).bind fun bt410 => ((spec_CenterAcross.f k t407).bind fun bt413 => (if bt410.1 = bt413.1 then (if bt410.2.1 = bt413.2.1 then (if (bt410.2.2 != bt413.2.2) = true then (none) else (if bt410.2.2 = true then ((impl_MirrorLoads.f k t407).bind fun bt416 => ((impl_CenterAcross.f k bt416.1).bind fun bt420 => (if bt416.2 = true then (if bt420.2.2 = true then (if bt420.1 = (wrap64 (-bt410.1)) then (if bt420.2.1 = bt410.2.1 then ((impl_IsValidLoads.f k bt416.1).bind fun t423 => (if t423 = true then (laws_FnCenters.j0 k l0) else (none))) else (none)) else (none)) else (none)) else (none)))) else (laws_FnCenters.j0 k l0))) else (none)) else (none))))))) = some r := h
 clear h
 replace H := Option.bind_eq_some_iff.mp H
 obtain ⟨t406, A20, H⟩ := H
 replace H : (if t406 = true then (some true) else ((spec_DrawCenterAcross.f k l0).bind fun t407 => ((impl_CenterAcross.f k t407).bind fun bt410 => ((spec_CenterAcross.f k t407).bind fun bt413 => (if bt410.1 = bt413.1 then (if bt410.2.1 = bt413.2.1 then (if (bt410.2.2 != bt413.2.2) = true then (none) else (if bt410.2.2 = true then ((impl_MirrorLoads.f k t407).bind fun bt416 => ((impl_CenterAcross.f k bt416.1).bind fun bt420 => (if bt416.2 = true then (if bt420.2.2 = true then (if bt420.1 = (wrap64 (-bt410.1)) then (if bt420.2.1 = bt410.2.1 then ((impl_IsValidLoads.f k bt416.1).bind fun t423 => (if t423 = true then (laws_FnCenters.j0 k l0) else (none))) else (none)) else (none)) else (none)) else (none)))) else (laws_FnCenters.j0 k l0))) else (none)) else (none)))))) = some r := H
 have A2 := Aside0.mk A20
 clear A20
 by_cases c3 : t406 = true
 ·subst c3
  have H1 : (some true) = some r := by rw [if_pos rfl] at H; exact H
  clear H
  have H := H1
  clear H1
  obtain rfl := Option.some.inj H
  go_enter Try.func4, Try.ntmps4
  go_wp2_with (first | ((with_reducible refine gate_callee (f := 5) rfl ?_); refine goesL_ (some 39) rfl rfl Try.func5 (by kernel_rfl) rfl #[.slice A0 l0.length c0] rfl gmp ?_; (with_reducible refine (laws_rBig.calls _ _ l0 true _ ?side1 ?side2 A2.out).mono ?_); (case side1 => repeat (first | exact HR0.out | (with_reducible refine Kd.C_alloc ?_ _) | (with_reducible refine Kd.C_drewN ?_ _) | (with_reducible refine Kd.C_drew ?_))); (case side2 => exact HC0.out); rintro e w' ⟨rfl, ⟨nd, rfl⟩⟩; refine ⟨_, rfl, ?_⟩))
  go_ret
  exact ⟨by first | rfl | (simp [errW_none, errW_some] <;> rfl) | (simp [*, errW_none, errW_some] <;> rfl), bel HB⟩
 ·replace c3 := Bool.eq_false_iff.mpr c3
  subst c3
  have H1 : ((spec_DrawCenterAcross.f k l0).bind fun t407 => ((impl_CenterAcross.f k t407).bind fun bt410 => ((spec_CenterAcross.f k t407).bind fun bt413 => (if bt410.1 = bt413.1 then (if bt410.2.1 = bt413.2.1 then (if (bt410.2.2 != bt413.2.2) = true then (none) else (if bt410.2.2 = true then ((impl_MirrorLoads.f k t407).bind fun bt416 => ((impl_CenterAcross.f k bt416.1).bind fun bt420 => (if bt416.2 = true then (if bt420.2.2 = true then (if bt420.1 = (wrap64 (-bt410.1)) then (if bt420.2.1 = bt410.2.1 then ((impl_IsValidLoads.f k bt416.1).bind fun t423 => (if t423 = true then (laws_FnCenters.j0 k l0) else (none))) else (none)) else (none)) else (none)) else (none)))) else (laws_FnCenters.j0 k l0))) else (none)) else (none))))) = some r := by rw [if_neg (show ¬ (false = true) by decide)] at H; exact H
  clear H
  have H := H1
  clear H1
  replace H := Option.bind_eq_some_iff.mp H
  obtain ⟨t407, A40, H⟩ := H
  replace H : ((impl_CenterAcross.f k t407).bind fun bt410 => ((spec_CenterAcross.f k t407).bind fun bt413 => (if bt410.1 = bt413.1 then (if bt410.2.1 = bt413.2.1 then (if (bt410.2.2 != bt413.2.2) = true then (none) else (if bt410.2.2 = true then ((impl_MirrorLoads.f k t407).bind fun bt416 => ((impl_CenterAcross.f k bt416.1).bind fun bt420 => (if bt416.2 = true then (if bt420.2.2 = true then (if bt420.1 = (wrap64 (-bt410.1)) then (if bt420.2.1 = bt410.2.1 then ((impl_IsValidLoads.f k bt416.1).bind fun t423 => (if t423 = true then (laws_FnCenters.j0 k l0) else (none))) else (none)) else (none)) else (none)) else (none)))) else (laws_FnCenters.j0 k l0))) else (none)) else (none)))) = some r := H
  have A4 := Aside0.mk A40
  clear A40
  replace H := Option.bind_eq_some_iff.mp H
  obtain ⟨⟨t410, t411, t412⟩, A50, H⟩ := H
  replace H : ((spec_CenterAcross.f k t407).bind fun bt413 => (if t410 = bt413.1 then (if t411 = bt413.2.1 then (if (t412 != bt413.2.2) = true then (none) else (if t412 = true then ((impl_MirrorLoads.f k t407).bind fun bt416 => ((impl_CenterAcross.f k bt416.1).bind fun bt420 => (if bt416.2 = true then (if bt420.2.2 = true then (if bt420.1 = (wrap64 (-t410)) then (if bt420.2.1 = t411 then ((impl_IsValidLoads.f k bt416.1).bind fun t423 => (if t423 = true then (laws_FnCenters.j0 k l0) else (none))) else (none)) else (none)) else (none)) else (none)))) else (laws_FnCenters.j0 k l0))) else (none)) else (none))) = some r := H
  have A5 := Aside0.mk A50
  clear A50
  replace H := Option.bind_eq_some_iff.mp H
  obtain ⟨⟨t413, t414, t415⟩, A60, H⟩ := H
  replace H : (if t410 = t413 then (if t411 = t414 then (if (t412 != t415) = true then (none) else (if t412 = true then ((impl_MirrorLoads.f k t407).bind fun bt416 => ((impl_CenterAcross.f k bt416.1).bind fun bt420 => (if bt416.2 = true then (if bt420.2.2 = true then (if bt420.1 = (wrap64 (-t410)) then (if bt420.2.1 = t411 then ((impl_IsValidLoads.f k bt416.1).bind fun t423 => (if t423 = true then (laws_FnCenters.j0 k l0) else (none))) else (none)) else (none)) else (none)) else (none)))) else (laws_FnCenters.j0 k l0))) else (none)) else (none)) = some r := H
  have A6 := Aside0.mk A60
  clear A60
  by_cases c7 : t410 = t413
  ·rw [if_pos c7] at H
   have c7b0 : (t410 == t413) = true := beq_iff_eq.mpr c7
   have c7b1 : (t410 != t413) = false := bne_eq_false_iff_eq.mpr c7
   clear c7
   by_cases c8 : t411 = t414
   ·rw [if_pos c8] at H
    have c8b0 : (t411 == t414) = true := beq_iff_eq.mpr c8
    have c8b1 : (t411 != t414) = false := bne_eq_false_iff_eq.mpr c8
    clear c8
    by_cases c9 : (t412 != t415) = true
    ·rw [if_pos c9] at H
     exact absurd H (by simp)
    ·rw [if_neg c9] at H
     have c9b0 : (t412 != t415) = false := by simpa using c9
     (try (have c9b1 : decide (t412 = t415) = true := by simpa using c9))
     (try (have c9b2 : (t412 == t415) = true := by simpa using c9))
     clear c9
     have HC10 := Aside0.mk H
     clear H
     go_enter Try.func4, Try.ntmps4
     go_upto_if 67 with (first | ((with_reducible refine gate_callee (f := 5) rfl ?_); refine goesL_ (some 39) rfl rfl Try.func5 (by kernel_rfl) rfl #[.slice A0 l0.length c0] rfl gmp ?_; (with_reducible refine (laws_rBig.calls _ _ l0 false _ ?side1 ?side2 A2.out).mono ?_); (case side1 => repeat (first | exact HR0.out | (with_reducible refine Kd.C_alloc ?_ _) | (with_reducible refine Kd.C_drewN ?_ _) | (with_reducible refine Kd.C_drew ?_))); (case side2 => exact HC0.out); rintro e w' ⟨rfl, ⟨nd, rfl⟩⟩; refine ⟨_, rfl, ?_⟩) | ((with_reducible refine gate_callee (f := 18) rfl ?_); refine goesL_ (some 41) rfl rfl Try.func18 (by kernel_rfl) rfl #[.slice A0 l0.length c0] rfl gmp ?_; (with_reducible refine (spec_DrawCenterAcross.calls k _ _ l0 t407 _ ?side1 ?side2 A4.out).mono ?_); (case side1 => repeat (first | exact HR0.out | (with_reducible refine Kd.C_alloc ?_ _) | (with_reducible refine Kd.C_drewN ?_ _) | (with_reducible refine Kd.C_drew ?_))); (case side2 => exact HC0.out); rintro e w11 ⟨v408, rfl, ho0, hb⟩; refine ⟨_, rfl, ?_⟩; have n0_ := Aside0.mk (Kd.R_lower ho0 (below_size (bel HB))); have n1_ := Aside0.mk (below_step (bel HB) hb); clear HB; have HO409 := n0_; have HB := n1_; clear n0_ n1_; (try clear hb); (try clear hb2); (try clear hk); (try clear hi); (try clear ho0); obtain ⟨Ao12, co12, eo12⟩ := Kd.R_slice HO409.out; subst eo12) | ((with_reducible refine gate_callee (f := 19) rfl ?_); refine goesL_ (some 44) rfl rfl Try.func19 (by kernel_rfl) rfl #[.slice Ao12 t407.length co12] rfl gmp ?_; (with_reducible refine (impl_CenterAcross.calls k _ _ t407 t410 t411 t412 _ ?side1 ?side2 A5.out).mono ?_); (case side1 => repeat (first | exact (Kd.R_reads' HO409.out).2.2 | (with_reducible refine Kd.C_alloc ?_ _) | (with_reducible refine Kd.C_drewN ?_ _) | (with_reducible refine Kd.C_drew ?_))); (case side2 => exact (Kd.R_reads' HO409.out).2.1); rintro e w13 ⟨rfl, hb⟩; refine ⟨_, rfl, ?_⟩; have n0_ := Aside0.mk (Kd.R_below (rdl HO409) hb); have n1_ := Aside0.mk (below_step (bel HB) hb); clear HO409; clear HB; have HO409 := n0_; have HB := n1_; clear n0_ n1_; (try clear hb); (try clear hb2); (try clear hk); (try clear hi)) | ((with_reducible refine gate_callee (f := 20) rfl ?_); refine goesL_ (some 50) rfl rfl Try.func20 (by kernel_rfl) rfl #[.slice Ao12 t407.length co12] rfl gmp ?_; (with_reducible refine (spec_CenterAcross.calls k _ _ t407 t413 t414 t415 _ ?side1 ?side2 A6.out).mono ?_); (case side1 => repeat (first | exact (Kd.R_reads' HO409.out).2.2 | (with_reducible refine Kd.C_alloc ?_ _) | (with_reducible refine Kd.C_drewN ?_ _) | (with_reducible refine Kd.C_drew ?_))); (case side2 => exact (Kd.R_reads' HO409.out).2.1); rintro e w' ⟨rfl, ⟨nd, rfl⟩⟩; refine ⟨_, rfl, ?_⟩))
     (try simp only [Act.put, List.setIfInBounds_toArray, List.set_cons_zero, List.set_cons_succ])
     go_cut [] (fun wc => ∃ (kq : Nat), Aside0 (laws_FnCenters.j0 kq l0 = some r) ∧ Aside0 (kq ≤ k) ∧ Aside0 (Below w.heap.size w wc))
     case first =>
      have H := HC10.out
      clear HC10
      by_cases c14 : t412 = true
      ·subst c14
       have H1 : ((impl_MirrorLoads.f k t407).bind fun bt416 => ((impl_CenterAcross.f k bt416.1).bind fun bt420 => (if bt416.2 = true then (if bt420.2.2 = true then (if bt420.1 = (wrap64 (-t410)) then (if bt420.2.1 = t411 then ((impl_IsValidLoads.f k bt416.1).bind fun t423 => (if t423 = true then (laws_FnCenters.j0 k l0) else (none))) else (none)) else (none)) else (none)) else (none)))) = some r := by rw [if_pos rfl] at H; exact H
       clear H
       have H := H1
       clear H1
       replace H := Option.bind_eq_some_iff.mp H
       obtain ⟨⟨t416, t417⟩, A150, H⟩ := H
       replace H : ((impl_CenterAcross.f k t416).bind fun bt420 => (if t417 = true then (if bt420.2.2 = true then (if bt420.1 = (wrap64 (-t410)) then (if bt420.2.1 = t411 then ((impl_IsValidLoads.f k t416).bind fun t423 => (if t423 = true then (laws_FnCenters.j0 k l0) else (none))) else (none)) else (none)) else (none)) else (none))) = some r := H
       have A15 := Aside0.mk A150
       clear A150
       replace H := Option.bind_eq_some_iff.mp H
       obtain ⟨⟨t420, t421, t422⟩, A160, H⟩ := H
       replace H : (if t417 = true then (if t422 = true then (if t420 = (wrap64 (-t410)) then (if t421 = t411 then ((impl_IsValidLoads.f k t416).bind fun t423 => (if t423 = true then (laws_FnCenters.j0 k l0) else (none))) else (none)) else (none)) else (none)) else (none)) = some r := H
       have A16 := Aside0.mk A160
       clear A160
       by_cases c17 : t417 = true
       ·subst c17
        have H1 : (if t422 = true then (if t420 = (wrap64 (-t410)) then (if t421 = t411 then ((impl_IsValidLoads.f k t416).bind fun t423 => (if t423 = true then (laws_FnCenters.j0 k l0) else (none))) else (none)) else (none)) else (none)) = some r := by rw [if_pos rfl] at H; exact H
        clear H
        have H := H1
        clear H1
        by_cases c18 : t422 = true
        ·subst c18
         have H1 : (if t420 = (wrap64 (-t410)) then (if t421 = t411 then ((impl_IsValidLoads.f k t416).bind fun t423 => (if t423 = true then (laws_FnCenters.j0 k l0) else (none))) else (none)) else (none)) = some r := by rw [if_pos rfl] at H; exact H
         clear H
         have H := H1
         clear H1
         by_cases c19 : t420 = (wrap64 (-t410))
         ·rw [if_pos c19] at H
          have c19b0 : (t420 == (wrap64 (-t410))) = true := beq_iff_eq.mpr c19
          have c19b1 : (t420 != (wrap64 (-t410))) = false := bne_eq_false_iff_eq.mpr c19
          clear c19
          (first | rw [c19b0] | (simp only [i64_w, i32_w]; rw [c19b0]) | skip)
          by_cases c20 : t421 = t411
          ·rw [if_pos c20] at H
           have c20b0 : (t421 == t411) = true := beq_iff_eq.mpr c20
           have c20b1 : (t421 != t411) = false := bne_eq_false_iff_eq.mpr c20
           clear c20
           replace H := Option.bind_eq_some_iff.mp H
           obtain ⟨t423, A210, H⟩ := H
           replace H : (if t423 = true then (laws_FnCenters.j0 k l0) else (none)) = some r := H
           have A21 := Aside0.mk A210
           clear A210
           by_cases c22 : t423 = true
           ·subst c22
            have H1 : (laws_FnCenters.j0 k l0) = some r := by rw [if_pos rfl] at H; exact H
            clear H
            have H := H1
            clear H1
            have H' := Aside0.mk H
            clear H
            go_wp2_with (first | ((with_reducible refine gate_callee (f := 21) rfl ?_); refine goesL_ (some 70) rfl rfl Try.func21 (by kernel_rfl) rfl #[.slice Ao12 t407.length co12] rfl gmp ?_; (with_reducible refine (impl_MirrorLoads.calls k _ _ t407 t416 true _ ?side1 ?side2 A15.out).mono ?_); (case side1 => repeat (first | exact (Kd.R_reads' HO409.out).2.2 | (with_reducible refine Kd.C_alloc ?_ _) | (with_reducible refine Kd.C_drewN ?_ _) | (with_reducible refine Kd.C_drew ?_))); (case side2 => exact (Kd.R_reads' HO409.out).2.1); rintro e w23 ⟨v418, rfl, ho0, hb⟩; refine ⟨_, rfl, ?_⟩; have n0_ := Aside0.mk (Kd.R_elder' (rdl HO409) (Kd.R_base ho0) hb); have n1_ := Aside0.mk (Kd.R_lower (Kd.R_new' ho0 (Kd.R_lt (rdl HO409))) (below_size (bel HB))); have n2_ := Aside0.mk (below_step (bel HB) hb); clear HO409; clear HB; have HO409 := n0_; have HO419 := n1_; have HB := n2_; clear n0_ n1_ n2_; (try clear hb); (try clear hb2); (try clear hk); (try clear hi); (try clear ho0); obtain ⟨Ao24, co24, eo24⟩ := Kd.R_slice HO419.out; subst eo24) | ((with_reducible refine gate_callee (f := 19) rfl ?_); refine goesL_ (some 75) rfl rfl Try.func19 (by kernel_rfl) rfl #[.slice Ao24 t416.length co24] rfl gmp ?_; (with_reducible refine (impl_CenterAcross.calls k _ _ t416 t420 t421 true _ ?side1 ?side2 A16.out).mono ?_); (case side1 => repeat (first | exact (Kd.R_reads' HO419.out).2.2 | (with_reducible refine Kd.C_alloc ?_ _) | (with_reducible refine Kd.C_drewN ?_ _) | (with_reducible refine Kd.C_drew ?_))); (case side2 => exact (Kd.R_reads' HO419.out).2.1); rintro e w25 ⟨rfl, hb⟩; refine ⟨_, rfl, ?_⟩; have n0_ := Aside0.mk (Kd.R_below (rdl HO409) hb); have n1_ := Aside0.mk (Kd.R_below (rdl HO419) hb); have n2_ := Aside0.mk (below_step (bel HB) hb); clear HO409; clear HO419; clear HB; have HO409 := n0_; have HO419 := n1_; have HB := n2_; clear n0_ n1_ n2_; (try clear hb); (try clear hb2); (try clear hk); (try clear hi)) | (go_at_call 22; (with_reducible refine (impl_IsValidLoads.calls k _ _ t416 true _ ?side1 ?side2 A21.out).mono ?_); (case side1 => repeat (first | exact (Kd.R_reads' HO419.out).2.2 | (with_reducible refine Kd.C_alloc ?_ _) | (with_reducible refine Kd.C_drewN ?_ _) | (with_reducible refine Kd.C_drew ?_))); (case side2 => exact (Kd.R_reads' HO419.out).2.1); rintro e w26 ⟨rfl, hb⟩; have n0_ := Aside0.mk (Kd.R_below (rdl HO409) hb); have n1_ := Aside0.mk (Kd.R_below (rdl HO419) hb); have n2_ := Aside0.mk (below_step (bel HB) hb); clear HO409; clear HO419; clear HB; have HO409 := n0_; have HO419 := n1_; have HB := n2_; clear n0_ n1_ n2_; (try clear hb); (try clear hb2); (try clear hk); (try clear hi)))
            go_meet
            case rel => exact ⟨_, H', ⟨by first | omega | exact Nat.le_refl _⟩, ⟨bel HB⟩⟩
           ·replace c22 := Bool.eq_false_iff.mpr c22
            subst c22
            have H1 : (none) = some r := by rw [if_neg (show ¬ (false = true) by decide)] at H; exact H
            clear H
            have H := H1
            clear H1
            exact absurd H (by simp)
          ·rw [if_neg c20] at H
           exact absurd H (by simp)
         ·rw [if_neg c19] at H
          exact absurd H (by simp)
        ·replace c18 := Bool.eq_false_iff.mpr c18
         subst c18
         have H1 : (none) = some r := by rw [if_neg (show ¬ (false = true) by decide)] at H; exact H
         clear H
         have H := H1
         clear H1
         exact absurd H (by simp)
       ·replace c17 := Bool.eq_false_iff.mpr c17
        subst c17
        have H1 : (none) = some r := by rw [if_neg (show ¬ (false = true) by decide)] at H; exact H
        clear H
        have H := H1
        clear H1
        exact absurd H (by simp)
      ·replace c14 := Bool.eq_false_iff.mpr c14
       subst c14
       have H1 : (laws_FnCenters.j0 k l0) = some r := by rw [if_neg (show ¬ (false = true) by decide)] at H; exact H
       clear H
       have H := H1
       clear H1
       have H' := Aside0.mk H
       clear H
       go_wp2
       go_meet
       case rel => exact ⟨_, H', ⟨by first | omega | exact Nat.le_refl _⟩, ⟨bel HB⟩⟩
     case rest =>
      clear HC10
      try clear c1
      try clear c2
      try clear p2
      try clear c3
      try clear c4
      try clear c5
      try clear p6
      try clear c7
      try clear c7b0
      try clear c7b1
      try clear c8
      try clear c8b0
      try clear c8b1
      try clear c9
      try clear c9b0
      try clear c9b1
      try clear c9b2
      try clear c14
      try clear c17
      try clear c18
      try clear c19
      try clear c19b0
      try clear c19b1
      try clear c20
      try clear c20b0
      try clear c20b1
      try clear c21
      try clear c22
      obtain ⟨kq, HA, HJ9, HB⟩ := hcut
      cases kq with
      | zero => exact absurd HA.out (by simp [laws_FnCenters.j0])
      | succ kj9 =>
       have H := HA.out
       clear HA
       simp only [laws_FnCenters.j0] at H
       replace H := Option.bind_eq_some_iff.mp H
       obtain ⟨⟨t424, t425, t426, t427⟩, A270, H⟩ := H
       replace H : ((impl_StabilityMargin.f kj9 t424 t425 t426 t427).bind fun bt430 => ((spec_StabilityMargin.f kj9 t424 t425 t426 t427).bind fun bt433 => (if bt430.1 = bt433.1 then (if bt430.2.1 = bt433.2.1 then (if (bt430.2.2 != bt433.2.2) = true then (none) else (if bt430.2.2 = true then ((impl_CenterHeight.f kj9 t424 t425 t426).bind fun bt436 => (if bt436.2.2 = true then (if bt436.2.1 = bt430.2.1 then (if (wrap64 (bt436.1 + bt430.1)) = (wrap64 (t427 * bt436.2.1)) then (laws_FnCenters.j1 kj9 l0) else (none)) else (none)) else (none))) else (laws_FnCenters.j1 kj9 l0))) else (none)) else (none)))) = some r := H
       have A27 := Aside0.mk A270
       clear A270
       replace H := Option.bind_eq_some_iff.mp H
       obtain ⟨⟨t430, t431, t432⟩, A280, H⟩ := H
       replace H : ((spec_StabilityMargin.f kj9 t424 t425 t426 t427).bind fun bt433 => (if t430 = bt433.1 then (if t431 = bt433.2.1 then (if (t432 != bt433.2.2) = true then (none) else (if t432 = true then ((impl_CenterHeight.f kj9 t424 t425 t426).bind fun bt436 => (if bt436.2.2 = true then (if bt436.2.1 = t431 then (if (wrap64 (bt436.1 + t430)) = (wrap64 (t427 * bt436.2.1)) then (laws_FnCenters.j1 kj9 l0) else (none)) else (none)) else (none))) else (laws_FnCenters.j1 kj9 l0))) else (none)) else (none))) = some r := H
       have A28 := Aside0.mk A280
       clear A280
       replace H := Option.bind_eq_some_iff.mp H
       obtain ⟨⟨t433, t434, t435⟩, A290, H⟩ := H
       replace H : (if t430 = t433 then (if t431 = t434 then (if (t432 != t435) = true then (none) else (if t432 = true then ((impl_CenterHeight.f kj9 t424 t425 t426).bind fun bt436 => (if bt436.2.2 = true then (if bt436.2.1 = t431 then (if (wrap64 (bt436.1 + t430)) = (wrap64 (t427 * bt436.2.1)) then (laws_FnCenters.j1 kj9 l0) else (none)) else (none)) else (none))) else (laws_FnCenters.j1 kj9 l0))) else (none)) else (none)) = some r := H
       have A29 := Aside0.mk A290
       clear A290
       by_cases c30 : t430 = t433
       ·rw [if_pos c30] at H
        have c30b0 : (t430 == t433) = true := beq_iff_eq.mpr c30
        have c30b1 : (t430 != t433) = false := bne_eq_false_iff_eq.mpr c30
        clear c30
        by_cases c31 : t431 = t434
        ·rw [if_pos c31] at H
         have c31b0 : (t431 == t434) = true := beq_iff_eq.mpr c31
         have c31b1 : (t431 != t434) = false := bne_eq_false_iff_eq.mpr c31
         clear c31
         by_cases c32 : (t432 != t435) = true
         ·rw [if_pos c32] at H
          exact absurd H (by simp)
         ·rw [if_neg c32] at H
          have c32b0 : (t432 != t435) = false := by simpa using c32
          (try (have c32b1 : decide (t432 = t435) = true := by simpa using c32))
          (try (have c32b2 : (t432 == t435) = true := by simpa using c32))
          clear c32
          have HC33 := Aside0.mk H
          clear H
          go_upto_if 139 with (first | ((with_reducible refine gate_callee (f := 23) rfl ?_); refine goesL_ (some 103) rfl rfl Try.func23 (by kernel_rfl) rfl #[.slice A0 l0.length c0] rfl gmp ?_; (with_reducible refine (spec_DrawStabilityMargin.calls kj9 _ _ l0 t424 t425 t426 t427 _ ?side1 ?side2 A27.out).mono ?_); (case side1 => exact cdl (Kd.C_below HR0.out HB.out)); (case side2 => exact HC0.out); rintro e w34 ⟨v428, rfl, ho0, hb⟩; refine ⟨_, rfl, ?_⟩; have n0_ := Aside0.mk (Kd.R_lower ho0 (below_size (bel HB))); have n1_ := Aside0.mk (below_step (bel HB) hb); clear HB; have HO429 := n0_; have HB := n1_; clear n0_ n1_; (try clear hb); (try clear hb2); (try clear hk); (try clear hi); (try clear ho0); obtain ⟨Ao35, co35, eo35⟩ := Kd.R_slice HO429.out; subst eo35) | ((with_reducible refine gate_callee (f := 24) rfl ?_); refine goesL_ (some 113) rfl rfl Try.func24 (by kernel_rfl) rfl #[.slice Ao35 t424.length co35, .int .i64 t425, .int .i64 t426, .int .i64 t427] rfl gmp ?_; (with_reducible refine (impl_StabilityMargin.calls kj9 _ _ t424 t425 t426 t427 t430 t431 t432 _ ?side1 ?side2 A28.out).mono ?_); (case side1 => repeat (first | exact (Kd.R_reads' HO429.out).2.2 | (with_reducible refine Kd.C_alloc ?_ _) | (with_reducible refine Kd.C_drewN ?_ _) | (with_reducible refine Kd.C_drew ?_))); (case side2 => exact (Kd.R_reads' HO429.out).2.1); rintro e w36 ⟨rfl, hb⟩; refine ⟨_, rfl, ?_⟩; have n0_ := Aside0.mk (Kd.R_below (rdl HO429) hb); have n1_ := Aside0.mk (below_step (bel HB) hb); clear HO429; clear HB; have HO429 := n0_; have HB := n1_; clear n0_ n1_; (try clear hb); (try clear hb2); (try clear hk); (try clear hi)) | ((with_reducible refine gate_callee (f := 25) rfl ?_); refine goesL_ (some 122) rfl rfl Try.func25 (by kernel_rfl) rfl #[.slice Ao35 t424.length co35, .int .i64 t425, .int .i64 t426, .int .i64 t427] rfl gmp ?_; (with_reducible refine (spec_StabilityMargin.calls kj9 _ _ t424 t425 t426 t427 t433 t434 t435 _ ?side1 ?side2 A29.out).mono ?_); (case side1 => repeat (first | exact (Kd.R_reads' HO429.out).2.2 | (with_reducible refine Kd.C_alloc ?_ _) | (with_reducible refine Kd.C_drewN ?_ _) | (with_reducible refine Kd.C_drew ?_))); (case side2 => exact (Kd.R_reads' HO429.out).2.1); rintro e w' ⟨rfl, ⟨nd, rfl⟩⟩; refine ⟨_, rfl, ?_⟩))
          (try simp only [Act.put, List.setIfInBounds_toArray, List.set_cons_zero, List.set_cons_succ])
          go_cut [] (fun wc => ∃ (kq : Nat), Aside0 (laws_FnCenters.j1 kq l0 = some r) ∧ Aside0 (kq ≤ kj9) ∧ Aside0 (Below w.heap.size w wc))
          case first =>
           have H := HC33.out
           clear HC33
           by_cases c37 : t432 = true
           ·subst c37
            have H1 : ((impl_CenterHeight.f kj9 t424 t425 t426).bind fun bt436 => (if bt436.2.2 = true then (if bt436.2.1 = t431 then (if (wrap64 (bt436.1 + t430)) = (wrap64 (t427 * bt436.2.1)) then (laws_FnCenters.j1 kj9 l0) else (none)) else (none)) else (none))) = some r := by rw [if_pos rfl] at H; exact H
            clear H
            have H := H1
            clear H1
            replace H := Option.bind_eq_some_iff.mp H
            obtain ⟨⟨t436, t437, t438⟩, A380, H⟩ := H
            replace H : (if t438 = true then (if t437 = t431 then (if (wrap64 (t436 + t430)) = (wrap64 (t427 * t437)) then (laws_FnCenters.j1 kj9 l0) else (none)) else (none)) else (none)) = some r := H
            have A38 := Aside0.mk A380
            clear A380
            by_cases c39 : t438 = true
            ·subst c39
             have H1 : (if t437 = t431 then (if (wrap64 (t436 + t430)) = (wrap64 (t427 * t437)) then (laws_FnCenters.j1 kj9 l0) else (none)) else (none)) = some r := by rw [if_pos rfl] at H; exact H
             clear H
             have H := H1
             clear H1
             by_cases c40 : t437 = t431
             ·rw [if_pos c40] at H
              have c40b0 : (t437 == t431) = true := beq_iff_eq.mpr c40
              have c40b1 : (t437 != t431) = false := bne_eq_false_iff_eq.mpr c40
              clear c40
              (first | rw [c40b0] | (simp only [i64_w, i32_w]; rw [c40b0]) | skip)
              by_cases c41 : (wrap64 (t436 + t430)) = (wrap64 (t427 * t437))
              ·rw [if_pos c41] at H
               have c41b0 : ((wrap64 (t436 + t430)) == (wrap64 (t427 * t437))) = true := beq_iff_eq.mpr c41
               have c41b1 : ((wrap64 (t436 + t430)) != (wrap64 (t427 * t437))) = false := bne_eq_false_iff_eq.mpr c41
               clear c41
               have H' := Aside0.mk H
               clear H
               go_wp2_with (first | ((with_reducible refine gate_callee (f := 26) rfl ?_); refine goesL_ (some 144) rfl rfl Try.func26 (by kernel_rfl) rfl #[.slice Ao35 t424.length co35, .int .i64 t425, .int .i64 t426] rfl gmp ?_; (with_reducible refine (impl_CenterHeight.calls kj9 _ _ t424 t425 t426 t436 t437 true _ ?side1 ?side2 A38.out).mono ?_); (case side1 => repeat (first | exact (Kd.R_reads' HO429.out).2.2 | (with_reducible refine Kd.C_alloc ?_ _) | (with_reducible refine Kd.C_drewN ?_ _) | (with_reducible refine Kd.C_drew ?_))); (case side2 => exact (Kd.R_reads' HO429.out).2.1); rintro e w42 ⟨rfl, hb⟩; refine ⟨_, rfl, ?_⟩; have n0_ := Aside0.mk (Kd.R_below (rdl HO429) hb); have n1_ := Aside0.mk (below_step (bel HB) hb); clear HO429; clear HB; have HO429 := n0_; have HB := n1_; clear n0_ n1_; (try clear hb); (try clear hb2); (try clear hk); (try clear hi)))
               go_meet
               case rel => exact ⟨_, H', ⟨by have := HJ9.out; first | omega | exact Nat.le_refl _⟩, ⟨bel HB⟩⟩
              ·rw [if_neg c41] at H
               exact absurd H (by simp)
             ·rw [if_neg c40] at H
              exact absurd H (by simp)
            ·replace c39 := Bool.eq_false_iff.mpr c39
             subst c39
             have H1 : (none) = some r := by rw [if_neg (show ¬ (false = true) by decide)] at H; exact H
             clear H
             have H := H1
             clear H1
             exact absurd H (by simp)
           ·replace c37 := Bool.eq_false_iff.mpr c37
            subst c37
            have H1 : (laws_FnCenters.j1 kj9 l0) = some r := by rw [if_neg (show ¬ (false = true) by decide)] at H; exact H
            clear H
            have H := H1
            clear H1
            have H' := Aside0.mk H
            clear H
            go_wp2
            go_meet
            case rel => exact ⟨_, H', ⟨by have := HJ9.out; first | omega | exact Nat.le_refl _⟩, ⟨bel HB⟩⟩
          case rest =>
           clear HC33
           try clear c1
           try clear c2
           try clear p2
           try clear c3
           try clear c4
           try clear c5
           try clear p6
           try clear c7
           try clear c7b0
           try clear c7b1
           try clear c8
           try clear c8b0
           try clear c8b1
           try clear c9
           try clear c9b0
           try clear c9b1
           try clear c9b2
           try clear c14
           try clear c17
           try clear c18
           try clear c19
           try clear c19b0
           try clear c19b1
           try clear c20
           try clear c20b0
           try clear c20b1
           try clear c21
           try clear c22
           try clear c23
           try clear c24
           try clear c25
           try clear c26
           try clear c30
           try clear c30b0
           try clear c30b1
           try clear c31
           try clear c31b0
           try clear c31b1
           try clear c32
           try clear c32b0
           try clear c32b1
           try clear c32b2
           try clear c37
           try clear c39
           try clear c40
           try clear c40b0
           try clear c40b1
           try clear c41
           try clear c41b0
           try clear c41b1
           try clear p2
           try clear p6
           obtain ⟨kq, HA, HJ32, HB⟩ := hcut
           cases kq with
           | zero => exact absurd HA.out (by simp [laws_FnCenters.j1])
           | succ kj32 =>
            have H := HA.out
            clear HA
            simp only [laws_FnCenters.j1] at H
            replace H := Option.bind_eq_some_iff.mp H
            obtain ⟨⟨t439, t440⟩, A430, H⟩ := H
            replace H : ((impl_WeightAbove.f kj32 t439 t440).bind fun bt443 => ((spec_WeightAbove.f kj32 t439 t440).bind fun bt445 => (if bt443.1 = bt445.1 then (if (bt443.2 != bt445.2) = true then (none) else (if bt443.2 = true then ((impl_LoadMoments.f kj32 t439).bind fun bt447 => (if bt447.2.2.2 = true then (if bt443.1 > bt447.1 then (none) else (if bt443.1 < 0 then (none) else (some true))) else (none))) else (some true))) else (none)))) = some r := H
            have A43 := Aside0.mk A430
            clear A430
            replace H := Option.bind_eq_some_iff.mp H
            obtain ⟨⟨t443, t444⟩, A440, H⟩ := H
            replace H : ((spec_WeightAbove.f kj32 t439 t440).bind fun bt445 => (if t443 = bt445.1 then (if (t444 != bt445.2) = true then (none) else (if t444 = true then ((impl_LoadMoments.f kj32 t439).bind fun bt447 => (if bt447.2.2.2 = true then (if t443 > bt447.1 then (none) else (if t443 < 0 then (none) else (some true))) else (none))) else (some true))) else (none))) = some r := H
            have A44 := Aside0.mk A440
            clear A440
            replace H := Option.bind_eq_some_iff.mp H
            obtain ⟨⟨t445, t446⟩, A450, H⟩ := H
            replace H : (if t443 = t445 then (if (t444 != t446) = true then (none) else (if t444 = true then ((impl_LoadMoments.f kj32 t439).bind fun bt447 => (if bt447.2.2.2 = true then (if t443 > bt447.1 then (none) else (if t443 < 0 then (none) else (some true))) else (none))) else (some true))) else (none)) = some r := H
            have A45 := Aside0.mk A450
            clear A450
            by_cases c46 : t443 = t445
            ·rw [if_pos c46] at H
             have c46b0 : (t443 == t445) = true := beq_iff_eq.mpr c46
             have c46b1 : (t443 != t445) = false := bne_eq_false_iff_eq.mpr c46
             clear c46
             by_cases c47 : (t444 != t446) = true
             ·rw [if_pos c47] at H
              exact absurd H (by simp)
             ·rw [if_neg c47] at H
              have c47b0 : (t444 != t446) = false := by simpa using c47
              (try (have c47b1 : decide (t444 = t446) = true := by simpa using c47))
              (try (have c47b2 : (t444 == t446) = true := by simpa using c47))
              clear c47
              by_cases c48 : t444 = true
              ·subst c48
               have H1 : ((impl_LoadMoments.f kj32 t439).bind fun bt447 => (if bt447.2.2.2 = true then (if t443 > bt447.1 then (none) else (if t443 < 0 then (none) else (some true))) else (none))) = some r := by rw [if_pos rfl] at H; exact H
               clear H
               have H := H1
               clear H1
               replace H := Option.bind_eq_some_iff.mp H
               obtain ⟨⟨t447, t448, t449, t450⟩, A490, H⟩ := H
               replace H : (if t450 = true then (if t443 > t447 then (none) else (if t443 < 0 then (none) else (some true))) else (none)) = some r := H
               have A49 := Aside0.mk A490
               clear A490
               by_cases c50 : t450 = true
               ·subst c50
                have H1 : (if t443 > t447 then (none) else (if t443 < 0 then (none) else (some true))) = some r := by rw [if_pos rfl] at H; exact H
                clear H
                have H := H1
                clear H1
                by_cases c51 : t443 > t447
                ·rw [if_pos c51] at H
                 exact absurd H (by simp)
                ·rw [if_neg c51] at H
                 have c51b0 : decide (t447 < t443) = false := decide_eq_false c51
                 clear c51
                 by_cases c52 : t443 < 0
                 ·rw [if_pos c52] at H
                  exact absurd H (by simp)
                 ·rw [if_neg c52] at H
                  have c52b0 : decide (t443 < 0) = false := decide_eq_false c52
                  clear c52
                  obtain rfl := Option.some.inj H
                  go_wp2_with (first | ((with_reducible refine gate_callee (f := 27) rfl ?_); refine goesL_ (some 166) rfl rfl Try.func27 (by kernel_rfl) rfl #[.slice A0 l0.length c0] rfl gmp ?_; (with_reducible refine (spec_DrawWeightAbove.calls kj32 _ _ l0 t439 t440 _ ?side1 ?side2 A43.out).mono ?_); (case side1 => exact cdl (Kd.C_below HR0.out HB.out)); (case side2 => exact HC0.out); rintro e w53 ⟨v441, rfl, ho0, hb⟩; refine ⟨_, rfl, ?_⟩; have n0_ := Aside0.mk (Kd.R_lower ho0 (below_size (bel HB))); have n1_ := Aside0.mk (below_step (bel HB) hb); clear HB; have HO442 := n0_; have HB := n1_; clear n0_ n1_; (try clear hb); (try clear hb2); (try clear hk); (try clear hi); (try clear ho0); obtain ⟨Ao54, co54, eo54⟩ := Kd.R_slice HO442.out; subst eo54) | ((with_reducible refine gate_callee (f := 28) rfl ?_); refine goesL_ (some 172) rfl rfl Try.func28 (by kernel_rfl) rfl #[.slice Ao54 t439.length co54, .int .i64 t440] rfl gmp ?_; (with_reducible refine (impl_WeightAbove.calls kj32 _ _ t439 t440 t443 true _ ?side1 ?side2 A44.out).mono ?_); (case side1 => repeat (first | exact (Kd.R_reads' HO442.out).2.2 | (with_reducible refine Kd.C_alloc ?_ _) | (with_reducible refine Kd.C_drewN ?_ _) | (with_reducible refine Kd.C_drew ?_))); (case side2 => exact (Kd.R_reads' HO442.out).2.1); rintro e w55 ⟨rfl, hb⟩; refine ⟨_, rfl, ?_⟩; have n0_ := Aside0.mk (Kd.R_below (rdl HO442) hb); have n1_ := Aside0.mk (below_step (bel HB) hb); clear HO442; clear HB; have HO442 := n0_; have HB := n1_; clear n0_ n1_; (try clear hb); (try clear hb2); (try clear hk); (try clear hi)) | ((with_reducible refine gate_callee (f := 29) rfl ?_); refine goesL_ (some 178) rfl rfl Try.func29 (by kernel_rfl) rfl #[.slice Ao54 t439.length co54, .int .i64 t440] rfl gmp ?_; (with_reducible refine (spec_WeightAbove.calls kj32 _ _ t439 t440 t445 t446 _ ?side1 ?side2 A45.out).mono ?_); (case side1 => repeat (first | exact (Kd.R_reads' HO442.out).2.2 | (with_reducible refine Kd.C_alloc ?_ _) | (with_reducible refine Kd.C_drewN ?_ _) | (with_reducible refine Kd.C_drew ?_))); (case side2 => exact (Kd.R_reads' HO442.out).2.1); rintro e w' ⟨rfl, ⟨nd, rfl⟩⟩; refine ⟨_, rfl, ?_⟩) | ((with_reducible refine gate_callee (f := 9) rfl ?_); refine goesL_ (some 192) rfl rfl Try.func9 (by kernel_rfl) rfl #[.slice Ao54 t439.length co54] rfl gmp ?_; (with_reducible refine (impl_LoadMoments.calls kj32 _ _ t439 t447 t448 t449 true _ ?side1 ?side2 A49.out).mono ?_); (case side1 => repeat (first | exact (Kd.R_reads' HO442.out).2.2 | (with_reducible refine Kd.C_alloc ?_ _) | (with_reducible refine Kd.C_drewN ?_ _) | (with_reducible refine Kd.C_drew ?_))); (case side2 => exact (Kd.R_reads' HO442.out).2.1); rintro e w56 ⟨rfl, hb⟩; refine ⟨_, rfl, ?_⟩; have n0_ := Aside0.mk (Kd.R_below (rdl HO442) hb); have n1_ := Aside0.mk (below_step (bel HB) hb); clear HO442; clear HB; have HO442 := n0_; have HB := n1_; clear n0_ n1_; (try clear hb); (try clear hb2); (try clear hk); (try clear hi)))
                  go_ret
                  exact ⟨by first | rfl | (simp [errW_none, errW_some] <;> rfl) | (simp [*, errW_none, errW_some] <;> rfl), bel HB⟩
               ·replace c50 := Bool.eq_false_iff.mpr c50
                subst c50
                have H1 : (none) = some r := by rw [if_neg (show ¬ (false = true) by decide)] at H; exact H
                clear H
                have H := H1
                clear H1
                exact absurd H (by simp)
              ·replace c48 := Bool.eq_false_iff.mpr c48
               subst c48
               have H1 : (some true) = some r := by rw [if_neg (show ¬ (false = true) by decide)] at H; exact H
               clear H
               have H := H1
               clear H1
               obtain rfl := Option.some.inj H
               go_wp2_with (first | ((with_reducible refine gate_callee (f := 27) rfl ?_); refine goesL_ (some 166) rfl rfl Try.func27 (by kernel_rfl) rfl #[.slice A0 l0.length c0] rfl gmp ?_; (with_reducible refine (spec_DrawWeightAbove.calls kj32 _ _ l0 t439 t440 _ ?side1 ?side2 A43.out).mono ?_); (case side1 => exact cdl (Kd.C_below HR0.out HB.out)); (case side2 => exact HC0.out); rintro e w57 ⟨v441, rfl, ho0, hb⟩; refine ⟨_, rfl, ?_⟩; have n0_ := Aside0.mk (Kd.R_lower ho0 (below_size (bel HB))); have n1_ := Aside0.mk (below_step (bel HB) hb); clear HB; have HO442 := n0_; have HB := n1_; clear n0_ n1_; (try clear hb); (try clear hb2); (try clear hk); (try clear hi); (try clear ho0); obtain ⟨Ao58, co58, eo58⟩ := Kd.R_slice HO442.out; subst eo58) | ((with_reducible refine gate_callee (f := 28) rfl ?_); refine goesL_ (some 172) rfl rfl Try.func28 (by kernel_rfl) rfl #[.slice Ao58 t439.length co58, .int .i64 t440] rfl gmp ?_; (with_reducible refine (impl_WeightAbove.calls kj32 _ _ t439 t440 t443 false _ ?side1 ?side2 A44.out).mono ?_); (case side1 => repeat (first | exact (Kd.R_reads' HO442.out).2.2 | (with_reducible refine Kd.C_alloc ?_ _) | (with_reducible refine Kd.C_drewN ?_ _) | (with_reducible refine Kd.C_drew ?_))); (case side2 => exact (Kd.R_reads' HO442.out).2.1); rintro e w59 ⟨rfl, hb⟩; refine ⟨_, rfl, ?_⟩; have n0_ := Aside0.mk (Kd.R_below (rdl HO442) hb); have n1_ := Aside0.mk (below_step (bel HB) hb); clear HO442; clear HB; have HO442 := n0_; have HB := n1_; clear n0_ n1_; (try clear hb); (try clear hb2); (try clear hk); (try clear hi)) | ((with_reducible refine gate_callee (f := 29) rfl ?_); refine goesL_ (some 178) rfl rfl Try.func29 (by kernel_rfl) rfl #[.slice Ao58 t439.length co58, .int .i64 t440] rfl gmp ?_; (with_reducible refine (spec_WeightAbove.calls kj32 _ _ t439 t440 t445 t446 _ ?side1 ?side2 A45.out).mono ?_); (case side1 => repeat (first | exact (Kd.R_reads' HO442.out).2.2 | (with_reducible refine Kd.C_alloc ?_ _) | (with_reducible refine Kd.C_drewN ?_ _) | (with_reducible refine Kd.C_drew ?_))); (case side2 => exact (Kd.R_reads' HO442.out).2.1); rintro e w' ⟨rfl, ⟨nd, rfl⟩⟩; refine ⟨_, rfl, ?_⟩))
               go_ret
               exact ⟨by first | rfl | (simp [errW_none, errW_some] <;> rfl) | (simp [*, errW_none, errW_some] <;> rfl), bel HB⟩
            ·rw [if_neg c46] at H
             exact absurd H (by simp)
        ·rw [if_neg c31] at H
         exact absurd H (by simp)
       ·rw [if_neg c30] at H
        exact absurd H (by simp)
   ·rw [if_neg c8] at H
    exact absurd H (by simp)
  ·rw [if_neg c7] at H
   exact absurd H (by simp)

/-- THE ONE PURE STATEMENT of laws_FnCenters. -/
def laws_FnCenters.Pure : Prop := ∀ (l0 : List Int), (l0.length ≤ maxLen ∧ ∀ z451, z451 ∈ l0 → (Lit.int .u8 z451).wf = true) → ∃ k, laws_FnCenters.f k l0 = some true
theorem laws_FnCenters.walk (P : laws_FnCenters.Pure) (A0 : Option Addr) (c0 : Nat) (l0 : List Int) (w : World) (hr0 : Kd.C (Kd.int .u8) w A0 l0.length l0) (hc0 : l0.length ≤ c0) (g0 : (l0.length ≤ maxLen ∧ ∀ z452, z452 ∈ l0 → (Lit.int .u8 z452).wf = true)) :
  Calls Try.prog 4 #[.slice A0 l0.length c0] w fun e w' => e = .returned (.bool true) ∧ Below w.heap.size w w' := by
 obtain ⟨k, h⟩ := P l0 g0
 refine (laws_FnCenters.calls k _ _ l0 true w hr0 hc0 h).mono ?_
 rintro e w' ⟨rfl, hd⟩
 exact ⟨rfl, hd⟩

end Go.Proofs.Ytkahifpcimoogaa.P
