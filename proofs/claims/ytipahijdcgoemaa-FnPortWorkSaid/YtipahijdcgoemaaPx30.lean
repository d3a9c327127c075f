-- Written by a program of this session over the translation (a variant of the printer, see wip/gen); Lean checks it.
import Derived.Test.YtipahijdcgoemaaPx0
import Derived.Test.YtipahijdcgoemaaPx1
import Derived.Test.YtipahijdcgoemaaPx8
import Derived.Test.YtipahijdcgoemaaPx22
import Derived.Test.YtipahijdcgoemaaPx24
import Derived.Test.YtipahijdcgoemaaPx26
import Derived.Test.YtipahijdcgoemaaPx27
import Derived.Test.YtipahijdcgoemaaPx29
namespace Go.Proofs.Ytipahijdcgoemaa.P
open Go.RowKit Go.Proofs.YtipahijdcgoemaaW.PrintWords Go.Proofs.YtipahijdcgoemaaW.PrintLast Go.Proofs.YtipahijdcgoemaaW.PrintMore
attribute [local go_sem] Go.Proofs.Ytipahijdcgoemaa.V.isSome_setCell max2_int min2_int max_two min_two max_three min_three max_four min_four
set_option linter.unusedVariables false
set_option linter.unusedSimpArgs false
/-! ### laws_FnPortWork: function 3 -/
mutual
def laws_FnPortWork.l0 : Nat → List Int → List Int → List Int → Int → Int → Int → Int → List Int → Option (Bool)
 | 0, _, _, _, _, _, _, _, _ => none
 | k + 1, x4, x12, x14, x18, x19, x523000, x523001, x523002 => if x19 ≤ 9 then ((impl_PortWork.f k x523000 x523001 x523002 x4 x19).bind fun bt551 => (if bt551.2.2 = true then (laws_FnPortWork.l1 k x4 x12 x14 (wrap64 (x18 + (bt551.1.length : Int))) x19 bt551.2.1 0 x523000 x523001 x523002) else (none))) else (laws_FnPortWork.l2 k x14 x18 1 x523000 x523001 x523002)
def laws_FnPortWork.l1 : Nat → List Int → List Int → List Int → Int → Int → List Int → Int → Int → Int → List Int → Option (Bool)
 | 0, _, _, _, _, _, _, _, _, _, _ => none
 | k + 1, x4, x12, x14, x18, x19, x21, x23, x523000, x523001, x523002 => if x23 < (x21.length : Int) then (if 0 ≤ x23 then ((laws_vHas.f k x12 (rd x21 x23)).bind fun t559 => (if t559 = true then (laws_FnPortWork.l1 k x4 x12 x14 x18 x19 x21 (wrap64 (x23 + 1)) x523000 x523001 x523002) else (none))) else (none)) else (laws_FnPortWork.l0 k x4 x12 x14 x18 (wrap64 (x19 + 1)) x523000 x523001 x523002)
def laws_FnPortWork.l2 : Nat → List Int → Int → Int → Int → Int → List Int → Option (Bool)
 | 0, _, _, _, _, _, _ => none
 | k + 1, x14, x18, x24, x523000, x523001, x523002 => if x24 < (x14.length : Int) then (if 0 ≤ (wrap64 (x24 - 1)) then (if (wrap64 (x24 - 1)) < (x14.length : Int) then (if 0 ≤ (wrap64 ((rd x14 (wrap64 (x24 - 1))) - 1)) then (if (wrap64 ((rd x14 (wrap64 (x24 - 1))) - 1)) < (x523002.length : Int) then (if 0 ≤ x24 then (if 0 ≤ (wrap64 ((rd x14 x24) - 1)) then (if (wrap64 ((rd x14 x24) - 1)) < (x523002.length : Int) then (if (rd x523002 (wrap64 ((rd x14 (wrap64 (x24 - 1))) - 1))) < (rd x523002 (wrap64 ((rd x14 x24) - 1))) then (none) else (laws_FnPortWork.l2 k x14 x18 (wrap64 (x24 + 1)) x523000 x523001 x523002)) else (none)) else (none)) else (none)) else (none)) else (none)) else (none)) else (none)) else (some (x18 == (x523002.length : Int)))
end
def laws_FnPortWork.f (k : Nat) (l0 : List Int) : Option (Bool) := (laws_vBig.f l0).bind fun t512 => (if t512 = true then (some true) else ((spec_DrawPortWork.f k l0).bind fun bt513 => ((impl_PortWork.f k bt513.1 bt513.2.1 bt513.2.2.1 bt513.2.2.2.1 bt513.2.2.2.2).bind fun bt523 => ((spec_PortWork.f k bt513.1 bt513.2.1 bt513.2.2.1 bt513.2.2.2.1 bt513.2.2.2.2).bind fun bt530 => (if (bt523.2.2 != bt530.2.2) = true then (none) else ((laws_vInts.f k bt523.1 bt530.1).bind fun t537 => (if t537 = true then ((laws_vInts.f k bt523.2.1 bt530.2.1).bind fun t538 => (if t538 = true then (if bt523.2.2 = true then ((impl_ShiftedBoxes.f k bt513.1 bt513.2.1 bt513.2.2.1 bt513.2.2.2.1).bind fun bt539 => ((impl_LoadOrder.f bt513.1 bt513.2.1 bt513.2.2.1).bind fun bt543 => ((impl_RowPorts.f k bt513.1 bt513.2.1 bt513.2.2.1 bt513.2.2.2.1).bind fun bt547 => (if bt539.2 = true then (if bt543.2 = true then (if bt547.2 = true then (if (bt543.1.length : Int) = (bt513.2.2.1.length : Int) then (if (bt547.1.length : Int) = bt513.1 then (laws_FnPortWork.l0 k bt513.2.2.2.1 bt539.1 bt543.1 0 1 bt513.1 bt513.2.1 bt513.2.2.1) else (none)) else (none)) else (none)) else (none)) else (none))))) else (some ((bt523.1.length : Int) == 0))) else (none))) else (none))))))))
theorem laws_FnPortWork.mono_l : ∀ k, (∀ y0 y1 y2 y3 y4 y5 y6 y7, LeO (laws_FnPortWork.l0 k y0 y1 y2 y3 y4 y5 y6 y7) (laws_FnPortWork.l0 (k + 1) y0 y1 y2 y3 y4 y5 y6 y7)) ∧ (∀ y0 y1 y2 y3 y4 y5 y6 y7 y8 y9, LeO (laws_FnPortWork.l1 k y0 y1 y2 y3 y4 y5 y6 y7 y8 y9) (laws_FnPortWork.l1 (k + 1) y0 y1 y2 y3 y4 y5 y6 y7 y8 y9)) ∧ (∀ y0 y1 y2 y3 y4 y5, LeO (laws_FnPortWork.l2 k y0 y1 y2 y3 y4 y5) (laws_FnPortWork.l2 (k + 1) y0 y1 y2 y3 y4 y5))
 | 0 => ⟨fun _ _ _ _ _ _ _ _ r h => by simp [laws_FnPortWork.l0] at h, fun _ _ _ _ _ _ _ _ _ _ r h => by simp [laws_FnPortWork.l1] at h, fun _ _ _ _ _ _ r h => by simp [laws_FnPortWork.l2] at h⟩
 | k + 1 => by
  obtain ⟨ih0, ih1, ih2⟩ := laws_FnPortWork.mono_l k
  refine ⟨?_, ?_, ?_⟩
  ·intro y0 y1 y2 y3 y4 y5 y6 y7
   unfold laws_FnPortWork.l0
   repeat' first
   | (with_reducible exact ih0 _ _ _ _ _ _ _ _)
   | (with_reducible exact ih1 _ _ _ _ _ _ _ _ _ _)
   | (with_reducible exact ih2 _ _ _ _ _ _)
   | (with_reducible exact impl_PortWork.mono _ _ _ _ _ _)
   | (with_reducible exact impl_RowPorts.mono _ _ _ _ _)
   | (with_reducible exact impl_ShiftedBoxes.mono _ _ _ _ _)
   | (with_reducible exact laws_vHas.mono _ _ _)
   | (with_reducible exact laws_vInts.mono _ _ _)
   | (with_reducible exact spec_DrawPortWork.mono _ _)
   | (with_reducible exact spec_PortWork.mono _ _ _ _ _ _)
   | (with_reducible exact LeO.refl _)
   | (with_reducible exact LeO.none _)
   | (with_reducible refine LeO.ite ?_ ?_)
   | (with_reducible refine LeO.bind ?_ (fun _ => ?_))
   | exact ih0 _ _ _ _ _ _ _ _
   | exact ih1 _ _ _ _ _ _ _ _ _ _
   | exact ih2 _ _ _ _ _ _
   | exact impl_PortWork.mono _ _ _ _ _ _
   | exact impl_RowPorts.mono _ _ _ _ _
   | exact impl_ShiftedBoxes.mono _ _ _ _ _
   | exact laws_vHas.mono _ _ _
   | exact laws_vInts.mono _ _ _
   | exact spec_DrawPortWork.mono _ _
   | exact spec_PortWork.mono _ _ _ _ _ _
   | exact LeO.none _
   | refine LeO.ite ?_ ?_
   | refine LeO.bind ?_ (fun _ => ?_)
  ·intro y0 y1 y2 y3 y4 y5 y6 y7 y8 y9
   unfold laws_FnPortWork.l1
   repeat' first
   | (with_reducible exact ih0 _ _ _ _ _ _ _ _)
   | (with_reducible exact ih1 _ _ _ _ _ _ _ _ _ _)
   | (with_reducible exact ih2 _ _ _ _ _ _)
   | (with_reducible exact impl_PortWork.mono _ _ _ _ _ _)
   | (with_reducible exact impl_RowPorts.mono _ _ _ _ _)
   | (with_reducible exact impl_ShiftedBoxes.mono _ _ _ _ _)
   | (with_reducible exact laws_vHas.mono _ _ _)
   | (with_reducible exact laws_vInts.mono _ _ _)
   | (with_reducible exact spec_DrawPortWork.mono _ _)
   | (with_reducible exact spec_PortWork.mono _ _ _ _ _ _)
   | (with_reducible exact LeO.refl _)
   | (with_reducible exact LeO.none _)
   | (with_reducible refine LeO.ite ?_ ?_)
   | (with_reducible refine LeO.bind ?_ (fun _ => ?_))
   | exact ih0 _ _ _ _ _ _ _ _
   | exact ih1 _ _ _ _ _ _ _ _ _ _
   | exact ih2 _ _ _ _ _ _
   | exact impl_PortWork.mono _ _ _ _ _ _
   | exact impl_RowPorts.mono _ _ _ _ _
   | exact impl_ShiftedBoxes.mono _ _ _ _ _
   | exact laws_vHas.mono _ _ _
   | exact laws_vInts.mono _ _ _
   | exact spec_DrawPortWork.mono _ _
   | exact spec_PortWork.mono _ _ _ _ _ _
   | exact LeO.none _
   | refine LeO.ite ?_ ?_
   | refine LeO.bind ?_ (fun _ => ?_)
  ·intro y0 y1 y2 y3 y4 y5
   unfold laws_FnPortWork.l2
   repeat' first
   | (with_reducible exact ih0 _ _ _ _ _ _ _ _)
   | (with_reducible exact ih1 _ _ _ _ _ _ _ _ _ _)
   | (with_reducible exact ih2 _ _ _ _ _ _)
   | (with_reducible exact impl_PortWork.mono _ _ _ _ _ _)
   | (with_reducible exact impl_RowPorts.mono _ _ _ _ _)
   | (with_reducible exact impl_ShiftedBoxes.mono _ _ _ _ _)
   | (with_reducible exact laws_vHas.mono _ _ _)
   | (with_reducible exact laws_vInts.mono _ _ _)
   | (with_reducible exact spec_DrawPortWork.mono _ _)
   | (with_reducible exact spec_PortWork.mono _ _ _ _ _ _)
   | (with_reducible exact LeO.refl _)
   | (with_reducible exact LeO.none _)
   | (with_reducible refine LeO.ite ?_ ?_)
   | (with_reducible refine LeO.bind ?_ (fun _ => ?_))
   | exact ih0 _ _ _ _ _ _ _ _
   | exact ih1 _ _ _ _ _ _ _ _ _ _
   | exact ih2 _ _ _ _ _ _
   | exact impl_PortWork.mono _ _ _ _ _ _
   | exact impl_RowPorts.mono _ _ _ _ _
   | exact impl_ShiftedBoxes.mono _ _ _ _ _
   | exact laws_vHas.mono _ _ _
   | exact laws_vInts.mono _ _ _
   | exact spec_DrawPortWork.mono _ _
   | exact spec_PortWork.mono _ _ _ _ _ _
   | exact LeO.none _
   | refine LeO.ite ?_ ?_
   | refine LeO.bind ?_ (fun _ => ?_)
theorem laws_FnPortWork.mono : ∀ a0 k, LeO (laws_FnPortWork.f k a0) (laws_FnPortWork.f (k + 1) a0) := by
 intro a0 k
 obtain ⟨ih0, ih1, ih2⟩ := laws_FnPortWork.mono_l k
 unfold laws_FnPortWork.f
 repeat' first
   | (with_reducible exact ih0 _ _ _ _ _ _ _ _)
   | (with_reducible exact ih1 _ _ _ _ _ _ _ _ _ _)
   | (with_reducible exact ih2 _ _ _ _ _ _)
   | (with_reducible exact impl_PortWork.mono _ _ _ _ _ _)
   | (with_reducible exact impl_RowPorts.mono _ _ _ _ _)
   | (with_reducible exact impl_ShiftedBoxes.mono _ _ _ _ _)
   | (with_reducible exact laws_vHas.mono _ _ _)
   | (with_reducible exact laws_vInts.mono _ _ _)
   | (with_reducible exact spec_DrawPortWork.mono _ _)
   | (with_reducible exact spec_PortWork.mono _ _ _ _ _ _)
   | (with_reducible exact LeO.refl _)
   | (with_reducible exact LeO.none _)
   | (with_reducible refine LeO.ite ?_ ?_)
   | (with_reducible refine LeO.bind ?_ (fun _ => ?_))
   | exact ih0 _ _ _ _ _ _ _ _
   | exact ih1 _ _ _ _ _ _ _ _ _ _
   | exact ih2 _ _ _ _ _ _
   | exact impl_PortWork.mono _ _ _ _ _ _
   | exact impl_RowPorts.mono _ _ _ _ _
   | exact impl_ShiftedBoxes.mono _ _ _ _ _
   | exact laws_vHas.mono _ _ _
   | exact laws_vInts.mono _ _ _
   | exact spec_DrawPortWork.mono _ _
   | exact spec_PortWork.mono _ _ _ _ _ _
   | exact LeO.none _
   | refine LeO.ite ?_ ?_
   | refine LeO.bind ?_ (fun _ => ?_)
set_option maxHeartbeats 8000000 in
set_option maxRecDepth 100000 in
theorem laws_FnPortWork.calls (k : Nat) (A0 : Option Addr) (c0 : Nat) (l0 : List Int) (r : Bool) (w : World) (hr0 : Kd.C (Kd.int .u8) w A0 l0.length l0) (hc0 : l0.length ≤ c0) (h : laws_FnPortWork.f k l0 = some r) :
  Calls Try.prog 3 #[.slice A0 l0.length c0] w fun e w' => e = .returned (.bool r) ∧ Below w.heap.size w w' := by
 have hu26 := Try.underlying26
 have HR0 := Aside0.mk hr0
 have HC0 := Aside0.mk hc0
 clear hr0 hc0
 have HB := Aside0.mk (Below.refl w.heap.size w)
 have H : ((laws_vBig.f l0).bind fun t512 => (if t512 = true then (some true) else ((spec_DrawPortWork.f k l0).bind fun bt513 => ((impl_PortWork.f k bt513.1 bt513.2.1 bt513.2.2.1 bt513.2.2.2.1 bt513.2.2.2.2).bind fun bt523 => ((spec_PortWork.f k bt513.1 bt513.2.1 bt513.2.2.1 bt513.2.2.2.1 bt513.2.2.2.2).bind fun bt530 => (if (bt523.2.2 != bt530.2.2) = true then (none) else ((laws_vInts.f k bt523.1 bt530.1).bind fun t537 => (if t537 = true then ((laws_vInts.f k bt523.2.1 bt530.2.1).bind fun t538 => (if t538 = true then (if bt523.2.2 = true then ((impl_ShiftedBoxes.f k bt513.1 bt513.2.1 bt513.2.2.1 bt513.2.2.2.1).bind fun bt539 => ((impl_LoadOrder.f bt513.1 bt513.2.1 bt513.2.2.1).bind fun bt543 => ((impl_RowPorts.f k bt513.1 bt513.2.1 bt513.2.2.1 bt513.2.2.2.1).bind fun bt547 => (if bt539.2 = true then (if bt543.2 = true then (if bt547.2 = true then (if (bt543.1.length : Int) = (bt513.2.2.1.length : Int) then (if (bt547.1.length : Int) = bt513.1 then (laws_FnPortWork.l0 k bt513.2.2.2.1 bt539.1 bt543.1 0 1 bt513.1 bt513.2.1 bt513.2.2.1) else (none)) else (none)) else (none)) else (none)) else (none))))) else (some ((bt523.1.length : Int) == 0))) else (none))) else (none))))))))) = some r := h
 clear h
 replace H := Option.bind_eq_some_iff.mp H
 obtain ⟨t512, A20, H⟩ := H
 replace H : (if t512 = true then (some true) else ((spec_DrawPortWork.f k l0).bind fun bt513 => ((impl_PortWork.f k bt513.1 bt513.2.1 bt513.2.2.1 bt513.2.2.2.1 bt513.2.2.2.2).bind fun bt523 => ((spec_PortWork.f k bt513.1 bt513.2.1 bt513.2.2.1 bt513.2.2.2.1 bt513.2.2.2.2).bind fun bt530 => (if (bt523.2.2 != bt530.2.2) = true then (none) else ((laws_vInts.f k bt523.1 bt530.1).bind fun t537 => (if t537 = true then ((laws_vInts.f k bt523.2.1 bt530.2.1).bind fun t538 => (if t538 = true then (if bt523.2.2 = true then ((impl_ShiftedBoxes.f k bt513.1 bt513.2.1 bt513.2.2.1 bt513.2.2.2.1).bind fun bt539 => ((impl_LoadOrder.f bt513.1 bt513.2.1 bt513.2.2.1).bind fun bt543 => ((impl_RowPorts.f k bt513.1 bt513.2.1 bt513.2.2.1 bt513.2.2.2.1).bind fun bt547 => (if bt539.2 = true then (if bt543.2 = true then (if bt547.2 = true then (if (bt543.1.length : Int) = (bt513.2.2.1.length : Int) then (if (bt547.1.length : Int) = bt513.1 then (laws_FnPortWork.l0 k bt513.2.2.2.1 bt539.1 bt543.1 0 1 bt513.1 bt513.2.1 bt513.2.2.1) else (none)) else (none)) else (none)) else (none)) else (none))))) else (some ((bt523.1.length : Int) == 0))) else (none))) else (none)))))))) = some r := H
 have A2 := Aside0.mk A20
 clear A20
 by_cases c3 : t512 = true
 ·subst c3
  have H1 : (some true) = some r := by rw [if_pos rfl] at H; exact H
  clear H
  have H := H1
  clear H1
  obtain rfl := Option.some.inj H
  go_enter Try.func3, Try.ntmps3
  go_wp2_with (first | (go_at_call 5; (with_reducible refine (laws_vBig.calls _ _ l0 true _ ?side1 ?side2 A2.out).mono ?_); (case side1 => exact cdl HR0.out); (case side2 => exact HC0.out); rintro e w' ⟨rfl, ⟨nd, rfl⟩⟩; (try first | exact ⟨rfl, _, dd2⟩ | exact ⟨rfl, _, dd3⟩)))
  repeat (go_quiet (first | (go_at_call 5; (with_reducible refine (laws_vBig.calls _ _ l0 true _ ?side1 ?side2 A2.out).mono ?_); (case side1 => exact cdl HR0.out); (case side2 => exact HC0.out); rintro e w' ⟨rfl, ⟨nd, rfl⟩⟩; (try first | exact ⟨rfl, _, dd2⟩ | exact ⟨rfl, _, dd3⟩))); try go_wp2_with (first | (go_at_call 5; (with_reducible refine (laws_vBig.calls _ _ l0 true _ ?side1 ?side2 A2.out).mono ?_); (case side1 => exact cdl HR0.out); (case side2 => exact HC0.out); rintro e w' ⟨rfl, ⟨nd, rfl⟩⟩; (try first | exact ⟨rfl, _, dd2⟩ | exact ⟨rfl, _, dd3⟩))))
  go_ret
  exact ⟨by first | rfl | (simp [errW_none, errW_some] <;> rfl) | (simp [*, errW_none, errW_some] <;> rfl), bel HB⟩
 replace c3 := Bool.eq_false_iff.mpr c3
 subst c3
 have H1 : ((spec_DrawPortWork.f k l0).bind fun bt513 => ((impl_PortWork.f k bt513.1 bt513.2.1 bt513.2.2.1 bt513.2.2.2.1 bt513.2.2.2.2).bind fun bt523 => ((spec_PortWork.f k bt513.1 bt513.2.1 bt513.2.2.1 bt513.2.2.2.1 bt513.2.2.2.2).bind fun bt530 => (if (bt523.2.2 != bt530.2.2) = true then (none) else ((laws_vInts.f k bt523.1 bt530.1).bind fun t537 => (if t537 = true then ((laws_vInts.f k bt523.2.1 bt530.2.1).bind fun t538 => (if t538 = true then (if bt523.2.2 = true then ((impl_ShiftedBoxes.f k bt513.1 bt513.2.1 bt513.2.2.1 bt513.2.2.2.1).bind fun bt539 => ((impl_LoadOrder.f bt513.1 bt513.2.1 bt513.2.2.1).bind fun bt543 => ((impl_RowPorts.f k bt513.1 bt513.2.1 bt513.2.2.1 bt513.2.2.2.1).bind fun bt547 => (if bt539.2 = true then (if bt543.2 = true then (if bt547.2 = true then (if (bt543.1.length : Int) = (bt513.2.2.1.length : Int) then (if (bt547.1.length : Int) = bt513.1 then (laws_FnPortWork.l0 k bt513.2.2.2.1 bt539.1 bt543.1 0 1 bt513.1 bt513.2.1 bt513.2.2.1) else (none)) else (none)) else (none)) else (none)) else (none))))) else (some ((bt523.1.length : Int) == 0))) else (none))) else (none))))))) = some r := by rw [if_neg (show ¬ (false = true) by decide)] at H; exact H
 clear H
 have H := H1
 clear H1
 replace H := Option.bind_eq_some_iff.mp H
 obtain ⟨⟨t513, t514, t515, t518, t521⟩, A40, H⟩ := H
 replace H : ((impl_PortWork.f k t513 t514 t515 t518 t521).bind fun bt523 => ((spec_PortWork.f k t513 t514 t515 t518 t521).bind fun bt530 => (if (bt523.2.2 != bt530.2.2) = true then (none) else ((laws_vInts.f k bt523.1 bt530.1).bind fun t537 => (if t537 = true then ((laws_vInts.f k bt523.2.1 bt530.2.1).bind fun t538 => (if t538 = true then (if bt523.2.2 = true then ((impl_ShiftedBoxes.f k t513 t514 t515 t518).bind fun bt539 => ((impl_LoadOrder.f t513 t514 t515).bind fun bt543 => ((impl_RowPorts.f k t513 t514 t515 t518).bind fun bt547 => (if bt539.2 = true then (if bt543.2 = true then (if bt547.2 = true then (if (bt543.1.length : Int) = (t515.length : Int) then (if (bt547.1.length : Int) = t513 then (laws_FnPortWork.l0 k t518 bt539.1 bt543.1 0 1 t513 t514 t515) else (none)) else (none)) else (none)) else (none)) else (none))))) else (some ((bt523.1.length : Int) == 0))) else (none))) else (none)))))) = some r := H
 have A4 := Aside0.mk A40
 clear A40
 replace H := Option.bind_eq_some_iff.mp H
 obtain ⟨⟨t523, t526, t529⟩, A50, H⟩ := H
 replace H : ((spec_PortWork.f k t513 t514 t515 t518 t521).bind fun bt530 => (if (t529 != bt530.2.2) = true then (none) else ((laws_vInts.f k t523 bt530.1).bind fun t537 => (if t537 = true then ((laws_vInts.f k t526 bt530.2.1).bind fun t538 => (if t538 = true then (if t529 = true then ((impl_ShiftedBoxes.f k t513 t514 t515 t518).bind fun bt539 => ((impl_LoadOrder.f t513 t514 t515).bind fun bt543 => ((impl_RowPorts.f k t513 t514 t515 t518).bind fun bt547 => (if bt539.2 = true then (if bt543.2 = true then (if bt547.2 = true then (if (bt543.1.length : Int) = (t515.length : Int) then (if (bt547.1.length : Int) = t513 then (laws_FnPortWork.l0 k t518 bt539.1 bt543.1 0 1 t513 t514 t515) else (none)) else (none)) else (none)) else (none)) else (none))))) else (some ((t523.length : Int) == 0))) else (none))) else (none))))) = some r := H
 have A5 := Aside0.mk A50
 clear A50
 replace H := Option.bind_eq_some_iff.mp H
 obtain ⟨⟨t530, t533, t536⟩, A60, H⟩ := H
 replace H : (if (t529 != t536) = true then (none) else ((laws_vInts.f k t523 t530).bind fun t537 => (if t537 = true then ((laws_vInts.f k t526 t533).bind fun t538 => (if t538 = true then (if t529 = true then ((impl_ShiftedBoxes.f k t513 t514 t515 t518).bind fun bt539 => ((impl_LoadOrder.f t513 t514 t515).bind fun bt543 => ((impl_RowPorts.f k t513 t514 t515 t518).bind fun bt547 => (if bt539.2 = true then (if bt543.2 = true then (if bt547.2 = true then (if (bt543.1.length : Int) = (t515.length : Int) then (if (bt547.1.length : Int) = t513 then (laws_FnPortWork.l0 k t518 bt539.1 bt543.1 0 1 t513 t514 t515) else (none)) else (none)) else (none)) else (none)) else (none))))) else (some ((t523.length : Int) == 0))) else (none))) else (none)))) = some r := H
 have A6 := Aside0.mk A60
 clear A60
 by_cases c7 : (t529 != t536) = true
 ·rw [if_pos c7] at H
  exact absurd H (by simp)
 rw [if_neg c7] at H
 have c7b0 : (t529 != t536) = false := by simpa using c7
 (try (have c7b1 : decide (t529 = t536) = true := by simpa using c7))
 (try (have c7b2 : (t529 == t536) = true := by simpa using c7))
 clear c7
 replace H := Option.bind_eq_some_iff.mp H
 obtain ⟨t537, A80, H⟩ := H
 replace H : (if t537 = true then ((laws_vInts.f k t526 t533).bind fun t538 => (if t538 = true then (if t529 = true then ((impl_ShiftedBoxes.f k t513 t514 t515 t518).bind fun bt539 => ((impl_LoadOrder.f t513 t514 t515).bind fun bt543 => ((impl_RowPorts.f k t513 t514 t515 t518).bind fun bt547 => (if bt539.2 = true then (if bt543.2 = true then (if bt547.2 = true then (if (bt543.1.length : Int) = (t515.length : Int) then (if (bt547.1.length : Int) = t513 then (laws_FnPortWork.l0 k t518 bt539.1 bt543.1 0 1 t513 t514 t515) else (none)) else (none)) else (none)) else (none)) else (none))))) else (some ((t523.length : Int) == 0))) else (none))) else (none)) = some r := H
 have A8 := Aside0.mk A80
 clear A80
 by_cases c9 : t537 = true
 rotate_left
 ·replace c9 := Bool.eq_false_iff.mpr c9
  subst c9
  have H1 : (none) = some r := by rw [if_neg (show ¬ (false = true) by decide)] at H; exact H
  clear H
  have H := H1
  clear H1
  exact absurd H (by simp)
 subst c9
 have H1 : ((laws_vInts.f k t526 t533).bind fun t538 => (if t538 = true then (if t529 = true then ((impl_ShiftedBoxes.f k t513 t514 t515 t518).bind fun bt539 => ((impl_LoadOrder.f t513 t514 t515).bind fun bt543 => ((impl_RowPorts.f k t513 t514 t515 t518).bind fun bt547 => (if bt539.2 = true then (if bt543.2 = true then (if bt547.2 = true then (if (bt543.1.length : Int) = (t515.length : Int) then (if (bt547.1.length : Int) = t513 then (laws_FnPortWork.l0 k t518 bt539.1 bt543.1 0 1 t513 t514 t515) else (none)) else (none)) else (none)) else (none)) else (none))))) else (some ((t523.length : Int) == 0))) else (none))) = some r := by rw [if_pos rfl] at H; exact H
 clear H
 have H := H1
 clear H1
 replace H := Option.bind_eq_some_iff.mp H
 obtain ⟨t538, A100, H⟩ := H
 replace H : (if t538 = true then (if t529 = true then ((impl_ShiftedBoxes.f k t513 t514 t515 t518).bind fun bt539 => ((impl_LoadOrder.f t513 t514 t515).bind fun bt543 => ((impl_RowPorts.f k t513 t514 t515 t518).bind fun bt547 => (if bt539.2 = true then (if bt543.2 = true then (if bt547.2 = true then (if (bt543.1.length : Int) = (t515.length : Int) then (if (bt547.1.length : Int) = t513 then (laws_FnPortWork.l0 k t518 bt539.1 bt543.1 0 1 t513 t514 t515) else (none)) else (none)) else (none)) else (none)) else (none))))) else (some ((t523.length : Int) == 0))) else (none)) = some r := H
 have A10 := Aside0.mk A100
 clear A100
 by_cases c11 : t538 = true
 rotate_left
 ·replace c11 := Bool.eq_false_iff.mpr c11
  subst c11
  have H1 : (none) = some r := by rw [if_neg (show ¬ (false = true) by decide)] at H; exact H
  clear H
  have H := H1
  clear H1
  exact absurd H (by simp)
 subst c11
 have H1 : (if t529 = true then ((impl_ShiftedBoxes.f k t513 t514 t515 t518).bind fun bt539 => ((impl_LoadOrder.f t513 t514 t515).bind fun bt543 => ((impl_RowPorts.f k t513 t514 t515 t518).bind fun bt547 => (if bt539.2 = true then (if bt543.2 = true then (if bt547.2 = true then (if (bt543.1.length : Int) = (t515.length : Int) then (if (bt547.1.length : Int) = t513 then (laws_FnPortWork.l0 k t518 bt539.1 bt543.1 0 1 t513 t514 t515) else (none)) else (none)) else (none)) else (none)) else (none))))) else (some ((t523.length : Int) == 0))) = some r := by rw [if_pos rfl] at H; exact H
 clear H
 have H := H1
 clear H1
 by_cases c12 : t529 = true
 rotate_left
 ·replace c12 := Bool.eq_false_iff.mpr c12
  subst c12
  have H1 : (some ((t523.length : Int) == 0)) = some r := by rw [if_neg (show ¬ (false = true) by decide)] at H; exact H
  clear H
  have H := H1
  clear H1
  obtain rfl := Option.some.inj H
  go_enter Try.func3, Try.ntmps3
  go_wp2_with (first | (go_at_call 5; (with_reducible refine (laws_vBig.calls _ _ l0 false _ ?side1 ?side2 A2.out).mono ?_); (case side1 => exact cdl HR0.out); (case side2 => exact HC0.out); rintro e w' ⟨rfl, ⟨nd, rfl⟩⟩; (try first | exact ⟨rfl, _, dd2⟩ | exact ⟨rfl, _, dd3⟩)) | (go_at_call 6; (with_reducible refine (spec_DrawPortWork.calls k _ _ l0 t513 t514 t515 t518 t521 _ ?side1 ?side2 A4.out).mono ?_); (case side1 => exact cdl HR0.out); (case side2 => exact HC0.out); rintro e w69 ⟨v516, v519, rfl, ho0, ho1, hb⟩; have n0_ := Aside0.mk (Kd.R_lower ho0 (below_size (bel HB))); have n1_ := Aside0.mk (Kd.R_lower ho1 (below_size (bel HB))); have n2_ := Aside0.mk (below_step (bel HB) hb); clear HB; have HO517 := n0_; have HO520 := n1_; have HB := n2_; clear n0_ n1_ n2_; (try clear hb); (try clear hb2); (try clear hk); (try clear hi); (try clear ho0); (try clear ho1)) | ((with_reducible refine gate_dst (N := 3) rfl ?_); (try (refine gate_guard (by rfl) ?_; dsimp only)); refine box_event ?hg (N := 3) ?hd (cs := #[.int .i64 0, .int .i64 0, .slice none 0 0]) (t := 26) ?hr ?_; (case hd => rfl); (case hg => rfl); (case hr => first | (go_simp; done) | (go_simp; rfl)); intro gb522 hg w70 hbox hb; have n0_ := Aside0.mk (Kd.R_below (rdl HO517) hb); have n1_ := Aside0.mk (Kd.R_below (rdl HO520) hb); have n2_ := Aside0.mk (below_step (bel HB) hb); have n3_ := Aside0.mk (hbox); have n4_ := Aside0.mk ((by rw [hg]; exact (below_size (bel HB)) : w.heap.size ≤ gb522)); have n5_ := Aside0.mk ((by rw [hg]; exact (below_size (bel HB)) : w.heap.size ≤ gb522)); clear HO517; clear HO520; clear HB; have HO517 := n0_; have HO520 := n1_; have HB := n2_; have BK522 := n3_; have GW522 := n4_; have GE522 := n5_; clear n0_ n1_ n2_ n3_ n4_ n5_; clear hb hbox hg; have hcz71_0 : w70.cell? ⟨gb522, 0, none⟩ = some (.int .i64 0) := (blk_cell BK522.out 0).trans rfl; have hcz71_1 : w70.cell? ⟨gb522, 1, none⟩ = some (.int .i64 0) := (blk_cell BK522.out 1).trans rfl; have hcz71_2 : w70.cell? ⟨gb522, 2, none⟩ = some (.slice none 0 0) := (blk_cell BK522.out 2).trans rfl; have hfz71_0 := blk_frozen BK522.out 0; have hfz71_1 := blk_frozen BK522.out 1; have hfz71_2 := blk_frozen BK522.out 2; obtain ⟨Ao72, co72, eo72⟩ := Kd.R_slice HO517.out; subst eo72; obtain ⟨Ao73, co73, eo73⟩ := Kd.R_slice HO520.out; subst eo73) | (go_at_call 7; (with_reducible refine (impl_PortWork.calls k t513 t514 _ _ t515 _ _ t518 t521 t523 t526 false _ ?side1 ?side2 ?side3 ?side4 A5.out).mono ?_); (case side1 => refine (Kd.R_reads' (e := 3) (base := w.heap.size) (ok := fun k_ => some k_ ≠ (.slice Ao73 t518.length co73 : Value).ownBlock) (n := t515.length) (c := co72) ?_).2.2; exact (rdl (rf3 HO517 BK522 (.int .i64 t513) (.int .i64 t514) (.slice Ao72 t515.length co72)))); (case side2 => exact (Kd.R_reads' HO517.out).2.1); (case side3 => refine (Kd.R_reads' (e := 3) (base := w.heap.size) (ok := fun k_ => some k_ ≠ (.slice Ao72 t515.length co72 : Value).ownBlock) (n := t518.length) (c := co73) ?_).2.2; exact (rdl (rf3 HO520 BK522 (.int .i64 t513) (.int .i64 t514) (.slice Ao72 t515.length co72)))); (case side4 => exact (Kd.R_reads' HO520.out).2.1); rintro e w74 ⟨v524, v527, rfl, ho0, ho1, hb⟩; have n0_ := Aside0.mk (Kd.R_mono (Kd.R_told (Kd.R_told (Kd.R_old (rdl (rf3 HO517 BK522 (.int .i64 t513) (.int .i64 t514) (.slice Ao72 t515.length co72))) hb) (Kd.R_base ho0)) (Kd.R_base ho1)) (fun _ h_ => h_.1)); have n1_ := Aside0.mk (Kd.R_mono (Kd.R_told (Kd.R_told (Kd.R_old (rdl (rf3 HO520 BK522 (.int .i64 t513) (.int .i64 t514) (.slice Ao72 t515.length co72))) hb) (Kd.R_base ho0)) (Kd.R_base ho1)) (fun _ h_ => h_.1)); have n2_ := Aside0.mk (Kd.R_lower (Kd.R_new' (Kd.R_new' ho0 (Kd.R_lt (rdl (rf3 HO517 BK522 (.int .i64 t513) (.int .i64 t514) (.slice Ao72 t515.length co72))))) (Kd.R_lt (rdl (rf3 HO520 BK522 (.int .i64 t513) (.int .i64 t514) (.slice Ao72 t515.length co72))))) (below_size (bel1 HB GE522))); have n3_ := Aside0.mk (Kd.R_lower (Kd.R_new' (Kd.R_new' ho1 (Kd.R_lt (rdl (rf3 HO517 BK522 (.int .i64 t513) (.int .i64 t514) (.slice Ao72 t515.length co72))))) (Kd.R_lt (rdl (rf3 HO520 BK522 (.int .i64 t513) (.int .i64 t514) (.slice Ao72 t515.length co72))))) (below_size (bel1 HB GE522))); have n4_ := Aside0.mk (blk_below (g := gb522) (o := .cells #[.int .i64 t513, .int .i64 t514, .slice Ao72 t515.length co72] 26 (0, 0)) (by (with_reducible repeat (first | refine blk_drewN ?_ _ | refine blk_drew ?_ | refine blk_alloc ?_ _)); refine blk_put (cs := #[.int .i64 t513, .int .i64 t514, .slice none 0 0]) ?_ 2 _ rfl; (with_reducible repeat (first | refine blk_drewN ?_ _ | refine blk_drew ?_ | refine blk_alloc ?_ _)); refine blk_put (cs := #[.int .i64 t513, .int .i64 0, .slice none 0 0]) ?_ 1 _ rfl; (with_reducible repeat (first | refine blk_drewN ?_ _ | refine blk_drew ?_ | refine blk_alloc ?_ _)); refine blk_put (cs := #[.int .i64 0, .int .i64 0, .slice none 0 0]) ?_ 0 _ rfl; (with_reducible repeat (first | refine blk_drewN ?_ _ | refine blk_drew ?_ | refine blk_alloc ?_ _)); exact BK522.out) hb); have n5_ := Aside0.mk (below_step (bel1 HB GE522) hb); clear HO517; clear HO520; clear BK522; clear HB; have HO517 := n0_; have HO520 := n1_; have HO525 := n2_; have HO528 := n3_; have BK522 := n4_; have HB := n5_; clear n0_ n1_ n2_ n3_ n4_ n5_; (try clear hb); (try clear hb2); (try clear hk); (try clear hi); (try clear ho0); (try clear ho1); have hcz75_0 : w74.cell? ⟨gb522, 0, none⟩ = some (.int .i64 t513) := (blk_cell BK522.out 0).trans rfl; have hcz75_1 : w74.cell? ⟨gb522, 1, none⟩ = some (.int .i64 t514) := (blk_cell BK522.out 1).trans rfl; have hcz75_2 : w74.cell? ⟨gb522, 2, none⟩ = some (.slice Ao72 t515.length co72) := (blk_cell BK522.out 2).trans rfl; have hfz75_0 := blk_frozen BK522.out 0; have hfz75_1 := blk_frozen BK522.out 1; have hfz75_2 := blk_frozen BK522.out 2) | (go_at_call 8; (with_reducible refine (spec_PortWork.calls k t513 t514 _ _ t515 _ _ t518 t521 t530 t533 t536 _ ?side1 ?side2 ?side3 ?side4 A6.out).mono ?_); (case side1 => exact cdl (Kd.R_reads' HO517.out).2.2); (case side2 => exact (Kd.R_reads' HO517.out).2.1); (case side3 => exact cdl (Kd.R_reads' HO520.out).2.2); (case side4 => exact (Kd.R_reads' HO520.out).2.1); rintro e w76 ⟨v531, v534, rfl, ho0, ho1, hb⟩; have n0_ := Aside0.mk (Kd.R_below (rdl HO517) hb); have n1_ := Aside0.mk (Kd.R_below (rdl HO520) hb); have n2_ := Aside0.mk (Kd.R_below (rdl HO525) hb); have n3_ := Aside0.mk (Kd.R_below (rdl HO528) hb); have n4_ := Aside0.mk (Kd.V_lower (Kd.V_mono (ok' := fun k_ => some k_ ≠ (.slice Ao72 t515.length co72 : Value).ownBlock ∧ some k_ ≠ (.slice Ao73 t518.length co73 : Value).ownBlock ∧ some k_ ≠ (v524 : Value).ownBlock ∧ some k_ ≠ (v527 : Value).ownBlock ∧ k_ ≠ gb522) ho0 (fun k_ hk_ => ⟨(Kd.fresh' (Kd.R_lt (rdl HO517)) k_ hk_), (Kd.fresh' (Kd.R_lt (rdl HO520)) k_ hk_), (Kd.fresh' (Kd.R_lt (rdl HO525)) k_ hk_), (Kd.fresh' (Kd.R_lt (rdl HO528)) k_ hk_), (Kd.freshB (g := gb522) (o := .cells #[.int .i64 t513, .int .i64 t514, .slice Ao72 t515.length co72] 26 (0, 0)) (bkl BK522) k_ hk_)⟩)) (below_size (bel1 HB GE522))); have n5_ := Aside0.mk (Kd.V_lower (Kd.V_mono (ok' := fun k_ => some k_ ≠ (.slice Ao72 t515.length co72 : Value).ownBlock ∧ some k_ ≠ (.slice Ao73 t518.length co73 : Value).ownBlock ∧ some k_ ≠ (v524 : Value).ownBlock ∧ some k_ ≠ (v527 : Value).ownBlock ∧ k_ ≠ gb522) ho1 (fun k_ hk_ => ⟨(Kd.fresh' (Kd.R_lt (rdl HO517)) k_ hk_), (Kd.fresh' (Kd.R_lt (rdl HO520)) k_ hk_), (Kd.fresh' (Kd.R_lt (rdl HO525)) k_ hk_), (Kd.fresh' (Kd.R_lt (rdl HO528)) k_ hk_), (Kd.freshB (g := gb522) (o := .cells #[.int .i64 t513, .int .i64 t514, .slice Ao72 t515.length co72] 26 (0, 0)) (bkl BK522) k_ hk_)⟩)) (below_size (bel1 HB GE522))); have n6_ := Aside0.mk (blk_below (g := gb522) (o := .cells #[.int .i64 t513, .int .i64 t514, .slice Ao72 t515.length co72] 26 (0, 0)) (bkl BK522) hb); have n7_ := Aside0.mk (below_step (bel1 HB GE522) hb); clear HO517; clear HO520; clear HO525; clear HO528; clear BK522; clear HB; have HO517 := n0_; have HO520 := n1_; have HO525 := n2_; have HO528 := n3_; have HO532 := n4_; have HO535 := n5_; have BK522 := n6_; have HB := n7_; clear n0_ n1_ n2_ n3_ n4_ n5_ n6_ n7_; (try clear hb); (try clear hb2); (try clear hk); (try clear hi); (try clear ho0); (try clear ho1); obtain ⟨Ao77, co77, eo77⟩ := Kd.R_slice HO525.out; subst eo77; obtain ⟨Ao78, co78, eo78⟩ := Kd.V_slice HO532.out; subst eo78) | (go_at_call 9; (with_reducible refine (laws_vInts.calls k _ _ t523 _ _ t530 true _ ?side1 ?side2 ?side3 ?side4 A8.out).mono ?_); (case side1 => exact cdl (Kd.R_reads' HO525.out).2.2); (case side2 => exact (Kd.R_reads' HO525.out).2.1); (case side3 => exact cdl (Kd.V_reads' HO532.out).2.2); (case side4 => exact (Kd.V_reads' HO532.out).2.1); rintro e w' ⟨rfl, ⟨nd, rfl⟩⟩; (try first | exact ⟨rfl, _, dd2⟩ | exact ⟨rfl, _, dd3⟩); obtain ⟨Ao79, co79, eo79⟩ := Kd.R_slice HO528.out; subst eo79; obtain ⟨Ao80, co80, eo80⟩ := Kd.V_slice HO535.out; subst eo80) | (go_at_call 9; (with_reducible refine (laws_vInts.calls k _ _ t526 _ _ t533 true _ ?side1 ?side2 ?side3 ?side4 A10.out).mono ?_); (case side1 => exact cdl (Kd.R_reads' HO528.out).2.2); (case side2 => exact (Kd.R_reads' HO528.out).2.1); (case side3 => exact cdl (Kd.V_reads' HO535.out).2.2); (case side4 => exact (Kd.V_reads' HO535.out).2.1); rintro e w' ⟨rfl, ⟨nd, rfl⟩⟩; (try first | exact ⟨rfl, _, dd2⟩ | exact ⟨rfl, _, dd3⟩)))
  repeat (go_quiet (first | (go_at_call 5; (with_reducible refine (laws_vBig.calls _ _ l0 false _ ?side1 ?side2 A2.out).mono ?_); (case side1 => exact cdl HR0.out); (case side2 => exact HC0.out); rintro e w' ⟨rfl, ⟨nd, rfl⟩⟩; (try first | exact ⟨rfl, _, dd2⟩ | exact ⟨rfl, _, dd3⟩)) | (go_at_call 6; (with_reducible refine (spec_DrawPortWork.calls k _ _ l0 t513 t514 t515 t518 t521 _ ?side1 ?side2 A4.out).mono ?_); (case side1 => exact cdl HR0.out); (case side2 => exact HC0.out); rintro e w69 ⟨v516, v519, rfl, ho0, ho1, hb⟩; have n0_ := Aside0.mk (Kd.R_lower ho0 (below_size (bel HB))); have n1_ := Aside0.mk (Kd.R_lower ho1 (below_size (bel HB))); have n2_ := Aside0.mk (below_step (bel HB) hb); clear HB; have HO517 := n0_; have HO520 := n1_; have HB := n2_; clear n0_ n1_ n2_; (try clear hb); (try clear hb2); (try clear hk); (try clear hi); (try clear ho0); (try clear ho1)) | ((with_reducible refine gate_dst (N := 3) rfl ?_); (try (refine gate_guard (by rfl) ?_; dsimp only)); refine box_event ?hg (N := 3) ?hd (cs := #[.int .i64 0, .int .i64 0, .slice none 0 0]) (t := 26) ?hr ?_; (case hd => rfl); (case hg => rfl); (case hr => first | (go_simp; done) | (go_simp; rfl)); intro gb522 hg w70 hbox hb; have n0_ := Aside0.mk (Kd.R_below (rdl HO517) hb); have n1_ := Aside0.mk (Kd.R_below (rdl HO520) hb); have n2_ := Aside0.mk (below_step (bel HB) hb); have n3_ := Aside0.mk (hbox); have n4_ := Aside0.mk ((by rw [hg]; exact (below_size (bel HB)) : w.heap.size ≤ gb522)); have n5_ := Aside0.mk ((by rw [hg]; exact (below_size (bel HB)) : w.heap.size ≤ gb522)); clear HO517; clear HO520; clear HB; have HO517 := n0_; have HO520 := n1_; have HB := n2_; have BK522 := n3_; have GW522 := n4_; have GE522 := n5_; clear n0_ n1_ n2_ n3_ n4_ n5_; clear hb hbox hg; have hcz71_0 : w70.cell? ⟨gb522, 0, none⟩ = some (.int .i64 0) := (blk_cell BK522.out 0).trans rfl; have hcz71_1 : w70.cell? ⟨gb522, 1, none⟩ = some (.int .i64 0) := (blk_cell BK522.out 1).trans rfl; have hcz71_2 : w70.cell? ⟨gb522, 2, none⟩ = some (.slice none 0 0) := (blk_cell BK522.out 2).trans rfl; have hfz71_0 := blk_frozen BK522.out 0; have hfz71_1 := blk_frozen BK522.out 1; have hfz71_2 := blk_frozen BK522.out 2; obtain ⟨Ao72, co72, eo72⟩ := Kd.R_slice HO517.out; subst eo72; obtain ⟨Ao73, co73, eo73⟩ := Kd.R_slice HO520.out; subst eo73) | (go_at_call 7; (with_reducible refine (impl_PortWork.calls k t513 t514 _ _ t515 _ _ t518 t521 t523 t526 false _ ?side1 ?side2 ?side3 ?side4 A5.out).mono ?_); (case side1 => refine (Kd.R_reads' (e := 3) (base := w.heap.size) (ok := fun k_ => some k_ ≠ (.slice Ao73 t518.length co73 : Value).ownBlock) (n := t515.length) (c := co72) ?_).2.2; exact (rdl (rf3 HO517 BK522 (.int .i64 t513) (.int .i64 t514) (.slice Ao72 t515.length co72)))); (case side2 => exact (Kd.R_reads' HO517.out).2.1); (case side3 => refine (Kd.R_reads' (e := 3) (base := w.heap.size) (ok := fun k_ => some k_ ≠ (.slice Ao72 t515.length co72 : Value).ownBlock) (n := t518.length) (c := co73) ?_).2.2; exact (rdl (rf3 HO520 BK522 (.int .i64 t513) (.int .i64 t514) (.slice Ao72 t515.length co72)))); (case side4 => exact (Kd.R_reads' HO520.out).2.1); rintro e w74 ⟨v524, v527, rfl, ho0, ho1, hb⟩; have n0_ := Aside0.mk (Kd.R_mono (Kd.R_told (Kd.R_told (Kd.R_old (rdl (rf3 HO517 BK522 (.int .i64 t513) (.int .i64 t514) (.slice Ao72 t515.length co72))) hb) (Kd.R_base ho0)) (Kd.R_base ho1)) (fun _ h_ => h_.1)); have n1_ := Aside0.mk (Kd.R_mono (Kd.R_told (Kd.R_told (Kd.R_old (rdl (rf3 HO520 BK522 (.int .i64 t513) (.int .i64 t514) (.slice Ao72 t515.length co72))) hb) (Kd.R_base ho0)) (Kd.R_base ho1)) (fun _ h_ => h_.1)); have n2_ := Aside0.mk (Kd.R_lower (Kd.R_new' (Kd.R_new' ho0 (Kd.R_lt (rdl (rf3 HO517 BK522 (.int .i64 t513) (.int .i64 t514) (.slice Ao72 t515.length co72))))) (Kd.R_lt (rdl (rf3 HO520 BK522 (.int .i64 t513) (.int .i64 t514) (.slice Ao72 t515.length co72))))) (below_size (bel1 HB GE522))); have n3_ := Aside0.mk (Kd.R_lower (Kd.R_new' (Kd.R_new' ho1 (Kd.R_lt (rdl (rf3 HO517 BK522 (.int .i64 t513) (.int .i64 t514) (.slice Ao72 t515.length co72))))) (Kd.R_lt (rdl (rf3 HO520 BK522 (.int .i64 t513) (.int .i64 t514) (.slice Ao72 t515.length co72))))) (below_size (bel1 HB GE522))); have n4_ := Aside0.mk (blk_below (g := gb522) (o := .cells #[.int .i64 t513, .int .i64 t514, .slice Ao72 t515.length co72] 26 (0, 0)) (by (with_reducible repeat (first | refine blk_drewN ?_ _ | refine blk_drew ?_ | refine blk_alloc ?_ _)); refine blk_put (cs := #[.int .i64 t513, .int .i64 t514, .slice none 0 0]) ?_ 2 _ rfl; (with_reducible repeat (first | refine blk_drewN ?_ _ | refine blk_drew ?_ | refine blk_alloc ?_ _)); refine blk_put (cs := #[.int .i64 t513, .int .i64 0, .slice none 0 0]) ?_ 1 _ rfl; (with_reducible repeat (first | refine blk_drewN ?_ _ | refine blk_drew ?_ | refine blk_alloc ?_ _)); refine blk_put (cs := #[.int .i64 0, .int .i64 0, .slice none 0 0]) ?_ 0 _ rfl; (with_reducible repeat (first | refine blk_drewN ?_ _ | refine blk_drew ?_ | refine blk_alloc ?_ _)); exact BK522.out) hb); have n5_ := Aside0.mk (below_step (bel1 HB GE522) hb); clear HO517; clear HO520; clear BK522; clear HB; have HO517 := n0_; have HO520 := n1_; have HO525 := n2_; have HO528 := n3_; have BK522 := n4_; have HB := n5_; clear n0_ n1_ n2_ n3_ n4_ n5_; (try clear hb); (try clear hb2); (try clear hk); (try clear hi); (try clear ho0); (try clear ho1); have hcz75_0 : w74.cell? ⟨gb522, 0, none⟩ = some (.int .i64 t513) := (blk_cell BK522.out 0).trans rfl; have hcz75_1 : w74.cell? ⟨gb522, 1, none⟩ = some (.int .i64 t514) := (blk_cell BK522.out 1).trans rfl; have hcz75_2 : w74.cell? ⟨gb522, 2, none⟩ = some (.slice Ao72 t515.length co72) := (blk_cell BK522.out 2).trans rfl; have hfz75_0 := blk_frozen BK522.out 0; have hfz75_1 := blk_frozen BK522.out 1; have hfz75_2 := blk_frozen BK522.out 2) | (go_at_call 8; (with_reducible refine (spec_PortWork.calls k t513 t514 _ _ t515 _ _ t518 t521 t530 t533 t536 _ ?side1 ?side2 ?side3 ?side4 A6.out).mono ?_); (case side1 => exact cdl (Kd.R_reads' HO517.out).2.2); (case side2 => exact (Kd.R_reads' HO517.out).2.1); (case side3 => exact cdl (Kd.R_reads' HO520.out).2.2); (case side4 => exact (Kd.R_reads' HO520.out).2.1); rintro e w76 ⟨v531, v534, rfl, ho0, ho1, hb⟩; have n0_ := Aside0.mk (Kd.R_below (rdl HO517) hb); have n1_ := Aside0.mk (Kd.R_below (rdl HO520) hb); have n2_ := Aside0.mk (Kd.R_below (rdl HO525) hb); have n3_ := Aside0.mk (Kd.R_below (rdl HO528) hb); have n4_ := Aside0.mk (Kd.V_lower (Kd.V_mono (ok' := fun k_ => some k_ ≠ (.slice Ao72 t515.length co72 : Value).ownBlock ∧ some k_ ≠ (.slice Ao73 t518.length co73 : Value).ownBlock ∧ some k_ ≠ (v524 : Value).ownBlock ∧ some k_ ≠ (v527 : Value).ownBlock ∧ k_ ≠ gb522) ho0 (fun k_ hk_ => ⟨(Kd.fresh' (Kd.R_lt (rdl HO517)) k_ hk_), (Kd.fresh' (Kd.R_lt (rdl HO520)) k_ hk_), (Kd.fresh' (Kd.R_lt (rdl HO525)) k_ hk_), (Kd.fresh' (Kd.R_lt (rdl HO528)) k_ hk_), (Kd.freshB (g := gb522) (o := .cells #[.int .i64 t513, .int .i64 t514, .slice Ao72 t515.length co72] 26 (0, 0)) (bkl BK522) k_ hk_)⟩)) (below_size (bel1 HB GE522))); have n5_ := Aside0.mk (Kd.V_lower (Kd.V_mono (ok' := fun k_ => some k_ ≠ (.slice Ao72 t515.length co72 : Value).ownBlock ∧ some k_ ≠ (.slice Ao73 t518.length co73 : Value).ownBlock ∧ some k_ ≠ (v524 : Value).ownBlock ∧ some k_ ≠ (v527 : Value).ownBlock ∧ k_ ≠ gb522) ho1 (fun k_ hk_ => ⟨(Kd.fresh' (Kd.R_lt (rdl HO517)) k_ hk_), (Kd.fresh' (Kd.R_lt (rdl HO520)) k_ hk_), (Kd.fresh' (Kd.R_lt (rdl HO525)) k_ hk_), (Kd.fresh' (Kd.R_lt (rdl HO528)) k_ hk_), (Kd.freshB (g := gb522) (o := .cells #[.int .i64 t513, .int .i64 t514, .slice Ao72 t515.length co72] 26 (0, 0)) (bkl BK522) k_ hk_)⟩)) (below_size (bel1 HB GE522))); have n6_ := Aside0.mk (blk_below (g := gb522) (o := .cells #[.int .i64 t513, .int .i64 t514, .slice Ao72 t515.length co72] 26 (0, 0)) (bkl BK522) hb); have n7_ := Aside0.mk (below_step (bel1 HB GE522) hb); clear HO517; clear HO520; clear HO525; clear HO528; clear BK522; clear HB; have HO517 := n0_; have HO520 := n1_; have HO525 := n2_; have HO528 := n3_; have HO532 := n4_; have HO535 := n5_; have BK522 := n6_; have HB := n7_; clear n0_ n1_ n2_ n3_ n4_ n5_ n6_ n7_; (try clear hb); (try clear hb2); (try clear hk); (try clear hi); (try clear ho0); (try clear ho1); obtain ⟨Ao77, co77, eo77⟩ := Kd.R_slice HO525.out; subst eo77; obtain ⟨Ao78, co78, eo78⟩ := Kd.V_slice HO532.out; subst eo78) | (go_at_call 9; (with_reducible refine (laws_vInts.calls k _ _ t523 _ _ t530 true _ ?side1 ?side2 ?side3 ?side4 A8.out).mono ?_); (case side1 => exact cdl (Kd.R_reads' HO525.out).2.2); (case side2 => exact (Kd.R_reads' HO525.out).2.1); (case side3 => exact cdl (Kd.V_reads' HO532.out).2.2); (case side4 => exact (Kd.V_reads' HO532.out).2.1); rintro e w' ⟨rfl, ⟨nd, rfl⟩⟩; (try first | exact ⟨rfl, _, dd2⟩ | exact ⟨rfl, _, dd3⟩); obtain ⟨Ao79, co79, eo79⟩ := Kd.R_slice HO528.out; subst eo79; obtain ⟨Ao80, co80, eo80⟩ := Kd.V_slice HO535.out; subst eo80) | (go_at_call 9; (with_reducible refine (laws_vInts.calls k _ _ t526 _ _ t533 true _ ?side1 ?side2 ?side3 ?side4 A10.out).mono ?_); (case side1 => exact cdl (Kd.R_reads' HO528.out).2.2); (case side2 => exact (Kd.R_reads' HO528.out).2.1); (case side3 => exact cdl (Kd.V_reads' HO535.out).2.2); (case side4 => exact (Kd.V_reads' HO535.out).2.1); rintro e w' ⟨rfl, ⟨nd, rfl⟩⟩; (try first | exact ⟨rfl, _, dd2⟩ | exact ⟨rfl, _, dd3⟩))); try go_wp2_with (first | (go_at_call 5; (with_reducible refine (laws_vBig.calls _ _ l0 false _ ?side1 ?side2 A2.out).mono ?_); (case side1 => exact cdl HR0.out); (case side2 => exact HC0.out); rintro e w' ⟨rfl, ⟨nd, rfl⟩⟩; (try first | exact ⟨rfl, _, dd2⟩ | exact ⟨rfl, _, dd3⟩)) | (go_at_call 6; (with_reducible refine (spec_DrawPortWork.calls k _ _ l0 t513 t514 t515 t518 t521 _ ?side1 ?side2 A4.out).mono ?_); (case side1 => exact cdl HR0.out); (case side2 => exact HC0.out); rintro e w69 ⟨v516, v519, rfl, ho0, ho1, hb⟩; have n0_ := Aside0.mk (Kd.R_lower ho0 (below_size (bel HB))); have n1_ := Aside0.mk (Kd.R_lower ho1 (below_size (bel HB))); have n2_ := Aside0.mk (below_step (bel HB) hb); clear HB; have HO517 := n0_; have HO520 := n1_; have HB := n2_; clear n0_ n1_ n2_; (try clear hb); (try clear hb2); (try clear hk); (try clear hi); (try clear ho0); (try clear ho1)) | ((with_reducible refine gate_dst (N := 3) rfl ?_); (try (refine gate_guard (by rfl) ?_; dsimp only)); refine box_event ?hg (N := 3) ?hd (cs := #[.int .i64 0, .int .i64 0, .slice none 0 0]) (t := 26) ?hr ?_; (case hd => rfl); (case hg => rfl); (case hr => first | (go_simp; done) | (go_simp; rfl)); intro gb522 hg w70 hbox hb; have n0_ := Aside0.mk (Kd.R_below (rdl HO517) hb); have n1_ := Aside0.mk (Kd.R_below (rdl HO520) hb); have n2_ := Aside0.mk (below_step (bel HB) hb); have n3_ := Aside0.mk (hbox); have n4_ := Aside0.mk ((by rw [hg]; exact (below_size (bel HB)) : w.heap.size ≤ gb522)); have n5_ := Aside0.mk ((by rw [hg]; exact (below_size (bel HB)) : w.heap.size ≤ gb522)); clear HO517; clear HO520; clear HB; have HO517 := n0_; have HO520 := n1_; have HB := n2_; have BK522 := n3_; have GW522 := n4_; have GE522 := n5_; clear n0_ n1_ n2_ n3_ n4_ n5_; clear hb hbox hg; have hcz71_0 : w70.cell? ⟨gb522, 0, none⟩ = some (.int .i64 0) := (blk_cell BK522.out 0).trans rfl; have hcz71_1 : w70.cell? ⟨gb522, 1, none⟩ = some (.int .i64 0) := (blk_cell BK522.out 1).trans rfl; have hcz71_2 : w70.cell? ⟨gb522, 2, none⟩ = some (.slice none 0 0) := (blk_cell BK522.out 2).trans rfl; have hfz71_0 := blk_frozen BK522.out 0; have hfz71_1 := blk_frozen BK522.out 1; have hfz71_2 := blk_frozen BK522.out 2; obtain ⟨Ao72, co72, eo72⟩ := Kd.R_slice HO517.out; subst eo72; obtain ⟨Ao73, co73, eo73⟩ := Kd.R_slice HO520.out; subst eo73) | (go_at_call 7; (with_reducible refine (impl_PortWork.calls k t513 t514 _ _ t515 _ _ t518 t521 t523 t526 false _ ?side1 ?side2 ?side3 ?side4 A5.out).mono ?_); (case side1 => refine (Kd.R_reads' (e := 3) (base := w.heap.size) (ok := fun k_ => some k_ ≠ (.slice Ao73 t518.length co73 : Value).ownBlock) (n := t515.length) (c := co72) ?_).2.2; exact (rdl (rf3 HO517 BK522 (.int .i64 t513) (.int .i64 t514) (.slice Ao72 t515.length co72)))); (case side2 => exact (Kd.R_reads' HO517.out).2.1); (case side3 => refine (Kd.R_reads' (e := 3) (base := w.heap.size) (ok := fun k_ => some k_ ≠ (.slice Ao72 t515.length co72 : Value).ownBlock) (n := t518.length) (c := co73) ?_).2.2; exact (rdl (rf3 HO520 BK522 (.int .i64 t513) (.int .i64 t514) (.slice Ao72 t515.length co72)))); (case side4 => exact (Kd.R_reads' HO520.out).2.1); rintro e w74 ⟨v524, v527, rfl, ho0, ho1, hb⟩; have n0_ := Aside0.mk (Kd.R_mono (Kd.R_told (Kd.R_told (Kd.R_old (rdl (rf3 HO517 BK522 (.int .i64 t513) (.int .i64 t514) (.slice Ao72 t515.length co72))) hb) (Kd.R_base ho0)) (Kd.R_base ho1)) (fun _ h_ => h_.1)); have n1_ := Aside0.mk (Kd.R_mono (Kd.R_told (Kd.R_told (Kd.R_old (rdl (rf3 HO520 BK522 (.int .i64 t513) (.int .i64 t514) (.slice Ao72 t515.length co72))) hb) (Kd.R_base ho0)) (Kd.R_base ho1)) (fun _ h_ => h_.1)); have n2_ := Aside0.mk (Kd.R_lower (Kd.R_new' (Kd.R_new' ho0 (Kd.R_lt (rdl (rf3 HO517 BK522 (.int .i64 t513) (.int .i64 t514) (.slice Ao72 t515.length co72))))) (Kd.R_lt (rdl (rf3 HO520 BK522 (.int .i64 t513) (.int .i64 t514) (.slice Ao72 t515.length co72))))) (below_size (bel1 HB GE522))); have n3_ := Aside0.mk (Kd.R_lower (Kd.R_new' (Kd.R_new' ho1 (Kd.R_lt (rdl (rf3 HO517 BK522 (.int .i64 t513) (.int .i64 t514) (.slice Ao72 t515.length co72))))) (Kd.R_lt (rdl (rf3 HO520 BK522 (.int .i64 t513) (.int .i64 t514) (.slice Ao72 t515.length co72))))) (below_size (bel1 HB GE522))); have n4_ := Aside0.mk (blk_below (g := gb522) (o := .cells #[.int .i64 t513, .int .i64 t514, .slice Ao72 t515.length co72] 26 (0, 0)) (by (with_reducible repeat (first | refine blk_drewN ?_ _ | refine blk_drew ?_ | refine blk_alloc ?_ _)); refine blk_put (cs := #[.int .i64 t513, .int .i64 t514, .slice none 0 0]) ?_ 2 _ rfl; (with_reducible repeat (first | refine blk_drewN ?_ _ | refine blk_drew ?_ | refine blk_alloc ?_ _)); refine blk_put (cs := #[.int .i64 t513, .int .i64 0, .slice none 0 0]) ?_ 1 _ rfl; (with_reducible repeat (first | refine blk_drewN ?_ _ | refine blk_drew ?_ | refine blk_alloc ?_ _)); refine blk_put (cs := #[.int .i64 0, .int .i64 0, .slice none 0 0]) ?_ 0 _ rfl; (with_reducible repeat (first | refine blk_drewN ?_ _ | refine blk_drew ?_ | refine blk_alloc ?_ _)); exact BK522.out) hb); have n5_ := Aside0.mk (below_step (bel1 HB GE522) hb); clear HO517; clear HO520; clear BK522; clear HB; have HO517 := n0_; have HO520 := n1_; have HO525 := n2_; have HO528 := n3_; have BK522 := n4_; have HB := n5_; clear n0_ n1_ n2_ n3_ n4_ n5_; (try clear hb); (try clear hb2); (try clear hk); (try clear hi); (try clear ho0); (try clear ho1); have hcz75_0 : w74.cell? ⟨gb522, 0, none⟩ = some (.int .i64 t513) := (blk_cell BK522.out 0).trans rfl; have hcz75_1 : w74.cell? ⟨gb522, 1, none⟩ = some (.int .i64 t514) := (blk_cell BK522.out 1).trans rfl; have hcz75_2 : w74.cell? ⟨gb522, 2, none⟩ = some (.slice Ao72 t515.length co72) := (blk_cell BK522.out 2).trans rfl; have hfz75_0 := blk_frozen BK522.out 0; have hfz75_1 := blk_frozen BK522.out 1; have hfz75_2 := blk_frozen BK522.out 2) | (go_at_call 8; (with_reducible refine (spec_PortWork.calls k t513 t514 _ _ t515 _ _ t518 t521 t530 t533 t536 _ ?side1 ?side2 ?side3 ?side4 A6.out).mono ?_); (case side1 => exact cdl (Kd.R_reads' HO517.out).2.2); (case side2 => exact (Kd.R_reads' HO517.out).2.1); (case side3 => exact cdl (Kd.R_reads' HO520.out).2.2); (case side4 => exact (Kd.R_reads' HO520.out).2.1); rintro e w76 ⟨v531, v534, rfl, ho0, ho1, hb⟩; have n0_ := Aside0.mk (Kd.R_below (rdl HO517) hb); have n1_ := Aside0.mk (Kd.R_below (rdl HO520) hb); have n2_ := Aside0.mk (Kd.R_below (rdl HO525) hb); have n3_ := Aside0.mk (Kd.R_below (rdl HO528) hb); have n4_ := Aside0.mk (Kd.V_lower (Kd.V_mono (ok' := fun k_ => some k_ ≠ (.slice Ao72 t515.length co72 : Value).ownBlock ∧ some k_ ≠ (.slice Ao73 t518.length co73 : Value).ownBlock ∧ some k_ ≠ (v524 : Value).ownBlock ∧ some k_ ≠ (v527 : Value).ownBlock ∧ k_ ≠ gb522) ho0 (fun k_ hk_ => ⟨(Kd.fresh' (Kd.R_lt (rdl HO517)) k_ hk_), (Kd.fresh' (Kd.R_lt (rdl HO520)) k_ hk_), (Kd.fresh' (Kd.R_lt (rdl HO525)) k_ hk_), (Kd.fresh' (Kd.R_lt (rdl HO528)) k_ hk_), (Kd.freshB (g := gb522) (o := .cells #[.int .i64 t513, .int .i64 t514, .slice Ao72 t515.length co72] 26 (0, 0)) (bkl BK522) k_ hk_)⟩)) (below_size (bel1 HB GE522))); have n5_ := Aside0.mk (Kd.V_lower (Kd.V_mono (ok' := fun k_ => some k_ ≠ (.slice Ao72 t515.length co72 : Value).ownBlock ∧ some k_ ≠ (.slice Ao73 t518.length co73 : Value).ownBlock ∧ some k_ ≠ (v524 : Value).ownBlock ∧ some k_ ≠ (v527 : Value).ownBlock ∧ k_ ≠ gb522) ho1 (fun k_ hk_ => ⟨(Kd.fresh' (Kd.R_lt (rdl HO517)) k_ hk_), (Kd.fresh' (Kd.R_lt (rdl HO520)) k_ hk_), (Kd.fresh' (Kd.R_lt (rdl HO525)) k_ hk_), (Kd.fresh' (Kd.R_lt (rdl HO528)) k_ hk_), (Kd.freshB (g := gb522) (o := .cells #[.int .i64 t513, .int .i64 t514, .slice Ao72 t515.length co72] 26 (0, 0)) (bkl BK522) k_ hk_)⟩)) (below_size (bel1 HB GE522))); have n6_ := Aside0.mk (blk_below (g := gb522) (o := .cells #[.int .i64 t513, .int .i64 t514, .slice Ao72 t515.length co72] 26 (0, 0)) (bkl BK522) hb); have n7_ := Aside0.mk (below_step (bel1 HB GE522) hb); clear HO517; clear HO520; clear HO525; clear HO528; clear BK522; clear HB; have HO517 := n0_; have HO520 := n1_; have HO525 := n2_; have HO528 := n3_; have HO532 := n4_; have HO535 := n5_; have BK522 := n6_; have HB := n7_; clear n0_ n1_ n2_ n3_ n4_ n5_ n6_ n7_; (try clear hb); (try clear hb2); (try clear hk); (try clear hi); (try clear ho0); (try clear ho1); obtain ⟨Ao77, co77, eo77⟩ := Kd.R_slice HO525.out; subst eo77; obtain ⟨Ao78, co78, eo78⟩ := Kd.V_slice HO532.out; subst eo78) | (go_at_call 9; (with_reducible refine (laws_vInts.calls k _ _ t523 _ _ t530 true _ ?side1 ?side2 ?side3 ?side4 A8.out).mono ?_); (case side1 => exact cdl (Kd.R_reads' HO525.out).2.2); (case side2 => exact (Kd.R_reads' HO525.out).2.1); (case side3 => exact cdl (Kd.V_reads' HO532.out).2.2); (case side4 => exact (Kd.V_reads' HO532.out).2.1); rintro e w' ⟨rfl, ⟨nd, rfl⟩⟩; (try first | exact ⟨rfl, _, dd2⟩ | exact ⟨rfl, _, dd3⟩); obtain ⟨Ao79, co79, eo79⟩ := Kd.R_slice HO528.out; subst eo79; obtain ⟨Ao80, co80, eo80⟩ := Kd.V_slice HO535.out; subst eo80) | (go_at_call 9; (with_reducible refine (laws_vInts.calls k _ _ t526 _ _ t533 true _ ?side1 ?side2 ?side3 ?side4 A10.out).mono ?_); (case side1 => exact cdl (Kd.R_reads' HO528.out).2.2); (case side2 => exact (Kd.R_reads' HO528.out).2.1); (case side3 => exact cdl (Kd.V_reads' HO535.out).2.2); (case side4 => exact (Kd.V_reads' HO535.out).2.1); rintro e w' ⟨rfl, ⟨nd, rfl⟩⟩; (try first | exact ⟨rfl, _, dd2⟩ | exact ⟨rfl, _, dd3⟩))))
  go_ret
  exact ⟨by first | rfl | (simp [errW_none, errW_some] <;> rfl) | (simp [*, errW_none, errW_some] <;> rfl), bel1 HB GE522⟩
 subst c12
 have H1 : ((impl_ShiftedBoxes.f k t513 t514 t515 t518).bind fun bt539 => ((impl_LoadOrder.f t513 t514 t515).bind fun bt543 => ((impl_RowPorts.f k t513 t514 t515 t518).bind fun bt547 => (if bt539.2 = true then (if bt543.2 = true then (if bt547.2 = true then (if (bt543.1.length : Int) = (t515.length : Int) then (if (bt547.1.length : Int) = t513 then (laws_FnPortWork.l0 k t518 bt539.1 bt543.1 0 1 t513 t514 t515) else (none)) else (none)) else (none)) else (none)) else (none))))) = some r := by rw [if_pos rfl] at H; exact H
 clear H
 have H := H1
 clear H1
 replace H := Option.bind_eq_some_iff.mp H
 obtain ⟨⟨t539, t542⟩, A130, H⟩ := H
 replace H : ((impl_LoadOrder.f t513 t514 t515).bind fun bt543 => ((impl_RowPorts.f k t513 t514 t515 t518).bind fun bt547 => (if t542 = true then (if bt543.2 = true then (if bt547.2 = true then (if (bt543.1.length : Int) = (t515.length : Int) then (if (bt547.1.length : Int) = t513 then (laws_FnPortWork.l0 k t518 t539 bt543.1 0 1 t513 t514 t515) else (none)) else (none)) else (none)) else (none)) else (none)))) = some r := H
 have A13 := Aside0.mk A130
 clear A130
 replace H := Option.bind_eq_some_iff.mp H
 obtain ⟨⟨t543, t546⟩, A140, H⟩ := H
 replace H : ((impl_RowPorts.f k t513 t514 t515 t518).bind fun bt547 => (if t542 = true then (if t546 = true then (if bt547.2 = true then (if (t543.length : Int) = (t515.length : Int) then (if (bt547.1.length : Int) = t513 then (laws_FnPortWork.l0 k t518 t539 t543 0 1 t513 t514 t515) else (none)) else (none)) else (none)) else (none)) else (none))) = some r := H
 have A14 := Aside0.mk A140
 clear A140
 replace H := Option.bind_eq_some_iff.mp H
 obtain ⟨⟨t547, t550⟩, A150, H⟩ := H
 replace H : (if t542 = true then (if t546 = true then (if t550 = true then (if (t543.length : Int) = (t515.length : Int) then (if (t547.length : Int) = t513 then (laws_FnPortWork.l0 k t518 t539 t543 0 1 t513 t514 t515) else (none)) else (none)) else (none)) else (none)) else (none)) = some r := H
 have A15 := Aside0.mk A150
 clear A150
 by_cases c16 : t542 = true
 rotate_left
 ·replace c16 := Bool.eq_false_iff.mpr c16
  subst c16
  have H1 : (none) = some r := by rw [if_neg (show ¬ (false = true) by decide)] at H; exact H
  clear H
  have H := H1
  clear H1
  exact absurd H (by simp)
 subst c16
 have H1 : (if t546 = true then (if t550 = true then (if (t543.length : Int) = (t515.length : Int) then (if (t547.length : Int) = t513 then (laws_FnPortWork.l0 k t518 t539 t543 0 1 t513 t514 t515) else (none)) else (none)) else (none)) else (none)) = some r := by rw [if_pos rfl] at H; exact H
 clear H
 have H := H1
 clear H1
 by_cases c17 : t546 = true
 rotate_left
 ·replace c17 := Bool.eq_false_iff.mpr c17
  subst c17
  have H1 : (none) = some r := by rw [if_neg (show ¬ (false = true) by decide)] at H; exact H
  clear H
  have H := H1
  clear H1
  exact absurd H (by simp)
 subst c17
 have H1 : (if t550 = true then (if (t543.length : Int) = (t515.length : Int) then (if (t547.length : Int) = t513 then (laws_FnPortWork.l0 k t518 t539 t543 0 1 t513 t514 t515) else (none)) else (none)) else (none)) = some r := by rw [if_pos rfl] at H; exact H
 clear H
 have H := H1
 clear H1
 by_cases c18 : t550 = true
 rotate_left
 ·replace c18 := Bool.eq_false_iff.mpr c18
  subst c18
  have H1 : (none) = some r := by rw [if_neg (show ¬ (false = true) by decide)] at H; exact H
  clear H
  have H := H1
  clear H1
  exact absurd H (by simp)
 subst c18
 have H1 : (if (t543.length : Int) = (t515.length : Int) then (if (t547.length : Int) = t513 then (laws_FnPortWork.l0 k t518 t539 t543 0 1 t513 t514 t515) else (none)) else (none)) = some r := by rw [if_pos rfl] at H; exact H
 clear H
 have H := H1
 clear H1
 by_cases c19 : (t543.length : Int) = (t515.length : Int)
 rotate_left
 ·rw [if_neg c19] at H
  exact absurd H (by simp)
 rw [if_pos c19] at H
 have c19b0 : ((t543.length : Int) == (t515.length : Int)) = true := beq_iff_eq.mpr c19
 have c19b1 : ((t543.length : Int) != (t515.length : Int)) = false := bne_eq_false_iff_eq.mpr c19
 have c19b2 : (t543.length == t515.length) = true := by first | simpa using c19 | (simp at c19 ⊢; omega)
 clear c19
 by_cases c20 : (t547.length : Int) = t513
 rotate_left
 ·rw [if_neg c20] at H
  exact absurd H (by simp)
 rw [if_pos c20] at H
 have c20b0 : ((t547.length : Int) == t513) = true := beq_iff_eq.mpr c20
 have c20b1 : ((t547.length : Int) != t513) = false := bne_eq_false_iff_eq.mpr c20
 clear c20
 have H' := Aside0.mk H
 clear H
 go_enter Try.func3, Try.ntmps3
 go_wp2_with (first | (go_at_call 5; (with_reducible refine (laws_vBig.calls _ _ l0 false _ ?side1 ?side2 A2.out).mono ?_); (case side1 => exact cdl HR0.out); (case side2 => exact HC0.out); rintro e w' ⟨rfl, ⟨nd, rfl⟩⟩; (try first | exact ⟨rfl, _, dd2⟩ | exact ⟨rfl, _, dd3⟩)) | (go_at_call 6; (with_reducible refine (spec_DrawPortWork.calls k _ _ l0 t513 t514 t515 t518 t521 _ ?side1 ?side2 A4.out).mono ?_); (case side1 => exact cdl HR0.out); (case side2 => exact HC0.out); rintro e w21 ⟨v516, v519, rfl, ho0, ho1, hb⟩; have n0_ := Aside0.mk (Kd.R_lower ho0 (below_size (bel HB))); have n1_ := Aside0.mk (Kd.R_lower ho1 (below_size (bel HB))); have n2_ := Aside0.mk (below_step (bel HB) hb); clear HB; have HO517 := n0_; have HO520 := n1_; have HB := n2_; clear n0_ n1_ n2_; (try clear hb); (try clear hb2); (try clear hk); (try clear hi); (try clear ho0); (try clear ho1)) | ((with_reducible refine gate_dst (N := 3) rfl ?_); (try (refine gate_guard (by rfl) ?_; dsimp only)); refine box_event ?hg (N := 3) ?hd (cs := #[.int .i64 0, .int .i64 0, .slice none 0 0]) (t := 26) ?hr ?_; (case hd => rfl); (case hg => rfl); (case hr => first | (go_simp; done) | (go_simp; rfl)); intro gb522 hg w22 hbox hb; have n0_ := Aside0.mk (Kd.R_below (rdl HO517) hb); have n1_ := Aside0.mk (Kd.R_below (rdl HO520) hb); have n2_ := Aside0.mk (below_step (bel HB) hb); have n3_ := Aside0.mk (hbox); have n4_ := Aside0.mk ((by rw [hg]; exact (below_size (bel HB)) : w.heap.size ≤ gb522)); have n5_ := Aside0.mk ((by rw [hg]; exact (below_size (bel HB)) : w.heap.size ≤ gb522)); clear HO517; clear HO520; clear HB; have HO517 := n0_; have HO520 := n1_; have HB := n2_; have BK522 := n3_; have GW522 := n4_; have GE522 := n5_; clear n0_ n1_ n2_ n3_ n4_ n5_; clear hb hbox hg; have hcz23_0 : w22.cell? ⟨gb522, 0, none⟩ = some (.int .i64 0) := (blk_cell BK522.out 0).trans rfl; have hcz23_1 : w22.cell? ⟨gb522, 1, none⟩ = some (.int .i64 0) := (blk_cell BK522.out 1).trans rfl; have hcz23_2 : w22.cell? ⟨gb522, 2, none⟩ = some (.slice none 0 0) := (blk_cell BK522.out 2).trans rfl; have hfz23_0 := blk_frozen BK522.out 0; have hfz23_1 := blk_frozen BK522.out 1; have hfz23_2 := blk_frozen BK522.out 2; obtain ⟨Ao24, co24, eo24⟩ := Kd.R_slice HO517.out; subst eo24; obtain ⟨Ao25, co25, eo25⟩ := Kd.R_slice HO520.out; subst eo25) | (go_at_call 7; (with_reducible refine (impl_PortWork.calls k t513 t514 _ _ t515 _ _ t518 t521 t523 t526 true _ ?side1 ?side2 ?side3 ?side4 A5.out).mono ?_); (case side1 => refine (Kd.R_reads' (e := 3) (base := w.heap.size) (ok := fun k_ => some k_ ≠ (.slice Ao25 t518.length co25 : Value).ownBlock) (n := t515.length) (c := co24) ?_).2.2; exact (rdl (rf3 HO517 BK522 (.int .i64 t513) (.int .i64 t514) (.slice Ao24 t515.length co24)))); (case side2 => exact (Kd.R_reads' HO517.out).2.1); (case side3 => refine (Kd.R_reads' (e := 3) (base := w.heap.size) (ok := fun k_ => some k_ ≠ (.slice Ao24 t515.length co24 : Value).ownBlock) (n := t518.length) (c := co25) ?_).2.2; exact (rdl (rf3 HO520 BK522 (.int .i64 t513) (.int .i64 t514) (.slice Ao24 t515.length co24)))); (case side4 => exact (Kd.R_reads' HO520.out).2.1); rintro e w26 ⟨v524, v527, rfl, ho0, ho1, hb⟩; have n0_ := Aside0.mk (Kd.R_mono (Kd.R_told (Kd.R_told (Kd.R_old (rdl (rf3 HO517 BK522 (.int .i64 t513) (.int .i64 t514) (.slice Ao24 t515.length co24))) hb) (Kd.R_base ho0)) (Kd.R_base ho1)) (fun _ h_ => h_.1)); have n1_ := Aside0.mk (Kd.R_mono (Kd.R_told (Kd.R_told (Kd.R_old (rdl (rf3 HO520 BK522 (.int .i64 t513) (.int .i64 t514) (.slice Ao24 t515.length co24))) hb) (Kd.R_base ho0)) (Kd.R_base ho1)) (fun _ h_ => h_.1)); have n2_ := Aside0.mk (Kd.R_lower (Kd.R_new' (Kd.R_new' ho0 (Kd.R_lt (rdl (rf3 HO517 BK522 (.int .i64 t513) (.int .i64 t514) (.slice Ao24 t515.length co24))))) (Kd.R_lt (rdl (rf3 HO520 BK522 (.int .i64 t513) (.int .i64 t514) (.slice Ao24 t515.length co24))))) (below_size (bel1 HB GE522))); have n3_ := Aside0.mk (Kd.R_lower (Kd.R_new' (Kd.R_new' ho1 (Kd.R_lt (rdl (rf3 HO517 BK522 (.int .i64 t513) (.int .i64 t514) (.slice Ao24 t515.length co24))))) (Kd.R_lt (rdl (rf3 HO520 BK522 (.int .i64 t513) (.int .i64 t514) (.slice Ao24 t515.length co24))))) (below_size (bel1 HB GE522))); have n4_ := Aside0.mk (blk_below (g := gb522) (o := .cells #[.int .i64 t513, .int .i64 t514, .slice Ao24 t515.length co24] 26 (0, 0)) (by (with_reducible repeat (first | refine blk_drewN ?_ _ | refine blk_drew ?_ | refine blk_alloc ?_ _)); refine blk_put (cs := #[.int .i64 t513, .int .i64 t514, .slice none 0 0]) ?_ 2 _ rfl; (with_reducible repeat (first | refine blk_drewN ?_ _ | refine blk_drew ?_ | refine blk_alloc ?_ _)); refine blk_put (cs := #[.int .i64 t513, .int .i64 0, .slice none 0 0]) ?_ 1 _ rfl; (with_reducible repeat (first | refine blk_drewN ?_ _ | refine blk_drew ?_ | refine blk_alloc ?_ _)); refine blk_put (cs := #[.int .i64 0, .int .i64 0, .slice none 0 0]) ?_ 0 _ rfl; (with_reducible repeat (first | refine blk_drewN ?_ _ | refine blk_drew ?_ | refine blk_alloc ?_ _)); exact BK522.out) hb); have n5_ := Aside0.mk (below_step (bel1 HB GE522) hb); clear HO517; clear HO520; clear BK522; clear HB; have HO517 := n0_; have HO520 := n1_; have HO525 := n2_; have HO528 := n3_; have BK522 := n4_; have HB := n5_; clear n0_ n1_ n2_ n3_ n4_ n5_; (try clear hb); (try clear hb2); (try clear hk); (try clear hi); (try clear ho0); (try clear ho1); have hcz27_0 : w26.cell? ⟨gb522, 0, none⟩ = some (.int .i64 t513) := (blk_cell BK522.out 0).trans rfl; have hcz27_1 : w26.cell? ⟨gb522, 1, none⟩ = some (.int .i64 t514) := (blk_cell BK522.out 1).trans rfl; have hcz27_2 : w26.cell? ⟨gb522, 2, none⟩ = some (.slice Ao24 t515.length co24) := (blk_cell BK522.out 2).trans rfl; have hfz27_0 := blk_frozen BK522.out 0; have hfz27_1 := blk_frozen BK522.out 1; have hfz27_2 := blk_frozen BK522.out 2) | (go_at_call 8; (with_reducible refine (spec_PortWork.calls k t513 t514 _ _ t515 _ _ t518 t521 t530 t533 t536 _ ?side1 ?side2 ?side3 ?side4 A6.out).mono ?_); (case side1 => exact cdl (Kd.R_reads' HO517.out).2.2); (case side2 => exact (Kd.R_reads' HO517.out).2.1); (case side3 => exact cdl (Kd.R_reads' HO520.out).2.2); (case side4 => exact (Kd.R_reads' HO520.out).2.1); rintro e w28 ⟨v531, v534, rfl, ho0, ho1, hb⟩; have n0_ := Aside0.mk (Kd.R_below (rdl HO517) hb); have n1_ := Aside0.mk (Kd.R_below (rdl HO520) hb); have n2_ := Aside0.mk (Kd.R_below (rdl HO525) hb); have n3_ := Aside0.mk (Kd.R_below (rdl HO528) hb); have n4_ := Aside0.mk (Kd.V_lower (Kd.V_mono (ok' := fun k_ => some k_ ≠ (.slice Ao24 t515.length co24 : Value).ownBlock ∧ some k_ ≠ (.slice Ao25 t518.length co25 : Value).ownBlock ∧ some k_ ≠ (v524 : Value).ownBlock ∧ some k_ ≠ (v527 : Value).ownBlock ∧ k_ ≠ gb522) ho0 (fun k_ hk_ => ⟨(Kd.fresh' (Kd.R_lt (rdl HO517)) k_ hk_), (Kd.fresh' (Kd.R_lt (rdl HO520)) k_ hk_), (Kd.fresh' (Kd.R_lt (rdl HO525)) k_ hk_), (Kd.fresh' (Kd.R_lt (rdl HO528)) k_ hk_), (Kd.freshB (g := gb522) (o := .cells #[.int .i64 t513, .int .i64 t514, .slice Ao24 t515.length co24] 26 (0, 0)) (bkl BK522) k_ hk_)⟩)) (below_size (bel1 HB GE522))); have n5_ := Aside0.mk (Kd.V_lower (Kd.V_mono (ok' := fun k_ => some k_ ≠ (.slice Ao24 t515.length co24 : Value).ownBlock ∧ some k_ ≠ (.slice Ao25 t518.length co25 : Value).ownBlock ∧ some k_ ≠ (v524 : Value).ownBlock ∧ some k_ ≠ (v527 : Value).ownBlock ∧ k_ ≠ gb522) ho1 (fun k_ hk_ => ⟨(Kd.fresh' (Kd.R_lt (rdl HO517)) k_ hk_), (Kd.fresh' (Kd.R_lt (rdl HO520)) k_ hk_), (Kd.fresh' (Kd.R_lt (rdl HO525)) k_ hk_), (Kd.fresh' (Kd.R_lt (rdl HO528)) k_ hk_), (Kd.freshB (g := gb522) (o := .cells #[.int .i64 t513, .int .i64 t514, .slice Ao24 t515.length co24] 26 (0, 0)) (bkl BK522) k_ hk_)⟩)) (below_size (bel1 HB GE522))); have n6_ := Aside0.mk (blk_below (g := gb522) (o := .cells #[.int .i64 t513, .int .i64 t514, .slice Ao24 t515.length co24] 26 (0, 0)) (bkl BK522) hb); have n7_ := Aside0.mk (below_step (bel1 HB GE522) hb); clear HO517; clear HO520; clear HO525; clear HO528; clear BK522; clear HB; have HO517 := n0_; have HO520 := n1_; have HO525 := n2_; have HO528 := n3_; have HO532 := n4_; have HO535 := n5_; have BK522 := n6_; have HB := n7_; clear n0_ n1_ n2_ n3_ n4_ n5_ n6_ n7_; (try clear hb); (try clear hb2); (try clear hk); (try clear hi); (try clear ho0); (try clear ho1); obtain ⟨Ao29, co29, eo29⟩ := Kd.R_slice HO525.out; subst eo29; obtain ⟨Ao30, co30, eo30⟩ := Kd.V_slice HO532.out; subst eo30) | (go_at_call 9; (with_reducible refine (laws_vInts.calls k _ _ t523 _ _ t530 true _ ?side1 ?side2 ?side3 ?side4 A8.out).mono ?_); (case side1 => exact cdl (Kd.R_reads' HO525.out).2.2); (case side2 => exact (Kd.R_reads' HO525.out).2.1); (case side3 => exact cdl (Kd.V_reads' HO532.out).2.2); (case side4 => exact (Kd.V_reads' HO532.out).2.1); rintro e w' ⟨rfl, ⟨nd, rfl⟩⟩; (try first | exact ⟨rfl, _, dd2⟩ | exact ⟨rfl, _, dd3⟩); obtain ⟨Ao31, co31, eo31⟩ := Kd.R_slice HO528.out; subst eo31; obtain ⟨Ao32, co32, eo32⟩ := Kd.V_slice HO535.out; subst eo32) | (go_at_call 9; (with_reducible refine (laws_vInts.calls k _ _ t526 _ _ t533 true _ ?side1 ?side2 ?side3 ?side4 A10.out).mono ?_); (case side1 => exact cdl (Kd.R_reads' HO528.out).2.2); (case side2 => exact (Kd.R_reads' HO528.out).2.1); (case side3 => exact cdl (Kd.V_reads' HO535.out).2.2); (case side4 => exact (Kd.V_reads' HO535.out).2.1); rintro e w' ⟨rfl, ⟨nd, rfl⟩⟩; (try first | exact ⟨rfl, _, dd2⟩ | exact ⟨rfl, _, dd3⟩); have hcz33_0 : w28.cell? ⟨gb522, 0, none⟩ = some (.int .i64 t513) := (blk_cell BK522.out 0).trans rfl; have hcz33_1 : w28.cell? ⟨gb522, 1, none⟩ = some (.int .i64 t514) := (blk_cell BK522.out 1).trans rfl; have hcz33_2 : w28.cell? ⟨gb522, 2, none⟩ = some (.slice Ao24 t515.length co24) := (blk_cell BK522.out 2).trans rfl; have hfz33_0 := blk_frozen BK522.out 0; have hfz33_1 := blk_frozen BK522.out 1; have hfz33_2 := blk_frozen BK522.out 2) | (go_at_call 10; (with_reducible refine (impl_ShiftedBoxes.calls k t513 t514 _ _ t515 _ _ t518 t539 true _ ?side1 ?side2 ?side3 ?side4 A13.out).mono ?_); (case side1 => exact cdl (Kd.R_reads' HO517.out).2.2); (case side2 => exact (Kd.R_reads' HO517.out).2.1); (case side3 => exact cdl (Kd.R_reads' HO520.out).2.2); (case side4 => exact (Kd.R_reads' HO520.out).2.1); rintro e w34 ⟨v540, rfl, ho0, hb⟩; have n0_ := Aside0.mk (Kd.R_elder' (rdl HO517) (Kd.R_base ho0) hb); have n1_ := Aside0.mk (Kd.R_elder' (rdl HO520) (Kd.R_base ho0) hb); have n2_ := Aside0.mk (Kd.R_elder' (rdl HO525) (Kd.R_base ho0) hb); have n3_ := Aside0.mk (Kd.R_elder' (rdl HO528) (Kd.R_base ho0) hb); have n4_ := Aside0.mk (Kd.V_elder' (vdl HO532) (Kd.R_base ho0) hb); have n5_ := Aside0.mk (Kd.V_elder' (vdl HO535) (Kd.R_base ho0) hb); have n6_ := Aside0.mk (Kd.R_lower (Kd.R_new' (Kd.R_new' (Kd.R_new' (Kd.R_new' ho0 (Kd.R_lt (rdl HO517))) (Kd.R_lt (rdl HO520))) (Kd.R_lt (rdl HO525))) (Kd.R_lt (rdl HO528))) (below_size (bel1 HB GE522))); have n7_ := Aside0.mk (blk_below (g := gb522) (o := .cells #[.int .i64 t513, .int .i64 t514, .slice Ao24 t515.length co24] 26 (0, 0)) (bkl BK522) hb); have n8_ := Aside0.mk (below_step (bel1 HB GE522) hb); clear HO517; clear HO520; clear HO525; clear HO528; clear HO532; clear HO535; clear BK522; clear HB; have HO517 := n0_; have HO520 := n1_; have HO525 := n2_; have HO528 := n3_; have HO532 := n4_; have HO535 := n5_; have HO541 := n6_; have BK522 := n7_; have HB := n8_; clear n0_ n1_ n2_ n3_ n4_ n5_ n6_ n7_ n8_; (try clear hb); (try clear hb2); (try clear hk); (try clear hi); (try clear ho0); have hcz35_0 : w34.cell? ⟨gb522, 0, none⟩ = some (.int .i64 t513) := (blk_cell BK522.out 0).trans rfl; have hcz35_1 : w34.cell? ⟨gb522, 1, none⟩ = some (.int .i64 t514) := (blk_cell BK522.out 1).trans rfl; have hcz35_2 : w34.cell? ⟨gb522, 2, none⟩ = some (.slice Ao24 t515.length co24) := (blk_cell BK522.out 2).trans rfl; have hfz35_0 := blk_frozen BK522.out 0; have hfz35_1 := blk_frozen BK522.out 1; have hfz35_2 := blk_frozen BK522.out 2) | (go_at_call 11; (with_reducible refine (impl_LoadOrder.calls t513 t514 _ _ t515 t543 true _ ?side1 ?side2 A14.out).mono ?_); (case side1 => exact cdl (Kd.R_reads' HO517.out).2.2); (case side2 => exact (Kd.R_reads' HO517.out).2.1); rintro e w36 ⟨v544, rfl, ho0, hb⟩; have n0_ := Aside0.mk (Kd.R_elder' (rdl HO517) (Kd.R_base ho0) hb); have n1_ := Aside0.mk (Kd.R_elder' (rdl HO520) (Kd.R_base ho0) hb); have n2_ := Aside0.mk (Kd.R_elder' (rdl HO525) (Kd.R_base ho0) hb); have n3_ := Aside0.mk (Kd.R_elder' (rdl HO528) (Kd.R_base ho0) hb); have n4_ := Aside0.mk (Kd.V_elder' (vdl HO532) (Kd.R_base ho0) hb); have n5_ := Aside0.mk (Kd.V_elder' (vdl HO535) (Kd.R_base ho0) hb); have n6_ := Aside0.mk (Kd.R_elder' (rdl HO541) (Kd.R_base ho0) hb); have n7_ := Aside0.mk (Kd.R_lower (Kd.R_new' (Kd.R_new' (Kd.R_new' (Kd.R_new' (Kd.R_new' ho0 (Kd.R_lt (rdl HO517))) (Kd.R_lt (rdl HO520))) (Kd.R_lt (rdl HO525))) (Kd.R_lt (rdl HO528))) (Kd.R_lt (rdl HO541))) (below_size (bel1 HB GE522))); have n8_ := Aside0.mk (blk_below (g := gb522) (o := .cells #[.int .i64 t513, .int .i64 t514, .slice Ao24 t515.length co24] 26 (0, 0)) (bkl BK522) hb); have n9_ := Aside0.mk (below_step (bel1 HB GE522) hb); clear HO517; clear HO520; clear HO525; clear HO528; clear HO532; clear HO535; clear HO541; clear BK522; clear HB; have HO517 := n0_; have HO520 := n1_; have HO525 := n2_; have HO528 := n3_; have HO532 := n4_; have HO535 := n5_; have HO541 := n6_; have HO545 := n7_; have BK522 := n8_; have HB := n9_; clear n0_ n1_ n2_ n3_ n4_ n5_ n6_ n7_ n8_ n9_; (try clear hb); (try clear hb2); (try clear hk); (try clear hi); (try clear ho0); have hcz37_0 : w36.cell? ⟨gb522, 0, none⟩ = some (.int .i64 t513) := (blk_cell BK522.out 0).trans rfl; have hcz37_1 : w36.cell? ⟨gb522, 1, none⟩ = some (.int .i64 t514) := (blk_cell BK522.out 1).trans rfl; have hcz37_2 : w36.cell? ⟨gb522, 2, none⟩ = some (.slice Ao24 t515.length co24) := (blk_cell BK522.out 2).trans rfl; have hfz37_0 := blk_frozen BK522.out 0; have hfz37_1 := blk_frozen BK522.out 1; have hfz37_2 := blk_frozen BK522.out 2) | (go_at_call 12; (with_reducible refine (impl_RowPorts.calls k t513 t514 _ _ t515 _ _ t518 t547 true _ ?side1 ?side2 ?side3 ?side4 A15.out).mono ?_); (case side1 => exact cdl (Kd.R_reads' HO517.out).2.2); (case side2 => exact (Kd.R_reads' HO517.out).2.1); (case side3 => exact cdl (Kd.R_reads' HO520.out).2.2); (case side4 => exact (Kd.R_reads' HO520.out).2.1); rintro e w38 ⟨v548, rfl, ho0, hb⟩; have n0_ := Aside0.mk (Kd.R_below (rdl HO517) hb); have n1_ := Aside0.mk (Kd.R_below (rdl HO520) hb); have n2_ := Aside0.mk (Kd.R_below (rdl HO525) hb); have n3_ := Aside0.mk (Kd.R_below (rdl HO528) hb); have n4_ := Aside0.mk (Kd.V_elder' (vdl HO532) (Kd.S_base ho0) hb); have n5_ := Aside0.mk (Kd.V_elder' (vdl HO535) (Kd.S_base ho0) hb); have n6_ := Aside0.mk (Kd.R_below (rdl HO541) hb); have n7_ := Aside0.mk (Kd.R_below (rdl HO545) hb); have n8_ := Aside0.mk (Kd.S_lower (Kd.S_new' (Kd.S_new' (Kd.S_new' (Kd.S_new' (Kd.S_new' (Kd.S_new' ho0 (Kd.R_lt (rdl HO517))) (Kd.R_lt (rdl HO520))) (Kd.R_lt (rdl HO525))) (Kd.R_lt (rdl HO528))) (Kd.R_lt (rdl HO541))) (Kd.R_lt (rdl HO545))) (below_size (bel1 HB GE522))); have n9_ := Aside0.mk (blk_below (g := gb522) (o := .cells #[.int .i64 t513, .int .i64 t514, .slice Ao24 t515.length co24] 26 (0, 0)) (bkl BK522) hb); have n10_ := Aside0.mk (below_step (bel1 HB GE522) hb); clear HO517; clear HO520; clear HO525; clear HO528; clear HO532; clear HO535; clear HO541; clear HO545; clear BK522; clear HB; have HO517 := n0_; have HO520 := n1_; have HO525 := n2_; have HO528 := n3_; have HO532 := n4_; have HO535 := n5_; have HO541 := n6_; have HO545 := n7_; have HO549 := n8_; have BK522 := n9_; have HB := n10_; clear n0_ n1_ n2_ n3_ n4_ n5_ n6_ n7_ n8_ n9_ n10_; (try clear hb); (try clear hb2); (try clear hk); (try clear hi); (try clear ho0); obtain ⟨Ao39, co39, eo39⟩ := Kd.R_slice HO545.out; subst eo39; have hcz40_0 : w38.cell? ⟨gb522, 0, none⟩ = some (.int .i64 t513) := (blk_cell BK522.out 0).trans rfl; have hcz40_1 : w38.cell? ⟨gb522, 1, none⟩ = some (.int .i64 t514) := (blk_cell BK522.out 1).trans rfl; have hcz40_2 : w38.cell? ⟨gb522, 2, none⟩ = some (.slice Ao24 t515.length co24) := (blk_cell BK522.out 2).trans rfl; have hfz40_0 := blk_frozen BK522.out 0; have hfz40_1 := blk_frozen BK522.out 1; have hfz40_2 := blk_frozen BK522.out 2; obtain ⟨Ao41, co41, eo41⟩ := Kd.S_slice HO549.out; subst eo41))
 repeat (go_quiet (first | (go_at_call 5; (with_reducible refine (laws_vBig.calls _ _ l0 false _ ?side1 ?side2 A2.out).mono ?_); (case side1 => exact cdl HR0.out); (case side2 => exact HC0.out); rintro e w' ⟨rfl, ⟨nd, rfl⟩⟩; (try first | exact ⟨rfl, _, dd2⟩ | exact ⟨rfl, _, dd3⟩)) | (go_at_call 6; (with_reducible refine (spec_DrawPortWork.calls k _ _ l0 t513 t514 t515 t518 t521 _ ?side1 ?side2 A4.out).mono ?_); (case side1 => exact cdl HR0.out); (case side2 => exact HC0.out); rintro e w21 ⟨v516, v519, rfl, ho0, ho1, hb⟩; have n0_ := Aside0.mk (Kd.R_lower ho0 (below_size (bel HB))); have n1_ := Aside0.mk (Kd.R_lower ho1 (below_size (bel HB))); have n2_ := Aside0.mk (below_step (bel HB) hb); clear HB; have HO517 := n0_; have HO520 := n1_; have HB := n2_; clear n0_ n1_ n2_; (try clear hb); (try clear hb2); (try clear hk); (try clear hi); (try clear ho0); (try clear ho1)) | ((with_reducible refine gate_dst (N := 3) rfl ?_); (try (refine gate_guard (by rfl) ?_; dsimp only)); refine box_event ?hg (N := 3) ?hd (cs := #[.int .i64 0, .int .i64 0, .slice none 0 0]) (t := 26) ?hr ?_; (case hd => rfl); (case hg => rfl); (case hr => first | (go_simp; done) | (go_simp; rfl)); intro gb522 hg w22 hbox hb; have n0_ := Aside0.mk (Kd.R_below (rdl HO517) hb); have n1_ := Aside0.mk (Kd.R_below (rdl HO520) hb); have n2_ := Aside0.mk (below_step (bel HB) hb); have n3_ := Aside0.mk (hbox); have n4_ := Aside0.mk ((by rw [hg]; exact (below_size (bel HB)) : w.heap.size ≤ gb522)); have n5_ := Aside0.mk ((by rw [hg]; exact (below_size (bel HB)) : w.heap.size ≤ gb522)); clear HO517; clear HO520; clear HB; have HO517 := n0_; have HO520 := n1_; have HB := n2_; have BK522 := n3_; have GW522 := n4_; have GE522 := n5_; clear n0_ n1_ n2_ n3_ n4_ n5_; clear hb hbox hg; have hcz23_0 : w22.cell? ⟨gb522, 0, none⟩ = some (.int .i64 0) := (blk_cell BK522.out 0).trans rfl; have hcz23_1 : w22.cell? ⟨gb522, 1, none⟩ = some (.int .i64 0) := (blk_cell BK522.out 1).trans rfl; have hcz23_2 : w22.cell? ⟨gb522, 2, none⟩ = some (.slice none 0 0) := (blk_cell BK522.out 2).trans rfl; have hfz23_0 := blk_frozen BK522.out 0; have hfz23_1 := blk_frozen BK522.out 1; have hfz23_2 := blk_frozen BK522.out 2; obtain ⟨Ao24, co24, eo24⟩ := Kd.R_slice HO517.out; subst eo24; obtain ⟨Ao25, co25, eo25⟩ := Kd.R_slice HO520.out; subst eo25) | (go_at_call 7; (with_reducible refine (impl_PortWork.calls k t513 t514 _ _ t515 _ _ t518 t521 t523 t526 true _ ?side1 ?side2 ?side3 ?side4 A5.out).mono ?_); (case side1 => refine (Kd.R_reads' (e := 3) (base := w.heap.size) (ok := fun k_ => some k_ ≠ (.slice Ao25 t518.length co25 : Value).ownBlock) (n := t515.length) (c := co24) ?_).2.2; exact (rdl (rf3 HO517 BK522 (.int .i64 t513) (.int .i64 t514) (.slice Ao24 t515.length co24)))); (case side2 => exact (Kd.R_reads' HO517.out).2.1); (case side3 => refine (Kd.R_reads' (e := 3) (base := w.heap.size) (ok := fun k_ => some k_ ≠ (.slice Ao24 t515.length co24 : Value).ownBlock) (n := t518.length) (c := co25) ?_).2.2; exact (rdl (rf3 HO520 BK522 (.int .i64 t513) (.int .i64 t514) (.slice Ao24 t515.length co24)))); (case side4 => exact (Kd.R_reads' HO520.out).2.1); rintro e w26 ⟨v524, v527, rfl, ho0, ho1, hb⟩; have n0_ := Aside0.mk (Kd.R_mono (Kd.R_told (Kd.R_told (Kd.R_old (rdl (rf3 HO517 BK522 (.int .i64 t513) (.int .i64 t514) (.slice Ao24 t515.length co24))) hb) (Kd.R_base ho0)) (Kd.R_base ho1)) (fun _ h_ => h_.1)); have n1_ := Aside0.mk (Kd.R_mono (Kd.R_told (Kd.R_told (Kd.R_old (rdl (rf3 HO520 BK522 (.int .i64 t513) (.int .i64 t514) (.slice Ao24 t515.length co24))) hb) (Kd.R_base ho0)) (Kd.R_base ho1)) (fun _ h_ => h_.1)); have n2_ := Aside0.mk (Kd.R_lower (Kd.R_new' (Kd.R_new' ho0 (Kd.R_lt (rdl (rf3 HO517 BK522 (.int .i64 t513) (.int .i64 t514) (.slice Ao24 t515.length co24))))) (Kd.R_lt (rdl (rf3 HO520 BK522 (.int .i64 t513) (.int .i64 t514) (.slice Ao24 t515.length co24))))) (below_size (bel1 HB GE522))); have n3_ := Aside0.mk (Kd.R_lower (Kd.R_new' (Kd.R_new' ho1 (Kd.R_lt (rdl (rf3 HO517 BK522 (.int .i64 t513) (.int .i64 t514) (.slice Ao24 t515.length co24))))) (Kd.R_lt (rdl (rf3 HO520 BK522 (.int .i64 t513) (.int .i64 t514) (.slice Ao24 t515.length co24))))) (below_size (bel1 HB GE522))); have n4_ := Aside0.mk (blk_below (g := gb522) (o := .cells #[.int .i64 t513, .int .i64 t514, .slice Ao24 t515.length co24] 26 (0, 0)) (by (with_reducible repeat (first | refine blk_drewN ?_ _ | refine blk_drew ?_ | refine blk_alloc ?_ _)); refine blk_put (cs := #[.int .i64 t513, .int .i64 t514, .slice none 0 0]) ?_ 2 _ rfl; (with_reducible repeat (first | refine blk_drewN ?_ _ | refine blk_drew ?_ | refine blk_alloc ?_ _)); refine blk_put (cs := #[.int .i64 t513, .int .i64 0, .slice none 0 0]) ?_ 1 _ rfl; (with_reducible repeat (first | refine blk_drewN ?_ _ | refine blk_drew ?_ | refine blk_alloc ?_ _)); refine blk_put (cs := #[.int .i64 0, .int .i64 0, .slice none 0 0]) ?_ 0 _ rfl; (with_reducible repeat (first | refine blk_drewN ?_ _ | refine blk_drew ?_ | refine blk_alloc ?_ _)); exact BK522.out) hb); have n5_ := Aside0.mk (below_step (bel1 HB GE522) hb); clear HO517; clear HO520; clear BK522; clear HB; have HO517 := n0_; have HO520 := n1_; have HO525 := n2_; have HO528 := n3_; have BK522 := n4_; have HB := n5_; clear n0_ n1_ n2_ n3_ n4_ n5_; (try clear hb); (try clear hb2); (try clear hk); (try clear hi); (try clear ho0); (try clear ho1); have hcz27_0 : w26.cell? ⟨gb522, 0, none⟩ = some (.int .i64 t513) := (blk_cell BK522.out 0).trans rfl; have hcz27_1 : w26.cell? ⟨gb522, 1, none⟩ = some (.int .i64 t514) := (blk_cell BK522.out 1).trans rfl; have hcz27_2 : w26.cell? ⟨gb522, 2, none⟩ = some (.slice Ao24 t515.length co24) := (blk_cell BK522.out 2).trans rfl; have hfz27_0 := blk_frozen BK522.out 0; have hfz27_1 := blk_frozen BK522.out 1; have hfz27_2 := blk_frozen BK522.out 2) | (go_at_call 8; (with_reducible refine (spec_PortWork.calls k t513 t514 _ _ t515 _ _ t518 t521 t530 t533 t536 _ ?side1 ?side2 ?side3 ?side4 A6.out).mono ?_); (case side1 => exact cdl (Kd.R_reads' HO517.out).2.2); (case side2 => exact (Kd.R_reads' HO517.out).2.1); (case side3 => exact cdl (Kd.R_reads' HO520.out).2.2); (case side4 => exact (Kd.R_reads' HO520.out).2.1); rintro e w28 ⟨v531, v534, rfl, ho0, ho1, hb⟩; have n0_ := Aside0.mk (Kd.R_below (rdl HO517) hb); have n1_ := Aside0.mk (Kd.R_below (rdl HO520) hb); have n2_ := Aside0.mk (Kd.R_below (rdl HO525) hb); have n3_ := Aside0.mk (Kd.R_below (rdl HO528) hb); have n4_ := Aside0.mk (Kd.V_lower (Kd.V_mono (ok' := fun k_ => some k_ ≠ (.slice Ao24 t515.length co24 : Value).ownBlock ∧ some k_ ≠ (.slice Ao25 t518.length co25 : Value).ownBlock ∧ some k_ ≠ (v524 : Value).ownBlock ∧ some k_ ≠ (v527 : Value).ownBlock ∧ k_ ≠ gb522) ho0 (fun k_ hk_ => ⟨(Kd.fresh' (Kd.R_lt (rdl HO517)) k_ hk_), (Kd.fresh' (Kd.R_lt (rdl HO520)) k_ hk_), (Kd.fresh' (Kd.R_lt (rdl HO525)) k_ hk_), (Kd.fresh' (Kd.R_lt (rdl HO528)) k_ hk_), (Kd.freshB (g := gb522) (o := .cells #[.int .i64 t513, .int .i64 t514, .slice Ao24 t515.length co24] 26 (0, 0)) (bkl BK522) k_ hk_)⟩)) (below_size (bel1 HB GE522))); have n5_ := Aside0.mk (Kd.V_lower (Kd.V_mono (ok' := fun k_ => some k_ ≠ (.slice Ao24 t515.length co24 : Value).ownBlock ∧ some k_ ≠ (.slice Ao25 t518.length co25 : Value).ownBlock ∧ some k_ ≠ (v524 : Value).ownBlock ∧ some k_ ≠ (v527 : Value).ownBlock ∧ k_ ≠ gb522) ho1 (fun k_ hk_ => ⟨(Kd.fresh' (Kd.R_lt (rdl HO517)) k_ hk_), (Kd.fresh' (Kd.R_lt (rdl HO520)) k_ hk_), (Kd.fresh' (Kd.R_lt (rdl HO525)) k_ hk_), (Kd.fresh' (Kd.R_lt (rdl HO528)) k_ hk_), (Kd.freshB (g := gb522) (o := .cells #[.int .i64 t513, .int .i64 t514, .slice Ao24 t515.length co24] 26 (0, 0)) (bkl BK522) k_ hk_)⟩)) (below_size (bel1 HB GE522))); have n6_ := Aside0.mk (blk_below (g := gb522) (o := .cells #[.int .i64 t513, .int .i64 t514, .slice Ao24 t515.length co24] 26 (0, 0)) (bkl BK522) hb); have n7_ := Aside0.mk (below_step (bel1 HB GE522) hb); clear HO517; clear HO520; clear HO525; clear HO528; clear BK522; clear HB; have HO517 := n0_; have HO520 := n1_; have HO525 := n2_; have HO528 := n3_; have HO532 := n4_; have HO535 := n5_; have BK522 := n6_; have HB := n7_; clear n0_ n1_ n2_ n3_ n4_ n5_ n6_ n7_; (try clear hb); (try clear hb2); (try clear hk); (try clear hi); (try clear ho0); (try clear ho1); obtain ⟨Ao29, co29, eo29⟩ := Kd.R_slice HO525.out; subst eo29; obtain ⟨Ao30, co30, eo30⟩ := Kd.V_slice HO532.out; subst eo30) | (go_at_call 9; (with_reducible refine (laws_vInts.calls k _ _ t523 _ _ t530 true _ ?side1 ?side2 ?side3 ?side4 A8.out).mono ?_); (case side1 => exact cdl (Kd.R_reads' HO525.out).2.2); (case side2 => exact (Kd.R_reads' HO525.out).2.1); (case side3 => exact cdl (Kd.V_reads' HO532.out).2.2); (case side4 => exact (Kd.V_reads' HO532.out).2.1); rintro e w' ⟨rfl, ⟨nd, rfl⟩⟩; (try first | exact ⟨rfl, _, dd2⟩ | exact ⟨rfl, _, dd3⟩); obtain ⟨Ao31, co31, eo31⟩ := Kd.R_slice HO528.out; subst eo31; obtain ⟨Ao32, co32, eo32⟩ := Kd.V_slice HO535.out; subst eo32) | (go_at_call 9; (with_reducible refine (laws_vInts.calls k _ _ t526 _ _ t533 true _ ?side1 ?side2 ?side3 ?side4 A10.out).mono ?_); (case side1 => exact cdl (Kd.R_reads' HO528.out).2.2); (case side2 => exact (Kd.R_reads' HO528.out).2.1); (case side3 => exact cdl (Kd.V_reads' HO535.out).2.2); (case side4 => exact (Kd.V_reads' HO535.out).2.1); rintro e w' ⟨rfl, ⟨nd, rfl⟩⟩; (try first | exact ⟨rfl, _, dd2⟩ | exact ⟨rfl, _, dd3⟩); have hcz33_0 : w28.cell? ⟨gb522, 0, none⟩ = some (.int .i64 t513) := (blk_cell BK522.out 0).trans rfl; have hcz33_1 : w28.cell? ⟨gb522, 1, none⟩ = some (.int .i64 t514) := (blk_cell BK522.out 1).trans rfl; have hcz33_2 : w28.cell? ⟨gb522, 2, none⟩ = some (.slice Ao24 t515.length co24) := (blk_cell BK522.out 2).trans rfl; have hfz33_0 := blk_frozen BK522.out 0; have hfz33_1 := blk_frozen BK522.out 1; have hfz33_2 := blk_frozen BK522.out 2) | (go_at_call 10; (with_reducible refine (impl_ShiftedBoxes.calls k t513 t514 _ _ t515 _ _ t518 t539 true _ ?side1 ?side2 ?side3 ?side4 A13.out).mono ?_); (case side1 => exact cdl (Kd.R_reads' HO517.out).2.2); (case side2 => exact (Kd.R_reads' HO517.out).2.1); (case side3 => exact cdl (Kd.R_reads' HO520.out).2.2); (case side4 => exact (Kd.R_reads' HO520.out).2.1); rintro e w34 ⟨v540, rfl, ho0, hb⟩; have n0_ := Aside0.mk (Kd.R_elder' (rdl HO517) (Kd.R_base ho0) hb); have n1_ := Aside0.mk (Kd.R_elder' (rdl HO520) (Kd.R_base ho0) hb); have n2_ := Aside0.mk (Kd.R_elder' (rdl HO525) (Kd.R_base ho0) hb); have n3_ := Aside0.mk (Kd.R_elder' (rdl HO528) (Kd.R_base ho0) hb); have n4_ := Aside0.mk (Kd.V_elder' (vdl HO532) (Kd.R_base ho0) hb); have n5_ := Aside0.mk (Kd.V_elder' (vdl HO535) (Kd.R_base ho0) hb); have n6_ := Aside0.mk (Kd.R_lower (Kd.R_new' (Kd.R_new' (Kd.R_new' (Kd.R_new' ho0 (Kd.R_lt (rdl HO517))) (Kd.R_lt (rdl HO520))) (Kd.R_lt (rdl HO525))) (Kd.R_lt (rdl HO528))) (below_size (bel1 HB GE522))); have n7_ := Aside0.mk (blk_below (g := gb522) (o := .cells #[.int .i64 t513, .int .i64 t514, .slice Ao24 t515.length co24] 26 (0, 0)) (bkl BK522) hb); have n8_ := Aside0.mk (below_step (bel1 HB GE522) hb); clear HO517; clear HO520; clear HO525; clear HO528; clear HO532; clear HO535; clear BK522; clear HB; have HO517 := n0_; have HO520 := n1_; have HO525 := n2_; have HO528 := n3_; have HO532 := n4_; have HO535 := n5_; have HO541 := n6_; have BK522 := n7_; have HB := n8_; clear n0_ n1_ n2_ n3_ n4_ n5_ n6_ n7_ n8_; (try clear hb); (try clear hb2); (try clear hk); (try clear hi); (try clear ho0); have hcz35_0 : w34.cell? ⟨gb522, 0, none⟩ = some (.int .i64 t513) := (blk_cell BK522.out 0).trans rfl; have hcz35_1 : w34.cell? ⟨gb522, 1, none⟩ = some (.int .i64 t514) := (blk_cell BK522.out 1).trans rfl; have hcz35_2 : w34.cell? ⟨gb522, 2, none⟩ = some (.slice Ao24 t515.length co24) := (blk_cell BK522.out 2).trans rfl; have hfz35_0 := blk_frozen BK522.out 0; have hfz35_1 := blk_frozen BK522.out 1; have hfz35_2 := blk_frozen BK522.out 2) | (go_at_call 11; (with_reducible refine (impl_LoadOrder.calls t513 t514 _ _ t515 t543 true _ ?side1 ?side2 A14.out).mono ?_); (case side1 => exact cdl (Kd.R_reads' HO517.out).2.2); (case side2 => exact (Kd.R_reads' HO517.out).2.1); rintro e w36 ⟨v544, rfl, ho0, hb⟩; have n0_ := Aside0.mk (Kd.R_elder' (rdl HO517) (Kd.R_base ho0) hb); have n1_ := Aside0.mk (Kd.R_elder' (rdl HO520) (Kd.R_base ho0) hb); have n2_ := Aside0.mk (Kd.R_elder' (rdl HO525) (Kd.R_base ho0) hb); have n3_ := Aside0.mk (Kd.R_elder' (rdl HO528) (Kd.R_base ho0) hb); have n4_ := Aside0.mk (Kd.V_elder' (vdl HO532) (Kd.R_base ho0) hb); have n5_ := Aside0.mk (Kd.V_elder' (vdl HO535) (Kd.R_base ho0) hb); have n6_ := Aside0.mk (Kd.R_elder' (rdl HO541) (Kd.R_base ho0) hb); have n7_ := Aside0.mk (Kd.R_lower (Kd.R_new' (Kd.R_new' (Kd.R_new' (Kd.R_new' (Kd.R_new' ho0 (Kd.R_lt (rdl HO517))) (Kd.R_lt (rdl HO520))) (Kd.R_lt (rdl HO525))) (Kd.R_lt (rdl HO528))) (Kd.R_lt (rdl HO541))) (below_size (bel1 HB GE522))); have n8_ := Aside0.mk (blk_below (g := gb522) (o := .cells #[.int .i64 t513, .int .i64 t514, .slice Ao24 t515.length co24] 26 (0, 0)) (bkl BK522) hb); have n9_ := Aside0.mk (below_step (bel1 HB GE522) hb); clear HO517; clear HO520; clear HO525; clear HO528; clear HO532; clear HO535; clear HO541; clear BK522; clear HB; have HO517 := n0_; have HO520 := n1_; have HO525 := n2_; have HO528 := n3_; have HO532 := n4_; have HO535 := n5_; have HO541 := n6_; have HO545 := n7_; have BK522 := n8_; have HB := n9_; clear n0_ n1_ n2_ n3_ n4_ n5_ n6_ n7_ n8_ n9_; (try clear hb); (try clear hb2); (try clear hk); (try clear hi); (try clear ho0); have hcz37_0 : w36.cell? ⟨gb522, 0, none⟩ = some (.int .i64 t513) := (blk_cell BK522.out 0).trans rfl; have hcz37_1 : w36.cell? ⟨gb522, 1, none⟩ = some (.int .i64 t514) := (blk_cell BK522.out 1).trans rfl; have hcz37_2 : w36.cell? ⟨gb522, 2, none⟩ = some (.slice Ao24 t515.length co24) := (blk_cell BK522.out 2).trans rfl; have hfz37_0 := blk_frozen BK522.out 0; have hfz37_1 := blk_frozen BK522.out 1; have hfz37_2 := blk_frozen BK522.out 2) | (go_at_call 12; (with_reducible refine (impl_RowPorts.calls k t513 t514 _ _ t515 _ _ t518 t547 true _ ?side1 ?side2 ?side3 ?side4 A15.out).mono ?_); (case side1 => exact cdl (Kd.R_reads' HO517.out).2.2); (case side2 => exact (Kd.R_reads' HO517.out).2.1); (case side3 => exact cdl (Kd.R_reads' HO520.out).2.2); (case side4 => exact (Kd.R_reads' HO520.out).2.1); rintro e w38 ⟨v548, rfl, ho0, hb⟩; have n0_ := Aside0.mk (Kd.R_below (rdl HO517) hb); have n1_ := Aside0.mk (Kd.R_below (rdl HO520) hb); have n2_ := Aside0.mk (Kd.R_below (rdl HO525) hb); have n3_ := Aside0.mk (Kd.R_below (rdl HO528) hb); have n4_ := Aside0.mk (Kd.V_elder' (vdl HO532) (Kd.S_base ho0) hb); have n5_ := Aside0.mk (Kd.V_elder' (vdl HO535) (Kd.S_base ho0) hb); have n6_ := Aside0.mk (Kd.R_below (rdl HO541) hb); have n7_ := Aside0.mk (Kd.R_below (rdl HO545) hb); have n8_ := Aside0.mk (Kd.S_lower (Kd.S_new' (Kd.S_new' (Kd.S_new' (Kd.S_new' (Kd.S_new' (Kd.S_new' ho0 (Kd.R_lt (rdl HO517))) (Kd.R_lt (rdl HO520))) (Kd.R_lt (rdl HO525))) (Kd.R_lt (rdl HO528))) (Kd.R_lt (rdl HO541))) (Kd.R_lt (rdl HO545))) (below_size (bel1 HB GE522))); have n9_ := Aside0.mk (blk_below (g := gb522) (o := .cells #[.int .i64 t513, .int .i64 t514, .slice Ao24 t515.length co24] 26 (0, 0)) (bkl BK522) hb); have n10_ := Aside0.mk (below_step (bel1 HB GE522) hb); clear HO517; clear HO520; clear HO525; clear HO528; clear HO532; clear HO535; clear HO541; clear HO545; clear BK522; clear HB; have HO517 := n0_; have HO520 := n1_; have HO525 := n2_; have HO528 := n3_; have HO532 := n4_; have HO535 := n5_; have HO541 := n6_; have HO545 := n7_; have HO549 := n8_; have BK522 := n9_; have HB := n10_; clear n0_ n1_ n2_ n3_ n4_ n5_ n6_ n7_ n8_ n9_ n10_; (try clear hb); (try clear hb2); (try clear hk); (try clear hi); (try clear ho0); obtain ⟨Ao39, co39, eo39⟩ := Kd.R_slice HO545.out; subst eo39; have hcz40_0 : w38.cell? ⟨gb522, 0, none⟩ = some (.int .i64 t513) := (blk_cell BK522.out 0).trans rfl; have hcz40_1 : w38.cell? ⟨gb522, 1, none⟩ = some (.int .i64 t514) := (blk_cell BK522.out 1).trans rfl; have hcz40_2 : w38.cell? ⟨gb522, 2, none⟩ = some (.slice Ao24 t515.length co24) := (blk_cell BK522.out 2).trans rfl; have hfz40_0 := blk_frozen BK522.out 0; have hfz40_1 := blk_frozen BK522.out 1; have hfz40_2 := blk_frozen BK522.out 2; obtain ⟨Ao41, co41, eo41⟩ := Kd.S_slice HO549.out; subst eo41)); try go_wp2_with (first | (go_at_call 5; (with_reducible refine (laws_vBig.calls _ _ l0 false _ ?side1 ?side2 A2.out).mono ?_); (case side1 => exact cdl HR0.out); (case side2 => exact HC0.out); rintro e w' ⟨rfl, ⟨nd, rfl⟩⟩; (try first | exact ⟨rfl, _, dd2⟩ | exact ⟨rfl, _, dd3⟩)) | (go_at_call 6; (with_reducible refine (spec_DrawPortWork.calls k _ _ l0 t513 t514 t515 t518 t521 _ ?side1 ?side2 A4.out).mono ?_); (case side1 => exact cdl HR0.out); (case side2 => exact HC0.out); rintro e w21 ⟨v516, v519, rfl, ho0, ho1, hb⟩; have n0_ := Aside0.mk (Kd.R_lower ho0 (below_size (bel HB))); have n1_ := Aside0.mk (Kd.R_lower ho1 (below_size (bel HB))); have n2_ := Aside0.mk (below_step (bel HB) hb); clear HB; have HO517 := n0_; have HO520 := n1_; have HB := n2_; clear n0_ n1_ n2_; (try clear hb); (try clear hb2); (try clear hk); (try clear hi); (try clear ho0); (try clear ho1)) | ((with_reducible refine gate_dst (N := 3) rfl ?_); (try (refine gate_guard (by rfl) ?_; dsimp only)); refine box_event ?hg (N := 3) ?hd (cs := #[.int .i64 0, .int .i64 0, .slice none 0 0]) (t := 26) ?hr ?_; (case hd => rfl); (case hg => rfl); (case hr => first | (go_simp; done) | (go_simp; rfl)); intro gb522 hg w22 hbox hb; have n0_ := Aside0.mk (Kd.R_below (rdl HO517) hb); have n1_ := Aside0.mk (Kd.R_below (rdl HO520) hb); have n2_ := Aside0.mk (below_step (bel HB) hb); have n3_ := Aside0.mk (hbox); have n4_ := Aside0.mk ((by rw [hg]; exact (below_size (bel HB)) : w.heap.size ≤ gb522)); have n5_ := Aside0.mk ((by rw [hg]; exact (below_size (bel HB)) : w.heap.size ≤ gb522)); clear HO517; clear HO520; clear HB; have HO517 := n0_; have HO520 := n1_; have HB := n2_; have BK522 := n3_; have GW522 := n4_; have GE522 := n5_; clear n0_ n1_ n2_ n3_ n4_ n5_; clear hb hbox hg; have hcz23_0 : w22.cell? ⟨gb522, 0, none⟩ = some (.int .i64 0) := (blk_cell BK522.out 0).trans rfl; have hcz23_1 : w22.cell? ⟨gb522, 1, none⟩ = some (.int .i64 0) := (blk_cell BK522.out 1).trans rfl; have hcz23_2 : w22.cell? ⟨gb522, 2, none⟩ = some (.slice none 0 0) := (blk_cell BK522.out 2).trans rfl; have hfz23_0 := blk_frozen BK522.out 0; have hfz23_1 := blk_frozen BK522.out 1; have hfz23_2 := blk_frozen BK522.out 2; obtain ⟨Ao24, co24, eo24⟩ := Kd.R_slice HO517.out; subst eo24; obtain ⟨Ao25, co25, eo25⟩ := Kd.R_slice HO520.out; subst eo25) | (go_at_call 7; (with_reducible refine (impl_PortWork.calls k t513 t514 _ _ t515 _ _ t518 t521 t523 t526 true _ ?side1 ?side2 ?side3 ?side4 A5.out).mono ?_); (case side1 => refine (Kd.R_reads' (e := 3) (base := w.heap.size) (ok := fun k_ => some k_ ≠ (.slice Ao25 t518.length co25 : Value).ownBlock) (n := t515.length) (c := co24) ?_).2.2; exact (rdl (rf3 HO517 BK522 (.int .i64 t513) (.int .i64 t514) (.slice Ao24 t515.length co24)))); (case side2 => exact (Kd.R_reads' HO517.out).2.1); (case side3 => refine (Kd.R_reads' (e := 3) (base := w.heap.size) (ok := fun k_ => some k_ ≠ (.slice Ao24 t515.length co24 : Value).ownBlock) (n := t518.length) (c := co25) ?_).2.2; exact (rdl (rf3 HO520 BK522 (.int .i64 t513) (.int .i64 t514) (.slice Ao24 t515.length co24)))); (case side4 => exact (Kd.R_reads' HO520.out).2.1); rintro e w26 ⟨v524, v527, rfl, ho0, ho1, hb⟩; have n0_ := Aside0.mk (Kd.R_mono (Kd.R_told (Kd.R_told (Kd.R_old (rdl (rf3 HO517 BK522 (.int .i64 t513) (.int .i64 t514) (.slice Ao24 t515.length co24))) hb) (Kd.R_base ho0)) (Kd.R_base ho1)) (fun _ h_ => h_.1)); have n1_ := Aside0.mk (Kd.R_mono (Kd.R_told (Kd.R_told (Kd.R_old (rdl (rf3 HO520 BK522 (.int .i64 t513) (.int .i64 t514) (.slice Ao24 t515.length co24))) hb) (Kd.R_base ho0)) (Kd.R_base ho1)) (fun _ h_ => h_.1)); have n2_ := Aside0.mk (Kd.R_lower (Kd.R_new' (Kd.R_new' ho0 (Kd.R_lt (rdl (rf3 HO517 BK522 (.int .i64 t513) (.int .i64 t514) (.slice Ao24 t515.length co24))))) (Kd.R_lt (rdl (rf3 HO520 BK522 (.int .i64 t513) (.int .i64 t514) (.slice Ao24 t515.length co24))))) (below_size (bel1 HB GE522))); have n3_ := Aside0.mk (Kd.R_lower (Kd.R_new' (Kd.R_new' ho1 (Kd.R_lt (rdl (rf3 HO517 BK522 (.int .i64 t513) (.int .i64 t514) (.slice Ao24 t515.length co24))))) (Kd.R_lt (rdl (rf3 HO520 BK522 (.int .i64 t513) (.int .i64 t514) (.slice Ao24 t515.length co24))))) (below_size (bel1 HB GE522))); have n4_ := Aside0.mk (blk_below (g := gb522) (o := .cells #[.int .i64 t513, .int .i64 t514, .slice Ao24 t515.length co24] 26 (0, 0)) (by (with_reducible repeat (first | refine blk_drewN ?_ _ | refine blk_drew ?_ | refine blk_alloc ?_ _)); refine blk_put (cs := #[.int .i64 t513, .int .i64 t514, .slice none 0 0]) ?_ 2 _ rfl; (with_reducible repeat (first | refine blk_drewN ?_ _ | refine blk_drew ?_ | refine blk_alloc ?_ _)); refine blk_put (cs := #[.int .i64 t513, .int .i64 0, .slice none 0 0]) ?_ 1 _ rfl; (with_reducible repeat (first | refine blk_drewN ?_ _ | refine blk_drew ?_ | refine blk_alloc ?_ _)); refine blk_put (cs := #[.int .i64 0, .int .i64 0, .slice none 0 0]) ?_ 0 _ rfl; (with_reducible repeat (first | refine blk_drewN ?_ _ | refine blk_drew ?_ | refine blk_alloc ?_ _)); exact BK522.out) hb); have n5_ := Aside0.mk (below_step (bel1 HB GE522) hb); clear HO517; clear HO520; clear BK522; clear HB; have HO517 := n0_; have HO520 := n1_; have HO525 := n2_; have HO528 := n3_; have BK522 := n4_; have HB := n5_; clear n0_ n1_ n2_ n3_ n4_ n5_; (try clear hb); (try clear hb2); (try clear hk); (try clear hi); (try clear ho0); (try clear ho1); have hcz27_0 : w26.cell? ⟨gb522, 0, none⟩ = some (.int .i64 t513) := (blk_cell BK522.out 0).trans rfl; have hcz27_1 : w26.cell? ⟨gb522, 1, none⟩ = some (.int .i64 t514) := (blk_cell BK522.out 1).trans rfl; have hcz27_2 : w26.cell? ⟨gb522, 2, none⟩ = some (.slice Ao24 t515.length co24) := (blk_cell BK522.out 2).trans rfl; have hfz27_0 := blk_frozen BK522.out 0; have hfz27_1 := blk_frozen BK522.out 1; have hfz27_2 := blk_frozen BK522.out 2) | (go_at_call 8; (with_reducible refine (spec_PortWork.calls k t513 t514 _ _ t515 _ _ t518 t521 t530 t533 t536 _ ?side1 ?side2 ?side3 ?side4 A6.out).mono ?_); (case side1 => exact cdl (Kd.R_reads' HO517.out).2.2); (case side2 => exact (Kd.R_reads' HO517.out).2.1); (case side3 => exact cdl (Kd.R_reads' HO520.out).2.2); (case side4 => exact (Kd.R_reads' HO520.out).2.1); rintro e w28 ⟨v531, v534, rfl, ho0, ho1, hb⟩; have n0_ := Aside0.mk (Kd.R_below (rdl HO517) hb); have n1_ := Aside0.mk (Kd.R_below (rdl HO520) hb); have n2_ := Aside0.mk (Kd.R_below (rdl HO525) hb); have n3_ := Aside0.mk (Kd.R_below (rdl HO528) hb); have n4_ := Aside0.mk (Kd.V_lower (Kd.V_mono (ok' := fun k_ => some k_ ≠ (.slice Ao24 t515.length co24 : Value).ownBlock ∧ some k_ ≠ (.slice Ao25 t518.length co25 : Value).ownBlock ∧ some k_ ≠ (v524 : Value).ownBlock ∧ some k_ ≠ (v527 : Value).ownBlock ∧ k_ ≠ gb522) ho0 (fun k_ hk_ => ⟨(Kd.fresh' (Kd.R_lt (rdl HO517)) k_ hk_), (Kd.fresh' (Kd.R_lt (rdl HO520)) k_ hk_), (Kd.fresh' (Kd.R_lt (rdl HO525)) k_ hk_), (Kd.fresh' (Kd.R_lt (rdl HO528)) k_ hk_), (Kd.freshB (g := gb522) (o := .cells #[.int .i64 t513, .int .i64 t514, .slice Ao24 t515.length co24] 26 (0, 0)) (bkl BK522) k_ hk_)⟩)) (below_size (bel1 HB GE522))); have n5_ := Aside0.mk (Kd.V_lower (Kd.V_mono (ok' := fun k_ => some k_ ≠ (.slice Ao24 t515.length co24 : Value).ownBlock ∧ some k_ ≠ (.slice Ao25 t518.length co25 : Value).ownBlock ∧ some k_ ≠ (v524 : Value).ownBlock ∧ some k_ ≠ (v527 : Value).ownBlock ∧ k_ ≠ gb522) ho1 (fun k_ hk_ => ⟨(Kd.fresh' (Kd.R_lt (rdl HO517)) k_ hk_), (Kd.fresh' (Kd.R_lt (rdl HO520)) k_ hk_), (Kd.fresh' (Kd.R_lt (rdl HO525)) k_ hk_), (Kd.fresh' (Kd.R_lt (rdl HO528)) k_ hk_), (Kd.freshB (g := gb522) (o := .cells #[.int .i64 t513, .int .i64 t514, .slice Ao24 t515.length co24] 26 (0, 0)) (bkl BK522) k_ hk_)⟩)) (below_size (bel1 HB GE522))); have n6_ := Aside0.mk (blk_below (g := gb522) (o := .cells #[.int .i64 t513, .int .i64 t514, .slice Ao24 t515.length co24] 26 (0, 0)) (bkl BK522) hb); have n7_ := Aside0.mk (below_step (bel1 HB GE522) hb); clear HO517; clear HO520; clear HO525; clear HO528; clear BK522; clear HB; have HO517 := n0_; have HO520 := n1_; have HO525 := n2_; have HO528 := n3_; have HO532 := n4_; have HO535 := n5_; have BK522 := n6_; have HB := n7_; clear n0_ n1_ n2_ n3_ n4_ n5_ n6_ n7_; (try clear hb); (try clear hb2); (try clear hk); (try clear hi); (try clear ho0); (try clear ho1); obtain ⟨Ao29, co29, eo29⟩ := Kd.R_slice HO525.out; subst eo29; obtain ⟨Ao30, co30, eo30⟩ := Kd.V_slice HO532.out; subst eo30) | (go_at_call 9; (with_reducible refine (laws_vInts.calls k _ _ t523 _ _ t530 true _ ?side1 ?side2 ?side3 ?side4 A8.out).mono ?_); (case side1 => exact cdl (Kd.R_reads' HO525.out).2.2); (case side2 => exact (Kd.R_reads' HO525.out).2.1); (case side3 => exact cdl (Kd.V_reads' HO532.out).2.2); (case side4 => exact (Kd.V_reads' HO532.out).2.1); rintro e w' ⟨rfl, ⟨nd, rfl⟩⟩; (try first | exact ⟨rfl, _, dd2⟩ | exact ⟨rfl, _, dd3⟩); obtain ⟨Ao31, co31, eo31⟩ := Kd.R_slice HO528.out; subst eo31; obtain ⟨Ao32, co32, eo32⟩ := Kd.V_slice HO535.out; subst eo32) | (go_at_call 9; (with_reducible refine (laws_vInts.calls k _ _ t526 _ _ t533 true _ ?side1 ?side2 ?side3 ?side4 A10.out).mono ?_); (case side1 => exact cdl (Kd.R_reads' HO528.out).2.2); (case side2 => exact (Kd.R_reads' HO528.out).2.1); (case side3 => exact cdl (Kd.V_reads' HO535.out).2.2); (case side4 => exact (Kd.V_reads' HO535.out).2.1); rintro e w' ⟨rfl, ⟨nd, rfl⟩⟩; (try first | exact ⟨rfl, _, dd2⟩ | exact ⟨rfl, _, dd3⟩); have hcz33_0 : w28.cell? ⟨gb522, 0, none⟩ = some (.int .i64 t513) := (blk_cell BK522.out 0).trans rfl; have hcz33_1 : w28.cell? ⟨gb522, 1, none⟩ = some (.int .i64 t514) := (blk_cell BK522.out 1).trans rfl; have hcz33_2 : w28.cell? ⟨gb522, 2, none⟩ = some (.slice Ao24 t515.length co24) := (blk_cell BK522.out 2).trans rfl; have hfz33_0 := blk_frozen BK522.out 0; have hfz33_1 := blk_frozen BK522.out 1; have hfz33_2 := blk_frozen BK522.out 2) | (go_at_call 10; (with_reducible refine (impl_ShiftedBoxes.calls k t513 t514 _ _ t515 _ _ t518 t539 true _ ?side1 ?side2 ?side3 ?side4 A13.out).mono ?_); (case side1 => exact cdl (Kd.R_reads' HO517.out).2.2); (case side2 => exact (Kd.R_reads' HO517.out).2.1); (case side3 => exact cdl (Kd.R_reads' HO520.out).2.2); (case side4 => exact (Kd.R_reads' HO520.out).2.1); rintro e w34 ⟨v540, rfl, ho0, hb⟩; have n0_ := Aside0.mk (Kd.R_elder' (rdl HO517) (Kd.R_base ho0) hb); have n1_ := Aside0.mk (Kd.R_elder' (rdl HO520) (Kd.R_base ho0) hb); have n2_ := Aside0.mk (Kd.R_elder' (rdl HO525) (Kd.R_base ho0) hb); have n3_ := Aside0.mk (Kd.R_elder' (rdl HO528) (Kd.R_base ho0) hb); have n4_ := Aside0.mk (Kd.V_elder' (vdl HO532) (Kd.R_base ho0) hb); have n5_ := Aside0.mk (Kd.V_elder' (vdl HO535) (Kd.R_base ho0) hb); have n6_ := Aside0.mk (Kd.R_lower (Kd.R_new' (Kd.R_new' (Kd.R_new' (Kd.R_new' ho0 (Kd.R_lt (rdl HO517))) (Kd.R_lt (rdl HO520))) (Kd.R_lt (rdl HO525))) (Kd.R_lt (rdl HO528))) (below_size (bel1 HB GE522))); have n7_ := Aside0.mk (blk_below (g := gb522) (o := .cells #[.int .i64 t513, .int .i64 t514, .slice Ao24 t515.length co24] 26 (0, 0)) (bkl BK522) hb); have n8_ := Aside0.mk (below_step (bel1 HB GE522) hb); clear HO517; clear HO520; clear HO525; clear HO528; clear HO532; clear HO535; clear BK522; clear HB; have HO517 := n0_; have HO520 := n1_; have HO525 := n2_; have HO528 := n3_; have HO532 := n4_; have HO535 := n5_; have HO541 := n6_; have BK522 := n7_; have HB := n8_; clear n0_ n1_ n2_ n3_ n4_ n5_ n6_ n7_ n8_; (try clear hb); (try clear hb2); (try clear hk); (try clear hi); (try clear ho0); have hcz35_0 : w34.cell? ⟨gb522, 0, none⟩ = some (.int .i64 t513) := (blk_cell BK522.out 0).trans rfl; have hcz35_1 : w34.cell? ⟨gb522, 1, none⟩ = some (.int .i64 t514) := (blk_cell BK522.out 1).trans rfl; have hcz35_2 : w34.cell? ⟨gb522, 2, none⟩ = some (.slice Ao24 t515.length co24) := (blk_cell BK522.out 2).trans rfl; have hfz35_0 := blk_frozen BK522.out 0; have hfz35_1 := blk_frozen BK522.out 1; have hfz35_2 := blk_frozen BK522.out 2) | (go_at_call 11; (with_reducible refine (impl_LoadOrder.calls t513 t514 _ _ t515 t543 true _ ?side1 ?side2 A14.out).mono ?_); (case side1 => exact cdl (Kd.R_reads' HO517.out).2.2); (case side2 => exact (Kd.R_reads' HO517.out).2.1); rintro e w36 ⟨v544, rfl, ho0, hb⟩; have n0_ := Aside0.mk (Kd.R_elder' (rdl HO517) (Kd.R_base ho0) hb); have n1_ := Aside0.mk (Kd.R_elder' (rdl HO520) (Kd.R_base ho0) hb); have n2_ := Aside0.mk (Kd.R_elder' (rdl HO525) (Kd.R_base ho0) hb); have n3_ := Aside0.mk (Kd.R_elder' (rdl HO528) (Kd.R_base ho0) hb); have n4_ := Aside0.mk (Kd.V_elder' (vdl HO532) (Kd.R_base ho0) hb); have n5_ := Aside0.mk (Kd.V_elder' (vdl HO535) (Kd.R_base ho0) hb); have n6_ := Aside0.mk (Kd.R_elder' (rdl HO541) (Kd.R_base ho0) hb); have n7_ := Aside0.mk (Kd.R_lower (Kd.R_new' (Kd.R_new' (Kd.R_new' (Kd.R_new' (Kd.R_new' ho0 (Kd.R_lt (rdl HO517))) (Kd.R_lt (rdl HO520))) (Kd.R_lt (rdl HO525))) (Kd.R_lt (rdl HO528))) (Kd.R_lt (rdl HO541))) (below_size (bel1 HB GE522))); have n8_ := Aside0.mk (blk_below (g := gb522) (o := .cells #[.int .i64 t513, .int .i64 t514, .slice Ao24 t515.length co24] 26 (0, 0)) (bkl BK522) hb); have n9_ := Aside0.mk (below_step (bel1 HB GE522) hb); clear HO517; clear HO520; clear HO525; clear HO528; clear HO532; clear HO535; clear HO541; clear BK522; clear HB; have HO517 := n0_; have HO520 := n1_; have HO525 := n2_; have HO528 := n3_; have HO532 := n4_; have HO535 := n5_; have HO541 := n6_; have HO545 := n7_; have BK522 := n8_; have HB := n9_; clear n0_ n1_ n2_ n3_ n4_ n5_ n6_ n7_ n8_ n9_; (try clear hb); (try clear hb2); (try clear hk); (try clear hi); (try clear ho0); have hcz37_0 : w36.cell? ⟨gb522, 0, none⟩ = some (.int .i64 t513) := (blk_cell BK522.out 0).trans rfl; have hcz37_1 : w36.cell? ⟨gb522, 1, none⟩ = some (.int .i64 t514) := (blk_cell BK522.out 1).trans rfl; have hcz37_2 : w36.cell? ⟨gb522, 2, none⟩ = some (.slice Ao24 t515.length co24) := (blk_cell BK522.out 2).trans rfl; have hfz37_0 := blk_frozen BK522.out 0; have hfz37_1 := blk_frozen BK522.out 1; have hfz37_2 := blk_frozen BK522.out 2) | (go_at_call 12; (with_reducible refine (impl_RowPorts.calls k t513 t514 _ _ t515 _ _ t518 t547 true _ ?side1 ?side2 ?side3 ?side4 A15.out).mono ?_); (case side1 => exact cdl (Kd.R_reads' HO517.out).2.2); (case side2 => exact (Kd.R_reads' HO517.out).2.1); (case side3 => exact cdl (Kd.R_reads' HO520.out).2.2); (case side4 => exact (Kd.R_reads' HO520.out).2.1); rintro e w38 ⟨v548, rfl, ho0, hb⟩; have n0_ := Aside0.mk (Kd.R_below (rdl HO517) hb); have n1_ := Aside0.mk (Kd.R_below (rdl HO520) hb); have n2_ := Aside0.mk (Kd.R_below (rdl HO525) hb); have n3_ := Aside0.mk (Kd.R_below (rdl HO528) hb); have n4_ := Aside0.mk (Kd.V_elder' (vdl HO532) (Kd.S_base ho0) hb); have n5_ := Aside0.mk (Kd.V_elder' (vdl HO535) (Kd.S_base ho0) hb); have n6_ := Aside0.mk (Kd.R_below (rdl HO541) hb); have n7_ := Aside0.mk (Kd.R_below (rdl HO545) hb); have n8_ := Aside0.mk (Kd.S_lower (Kd.S_new' (Kd.S_new' (Kd.S_new' (Kd.S_new' (Kd.S_new' (Kd.S_new' ho0 (Kd.R_lt (rdl HO517))) (Kd.R_lt (rdl HO520))) (Kd.R_lt (rdl HO525))) (Kd.R_lt (rdl HO528))) (Kd.R_lt (rdl HO541))) (Kd.R_lt (rdl HO545))) (below_size (bel1 HB GE522))); have n9_ := Aside0.mk (blk_below (g := gb522) (o := .cells #[.int .i64 t513, .int .i64 t514, .slice Ao24 t515.length co24] 26 (0, 0)) (bkl BK522) hb); have n10_ := Aside0.mk (below_step (bel1 HB GE522) hb); clear HO517; clear HO520; clear HO525; clear HO528; clear HO532; clear HO535; clear HO541; clear HO545; clear BK522; clear HB; have HO517 := n0_; have HO520 := n1_; have HO525 := n2_; have HO528 := n3_; have HO532 := n4_; have HO535 := n5_; have HO541 := n6_; have HO545 := n7_; have HO549 := n8_; have BK522 := n9_; have HB := n10_; clear n0_ n1_ n2_ n3_ n4_ n5_ n6_ n7_ n8_ n9_ n10_; (try clear hb); (try clear hb2); (try clear hk); (try clear hi); (try clear ho0); obtain ⟨Ao39, co39, eo39⟩ := Kd.R_slice HO545.out; subst eo39; have hcz40_0 : w38.cell? ⟨gb522, 0, none⟩ = some (.int .i64 t513) := (blk_cell BK522.out 0).trans rfl; have hcz40_1 : w38.cell? ⟨gb522, 1, none⟩ = some (.int .i64 t514) := (blk_cell BK522.out 1).trans rfl; have hcz40_2 : w38.cell? ⟨gb522, 2, none⟩ = some (.slice Ao24 t515.length co24) := (blk_cell BK522.out 2).trans rfl; have hfz40_0 := blk_frozen BK522.out 0; have hfz40_1 := blk_frozen BK522.out 1; have hfz40_2 := blk_frozen BK522.out 2; obtain ⟨Ao41, co41, eo41⟩ := Kd.S_slice HO549.out; subst eo41)))
 go_loopg [18, 19] k (fun kq v18 v19 w' => ∃ (x18_1 : Int) (x19_1 : Int), v18 = .int .i64 x18_1 ∧ v19 = .int .i64 x19_1 ∧ Aside0 (laws_FnPortWork.l0 kq t518 t539 t543 x18_1 x19_1 t513 t514 t515 = some r) ∧ Aside0 (kq ≤ k) ∧ Aside0 (Kd.R (Kd.int .i64) 3 w' w.heap.size (fun k_ => some k_ ≠ (v540 : Value).ownBlock ∧ some k_ ≠ ((.slice Ao39 t543.length co39) : Value).ownBlock ∧ some k_ ≠ ((.slice Ao24 t515.length co24) : Value).ownBlock) (.slice Ao25 t518.length co25) t518) ∧ Aside0 (Kd.R (Kd.int .i64) 3 w' w.heap.size (fun k_ => some k_ ≠ ((.slice Ao25 t518.length co25) : Value).ownBlock ∧ some k_ ≠ ((.slice Ao39 t543.length co39) : Value).ownBlock ∧ some k_ ≠ ((.slice Ao24 t515.length co24) : Value).ownBlock) v540 t539) ∧ Aside0 (Kd.R (Kd.int .i64) 3 w' w.heap.size (fun k_ => some k_ ≠ ((.slice Ao25 t518.length co25) : Value).ownBlock ∧ some k_ ≠ (v540 : Value).ownBlock ∧ some k_ ≠ ((.slice Ao24 t515.length co24) : Value).ownBlock) (.slice Ao39 t543.length co39) t543) ∧ Aside0 (Kd.R (Kd.int .i64) 3 w' w.heap.size (fun k_ => some k_ ≠ ((.slice Ao25 t518.length co25) : Value).ownBlock ∧ some k_ ≠ (v540 : Value).ownBlock ∧ some k_ ≠ ((.slice Ao39 t543.length co39) : Value).ownBlock) (.slice Ao24 t515.length co24) t515) ∧ Aside0 (w'.heap[gb522]? = some (.cells #[.int .i64 t513, .int .i64 t514, (.slice Ao24 t515.length co24)] 26 (0, 0))) ∧ Aside0 (Below w.heap.size w w'))
 case atStart => exact ⟨(0), (1), (by first | rfl | (simp; done) | (simp [*]; done)), (by first | rfl | (simp; done) | (simp [*]; done)), H', ⟨Nat.le_refl _⟩, ⟨by (with_reducible repeat (first | apply Kd.R_alloc | apply Kd.R_drewN | apply Kd.R_drew)); exact Kd.R_mono HO520.out (fun _ hk => ⟨hk.1.2, ⟨hk.2, hk.1.1.1.1⟩⟩)⟩, ⟨by (with_reducible repeat (first | apply Kd.R_alloc | apply Kd.R_drewN | apply Kd.R_drew)); exact Kd.R_mono HO541.out (fun _ hk => ⟨hk.1.1.1.2, ⟨hk.2, hk.1.1.1.1.2⟩⟩)⟩, ⟨by (with_reducible repeat (first | apply Kd.R_alloc | apply Kd.R_drewN | apply Kd.R_drew)); exact Kd.R_mono HO545.out (fun _ hk => ⟨hk.1.1.1.2, ⟨hk.2, hk.1.1.1.1.2⟩⟩)⟩, ⟨by (with_reducible repeat (first | apply Kd.R_alloc | apply Kd.R_drewN | apply Kd.R_drew)); exact Kd.R_mono HO517.out (fun _ hk => ⟨hk.1.1.1.1, ⟨hk.1.2, hk.2⟩⟩)⟩, ⟨bkl BK522⟩, ⟨bel1 HB GE522⟩⟩
 clear H'
 try clear c1
 try clear c2
 try clear p2
 try clear c3
 try clear c7
 try clear c7b0
 try clear c7b1
 try clear c7b2
 try clear c9
 try clear c11
 try clear c12
 try clear c16
 try clear c17
 try clear c18
 try clear c19
 try clear c19b0
 try clear c19b1
 try clear c19b2
 try clear c20
 try clear c20b0
 try clear c20b1
 try clear hcz23_0
 try clear hcz23_1
 try clear hcz23_2
 try clear hcz27_0
 try clear hcz27_1
 try clear hcz27_2
 try clear hcz33_0
 try clear hcz33_1
 try clear hcz33_2
 try clear hcz35_0
 try clear hcz35_1
 try clear hcz35_2
 try clear hcz37_0
 try clear hcz37_1
 try clear hcz37_2
 try clear hcz40_0
 try clear hcz40_1
 try clear hcz40_2
 try clear hfz23_0
 try clear hfz23_1
 try clear hfz23_2
 try clear hfz27_0
 try clear hfz27_1
 try clear hfz27_2
 try clear hfz33_0
 try clear hfz33_1
 try clear hfz33_2
 try clear hfz35_0
 try clear hfz35_1
 try clear hfz35_2
 try clear hfz37_0
 try clear hfz37_1
 try clear hfz37_2
 try clear hfz40_0
 try clear hfz40_1
 try clear hfz40_2
 obtain ⟨x18_1, x19_1, rfl, rfl, HA, HK1, HO_4, HO_12, HO_14, HO_523002, BK522, HB⟩ := hrel
 cases gk with
 | zero => exact absurd HA.out (by simp [laws_FnPortWork.l0])
 | succ k1 =>
  have H := HA.out
  clear HA
  simp only [laws_FnPortWork.l0] at H
  by_cases c42 : x19_1 ≤ 9
  rotate_left
  ·rw [if_neg c42] at H
   have c42b0 : decide (x19_1 ≤ 9) = false := decide_eq_false c42
   clear c42
   have H' := Aside0.mk H
   clear H
   go_wp2
   repeat (go_quiet (fail); try go_wp2)
   go_loopg [24] k1 (fun kq v24 w' => ∃ (x24_2 : Int), v24 = .int .i64 x24_2 ∧ Aside0 (laws_FnPortWork.l2 kq t543 x18_1 x24_2 t513 t514 t515 = some r) ∧ Aside0 (kq ≤ k1) ∧ Aside0 (Kd.R (Kd.int .i64) 3 w' w.heap.size (fun k_ => some k_ ≠ ((.slice Ao24 t515.length co24) : Value).ownBlock) (.slice Ao39 t543.length co39) t543) ∧ Aside0 (Kd.R (Kd.int .i64) 3 w' w.heap.size (fun k_ => some k_ ≠ ((.slice Ao39 t543.length co39) : Value).ownBlock) (.slice Ao24 t515.length co24) t515) ∧ Aside0 (w'.heap[gb522]? = some (.cells #[.int .i64 t513, .int .i64 t514, (.slice Ao24 t515.length co24)] 26 (0, 0))) ∧ Aside0 (Below w.heap.size w w'))
   case atStart => exact ⟨(1), (by first | rfl | (simp; done) | (simp [*]; done)), H', ⟨Nat.le_refl _⟩, ⟨by (with_reducible repeat (first | apply Kd.R_alloc | apply Kd.R_drewN | apply Kd.R_drew)); exact Kd.R_mono HO_14.out (fun _ hk => hk.2.2)⟩, ⟨by (with_reducible repeat (first | apply Kd.R_alloc | apply Kd.R_drewN | apply Kd.R_drew)); exact Kd.R_mono HO_523002.out (fun _ hk => hk.2.2)⟩, ⟨bkl BK522⟩, ⟨bel1 HB GE522⟩⟩
   clear H'
   try clear c1
   try clear c2
   try clear p2
   try clear c3
   try clear c4
   try clear c5
   try clear p5
   try clear q5
   try clear hx5
   try clear p6
   try clear c7
   try clear c7b0
   try clear c7b1
   try clear c7b2
   try clear c9
   try clear c11
   try clear c12
   try clear c16
   try clear c17
   try clear c18
   try clear c19
   try clear c19b0
   try clear c19b1
   try clear c19b2
   try clear c20
   try clear c20b0
   try clear c20b1
   try clear c42
   try clear c42b0
   try clear c44
   try clear c48
   try clear c48b0
   try clear c49
   try clear c49b0
   try clear c51
   try clear hcz23_0
   try clear hcz23_1
   try clear hcz23_2
   try clear hcz27_0
   try clear hcz27_1
   try clear hcz27_2
   try clear hcz33_0
   try clear hcz33_1
   try clear hcz33_2
   try clear hcz35_0
   try clear hcz35_1
   try clear hcz35_2
   try clear hcz37_0
   try clear hcz37_1
   try clear hcz37_2
   try clear hcz40_0
   try clear hcz40_1
   try clear hcz40_2
   try clear hcz45_0
   try clear hcz45_1
   try clear hcz45_2
   try clear hfz23_0
   try clear hfz23_1
   try clear hfz23_2
   try clear hfz27_0
   try clear hfz27_1
   try clear hfz27_2
   try clear hfz33_0
   try clear hfz33_1
   try clear hfz33_2
   try clear hfz35_0
   try clear hfz35_1
   try clear hfz35_2
   try clear hfz37_0
   try clear hfz37_1
   try clear hfz37_2
   try clear hfz40_0
   try clear hfz40_1
   try clear hfz40_2
   try clear hfz45_0
   try clear hfz45_1
   try clear hfz45_2
   try clear hx558_0
   try clear p2
   try clear p558
   try clear p6
   try clear q558
   obtain ⟨x24_2, rfl, HA, HK2, HO_14, HO_523002, BK522, HB⟩ := hrel
   cases gk with
   | zero => exact absurd HA.out (by simp [laws_FnPortWork.l2])
   | succ k2 =>
    have H := HA.out
    clear HA
    simp only [laws_FnPortWork.l2] at H
    by_cases c55 : x24_2 < (t543.length : Int)
    rotate_left
    ·rw [if_neg c55] at H
     have c55b0 : decide (x24_2 < (t543.length : Int)) = false := decide_eq_false c55
     clear c55
     obtain rfl := Option.some.inj H
     have hcz68_0 : wr.cell? ⟨gb522, 0, none⟩ = some (.int .i64 t513) := (blk_cell BK522.out 0).trans rfl
     have hcz68_1 : wr.cell? ⟨gb522, 1, none⟩ = some (.int .i64 t514) := (blk_cell BK522.out 1).trans rfl
     have hcz68_2 : wr.cell? ⟨gb522, 2, none⟩ = some (.slice Ao24 t515.length co24) := (blk_cell BK522.out 2).trans rfl
     have hfz68_0 := blk_frozen BK522.out 0
     have hfz68_1 := blk_frozen BK522.out 1
     have hfz68_2 := blk_frozen BK522.out 2
     go_wp2
     repeat (go_quiet (fail); try go_wp2)
     go_ret
     exact ⟨by first | rfl | (simp [errW_none, errW_some] <;> rfl) | (simp [*, errW_none, errW_some] <;> rfl), bel1 HB GE522⟩
    rw [if_pos c55] at H
    have c55b0 : decide (x24_2 < (t543.length : Int)) = true := decide_eq_true c55
    clear c55
    obtain ⟨ji56, hji56⟩ : ∃ j_ : Int, (wrap64 (x24_2 - 1)) = j_ := ⟨_, rfl⟩
    replace H : (if 0 ≤ (ji56) then (if (ji56) < (t543.length : Int) then (if 0 ≤ (wrap64 ((rd t543 (ji56)) - 1)) then (if (wrap64 ((rd t543 (ji56)) - 1)) < (t515.length : Int) then (if 0 ≤ x24_2 then (if 0 ≤ (wrap64 ((rd t543 x24_2) - 1)) then (if (wrap64 ((rd t543 x24_2) - 1)) < (t515.length : Int) then (if (rd t515 (wrap64 ((rd t543 (ji56)) - 1))) < (rd t515 (wrap64 ((rd t543 x24_2) - 1))) then (none) else (laws_FnPortWork.l2 k2 t543 x18_1 (wrap64 (x24_2 + 1)) t513 t514 t515)) else (none)) else (none)) else (none)) else (none)) else (none)) else (none)) else (none)) = some r := by first | (rw [hji56] at H; exact H) | (simp only [hji56] at H ⊢; exact H)
    have hji56w : (IntKind.i64.wrap (x24_2 - 1)) = ji56 := (i64_w _).trans hji56
    by_cases c57 : 0 ≤ (ji56)
    rotate_left
    ·rw [if_neg c57] at H
     exact absurd H (by simp)
    rw [if_pos c57] at H
    have c57b0 : decide (0 ≤ (ji56)) = true := decide_eq_true c57
    clear c57
    by_cases c58 : (ji56) < (t543.length : Int)
    rotate_left
    ·rw [if_neg c58] at H
     exact absurd H (by simp)
    rw [if_pos c58] at H
    have c58b0 : decide ((ji56) < (t543.length : Int)) = true := decide_eq_true c58
    clear c58
    obtain ⟨ji59, hji59⟩ : ∃ j_ : Int, (wrap64 ((rd t543 (ji56)) - 1)) = j_ := ⟨_, rfl⟩
    replace H : (if 0 ≤ (ji59) then (if (ji59) < (t515.length : Int) then (if 0 ≤ x24_2 then (if 0 ≤ (wrap64 ((rd t543 x24_2) - 1)) then (if (wrap64 ((rd t543 x24_2) - 1)) < (t515.length : Int) then (if (rd t515 (ji59)) < (rd t515 (wrap64 ((rd t543 x24_2) - 1))) then (none) else (laws_FnPortWork.l2 k2 t543 x18_1 (wrap64 (x24_2 + 1)) t513 t514 t515)) else (none)) else (none)) else (none)) else (none)) else (none)) = some r := by first | (rw [hji59] at H; exact H) | (simp only [hji59] at H ⊢; exact H)
    have hji59w : (IntKind.i64.wrap ((rd t543 (ji56)) - 1)) = ji59 := (i64_w _).trans hji59
    by_cases c60 : 0 ≤ (ji59)
    rotate_left
    ·rw [if_neg c60] at H
     exact absurd H (by simp)
    rw [if_pos c60] at H
    have c60b0 : decide (0 ≤ (ji59)) = true := decide_eq_true c60
    clear c60
    by_cases c61 : (ji59) < (t515.length : Int)
    rotate_left
    ·rw [if_neg c61] at H
     exact absurd H (by simp)
    rw [if_pos c61] at H
    have c61b0 : decide ((ji59) < (t515.length : Int)) = true := decide_eq_true c61
    clear c61
    by_cases c62 : 0 ≤ x24_2
    rotate_left
    ·rw [if_neg c62] at H
     exact absurd H (by simp)
    rw [if_pos c62] at H
    have c62b0 : decide (0 ≤ x24_2) = true := decide_eq_true c62
    clear c62
    obtain ⟨ji63, hji63⟩ : ∃ j_ : Int, (wrap64 ((rd t543 x24_2) - 1)) = j_ := ⟨_, rfl⟩
    replace H : (if 0 ≤ (ji63) then (if (ji63) < (t515.length : Int) then (if (rd t515 (ji59)) < (rd t515 (ji63)) then (none) else (laws_FnPortWork.l2 k2 t543 x18_1 (wrap64 (x24_2 + 1)) t513 t514 t515)) else (none)) else (none)) = some r := by first | (rw [hji63] at H; exact H) | (simp only [hji63] at H ⊢; exact H)
    have hji63w : (IntKind.i64.wrap ((rd t543 x24_2) - 1)) = ji63 := (i64_w _).trans hji63
    by_cases c64 : 0 ≤ (ji63)
    rotate_left
    ·rw [if_neg c64] at H
     exact absurd H (by simp)
    rw [if_pos c64] at H
    have c64b0 : decide (0 ≤ (ji63)) = true := decide_eq_true c64
    clear c64
    by_cases c65 : (ji63) < (t515.length : Int)
    rotate_left
    ·rw [if_neg c65] at H
     exact absurd H (by simp)
    rw [if_pos c65] at H
    have c65b0 : decide ((ji63) < (t515.length : Int)) = true := decide_eq_true c65
    clear c65
    by_cases c66 : (rd t515 (ji59)) < (rd t515 (ji63))
    ·rw [if_pos c66] at H
     exact absurd H (by simp)
    rw [if_neg c66] at H
    have c66b0 : decide ((rd t515 (ji59)) < (rd t515 (ji63))) = false := decide_eq_false c66
    clear c66
    have H' := Aside0.mk H
    clear H
    have hcz67_0 : wr.cell? ⟨gb522, 0, none⟩ = some (.int .i64 t513) := (blk_cell BK522.out 0).trans rfl
    have hcz67_1 : wr.cell? ⟨gb522, 1, none⟩ = some (.int .i64 t514) := (blk_cell BK522.out 1).trans rfl
    have hcz67_2 : wr.cell? ⟨gb522, 2, none⟩ = some (.slice Ao24 t515.length co24) := (blk_cell BK522.out 2).trans rfl
    have hfz67_0 := blk_frozen BK522.out 0
    have hfz67_1 := blk_frozen BK522.out 1
    have hfz67_2 := blk_frozen BK522.out 2
    have p560 : 0 ≤ ((ji56) : Int) := oda
    have q560 : (ji56) < (t543.length : Int) := oda
    obtain ⟨ad560, e560, hx560_0⟩ := Kd.at_int (Kd.R_reads' HO_14.out).2.2 (ji56) p560 q560
    cases e560
    replace p560 := eq_true p560
    replace q560 := eq_true q560
    have p561 : 0 ≤ ((ji59) : Int) := oda
    have q561 : (ji59) < (t515.length : Int) := oda
    obtain ⟨ad561, e561, hx561_0⟩ := Kd.at_int (Kd.R_reads' HO_523002.out).2.2 (ji59) p561 q561
    cases e561
    replace p561 := eq_true p561
    replace q561 := eq_true q561
    have p562 : 0 ≤ (x24_2 : Int) := oda
    have q562 : x24_2 < (t543.length : Int) := oda
    obtain ⟨ad562, e562, hx562_0⟩ := Kd.at_int (Kd.R_reads' HO_14.out).2.2 x24_2 p562 q562
    obtain rfl : ad560 = ad562 := (by injection e562)
    replace p562 := eq_true p562
    replace q562 := eq_true q562
    have p563 : 0 ≤ ((ji63) : Int) := oda
    have q563 : (ji63) < (t515.length : Int) := oda
    obtain ⟨ad563, e563, hx563_0⟩ := Kd.at_int (Kd.R_reads' HO_523002.out).2.2 (ji63) p563 q563
    obtain rfl : ad561 = ad563 := (by injection e563)
    replace p563 := eq_true p563
    replace q563 := eq_true q563
    go_wp2
    repeat (go_quiet (fail); try go_wp2)
    go_roundg k2
    case measure => have := HK1.out; have := HK2.out; omega
    case rel => exact ⟨(wrap64 (x24_2 + 1)), (by first | rfl | (simp; done) | (simp [*]; done)), H', ⟨by have := HK1.out; have := HK2.out; omega⟩, ⟨rdl HO_14⟩, ⟨rdl HO_523002⟩, ⟨bkl BK522⟩, ⟨bel1 HB GE522⟩⟩
  rw [if_pos c42] at H
  have c42b0 : decide (x19_1 ≤ 9) = true := decide_eq_true c42
  clear c42
  replace H := Option.bind_eq_some_iff.mp H
  obtain ⟨⟨t551, t554, t557⟩, A430, H⟩ := H
  replace H : (if t557 = true then (laws_FnPortWork.l1 k1 t518 t539 t543 (wrap64 (x18_1 + (t551.length : Int))) x19_1 t554 0 t513 t514 t515) else (none)) = some r := H
  have A43 := Aside0.mk A430
  clear A430
  by_cases c44 : t557 = true
  rotate_left
  ·replace c44 := Bool.eq_false_iff.mpr c44
   subst c44
   have H1 : (none) = some r := by rw [if_neg (show ¬ (false = true) by decide)] at H; exact H
   clear H
   have H := H1
   clear H1
   exact absurd H (by simp)
  subst c44
  have H1 : (laws_FnPortWork.l1 k1 t518 t539 t543 (wrap64 (x18_1 + (t551.length : Int))) x19_1 t554 0 t513 t514 t515) = some r := by rw [if_pos rfl] at H; exact H
  clear H
  have H := H1
  clear H1
  have H' := Aside0.mk H
  clear H
  have hcz45_0 : wr.cell? ⟨gb522, 0, none⟩ = some (.int .i64 t513) := (blk_cell BK522.out 0).trans rfl
  have hcz45_1 : wr.cell? ⟨gb522, 1, none⟩ = some (.int .i64 t514) := (blk_cell BK522.out 1).trans rfl
  have hcz45_2 : wr.cell? ⟨gb522, 2, none⟩ = some (.slice Ao24 t515.length co24) := (blk_cell BK522.out 2).trans rfl
  have hfz45_0 := blk_frozen BK522.out 0
  have hfz45_1 := blk_frozen BK522.out 1
  have hfz45_2 := blk_frozen BK522.out 2
  go_wp2_with (first | (go_at_call 7; (with_reducible refine (impl_PortWork.calls k1 t513 t514 _ _ t515 _ _ t518 x19_1 t551 t554 true _ ?side1 ?side2 ?side3 ?side4 A43.out).mono ?_); (case side1 => exact cdl (Kd.R_reads' HO_523002.out).2.2); (case side2 => exact (Kd.R_reads' HO_523002.out).2.1); (case side3 => exact cdl (Kd.R_reads' HO_4.out).2.2); (case side4 => exact (Kd.R_reads' HO_4.out).2.1); rintro e w46 ⟨v552, v555, rfl, ho0, ho1, hb⟩; have n0_ := Aside0.mk (Kd.R_mono (Kd.R_told (Kd.R_told (Kd.R_old (rdl HO_4) hb) (Kd.R_base ho0)) (Kd.R_base ho1)) (fun _ h_ => h_.1)); have n1_ := Aside0.mk (Kd.R_mono (Kd.R_told (Kd.R_told (Kd.R_old (rdl HO_12) hb) (Kd.R_base ho0)) (Kd.R_base ho1)) (fun _ h_ => h_.1)); have n2_ := Aside0.mk (Kd.R_mono (Kd.R_told (Kd.R_told (Kd.R_old (rdl HO_14) hb) (Kd.R_base ho0)) (Kd.R_base ho1)) (fun _ h_ => h_.1)); have n3_ := Aside0.mk (Kd.R_mono (Kd.R_told (Kd.R_told (Kd.R_old (rdl HO_523002) hb) (Kd.R_base ho0)) (Kd.R_base ho1)) (fun _ h_ => h_.1)); have n4_ := Aside0.mk (Kd.R_lower (Kd.R_new' (Kd.R_new' (Kd.R_new' (Kd.R_new' ho0 (Kd.R_lt (rdl HO_4))) (Kd.R_lt (rdl HO_12))) (Kd.R_lt (rdl HO_14))) (Kd.R_lt (rdl HO_523002))) (below_size (bel1 HB GE522))); have n5_ := Aside0.mk (Kd.R_lower (Kd.R_new' (Kd.R_new' (Kd.R_new' (Kd.R_new' ho1 (Kd.R_lt (rdl HO_4))) (Kd.R_lt (rdl HO_12))) (Kd.R_lt (rdl HO_14))) (Kd.R_lt (rdl HO_523002))) (below_size (bel1 HB GE522))); have n6_ := Aside0.mk (blk_below (g := gb522) (o := .cells #[.int .i64 t513, .int .i64 t514, .slice Ao24 t515.length co24] 26 (0, 0)) (bkl BK522) hb); have n7_ := Aside0.mk (below_step (bel1 HB GE522) hb); clear HO_4; clear HO_12; clear HO_14; clear HO_523002; clear BK522; clear HB; have HO_4 := n0_; have HO_12 := n1_; have HO_14 := n2_; have HO_523002 := n3_; have HO553 := n4_; have HO556 := n5_; have BK522 := n6_; have HB := n7_; clear n0_ n1_ n2_ n3_ n4_ n5_ n6_ n7_; (try clear hb); (try clear hb2); (try clear hk); (try clear hi); (try clear ho0); (try clear ho1); obtain ⟨Ao47, co47, eo47⟩ := Kd.R_slice HO553.out; subst eo47))
  repeat (go_quiet (first | (go_at_call 7; (with_reducible refine (impl_PortWork.calls k1 t513 t514 _ _ t515 _ _ t518 x19_1 t551 t554 true _ ?side1 ?side2 ?side3 ?side4 A43.out).mono ?_); (case side1 => exact cdl (Kd.R_reads' HO_523002.out).2.2); (case side2 => exact (Kd.R_reads' HO_523002.out).2.1); (case side3 => exact cdl (Kd.R_reads' HO_4.out).2.2); (case side4 => exact (Kd.R_reads' HO_4.out).2.1); rintro e w46 ⟨v552, v555, rfl, ho0, ho1, hb⟩; have n0_ := Aside0.mk (Kd.R_mono (Kd.R_told (Kd.R_told (Kd.R_old (rdl HO_4) hb) (Kd.R_base ho0)) (Kd.R_base ho1)) (fun _ h_ => h_.1)); have n1_ := Aside0.mk (Kd.R_mono (Kd.R_told (Kd.R_told (Kd.R_old (rdl HO_12) hb) (Kd.R_base ho0)) (Kd.R_base ho1)) (fun _ h_ => h_.1)); have n2_ := Aside0.mk (Kd.R_mono (Kd.R_told (Kd.R_told (Kd.R_old (rdl HO_14) hb) (Kd.R_base ho0)) (Kd.R_base ho1)) (fun _ h_ => h_.1)); have n3_ := Aside0.mk (Kd.R_mono (Kd.R_told (Kd.R_told (Kd.R_old (rdl HO_523002) hb) (Kd.R_base ho0)) (Kd.R_base ho1)) (fun _ h_ => h_.1)); have n4_ := Aside0.mk (Kd.R_lower (Kd.R_new' (Kd.R_new' (Kd.R_new' (Kd.R_new' ho0 (Kd.R_lt (rdl HO_4))) (Kd.R_lt (rdl HO_12))) (Kd.R_lt (rdl HO_14))) (Kd.R_lt (rdl HO_523002))) (below_size (bel1 HB GE522))); have n5_ := Aside0.mk (Kd.R_lower (Kd.R_new' (Kd.R_new' (Kd.R_new' (Kd.R_new' ho1 (Kd.R_lt (rdl HO_4))) (Kd.R_lt (rdl HO_12))) (Kd.R_lt (rdl HO_14))) (Kd.R_lt (rdl HO_523002))) (below_size (bel1 HB GE522))); have n6_ := Aside0.mk (blk_below (g := gb522) (o := .cells #[.int .i64 t513, .int .i64 t514, .slice Ao24 t515.length co24] 26 (0, 0)) (bkl BK522) hb); have n7_ := Aside0.mk (below_step (bel1 HB GE522) hb); clear HO_4; clear HO_12; clear HO_14; clear HO_523002; clear BK522; clear HB; have HO_4 := n0_; have HO_12 := n1_; have HO_14 := n2_; have HO_523002 := n3_; have HO553 := n4_; have HO556 := n5_; have BK522 := n6_; have HB := n7_; clear n0_ n1_ n2_ n3_ n4_ n5_ n6_ n7_; (try clear hb); (try clear hb2); (try clear hk); (try clear hi); (try clear ho0); (try clear ho1); obtain ⟨Ao47, co47, eo47⟩ := Kd.R_slice HO553.out; subst eo47)); try go_wp2_with (first | (go_at_call 7; (with_reducible refine (impl_PortWork.calls k1 t513 t514 _ _ t515 _ _ t518 x19_1 t551 t554 true _ ?side1 ?side2 ?side3 ?side4 A43.out).mono ?_); (case side1 => exact cdl (Kd.R_reads' HO_523002.out).2.2); (case side2 => exact (Kd.R_reads' HO_523002.out).2.1); (case side3 => exact cdl (Kd.R_reads' HO_4.out).2.2); (case side4 => exact (Kd.R_reads' HO_4.out).2.1); rintro e w46 ⟨v552, v555, rfl, ho0, ho1, hb⟩; have n0_ := Aside0.mk (Kd.R_mono (Kd.R_told (Kd.R_told (Kd.R_old (rdl HO_4) hb) (Kd.R_base ho0)) (Kd.R_base ho1)) (fun _ h_ => h_.1)); have n1_ := Aside0.mk (Kd.R_mono (Kd.R_told (Kd.R_told (Kd.R_old (rdl HO_12) hb) (Kd.R_base ho0)) (Kd.R_base ho1)) (fun _ h_ => h_.1)); have n2_ := Aside0.mk (Kd.R_mono (Kd.R_told (Kd.R_told (Kd.R_old (rdl HO_14) hb) (Kd.R_base ho0)) (Kd.R_base ho1)) (fun _ h_ => h_.1)); have n3_ := Aside0.mk (Kd.R_mono (Kd.R_told (Kd.R_told (Kd.R_old (rdl HO_523002) hb) (Kd.R_base ho0)) (Kd.R_base ho1)) (fun _ h_ => h_.1)); have n4_ := Aside0.mk (Kd.R_lower (Kd.R_new' (Kd.R_new' (Kd.R_new' (Kd.R_new' ho0 (Kd.R_lt (rdl HO_4))) (Kd.R_lt (rdl HO_12))) (Kd.R_lt (rdl HO_14))) (Kd.R_lt (rdl HO_523002))) (below_size (bel1 HB GE522))); have n5_ := Aside0.mk (Kd.R_lower (Kd.R_new' (Kd.R_new' (Kd.R_new' (Kd.R_new' ho1 (Kd.R_lt (rdl HO_4))) (Kd.R_lt (rdl HO_12))) (Kd.R_lt (rdl HO_14))) (Kd.R_lt (rdl HO_523002))) (below_size (bel1 HB GE522))); have n6_ := Aside0.mk (blk_below (g := gb522) (o := .cells #[.int .i64 t513, .int .i64 t514, .slice Ao24 t515.length co24] 26 (0, 0)) (bkl BK522) hb); have n7_ := Aside0.mk (below_step (bel1 HB GE522) hb); clear HO_4; clear HO_12; clear HO_14; clear HO_523002; clear BK522; clear HB; have HO_4 := n0_; have HO_12 := n1_; have HO_14 := n2_; have HO_523002 := n3_; have HO553 := n4_; have HO556 := n5_; have BK522 := n6_; have HB := n7_; clear n0_ n1_ n2_ n3_ n4_ n5_ n6_ n7_; (try clear hb); (try clear hb2); (try clear hk); (try clear hi); (try clear ho0); (try clear ho1); obtain ⟨Ao47, co47, eo47⟩ := Kd.R_slice HO553.out; subst eo47)))
  go_loopg [23] k1 (fun kq v23 w' => ∃ (x23_2 : Int), v23 = .int .i64 x23_2 ∧ Aside0 (laws_FnPortWork.l1 kq t518 t539 t543 (wrap64 (x18_1 + (t551.length : Int))) x19_1 t554 x23_2 t513 t514 t515 = some r) ∧ Aside0 (kq ≤ k1) ∧ Aside0 (Kd.R (Kd.int .i64) 3 w' w.heap.size (fun k_ => some k_ ≠ (v540 : Value).ownBlock ∧ some k_ ≠ ((.slice Ao39 t543.length co39) : Value).ownBlock ∧ some k_ ≠ (v555 : Value).ownBlock ∧ some k_ ≠ ((.slice Ao24 t515.length co24) : Value).ownBlock) (.slice Ao25 t518.length co25) t518) ∧ Aside0 (Kd.R (Kd.int .i64) 3 w' w.heap.size (fun k_ => some k_ ≠ ((.slice Ao25 t518.length co25) : Value).ownBlock ∧ some k_ ≠ ((.slice Ao39 t543.length co39) : Value).ownBlock ∧ some k_ ≠ (v555 : Value).ownBlock ∧ some k_ ≠ ((.slice Ao24 t515.length co24) : Value).ownBlock) v540 t539) ∧ Aside0 (Kd.R (Kd.int .i64) 3 w' w.heap.size (fun k_ => some k_ ≠ ((.slice Ao25 t518.length co25) : Value).ownBlock ∧ some k_ ≠ (v540 : Value).ownBlock ∧ some k_ ≠ (v555 : Value).ownBlock ∧ some k_ ≠ ((.slice Ao24 t515.length co24) : Value).ownBlock) (.slice Ao39 t543.length co39) t543) ∧ Aside0 (Kd.R (Kd.int .i64) 3 w' w.heap.size (fun k_ => some k_ ≠ ((.slice Ao25 t518.length co25) : Value).ownBlock ∧ some k_ ≠ (v540 : Value).ownBlock ∧ some k_ ≠ ((.slice Ao39 t543.length co39) : Value).ownBlock ∧ some k_ ≠ ((.slice Ao24 t515.length co24) : Value).ownBlock) v555 t554) ∧ Aside0 (Kd.R (Kd.int .i64) 3 w' w.heap.size (fun k_ => some k_ ≠ ((.slice Ao25 t518.length co25) : Value).ownBlock ∧ some k_ ≠ (v540 : Value).ownBlock ∧ some k_ ≠ ((.slice Ao39 t543.length co39) : Value).ownBlock ∧ some k_ ≠ (v555 : Value).ownBlock) (.slice Ao24 t515.length co24) t515) ∧ Aside0 (w'.heap[gb522]? = some (.cells #[.int .i64 t513, .int .i64 t514, (.slice Ao24 t515.length co24)] 26 (0, 0))) ∧ Aside0 (Below w.heap.size w w'))
  case atStart => exact ⟨(0), (by first | rfl | (simp; done) | (simp [*]; done)), H', ⟨Nat.le_refl _⟩, ⟨by (with_reducible repeat (first | apply Kd.R_alloc | apply Kd.R_drewN | apply Kd.R_drew)); exact Kd.R_mono HO_4.out (fun _ hk => ⟨hk.1.1.1, ⟨hk.1.1.2.1, ⟨hk.2, hk.1.1.2.2⟩⟩⟩)⟩, ⟨by (with_reducible repeat (first | apply Kd.R_alloc | apply Kd.R_drewN | apply Kd.R_drew)); exact Kd.R_mono HO_12.out (fun _ hk => ⟨hk.1.1.1, ⟨hk.1.1.2.1, ⟨hk.2, hk.1.1.2.2⟩⟩⟩)⟩, ⟨by (with_reducible repeat (first | apply Kd.R_alloc | apply Kd.R_drewN | apply Kd.R_drew)); exact Kd.R_mono HO_14.out (fun _ hk => ⟨hk.1.1.1, ⟨hk.1.1.2.1, ⟨hk.2, hk.1.1.2.2⟩⟩⟩)⟩, ⟨by (with_reducible repeat (first | apply Kd.R_alloc | apply Kd.R_drewN | apply Kd.R_drew)); exact Kd.R_mono HO556.out (fun _ hk => ⟨hk.1.1.1.2, ⟨hk.1.1.2, ⟨hk.1.2, hk.2⟩⟩⟩)⟩, ⟨by (with_reducible repeat (first | apply Kd.R_alloc | apply Kd.R_drewN | apply Kd.R_drew)); exact Kd.R_mono HO_523002.out (fun _ hk => ⟨hk.1.1.1, ⟨hk.1.1.2.1, ⟨hk.1.1.2.2, hk.2⟩⟩⟩)⟩, ⟨bkl BK522⟩, ⟨bel1 HB GE522⟩⟩
  clear H'
  try clear c1
  try clear c2
  try clear p2
  try clear c3
  try clear c4
  try clear p6
  try clear c7
  try clear c7b0
  try clear c7b1
  try clear c7b2
  try clear c9
  try clear c11
  try clear c12
  try clear c16
  try clear c17
  try clear c18
  try clear c19
  try clear c19b0
  try clear c19b1
  try clear c19b2
  try clear c20
  try clear c20b0
  try clear c20b1
  try clear c42
  try clear c42b0
  try clear c44
  try clear hcz23_0
  try clear hcz23_1
  try clear hcz23_2
  try clear hcz27_0
  try clear hcz27_1
  try clear hcz27_2
  try clear hcz33_0
  try clear hcz33_1
  try clear hcz33_2
  try clear hcz35_0
  try clear hcz35_1
  try clear hcz35_2
  try clear hcz37_0
  try clear hcz37_1
  try clear hcz37_2
  try clear hcz40_0
  try clear hcz40_1
  try clear hcz40_2
  try clear hcz45_0
  try clear hcz45_1
  try clear hcz45_2
  try clear hfz23_0
  try clear hfz23_1
  try clear hfz23_2
  try clear hfz27_0
  try clear hfz27_1
  try clear hfz27_2
  try clear hfz33_0
  try clear hfz33_1
  try clear hfz33_2
  try clear hfz35_0
  try clear hfz35_1
  try clear hfz35_2
  try clear hfz37_0
  try clear hfz37_1
  try clear hfz37_2
  try clear hfz40_0
  try clear hfz40_1
  try clear hfz40_2
  try clear hfz45_0
  try clear hfz45_1
  try clear hfz45_2
  try clear p2
  obtain ⟨x23_2, rfl, HA, HK2, HO_4, HO_12, HO_14, HO_21, HO_523002, BK522, HB⟩ := hrel
  cases gk with
  | zero => exact absurd HA.out (by simp [laws_FnPortWork.l1])
  | succ k2 =>
   have H := HA.out
   clear HA
   simp only [laws_FnPortWork.l1] at H
   by_cases c48 : x23_2 < (t554.length : Int)
   rotate_left
   ·rw [if_neg c48] at H
    have c48b0 : decide (x23_2 < (t554.length : Int)) = false := decide_eq_false c48
    clear c48
    have H' := Aside0.mk H
    clear H
    obtain ⟨Ao54, co54, eo54⟩ := Kd.R_slice HO_21.out
    subst eo54
    go_wp2
    repeat (go_quiet (fail); try go_wp2)
    go_roundg k2
    case measure => have := HK1.out; have := HK2.out; omega
    case rel => exact ⟨((wrap64 (x18_1 + (t551.length : Int)))), (wrap64 (x19_1 + 1)), (by first | rfl | (simp; done) | (simp [*]; done)), (by first | rfl | (simp; done) | (simp [*]; done)), H', ⟨by have := HK1.out; have := HK2.out; omega⟩, ⟨by (with_reducible repeat (first | apply Kd.R_alloc | apply Kd.R_drewN | apply Kd.R_drew)); exact Kd.R_mono HO_4.out (fun _ hk => ⟨hk.1, ⟨hk.2.1, hk.2.2.2⟩⟩)⟩, ⟨by (with_reducible repeat (first | apply Kd.R_alloc | apply Kd.R_drewN | apply Kd.R_drew)); exact Kd.R_mono HO_12.out (fun _ hk => ⟨hk.1, ⟨hk.2.1, hk.2.2.2⟩⟩)⟩, ⟨by (with_reducible repeat (first | apply Kd.R_alloc | apply Kd.R_drewN | apply Kd.R_drew)); exact Kd.R_mono HO_14.out (fun _ hk => ⟨hk.1, ⟨hk.2.1, hk.2.2.2⟩⟩)⟩, ⟨by (with_reducible repeat (first | apply Kd.R_alloc | apply Kd.R_drewN | apply Kd.R_drew)); exact Kd.R_mono HO_523002.out (fun _ hk => ⟨hk.1, ⟨hk.2.1, hk.2.2.1⟩⟩)⟩, ⟨bkl BK522⟩, ⟨bel1 HB GE522⟩⟩
   rw [if_pos c48] at H
   have c48b0 : decide (x23_2 < (t554.length : Int)) = true := decide_eq_true c48
   clear c48
   by_cases c49 : 0 ≤ x23_2
   rotate_left
   ·rw [if_neg c49] at H
    exact absurd H (by simp)
   rw [if_pos c49] at H
   have c49b0 : decide (0 ≤ x23_2) = true := decide_eq_true c49
   clear c49
   replace H := Option.bind_eq_some_iff.mp H
   obtain ⟨t559, A500, H⟩ := H
   replace H : (if t559 = true then (laws_FnPortWork.l1 k2 t518 t539 t543 (wrap64 (x18_1 + (t551.length : Int))) x19_1 t554 (wrap64 (x23_2 + 1)) t513 t514 t515) else (none)) = some r := H
   have A50 := Aside0.mk A500
   clear A500
   by_cases c51 : t559 = true
   rotate_left
   ·replace c51 := Bool.eq_false_iff.mpr c51
    subst c51
    have H1 : (none) = some r := by rw [if_neg (show ¬ (false = true) by decide)] at H; exact H
    clear H
    have H := H1
    clear H1
    exact absurd H (by simp)
   subst c51
   have H1 : (laws_FnPortWork.l1 k2 t518 t539 t543 (wrap64 (x18_1 + (t551.length : Int))) x19_1 t554 (wrap64 (x23_2 + 1)) t513 t514 t515) = some r := by rw [if_pos rfl] at H; exact H
   clear H
   have H := H1
   clear H1
   have H' := Aside0.mk H
   clear H
   obtain ⟨Ao52, co52, eo52⟩ := Kd.R_slice HO_21.out
   subst eo52
   have p558 : 0 ≤ (x23_2 : Int) := oda
   have q558 : x23_2 < (t554.length : Int) := oda
   obtain ⟨ad558, e558, hx558_0⟩ := Kd.at_int (Kd.R_reads' HO_21.out).2.2 x23_2 p558 q558
   cases e558
   replace p558 := eq_true p558
   replace q558 := eq_true q558
   obtain ⟨Ao53, co53, eo53⟩ := Kd.R_slice HO_12.out
   subst eo53
   go_wp2_with (first | (go_at_call 13; (with_reducible refine (laws_vHas.calls k2 _ _ t539 (rd t554 x23_2) true _ ?side1 ?side2 A50.out).mono ?_); (case side1 => exact cdl (Kd.R_reads' HO_12.out).2.2); (case side2 => exact (Kd.R_reads' HO_12.out).2.1); rintro e w' ⟨rfl, ⟨nd, rfl⟩⟩; (try first | exact ⟨rfl, _, dd2⟩ | exact ⟨rfl, _, dd3⟩)))
   repeat (go_quiet (first | (go_at_call 13; (with_reducible refine (laws_vHas.calls k2 _ _ t539 (rd t554 x23_2) true _ ?side1 ?side2 A50.out).mono ?_); (case side1 => exact cdl (Kd.R_reads' HO_12.out).2.2); (case side2 => exact (Kd.R_reads' HO_12.out).2.1); rintro e w' ⟨rfl, ⟨nd, rfl⟩⟩; (try first | exact ⟨rfl, _, dd2⟩ | exact ⟨rfl, _, dd3⟩))); try go_wp2_with (first | (go_at_call 13; (with_reducible refine (laws_vHas.calls k2 _ _ t539 (rd t554 x23_2) true _ ?side1 ?side2 A50.out).mono ?_); (case side1 => exact cdl (Kd.R_reads' HO_12.out).2.2); (case side2 => exact (Kd.R_reads' HO_12.out).2.1); rintro e w' ⟨rfl, ⟨nd, rfl⟩⟩; (try first | exact ⟨rfl, _, dd2⟩ | exact ⟨rfl, _, dd3⟩))))
   go_roundg k2
   case measure => have := HK1.out; have := HK2.out; omega
   case rel => exact ⟨(wrap64 (x23_2 + 1)), (by first | rfl | (simp; done) | (simp [*]; done)), H', ⟨by have := HK1.out; have := HK2.out; omega⟩, ⟨rdl HO_4⟩, ⟨rdl HO_12⟩, ⟨rdl HO_14⟩, ⟨rdl HO_21⟩, ⟨rdl HO_523002⟩, ⟨bkl BK522⟩, ⟨bel1 HB GE522⟩⟩
/-- THE ONE PURE STATEMENT of laws_FnPortWork. -/
def laws_FnPortWork.Pure : Prop := ∀ (l0 : List Int), (l0.length ≤ maxLen ∧ ∀ z564, z564 ∈ l0 → (Lit.int .u8 z564).wf = true) → ∃ k, laws_FnPortWork.f k l0 = some true
theorem laws_FnPortWork.walk (P : laws_FnPortWork.Pure) (A0 : Option Addr) (c0 : Nat) (l0 : List Int) (w : World) (hr0 : Kd.C (Kd.int .u8) w A0 l0.length l0) (hc0 : l0.length ≤ c0) (g0 : (l0.length ≤ maxLen ∧ ∀ z565, z565 ∈ l0 → (Lit.int .u8 z565).wf = true)) :
  Calls Try.prog 3 #[.slice A0 l0.length c0] w fun e w' => e = .returned (.bool true) ∧ Below w.heap.size w w' := by
 obtain ⟨k, h⟩ := P l0 g0
 refine (laws_FnPortWork.calls k _ _ l0 true w hr0 hc0 h).mono ?_
 rintro e w' ⟨rfl, hd⟩
 exact ⟨rfl, hd⟩
end Go.Proofs.Ytipahijdcgoemaa.P
