-- Written by a program of this session over the translation (a variant of the printer, see wip/gen); Lean checks it.
import Derived.Test.YtkahifpcimoogaaPx0
import Derived.Test.YtkahifpcimoogaaPx1
import Derived.Test.YtkahifpcimoogaaPx4
import Derived.Test.YtkahifpcimoogaaPx7
import Derived.Test.YtkahifpcimoogaaPx10
import Derived.Test.YtkahifpcimoogaaPx11
import Derived.Test.YtkahifpcimoogaaPx13
import Derived.Test.YtkahifpcimoogaaPx14
import Derived.Test.YtkahifpcimoogaaPx15
import Derived.Test.YtkahifpcimoogaaPx16
import Derived.Test.YtkahifpcimoogaaPx17
import Derived.Test.YtkahifpcimoogaaPx18
import Derived.Test.YtkahifpcimoogaaPx19
namespace Go.Proofs.Ytkahifpcimoogaa.P
open Go.RowKit Go.Proofs.YtkahifpcimoogaaW.PrintWords Go.Proofs.YtkahifpcimoogaaW.PrintLast Go.Proofs.YtkahifpcimoogaaW.PrintMore
attribute [local go_sem] Go.Proofs.Ytkahifpcimoogaa.V.isSome_setCell max2_int min2_int max_two min_two max_three min_three max_four min_four   -- for this text's walks alone
set_option linter.unusedVariables false
set_option linter.unusedSimpArgs false

/-! ### laws_FnBallast: function 3 -/
theorem laws_FnBallast.far3 {w : World} {g : Nat} {a : Addr} (h : a.block ≠ g) (v0 v1 v2 : Value) : (((w.setCell ⟨g, 0, none⟩ v0).setCell ⟨g, 1, none⟩ v1).setCell ⟨g, 2, none⟩ v2).cell? a = w.cell? a := by
 rw [cell_far (p := ⟨g, 2, none⟩) h, cell_far (p := ⟨g, 1, none⟩) h, cell_far (p := ⟨g, 0, none⟩) h]
mutual
def laws_FnBallast.j1 : Nat → List Int → Option (Bool)
 | 0, _ => none
 | k + 1, x0 => (spec_DrawBestSwap.f k x0).bind fun t289 => ((impl_BestSwap.f k t289).bind fun bt292 => ((spec_BestSwap.f k t289).bind fun bt297 => (if (bt292.2.2 != bt297.2.2) = true then (none) else (if bt292.2.1 = bt297.2.1 then ((laws_rInts.f k bt292.1 bt297.1).bind fun t302 => (if t302 = true then (if bt292.2.2 = true then ((some (([] : List (S38)) : List (S38))).bind fun y303 => (if y303.length + t289.length < 5864062014805 then ((some (y303 ++ t289 : List (S38))).bind fun y306 => (if 0 < (bt292.1.length : Int) then (if 0 ≤ (rd bt292.1 0) then (if (rd bt292.1 0) < (t289.length : Int) then (if 1 < (bt292.1.length : Int) then (if 0 ≤ (rd bt292.1 1) then (if (rd bt292.1 1) < (t289.length : Int) then (if (rd bt292.1 0) < (y306.length : Int) then (if (rd bt292.1 1) < (y306.length : Int) then ((impl_LoadMoments.f k ((y306.set ((rd bt292.1 0) : Int).toNat (⟨(rd_T38 t289 (rd bt292.1 0)).f0, (rd_T38 t289 (rd bt292.1 1)).f1, (rd_T38 t289 (rd bt292.1 1)).f2⟩ : S38)).set ((rd bt292.1 1) : Int).toNat (⟨(rd_T38 t289 (rd bt292.1 1)).f0, (rd_T38 t289 (rd bt292.1 0)).f1, (rd_T38 t289 (rd bt292.1 0)).f2⟩ : S38))).bind fun bt319 => (if bt319.2.2.2 = true then ((laws_rAbs.f bt319.2.1).bind fun t323 => (if t323 = bt292.2.1 then ((spec_DrawIsUpright.f k x0).bind fun bt324 => ((impl_IsUpright.f k bt324.1 bt324.2).bind fun bt328 => ((spec_IsUpright.f k bt324.1 bt324.2).bind fun bt330 => (if (bt328.1 == bt330.1) = true then (some (bt328.2 == bt330.2)) else (none))))) else (none))) else (none))) else (none)) else (none)) else (none)) else (none)) else (none)) else (none)) else (none)) else (none))) else (none))) else ((spec_DrawIsUpright.f k x0).bind fun bt332 => ((impl_IsUpright.f k bt332.1 bt332.2).bind fun bt336 => ((spec_IsUpright.f k bt332.1 bt332.2).bind fun bt338 => (if (bt336.1 == bt338.1) = true then (some (bt336.2 == bt338.2)) else (none)))))) else (none))) else (none)))))
def laws_FnBallast.j0 : Nat → List Int → Int → Int → Int → Int → Bool → Option (Bool)
 | 0, _, _, _, _, _, _ => none
 | k + 1, x0, x4, x5, x6, x11, x13 => (laws_rAbs.f (wrap64 (x11 - (wrap64 (x6 * x4))))).bind fun t285 => (if x13 = true then (if x6 < 0 then (none) else (if x6 > x5 then (none) else (if x6 > 0 then ((laws_rAbs.f (wrap64 (x11 - (wrap64 ((wrap64 (x6 - 1)) * x4))))).bind fun t286 => (if t286 ≤ t285 then (none) else (if x6 < x5 then ((laws_rAbs.f (wrap64 (x11 - (wrap64 ((wrap64 (x6 + 1)) * x4))))).bind fun t287 => (if t287 < t285 then (none) else (laws_FnBallast.j1 k x0))) else (laws_FnBallast.j1 k x0)))) else (if x6 < x5 then ((laws_rAbs.f (wrap64 (x11 - (wrap64 ((wrap64 (x6 + 1)) * x4))))).bind fun t288 => (if t288 < t285 then (none) else (laws_FnBallast.j1 k x0))) else (laws_FnBallast.j1 k x0))))) else (none))
end
def laws_FnBallast.f (k : Nat) (l0 : List Int) : Option (Bool) := (laws_rBig.f l0).bind fun t271 => (if t271 = true then (some true) else ((spec_DrawBallastFor.f k l0).bind fun bt272 => ((impl_BallastFor.f k bt272.1 bt272.2.1 bt272.2.2).bind fun bt277 => ((spec_BallastFor.f k bt272.1 bt272.2.1 bt272.2.2).bind fun bt279 => (if bt277.1 = bt279.1 then (if (bt277.2 != bt279.2) = true then (none) else (if bt277.2 = true then ((impl_LoadMoments.f k bt272.1).bind fun bt281 => (if bt281.2.1 < 0 then (laws_FnBallast.j0 k l0 bt272.2.1 bt272.2.2 bt277.1 (wrap64 (-bt281.2.1)) bt281.2.2.2) else (laws_FnBallast.j0 k l0 bt272.2.1 bt272.2.2 bt277.1 bt281.2.1 bt281.2.2.2))) else (laws_FnBallast.j1 k l0))) else (none))))))
theorem laws_FnBallast.mono_l : ∀ k, (∀ y0, LeO (laws_FnBallast.j1 k y0) (laws_FnBallast.j1 (k + 1) y0)) ∧ (∀ y0 y1 y2 y3 y4 y5, LeO (laws_FnBallast.j0 k y0 y1 y2 y3 y4 y5) (laws_FnBallast.j0 (k + 1) y0 y1 y2 y3 y4 y5))
 | 0 => ⟨fun _ r h => by simp [laws_FnBallast.j1] at h, fun _ _ _ _ _ _ r h => by simp [laws_FnBallast.j0] at h⟩
 | k + 1 => by
  obtain ⟨ih0, ih1⟩ := laws_FnBallast.mono_l k
  refine ⟨?_, ?_⟩
  ·intro y0
   unfold laws_FnBallast.j1
   repeat' first
   | (with_reducible exact ih0 _)
   | (with_reducible exact ih1 _ _ _ _ _ _)
   | (with_reducible exact impl_BallastFor.mono _ _ _ _)
   | (with_reducible exact impl_BestSwap.mono _ _)
   | (with_reducible exact impl_IsUpright.mono _ _ _)
   | (with_reducible exact impl_LoadMoments.mono _ _)
   | (with_reducible exact laws_rInts.mono _ _ _)
   | (with_reducible exact spec_BallastFor.mono _ _ _ _)
   | (with_reducible exact spec_BestSwap.mono _ _)
   | (with_reducible exact spec_DrawBallastFor.mono _ _)
   | (with_reducible exact spec_DrawBestSwap.mono _ _)
   | (with_reducible exact spec_DrawIsUpright.mono _ _)
   | (with_reducible exact spec_IsUpright.mono _ _ _)
   | (with_reducible exact LeO.refl _)
   | (with_reducible exact LeO.none _)
   | (with_reducible refine LeO.ite ?_ ?_)
   | (with_reducible refine LeO.bind ?_ (fun _ => ?_))
   | exact ih0 _
   | exact ih1 _ _ _ _ _ _
   | exact impl_BallastFor.mono _ _ _ _
   | exact impl_BestSwap.mono _ _
   | exact impl_IsUpright.mono _ _ _
   | exact impl_LoadMoments.mono _ _
   | exact laws_rInts.mono _ _ _
   | exact spec_BallastFor.mono _ _ _ _
   | exact spec_BestSwap.mono _ _
   | exact spec_DrawBallastFor.mono _ _
   | exact spec_DrawBestSwap.mono _ _
   | exact spec_DrawIsUpright.mono _ _
   | exact spec_IsUpright.mono _ _ _
   | exact LeO.none _
   | refine LeO.ite ?_ ?_
   | refine LeO.bind ?_ (fun _ => ?_)
  ·intro y0 y1 y2 y3 y4 y5
   unfold laws_FnBallast.j0
   repeat' first
   | (with_reducible exact ih0 _)
   | (with_reducible exact ih1 _ _ _ _ _ _)
   | (with_reducible exact impl_BallastFor.mono _ _ _ _)
   | (with_reducible exact impl_BestSwap.mono _ _)
   | (with_reducible exact impl_IsUpright.mono _ _ _)
   | (with_reducible exact impl_LoadMoments.mono _ _)
   | (with_reducible exact laws_rInts.mono _ _ _)
   | (with_reducible exact spec_BallastFor.mono _ _ _ _)
   | (with_reducible exact spec_BestSwap.mono _ _)
   | (with_reducible exact spec_DrawBallastFor.mono _ _)
   | (with_reducible exact spec_DrawBestSwap.mono _ _)
   | (with_reducible exact spec_DrawIsUpright.mono _ _)
   | (with_reducible exact spec_IsUpright.mono _ _ _)
   | (with_reducible exact LeO.refl _)
   | (with_reducible exact LeO.none _)
   | (with_reducible refine LeO.ite ?_ ?_)
   | (with_reducible refine LeO.bind ?_ (fun _ => ?_))
   | exact ih0 _
   | exact ih1 _ _ _ _ _ _
   | exact impl_BallastFor.mono _ _ _ _
   | exact impl_BestSwap.mono _ _
   | exact impl_IsUpright.mono _ _ _
   | exact impl_LoadMoments.mono _ _
   | exact laws_rInts.mono _ _ _
   | exact spec_BallastFor.mono _ _ _ _
   | exact spec_BestSwap.mono _ _
   | exact spec_DrawBallastFor.mono _ _
   | exact spec_DrawBestSwap.mono _ _
   | exact spec_DrawIsUpright.mono _ _
   | exact spec_IsUpright.mono _ _ _
   | exact LeO.none _
   | refine LeO.ite ?_ ?_
   | refine LeO.bind ?_ (fun _ => ?_)
theorem laws_FnBallast.mono : ∀ a0 k, LeO (laws_FnBallast.f k a0) (laws_FnBallast.f (k + 1) a0) := by
 intro a0 k
 obtain ⟨ih0, ih1⟩ := laws_FnBallast.mono_l k
 unfold laws_FnBallast.f
 repeat' first
   | (with_reducible exact ih0 _)
   | (with_reducible exact ih1 _ _ _ _ _ _)
   | (with_reducible exact impl_BallastFor.mono _ _ _ _)
   | (with_reducible exact impl_BestSwap.mono _ _)
   | (with_reducible exact impl_IsUpright.mono _ _ _)
   | (with_reducible exact impl_LoadMoments.mono _ _)
   | (with_reducible exact laws_rInts.mono _ _ _)
   | (with_reducible exact spec_BallastFor.mono _ _ _ _)
   | (with_reducible exact spec_BestSwap.mono _ _)
   | (with_reducible exact spec_DrawBallastFor.mono _ _)
   | (with_reducible exact spec_DrawBestSwap.mono _ _)
   | (with_reducible exact spec_DrawIsUpright.mono _ _)
   | (with_reducible exact spec_IsUpright.mono _ _ _)
   | (with_reducible exact LeO.refl _)
   | (with_reducible exact LeO.none _)
   | (with_reducible refine LeO.ite ?_ ?_)
   | (with_reducible refine LeO.bind ?_ (fun _ => ?_))
   | exact ih0 _
   | exact ih1 _ _ _ _ _ _
   | exact impl_BallastFor.mono _ _ _ _
   | exact impl_BestSwap.mono _ _
   | exact impl_IsUpright.mono _ _ _
   | exact impl_LoadMoments.mono _ _
   | exact laws_rInts.mono _ _ _
   | exact spec_BallastFor.mono _ _ _ _
   | exact spec_BestSwap.mono _ _
   | exact spec_DrawBallastFor.mono _ _
   | exact spec_DrawBestSwap.mono _ _
   | exact spec_DrawIsUpright.mono _ _
   | exact spec_IsUpright.mono _ _ _
   | exact LeO.none _
   | refine LeO.ite ?_ ?_
   | refine LeO.bind ?_ (fun _ => ?_)
def laws_FnBallast.T22 : Bool × List (List Nat × List Nat) := (true, [([], []), ([], []), ([1], [1]), ([2], [2]), ([0, 3], [0, 3]), ([4], [4]), ([], []), ([], []), ([7], [7]), ([8], [8]), ([6, 9], [6, 9]), ([10], [10]), ([], []), ([], []), ([12, 5, 0, 1, 2, 3, 4, 5, 12, 13], [5, 12]), ([13, 11, 14, 0, 1, 2, 3, 4, 5, 6, 7, 8, 9, 10, 11, 12, 13, 14], [11, 13])])
def laws_FnBallast.B22 : List Nat := [0, 0, 2, 6, 15, 31, 0, 0, 128, 384, 960, 1984, 0, 0, 12351, 32767]
theorem laws_FnBallast.tab22 : rtab .any (opsOf Try.f3 22) = laws_FnBallast.T22 := by kernel_rfl
theorem laws_FnBallast.bits22 : waitsOk laws_FnBallast.T22.2 laws_FnBallast.B22 = true := by kernel_rfl
def laws_FnBallast.T23 : Bool × List (List Nat × List Nat) := (true, [([], []), ([], []), ([1], [1]), ([2], [2]), ([], []), ([4], [4]), ([], []), ([6], [6]), ([], []), ([8], [8]), ([5, 7, 9], [5, 7, 9]), ([0, 3, 0, 1, 2, 3, 4, 5, 6, 7, 8, 9, 10], [0, 3]), ([11, 10, 0, 1, 2, 3, 4, 5, 6, 7, 8, 9, 10], [10, 11])])
def laws_FnBallast.B23 : List Nat := [0, 0, 2, 6, 0, 16, 0, 64, 0, 256, 1008, 2047, 4095]
theorem laws_FnBallast.tab23 : rtab .any (opsOf Try.f3 23) = laws_FnBallast.T23 := by kernel_rfl
theorem laws_FnBallast.bits23 : waitsOk laws_FnBallast.T23.2 laws_FnBallast.B23 = true := by kernel_rfl
def laws_FnBallast.T24 : Bool × List (List Nat × List Nat) := (true, [([], []), ([], []), ([1], [1]), ([2], [2]), ([], []), ([4], [4]), ([], []), ([6], [6]), ([], []), ([8], [8]), ([5, 7, 9], [5, 7, 9]), ([0, 3, 0, 1, 2, 3, 4, 5, 6, 7, 8, 9, 10], [0, 3]), ([11, 10, 0, 1, 2, 3, 4, 5, 6, 7, 8, 9, 10], [10, 11])])
def laws_FnBallast.B24 : List Nat := [0, 0, 2, 6, 0, 16, 0, 64, 0, 256, 1008, 2047, 4095]
theorem laws_FnBallast.tab24 : rtab .any (opsOf Try.f3 24) = laws_FnBallast.T24 := by kernel_rfl
theorem laws_FnBallast.bits24 : waitsOk laws_FnBallast.T24.2 laws_FnBallast.B24 = true := by kernel_rfl
set_option maxHeartbeats 8000000 in
set_option maxRecDepth 100000 in
theorem laws_FnBallast.calls (k : Nat) (A0 : Option Addr) (c0 : Nat) (l0 : List Int) (r : Bool) (w : World) (hr0 : Kd.C (Kd.int .u8) w A0 l0.length l0) (hc0 : l0.length ≤ c0) (h : laws_FnBallast.f k l0 = some r) :
  Calls Try.prog 3 #[.slice A0 l0.length c0] w fun e w' => e = .returned (.bool r) ∧ Below w.heap.size w w' := by
 have hu38 := Try.underlying38
 have HR0 := Aside0.mk hr0
 have HC0 := Aside0.mk hc0
 clear hr0 hc0
 have HB := Aside0.mk (Below.refl w.heap.size w)
 have H : ((laws_rBig.f l0).bind fun t271 => (if t271 = true then (some true) else ((spec_DrawBallastFor.f k l0).bind fun bt272 => ((impl_BallastFor.f k bt272.1 bt272.2.1 bt272.2.2).bind fun bt277 => ((spec_BallastFor.f k bt272.1 bt272.2.1 bt272.2.2).bind fun bt279 => (if bt277.1 = bt279.1 then (if (bt277.2 != bt279.2) = true then (none) else (if bt277.2 = true then ((impl_LoadMoments.f k bt272.1).bind fun bt281 => (if bt281.2.1 < 0 then (laws_FnBallast.j0 k l0 bt272.2.1 bt272.2.2 bt277.1 (wrap64 (-bt281.2.1)) bt281.2.2.2) else (laws_FnBallast.j0 k l0 bt272.2.1 bt272.2.2 bt277.1 bt281.2.1 bt281.2.2.2))) else (laws_FnBallast.j1 k l0))) else (none))))))) = some r := h
 clear h
 replace H := Option.bind_eq_some_iff.mp H
 obtain ⟨t271, A20, H⟩ := H
 replace H : (if t271 = true then (some true) else ((spec_DrawBallastFor.f k l0).bind fun bt272 => ((impl_BallastFor.f k bt272.1 bt272.2.1 bt272.2.2).bind fun bt277 => ((spec_BallastFor.f k bt272.1 bt272.2.1 bt272.2.2).bind fun bt279 => (if bt277.1 = bt279.1 then (if (bt277.2 != bt279.2) = true then (none) else (if bt277.2 = true then ((impl_LoadMoments.f k bt272.1).bind fun bt281 => (if bt281.2.1 < 0 then (laws_FnBallast.j0 k l0 bt272.2.1 bt272.2.2 bt277.1 (wrap64 (-bt281.2.1)) bt281.2.2.2) else (laws_FnBallast.j0 k l0 bt272.2.1 bt272.2.2 bt277.1 bt281.2.1 bt281.2.2.2))) else (laws_FnBallast.j1 k l0))) else (none)))))) = some r := H
 have A2 := Aside0.mk A20
 clear A20
 by_cases c3 : t271 = true
 ·subst c3
  have H1 : (some true) = some r := by rw [if_pos rfl] at H; exact H
  clear H
  have H := H1
  clear H1
  obtain rfl := Option.some.inj H
  go_enter Try.func3, Try.ntmps3
  go_wp2_with (first | ((with_reducible refine gate_callee (f := 5) rfl ?_); refine goesL_ (some 36) rfl rfl Try.func5 (by kernel_rfl) rfl #[.slice A0 l0.length c0] rfl gmp ?_; (with_reducible refine (laws_rBig.calls _ _ l0 true _ ?side1 ?side2 A2.out).mono ?_); (case side1 => repeat (first | exact HR0.out | (with_reducible refine Kd.C_alloc ?_ _) | (with_reducible refine Kd.C_drewN ?_ _) | (with_reducible refine Kd.C_drew ?_))); (case side2 => exact HC0.out); rintro e w' ⟨rfl, ⟨nd, rfl⟩⟩; refine ⟨_, rfl, ?_⟩))
  go_ret
  exact ⟨by first | rfl | (simp [errW_none, errW_some] <;> rfl) | (simp [*, errW_none, errW_some] <;> rfl), bel HB⟩
 ·replace c3 := Bool.eq_false_iff.mpr c3
  subst c3
  have H1 : ((spec_DrawBallastFor.f k l0).bind fun bt272 => ((impl_BallastFor.f k bt272.1 bt272.2.1 bt272.2.2).bind fun bt277 => ((spec_BallastFor.f k bt272.1 bt272.2.1 bt272.2.2).bind fun bt279 => (if bt277.1 = bt279.1 then (if (bt277.2 != bt279.2) = true then (none) else (if bt277.2 = true then ((impl_LoadMoments.f k bt272.1).bind fun bt281 => (if bt281.2.1 < 0 then (laws_FnBallast.j0 k l0 bt272.2.1 bt272.2.2 bt277.1 (wrap64 (-bt281.2.1)) bt281.2.2.2) else (laws_FnBallast.j0 k l0 bt272.2.1 bt272.2.2 bt277.1 bt281.2.1 bt281.2.2.2))) else (laws_FnBallast.j1 k l0))) else (none))))) = some r := by rw [if_neg (show ¬ (false = true) by decide)] at H; exact H
  clear H
  have H := H1
  clear H1
  replace H := Option.bind_eq_some_iff.mp H
  obtain ⟨⟨t272, t273, t274⟩, A40, H⟩ := H
  replace H : ((impl_BallastFor.f k t272 t273 t274).bind fun bt277 => ((spec_BallastFor.f k t272 t273 t274).bind fun bt279 => (if bt277.1 = bt279.1 then (if (bt277.2 != bt279.2) = true then (none) else (if bt277.2 = true then ((impl_LoadMoments.f k t272).bind fun bt281 => (if bt281.2.1 < 0 then (laws_FnBallast.j0 k l0 t273 t274 bt277.1 (wrap64 (-bt281.2.1)) bt281.2.2.2) else (laws_FnBallast.j0 k l0 t273 t274 bt277.1 bt281.2.1 bt281.2.2.2))) else (laws_FnBallast.j1 k l0))) else (none)))) = some r := H
  have A4 := Aside0.mk A40
  clear A40
  replace H := Option.bind_eq_some_iff.mp H
  obtain ⟨⟨t277, t278⟩, A50, H⟩ := H
  replace H : ((spec_BallastFor.f k t272 t273 t274).bind fun bt279 => (if t277 = bt279.1 then (if (t278 != bt279.2) = true then (none) else (if t278 = true then ((impl_LoadMoments.f k t272).bind fun bt281 => (if bt281.2.1 < 0 then (laws_FnBallast.j0 k l0 t273 t274 t277 (wrap64 (-bt281.2.1)) bt281.2.2.2) else (laws_FnBallast.j0 k l0 t273 t274 t277 bt281.2.1 bt281.2.2.2))) else (laws_FnBallast.j1 k l0))) else (none))) = some r := H
  have A5 := Aside0.mk A50
  clear A50
  replace H := Option.bind_eq_some_iff.mp H
  obtain ⟨⟨t279, t280⟩, A60, H⟩ := H
  replace H : (if t277 = t279 then (if (t278 != t280) = true then (none) else (if t278 = true then ((impl_LoadMoments.f k t272).bind fun bt281 => (if bt281.2.1 < 0 then (laws_FnBallast.j0 k l0 t273 t274 t277 (wrap64 (-bt281.2.1)) bt281.2.2.2) else (laws_FnBallast.j0 k l0 t273 t274 t277 bt281.2.1 bt281.2.2.2))) else (laws_FnBallast.j1 k l0))) else (none)) = some r := H
  have A6 := Aside0.mk A60
  clear A60
  by_cases c7 : t277 = t279
  ·rw [if_pos c7] at H
   have c7b0 : (t277 == t279) = true := beq_iff_eq.mpr c7
   have c7b1 : (t277 != t279) = false := bne_eq_false_iff_eq.mpr c7
   clear c7
   by_cases c8 : (t278 != t280) = true
   ·rw [if_pos c8] at H
    exact absurd H (by simp)
   ·rw [if_neg c8] at H
    have c8b0 : (t278 != t280) = false := by simpa using c8
    (try (have c8b1 : decide (t278 = t280) = true := by simpa using c8))
    (try (have c8b2 : (t278 == t280) = true := by simpa using c8))
    clear c8
    have HC9 := Aside0.mk H
    clear H
    go_enter Try.func3, Try.ntmps3
    go_upto_if 65 with (first | ((with_reducible refine gate_callee (f := 5) rfl ?_); refine goesL_ (some 36) rfl rfl Try.func5 (by kernel_rfl) rfl #[.slice A0 l0.length c0] rfl gmp ?_; (with_reducible refine (laws_rBig.calls _ _ l0 false _ ?side1 ?side2 A2.out).mono ?_); (case side1 => repeat (first | exact HR0.out | (with_reducible refine Kd.C_alloc ?_ _) | (with_reducible refine Kd.C_drewN ?_ _) | (with_reducible refine Kd.C_drew ?_))); (case side2 => exact HC0.out); rintro e w' ⟨rfl, ⟨nd, rfl⟩⟩; refine ⟨_, rfl, ?_⟩) | ((with_reducible refine gate_callee (f := 6) rfl ?_); refine goesL_ (some 39) rfl rfl Try.func6 (by kernel_rfl) rfl #[.slice A0 l0.length c0] rfl gmp ?_; (with_reducible refine (spec_DrawBallastFor.calls k _ _ l0 t272 t273 t274 _ ?side1 ?side2 A4.out).mono ?_); (case side1 => repeat (first | exact HR0.out | (with_reducible refine Kd.C_alloc ?_ _) | (with_reducible refine Kd.C_drewN ?_ _) | (with_reducible refine Kd.C_drew ?_))); (case side2 => exact HC0.out); rintro e w10 ⟨v275, rfl, ho0, hb⟩; refine ⟨_, rfl, ?_⟩; have n0_ := Aside0.mk (Kd.R_lower ho0 (below_size (bel HB))); have n1_ := Aside0.mk (below_step (bel HB) hb); clear HB; have HO276 := n0_; have HB := n1_; clear n0_ n1_; (try clear hb); (try clear hb2); (try clear hk); (try clear hi); (try clear ho0); obtain ⟨Ao11, co11, eo11⟩ := Kd.R_slice HO276.out; subst eo11) | ((with_reducible refine gate_callee (f := 7) rfl ?_); refine goesL_ (some 47) rfl rfl Try.func7 (by kernel_rfl) rfl #[.slice Ao11 t272.length co11, .int .i64 t273, .int .i64 t274] rfl gmp ?_; (with_reducible refine (impl_BallastFor.calls k _ _ t272 t273 t274 t277 t278 _ ?side1 ?side2 A5.out).mono ?_); (case side1 => repeat (first | exact (Kd.R_reads' HO276.out).2.2 | (with_reducible refine Kd.C_alloc ?_ _) | (with_reducible refine Kd.C_drewN ?_ _) | (with_reducible refine Kd.C_drew ?_))); (case side2 => exact (Kd.R_reads' HO276.out).2.1); rintro e w12 ⟨rfl, hb⟩; refine ⟨_, rfl, ?_⟩; have n0_ := Aside0.mk (Kd.R_below (rdl HO276) hb); have n1_ := Aside0.mk (below_step (bel HB) hb); clear HO276; clear HB; have HO276 := n0_; have HB := n1_; clear n0_ n1_; (try clear hb); (try clear hb2); (try clear hk); (try clear hi)) | ((with_reducible refine gate_callee (f := 8) rfl ?_); refine goesL_ (some 54) rfl rfl Try.func8 (by kernel_rfl) rfl #[.slice Ao11 t272.length co11, .int .i64 t273, .int .i64 t274] rfl gmp ?_; (with_reducible refine (spec_BallastFor.calls k _ _ t272 t273 t274 t279 t280 _ ?side1 ?side2 A6.out).mono ?_); (case side1 => repeat (first | exact (Kd.R_reads' HO276.out).2.2 | (with_reducible refine Kd.C_alloc ?_ _) | (with_reducible refine Kd.C_drewN ?_ _) | (with_reducible refine Kd.C_drew ?_))); (case side2 => exact (Kd.R_reads' HO276.out).2.1); rintro e w' ⟨rfl, ⟨nd, rfl⟩⟩; refine ⟨_, rfl, ?_⟩))
    (try simp only [Act.put, List.setIfInBounds_toArray, List.set_cons_zero, List.set_cons_succ])
    go_cut [] (fun wc => ∃ (kq : Nat), Aside0 (laws_FnBallast.j1 kq l0 = some r) ∧ Aside0 (kq ≤ k) ∧ Aside0 (Below w.heap.size w wc))
    case first =>
     have H := HC9.out
     clear HC9
     by_cases c13 : t278 = true
     ·subst c13
      have H1 : ((impl_LoadMoments.f k t272).bind fun bt281 => (if bt281.2.1 < 0 then (laws_FnBallast.j0 k l0 t273 t274 t277 (wrap64 (-bt281.2.1)) bt281.2.2.2) else (laws_FnBallast.j0 k l0 t273 t274 t277 bt281.2.1 bt281.2.2.2))) = some r := by rw [if_pos rfl] at H; exact H
      clear H
      have H := H1
      clear H1
      replace H := Option.bind_eq_some_iff.mp H
      obtain ⟨⟨t281, t282, t283, t284⟩, A140, H⟩ := H
      replace H : (if t282 < 0 then (laws_FnBallast.j0 k l0 t273 t274 t277 (wrap64 (-t282)) t284) else (laws_FnBallast.j0 k l0 t273 t274 t277 t282 t284)) = some r := H
      have A14 := Aside0.mk A140
      clear A140
      have HC15 := Aside0.mk H
      clear H
      go_upto_if 74 with (first | ((with_reducible refine gate_callee (f := 9) rfl ?_); refine goesL_ (some 68) rfl rfl Try.func9 (by kernel_rfl) rfl #[.slice Ao11 t272.length co11] rfl gmp ?_; (with_reducible refine (impl_LoadMoments.calls k _ _ t272 t281 t282 t283 t284 _ ?side1 ?side2 A14.out).mono ?_); (case side1 => repeat (first | exact (Kd.R_reads' HO276.out).2.2 | (with_reducible refine Kd.C_alloc ?_ _) | (with_reducible refine Kd.C_drewN ?_ _) | (with_reducible refine Kd.C_drew ?_))); (case side2 => exact (Kd.R_reads' HO276.out).2.1); rintro e w16 ⟨rfl, hb⟩; refine ⟨_, rfl, ?_⟩; have n0_ := Aside0.mk (Kd.R_below (rdl HO276) hb); have n1_ := Aside0.mk (below_step (bel HB) hb); clear HO276; clear HB; have HO276 := n0_; have HB := n1_; clear n0_ n1_; (try clear hb); (try clear hb2); (try clear hk); (try clear hi)))
      (try simp only [Act.put, List.setIfInBounds_toArray, List.set_cons_zero, List.set_cons_succ])
      go_cut [11] (fun v11 wc => ∃ (kq : Nat) (x11_14 : Int), v11 = .int .i64 x11_14 ∧ Aside0 (laws_FnBallast.j0 kq l0 t273 t274 t277 x11_14 t284 = some r) ∧ Aside0 (kq ≤ k) ∧ Aside0 (Below w.heap.size w wc))
      case first =>
       have H := HC15.out
       clear HC15
       by_cases c17 : t282 < 0
       ·rw [if_pos c17] at H
        have c17b0 : decide (t282 < 0) = true := decide_eq_true c17
        clear c17
        (first | rw [c17b0] | (simp only [i64_w, i32_w]; rw [c17b0]) | skip)
        have H' := Aside0.mk H
        clear H
        go_wp2
        go_meet
        case rel => exact ⟨_, (wrap64 (-t282)), (by first | rfl | (simp; done) | (simp [*]; done)), H', ⟨by first | omega | exact Nat.le_refl _⟩, ⟨bel HB⟩⟩
       ·rw [if_neg c17] at H
        have c17b0 : decide (t282 < 0) = false := decide_eq_false c17
        clear c17
        (first | rw [c17b0] | (simp only [i64_w, i32_w]; rw [c17b0]) | skip)
        have H' := Aside0.mk H
        clear H
        go_wp2
        go_meet
        case rel => exact ⟨_, (t282), (by first | rfl | (simp; done) | (simp [*]; done)), H', ⟨by first | omega | exact Nat.le_refl _⟩, ⟨bel HB⟩⟩
      case rest =>
       clear HC15
       try clear c1
       try clear p2
       try clear c3
       try clear c5
       try clear c6
       try clear p6
       try clear c7
       try clear c7b0
       try clear c7b1
       try clear c8
       try clear c8b0
       try clear c8b1
       try clear c8b2
       try clear c9
       try clear c13
       try clear c17
       try clear c17b0
       obtain ⟨kq, x11_14, rfl, HA, HJ14, HB⟩ := hcut
       cases kq with
       | zero => exact absurd HA.out (by simp [laws_FnBallast.j0])
       | succ kj14 =>
        have H := HA.out
        clear HA
        simp only [laws_FnBallast.j0] at H
        replace H := Option.bind_eq_some_iff.mp H
        obtain ⟨t285, A180, H⟩ := H
        replace H : (if t284 = true then (if t277 < 0 then (none) else (if t277 > t274 then (none) else (if t277 > 0 then ((laws_rAbs.f (wrap64 (x11_14 - (wrap64 ((wrap64 (t277 - 1)) * t273))))).bind fun t286 => (if t286 ≤ t285 then (none) else (if t277 < t274 then ((laws_rAbs.f (wrap64 (x11_14 - (wrap64 ((wrap64 (t277 + 1)) * t273))))).bind fun t287 => (if t287 < t285 then (none) else (laws_FnBallast.j1 kj14 l0))) else (laws_FnBallast.j1 kj14 l0)))) else (if t277 < t274 then ((laws_rAbs.f (wrap64 (x11_14 - (wrap64 ((wrap64 (t277 + 1)) * t273))))).bind fun t288 => (if t288 < t285 then (none) else (laws_FnBallast.j1 kj14 l0))) else (laws_FnBallast.j1 kj14 l0))))) else (none)) = some r := H
        have A18 := Aside0.mk A180
        clear A180
        by_cases c19 : t284 = true
        ·subst c19
         have H1 : (if t277 < 0 then (none) else (if t277 > t274 then (none) else (if t277 > 0 then ((laws_rAbs.f (wrap64 (x11_14 - (wrap64 ((wrap64 (t277 - 1)) * t273))))).bind fun t286 => (if t286 ≤ t285 then (none) else (if t277 < t274 then ((laws_rAbs.f (wrap64 (x11_14 - (wrap64 ((wrap64 (t277 + 1)) * t273))))).bind fun t287 => (if t287 < t285 then (none) else (laws_FnBallast.j1 kj14 l0))) else (laws_FnBallast.j1 kj14 l0)))) else (if t277 < t274 then ((laws_rAbs.f (wrap64 (x11_14 - (wrap64 ((wrap64 (t277 + 1)) * t273))))).bind fun t288 => (if t288 < t285 then (none) else (laws_FnBallast.j1 kj14 l0))) else (laws_FnBallast.j1 kj14 l0))))) = some r := by rw [if_pos rfl] at H; exact H
         clear H
         have H := H1
         clear H1
         by_cases c20 : t277 < 0
         ·rw [if_pos c20] at H
          exact absurd H (by simp)
         ·rw [if_neg c20] at H
          have c20b0 : decide (t277 < 0) = false := decide_eq_false c20
          clear c20
          by_cases c21 : t277 > t274
          ·rw [if_pos c21] at H
           exact absurd H (by simp)
          ·rw [if_neg c21] at H
           have c21b0 : decide (t274 < t277) = false := decide_eq_false c21
           clear c21
           by_cases c22 : t277 > 0
           ·rw [if_pos c22] at H
            have c22b0 : decide (0 < t277) = true := decide_eq_true c22
            clear c22
            replace H := Option.bind_eq_some_iff.mp H
            obtain ⟨t286, A230, H⟩ := H
            replace H : (if t286 ≤ t285 then (none) else (if t277 < t274 then ((laws_rAbs.f (wrap64 (x11_14 - (wrap64 ((wrap64 (t277 + 1)) * t273))))).bind fun t287 => (if t287 < t285 then (none) else (laws_FnBallast.j1 kj14 l0))) else (laws_FnBallast.j1 kj14 l0))) = some r := H
            have A23 := Aside0.mk A230
            clear A230
            by_cases c24 : t286 ≤ t285
            ·rw [if_pos c24] at H
             exact absurd H (by simp)
            ·rw [if_neg c24] at H
             have c24b0 : decide (t286 ≤ t285) = false := decide_eq_false c24
             clear c24
             by_cases c25 : t277 < t274
             ·rw [if_pos c25] at H
              have c25b0 : decide (t277 < t274) = true := decide_eq_true c25
              clear c25
              replace H := Option.bind_eq_some_iff.mp H
              obtain ⟨t287, A260, H⟩ := H
              replace H : (if t287 < t285 then (none) else (laws_FnBallast.j1 kj14 l0)) = some r := H
              have A26 := Aside0.mk A260
              clear A260
              by_cases c27 : t287 < t285
              ·rw [if_pos c27] at H
               exact absurd H (by simp)
              ·rw [if_neg c27] at H
               have c27b0 : decide (t287 < t285) = false := decide_eq_false c27
               clear c27
               have H' := Aside0.mk H
               clear H
               go_wp2_with (first | ((with_reducible refine gate_callee (f := 10) rfl ?_); refine goesL_ (some 82) rfl rfl Try.func10 (by kernel_rfl) rfl #[.int .i64 (wrap64 (x11_14 - (wrap64 (t277 * t273))))] rfl gmp ?_; (with_reducible refine (laws_rAbs.calls (wrap64 (x11_14 - (wrap64 (t277 * t273)))) t285 _ A18.out).mono ?_); rintro e w' ⟨rfl, ⟨nd, rfl⟩⟩; refine ⟨_, rfl, ?_⟩) | (go_at_call 10; (with_reducible refine (laws_rAbs.calls (wrap64 (x11_14 - (wrap64 ((wrap64 (t277 - 1)) * t273)))) t286 _ A23.out).mono ?_); rintro e w' ⟨rfl, ⟨nd, rfl⟩⟩) | (go_at_call 10; (with_reducible refine (laws_rAbs.calls (wrap64 (x11_14 - (wrap64 ((wrap64 (t277 + 1)) * t273)))) t287 _ A26.out).mono ?_); rintro e w' ⟨rfl, ⟨nd, rfl⟩⟩))
               go_meet
               case rel => exact ⟨_, H', ⟨by have := HJ14.out; first | omega | exact Nat.le_refl _⟩, ⟨bel HB⟩⟩
             ·rw [if_neg c25] at H
              have c25b0 : decide (t277 < t274) = false := decide_eq_false c25
              clear c25
              have H' := Aside0.mk H
              clear H
              go_wp2_with (first | ((with_reducible refine gate_callee (f := 10) rfl ?_); refine goesL_ (some 82) rfl rfl Try.func10 (by kernel_rfl) rfl #[.int .i64 (wrap64 (x11_14 - (wrap64 (t277 * t273))))] rfl gmp ?_; (with_reducible refine (laws_rAbs.calls (wrap64 (x11_14 - (wrap64 (t277 * t273)))) t285 _ A18.out).mono ?_); rintro e w' ⟨rfl, ⟨nd, rfl⟩⟩; refine ⟨_, rfl, ?_⟩) | (go_at_call 10; (with_reducible refine (laws_rAbs.calls (wrap64 (x11_14 - (wrap64 ((wrap64 (t277 - 1)) * t273)))) t286 _ A23.out).mono ?_); rintro e w' ⟨rfl, ⟨nd, rfl⟩⟩))
              go_meet
              case rel => exact ⟨_, H', ⟨by have := HJ14.out; first | omega | exact Nat.le_refl _⟩, ⟨bel HB⟩⟩
           ·rw [if_neg c22] at H
            have c22b0 : decide (0 < t277) = false := decide_eq_false c22
            clear c22
            by_cases c28 : t277 < t274
            ·rw [if_pos c28] at H
             have c28b0 : decide (t277 < t274) = true := decide_eq_true c28
             clear c28
             replace H := Option.bind_eq_some_iff.mp H
             obtain ⟨t288, A290, H⟩ := H
             replace H : (if t288 < t285 then (none) else (laws_FnBallast.j1 kj14 l0)) = some r := H
             have A29 := Aside0.mk A290
             clear A290
             by_cases c30 : t288 < t285
             ·rw [if_pos c30] at H
              exact absurd H (by simp)
             ·rw [if_neg c30] at H
              have c30b0 : decide (t288 < t285) = false := decide_eq_false c30
              clear c30
              have H' := Aside0.mk H
              clear H
              go_wp2_with (first | ((with_reducible refine gate_callee (f := 10) rfl ?_); refine goesL_ (some 82) rfl rfl Try.func10 (by kernel_rfl) rfl #[.int .i64 (wrap64 (x11_14 - (wrap64 (t277 * t273))))] rfl gmp ?_; (with_reducible refine (laws_rAbs.calls (wrap64 (x11_14 - (wrap64 (t277 * t273)))) t285 _ A18.out).mono ?_); rintro e w' ⟨rfl, ⟨nd, rfl⟩⟩; refine ⟨_, rfl, ?_⟩) | (go_at_call 10; (with_reducible refine (laws_rAbs.calls (wrap64 (x11_14 - (wrap64 ((wrap64 (t277 + 1)) * t273)))) t288 _ A29.out).mono ?_); rintro e w' ⟨rfl, ⟨nd, rfl⟩⟩))
              go_meet
              case rel => exact ⟨_, H', ⟨by have := HJ14.out; first | omega | exact Nat.le_refl _⟩, ⟨bel HB⟩⟩
            ·rw [if_neg c28] at H
             have c28b0 : decide (t277 < t274) = false := decide_eq_false c28
             clear c28
             have H' := Aside0.mk H
             clear H
             go_wp2_with (first | ((with_reducible refine gate_callee (f := 10) rfl ?_); refine goesL_ (some 82) rfl rfl Try.func10 (by kernel_rfl) rfl #[.int .i64 (wrap64 (x11_14 - (wrap64 (t277 * t273))))] rfl gmp ?_; (with_reducible refine (laws_rAbs.calls (wrap64 (x11_14 - (wrap64 (t277 * t273)))) t285 _ A18.out).mono ?_); rintro e w' ⟨rfl, ⟨nd, rfl⟩⟩; refine ⟨_, rfl, ?_⟩))
             go_meet
             case rel => exact ⟨_, H', ⟨by have := HJ14.out; first | omega | exact Nat.le_refl _⟩, ⟨bel HB⟩⟩
        ·replace c19 := Bool.eq_false_iff.mpr c19
         subst c19
         have H1 : (none) = some r := by rw [if_neg (show ¬ (false = true) by decide)] at H; exact H
         clear H
         have H := H1
         clear H1
         exact absurd H (by simp)
     ·replace c13 := Bool.eq_false_iff.mpr c13
      subst c13
      have H1 : (laws_FnBallast.j1 k l0) = some r := by rw [if_neg (show ¬ (false = true) by decide)] at H; exact H
      clear H
      have H := H1
      clear H1
      have H' := Aside0.mk H
      clear H
      go_wp2
      go_meet
      case rel => exact ⟨_, H', ⟨by first | omega | exact Nat.le_refl _⟩, ⟨bel HB⟩⟩
    case rest =>
     clear HC9
     try clear c1
     try clear c2
     try clear p2
     try clear c3
     try clear c5
     try clear c6
     try clear p6
     try clear c7
     try clear c7b0
     try clear c7b1
     try clear c8
     try clear c8b0
     try clear c8b1
     try clear c8b2
     try clear c9
     try clear c10
     try clear c13
     try clear c17
     try clear c17b0
     try clear c19
     try clear c20
     try clear c20b0
     try clear c21
     try clear c21b0
     try clear c22
     try clear c22b0
     try clear c24
     try clear c24b0
     try clear c25
     try clear c25b0
     try clear c27
     try clear c27b0
     try clear c28
     try clear c28b0
     try clear c30
     try clear c30b0
     try clear p2
     try clear p6
     obtain ⟨kq, HA, HJ8, HB⟩ := hcut
     cases kq with
     | zero => exact absurd HA.out (by simp [laws_FnBallast.j1])
     | succ kj8 =>
      have H := HA.out
      clear HA
      simp only [laws_FnBallast.j1] at H
      replace H := Option.bind_eq_some_iff.mp H
      obtain ⟨t289, A310, H⟩ := H
      replace H : ((impl_BestSwap.f kj8 t289).bind fun bt292 => ((spec_BestSwap.f kj8 t289).bind fun bt297 => (if (bt292.2.2 != bt297.2.2) = true then (none) else (if bt292.2.1 = bt297.2.1 then ((laws_rInts.f kj8 bt292.1 bt297.1).bind fun t302 => (if t302 = true then (if bt292.2.2 = true then ((some (([] : List (S38)) : List (S38))).bind fun y303 => (if y303.length + t289.length < 5864062014805 then ((some (y303 ++ t289 : List (S38))).bind fun y306 => (if 0 < (bt292.1.length : Int) then (if 0 ≤ (rd bt292.1 0) then (if (rd bt292.1 0) < (t289.length : Int) then (if 1 < (bt292.1.length : Int) then (if 0 ≤ (rd bt292.1 1) then (if (rd bt292.1 1) < (t289.length : Int) then (if (rd bt292.1 0) < (y306.length : Int) then (if (rd bt292.1 1) < (y306.length : Int) then ((impl_LoadMoments.f kj8 ((y306.set ((rd bt292.1 0) : Int).toNat (⟨(rd_T38 t289 (rd bt292.1 0)).f0, (rd_T38 t289 (rd bt292.1 1)).f1, (rd_T38 t289 (rd bt292.1 1)).f2⟩ : S38)).set ((rd bt292.1 1) : Int).toNat (⟨(rd_T38 t289 (rd bt292.1 1)).f0, (rd_T38 t289 (rd bt292.1 0)).f1, (rd_T38 t289 (rd bt292.1 0)).f2⟩ : S38))).bind fun bt319 => (if bt319.2.2.2 = true then ((laws_rAbs.f bt319.2.1).bind fun t323 => (if t323 = bt292.2.1 then ((spec_DrawIsUpright.f kj8 l0).bind fun bt324 => ((impl_IsUpright.f kj8 bt324.1 bt324.2).bind fun bt328 => ((spec_IsUpright.f kj8 bt324.1 bt324.2).bind fun bt330 => (if (bt328.1 == bt330.1) = true then (some (bt328.2 == bt330.2)) else (none))))) else (none))) else (none))) else (none)) else (none)) else (none)) else (none)) else (none)) else (none)) else (none)) else (none))) else (none))) else ((spec_DrawIsUpright.f kj8 l0).bind fun bt332 => ((impl_IsUpright.f kj8 bt332.1 bt332.2).bind fun bt336 => ((spec_IsUpright.f kj8 bt332.1 bt332.2).bind fun bt338 => (if (bt336.1 == bt338.1) = true then (some (bt336.2 == bt338.2)) else (none)))))) else (none))) else (none))))) = some r := H
      have A31 := Aside0.mk A310
      clear A310
      replace H := Option.bind_eq_some_iff.mp H
      obtain ⟨⟨t292, t293, t294⟩, A320, H⟩ := H
      replace H : ((spec_BestSwap.f kj8 t289).bind fun bt297 => (if (t294 != bt297.2.2) = true then (none) else (if t293 = bt297.2.1 then ((laws_rInts.f kj8 t292 bt297.1).bind fun t302 => (if t302 = true then (if t294 = true then ((some (([] : List (S38)) : List (S38))).bind fun y303 => (if y303.length + t289.length < 5864062014805 then ((some (y303 ++ t289 : List (S38))).bind fun y306 => (if 0 < (t292.length : Int) then (if 0 ≤ (rd t292 0) then (if (rd t292 0) < (t289.length : Int) then (if 1 < (t292.length : Int) then (if 0 ≤ (rd t292 1) then (if (rd t292 1) < (t289.length : Int) then (if (rd t292 0) < (y306.length : Int) then (if (rd t292 1) < (y306.length : Int) then ((impl_LoadMoments.f kj8 ((y306.set ((rd t292 0) : Int).toNat (⟨(rd_T38 t289 (rd t292 0)).f0, (rd_T38 t289 (rd t292 1)).f1, (rd_T38 t289 (rd t292 1)).f2⟩ : S38)).set ((rd t292 1) : Int).toNat (⟨(rd_T38 t289 (rd t292 1)).f0, (rd_T38 t289 (rd t292 0)).f1, (rd_T38 t289 (rd t292 0)).f2⟩ : S38))).bind fun bt319 => (if bt319.2.2.2 = true then ((laws_rAbs.f bt319.2.1).bind fun t323 => (if t323 = t293 then ((spec_DrawIsUpright.f kj8 l0).bind fun bt324 => ((impl_IsUpright.f kj8 bt324.1 bt324.2).bind fun bt328 => ((spec_IsUpright.f kj8 bt324.1 bt324.2).bind fun bt330 => (if (bt328.1 == bt330.1) = true then (some (bt328.2 == bt330.2)) else (none))))) else (none))) else (none))) else (none)) else (none)) else (none)) else (none)) else (none)) else (none)) else (none)) else (none))) else (none))) else ((spec_DrawIsUpright.f kj8 l0).bind fun bt332 => ((impl_IsUpright.f kj8 bt332.1 bt332.2).bind fun bt336 => ((spec_IsUpright.f kj8 bt332.1 bt332.2).bind fun bt338 => (if (bt336.1 == bt338.1) = true then (some (bt336.2 == bt338.2)) else (none)))))) else (none))) else (none)))) = some r := H
      have A32 := Aside0.mk A320
      clear A320
      replace H := Option.bind_eq_some_iff.mp H
      obtain ⟨⟨t297, t298, t299⟩, A330, H⟩ := H
      replace H : (if (t294 != t299) = true then (none) else (if t293 = t298 then ((laws_rInts.f kj8 t292 t297).bind fun t302 => (if t302 = true then (if t294 = true then ((some (([] : List (S38)) : List (S38))).bind fun y303 => (if y303.length + t289.length < 5864062014805 then ((some (y303 ++ t289 : List (S38))).bind fun y306 => (if 0 < (t292.length : Int) then (if 0 ≤ (rd t292 0) then (if (rd t292 0) < (t289.length : Int) then (if 1 < (t292.length : Int) then (if 0 ≤ (rd t292 1) then (if (rd t292 1) < (t289.length : Int) then (if (rd t292 0) < (y306.length : Int) then (if (rd t292 1) < (y306.length : Int) then ((impl_LoadMoments.f kj8 ((y306.set ((rd t292 0) : Int).toNat (⟨(rd_T38 t289 (rd t292 0)).f0, (rd_T38 t289 (rd t292 1)).f1, (rd_T38 t289 (rd t292 1)).f2⟩ : S38)).set ((rd t292 1) : Int).toNat (⟨(rd_T38 t289 (rd t292 1)).f0, (rd_T38 t289 (rd t292 0)).f1, (rd_T38 t289 (rd t292 0)).f2⟩ : S38))).bind fun bt319 => (if bt319.2.2.2 = true then ((laws_rAbs.f bt319.2.1).bind fun t323 => (if t323 = t293 then ((spec_DrawIsUpright.f kj8 l0).bind fun bt324 => ((impl_IsUpright.f kj8 bt324.1 bt324.2).bind fun bt328 => ((spec_IsUpright.f kj8 bt324.1 bt324.2).bind fun bt330 => (if (bt328.1 == bt330.1) = true then (some (bt328.2 == bt330.2)) else (none))))) else (none))) else (none))) else (none)) else (none)) else (none)) else (none)) else (none)) else (none)) else (none)) else (none))) else (none))) else ((spec_DrawIsUpright.f kj8 l0).bind fun bt332 => ((impl_IsUpright.f kj8 bt332.1 bt332.2).bind fun bt336 => ((spec_IsUpright.f kj8 bt332.1 bt332.2).bind fun bt338 => (if (bt336.1 == bt338.1) = true then (some (bt336.2 == bt338.2)) else (none)))))) else (none))) else (none))) = some r := H
      have A33 := Aside0.mk A330
      clear A330
      by_cases c34 : (t294 != t299) = true
      ·rw [if_pos c34] at H
       exact absurd H (by simp)
      ·rw [if_neg c34] at H
       have c34b0 : (t294 != t299) = false := by simpa using c34
       (try (have c34b1 : decide (t294 = t299) = true := by simpa using c34))
       (try (have c34b2 : (t294 == t299) = true := by simpa using c34))
       clear c34
       by_cases c35 : t293 = t298
       ·rw [if_pos c35] at H
        have c35b0 : (t293 == t298) = true := beq_iff_eq.mpr c35
        have c35b1 : (t293 != t298) = false := bne_eq_false_iff_eq.mpr c35
        clear c35
        replace H := Option.bind_eq_some_iff.mp H
        obtain ⟨t302, A360, H⟩ := H
        replace H : (if t302 = true then (if t294 = true then ((some (([] : List (S38)) : List (S38))).bind fun y303 => (if y303.length + t289.length < 5864062014805 then ((some (y303 ++ t289 : List (S38))).bind fun y306 => (if 0 < (t292.length : Int) then (if 0 ≤ (rd t292 0) then (if (rd t292 0) < (t289.length : Int) then (if 1 < (t292.length : Int) then (if 0 ≤ (rd t292 1) then (if (rd t292 1) < (t289.length : Int) then (if (rd t292 0) < (y306.length : Int) then (if (rd t292 1) < (y306.length : Int) then ((impl_LoadMoments.f kj8 ((y306.set ((rd t292 0) : Int).toNat (⟨(rd_T38 t289 (rd t292 0)).f0, (rd_T38 t289 (rd t292 1)).f1, (rd_T38 t289 (rd t292 1)).f2⟩ : S38)).set ((rd t292 1) : Int).toNat (⟨(rd_T38 t289 (rd t292 1)).f0, (rd_T38 t289 (rd t292 0)).f1, (rd_T38 t289 (rd t292 0)).f2⟩ : S38))).bind fun bt319 => (if bt319.2.2.2 = true then ((laws_rAbs.f bt319.2.1).bind fun t323 => (if t323 = t293 then ((spec_DrawIsUpright.f kj8 l0).bind fun bt324 => ((impl_IsUpright.f kj8 bt324.1 bt324.2).bind fun bt328 => ((spec_IsUpright.f kj8 bt324.1 bt324.2).bind fun bt330 => (if (bt328.1 == bt330.1) = true then (some (bt328.2 == bt330.2)) else (none))))) else (none))) else (none))) else (none)) else (none)) else (none)) else (none)) else (none)) else (none)) else (none)) else (none))) else (none))) else ((spec_DrawIsUpright.f kj8 l0).bind fun bt332 => ((impl_IsUpright.f kj8 bt332.1 bt332.2).bind fun bt336 => ((spec_IsUpright.f kj8 bt332.1 bt332.2).bind fun bt338 => (if (bt336.1 == bt338.1) = true then (some (bt336.2 == bt338.2)) else (none)))))) else (none)) = some r := H
        have A36 := Aside0.mk A360
        clear A360
        by_cases c37 : t302 = true
        ·subst c37
         have H1 : (if t294 = true then ((some (([] : List (S38)) : List (S38))).bind fun y303 => (if y303.length + t289.length < 5864062014805 then ((some (y303 ++ t289 : List (S38))).bind fun y306 => (if 0 < (t292.length : Int) then (if 0 ≤ (rd t292 0) then (if (rd t292 0) < (t289.length : Int) then (if 1 < (t292.length : Int) then (if 0 ≤ (rd t292 1) then (if (rd t292 1) < (t289.length : Int) then (if (rd t292 0) < (y306.length : Int) then (if (rd t292 1) < (y306.length : Int) then ((impl_LoadMoments.f kj8 ((y306.set ((rd t292 0) : Int).toNat (⟨(rd_T38 t289 (rd t292 0)).f0, (rd_T38 t289 (rd t292 1)).f1, (rd_T38 t289 (rd t292 1)).f2⟩ : S38)).set ((rd t292 1) : Int).toNat (⟨(rd_T38 t289 (rd t292 1)).f0, (rd_T38 t289 (rd t292 0)).f1, (rd_T38 t289 (rd t292 0)).f2⟩ : S38))).bind fun bt319 => (if bt319.2.2.2 = true then ((laws_rAbs.f bt319.2.1).bind fun t323 => (if t323 = t293 then ((spec_DrawIsUpright.f kj8 l0).bind fun bt324 => ((impl_IsUpright.f kj8 bt324.1 bt324.2).bind fun bt328 => ((spec_IsUpright.f kj8 bt324.1 bt324.2).bind fun bt330 => (if (bt328.1 == bt330.1) = true then (some (bt328.2 == bt330.2)) else (none))))) else (none))) else (none))) else (none)) else (none)) else (none)) else (none)) else (none)) else (none)) else (none)) else (none))) else (none))) else ((spec_DrawIsUpright.f kj8 l0).bind fun bt332 => ((impl_IsUpright.f kj8 bt332.1 bt332.2).bind fun bt336 => ((spec_IsUpright.f kj8 bt332.1 bt332.2).bind fun bt338 => (if (bt336.1 == bt338.1) = true then (some (bt336.2 == bt338.2)) else (none)))))) = some r := by rw [if_pos rfl] at H; exact H
         clear H
         have H := H1
         clear H1
         by_cases c38 : t294 = true
         ·subst c38
          have H1 : ((some (([] : List (S38)) : List (S38))).bind fun y303 => (if y303.length + t289.length < 5864062014805 then ((some (y303 ++ t289 : List (S38))).bind fun y306 => (if 0 < (t292.length : Int) then (if 0 ≤ (rd t292 0) then (if (rd t292 0) < (t289.length : Int) then (if 1 < (t292.length : Int) then (if 0 ≤ (rd t292 1) then (if (rd t292 1) < (t289.length : Int) then (if (rd t292 0) < (y306.length : Int) then (if (rd t292 1) < (y306.length : Int) then ((impl_LoadMoments.f kj8 ((y306.set ((rd t292 0) : Int).toNat (⟨(rd_T38 t289 (rd t292 0)).f0, (rd_T38 t289 (rd t292 1)).f1, (rd_T38 t289 (rd t292 1)).f2⟩ : S38)).set ((rd t292 1) : Int).toNat (⟨(rd_T38 t289 (rd t292 1)).f0, (rd_T38 t289 (rd t292 0)).f1, (rd_T38 t289 (rd t292 0)).f2⟩ : S38))).bind fun bt319 => (if bt319.2.2.2 = true then ((laws_rAbs.f bt319.2.1).bind fun t323 => (if t323 = t293 then ((spec_DrawIsUpright.f kj8 l0).bind fun bt324 => ((impl_IsUpright.f kj8 bt324.1 bt324.2).bind fun bt328 => ((spec_IsUpright.f kj8 bt324.1 bt324.2).bind fun bt330 => (if (bt328.1 == bt330.1) = true then (some (bt328.2 == bt330.2)) else (none))))) else (none))) else (none))) else (none)) else (none)) else (none)) else (none)) else (none)) else (none)) else (none)) else (none))) else (none))) = some r := by rw [if_pos rfl] at H; exact H
          clear H
          have H := H1
          clear H1
          obtain ⟨y303, hy303⟩ : ∃ y_ : List (S38), y_ = (([] : List (S38))) := ⟨_, rfl⟩
          replace H : (if y303.length + t289.length < 5864062014805 then ((some (y303 ++ t289 : List (S38))).bind fun y306 => (if 0 < (t292.length : Int) then (if 0 ≤ (rd t292 0) then (if (rd t292 0) < (t289.length : Int) then (if 1 < (t292.length : Int) then (if 0 ≤ (rd t292 1) then (if (rd t292 1) < (t289.length : Int) then (if (rd t292 0) < (y306.length : Int) then (if (rd t292 1) < (y306.length : Int) then ((impl_LoadMoments.f kj8 ((y306.set ((rd t292 0) : Int).toNat (⟨(rd_T38 t289 (rd t292 0)).f0, (rd_T38 t289 (rd t292 1)).f1, (rd_T38 t289 (rd t292 1)).f2⟩ : S38)).set ((rd t292 1) : Int).toNat (⟨(rd_T38 t289 (rd t292 1)).f0, (rd_T38 t289 (rd t292 0)).f1, (rd_T38 t289 (rd t292 0)).f2⟩ : S38))).bind fun bt319 => (if bt319.2.2.2 = true then ((laws_rAbs.f bt319.2.1).bind fun t323 => (if t323 = t293 then ((spec_DrawIsUpright.f kj8 l0).bind fun bt324 => ((impl_IsUpright.f kj8 bt324.1 bt324.2).bind fun bt328 => ((spec_IsUpright.f kj8 bt324.1 bt324.2).bind fun bt330 => (if (bt328.1 == bt330.1) = true then (some (bt328.2 == bt330.2)) else (none))))) else (none))) else (none))) else (none)) else (none)) else (none)) else (none)) else (none)) else (none)) else (none)) else (none))) else (none)) = some r := by first | (rw [hy303]; with_reducible exact H) | (have H2_ := (Option.bind_some _ _).symm.trans H; rw [hy303]; with_reducible exact H2_) | (have H2_ := (Option.bind_some _ _).symm.trans H; with_reducible exact H2_) | with_reducible exact H | (rw [hy303]; exact H) | exact H
          have Ny303 := Aside0.mk hy303
          clear hy303
          by_cases c39 : y303.length + t289.length < 5864062014805
          ·rw [if_pos c39] at H
           have LMc39 := Aside0.mk c39
           clear c39
           obtain ⟨y306, hy306⟩ : ∃ y_ : List (S38), y_ = (y303 ++ t289) := ⟨_, rfl⟩
           replace H : (if 0 < (t292.length : Int) then (if 0 ≤ (rd t292 0) then (if (rd t292 0) < (t289.length : Int) then (if 1 < (t292.length : Int) then (if 0 ≤ (rd t292 1) then (if (rd t292 1) < (t289.length : Int) then (if (rd t292 0) < (y306.length : Int) then (if (rd t292 1) < (y306.length : Int) then ((impl_LoadMoments.f kj8 ((y306.set ((rd t292 0) : Int).toNat (⟨(rd_T38 t289 (rd t292 0)).f0, (rd_T38 t289 (rd t292 1)).f1, (rd_T38 t289 (rd t292 1)).f2⟩ : S38)).set ((rd t292 1) : Int).toNat (⟨(rd_T38 t289 (rd t292 1)).f0, (rd_T38 t289 (rd t292 0)).f1, (rd_T38 t289 (rd t292 0)).f2⟩ : S38))).bind fun bt319 => (if bt319.2.2.2 = true then ((laws_rAbs.f bt319.2.1).bind fun t323 => (if t323 = t293 then ((spec_DrawIsUpright.f kj8 l0).bind fun bt324 => ((impl_IsUpright.f kj8 bt324.1 bt324.2).bind fun bt328 => ((spec_IsUpright.f kj8 bt324.1 bt324.2).bind fun bt330 => (if (bt328.1 == bt330.1) = true then (some (bt328.2 == bt330.2)) else (none))))) else (none))) else (none))) else (none)) else (none)) else (none)) else (none)) else (none)) else (none)) else (none)) else (none)) = some r := by first | (rw [hy306]; with_reducible exact H) | (have H2_ := (Option.bind_some _ _).symm.trans H; rw [hy306]; with_reducible exact H2_) | (have H2_ := (Option.bind_some _ _).symm.trans H; with_reducible exact H2_) | with_reducible exact H | (rw [hy306]; exact H) | exact H
           have Ny306 := Aside0.mk hy306
           clear hy306
           by_cases c40 : 0 < (t292.length : Int)
           ·rw [if_pos c40] at H
            have c40b0 : decide (0 < (t292.length : Int)) = true := decide_eq_true c40
            have c40b1 : decide (0 < t292.length) = true := decide_eq_true (by omega)
            clear c40
            by_cases c41 : 0 ≤ (rd t292 0)
            ·rw [if_pos c41] at H
             have c41b0 : decide (0 ≤ (rd t292 0)) = true := decide_eq_true c41
             clear c41
             by_cases c42 : (rd t292 0) < (t289.length : Int)
             ·rw [if_pos c42] at H
              have c42b0 : decide ((rd t292 0) < (t289.length : Int)) = true := decide_eq_true c42
              clear c42
              by_cases c43 : 1 < (t292.length : Int)
              ·rw [if_pos c43] at H
               have c43b0 : decide (1 < (t292.length : Int)) = true := decide_eq_true c43
               have c43b1 : decide (1 < t292.length) = true := decide_eq_true (by omega)
               clear c43
               by_cases c44 : 0 ≤ (rd t292 1)
               ·rw [if_pos c44] at H
                have c44b0 : decide (0 ≤ (rd t292 1)) = true := decide_eq_true c44
                clear c44
                by_cases c45 : (rd t292 1) < (t289.length : Int)
                ·rw [if_pos c45] at H
                 have c45b0 : decide ((rd t292 1) < (t289.length : Int)) = true := decide_eq_true c45
                 clear c45
                 by_cases c46 : (rd t292 0) < (y306.length : Int)
                 ·rw [if_pos c46] at H
                  have c46b0 : decide ((rd t292 0) < (y306.length : Int)) = true := decide_eq_true c46
                  clear c46
                  obtain ⟨y316, hy316⟩ : ∃ y_ : List (S38), y_ = (y306.set ((rd t292 0) : Int).toNat (⟨(rd_T38 t289 (rd t292 0)).f0, (rd_T38 t289 (rd t292 1)).f1, (rd_T38 t289 (rd t292 1)).f2⟩ : S38)) := ⟨_, rfl⟩
                  replace H : (if (rd t292 1) < (y306.length : Int) then ((impl_LoadMoments.f kj8 (y316.set ((rd t292 1) : Int).toNat (⟨(rd_T38 t289 (rd t292 1)).f0, (rd_T38 t289 (rd t292 0)).f1, (rd_T38 t289 (rd t292 0)).f2⟩ : S38))).bind fun bt319 => (if bt319.2.2.2 = true then ((laws_rAbs.f bt319.2.1).bind fun t323 => (if t323 = t293 then ((spec_DrawIsUpright.f kj8 l0).bind fun bt324 => ((impl_IsUpright.f kj8 bt324.1 bt324.2).bind fun bt328 => ((spec_IsUpright.f kj8 bt324.1 bt324.2).bind fun bt330 => (if (bt328.1 == bt330.1) = true then (some (bt328.2 == bt330.2)) else (none))))) else (none))) else (none))) else (none)) = some r := by first | (rw [hy316]; with_reducible exact H) | (have H2_ := (Option.bind_some _ _).symm.trans H; rw [hy316]; with_reducible exact H2_) | (have H2_ := (Option.bind_some _ _).symm.trans H; with_reducible exact H2_) | with_reducible exact H | (rw [hy316]; exact H) | exact H
                  have Ny316 := Aside0.mk hy316
                  clear hy316
                  by_cases c48 : (rd t292 1) < (y306.length : Int)
                  ·rw [if_pos c48] at H
                   have c48b0 : decide ((rd t292 1) < (y306.length : Int)) = true := decide_eq_true c48
                   clear c48
                   obtain ⟨y318, hy318⟩ : ∃ y_ : List (S38), y_ = (y316.set ((rd t292 1) : Int).toNat (⟨(rd_T38 t289 (rd t292 1)).f0, (rd_T38 t289 (rd t292 0)).f1, (rd_T38 t289 (rd t292 0)).f2⟩ : S38)) := ⟨_, rfl⟩
                   replace H : ((impl_LoadMoments.f kj8 y318).bind fun bt319 => (if bt319.2.2.2 = true then ((laws_rAbs.f bt319.2.1).bind fun t323 => (if t323 = t293 then ((spec_DrawIsUpright.f kj8 l0).bind fun bt324 => ((impl_IsUpright.f kj8 bt324.1 bt324.2).bind fun bt328 => ((spec_IsUpright.f kj8 bt324.1 bt324.2).bind fun bt330 => (if (bt328.1 == bt330.1) = true then (some (bt328.2 == bt330.2)) else (none))))) else (none))) else (none))) = some r := by first | (rw [hy318]; with_reducible exact H) | (have H2_ := (Option.bind_some _ _).symm.trans H; rw [hy318]; with_reducible exact H2_) | (have H2_ := (Option.bind_some _ _).symm.trans H; with_reducible exact H2_) | with_reducible exact H | (rw [hy318]; exact H) | exact H
                   have Ny318 := Aside0.mk hy318
                   clear hy318
                   replace H := Option.bind_eq_some_iff.mp H
                   obtain ⟨⟨t319, t320, t321, t322⟩, A500, H⟩ := H
                   replace H : (if t322 = true then ((laws_rAbs.f t320).bind fun t323 => (if t323 = t293 then ((spec_DrawIsUpright.f kj8 l0).bind fun bt324 => ((impl_IsUpright.f kj8 bt324.1 bt324.2).bind fun bt328 => ((spec_IsUpright.f kj8 bt324.1 bt324.2).bind fun bt330 => (if (bt328.1 == bt330.1) = true then (some (bt328.2 == bt330.2)) else (none))))) else (none))) else (none)) = some r := H
                   have A50 := Aside0.mk A500
                   clear A500
                   by_cases c51 : t322 = true
                   ·subst c51
                    have H1 : ((laws_rAbs.f t320).bind fun t323 => (if t323 = t293 then ((spec_DrawIsUpright.f kj8 l0).bind fun bt324 => ((impl_IsUpright.f kj8 bt324.1 bt324.2).bind fun bt328 => ((spec_IsUpright.f kj8 bt324.1 bt324.2).bind fun bt330 => (if (bt328.1 == bt330.1) = true then (some (bt328.2 == bt330.2)) else (none))))) else (none))) = some r := by rw [if_pos rfl] at H; exact H
                    clear H
                    have H := H1
                    clear H1
                    replace H := Option.bind_eq_some_iff.mp H
                    obtain ⟨t323, A520, H⟩ := H
                    replace H : (if t323 = t293 then ((spec_DrawIsUpright.f kj8 l0).bind fun bt324 => ((impl_IsUpright.f kj8 bt324.1 bt324.2).bind fun bt328 => ((spec_IsUpright.f kj8 bt324.1 bt324.2).bind fun bt330 => (if (bt328.1 == bt330.1) = true then (some (bt328.2 == bt330.2)) else (none))))) else (none)) = some r := H
                    have A52 := Aside0.mk A520
                    clear A520
                    by_cases c53 : t323 = t293
                    ·rw [if_pos c53] at H
                     have c53b0 : (t323 == t293) = true := beq_iff_eq.mpr c53
                     have c53b1 : (t323 != t293) = false := bne_eq_false_iff_eq.mpr c53
                     clear c53
                     replace H := Option.bind_eq_some_iff.mp H
                     obtain ⟨⟨t324, t325⟩, A540, H⟩ := H
                     replace H : ((impl_IsUpright.f kj8 t324 t325).bind fun bt328 => ((spec_IsUpright.f kj8 t324 t325).bind fun bt330 => (if (bt328.1 == bt330.1) = true then (some (bt328.2 == bt330.2)) else (none)))) = some r := H
                     have A54 := Aside0.mk A540
                     clear A540
                     replace H := Option.bind_eq_some_iff.mp H
                     obtain ⟨⟨t328, t329⟩, A550, H⟩ := H
                     replace H : ((spec_IsUpright.f kj8 t324 t325).bind fun bt330 => (if (t328 == bt330.1) = true then (some (t329 == bt330.2)) else (none))) = some r := H
                     have A55 := Aside0.mk A550
                     clear A550
                     replace H := Option.bind_eq_some_iff.mp H
                     obtain ⟨⟨t330, t331⟩, A560, H⟩ := H
                     replace H : (if (t328 == t330) = true then (some (t329 == t331)) else (none)) = some r := H
                     have A56 := Aside0.mk A560
                     clear A560
                     by_cases c57 : (t328 == t330) = true
                     ·rw [if_pos c57] at H
                      have c57b0 : (t328 == t330) = true := c57
                      (try (have c57b1 : decide (t328 = t330) = true := by simpa using c57))
                      (try (have c57b2 : (t328 == t330) = true := by simpa using c57))
                      clear c57
                      obtain rfl := Option.some.inj H
                      try go_wp2_with (first | ((with_reducible refine gate_callee (f := 11) rfl ?_); refine goesL_ (some 126) rfl rfl Try.func11 (by kernel_rfl) rfl #[.slice A0 l0.length c0] rfl gmp ?_; (with_reducible refine (spec_DrawBestSwap.calls kj8 _ _ l0 t289 _ ?side1 ?side2 A31.out).mono ?_); (case side1 => exact cdl (Kd.C_below HR0.out HB.out)); (case side2 => exact HC0.out); rintro e w58 ⟨v290, rfl, ho0, hb⟩; refine ⟨_, rfl, ?_⟩; have n0_ := Aside0.mk (Kd.R_lower ho0 (below_size (bel HB))); have n1_ := Aside0.mk (below_step (bel HB) hb); clear HB; have HO291 := n0_; have HB := n1_; clear n0_ n1_; (try clear hb); (try clear hb2); (try clear hk); (try clear hi); (try clear ho0); obtain ⟨Ao59, co59, eo59⟩ := Kd.R_slice HO291.out; subst eo59) | ((with_reducible refine gate_callee (f := 12) rfl ?_); refine goesL_ (some 129) rfl rfl Try.func12 (by kernel_rfl) rfl #[.slice Ao59 t289.length co59] rfl gmp ?_; (with_reducible refine (impl_BestSwap.calls kj8 _ _ t289 t292 t293 true _ ?side1 ?side2 A32.out).mono ?_); (case side1 => repeat (first | exact (Kd.R_reads' HO291.out).2.2 | (with_reducible refine Kd.C_alloc ?_ _) | (with_reducible refine Kd.C_drewN ?_ _) | (with_reducible refine Kd.C_drew ?_))); (case side2 => exact (Kd.R_reads' HO291.out).2.1); rintro e w60 ⟨v295, rfl, ho0, hb⟩; refine ⟨_, rfl, ?_⟩; have n0_ := Aside0.mk (Kd.R_below (rdl HO291) hb); have n1_ := Aside0.mk (Kd.R_lower ho0 (below_size (bel HB))); have n2_ := Aside0.mk (below_step (bel HB) hb); clear HO291; clear HB; have HO291 := n0_; have HO296 := n1_; have HB := n2_; clear n0_ n1_ n2_; (try clear hb); (try clear hb2); (try clear hk); (try clear hi); (try clear ho0)) | ((with_reducible refine gate_callee (f := 13) rfl ?_); refine goesL_ (some 135) rfl rfl Try.func13 (by kernel_rfl) rfl #[.slice Ao59 t289.length co59] rfl gmp ?_; (with_reducible refine (spec_BestSwap.calls kj8 _ _ t289 t297 t298 t299 _ ?side1 ?side2 A33.out).mono ?_); (case side1 => repeat (first | exact (Kd.R_reads' HO291.out).2.2 | (with_reducible refine Kd.C_alloc ?_ _) | (with_reducible refine Kd.C_drewN ?_ _) | (with_reducible refine Kd.C_drew ?_))); (case side2 => exact (Kd.R_reads' HO291.out).2.1); rintro e w61 ⟨v300, rfl, ho0, hb⟩; refine ⟨_, rfl, ?_⟩; have n0_ := Aside0.mk (Kd.R_below (rdl HO291) hb); have n1_ := Aside0.mk (Kd.R_elder' (rdl HO296) (Kd.R_base ho0) hb); have n2_ := Aside0.mk (Kd.R_lower (Kd.R_new' ho0 (Kd.R_lt (rdl HO296))) (below_size (bel HB))); have n3_ := Aside0.mk (below_step (bel HB) hb); clear HO291; clear HO296; clear HB; have HO291 := n0_; have HO296 := n1_; have HO301 := n2_; have HB := n3_; clear n0_ n1_ n2_ n3_; (try clear hb); (try clear hb2); (try clear hk); (try clear hi); (try clear ho0); obtain ⟨Ao62, co62, eo62⟩ := Kd.R_slice HO296.out; subst eo62; obtain ⟨Ao63, co63, eo63⟩ := Kd.R_slice HO301.out; subst eo63) | (go_at_call 14; (with_reducible refine (laws_rInts.calls kj8 _ _ t292 _ _ t297 true _ ?side1 ?side2 ?side3 ?side4 A36.out).mono ?_); (case side1 => repeat (first | exact (Kd.R_reads' HO296.out).2.2 | (with_reducible refine Kd.C_alloc ?_ _) | (with_reducible refine Kd.C_drewN ?_ _) | (with_reducible refine Kd.C_drew ?_))); (case side2 => exact (Kd.R_reads' HO296.out).2.1); (case side3 => repeat (first | exact (Kd.R_reads' HO301.out).2.2 | (with_reducible refine Kd.C_alloc ?_ _) | (with_reducible refine Kd.C_drewN ?_ _) | (with_reducible refine Kd.C_drew ?_))); (case side4 => exact (Kd.R_reads' HO301.out).2.1); rintro e w' ⟨rfl, ⟨nd, rfl⟩⟩; (try (rw [drewN_self w61]; generalize hq_ : World.drewN w61 _ = w61; have n0_ : Aside0 (Kd.R k38 38 w61 w.heap.size (fun _ => True) (.slice Ao59 t289.length co59) t289) := ⟨by rw [← hq_]; exact (rdl HO291)⟩; have n1_ : Aside0 (Kd.R (Kd.int .i64) 3 w61 w.heap.size (fun k_ => some k_ ≠ (.slice Ao63 t297.length co63 : Value).ownBlock) (.slice Ao62 t292.length co62) t292) := ⟨by rw [← hq_]; exact (by (with_reducible repeat (first | apply Kd.R_alloc | apply Kd.R_drewN | apply Kd.R_drew)); exact Kd.R_mono HO296.out (fun _ hk => by first | exact hk.2 | exact hk))⟩; have n2_ : Aside0 (Kd.R (Kd.int .i64) 3 w61 w.heap.size (fun k_ => some k_ ≠ (.slice Ao62 t292.length co62 : Value).ownBlock) (.slice Ao63 t297.length co63) t297) := ⟨by rw [← hq_]; exact (by (with_reducible repeat (first | apply Kd.R_alloc | apply Kd.R_drewN | apply Kd.R_drew)); exact Kd.R_mono HO301.out (fun _ hk => by first | exact hk.2 | exact hk))⟩; have n3_ : Aside0 (Below w.heap.size w w61) := ⟨by rw [← hq_]; exact (bel HB)⟩; clear HO291 HO296 HO301 HB hq_; have HO291 := n0_; have HO296 := n1_; have HO301 := n2_; have HB := n3_; clear n0_ n1_ n2_ n3_))) | ((with_reducible refine gate_dst (N := 154) rfl ?_); refine Kd.R_lit k38 _ 38 ?hg (N := 154) ?hd (xs := ([] : List (S38))) (inner := []) (ok := fun _ => True) (okp := fun _ => True) ?hr ?hp (fun _ hk => hk) trivial (Below.refl _ _) (Nat.le_refl _) (by simp) ?_; (case hd => rfl); (case hg => rfl); (case hr => first | (go_simp; done) | (go_simp; rfl)); (case hp => exact (Reps.none _ _)); intro v304 w64 ho65 hb hg_ hnew_; clear hg_ hnew_; (first | rw [← Ny303.out] at ho65 | (simp only [Int.reduceToNat] at ho65; rw [← Ny303.out] at ho65)); have n0_ := Aside0.mk (Kd.R_elder' (rdl HO291) (Kd.R_base ho65) hb); have n1_ := Aside0.mk (Kd.R_below (rdl HO296) hb); have n2_ := Aside0.mk (Kd.R_below (rdl HO301) hb); have n3_ := Aside0.mk (Kd.R_lower (Kd.R_new' ho65 (Kd.R_lt (rdl HO291))) (below_size (bel HB))); have n4_ := Aside0.mk (below_step (bel HB) hb); clear HO291; clear HO296; clear HO301; clear HB; have HO291 := n0_; have HO296 := n1_; have HO301 := n2_; have HO305 := n3_; have HB := n4_; clear n0_ n1_ n2_ n3_ n4_; clear hb ho65) | ((with_reducible refine gate_builtin (b := .append) (xs := #[.tmp 154, .tmp 155]) rfl ?_); at_builtin; refine Kd.R_append_rows k38 (w0 := w) w.heap.size rfl (.tmp 154) (.tmp 155) 24 38 (.agg #[(.int .i64 0), (.int .i64 0), (.int .i64 0)]) 24 rfl Try.underlying24 info38 rfl (by decide) (by omega) v304 y303 t289 _ _ _ (fun k_ => some k_ ≠ (.slice Ao59 t289.length co59 : Value).ownBlock) (fun _ => False) rfl rfl ?aO ?aR (fun _ _ h => h) (fun _ h => h.elim) ?aF ?aB ?aS ?aL ?_; (case aR => repeat (first | exact (Kd.R_reads' HO291.out).2.2 | (with_reducible refine Kd.C_alloc ?_ _) | (with_reducible refine Kd.C_drewN ?_ _) | (with_reducible refine Kd.C_drew ?_))); (case aB => exact (bel HB)); (case aF => exact (fun k_ hk => Kd.fresh' (Kd.R_lt (rdl HO291)) k_ hk)); (case aO => exact (by (with_reducible repeat (first | apply Kd.R_alloc | apply Kd.R_drewN | apply Kd.R_drew)); exact Kd.R_mono HO305.out (fun _ hk => by first | exact hk.2 | exact hk))); (case aS => exact (below_size (bel HB))); (case aL => have := LMc39.out; omega); intro v307 w66 ho hb hg hat; rw [← Ny306.out] at ho; have n0_ := Aside0.mk (Kd.R_after (ok := (fun _ => True)) (rdl HO291) hg hat); have n1_ := Aside0.mk (Kd.R_over' (rdl HO296) (Kd.R_typed (rdl HO305)) (by decide) hg); have n2_ := Aside0.mk (Kd.R_over' (rdl HO301) (Kd.R_typed (rdl HO305)) (by decide) hg); have n3_ := Aside0.mk (hb); have n4_ := Aside0.mk (ho); clear HO291; clear HO296; clear HO301; clear HB; clear HO305; have HO291 := n0_; have HO296 := n1_; have HO301 := n2_; have HB := n3_; have HO308 := n4_; clear n0_ n1_ n2_ n3_ n4_; clear ho hb hg hat))
                      have n0_ := Aside0.mk (Kd.R_drew HO291.out)
                      have n1_ := Aside0.mk (Kd.R_drew HO296.out)
                      have n2_ := Aside0.mk (Kd.R_drew HO301.out)
                      have n3_ := Aside0.mk (Kd.R_drew HO308.out)
                      have n4_ := Aside0.mk (below_drew1 HB.out)
                      clear HO291
                      clear HO296
                      clear HO301
                      clear HO308
                      clear HB
                      have HO291 := n0_
                      have HO296 := n1_
                      have HO301 := n2_
                      have HO308 := n3_
                      have HB := n4_
                      clear n0_ n1_ n2_ n3_ n4_
                      have p309 : 0 ≤ (0 : Int) := (by omega)
                      have q309 : 0 < (t292.length : Int) := oda
                      obtain ⟨ad309, e309, hx309_0⟩ := Kd.at_int (Kd.R_reads' HO296.out).2.2 0 p309 q309
                      cases e309
                      have qi309 : (0 < t292.length) = True := eq_true (by omega)
                      (try rw [show ((0 : Int)).toNat = 0 from rfl] at hx309_0)
                      (try rw [Addr.add_zero'] at hx309_0)
                      replace p309 := eq_true p309
                      replace q309 := eq_true q309
                      have p310 : 0 ≤ ((rd t292 0) : Int) := oda
                      have q310 : (rd t292 0) < (t289.length : Int) := oda
                      obtain ⟨ad310, e310, hx310_0, hx310_1, hx310_2⟩ := at_T38 (Kd.R_reads' HO291.out).2.2 (rd t292 0) p310 q310
                      cases e310
                      replace p310 := eq_true p310
                      replace q310 := eq_true q310
                      have p311 : 0 ≤ (1 : Int) := (by omega)
                      have q311 : 1 < (t292.length : Int) := oda
                      obtain ⟨ad311, e311, hx311_0⟩ := Kd.at_int (Kd.R_reads' HO296.out).2.2 1 p311 q311
                      obtain rfl : ad309 = ad311 := (by injection e311)
                      (try simp only [show (1 : Int).toNat = 1 from rfl, Nat.reduceMul, Nat.reduceEqDiff, Go.Addr.add, ↓reduceIte] at hx311_0)
                      have qi311 : (1 < t292.length) = True := eq_true (by omega)
                      (try rw [show ((1 : Int)).toNat = 1 from rfl] at hx311_0)
                      replace p311 := eq_true p311
                      replace q311 := eq_true q311
                      have p312 : 0 ≤ ((rd t292 1) : Int) := oda
                      have q312 : (rd t292 1) < (t289.length : Int) := oda
                      obtain ⟨ad312, e312, hx312_0, hx312_1, hx312_2⟩ := at_T38 (Kd.R_reads' HO291.out).2.2 (rd t292 1) p312 q312
                      obtain rfl : ad310 = ad312 := (by injection e312)
                      replace p312 := eq_true p312
                      replace q312 := eq_true q312
                      refine start_ (n := 16) (S := fun w' => w'.cell? ad309 = some (.int .i64 (rd t292 0)) ∧ w'.cell? (ad310.add (((rd t292 0)).toNat * 3)) = some (.int .i64 ((rd_T38 t289 (rd t292 0)).f0)) ∧ w'.cell? ⟨(ad310.add (((rd t292 0)).toNat * 3)).block, (ad310.add (((rd t292 0)).toNat * 3)).off + 1, none⟩ = some (.int .i64 ((rd_T38 t289 (rd t292 0)).f1)) ∧ w'.cell? ⟨(ad310.add (((rd t292 0)).toNat * 3)).block, (ad310.add (((rd t292 0)).toNat * 3)).off + 2, none⟩ = some (.int .i64 ((rd_T38 t289 (rd t292 0)).f2)) ∧ w'.cell? ⟨ad309.block, ad309.off + 1, none⟩ = some (.int .i64 (rd t292 1)) ∧ w'.cell? (ad310.add (((rd t292 1)).toNat * 3)) = some (.int .i64 ((rd_T38 t289 (rd t292 1)).f0)) ∧ w'.cell? ⟨(ad310.add (((rd t292 1)).toNat * 3)).block, (ad310.add (((rd t292 1)).toNat * 3)).off + 1, none⟩ = some (.int .i64 ((rd_T38 t289 (rd t292 1)).f1)) ∧ w'.cell? ⟨(ad310.add (((rd t292 1)).toNat * 3)).block, (ad310.add (((rd t292 1)).toNat * 3)).off + 2, none⟩ = some (.int .i64 ((rd_T38 t289 (rd t292 1)).f2))) (ds := []) #[false, false, false, false, false, false, false, false, false, false, false, false, false, false, false, false] (by kernel_rfl) rfl rfl ⟨hx309_0, hx310_0, hx310_1, hx310_2, hx311_0, hx312_0, hx312_1, hx312_2⟩ (fun hHeld => ?_); refine with_tabW laws_FnBallast.tab22 laws_FnBallast.bits22 (fun HT_ HW_ => ?_)
                      generalize w66.drew = w67 at HO291 HO296 HO301 HO308 HB hx309_0 hx310_0 hx310_1 hx310_2 hx311_0 hx312_0 hx312_1 hx312_2 hHeld ⊢
                      refine pure_ (i := 0) (N := some 157) (v := ?_) (a' := ?_) #[true, false, false, false, false, false, false, false, false, false, false, false, false, false, false, false] rfl rfl (any_of HT_.out (by kernel_rfl)) (fun _ _ _ h => h) (Or.inl ⟨by rfl, ?_⟩) ?_ ?_
                      rotate_left
                      ·intro w'
                       go_simp
                       with_reducible rfl
                      rotate_left
                      ·simp only [Act.put, List.setIfInBounds_toArray, List.set_cons_zero, List.set_cons_succ, i64_w, i32_w]
                       rfl
                      refine pure_ (i := 1) (N := some 158) (v := ?_) (a' := ?_) #[true, true, false, false, false, false, false, false, false, false, false, false, false, false, false, false] rfl rfl (any_of HT_.out (by kernel_rfl)) (fun _ _ _ h => h) (Or.inl ⟨by rfl, ?_⟩) ?_ ?_
                      rotate_left
                      ·intro w'
                       go_simp
                       with_reducible rfl
                      rotate_left
                      ·simp only [Act.put, List.setIfInBounds_toArray, List.set_cons_zero, List.set_cons_succ, i64_w, i32_w]
                       rfl
                      refine pure_ (i := 2) (N := some 159) (v := ?_) (a' := ?_) #[true, true, true, false, false, false, false, false, false, false, false, false, false, false, false, false] rfl rfl (any_of HT_.out (by kernel_rfl)) (fun _ _ _ h => h) (Or.inl ⟨by rfl, ?_⟩) ?_ ?_
                      rotate_left
                      ·intro w'
                       go_simp
                       with_reducible rfl
                      rotate_left
                      ·simp only [Act.put, List.setIfInBounds_toArray, List.set_cons_zero, List.set_cons_succ, i64_w, i32_w]
                       rfl
                      refine pure_ (i := 6) (N := some 163) (v := ?_) (a' := ?_) #[true, true, true, false, false, false, true, false, false, false, false, false, false, false, false, false] rfl rfl (any_of HT_.out (by kernel_rfl)) (fun _ _ _ h => h) (Or.inl ⟨by rfl, ?_⟩) ?_ ?_
                      rotate_left
                      ·intro w'
                       go_simp
                       with_reducible rfl
                      rotate_left
                      ·simp only [Act.put, List.setIfInBounds_toArray, List.set_cons_zero, List.set_cons_succ, i64_w, i32_w]
                       rfl
                      refine pure_ (i := 7) (N := some 164) (v := ?_) (a' := ?_) #[true, true, true, false, false, false, true, true, false, false, false, false, false, false, false, false] rfl rfl (any_of HT_.out (by kernel_rfl)) (fun _ _ _ h => h) (Or.inl ⟨by rfl, ?_⟩) ?_ ?_
                      rotate_left
                      ·intro w'
                       go_simp
                       with_reducible rfl
                      rotate_left
                      ·simp only [Act.put, List.setIfInBounds_toArray, List.set_cons_zero, List.set_cons_succ, i64_w, i32_w]
                       rfl
                      refine pure_ (i := 8) (N := some 165) (v := ?_) (a' := ?_) #[true, true, true, false, false, false, true, true, true, false, false, false, false, false, false, false] rfl rfl (any_of HT_.out (by kernel_rfl)) (fun _ _ _ h => h) (Or.inl ⟨by rfl, ?_⟩) ?_ ?_
                      rotate_left
                      ·intro w'
                       go_simp
                       with_reducible rfl
                      rotate_left
                      ·simp only [Act.put, List.setIfInBounds_toArray, List.set_cons_zero, List.set_cons_succ, i64_w, i32_w]
                       rfl
                      refine take_ (i := 3) (N := some 160) (v := ?_) (a' := ?_) #[true, true, true, true, false, false, true, true, true, false, false, false, false, false, false, false] rfl rfl (take_ofW HT_.out HW_.out (by kernel_rfl)) (fun _ _ _ h => h) (Or.inl ⟨by rfl, ?_⟩) hHeld ?_ ?_
                      rotate_left
                      ·rintro w' ⟨s0, s1, s2, s3, s4, s5, s6, s7⟩
                       go_simp
                       with_reducible rfl
                      rotate_left
                      ·simp only [Act.put, List.setIfInBounds_toArray, List.set_cons_zero, List.set_cons_succ, i64_w, i32_w]
                       rfl
                      refine pure_ (i := 4) (N := some 161) (v := ?_) (a' := ?_) #[true, true, true, true, true, false, true, true, true, false, false, false, false, false, false, false] rfl rfl (any_of HT_.out (by kernel_rfl)) (fun _ _ _ h => h) (Or.inl ⟨by rfl, ?_⟩) ?_ ?_
                      rotate_left
                      ·intro w'
                       go_simp
                       with_reducible rfl
                      rotate_left
                      ·simp only [Act.put, List.setIfInBounds_toArray, List.set_cons_zero, List.set_cons_succ, i64_w, i32_w]
                       rfl
                      refine take_ (i := 5) (N := some 162) (v := ?_) (a' := ?_) #[true, true, true, true, true, true, true, true, true, false, false, false, false, false, false, false] rfl rfl (take_ofW HT_.out HW_.out (by kernel_rfl)) (fun _ _ _ h => h) (Or.inl ⟨by rfl, ?_⟩) hHeld ?_ ?_
                      rotate_left
                      ·rintro w' ⟨s0, s1, s2, s3, s4, s5, s6, s7⟩
                       go_simp
                       with_reducible rfl
                      rotate_left
                      ·simp only [Act.put, List.setIfInBounds_toArray, List.set_cons_zero, List.set_cons_succ, i64_w, i32_w]
                       rfl
                      refine take_ (i := 9) (N := some 166) (v := ?_) (a' := ?_) #[true, true, true, true, true, true, true, true, true, true, false, false, false, false, false, false] rfl rfl (take_ofW HT_.out HW_.out (by kernel_rfl)) (fun _ _ _ h => h) (Or.inl ⟨by rfl, ?_⟩) hHeld ?_ ?_
                      rotate_left
                      ·rintro w' ⟨s0, s1, s2, s3, s4, s5, s6, s7⟩
                       go_simp
                       with_reducible rfl
                      rotate_left
                      ·simp only [Act.put, List.setIfInBounds_toArray, List.set_cons_zero, List.set_cons_succ, i64_w, i32_w]
                       rfl
                      refine pure_ (i := 10) (N := some 167) (v := ?_) (a' := ?_) #[true, true, true, true, true, true, true, true, true, true, true, false, false, false, false, false] rfl rfl (any_of HT_.out (by kernel_rfl)) (fun _ _ _ h => h) (Or.inl ⟨by rfl, ?_⟩) ?_ ?_
                      rotate_left
                      ·intro w'
                       go_simp
                       with_reducible rfl
                      rotate_left
                      ·simp only [Act.put, List.setIfInBounds_toArray, List.set_cons_zero, List.set_cons_succ, i64_w, i32_w]
                       rfl
                      refine take_ (i := 11) (N := some 168) (v := ?_) (a' := ?_) #[true, true, true, true, true, true, true, true, true, true, true, true, false, false, false, false] rfl rfl (take_ofW HT_.out HW_.out (by kernel_rfl)) (fun _ _ _ h => h) (Or.inl ⟨by rfl, ?_⟩) hHeld ?_ ?_
                      rotate_left
                      ·rintro w' ⟨s0, s1, s2, s3, s4, s5, s6, s7⟩
                       go_simp
                       with_reducible rfl
                      rotate_left
                      ·simp only [Act.put, List.setIfInBounds_toArray, List.set_cons_zero, List.set_cons_succ, i64_w, i32_w]
                       rfl
                      refine join_ (σ := Nat × Nat) 2 #[true, true, true, true, true, true, true, true, true, true, true, true, true, true, false, false] (fun s_ => [(23, .pointer (some ⟨s_.1, 0, none⟩)), (24, .pointer (some ⟨s_.2, 0, none⟩))]) (fun s_ w' => (w'.cell? ad309 = some (.int .i64 (rd t292 0)) ∧ w'.cell? (ad310.add (((rd t292 0)).toNat * 3)) = some (.int .i64 ((rd_T38 t289 (rd t292 0)).f0)) ∧ w'.cell? ⟨(ad310.add (((rd t292 0)).toNat * 3)).block, (ad310.add (((rd t292 0)).toNat * 3)).off + 1, none⟩ = some (.int .i64 ((rd_T38 t289 (rd t292 0)).f1)) ∧ w'.cell? ⟨(ad310.add (((rd t292 0)).toNat * 3)).block, (ad310.add (((rd t292 0)).toNat * 3)).off + 2, none⟩ = some (.int .i64 ((rd_T38 t289 (rd t292 0)).f2)) ∧ w'.cell? ⟨ad309.block, ad309.off + 1, none⟩ = some (.int .i64 (rd t292 1)) ∧ w'.cell? (ad310.add (((rd t292 1)).toNat * 3)) = some (.int .i64 ((rd_T38 t289 (rd t292 1)).f0)) ∧ w'.cell? ⟨(ad310.add (((rd t292 1)).toNat * 3)).block, (ad310.add (((rd t292 1)).toNat * 3)).off + 1, none⟩ = some (.int .i64 ((rd_T38 t289 (rd t292 1)).f1)) ∧ w'.cell? ⟨(ad310.add (((rd t292 1)).toNat * 3)).block, (ad310.add (((rd t292 1)).toNat * 3)).off + 2, none⟩ = some (.int .i64 ((rd_T38 t289 (rd t292 1)).f2))) ∧ (Kd.R k38 38 w' w.heap.size (fun k_ => some k_ ≠ (v307 : Value).ownBlock ∧ k_ ≠ s_.1 ∧ k_ ≠ s_.2) (.slice (some ad310) t289.length co59) t289) ∧ (Kd.R (Kd.int .i64) 3 w' w.heap.size (fun k_ => some k_ ≠ (.slice Ao63 t297.length co63 : Value).ownBlock) (.slice (some ad309) t292.length co62) t292) ∧ (Kd.R (Kd.int .i64) 3 w' w.heap.size (fun k_ => some k_ ≠ (.slice (some ad309) t292.length co62 : Value).ownBlock) (.slice Ao63 t297.length co63) t297) ∧ (Kd.R k38 38 w' w.heap.size (fun k_ => some k_ ≠ (.slice (some ad310) t289.length co59 : Value).ownBlock ∧ k_ ≠ s_.1 ∧ k_ ≠ s_.2) v307 y306) ∧ (w'.heap[s_.1]? = some (.cells #[.int .i64 0, .int .i64 0, .int .i64 0] 38 (0, 0))) ∧ (w'.heap[s_.2]? = some (.cells #[.int .i64 0, .int .i64 0, .int .i64 0] 38 (0, 0))) ∧ (w.heap.size ≤ s_.1) ∧ (w.heap.size ≤ s_.1) ∧ (s_.2 ≠ s_.1) ∧ (s_.1 ≠ s_.2) ∧ (w.heap.size ≤ s_.2) ∧ (w.heap.size ≤ s_.2) ∧ (Below w.heap.size w w')) ?_ ?_
                      rotate_left
                      ·intro hCont
                       refine two_ (i := 12) (j := 13) (Ni := some 23) (Nj := some 24) #[true, true, true, true, true, true, true, true, true, true, true, true, true, false, false, false] #[true, true, true, true, true, true, true, true, true, true, true, true, false, true, false, false] rfl rfl rfl rfl (two_of HT_.out (by kernel_rfl)) (by decide) (by decide) (fun K hK => ?_) (fun K hK => ?_)
                       ·skip
                        refine box_step ?hg (N := 23) ?hd (cs := #[.int .i64 0, .int .i64 0, .int .i64 0]) (t := 38) ?hr ?_; (case hd => rfl); (case hg => rfl); (case hr => first | (go_simp; done) | (go_simp; rfl))
                        intro gb313 hg w68 hbox hb
                        have HS0_ := (hb.cell (World.block_lt_of_cell? _ _ (hHeld.1))).trans (hHeld.1)
                        have HS1_ := (hb.cell (World.block_lt_of_cell? _ _ (hHeld.2.1))).trans (hHeld.2.1)
                        have HS2_ := (hb.cell (World.block_lt_of_cell? _ _ (hHeld.2.2.1))).trans (hHeld.2.2.1)
                        have HS3_ := (hb.cell (World.block_lt_of_cell? _ _ (hHeld.2.2.2.1))).trans (hHeld.2.2.2.1)
                        have HS4_ := (hb.cell (World.block_lt_of_cell? _ _ (hHeld.2.2.2.2.1))).trans (hHeld.2.2.2.2.1)
                        have HS5_ := (hb.cell (World.block_lt_of_cell? _ _ (hHeld.2.2.2.2.2.1))).trans (hHeld.2.2.2.2.2.1)
                        have HS6_ := (hb.cell (World.block_lt_of_cell? _ _ (hHeld.2.2.2.2.2.2.1))).trans (hHeld.2.2.2.2.2.2.1)
                        have HS7_ := (hb.cell (World.block_lt_of_cell? _ _ (hHeld.2.2.2.2.2.2.2))).trans (hHeld.2.2.2.2.2.2.2)
                        have n0_ := Aside0.mk (Kd.R_below (Kd.R_elderB (rdl HO291) gb313 (Nat.le_of_eq hg.symm)) hb)
                        have n1_ := Aside0.mk (Kd.R_below (rdl HO296) hb)
                        have n2_ := Aside0.mk (Kd.R_below (rdl HO301) hb)
                        have n3_ := Aside0.mk (Kd.R_below (Kd.R_elderB (rdl HO308) gb313 (Nat.le_of_eq hg.symm)) hb)
                        have n4_ := Aside0.mk (below_step (bel HB) hb)
                        have n5_ := Aside0.mk (hbox)
                        have n6_ := Aside0.mk ((by rw [hg]; exact (below_size (bel HB)) : w.heap.size ≤ gb313))
                        have n7_ := Aside0.mk ((by rw [hg]; exact (below_size (bel HB)) : w.heap.size ≤ gb313))
                        clear HO291
                        clear HO296
                        clear HO301
                        clear HO308
                        clear HB
                        have HO291 := n0_
                        have HO296 := n1_
                        have HO301 := n2_
                        have HO308 := n3_
                        have HB := n4_
                        have BK313 := n5_
                        have GW313 := n6_
                        have GE313 := n7_
                        clear n0_ n1_ n2_ n3_ n4_ n5_ n6_ n7_
                        clear hb hbox hg
                        refine hK.out _ _ ⟨HS0_, HS1_, HS2_, HS3_, HS4_, HS5_, HS6_, HS7_⟩ (fun hHeld => ?_)
                        clear hK K
                        refine norm_ (a' := ?_) ?_ ?_
                        rotate_left
                        ·show Act.put _ (some 23) _ = _
                         simp only [Act.put, List.setIfInBounds_toArray, List.set_cons_zero, List.set_cons_succ, i64_w, i32_w]
                         rfl
                        refine one_ (i := 13) (N := some 24) #[true, true, true, true, true, true, true, true, true, true, true, true, true, true, false, false] rfl rfl (one_of HT_.out (by kernel_rfl)) (by decide) (fun K hK => ?_)
                        refine box_step ?hg (N := 24) ?hd (cs := #[.int .i64 0, .int .i64 0, .int .i64 0]) (t := 38) ?hr ?_; (case hd => rfl); (case hg => rfl); (case hr => first | (go_simp; done) | (go_simp; rfl))
                        intro gb314 hg w69 hbox hb
                        have HS0_ := (hb.cell (World.block_lt_of_cell? _ _ (hHeld.1))).trans (hHeld.1)
                        have HS1_ := (hb.cell (World.block_lt_of_cell? _ _ (hHeld.2.1))).trans (hHeld.2.1)
                        have HS2_ := (hb.cell (World.block_lt_of_cell? _ _ (hHeld.2.2.1))).trans (hHeld.2.2.1)
                        have HS3_ := (hb.cell (World.block_lt_of_cell? _ _ (hHeld.2.2.2.1))).trans (hHeld.2.2.2.1)
                        have HS4_ := (hb.cell (World.block_lt_of_cell? _ _ (hHeld.2.2.2.2.1))).trans (hHeld.2.2.2.2.1)
                        have HS5_ := (hb.cell (World.block_lt_of_cell? _ _ (hHeld.2.2.2.2.2.1))).trans (hHeld.2.2.2.2.2.1)
                        have HS6_ := (hb.cell (World.block_lt_of_cell? _ _ (hHeld.2.2.2.2.2.2.1))).trans (hHeld.2.2.2.2.2.2.1)
                        have HS7_ := (hb.cell (World.block_lt_of_cell? _ _ (hHeld.2.2.2.2.2.2.2))).trans (hHeld.2.2.2.2.2.2.2)
                        have n0_ := Aside0.mk (Kd.R_below (Kd.R_elderB (rdl HO291) gb314 (Nat.le_of_eq hg.symm)) hb)
                        have n1_ := Aside0.mk (Kd.R_below (rdl HO296) hb)
                        have n2_ := Aside0.mk (Kd.R_below (rdl HO301) hb)
                        have n3_ := Aside0.mk (Kd.R_below (Kd.R_elderB (rdl HO308) gb314 (Nat.le_of_eq hg.symm)) hb)
                        have n4_ := Aside0.mk (blk_below (g := gb313) (o := .cells #[.int .i64 0, .int .i64 0, .int .i64 0] 38 (0, 0)) (bkl BK313) hb)
                        have n5_ := Aside0.mk (below_step (bel1 HB GE313) hb)
                        have n6_ := Aside0.mk (hbox)
                        have n7_ := Aside0.mk ((by rw [hg]; exact (below_size (bel1 HB GE313)) : w.heap.size ≤ gb314))
                        have n8_ := Aside0.mk ((by rw [hg]; exact (below_size (bel1 HB GE313)) : w.heap.size ≤ gb314))
                        have n9_ := Aside0.mk ((by rw [hg]; exact Nat.ne_of_lt (blk_lt (g := gb313) (o := .cells #[.int .i64 0, .int .i64 0, .int .i64 0] 38 (0, 0)) (bkl BK313)) : gb313 ≠ gb314))
                        have n10_ := Aside0.mk ((by rw [hg]; exact Nat.ne_of_gt (blk_lt (g := gb313) (o := .cells #[.int .i64 0, .int .i64 0, .int .i64 0] 38 (0, 0)) (bkl BK313)) : gb314 ≠ gb313))
                        clear HO291
                        clear HO296
                        clear HO301
                        clear HO308
                        clear BK313
                        clear HB
                        have HO291 := n0_
                        have HO296 := n1_
                        have HO301 := n2_
                        have HO308 := n3_
                        have BK313 := n4_
                        have HB := n5_
                        have BK314 := n6_
                        have GW314 := n7_
                        have GE314 := n8_
                        have NB313_314 := n9_
                        have NB314_313 := n10_
                        clear n0_ n1_ n2_ n3_ n4_ n5_ n6_ n7_ n8_ n9_ n10_
                        clear hb hbox hg
                        refine hK.out _ _ ⟨HS0_, HS1_, HS2_, HS3_, HS4_, HS5_, HS6_, HS7_⟩ (fun hHeld => ?_)
                        clear hK K
                        refine norm_ (a' := ?_) ?_ ?_
                        rotate_left
                        ·show Act.put _ (some 24) _ = _
                         simp only [Act.put, List.setIfInBounds_toArray, List.set_cons_zero, List.set_cons_succ, i64_w, i32_w]
                         rfl
                        exact norm_ (by simp only [putAll, Act.put, List.setIfInBounds_toArray, List.set_cons_zero, List.set_cons_succ]) (hCont (gb313, gb314) _ ⟨hHeld, (by (with_reducible repeat (first | apply Kd.R_alloc | apply Kd.R_drewN | apply Kd.R_drew)); exact Kd.R_mono HO291.out (fun _ hk => ⟨hk.1.1.2, ⟨hk.1.2, hk.2⟩⟩)), (by (with_reducible repeat (first | apply Kd.R_alloc | apply Kd.R_drewN | apply Kd.R_drew)); exact Kd.R_mono HO296.out (fun _ hk => by first | exact hk.2 | exact hk)), (by (with_reducible repeat (first | apply Kd.R_alloc | apply Kd.R_drewN | apply Kd.R_drew)); exact Kd.R_mono HO301.out (fun _ hk => by first | exact hk.2 | exact hk)), (by (with_reducible repeat (first | apply Kd.R_alloc | apply Kd.R_drewN | apply Kd.R_drew)); exact Kd.R_mono HO308.out (fun _ hk => ⟨hk.1.1, ⟨hk.1.2, hk.2⟩⟩)), (bkl BK313), (bkl BK314), GW313.out, GE313.out, NB314_313.out, NB313_314.out, GW314.out, GE314.out, (bel2 HB GE313 GE314)⟩)
                       ·skip
                        refine box_step ?hg (N := 24) ?hd (cs := #[.int .i64 0, .int .i64 0, .int .i64 0]) (t := 38) ?hr ?_; (case hd => rfl); (case hg => rfl); (case hr => first | (go_simp; done) | (go_simp; rfl))
                        intro gb314 hg w68 hbox hb
                        have HS0_ := (hb.cell (World.block_lt_of_cell? _ _ (hHeld.1))).trans (hHeld.1)
                        have HS1_ := (hb.cell (World.block_lt_of_cell? _ _ (hHeld.2.1))).trans (hHeld.2.1)
                        have HS2_ := (hb.cell (World.block_lt_of_cell? _ _ (hHeld.2.2.1))).trans (hHeld.2.2.1)
                        have HS3_ := (hb.cell (World.block_lt_of_cell? _ _ (hHeld.2.2.2.1))).trans (hHeld.2.2.2.1)
                        have HS4_ := (hb.cell (World.block_lt_of_cell? _ _ (hHeld.2.2.2.2.1))).trans (hHeld.2.2.2.2.1)
                        have HS5_ := (hb.cell (World.block_lt_of_cell? _ _ (hHeld.2.2.2.2.2.1))).trans (hHeld.2.2.2.2.2.1)
                        have HS6_ := (hb.cell (World.block_lt_of_cell? _ _ (hHeld.2.2.2.2.2.2.1))).trans (hHeld.2.2.2.2.2.2.1)
                        have HS7_ := (hb.cell (World.block_lt_of_cell? _ _ (hHeld.2.2.2.2.2.2.2))).trans (hHeld.2.2.2.2.2.2.2)
                        have n0_ := Aside0.mk (Kd.R_below (Kd.R_elderB (rdl HO291) gb314 (Nat.le_of_eq hg.symm)) hb)
                        have n1_ := Aside0.mk (Kd.R_below (rdl HO296) hb)
                        have n2_ := Aside0.mk (Kd.R_below (rdl HO301) hb)
                        have n3_ := Aside0.mk (Kd.R_below (Kd.R_elderB (rdl HO308) gb314 (Nat.le_of_eq hg.symm)) hb)
                        have n4_ := Aside0.mk (below_step (bel HB) hb)
                        have n5_ := Aside0.mk (hbox)
                        have n6_ := Aside0.mk ((by rw [hg]; exact (below_size (bel HB)) : w.heap.size ≤ gb314))
                        have n7_ := Aside0.mk ((by rw [hg]; exact (below_size (bel HB)) : w.heap.size ≤ gb314))
                        clear HO291
                        clear HO296
                        clear HO301
                        clear HO308
                        clear HB
                        have HO291 := n0_
                        have HO296 := n1_
                        have HO301 := n2_
                        have HO308 := n3_
                        have HB := n4_
                        have BK314 := n5_
                        have GW314 := n6_
                        have GE314 := n7_
                        clear n0_ n1_ n2_ n3_ n4_ n5_ n6_ n7_
                        clear hb hbox hg
                        refine hK.out _ _ ⟨HS0_, HS1_, HS2_, HS3_, HS4_, HS5_, HS6_, HS7_⟩ (fun hHeld => ?_)
                        clear hK K
                        refine norm_ (a' := ?_) ?_ ?_
                        rotate_left
                        ·show Act.put _ (some 24) _ = _
                         simp only [Act.put, List.setIfInBounds_toArray, List.set_cons_zero, List.set_cons_succ, i64_w, i32_w]
                         rfl
                        refine one_ (i := 12) (N := some 23) #[true, true, true, true, true, true, true, true, true, true, true, true, true, true, false, false] rfl rfl (one_of HT_.out (by kernel_rfl)) (by decide) (fun K hK => ?_)
                        refine box_step ?hg (N := 23) ?hd (cs := #[.int .i64 0, .int .i64 0, .int .i64 0]) (t := 38) ?hr ?_; (case hd => rfl); (case hg => rfl); (case hr => first | (go_simp; done) | (go_simp; rfl))
                        intro gb313 hg w69 hbox hb
                        have HS0_ := (hb.cell (World.block_lt_of_cell? _ _ (hHeld.1))).trans (hHeld.1)
                        have HS1_ := (hb.cell (World.block_lt_of_cell? _ _ (hHeld.2.1))).trans (hHeld.2.1)
                        have HS2_ := (hb.cell (World.block_lt_of_cell? _ _ (hHeld.2.2.1))).trans (hHeld.2.2.1)
                        have HS3_ := (hb.cell (World.block_lt_of_cell? _ _ (hHeld.2.2.2.1))).trans (hHeld.2.2.2.1)
                        have HS4_ := (hb.cell (World.block_lt_of_cell? _ _ (hHeld.2.2.2.2.1))).trans (hHeld.2.2.2.2.1)
                        have HS5_ := (hb.cell (World.block_lt_of_cell? _ _ (hHeld.2.2.2.2.2.1))).trans (hHeld.2.2.2.2.2.1)
                        have HS6_ := (hb.cell (World.block_lt_of_cell? _ _ (hHeld.2.2.2.2.2.2.1))).trans (hHeld.2.2.2.2.2.2.1)
                        have HS7_ := (hb.cell (World.block_lt_of_cell? _ _ (hHeld.2.2.2.2.2.2.2))).trans (hHeld.2.2.2.2.2.2.2)
                        have n0_ := Aside0.mk (Kd.R_below (Kd.R_elderB (rdl HO291) gb313 (Nat.le_of_eq hg.symm)) hb)
                        have n1_ := Aside0.mk (Kd.R_below (rdl HO296) hb)
                        have n2_ := Aside0.mk (Kd.R_below (rdl HO301) hb)
                        have n3_ := Aside0.mk (Kd.R_below (Kd.R_elderB (rdl HO308) gb313 (Nat.le_of_eq hg.symm)) hb)
                        have n4_ := Aside0.mk (blk_below (g := gb314) (o := .cells #[.int .i64 0, .int .i64 0, .int .i64 0] 38 (0, 0)) (bkl BK314) hb)
                        have n5_ := Aside0.mk (below_step (bel1 HB GE314) hb)
                        have n6_ := Aside0.mk (hbox)
                        have n7_ := Aside0.mk ((by rw [hg]; exact (below_size (bel1 HB GE314)) : w.heap.size ≤ gb313))
                        have n8_ := Aside0.mk ((by rw [hg]; exact (below_size (bel1 HB GE314)) : w.heap.size ≤ gb313))
                        have n9_ := Aside0.mk ((by rw [hg]; exact Nat.ne_of_lt (blk_lt (g := gb314) (o := .cells #[.int .i64 0, .int .i64 0, .int .i64 0] 38 (0, 0)) (bkl BK314)) : gb314 ≠ gb313))
                        have n10_ := Aside0.mk ((by rw [hg]; exact Nat.ne_of_gt (blk_lt (g := gb314) (o := .cells #[.int .i64 0, .int .i64 0, .int .i64 0] 38 (0, 0)) (bkl BK314)) : gb313 ≠ gb314))
                        clear HO291
                        clear HO296
                        clear HO301
                        clear HO308
                        clear BK314
                        clear HB
                        have HO291 := n0_
                        have HO296 := n1_
                        have HO301 := n2_
                        have HO308 := n3_
                        have BK314 := n4_
                        have HB := n5_
                        have BK313 := n6_
                        have GW313 := n7_
                        have GE313 := n8_
                        have NB314_313 := n9_
                        have NB313_314 := n10_
                        clear n0_ n1_ n2_ n3_ n4_ n5_ n6_ n7_ n8_ n9_ n10_
                        clear hb hbox hg
                        refine hK.out _ _ ⟨HS0_, HS1_, HS2_, HS3_, HS4_, HS5_, HS6_, HS7_⟩ (fun hHeld => ?_)
                        clear hK K
                        refine norm_ (a' := ?_) ?_ ?_
                        rotate_left
                        ·show Act.put _ (some 23) _ = _
                         simp only [Act.put, List.setIfInBounds_toArray, List.set_cons_zero, List.set_cons_succ, i64_w, i32_w]
                         rfl
                        exact norm_ (by simp only [putAll, Act.put, List.setIfInBounds_toArray, List.set_cons_zero, List.set_cons_succ]) (hCont (gb313, gb314) _ ⟨hHeld, (by (with_reducible repeat (first | apply Kd.R_alloc | apply Kd.R_drewN | apply Kd.R_drew)); exact Kd.R_mono HO291.out (fun _ hk => ⟨hk.1.1.2, ⟨hk.2, hk.1.2⟩⟩)), (by (with_reducible repeat (first | apply Kd.R_alloc | apply Kd.R_drewN | apply Kd.R_drew)); exact Kd.R_mono HO296.out (fun _ hk => by first | exact hk.2 | exact hk)), (by (with_reducible repeat (first | apply Kd.R_alloc | apply Kd.R_drewN | apply Kd.R_drew)); exact Kd.R_mono HO301.out (fun _ hk => by first | exact hk.2 | exact hk)), (by (with_reducible repeat (first | apply Kd.R_alloc | apply Kd.R_drewN | apply Kd.R_drew)); exact Kd.R_mono HO308.out (fun _ hk => ⟨hk.1.1, ⟨hk.2, hk.1.2⟩⟩)), (bkl BK313), (bkl BK314), GW313.out, GE313.out, NB314_313.out, NB313_314.out, GW314.out, GE314.out, (bel2 HB GE314 GE313)⟩)
                      rintro ⟨gb313, gb314⟩ w70 ⟨hS_, h0_, h1_, h2_, h3_, h4_, h5_, h6_, h7_, h8_, h9_, h10_, h11_, h12_⟩
                      have n0_ : Aside0 (Kd.R k38 38 w70 w.heap.size (fun k_ => some k_ ≠ (v307 : Value).ownBlock ∧ k_ ≠ gb313 ∧ k_ ≠ gb314) (.slice (some ad310) t289.length co59) t289) := ⟨h0_⟩
                      have n1_ : Aside0 (Kd.R (Kd.int .i64) 3 w70 w.heap.size (fun k_ => some k_ ≠ (.slice Ao63 t297.length co63 : Value).ownBlock) (.slice (some ad309) t292.length co62) t292) := ⟨h1_⟩
                      have n2_ : Aside0 (Kd.R (Kd.int .i64) 3 w70 w.heap.size (fun k_ => some k_ ≠ (.slice (some ad309) t292.length co62 : Value).ownBlock) (.slice Ao63 t297.length co63) t297) := ⟨h2_⟩
                      have n3_ : Aside0 (Kd.R k38 38 w70 w.heap.size (fun k_ => some k_ ≠ (.slice (some ad310) t289.length co59 : Value).ownBlock ∧ k_ ≠ gb313 ∧ k_ ≠ gb314) v307 y306) := ⟨h3_⟩
                      have n4_ : Aside0 (w70.heap[gb313]? = some (.cells #[.int .i64 0, .int .i64 0, .int .i64 0] 38 (0, 0))) := ⟨h4_⟩
                      have n5_ : Aside0 (w70.heap[gb314]? = some (.cells #[.int .i64 0, .int .i64 0, .int .i64 0] 38 (0, 0))) := ⟨h5_⟩
                      have n6_ : Aside0 (w.heap.size ≤ gb313) := ⟨h6_⟩
                      have n7_ : Aside0 (w.heap.size ≤ gb313) := ⟨h7_⟩
                      have n8_ : Aside0 (gb314 ≠ gb313) := ⟨h8_⟩
                      have n9_ : Aside0 (gb313 ≠ gb314) := ⟨h9_⟩
                      have n10_ : Aside0 (w.heap.size ≤ gb314) := ⟨h10_⟩
                      have n11_ : Aside0 (w.heap.size ≤ gb314) := ⟨h11_⟩
                      have n12_ : Aside0 (Below w.heap.size w w70) := ⟨h12_⟩
                      clear HO291
                      clear HO296
                      clear HO301
                      clear HO308
                      clear HB
                      clear h0_ h1_ h2_ h3_ h4_ h5_ h6_ h7_ h8_ h9_ h10_ h11_ h12_
                      have HO291 := n0_
                      have HO296 := n1_
                      have HO301 := n2_
                      have HO308 := n3_
                      have BK313 := n4_
                      have BK314 := n5_
                      have GW313 := n6_
                      have GE313 := n7_
                      have NB314_313 := n8_
                      have NB313_314 := n9_
                      have GW314 := n10_
                      have GE314 := n11_
                      have HB := n12_
                      clear n0_ n1_ n2_ n3_ n4_ n5_ n6_ n7_ n8_ n9_ n10_ n11_ n12_
                      have hHeld : w70.cell? ad309 = some (.int .i64 (rd t292 0)) ∧ w70.cell? (ad310.add (((rd t292 0)).toNat * 3)) = some (.int .i64 ((rd_T38 t289 (rd t292 0)).f0)) ∧ w70.cell? ⟨(ad310.add (((rd t292 0)).toNat * 3)).block, (ad310.add (((rd t292 0)).toNat * 3)).off + 1, none⟩ = some (.int .i64 ((rd_T38 t289 (rd t292 0)).f1)) ∧ w70.cell? ⟨(ad310.add (((rd t292 0)).toNat * 3)).block, (ad310.add (((rd t292 0)).toNat * 3)).off + 2, none⟩ = some (.int .i64 ((rd_T38 t289 (rd t292 0)).f2)) ∧ w70.cell? ⟨ad309.block, ad309.off + 1, none⟩ = some (.int .i64 (rd t292 1)) ∧ w70.cell? (ad310.add (((rd t292 1)).toNat * 3)) = some (.int .i64 ((rd_T38 t289 (rd t292 1)).f0)) ∧ w70.cell? ⟨(ad310.add (((rd t292 1)).toNat * 3)).block, (ad310.add (((rd t292 1)).toNat * 3)).off + 1, none⟩ = some (.int .i64 ((rd_T38 t289 (rd t292 1)).f1)) ∧ w70.cell? ⟨(ad310.add (((rd t292 1)).toNat * 3)).block, (ad310.add (((rd t292 1)).toNat * 3)).off + 2, none⟩ = some (.int .i64 ((rd_T38 t289 (rd t292 1)).f2)) := hS_
                      refine norm_ (a' := ?_) ?_ ?_
                      rotate_left
                      ·simp only [putAll, Act.put, List.setIfInBounds_toArray, List.set_cons_zero, List.set_cons_succ]
                       rfl
                      refine one_ (i := 14) (N := none) #[true, true, true, true, true, true, true, true, true, true, true, true, true, true, true, false] rfl rfl (one_of HT_.out (by kernel_rfl)) (by decide) (fun K hK => ?_)
                      have hs71 : w70.cell? ⟨gb313, 0, none⟩ = some (.int .i64 0) := (blk_cell BK313.out 0).trans rfl
                      have hfs71 := blk_frozen BK313.out 0
                      have hns71_1 := NB314_313.out
                      have hms71_1 := NB313_314.out
                      have hs72 : w70.cell? ⟨gb313, 1, none⟩ = some (.int .i64 0) := (blk_cell BK313.out 1).trans rfl
                      have hfs72 := blk_frozen BK313.out 1
                      have hns72_1 := NB314_313.out
                      have hms72_1 := NB313_314.out
                      have hs73 : w70.cell? ⟨gb313, 2, none⟩ = some (.int .i64 0) := (blk_cell BK313.out 2).trans rfl
                      have hfs73 := blk_frozen BK313.out 2
                      have hns73_1 := NB314_313.out
                      have hms73_1 := NB313_314.out
                      refine skip_ (w1 := ?_) (by rfl) rfl ?_ ?_
                      rotate_left
                      ·go_simp
                       rfl
                      have hb309_gb313 : ad309.block ≠ gb313 := Kd.own_blk (Kd.R_ne HO296.out BK313.out (by decide))
                      have hb310_gb313 : ad310.block ≠ gb313 := Kd.own_blk (Kd.R_away HO291.out (fun _ hk => hk.2.1))
                      have hkgb313_0 : (((w70.setCell ⟨gb313, 0, none⟩ (.int .i64 ((rd_T38 t289 (rd t292 0)).f0))).setCell ⟨gb313, 1, none⟩ (.int .i64 ((rd_T38 t289 (rd t292 0)).f1))).setCell ⟨gb313, 2, none⟩ (.int .i64 ((rd_T38 t289 (rd t292 0)).f2))).cell? ad309 = some (.int .i64 (rd t292 0)) := (laws_FnBallast.far3 (g := gb313) (a := ad309) (by first | exact hb309_gb313 | (rw [add_block]; exact hb309_gb313) | (show (Addr.add _ _).block ≠ _; rw [add_block]; exact hb309_gb313)) _ _ _).trans hHeld.1
                      have hkgb313_1 : (((w70.setCell ⟨gb313, 0, none⟩ (.int .i64 ((rd_T38 t289 (rd t292 0)).f0))).setCell ⟨gb313, 1, none⟩ (.int .i64 ((rd_T38 t289 (rd t292 0)).f1))).setCell ⟨gb313, 2, none⟩ (.int .i64 ((rd_T38 t289 (rd t292 0)).f2))).cell? (ad310.add (((rd t292 0)).toNat * 3)) = some (.int .i64 ((rd_T38 t289 (rd t292 0)).f0)) := (laws_FnBallast.far3 (g := gb313) (a := (ad310.add (((rd t292 0)).toNat * 3))) (by first | exact hb310_gb313 | (rw [add_block]; exact hb310_gb313) | (show (Addr.add _ _).block ≠ _; rw [add_block]; exact hb310_gb313)) _ _ _).trans hHeld.2.1
                      have hkgb313_2 : (((w70.setCell ⟨gb313, 0, none⟩ (.int .i64 ((rd_T38 t289 (rd t292 0)).f0))).setCell ⟨gb313, 1, none⟩ (.int .i64 ((rd_T38 t289 (rd t292 0)).f1))).setCell ⟨gb313, 2, none⟩ (.int .i64 ((rd_T38 t289 (rd t292 0)).f2))).cell? ⟨(ad310.add (((rd t292 0)).toNat * 3)).block, (ad310.add (((rd t292 0)).toNat * 3)).off + 1, none⟩ = some (.int .i64 ((rd_T38 t289 (rd t292 0)).f1)) := (laws_FnBallast.far3 (g := gb313) (a := ⟨(ad310.add (((rd t292 0)).toNat * 3)).block, (ad310.add (((rd t292 0)).toNat * 3)).off + 1, none⟩) (by first | exact hb310_gb313 | (rw [add_block]; exact hb310_gb313) | (show (Addr.add _ _).block ≠ _; rw [add_block]; exact hb310_gb313)) _ _ _).trans hHeld.2.2.1
                      have hkgb313_3 : (((w70.setCell ⟨gb313, 0, none⟩ (.int .i64 ((rd_T38 t289 (rd t292 0)).f0))).setCell ⟨gb313, 1, none⟩ (.int .i64 ((rd_T38 t289 (rd t292 0)).f1))).setCell ⟨gb313, 2, none⟩ (.int .i64 ((rd_T38 t289 (rd t292 0)).f2))).cell? ⟨(ad310.add (((rd t292 0)).toNat * 3)).block, (ad310.add (((rd t292 0)).toNat * 3)).off + 2, none⟩ = some (.int .i64 ((rd_T38 t289 (rd t292 0)).f2)) := (laws_FnBallast.far3 (g := gb313) (a := ⟨(ad310.add (((rd t292 0)).toNat * 3)).block, (ad310.add (((rd t292 0)).toNat * 3)).off + 2, none⟩) (by first | exact hb310_gb313 | (rw [add_block]; exact hb310_gb313) | (show (Addr.add _ _).block ≠ _; rw [add_block]; exact hb310_gb313)) _ _ _).trans hHeld.2.2.2.1
                      have hkgb313_4 : (((w70.setCell ⟨gb313, 0, none⟩ (.int .i64 ((rd_T38 t289 (rd t292 0)).f0))).setCell ⟨gb313, 1, none⟩ (.int .i64 ((rd_T38 t289 (rd t292 0)).f1))).setCell ⟨gb313, 2, none⟩ (.int .i64 ((rd_T38 t289 (rd t292 0)).f2))).cell? ⟨ad309.block, ad309.off + 1, none⟩ = some (.int .i64 (rd t292 1)) := (laws_FnBallast.far3 (g := gb313) (a := ⟨ad309.block, ad309.off + 1, none⟩) (by first | exact hb309_gb313 | (rw [add_block]; exact hb309_gb313) | (show (Addr.add _ _).block ≠ _; rw [add_block]; exact hb309_gb313)) _ _ _).trans hHeld.2.2.2.2.1
                      have hkgb313_5 : (((w70.setCell ⟨gb313, 0, none⟩ (.int .i64 ((rd_T38 t289 (rd t292 0)).f0))).setCell ⟨gb313, 1, none⟩ (.int .i64 ((rd_T38 t289 (rd t292 0)).f1))).setCell ⟨gb313, 2, none⟩ (.int .i64 ((rd_T38 t289 (rd t292 0)).f2))).cell? (ad310.add (((rd t292 1)).toNat * 3)) = some (.int .i64 ((rd_T38 t289 (rd t292 1)).f0)) := (laws_FnBallast.far3 (g := gb313) (a := (ad310.add (((rd t292 1)).toNat * 3))) (by first | exact hb310_gb313 | (rw [add_block]; exact hb310_gb313) | (show (Addr.add _ _).block ≠ _; rw [add_block]; exact hb310_gb313)) _ _ _).trans hHeld.2.2.2.2.2.1
                      have hkgb313_6 : (((w70.setCell ⟨gb313, 0, none⟩ (.int .i64 ((rd_T38 t289 (rd t292 0)).f0))).setCell ⟨gb313, 1, none⟩ (.int .i64 ((rd_T38 t289 (rd t292 0)).f1))).setCell ⟨gb313, 2, none⟩ (.int .i64 ((rd_T38 t289 (rd t292 0)).f2))).cell? ⟨(ad310.add (((rd t292 1)).toNat * 3)).block, (ad310.add (((rd t292 1)).toNat * 3)).off + 1, none⟩ = some (.int .i64 ((rd_T38 t289 (rd t292 1)).f1)) := (laws_FnBallast.far3 (g := gb313) (a := ⟨(ad310.add (((rd t292 1)).toNat * 3)).block, (ad310.add (((rd t292 1)).toNat * 3)).off + 1, none⟩) (by first | exact hb310_gb313 | (rw [add_block]; exact hb310_gb313) | (show (Addr.add _ _).block ≠ _; rw [add_block]; exact hb310_gb313)) _ _ _).trans hHeld.2.2.2.2.2.2.1
                      have hkgb313_7 : (((w70.setCell ⟨gb313, 0, none⟩ (.int .i64 ((rd_T38 t289 (rd t292 0)).f0))).setCell ⟨gb313, 1, none⟩ (.int .i64 ((rd_T38 t289 (rd t292 0)).f1))).setCell ⟨gb313, 2, none⟩ (.int .i64 ((rd_T38 t289 (rd t292 0)).f2))).cell? ⟨(ad310.add (((rd t292 1)).toNat * 3)).block, (ad310.add (((rd t292 1)).toNat * 3)).off + 2, none⟩ = some (.int .i64 ((rd_T38 t289 (rd t292 1)).f2)) := (laws_FnBallast.far3 (g := gb313) (a := ⟨(ad310.add (((rd t292 1)).toNat * 3)).block, (ad310.add (((rd t292 1)).toNat * 3)).off + 2, none⟩) (by first | exact hb310_gb313 | (rw [add_block]; exact hb310_gb313) | (show (Addr.add _ _).block ≠ _; rw [add_block]; exact hb310_gb313)) _ _ _).trans hHeld.2.2.2.2.2.2.2
                      clear hHeld
                      refine hK.out _ _ ⟨hkgb313_0, hkgb313_1, hkgb313_2, hkgb313_3, hkgb313_4, hkgb313_5, hkgb313_6, hkgb313_7⟩ (fun hHeld => ?_)
                      clear hK K
                      refine one_ (i := 15) (N := none) #[true, true, true, true, true, true, true, true, true, true, true, true, true, true, true, true] rfl rfl (one_of HT_.out (by kernel_rfl)) (by decide) (fun K hK => ?_)
                      have hs74 : w70.cell? ⟨gb314, 0, none⟩ = some (.int .i64 0) := (blk_cell BK314.out 0).trans rfl
                      have hfs74 := blk_frozen BK314.out 0
                      have hns74_0 := NB313_314.out
                      have hms74_0 := NB314_313.out
                      have hs75 : w70.cell? ⟨gb314, 1, none⟩ = some (.int .i64 0) := (blk_cell BK314.out 1).trans rfl
                      have hfs75 := blk_frozen BK314.out 1
                      have hns75_0 := NB313_314.out
                      have hms75_0 := NB314_313.out
                      have hs76 : w70.cell? ⟨gb314, 2, none⟩ = some (.int .i64 0) := (blk_cell BK314.out 2).trans rfl
                      have hfs76 := blk_frozen BK314.out 2
                      have hns76_0 := NB313_314.out
                      have hms76_0 := NB314_313.out
                      refine skip_ (w1 := ?_) (by rfl) rfl ?_ ?_
                      rotate_left
                      ·go_simp
                       rfl
                      have hb309_gb314 : ad309.block ≠ gb314 := Kd.own_blk (Kd.R_ne HO296.out BK314.out (by decide))
                      have hb310_gb314 : ad310.block ≠ gb314 := Kd.own_blk (Kd.R_away HO291.out (fun _ hk => hk.2.2))
                      have hkgb314_0 : ((((((w70.setCell ⟨gb313, 0, none⟩ (.int .i64 ((rd_T38 t289 (rd t292 0)).f0))).setCell ⟨gb313, 1, none⟩ (.int .i64 ((rd_T38 t289 (rd t292 0)).f1))).setCell ⟨gb313, 2, none⟩ (.int .i64 ((rd_T38 t289 (rd t292 0)).f2))).setCell ⟨gb314, 0, none⟩ (.int .i64 ((rd_T38 t289 (rd t292 1)).f0))).setCell ⟨gb314, 1, none⟩ (.int .i64 ((rd_T38 t289 (rd t292 1)).f1))).setCell ⟨gb314, 2, none⟩ (.int .i64 ((rd_T38 t289 (rd t292 1)).f2))).cell? ad309 = some (.int .i64 (rd t292 0)) := (laws_FnBallast.far3 (g := gb314) (a := ad309) (by first | exact hb309_gb314 | (rw [add_block]; exact hb309_gb314) | (show (Addr.add _ _).block ≠ _; rw [add_block]; exact hb309_gb314)) _ _ _).trans hHeld.1
                      have hkgb314_1 : ((((((w70.setCell ⟨gb313, 0, none⟩ (.int .i64 ((rd_T38 t289 (rd t292 0)).f0))).setCell ⟨gb313, 1, none⟩ (.int .i64 ((rd_T38 t289 (rd t292 0)).f1))).setCell ⟨gb313, 2, none⟩ (.int .i64 ((rd_T38 t289 (rd t292 0)).f2))).setCell ⟨gb314, 0, none⟩ (.int .i64 ((rd_T38 t289 (rd t292 1)).f0))).setCell ⟨gb314, 1, none⟩ (.int .i64 ((rd_T38 t289 (rd t292 1)).f1))).setCell ⟨gb314, 2, none⟩ (.int .i64 ((rd_T38 t289 (rd t292 1)).f2))).cell? (ad310.add (((rd t292 0)).toNat * 3)) = some (.int .i64 ((rd_T38 t289 (rd t292 0)).f0)) := (laws_FnBallast.far3 (g := gb314) (a := (ad310.add (((rd t292 0)).toNat * 3))) (by first | exact hb310_gb314 | (rw [add_block]; exact hb310_gb314) | (show (Addr.add _ _).block ≠ _; rw [add_block]; exact hb310_gb314)) _ _ _).trans hHeld.2.1
                      have hkgb314_2 : ((((((w70.setCell ⟨gb313, 0, none⟩ (.int .i64 ((rd_T38 t289 (rd t292 0)).f0))).setCell ⟨gb313, 1, none⟩ (.int .i64 ((rd_T38 t289 (rd t292 0)).f1))).setCell ⟨gb313, 2, none⟩ (.int .i64 ((rd_T38 t289 (rd t292 0)).f2))).setCell ⟨gb314, 0, none⟩ (.int .i64 ((rd_T38 t289 (rd t292 1)).f0))).setCell ⟨gb314, 1, none⟩ (.int .i64 ((rd_T38 t289 (rd t292 1)).f1))).setCell ⟨gb314, 2, none⟩ (.int .i64 ((rd_T38 t289 (rd t292 1)).f2))).cell? ⟨(ad310.add (((rd t292 0)).toNat * 3)).block, (ad310.add (((rd t292 0)).toNat * 3)).off + 1, none⟩ = some (.int .i64 ((rd_T38 t289 (rd t292 0)).f1)) := (laws_FnBallast.far3 (g := gb314) (a := ⟨(ad310.add (((rd t292 0)).toNat * 3)).block, (ad310.add (((rd t292 0)).toNat * 3)).off + 1, none⟩) (by first | exact hb310_gb314 | (rw [add_block]; exact hb310_gb314) | (show (Addr.add _ _).block ≠ _; rw [add_block]; exact hb310_gb314)) _ _ _).trans hHeld.2.2.1
                      have hkgb314_3 : ((((((w70.setCell ⟨gb313, 0, none⟩ (.int .i64 ((rd_T38 t289 (rd t292 0)).f0))).setCell ⟨gb313, 1, none⟩ (.int .i64 ((rd_T38 t289 (rd t292 0)).f1))).setCell ⟨gb313, 2, none⟩ (.int .i64 ((rd_T38 t289 (rd t292 0)).f2))).setCell ⟨gb314, 0, none⟩ (.int .i64 ((rd_T38 t289 (rd t292 1)).f0))).setCell ⟨gb314, 1, none⟩ (.int .i64 ((rd_T38 t289 (rd t292 1)).f1))).setCell ⟨gb314, 2, none⟩ (.int .i64 ((rd_T38 t289 (rd t292 1)).f2))).cell? ⟨(ad310.add (((rd t292 0)).toNat * 3)).block, (ad310.add (((rd t292 0)).toNat * 3)).off + 2, none⟩ = some (.int .i64 ((rd_T38 t289 (rd t292 0)).f2)) := (laws_FnBallast.far3 (g := gb314) (a := ⟨(ad310.add (((rd t292 0)).toNat * 3)).block, (ad310.add (((rd t292 0)).toNat * 3)).off + 2, none⟩) (by first | exact hb310_gb314 | (rw [add_block]; exact hb310_gb314) | (show (Addr.add _ _).block ≠ _; rw [add_block]; exact hb310_gb314)) _ _ _).trans hHeld.2.2.2.1
                      have hkgb314_4 : ((((((w70.setCell ⟨gb313, 0, none⟩ (.int .i64 ((rd_T38 t289 (rd t292 0)).f0))).setCell ⟨gb313, 1, none⟩ (.int .i64 ((rd_T38 t289 (rd t292 0)).f1))).setCell ⟨gb313, 2, none⟩ (.int .i64 ((rd_T38 t289 (rd t292 0)).f2))).setCell ⟨gb314, 0, none⟩ (.int .i64 ((rd_T38 t289 (rd t292 1)).f0))).setCell ⟨gb314, 1, none⟩ (.int .i64 ((rd_T38 t289 (rd t292 1)).f1))).setCell ⟨gb314, 2, none⟩ (.int .i64 ((rd_T38 t289 (rd t292 1)).f2))).cell? ⟨ad309.block, ad309.off + 1, none⟩ = some (.int .i64 (rd t292 1)) := (laws_FnBallast.far3 (g := gb314) (a := ⟨ad309.block, ad309.off + 1, none⟩) (by first | exact hb309_gb314 | (rw [add_block]; exact hb309_gb314) | (show (Addr.add _ _).block ≠ _; rw [add_block]; exact hb309_gb314)) _ _ _).trans hHeld.2.2.2.2.1
                      have hkgb314_5 : ((((((w70.setCell ⟨gb313, 0, none⟩ (.int .i64 ((rd_T38 t289 (rd t292 0)).f0))).setCell ⟨gb313, 1, none⟩ (.int .i64 ((rd_T38 t289 (rd t292 0)).f1))).setCell ⟨gb313, 2, none⟩ (.int .i64 ((rd_T38 t289 (rd t292 0)).f2))).setCell ⟨gb314, 0, none⟩ (.int .i64 ((rd_T38 t289 (rd t292 1)).f0))).setCell ⟨gb314, 1, none⟩ (.int .i64 ((rd_T38 t289 (rd t292 1)).f1))).setCell ⟨gb314, 2, none⟩ (.int .i64 ((rd_T38 t289 (rd t292 1)).f2))).cell? (ad310.add (((rd t292 1)).toNat * 3)) = some (.int .i64 ((rd_T38 t289 (rd t292 1)).f0)) := (laws_FnBallast.far3 (g := gb314) (a := (ad310.add (((rd t292 1)).toNat * 3))) (by first | exact hb310_gb314 | (rw [add_block]; exact hb310_gb314) | (show (Addr.add _ _).block ≠ _; rw [add_block]; exact hb310_gb314)) _ _ _).trans hHeld.2.2.2.2.2.1
                      have hkgb314_6 : ((((((w70.setCell ⟨gb313, 0, none⟩ (.int .i64 ((rd_T38 t289 (rd t292 0)).f0))).setCell ⟨gb313, 1, none⟩ (.int .i64 ((rd_T38 t289 (rd t292 0)).f1))).setCell ⟨gb313, 2, none⟩ (.int .i64 ((rd_T38 t289 (rd t292 0)).f2))).setCell ⟨gb314, 0, none⟩ (.int .i64 ((rd_T38 t289 (rd t292 1)).f0))).setCell ⟨gb314, 1, none⟩ (.int .i64 ((rd_T38 t289 (rd t292 1)).f1))).setCell ⟨gb314, 2, none⟩ (.int .i64 ((rd_T38 t289 (rd t292 1)).f2))).cell? ⟨(ad310.add (((rd t292 1)).toNat * 3)).block, (ad310.add (((rd t292 1)).toNat * 3)).off + 1, none⟩ = some (.int .i64 ((rd_T38 t289 (rd t292 1)).f1)) := (laws_FnBallast.far3 (g := gb314) (a := ⟨(ad310.add (((rd t292 1)).toNat * 3)).block, (ad310.add (((rd t292 1)).toNat * 3)).off + 1, none⟩) (by first | exact hb310_gb314 | (rw [add_block]; exact hb310_gb314) | (show (Addr.add _ _).block ≠ _; rw [add_block]; exact hb310_gb314)) _ _ _).trans hHeld.2.2.2.2.2.2.1
                      have hkgb314_7 : ((((((w70.setCell ⟨gb313, 0, none⟩ (.int .i64 ((rd_T38 t289 (rd t292 0)).f0))).setCell ⟨gb313, 1, none⟩ (.int .i64 ((rd_T38 t289 (rd t292 0)).f1))).setCell ⟨gb313, 2, none⟩ (.int .i64 ((rd_T38 t289 (rd t292 0)).f2))).setCell ⟨gb314, 0, none⟩ (.int .i64 ((rd_T38 t289 (rd t292 1)).f0))).setCell ⟨gb314, 1, none⟩ (.int .i64 ((rd_T38 t289 (rd t292 1)).f1))).setCell ⟨gb314, 2, none⟩ (.int .i64 ((rd_T38 t289 (rd t292 1)).f2))).cell? ⟨(ad310.add (((rd t292 1)).toNat * 3)).block, (ad310.add (((rd t292 1)).toNat * 3)).off + 2, none⟩ = some (.int .i64 ((rd_T38 t289 (rd t292 1)).f2)) := (laws_FnBallast.far3 (g := gb314) (a := ⟨(ad310.add (((rd t292 1)).toNat * 3)).block, (ad310.add (((rd t292 1)).toNat * 3)).off + 2, none⟩) (by first | exact hb310_gb314 | (rw [add_block]; exact hb310_gb314) | (show (Addr.add _ _).block ≠ _; rw [add_block]; exact hb310_gb314)) _ _ _).trans hHeld.2.2.2.2.2.2.2
                      clear hHeld
                      refine hK.out _ _ ⟨hkgb314_0, hkgb314_1, hkgb314_2, hkgb314_3, hkgb314_4, hkgb314_5, hkgb314_6, hkgb314_7⟩ (fun hHeld => ?_)
                      clear hK K
                      refine done_ (done_of HT_.out (by kernel_rfl)) ?_
                      try go_wp2
                      have n0_ : Aside0 (Kd.R k38 38 ((((((w70.setCell ⟨gb313, 0, none⟩ (.int .i64 ((rd_T38 t289 (rd t292 0)).f0))).setCell ⟨gb313, 1, none⟩ (.int .i64 ((rd_T38 t289 (rd t292 0)).f1))).setCell ⟨gb313, 2, none⟩ (.int .i64 ((rd_T38 t289 (rd t292 0)).f2))).setCell ⟨gb314, 0, none⟩ (.int .i64 ((rd_T38 t289 (rd t292 1)).f0))).setCell ⟨gb314, 1, none⟩ (.int .i64 ((rd_T38 t289 (rd t292 1)).f1))).setCell ⟨gb314, 2, none⟩ (.int .i64 ((rd_T38 t289 (rd t292 1)).f2))) w.heap.size (fun k_ => some k_ ≠ (v307 : Value).ownBlock ∧ k_ ≠ gb313 ∧ k_ ≠ gb314) (.slice (some ad310) t289.length co59) t289) := ⟨by (with_reducible repeat (first | apply Kd.R_alloc | apply Kd.R_drewN | apply Kd.R_drew)); exact Kd.R_mono (Kd.R_far (p := ⟨gb314, 2, none⟩) (Kd.R_far (p := ⟨gb314, 1, none⟩) (Kd.R_far (p := ⟨gb314, 0, none⟩) (Kd.R_far (p := ⟨gb313, 2, none⟩) (Kd.R_far (p := ⟨gb313, 1, none⟩) (Kd.R_far (p := ⟨gb313, 0, none⟩) (Kd.R_mono (Kd.R_mono HO291.out (fun k_ hk => (⟨hk, hk.2.1⟩ : _ ∧ k_ ≠ gb313))) (fun k_ hk => (⟨hk, hk.1.2.2⟩ : _ ∧ k_ ≠ gb314))) (fun _ hk => hk.1.2) (.int .i64 ((rd_T38 t289 (rd t292 0)).f0))) (fun _ hk => hk.1.2) (.int .i64 ((rd_T38 t289 (rd t292 0)).f1))) (fun _ hk => hk.1.2) (.int .i64 ((rd_T38 t289 (rd t292 0)).f2))) (fun _ hk => hk.2) (.int .i64 ((rd_T38 t289 (rd t292 1)).f0))) (fun _ hk => hk.2) (.int .i64 ((rd_T38 t289 (rd t292 1)).f1))) (fun _ hk => hk.2) (.int .i64 ((rd_T38 t289 (rd t292 1)).f2))) (fun _ hk => ⟨hk.1.1.1, ⟨hk.1.1.2.1, hk.1.1.2.2⟩⟩)⟩
                      have n1_ : Aside0 (Kd.R (Kd.int .i64) 3 ((((((w70.setCell ⟨gb313, 0, none⟩ (.int .i64 ((rd_T38 t289 (rd t292 0)).f0))).setCell ⟨gb313, 1, none⟩ (.int .i64 ((rd_T38 t289 (rd t292 0)).f1))).setCell ⟨gb313, 2, none⟩ (.int .i64 ((rd_T38 t289 (rd t292 0)).f2))).setCell ⟨gb314, 0, none⟩ (.int .i64 ((rd_T38 t289 (rd t292 1)).f0))).setCell ⟨gb314, 1, none⟩ (.int .i64 ((rd_T38 t289 (rd t292 1)).f1))).setCell ⟨gb314, 2, none⟩ (.int .i64 ((rd_T38 t289 (rd t292 1)).f2))) w.heap.size (fun k_ => some k_ ≠ (.slice Ao63 t297.length co63 : Value).ownBlock) (.slice (some ad309) t292.length co62) t292) := ⟨by (with_reducible repeat (first | apply Kd.R_alloc | apply Kd.R_drewN | apply Kd.R_drew)); exact Kd.R_mono (Kd.R_far (p := ⟨gb314, 2, none⟩) (Kd.R_far (p := ⟨gb314, 1, none⟩) (Kd.R_far (p := ⟨gb314, 0, none⟩) (Kd.R_far (p := ⟨gb313, 2, none⟩) (Kd.R_far (p := ⟨gb313, 1, none⟩) (Kd.R_far (p := ⟨gb313, 0, none⟩) (Kd.R_types (Kd.R_types HO296.out BK313.out (by decide)) BK314.out (by decide)) (fun _ hk => hk.1.2) (.int .i64 ((rd_T38 t289 (rd t292 0)).f0))) (fun _ hk => hk.1.2) (.int .i64 ((rd_T38 t289 (rd t292 0)).f1))) (fun _ hk => hk.1.2) (.int .i64 ((rd_T38 t289 (rd t292 0)).f2))) (fun _ hk => hk.2) (.int .i64 ((rd_T38 t289 (rd t292 1)).f0))) (fun _ hk => hk.2) (.int .i64 ((rd_T38 t289 (rd t292 1)).f1))) (fun _ hk => hk.2) (.int .i64 ((rd_T38 t289 (rd t292 1)).f2))) (fun _ hk => hk.1.1)⟩
                      have n2_ : Aside0 (Kd.R (Kd.int .i64) 3 ((((((w70.setCell ⟨gb313, 0, none⟩ (.int .i64 ((rd_T38 t289 (rd t292 0)).f0))).setCell ⟨gb313, 1, none⟩ (.int .i64 ((rd_T38 t289 (rd t292 0)).f1))).setCell ⟨gb313, 2, none⟩ (.int .i64 ((rd_T38 t289 (rd t292 0)).f2))).setCell ⟨gb314, 0, none⟩ (.int .i64 ((rd_T38 t289 (rd t292 1)).f0))).setCell ⟨gb314, 1, none⟩ (.int .i64 ((rd_T38 t289 (rd t292 1)).f1))).setCell ⟨gb314, 2, none⟩ (.int .i64 ((rd_T38 t289 (rd t292 1)).f2))) w.heap.size (fun k_ => some k_ ≠ (.slice (some ad309) t292.length co62 : Value).ownBlock) (.slice Ao63 t297.length co63) t297) := ⟨by (with_reducible repeat (first | apply Kd.R_alloc | apply Kd.R_drewN | apply Kd.R_drew)); exact Kd.R_mono (Kd.R_far (p := ⟨gb314, 2, none⟩) (Kd.R_far (p := ⟨gb314, 1, none⟩) (Kd.R_far (p := ⟨gb314, 0, none⟩) (Kd.R_far (p := ⟨gb313, 2, none⟩) (Kd.R_far (p := ⟨gb313, 1, none⟩) (Kd.R_far (p := ⟨gb313, 0, none⟩) (Kd.R_types (Kd.R_types HO301.out BK313.out (by decide)) BK314.out (by decide)) (fun _ hk => hk.1.2) (.int .i64 ((rd_T38 t289 (rd t292 0)).f0))) (fun _ hk => hk.1.2) (.int .i64 ((rd_T38 t289 (rd t292 0)).f1))) (fun _ hk => hk.1.2) (.int .i64 ((rd_T38 t289 (rd t292 0)).f2))) (fun _ hk => hk.2) (.int .i64 ((rd_T38 t289 (rd t292 1)).f0))) (fun _ hk => hk.2) (.int .i64 ((rd_T38 t289 (rd t292 1)).f1))) (fun _ hk => hk.2) (.int .i64 ((rd_T38 t289 (rd t292 1)).f2))) (fun _ hk => hk.1.1)⟩
                      have n3_ : Aside0 (Kd.R k38 38 ((((((w70.setCell ⟨gb313, 0, none⟩ (.int .i64 ((rd_T38 t289 (rd t292 0)).f0))).setCell ⟨gb313, 1, none⟩ (.int .i64 ((rd_T38 t289 (rd t292 0)).f1))).setCell ⟨gb313, 2, none⟩ (.int .i64 ((rd_T38 t289 (rd t292 0)).f2))).setCell ⟨gb314, 0, none⟩ (.int .i64 ((rd_T38 t289 (rd t292 1)).f0))).setCell ⟨gb314, 1, none⟩ (.int .i64 ((rd_T38 t289 (rd t292 1)).f1))).setCell ⟨gb314, 2, none⟩ (.int .i64 ((rd_T38 t289 (rd t292 1)).f2))) w.heap.size (fun k_ => some k_ ≠ (.slice (some ad310) t289.length co59 : Value).ownBlock ∧ k_ ≠ gb313 ∧ k_ ≠ gb314) v307 y306) := ⟨by (with_reducible repeat (first | apply Kd.R_alloc | apply Kd.R_drewN | apply Kd.R_drew)); exact Kd.R_mono (Kd.R_far (p := ⟨gb314, 2, none⟩) (Kd.R_far (p := ⟨gb314, 1, none⟩) (Kd.R_far (p := ⟨gb314, 0, none⟩) (Kd.R_far (p := ⟨gb313, 2, none⟩) (Kd.R_far (p := ⟨gb313, 1, none⟩) (Kd.R_far (p := ⟨gb313, 0, none⟩) (Kd.R_mono (Kd.R_mono HO308.out (fun k_ hk => (⟨hk, hk.2.1⟩ : _ ∧ k_ ≠ gb313))) (fun k_ hk => (⟨hk, hk.1.2.2⟩ : _ ∧ k_ ≠ gb314))) (fun _ hk => hk.1.2) (.int .i64 ((rd_T38 t289 (rd t292 0)).f0))) (fun _ hk => hk.1.2) (.int .i64 ((rd_T38 t289 (rd t292 0)).f1))) (fun _ hk => hk.1.2) (.int .i64 ((rd_T38 t289 (rd t292 0)).f2))) (fun _ hk => hk.2) (.int .i64 ((rd_T38 t289 (rd t292 1)).f0))) (fun _ hk => hk.2) (.int .i64 ((rd_T38 t289 (rd t292 1)).f1))) (fun _ hk => hk.2) (.int .i64 ((rd_T38 t289 (rd t292 1)).f2))) (fun _ hk => ⟨hk.1.1.1, ⟨hk.1.1.2.1, hk.1.1.2.2⟩⟩)⟩
                      have n4_ : Aside0 (((((((w70.setCell ⟨gb313, 0, none⟩ (.int .i64 ((rd_T38 t289 (rd t292 0)).f0))).setCell ⟨gb313, 1, none⟩ (.int .i64 ((rd_T38 t289 (rd t292 0)).f1))).setCell ⟨gb313, 2, none⟩ (.int .i64 ((rd_T38 t289 (rd t292 0)).f2))).setCell ⟨gb314, 0, none⟩ (.int .i64 ((rd_T38 t289 (rd t292 1)).f0))).setCell ⟨gb314, 1, none⟩ (.int .i64 ((rd_T38 t289 (rd t292 1)).f1))).setCell ⟨gb314, 2, none⟩ (.int .i64 ((rd_T38 t289 (rd t292 1)).f2))).heap[gb313]? = some (.cells #[.int .i64 ((rd_T38 t289 (rd t292 0)).f0), .int .i64 ((rd_T38 t289 (rd t292 0)).f1), .int .i64 ((rd_T38 t289 (rd t292 0)).f2)] 38 (0, 0))) := ⟨by (with_reducible repeat (first | refine blk_drewN ?_ _ | refine blk_drew ?_ | refine blk_alloc ?_ _)); refine blk_far ?_ NB313_314.out _; (with_reducible repeat (first | refine blk_drewN ?_ _ | refine blk_drew ?_ | refine blk_alloc ?_ _)); refine blk_far ?_ NB313_314.out _; (with_reducible repeat (first | refine blk_drewN ?_ _ | refine blk_drew ?_ | refine blk_alloc ?_ _)); refine blk_far ?_ NB313_314.out _; (with_reducible repeat (first | refine blk_drewN ?_ _ | refine blk_drew ?_ | refine blk_alloc ?_ _)); refine blk_put (cs := #[.int .i64 ((rd_T38 t289 (rd t292 0)).f0), .int .i64 ((rd_T38 t289 (rd t292 0)).f1), .int .i64 0]) ?_ 2 _ rfl; (with_reducible repeat (first | refine blk_drewN ?_ _ | refine blk_drew ?_ | refine blk_alloc ?_ _)); refine blk_put (cs := #[.int .i64 ((rd_T38 t289 (rd t292 0)).f0), .int .i64 0, .int .i64 0]) ?_ 1 _ rfl; (with_reducible repeat (first | refine blk_drewN ?_ _ | refine blk_drew ?_ | refine blk_alloc ?_ _)); refine blk_put (cs := #[.int .i64 0, .int .i64 0, .int .i64 0]) ?_ 0 _ rfl; (with_reducible repeat (first | refine blk_drewN ?_ _ | refine blk_drew ?_ | refine blk_alloc ?_ _)); exact BK313.out⟩
                      have n5_ : Aside0 (((((((w70.setCell ⟨gb313, 0, none⟩ (.int .i64 ((rd_T38 t289 (rd t292 0)).f0))).setCell ⟨gb313, 1, none⟩ (.int .i64 ((rd_T38 t289 (rd t292 0)).f1))).setCell ⟨gb313, 2, none⟩ (.int .i64 ((rd_T38 t289 (rd t292 0)).f2))).setCell ⟨gb314, 0, none⟩ (.int .i64 ((rd_T38 t289 (rd t292 1)).f0))).setCell ⟨gb314, 1, none⟩ (.int .i64 ((rd_T38 t289 (rd t292 1)).f1))).setCell ⟨gb314, 2, none⟩ (.int .i64 ((rd_T38 t289 (rd t292 1)).f2))).heap[gb314]? = some (.cells #[.int .i64 ((rd_T38 t289 (rd t292 1)).f0), .int .i64 ((rd_T38 t289 (rd t292 1)).f1), .int .i64 ((rd_T38 t289 (rd t292 1)).f2)] 38 (0, 0))) := ⟨by (with_reducible repeat (first | refine blk_drewN ?_ _ | refine blk_drew ?_ | refine blk_alloc ?_ _)); refine blk_put (cs := #[.int .i64 ((rd_T38 t289 (rd t292 1)).f0), .int .i64 ((rd_T38 t289 (rd t292 1)).f1), .int .i64 0]) ?_ 2 _ rfl; (with_reducible repeat (first | refine blk_drewN ?_ _ | refine blk_drew ?_ | refine blk_alloc ?_ _)); refine blk_put (cs := #[.int .i64 ((rd_T38 t289 (rd t292 1)).f0), .int .i64 0, .int .i64 0]) ?_ 1 _ rfl; (with_reducible repeat (first | refine blk_drewN ?_ _ | refine blk_drew ?_ | refine blk_alloc ?_ _)); refine blk_put (cs := #[.int .i64 0, .int .i64 0, .int .i64 0]) ?_ 0 _ rfl; (with_reducible repeat (first | refine blk_drewN ?_ _ | refine blk_drew ?_ | refine blk_alloc ?_ _)); refine blk_far ?_ NB314_313.out _; (with_reducible repeat (first | refine blk_drewN ?_ _ | refine blk_drew ?_ | refine blk_alloc ?_ _)); refine blk_far ?_ NB314_313.out _; (with_reducible repeat (first | refine blk_drewN ?_ _ | refine blk_drew ?_ | refine blk_alloc ?_ _)); refine blk_far ?_ NB314_313.out _; (with_reducible repeat (first | refine blk_drewN ?_ _ | refine blk_drew ?_ | refine blk_alloc ?_ _)); exact BK314.out⟩
                      have n6_ : Aside0 (Below w.heap.size w ((((((w70.setCell ⟨gb313, 0, none⟩ (.int .i64 ((rd_T38 t289 (rd t292 0)).f0))).setCell ⟨gb313, 1, none⟩ (.int .i64 ((rd_T38 t289 (rd t292 0)).f1))).setCell ⟨gb313, 2, none⟩ (.int .i64 ((rd_T38 t289 (rd t292 0)).f2))).setCell ⟨gb314, 0, none⟩ (.int .i64 ((rd_T38 t289 (rd t292 1)).f0))).setCell ⟨gb314, 1, none⟩ (.int .i64 ((rd_T38 t289 (rd t292 1)).f1))).setCell ⟨gb314, 2, none⟩ (.int .i64 ((rd_T38 t289 (rd t292 1)).f2)))) := ⟨bel2 HB GE313 GE314⟩
                      (try clear HO291)
                      (try clear HO296)
                      (try clear HO301)
                      (try clear HO308)
                      (try clear BK313)
                      (try clear BK314)
                      (try clear HB)
                      generalize ((((((w70.setCell ⟨gb313, 0, none⟩ (.int .i64 ((rd_T38 t289 (rd t292 0)).f0))).setCell ⟨gb313, 1, none⟩ (.int .i64 ((rd_T38 t289 (rd t292 0)).f1))).setCell ⟨gb313, 2, none⟩ (.int .i64 ((rd_T38 t289 (rd t292 0)).f2))).setCell ⟨gb314, 0, none⟩ (.int .i64 ((rd_T38 t289 (rd t292 1)).f0))).setCell ⟨gb314, 1, none⟩ (.int .i64 ((rd_T38 t289 (rd t292 1)).f1))).setCell ⟨gb314, 2, none⟩ (.int .i64 ((rd_T38 t289 (rd t292 1)).f2))) = w77 at n0_ n1_ n2_ n3_ n4_ n5_ n6_ ⊢
                      have HO291 := n0_
                      have HO296 := n1_
                      have HO301 := n2_
                      have HO308 := n3_
                      have BK313 := n4_
                      have BK314 := n5_
                      have HB := n6_
                      clear n0_ n1_ n2_ n3_ n4_ n5_ n6_
                      have n0_ := Aside0.mk (Kd.R_drew HO291.out)
                      have n1_ := Aside0.mk (Kd.R_drew HO296.out)
                      have n2_ := Aside0.mk (Kd.R_drew HO301.out)
                      have n3_ := Aside0.mk (Kd.R_drew HO308.out)
                      have n4_ := Aside0.mk (blk_drew BK313.out)
                      have n5_ := Aside0.mk (blk_drew BK314.out)
                      have n6_ := Aside0.mk (below_drew1 HB.out)
                      clear HO291
                      clear HO296
                      clear HO301
                      clear HO308
                      clear BK313
                      clear BK314
                      clear HB
                      have HO291 := n0_
                      have HO296 := n1_
                      have HO301 := n2_
                      have HO308 := n3_
                      have BK313 := n4_
                      have BK314 := n5_
                      have HB := n6_
                      clear n0_ n1_ n2_ n3_ n4_ n5_ n6_
                      have p315 : 0 ≤ (0 : Int) := (by omega)
                      have q315 : 0 < (t292.length : Int) := oda
                      obtain ⟨ad315, e315, hx315_0⟩ := Kd.at_int (Kd.R_reads' HO296.out).2.2 0 p315 q315
                      obtain rfl : ad309 = ad315 := (by injection e315)
                      have qi315 : (0 < t292.length) = True := eq_true (by omega)
                      (try rw [show ((0 : Int)).toNat = 0 from rfl] at hx315_0)
                      (try rw [Addr.add_zero'] at hx315_0)
                      replace p315 := eq_true p315
                      replace q315 := eq_true q315
                      have p47 : 0 ≤ ((rd t292 0) : Int) := oda
                      have q47 : ((rd t292 0) : Int) < ((y306.length : Int) : Int) := oda
                      obtain ⟨go47, co47, eo47, gb47, gl47, cl47, HG47⟩ := Kd.R_form HO308.out (by omega)
                      (first | cases eo47 | (injection eo47 with ea_ en_ ec_; (first | subst ea_ | (injection ea_ with ea_; subst ea_)); subst ec_; clear en_))
                      have GB47 := Aside0.mk gb47
                      have GG47 := Aside0.mk HG47
                      clear gb47 gl47 HG47
                      obtain ⟨ce47, hcl47, hM47, hcc47, hfr47⟩ := Kd.R_elem HO308.out z38 ((rd t292 0) : Int) p47 q47
                      obtain rfl := k38_openM hM47
                      have hx47_0 : World.cell? _ ⟨go47, ((rd t292 0) : Int).toNat * 3, none⟩ = some (.int .i64 ((rd_T38 y306 (rd t292 0)).f0)) := hcc47 0 _ rfl
                      have hx47_1 : World.cell? _ ⟨go47, ((rd t292 0) : Int).toNat * 3 + 1, none⟩ = some (.int .i64 ((rd_T38 y306 (rd t292 0)).f1)) := hcc47 1 _ rfl
                      have hx47_2 : World.cell? _ ⟨go47, ((rd t292 0) : Int).toNat * 3 + 2, none⟩ = some (.int .i64 ((rd_T38 y306 (rd t292 0)).f2)) := hcc47 2 _ rfl
                      have hf47_0 : World.frozen? _ ⟨go47, ((rd t292 0) : Int).toNat * 3, none⟩ = false := hfr47 0
                      have hf47_1 : World.frozen? _ ⟨go47, ((rd t292 0) : Int).toNat * 3 + 1, none⟩ = false := hfr47 1
                      have hf47_2 : World.frozen? _ ⟨go47, ((rd t292 0) : Int).toNat * 3 + 2, none⟩ = false := hfr47 2
                      clear hcl47 hcc47 hfr47; (try clear hM47)
                      replace p47 := eq_true p47
                      replace q47 := eq_true q47
                      obtain ⟨ce79, hcl79, hM79, hcc79, hfr79⟩ := Kd.R_elem HO308.out z38 ((rd t292 0) : Int) (oda) (by have h_ : ((rd t292 0) : Int) < ((y306.length : Int) : Int) := oda; first | exact h_ | (have e_ := (Kd.R_reads' HO308.out).1; omega) | simpa using h_)
                      obtain rfl := k38_openM hM79
                      have HP79 := (Kd.R_seg HO308.out ((rd t292 0) : Int) (oda) (by have h_ : ((rd t292 0) : Int) < ((y306.length : Int) : Int) := oda; first | exact h_ | (have e_ := (Kd.R_reads' HO308.out).1; omega) | simpa using h_) (seg := [.int .i64 ((rd_T38 t289 (rd t292 0)).f0), .int .i64 ((rd_T38 t289 (rd t292 1)).f1), .int .i64 ((rd_T38 t289 (rd t292 1)).f2)]) (j := 0) hcl79 hcc79 (show 3 ≤ 3 from by decide) (x' := (⟨(rd_T38 t289 (rd t292 0)).f0, (rd_T38 t289 (rd t292 1)).f1, (rd_T38 t289 (rd t292 1)).f2⟩ : S38)) (k38_mkM _ _ _ (⟨(rd_T38 t289 (rd t292 0)).f0, (rd_T38 t289 (rd t292 1)).f1, (rd_T38 t289 (rd t292 1)).f2⟩ : S38) ) (fun _ hk => hk)).1
                      rw [← Ny316.out] at HP79
                      have HQ79 := Aside0.mk HP79
                      clear hcl79 hcc79 hfr79 HP79; (try clear hM79)
                      refine start_ (n := 13) (S := fun w' => w'.cell? ⟨gb313, 0, none⟩ = some (.int .i64 ((rd_T38 t289 (rd t292 0)).f0)) ∧ w'.cell? ⟨gb313, 1, none⟩ = some (.int .i64 ((rd_T38 t289 (rd t292 0)).f1)) ∧ w'.cell? ⟨gb313, 2, none⟩ = some (.int .i64 ((rd_T38 t289 (rd t292 0)).f2)) ∧ w'.cell? ⟨gb314, 0, none⟩ = some (.int .i64 ((rd_T38 t289 (rd t292 1)).f0)) ∧ w'.cell? ⟨gb314, 1, none⟩ = some (.int .i64 ((rd_T38 t289 (rd t292 1)).f1)) ∧ w'.cell? ⟨gb314, 2, none⟩ = some (.int .i64 ((rd_T38 t289 (rd t292 1)).f2)) ∧ w'.cell? ad309 = some (.int .i64 (rd t292 0))) (ds := [12]) #[false, false, false, false, false, false, false, false, false, false, false, false, false] (by kernel_rfl) rfl rfl ⟨(blk_cell BK313.out 0).trans rfl, (blk_cell BK313.out 1).trans rfl, (blk_cell BK313.out 2).trans rfl, (blk_cell BK314.out 0).trans rfl, (blk_cell BK314.out 1).trans rfl, (blk_cell BK314.out 2).trans rfl, hx315_0⟩ (fun hHeld => ?_); refine with_tabW laws_FnBallast.tab23 laws_FnBallast.bits23 (fun HT_ HW_ => ?_)
                      generalize w77.drew = w78 at HO291 HO296 HO301 HO308 BK313 BK314 HB GG47 HQ79 hf47_0 hf47_1 hf47_2 hx315_0 hx47_0 hx47_1 hx47_2 hHeld ⊢
                      refine pure_ (i := 0) (N := some 169) (v := ?_) (a' := ?_) #[true, false, false, false, false, false, false, false, false, false, false, false, false] rfl rfl (any_of HT_.out (by kernel_rfl)) (fun _ _ _ h => h) (Or.inl ⟨by rfl, ?_⟩) ?_ ?_
                      rotate_left
                      ·intro w'
                       go_simp
                       with_reducible rfl
                      rotate_left
                      ·simp only [Act.put, List.setIfInBounds_toArray, List.set_cons_zero, List.set_cons_succ, i64_w, i32_w]
                       rfl
                      refine pure_ (i := 1) (N := some 170) (v := ?_) (a' := ?_) #[true, true, false, false, false, false, false, false, false, false, false, false, false] rfl rfl (any_of HT_.out (by kernel_rfl)) (fun _ _ _ h => h) (Or.inl ⟨by rfl, ?_⟩) ?_ ?_
                      rotate_left
                      ·intro w'
                       go_simp
                       with_reducible rfl
                      rotate_left
                      ·simp only [Act.put, List.setIfInBounds_toArray, List.set_cons_zero, List.set_cons_succ, i64_w, i32_w]
                       rfl
                      refine pure_ (i := 2) (N := some 171) (v := ?_) (a' := ?_) #[true, true, true, false, false, false, false, false, false, false, false, false, false] rfl rfl (any_of HT_.out (by kernel_rfl)) (fun _ _ _ h => h) (Or.inl ⟨by rfl, ?_⟩) ?_ ?_
                      rotate_left
                      ·intro w'
                       go_simp
                       with_reducible rfl
                      rotate_left
                      ·simp only [Act.put, List.setIfInBounds_toArray, List.set_cons_zero, List.set_cons_succ, i64_w, i32_w]
                       rfl
                      refine pure_ (i := 4) (N := some 173) (v := ?_) (a' := ?_) #[true, true, true, false, true, false, false, false, false, false, false, false, false] rfl rfl (any_of HT_.out (by kernel_rfl)) (fun _ _ _ h => h) (Or.inl ⟨by rfl, ?_⟩) ?_ ?_
                      rotate_left
                      ·intro w'
                       go_simp
                       with_reducible rfl
                      rotate_left
                      ·simp only [Act.put, List.setIfInBounds_toArray, List.set_cons_zero, List.set_cons_succ, i64_w, i32_w]
                       rfl
                      refine pure_ (i := 6) (N := some 175) (v := ?_) (a' := ?_) #[true, true, true, false, true, false, true, false, false, false, false, false, false] rfl rfl (any_of HT_.out (by kernel_rfl)) (fun _ _ _ h => h) (Or.inl ⟨by rfl, ?_⟩) ?_ ?_
                      rotate_left
                      ·intro w'
                       go_simp
                       with_reducible rfl
                      rotate_left
                      ·simp only [Act.put, List.setIfInBounds_toArray, List.set_cons_zero, List.set_cons_succ, i64_w, i32_w]
                       rfl
                      refine pure_ (i := 8) (N := some 177) (v := ?_) (a' := ?_) #[true, true, true, false, true, false, true, false, true, false, false, false, false] rfl rfl (any_of HT_.out (by kernel_rfl)) (fun _ _ _ h => h) (Or.inl ⟨by rfl, ?_⟩) ?_ ?_
                      rotate_left
                      ·intro w'
                       go_simp
                       with_reducible rfl
                      rotate_left
                      ·simp only [Act.put, List.setIfInBounds_toArray, List.set_cons_zero, List.set_cons_succ, i64_w, i32_w]
                       rfl
                      refine take_ (i := 3) (N := some 172) (v := ?_) (a' := ?_) #[true, true, true, true, true, false, true, false, true, false, false, false, false] rfl rfl (take_ofW HT_.out HW_.out (by kernel_rfl)) (fun _ _ _ h => h) (Or.inl ⟨by rfl, ?_⟩) hHeld ?_ ?_
                      rotate_left
                      ·rintro w' ⟨s0, s1, s2, s3, s4, s5, s6⟩
                       go_simp
                       with_reducible rfl
                      rotate_left
                      ·simp only [Act.put, List.setIfInBounds_toArray, List.set_cons_zero, List.set_cons_succ, i64_w, i32_w]
                       rfl
                      refine take_ (i := 5) (N := some 174) (v := ?_) (a' := ?_) #[true, true, true, true, true, true, true, false, true, false, false, false, false] rfl rfl (take_ofW HT_.out HW_.out (by kernel_rfl)) (fun _ _ _ h => h) (Or.inl ⟨by rfl, ?_⟩) hHeld ?_ ?_
                      rotate_left
                      ·rintro w' ⟨s0, s1, s2, s3, s4, s5, s6⟩
                       go_simp
                       with_reducible rfl
                      rotate_left
                      ·simp only [Act.put, List.setIfInBounds_toArray, List.set_cons_zero, List.set_cons_succ, i64_w, i32_w]
                       rfl
                      refine take_ (i := 7) (N := some 176) (v := ?_) (a' := ?_) #[true, true, true, true, true, true, true, true, true, false, false, false, false] rfl rfl (take_ofW HT_.out HW_.out (by kernel_rfl)) (fun _ _ _ h => h) (Or.inl ⟨by rfl, ?_⟩) hHeld ?_ ?_
                      rotate_left
                      ·rintro w' ⟨s0, s1, s2, s3, s4, s5, s6⟩
                       go_simp
                       with_reducible rfl
                      rotate_left
                      ·simp only [Act.put, List.setIfInBounds_toArray, List.set_cons_zero, List.set_cons_succ, i64_w, i32_w]
                       rfl
                      refine take_ (i := 9) (N := some 178) (v := ?_) (a' := ?_) #[true, true, true, true, true, true, true, true, true, true, false, false, false] rfl rfl (take_ofW HT_.out HW_.out (by kernel_rfl)) (fun _ _ _ h => h) (Or.inl ⟨by rfl, ?_⟩) hHeld ?_ ?_
                      rotate_left
                      ·rintro w' ⟨s0, s1, s2, s3, s4, s5, s6⟩
                       go_simp
                       with_reducible rfl
                      rotate_left
                      ·simp only [Act.put, List.setIfInBounds_toArray, List.set_cons_zero, List.set_cons_succ, i64_w, i32_w]
                       rfl
                      refine pure_ (i := 10) (N := some 179) (v := ?_) (a' := ?_) #[true, true, true, true, true, true, true, true, true, true, true, false, false] rfl rfl (any_of HT_.out (by kernel_rfl)) (fun _ _ _ h => h) (Or.inl ⟨by rfl, ?_⟩) ?_ ?_
                      rotate_left
                      ·intro w'
                       go_simp
                       with_reducible rfl
                      rotate_left
                      ·simp only [Act.put, List.setIfInBounds_toArray, List.set_cons_zero, List.set_cons_succ, i64_w, i32_w]
                       rfl
                      refine pure_ (i := 11) (N := some 180) (v := ?_) (a' := ?_) #[true, true, true, true, true, true, true, true, true, true, true, true, false] rfl rfl (any_of HT_.out (by kernel_rfl)) (fun _ _ _ h => h) (Or.inl ⟨by rfl, ?_⟩) ?_ ?_
                      rotate_left
                      ·intro w'
                       go_simp
                       with_reducible rfl
                      rotate_left
                      ·simp only [Act.put, List.setIfInBounds_toArray, List.set_cons_zero, List.set_cons_succ, i64_w, i32_w]
                       rfl
                      refine last_ (i := 12) (N := none) #[true, true, true, true, true, true, true, true, true, true, true, true, true] rfl rfl (one_of HT_.out (by kernel_rfl)) (by decide) (fun K hK => ?_)
                      refine skip_ (w1 := ?_) (by rfl) rfl ?_ ?_
                      rotate_left
                      ·go_simp
                       rfl
                      refine hK.out _ _ ?_
                      clear hK K
                      refine done_ (done_of HT_.out (by kernel_rfl)) ?_
                      try go_wp2
                      have n0_ : Aside0 (Kd.R k38 38 (((w78.setCell ⟨go47, ((rd t292 0) : Int).toNat * 3, none⟩ (.int .i64 ((rd_T38 t289 (rd t292 0)).f0))).setCell ⟨go47, ((rd t292 0) : Int).toNat * 3 + 1, none⟩ (.int .i64 ((rd_T38 t289 (rd t292 1)).f1))).setCell ⟨go47, ((rd t292 0) : Int).toNat * 3 + 2, none⟩ (.int .i64 ((rd_T38 t289 (rd t292 1)).f2))) w.heap.size (fun k_ => some k_ ≠ (.slice (some ⟨go47, 0, none⟩) y306.length co47 : Value).ownBlock ∧ k_ ≠ gb313 ∧ k_ ≠ gb314) (.slice (some ad310) t289.length co59) t289) := ⟨by (with_reducible repeat (first | apply Kd.R_alloc | apply Kd.R_drewN | apply Kd.R_drew)); exact Kd.R_mono (Kd.R_far (p := ⟨go47, ((rd t292 0) : Int).toNat * 3 + 2, none⟩) (Kd.R_far (p := ⟨go47, ((rd t292 0) : Int).toNat * 3 + 1, none⟩) (Kd.R_far (p := ⟨go47, ((rd t292 0) : Int).toNat * 3, none⟩) (Kd.R_mono HO291.out (fun k_ hk => (⟨hk, fun e_ => hk.1 (by rw [e_]; rfl)⟩ : _ ∧ k_ ≠ go47))) (fun _ hk => hk.2) (.int .i64 ((rd_T38 t289 (rd t292 0)).f0))) (fun _ hk => hk.2) (.int .i64 ((rd_T38 t289 (rd t292 1)).f1))) (fun _ hk => hk.2) (.int .i64 ((rd_T38 t289 (rd t292 1)).f2))) (fun _ hk => ⟨hk.1.1, ⟨hk.1.2.1, hk.1.2.2⟩⟩)⟩
                      have n1_ : Aside0 (Kd.R (Kd.int .i64) 3 (((w78.setCell ⟨go47, ((rd t292 0) : Int).toNat * 3, none⟩ (.int .i64 ((rd_T38 t289 (rd t292 0)).f0))).setCell ⟨go47, ((rd t292 0) : Int).toNat * 3 + 1, none⟩ (.int .i64 ((rd_T38 t289 (rd t292 1)).f1))).setCell ⟨go47, ((rd t292 0) : Int).toNat * 3 + 2, none⟩ (.int .i64 ((rd_T38 t289 (rd t292 1)).f2))) w.heap.size (fun k_ => some k_ ≠ (.slice Ao63 t297.length co63 : Value).ownBlock) (.slice (some ad309) t292.length co62) t292) := ⟨by (with_reducible repeat (first | apply Kd.R_alloc | apply Kd.R_drewN | apply Kd.R_drew)); exact Kd.R_mono (Kd.R_far (p := ⟨go47, ((rd t292 0) : Int).toNat * 3 + 2, none⟩) (Kd.R_far (p := ⟨go47, ((rd t292 0) : Int).toNat * 3 + 1, none⟩) (Kd.R_far (p := ⟨go47, ((rd t292 0) : Int).toNat * 3, none⟩) (Kd.R_types HO296.out GG47.out (by decide)) (fun _ hk => hk.2) (.int .i64 ((rd_T38 t289 (rd t292 0)).f0))) (fun _ hk => hk.2) (.int .i64 ((rd_T38 t289 (rd t292 1)).f1))) (fun _ hk => hk.2) (.int .i64 ((rd_T38 t289 (rd t292 1)).f2))) (fun _ hk => hk.1)⟩
                      have n2_ : Aside0 (Kd.R (Kd.int .i64) 3 (((w78.setCell ⟨go47, ((rd t292 0) : Int).toNat * 3, none⟩ (.int .i64 ((rd_T38 t289 (rd t292 0)).f0))).setCell ⟨go47, ((rd t292 0) : Int).toNat * 3 + 1, none⟩ (.int .i64 ((rd_T38 t289 (rd t292 1)).f1))).setCell ⟨go47, ((rd t292 0) : Int).toNat * 3 + 2, none⟩ (.int .i64 ((rd_T38 t289 (rd t292 1)).f2))) w.heap.size (fun k_ => some k_ ≠ (.slice (some ad309) t292.length co62 : Value).ownBlock) (.slice Ao63 t297.length co63) t297) := ⟨by (with_reducible repeat (first | apply Kd.R_alloc | apply Kd.R_drewN | apply Kd.R_drew)); exact Kd.R_mono (Kd.R_far (p := ⟨go47, ((rd t292 0) : Int).toNat * 3 + 2, none⟩) (Kd.R_far (p := ⟨go47, ((rd t292 0) : Int).toNat * 3 + 1, none⟩) (Kd.R_far (p := ⟨go47, ((rd t292 0) : Int).toNat * 3, none⟩) (Kd.R_types HO301.out GG47.out (by decide)) (fun _ hk => hk.2) (.int .i64 ((rd_T38 t289 (rd t292 0)).f0))) (fun _ hk => hk.2) (.int .i64 ((rd_T38 t289 (rd t292 1)).f1))) (fun _ hk => hk.2) (.int .i64 ((rd_T38 t289 (rd t292 1)).f2))) (fun _ hk => hk.1)⟩
                      have n3_ : Aside0 (Kd.R k38 38 (((w78.setCell ⟨go47, ((rd t292 0) : Int).toNat * 3, none⟩ (.int .i64 ((rd_T38 t289 (rd t292 0)).f0))).setCell ⟨go47, ((rd t292 0) : Int).toNat * 3 + 1, none⟩ (.int .i64 ((rd_T38 t289 (rd t292 1)).f1))).setCell ⟨go47, ((rd t292 0) : Int).toNat * 3 + 2, none⟩ (.int .i64 ((rd_T38 t289 (rd t292 1)).f2))) w.heap.size (fun k_ => some k_ ≠ (.slice (some ad310) t289.length co59 : Value).ownBlock ∧ k_ ≠ gb313 ∧ k_ ≠ gb314) (.slice (some ⟨go47, 0, none⟩) y306.length co47) y316) := ⟨rdl HQ79⟩
                      have n4_ : Aside0 ((((w78.setCell ⟨go47, ((rd t292 0) : Int).toNat * 3, none⟩ (.int .i64 ((rd_T38 t289 (rd t292 0)).f0))).setCell ⟨go47, ((rd t292 0) : Int).toNat * 3 + 1, none⟩ (.int .i64 ((rd_T38 t289 (rd t292 1)).f1))).setCell ⟨go47, ((rd t292 0) : Int).toNat * 3 + 2, none⟩ (.int .i64 ((rd_T38 t289 (rd t292 1)).f2))).heap[gb313]? = some (.cells #[.int .i64 ((rd_T38 t289 (rd t292 0)).f0), .int .i64 ((rd_T38 t289 (rd t292 0)).f1), .int .i64 ((rd_T38 t289 (rd t292 0)).f2)] 38 (0, 0))) := ⟨by (with_reducible repeat (first | refine blk_drewN ?_ _ | refine blk_drew ?_ | refine blk_alloc ?_ _)); refine blk_far ?_ (by have h_ := Kd.R_away HO308.out (fun _ hk => hk.2.1); intro e_; exact h_ (by rw [e_]; rfl)) _; (with_reducible repeat (first | refine blk_drewN ?_ _ | refine blk_drew ?_ | refine blk_alloc ?_ _)); refine blk_far ?_ (by have h_ := Kd.R_away HO308.out (fun _ hk => hk.2.1); intro e_; exact h_ (by rw [e_]; rfl)) _; (with_reducible repeat (first | refine blk_drewN ?_ _ | refine blk_drew ?_ | refine blk_alloc ?_ _)); refine blk_far ?_ (by have h_ := Kd.R_away HO308.out (fun _ hk => hk.2.1); intro e_; exact h_ (by rw [e_]; rfl)) _; (with_reducible repeat (first | refine blk_drewN ?_ _ | refine blk_drew ?_ | refine blk_alloc ?_ _)); exact BK313.out⟩
                      have n5_ : Aside0 ((((w78.setCell ⟨go47, ((rd t292 0) : Int).toNat * 3, none⟩ (.int .i64 ((rd_T38 t289 (rd t292 0)).f0))).setCell ⟨go47, ((rd t292 0) : Int).toNat * 3 + 1, none⟩ (.int .i64 ((rd_T38 t289 (rd t292 1)).f1))).setCell ⟨go47, ((rd t292 0) : Int).toNat * 3 + 2, none⟩ (.int .i64 ((rd_T38 t289 (rd t292 1)).f2))).heap[gb314]? = some (.cells #[.int .i64 ((rd_T38 t289 (rd t292 1)).f0), .int .i64 ((rd_T38 t289 (rd t292 1)).f1), .int .i64 ((rd_T38 t289 (rd t292 1)).f2)] 38 (0, 0))) := ⟨by (with_reducible repeat (first | refine blk_drewN ?_ _ | refine blk_drew ?_ | refine blk_alloc ?_ _)); refine blk_far ?_ (by have h_ := Kd.R_away HO308.out (fun _ hk => hk.2.2); intro e_; exact h_ (by rw [e_]; rfl)) _; (with_reducible repeat (first | refine blk_drewN ?_ _ | refine blk_drew ?_ | refine blk_alloc ?_ _)); refine blk_far ?_ (by have h_ := Kd.R_away HO308.out (fun _ hk => hk.2.2); intro e_; exact h_ (by rw [e_]; rfl)) _; (with_reducible repeat (first | refine blk_drewN ?_ _ | refine blk_drew ?_ | refine blk_alloc ?_ _)); refine blk_far ?_ (by have h_ := Kd.R_away HO308.out (fun _ hk => hk.2.2); intro e_; exact h_ (by rw [e_]; rfl)) _; (with_reducible repeat (first | refine blk_drewN ?_ _ | refine blk_drew ?_ | refine blk_alloc ?_ _)); exact BK314.out⟩
                      have n6_ : Aside0 (Below w.heap.size w (((w78.setCell ⟨go47, ((rd t292 0) : Int).toNat * 3, none⟩ (.int .i64 ((rd_T38 t289 (rd t292 0)).f0))).setCell ⟨go47, ((rd t292 0) : Int).toNat * 3 + 1, none⟩ (.int .i64 ((rd_T38 t289 (rd t292 1)).f1))).setCell ⟨go47, ((rd t292 0) : Int).toNat * 3 + 2, none⟩ (.int .i64 ((rd_T38 t289 (rd t292 1)).f2)))) := ⟨by repeat (first | (with_reducible first | exact HB.out | apply below_alloc | apply pw_below_drewN | apply below_drew1 | refine below_set ?_ GB47.out | refine below_set ?_ GB47.out | refine below_set ?_ GB47.out | refine below_set ?_ GE313.out | refine below_set ?_ GE314.out) | exact HB.out)⟩
                      (try clear HO291)
                      (try clear HO296)
                      (try clear HO301)
                      (try clear HO308)
                      (try clear BK313)
                      (try clear BK314)
                      (try clear HB)
                      generalize (((w78.setCell ⟨go47, ((rd t292 0) : Int).toNat * 3, none⟩ (.int .i64 ((rd_T38 t289 (rd t292 0)).f0))).setCell ⟨go47, ((rd t292 0) : Int).toNat * 3 + 1, none⟩ (.int .i64 ((rd_T38 t289 (rd t292 1)).f1))).setCell ⟨go47, ((rd t292 0) : Int).toNat * 3 + 2, none⟩ (.int .i64 ((rd_T38 t289 (rd t292 1)).f2))) = w80 at n0_ n1_ n2_ n3_ n4_ n5_ n6_ ⊢
                      have HO291 := n0_
                      have HO296 := n1_
                      have HO301 := n2_
                      have HO308 := n3_
                      have BK313 := n4_
                      have BK314 := n5_
                      have HB := n6_
                      clear n0_ n1_ n2_ n3_ n4_ n5_ n6_
                      have n0_ := Aside0.mk (Kd.R_drew HO291.out)
                      have n1_ := Aside0.mk (Kd.R_drew HO296.out)
                      have n2_ := Aside0.mk (Kd.R_drew HO301.out)
                      have n3_ := Aside0.mk (Kd.R_drew HO308.out)
                      have n4_ := Aside0.mk (blk_drew BK313.out)
                      have n5_ := Aside0.mk (blk_drew BK314.out)
                      have n6_ := Aside0.mk (below_drew1 HB.out)
                      clear HO291
                      clear HO296
                      clear HO301
                      clear HO308
                      clear BK313
                      clear BK314
                      clear HB
                      have HO291 := n0_
                      have HO296 := n1_
                      have HO301 := n2_
                      have HO308 := n3_
                      have BK313 := n4_
                      have BK314 := n5_
                      have HB := n6_
                      clear n0_ n1_ n2_ n3_ n4_ n5_ n6_
                      have p317 : 0 ≤ (1 : Int) := (by omega)
                      have q317 : 1 < (t292.length : Int) := oda
                      obtain ⟨ad317, e317, hx317_0⟩ := Kd.at_int (Kd.R_reads' HO296.out).2.2 1 p317 q317
                      obtain rfl : ad309 = ad317 := (by injection e317)
                      (try simp only [show (1 : Int).toNat = 1 from rfl, Nat.reduceMul, Nat.reduceEqDiff, Go.Addr.add, ↓reduceIte] at hx317_0)
                      have qi317 : (1 < t292.length) = True := eq_true (by omega)
                      (try rw [show ((1 : Int)).toNat = 1 from rfl] at hx317_0)
                      replace p317 := eq_true p317
                      replace q317 := eq_true q317
                      have p49 : 0 ≤ ((rd t292 1) : Int) := oda
                      have q49 : ((rd t292 1) : Int) < ((y306.length : Int) : Int) := oda
                      obtain ⟨ce49, hcl49, hM49, hcc49, hfr49⟩ := Kd.R_elem HO308.out z38 ((rd t292 1) : Int) p49 q49
                      obtain rfl := k38_openM hM49
                      have hx49_0 : World.cell? _ ⟨go47, ((rd t292 1) : Int).toNat * 3, none⟩ = some (.int .i64 ((rd_T38 y316 (rd t292 1)).f0)) := hcc49 0 _ rfl
                      have hx49_1 : World.cell? _ ⟨go47, ((rd t292 1) : Int).toNat * 3 + 1, none⟩ = some (.int .i64 ((rd_T38 y316 (rd t292 1)).f1)) := hcc49 1 _ rfl
                      have hx49_2 : World.cell? _ ⟨go47, ((rd t292 1) : Int).toNat * 3 + 2, none⟩ = some (.int .i64 ((rd_T38 y316 (rd t292 1)).f2)) := hcc49 2 _ rfl
                      have hf49_0 : World.frozen? _ ⟨go47, ((rd t292 1) : Int).toNat * 3, none⟩ = false := hfr49 0
                      have hf49_1 : World.frozen? _ ⟨go47, ((rd t292 1) : Int).toNat * 3 + 1, none⟩ = false := hfr49 1
                      have hf49_2 : World.frozen? _ ⟨go47, ((rd t292 1) : Int).toNat * 3 + 2, none⟩ = false := hfr49 2
                      clear hcl49 hcc49 hfr49; (try clear hM49)
                      replace p49 := eq_true p49
                      replace q49 := eq_true q49
                      obtain ⟨ce82, hcl82, hM82, hcc82, hfr82⟩ := Kd.R_elem HO308.out z38 ((rd t292 1) : Int) (oda) (by have h_ : ((rd t292 1) : Int) < ((y306.length : Int) : Int) := oda; first | exact h_ | (have e_ := (Kd.R_reads' HO308.out).1; omega) | simpa using h_)
                      obtain rfl := k38_openM hM82
                      have HP82 := (Kd.R_seg HO308.out ((rd t292 1) : Int) (oda) (by have h_ : ((rd t292 1) : Int) < ((y306.length : Int) : Int) := oda; first | exact h_ | (have e_ := (Kd.R_reads' HO308.out).1; omega) | simpa using h_) (seg := [.int .i64 ((rd_T38 t289 (rd t292 1)).f0), .int .i64 ((rd_T38 t289 (rd t292 0)).f1), .int .i64 ((rd_T38 t289 (rd t292 0)).f2)]) (j := 0) hcl82 hcc82 (show 3 ≤ 3 from by decide) (x' := (⟨(rd_T38 t289 (rd t292 1)).f0, (rd_T38 t289 (rd t292 0)).f1, (rd_T38 t289 (rd t292 0)).f2⟩ : S38)) (k38_mkM _ _ _ (⟨(rd_T38 t289 (rd t292 1)).f0, (rd_T38 t289 (rd t292 0)).f1, (rd_T38 t289 (rd t292 0)).f2⟩ : S38) ) (fun _ hk => hk)).1
                      rw [← Ny318.out] at HP82
                      have HQ82 := Aside0.mk HP82
                      clear GG47
                      have GGx : ∃ cl47, (w80.drew).heap[go47]? = some (.cells cl47 38 (0, 0)) := by
                        obtain ⟨inner, ho⟩ := Kd.R_own HO308.out
                        exact own_typed ho go47 rfl
                      obtain ⟨cl47b, HG47b⟩ := GGx
                      have GG47 := Aside0.mk HG47b
                      clear HG47b
                      clear hcl82 hcc82 hfr82 HP82; (try clear hM82)
                      refine start_ (n := 13) (S := fun w' => w'.cell? ⟨gb314, 0, none⟩ = some (.int .i64 ((rd_T38 t289 (rd t292 1)).f0)) ∧ w'.cell? ⟨gb314, 1, none⟩ = some (.int .i64 ((rd_T38 t289 (rd t292 1)).f1)) ∧ w'.cell? ⟨gb314, 2, none⟩ = some (.int .i64 ((rd_T38 t289 (rd t292 1)).f2)) ∧ w'.cell? ⟨gb313, 0, none⟩ = some (.int .i64 ((rd_T38 t289 (rd t292 0)).f0)) ∧ w'.cell? ⟨gb313, 1, none⟩ = some (.int .i64 ((rd_T38 t289 (rd t292 0)).f1)) ∧ w'.cell? ⟨gb313, 2, none⟩ = some (.int .i64 ((rd_T38 t289 (rd t292 0)).f2)) ∧ w'.cell? ⟨ad309.block, ad309.off + 1, none⟩ = some (.int .i64 (rd t292 1))) (ds := [12]) #[false, false, false, false, false, false, false, false, false, false, false, false, false] (by kernel_rfl) rfl rfl ⟨(blk_cell BK314.out 0).trans rfl, (blk_cell BK314.out 1).trans rfl, (blk_cell BK314.out 2).trans rfl, (blk_cell BK313.out 0).trans rfl, (blk_cell BK313.out 1).trans rfl, (blk_cell BK313.out 2).trans rfl, hx317_0⟩ (fun hHeld => ?_); refine with_tabW laws_FnBallast.tab24 laws_FnBallast.bits24 (fun HT_ HW_ => ?_)
                      generalize w80.drew = w81 at HO291 HO296 HO301 HO308 BK313 BK314 HB GG47 HQ79 HQ82 hf49_0 hf49_1 hf49_2 hx317_0 hx49_0 hx49_1 hx49_2 hHeld ⊢
                      refine pure_ (i := 0) (N := some 181) (v := ?_) (a' := ?_) #[true, false, false, false, false, false, false, false, false, false, false, false, false] rfl rfl (any_of HT_.out (by kernel_rfl)) (fun _ _ _ h => h) (Or.inl ⟨by rfl, ?_⟩) ?_ ?_
                      rotate_left
                      ·intro w'
                       go_simp
                       with_reducible rfl
                      rotate_left
                      ·simp only [Act.put, List.setIfInBounds_toArray, List.set_cons_zero, List.set_cons_succ, i64_w, i32_w]
                       rfl
                      refine pure_ (i := 1) (N := some 182) (v := ?_) (a' := ?_) #[true, true, false, false, false, false, false, false, false, false, false, false, false] rfl rfl (any_of HT_.out (by kernel_rfl)) (fun _ _ _ h => h) (Or.inl ⟨by rfl, ?_⟩) ?_ ?_
                      rotate_left
                      ·intro w'
                       go_simp
                       with_reducible rfl
                      rotate_left
                      ·simp only [Act.put, List.setIfInBounds_toArray, List.set_cons_zero, List.set_cons_succ, i64_w, i32_w]
                       rfl
                      refine pure_ (i := 2) (N := some 183) (v := ?_) (a' := ?_) #[true, true, true, false, false, false, false, false, false, false, false, false, false] rfl rfl (any_of HT_.out (by kernel_rfl)) (fun _ _ _ h => h) (Or.inl ⟨by rfl, ?_⟩) ?_ ?_
                      rotate_left
                      ·intro w'
                       go_simp
                       with_reducible rfl
                      rotate_left
                      ·simp only [Act.put, List.setIfInBounds_toArray, List.set_cons_zero, List.set_cons_succ, i64_w, i32_w]
                       rfl
                      refine pure_ (i := 4) (N := some 185) (v := ?_) (a' := ?_) #[true, true, true, false, true, false, false, false, false, false, false, false, false] rfl rfl (any_of HT_.out (by kernel_rfl)) (fun _ _ _ h => h) (Or.inl ⟨by rfl, ?_⟩) ?_ ?_
                      rotate_left
                      ·intro w'
                       go_simp
                       with_reducible rfl
                      rotate_left
                      ·simp only [Act.put, List.setIfInBounds_toArray, List.set_cons_zero, List.set_cons_succ, i64_w, i32_w]
                       rfl
                      refine pure_ (i := 6) (N := some 187) (v := ?_) (a' := ?_) #[true, true, true, false, true, false, true, false, false, false, false, false, false] rfl rfl (any_of HT_.out (by kernel_rfl)) (fun _ _ _ h => h) (Or.inl ⟨by rfl, ?_⟩) ?_ ?_
                      rotate_left
                      ·intro w'
                       go_simp
                       with_reducible rfl
                      rotate_left
                      ·simp only [Act.put, List.setIfInBounds_toArray, List.set_cons_zero, List.set_cons_succ, i64_w, i32_w]
                       rfl
                      refine pure_ (i := 8) (N := some 189) (v := ?_) (a' := ?_) #[true, true, true, false, true, false, true, false, true, false, false, false, false] rfl rfl (any_of HT_.out (by kernel_rfl)) (fun _ _ _ h => h) (Or.inl ⟨by rfl, ?_⟩) ?_ ?_
                      rotate_left
                      ·intro w'
                       go_simp
                       with_reducible rfl
                      rotate_left
                      ·simp only [Act.put, List.setIfInBounds_toArray, List.set_cons_zero, List.set_cons_succ, i64_w, i32_w]
                       rfl
                      refine take_ (i := 3) (N := some 184) (v := ?_) (a' := ?_) #[true, true, true, true, true, false, true, false, true, false, false, false, false] rfl rfl (take_ofW HT_.out HW_.out (by kernel_rfl)) (fun _ _ _ h => h) (Or.inl ⟨by rfl, ?_⟩) hHeld ?_ ?_
                      rotate_left
                      ·rintro w' ⟨s0, s1, s2, s3, s4, s5, s6⟩
                       go_simp
                       with_reducible rfl
                      rotate_left
                      ·simp only [Act.put, List.setIfInBounds_toArray, List.set_cons_zero, List.set_cons_succ, i64_w, i32_w]
                       rfl
                      refine take_ (i := 5) (N := some 186) (v := ?_) (a' := ?_) #[true, true, true, true, true, true, true, false, true, false, false, false, false] rfl rfl (take_ofW HT_.out HW_.out (by kernel_rfl)) (fun _ _ _ h => h) (Or.inl ⟨by rfl, ?_⟩) hHeld ?_ ?_
                      rotate_left
                      ·rintro w' ⟨s0, s1, s2, s3, s4, s5, s6⟩
                       go_simp
                       with_reducible rfl
                      rotate_left
                      ·simp only [Act.put, List.setIfInBounds_toArray, List.set_cons_zero, List.set_cons_succ, i64_w, i32_w]
                       rfl
                      refine take_ (i := 7) (N := some 188) (v := ?_) (a' := ?_) #[true, true, true, true, true, true, true, true, true, false, false, false, false] rfl rfl (take_ofW HT_.out HW_.out (by kernel_rfl)) (fun _ _ _ h => h) (Or.inl ⟨by rfl, ?_⟩) hHeld ?_ ?_
                      rotate_left
                      ·rintro w' ⟨s0, s1, s2, s3, s4, s5, s6⟩
                       go_simp
                       with_reducible rfl
                      rotate_left
                      ·simp only [Act.put, List.setIfInBounds_toArray, List.set_cons_zero, List.set_cons_succ, i64_w, i32_w]
                       rfl
                      refine take_ (i := 9) (N := some 190) (v := ?_) (a' := ?_) #[true, true, true, true, true, true, true, true, true, true, false, false, false] rfl rfl (take_ofW HT_.out HW_.out (by kernel_rfl)) (fun _ _ _ h => h) (Or.inl ⟨by rfl, ?_⟩) hHeld ?_ ?_
                      rotate_left
                      ·rintro w' ⟨s0, s1, s2, s3, s4, s5, s6⟩
                       go_simp
                       with_reducible rfl
                      rotate_left
                      ·simp only [Act.put, List.setIfInBounds_toArray, List.set_cons_zero, List.set_cons_succ, i64_w, i32_w]
                       rfl
                      refine pure_ (i := 10) (N := some 191) (v := ?_) (a' := ?_) #[true, true, true, true, true, true, true, true, true, true, true, false, false] rfl rfl (any_of HT_.out (by kernel_rfl)) (fun _ _ _ h => h) (Or.inl ⟨by rfl, ?_⟩) ?_ ?_
                      rotate_left
                      ·intro w'
                       go_simp
                       with_reducible rfl
                      rotate_left
                      ·simp only [Act.put, List.setIfInBounds_toArray, List.set_cons_zero, List.set_cons_succ, i64_w, i32_w]
                       rfl
                      refine pure_ (i := 11) (N := some 192) (v := ?_) (a' := ?_) #[true, true, true, true, true, true, true, true, true, true, true, true, false] rfl rfl (any_of HT_.out (by kernel_rfl)) (fun _ _ _ h => h) (Or.inl ⟨by rfl, ?_⟩) ?_ ?_
                      rotate_left
                      ·intro w'
                       go_simp
                       with_reducible rfl
                      rotate_left
                      ·simp only [Act.put, List.setIfInBounds_toArray, List.set_cons_zero, List.set_cons_succ, i64_w, i32_w]
                       rfl
                      refine last_ (i := 12) (N := none) #[true, true, true, true, true, true, true, true, true, true, true, true, true] rfl rfl (one_of HT_.out (by kernel_rfl)) (by decide) (fun K hK => ?_)
                      refine skip_ (w1 := ?_) (by rfl) rfl ?_ ?_
                      rotate_left
                      ·go_simp
                       rfl
                      refine hK.out _ _ ?_
                      clear hK K
                      refine done_ (done_of HT_.out (by kernel_rfl)) ?_
                      try go_wp2_with (first | ((with_reducible refine gate_callee (f := 9) rfl ?_); refine goesL_ (some 195) rfl rfl Try.func9 (by kernel_rfl) rfl #[.slice (some ⟨go47, 0, none⟩) y318.length co47] rfl (by (try simp only [List.map_toArray, List.map_cons, List.map_nil]); first | done | (rw [show y318.length = y306.length from (Kd.R_reads' HQ82.out).1.symm] <;> rfl) | rfl | (simp only [List.length_drop, List.length_take]; rfl)) ?_; (with_reducible refine (impl_LoadMoments.calls kj8 _ _ y318 t319 t320 t321 true _ ?side1 ?side2 A50.out).mono ?_); (case side1 => refine (Kd.R_reads' (e := 38) (base := w.heap.size) (ok := fun k_ => (some k_ ≠ (.slice (some ad310) t289.length co59 : Value).ownBlock ∧ (k_ ≠ gb313 ∧ k_ ≠ gb314))) (n := y306.length) (c := co47) ?_).2.2; exact (rdl HQ82)); (case side2 => rw [show y318.length = y306.length from (Kd.R_reads' HQ82.out).1.symm]; exact (Kd.R_reads' HO308.out).2.1); rintro e w83 ⟨rfl, hb⟩; refine ⟨_, rfl, ?_⟩; have n0_ := Aside0.mk (Kd.R_below (by (with_reducible repeat (first | apply Kd.R_alloc | apply Kd.R_drewN | apply Kd.R_drew)); exact (Kd.R_mono (Kd.R_far (p := ⟨go47, ((rd t292 1) : Int).toNat * 3 + 2, none⟩) (Kd.R_far (p := ⟨go47, ((rd t292 1) : Int).toNat * 3 + 1, none⟩) (Kd.R_far (p := ⟨go47, ((rd t292 1) : Int).toNat * 3, none⟩) (Kd.R_mono HO291.out (fun k_ hk => (⟨hk, fun e_ => hk.1 (by rw [e_]; rfl)⟩ : _ ∧ k_ ≠ go47))) (fun _ hk => hk.2) (.int .i64 ((rd_T38 t289 (rd t292 1)).f0))) (fun _ hk => hk.2) (.int .i64 ((rd_T38 t289 (rd t292 0)).f1))) (fun _ hk => hk.2) (.int .i64 ((rd_T38 t289 (rd t292 0)).f2))) (fun _ h_ => h_.1))) hb); have n1_ := Aside0.mk (Kd.R_below (by (with_reducible repeat (first | apply Kd.R_alloc | apply Kd.R_drewN | apply Kd.R_drew)); exact (Kd.R_mono (Kd.R_far (p := ⟨go47, ((rd t292 1) : Int).toNat * 3 + 2, none⟩) (Kd.R_far (p := ⟨go47, ((rd t292 1) : Int).toNat * 3 + 1, none⟩) (Kd.R_far (p := ⟨go47, ((rd t292 1) : Int).toNat * 3, none⟩) (Kd.R_types HO296.out GG47.out (by decide)) (fun _ hk => hk.2) (.int .i64 ((rd_T38 t289 (rd t292 1)).f0))) (fun _ hk => hk.2) (.int .i64 ((rd_T38 t289 (rd t292 0)).f1))) (fun _ hk => hk.2) (.int .i64 ((rd_T38 t289 (rd t292 0)).f2))) (fun _ h_ => h_.1))) hb); have n2_ := Aside0.mk (Kd.R_below (by (with_reducible repeat (first | apply Kd.R_alloc | apply Kd.R_drewN | apply Kd.R_drew)); exact (Kd.R_mono (Kd.R_far (p := ⟨go47, ((rd t292 1) : Int).toNat * 3 + 2, none⟩) (Kd.R_far (p := ⟨go47, ((rd t292 1) : Int).toNat * 3 + 1, none⟩) (Kd.R_far (p := ⟨go47, ((rd t292 1) : Int).toNat * 3, none⟩) (Kd.R_types HO301.out GG47.out (by decide)) (fun _ hk => hk.2) (.int .i64 ((rd_T38 t289 (rd t292 1)).f0))) (fun _ hk => hk.2) (.int .i64 ((rd_T38 t289 (rd t292 0)).f1))) (fun _ hk => hk.2) (.int .i64 ((rd_T38 t289 (rd t292 0)).f2))) (fun _ h_ => h_.1))) hb); have n3_ := Aside0.mk (Kd.R_below (rdl HQ82) hb); have n4_ := Aside0.mk (blk_below (g := gb313) (o := .cells #[.int .i64 ((rd_T38 t289 (rd t292 0)).f0), .int .i64 ((rd_T38 t289 (rd t292 0)).f1), .int .i64 ((rd_T38 t289 (rd t292 0)).f2)] 38 (0, 0)) (by (with_reducible repeat (first | refine blk_drewN ?_ _ | refine blk_drew ?_ | refine blk_alloc ?_ _)); refine blk_far ?_ (by have h_ := Kd.R_away HO308.out (fun _ hk => hk.2.1); intro e_; exact h_ (by rw [e_]; rfl)) _; (with_reducible repeat (first | refine blk_drewN ?_ _ | refine blk_drew ?_ | refine blk_alloc ?_ _)); refine blk_far ?_ (by have h_ := Kd.R_away HO308.out (fun _ hk => hk.2.1); intro e_; exact h_ (by rw [e_]; rfl)) _; (with_reducible repeat (first | refine blk_drewN ?_ _ | refine blk_drew ?_ | refine blk_alloc ?_ _)); refine blk_far ?_ (by have h_ := Kd.R_away HO308.out (fun _ hk => hk.2.1); intro e_; exact h_ (by rw [e_]; rfl)) _; (with_reducible repeat (first | refine blk_drewN ?_ _ | refine blk_drew ?_ | refine blk_alloc ?_ _)); exact BK313.out) hb); have n5_ := Aside0.mk (blk_below (g := gb314) (o := .cells #[.int .i64 ((rd_T38 t289 (rd t292 1)).f0), .int .i64 ((rd_T38 t289 (rd t292 1)).f1), .int .i64 ((rd_T38 t289 (rd t292 1)).f2)] 38 (0, 0)) (by (with_reducible repeat (first | refine blk_drewN ?_ _ | refine blk_drew ?_ | refine blk_alloc ?_ _)); refine blk_far ?_ (by have h_ := Kd.R_away HO308.out (fun _ hk => hk.2.2); intro e_; exact h_ (by rw [e_]; rfl)) _; (with_reducible repeat (first | refine blk_drewN ?_ _ | refine blk_drew ?_ | refine blk_alloc ?_ _)); refine blk_far ?_ (by have h_ := Kd.R_away HO308.out (fun _ hk => hk.2.2); intro e_; exact h_ (by rw [e_]; rfl)) _; (with_reducible repeat (first | refine blk_drewN ?_ _ | refine blk_drew ?_ | refine blk_alloc ?_ _)); refine blk_far ?_ (by have h_ := Kd.R_away HO308.out (fun _ hk => hk.2.2); intro e_; exact h_ (by rw [e_]; rfl)) _; (with_reducible repeat (first | refine blk_drewN ?_ _ | refine blk_drew ?_ | refine blk_alloc ?_ _)); exact BK314.out) hb); have n6_ := Aside0.mk (below_step (by repeat (first | (with_reducible first | exact HB.out | apply below_alloc | apply pw_below_drewN | apply below_drew1 | refine below_set ?_ GB47.out | refine below_set ?_ GB47.out | refine below_set ?_ GB47.out | refine below_set ?_ GE313.out | refine below_set ?_ GE314.out) | exact HB.out)) hb); clear HO291; clear HO296; clear HO301; clear HO308; clear BK313; clear BK314; clear HB; have HO291 := n0_; have HO296 := n1_; have HO301 := n2_; have HO308 := n3_; have BK313 := n4_; have BK314 := n5_; have HB := n6_; clear n0_ n1_ n2_ n3_ n4_ n5_ n6_; (try clear hb); (try clear hb2); (try clear hk); (try clear hi)) | (go_at_call 10; (with_reducible refine (laws_rAbs.calls t320 t323 _ A52.out).mono ?_); rintro e w' ⟨rfl, ⟨nd, rfl⟩⟩) | ((with_reducible refine gate_callee (f := 15) rfl ?_); refine goesL_ (some 210) rfl rfl Try.func15 (by kernel_rfl) rfl #[.slice A0 l0.length c0] rfl gmp ?_; (with_reducible refine (spec_DrawIsUpright.calls kj8 _ _ l0 t324 t325 _ ?side1 ?side2 A54.out).mono ?_); (case side1 => repeat (first | exact (Kd.C_below HR0.out (bel2 HB GE313 GE314)) | (with_reducible refine Kd.C_alloc ?_ _) | (with_reducible refine Kd.C_drewN ?_ _) | (with_reducible refine Kd.C_drew ?_))); (case side2 => exact HC0.out); rintro e w84 ⟨v326, rfl, ho0, hb⟩; refine ⟨_, rfl, ?_⟩; have n0_ := Aside0.mk (Kd.R_elder' (rdl HO291) (Kd.R_base ho0) hb); have n1_ := Aside0.mk (Kd.R_below (rdl HO296) hb); have n2_ := Aside0.mk (Kd.R_below (rdl HO301) hb); have n3_ := Aside0.mk (Kd.R_elder' (rdl HO308) (Kd.R_base ho0) hb); have n4_ := Aside0.mk (Kd.R_lower (Kd.R_newB (Kd.R_newB (Kd.R_new' (Kd.R_new' ho0 (Kd.R_lt (rdl HO291))) (Kd.R_lt (rdl HO308))) (g := gb313) (o := .cells #[.int .i64 ((rd_T38 t289 (rd t292 0)).f0), .int .i64 ((rd_T38 t289 (rd t292 0)).f1), .int .i64 ((rd_T38 t289 (rd t292 0)).f2)] 38 (0, 0)) (bkl BK313)) (g := gb314) (o := .cells #[.int .i64 ((rd_T38 t289 (rd t292 1)).f0), .int .i64 ((rd_T38 t289 (rd t292 1)).f1), .int .i64 ((rd_T38 t289 (rd t292 1)).f2)] 38 (0, 0)) (bkl BK314)) (below_size (bel2 HB GE313 GE314))); have n5_ := Aside0.mk (blk_below (g := gb313) (o := .cells #[.int .i64 ((rd_T38 t289 (rd t292 0)).f0), .int .i64 ((rd_T38 t289 (rd t292 0)).f1), .int .i64 ((rd_T38 t289 (rd t292 0)).f2)] 38 (0, 0)) (bkl BK313) hb); have n6_ := Aside0.mk (blk_below (g := gb314) (o := .cells #[.int .i64 ((rd_T38 t289 (rd t292 1)).f0), .int .i64 ((rd_T38 t289 (rd t292 1)).f1), .int .i64 ((rd_T38 t289 (rd t292 1)).f2)] 38 (0, 0)) (bkl BK314) hb); have n7_ := Aside0.mk (below_step (bel2 HB GE313 GE314) hb); clear HO291; clear HO296; clear HO301; clear HO308; clear BK313; clear BK314; clear HB; have HO291 := n0_; have HO296 := n1_; have HO301 := n2_; have HO308 := n3_; have HO327 := n4_; have BK313 := n5_; have BK314 := n6_; have HB := n7_; clear n0_ n1_ n2_ n3_ n4_ n5_ n6_ n7_; (try clear hb); (try clear hb2); (try clear hk); (try clear hi); (try clear ho0); obtain ⟨Ao85, co85, eo85⟩ := Kd.R_slice HO327.out; subst eo85) | ((with_reducible refine gate_callee (f := 16) rfl ?_); refine goesL_ (some 216) rfl rfl Try.func16 (by kernel_rfl) rfl #[.slice Ao85 t324.length co85, .int .i64 t325] rfl gmp ?_; (with_reducible refine (impl_IsUpright.calls kj8 _ _ t324 t325 t328 t329 _ ?side1 ?side2 A55.out).mono ?_); (case side1 => repeat (first | exact (Kd.R_reads' HO327.out).2.2 | (with_reducible refine Kd.C_alloc ?_ _) | (with_reducible refine Kd.C_drewN ?_ _) | (with_reducible refine Kd.C_drew ?_))); (case side2 => exact (Kd.R_reads' HO327.out).2.1); rintro e w86 ⟨rfl, hb⟩; refine ⟨_, rfl, ?_⟩; have n0_ := Aside0.mk (Kd.R_below (rdl HO291) hb); have n1_ := Aside0.mk (Kd.R_below (rdl HO296) hb); have n2_ := Aside0.mk (Kd.R_below (rdl HO301) hb); have n3_ := Aside0.mk (Kd.R_below (rdl HO308) hb); have n4_ := Aside0.mk (Kd.R_below (rdl HO327) hb); have n5_ := Aside0.mk (blk_below (g := gb313) (o := .cells #[.int .i64 ((rd_T38 t289 (rd t292 0)).f0), .int .i64 ((rd_T38 t289 (rd t292 0)).f1), .int .i64 ((rd_T38 t289 (rd t292 0)).f2)] 38 (0, 0)) (bkl BK313) hb); have n6_ := Aside0.mk (blk_below (g := gb314) (o := .cells #[.int .i64 ((rd_T38 t289 (rd t292 1)).f0), .int .i64 ((rd_T38 t289 (rd t292 1)).f1), .int .i64 ((rd_T38 t289 (rd t292 1)).f2)] 38 (0, 0)) (bkl BK314) hb); have n7_ := Aside0.mk (below_step (bel2 HB GE313 GE314) hb); clear HO291; clear HO296; clear HO301; clear HO308; clear HO327; clear BK313; clear BK314; clear HB; have HO291 := n0_; have HO296 := n1_; have HO301 := n2_; have HO308 := n3_; have HO327 := n4_; have BK313 := n5_; have BK314 := n6_; have HB := n7_; clear n0_ n1_ n2_ n3_ n4_ n5_ n6_ n7_; (try clear hb); (try clear hb2); (try clear hk); (try clear hi)) | ((with_reducible refine gate_callee (f := 17) rfl ?_); refine goesL_ (some 222) rfl rfl Try.func17 (by kernel_rfl) rfl #[.slice Ao85 t324.length co85, .int .i64 t325] rfl gmp ?_; (with_reducible refine (spec_IsUpright.calls kj8 _ _ t324 t325 t330 t331 _ ?side1 ?side2 A56.out).mono ?_); (case side1 => repeat (first | exact (Kd.R_reads' HO327.out).2.2 | (with_reducible refine Kd.C_alloc ?_ _) | (with_reducible refine Kd.C_drewN ?_ _) | (with_reducible refine Kd.C_drew ?_))); (case side2 => exact (Kd.R_reads' HO327.out).2.1); rintro e w' ⟨rfl, ⟨nd, rfl⟩⟩; refine ⟨_, rfl, ?_⟩))
                      go_ret
                      exact ⟨by first | rfl | (simp [errW_none, errW_some] <;> rfl) | (simp [*, errW_none, errW_some] <;> rfl), bel2 HB GE313 GE314⟩
                     ·rw [if_neg c57] at H
                      exact absurd H (by simp)
                    ·rw [if_neg c53] at H
                     exact absurd H (by simp)
                   ·replace c51 := Bool.eq_false_iff.mpr c51
                    subst c51
                    have H1 : (none) = some r := by rw [if_neg (show ¬ (false = true) by decide)] at H; exact H
                    clear H
                    have H := H1
                    clear H1
                    exact absurd H (by simp)
                  ·rw [if_neg c48] at H
                   exact absurd H (by simp)
                 ·rw [if_neg c46] at H
                  exact absurd H (by simp)
                ·rw [if_neg c45] at H
                 exact absurd H (by simp)
               ·rw [if_neg c44] at H
                exact absurd H (by simp)
              ·rw [if_neg c43] at H
               exact absurd H (by simp)
             ·rw [if_neg c42] at H
              exact absurd H (by simp)
            ·rw [if_neg c41] at H
             exact absurd H (by simp)
           ·rw [if_neg c40] at H
            exact absurd H (by simp)
          ·rw [if_neg c39] at H
           exact absurd H (by simp)
         ·replace c38 := Bool.eq_false_iff.mpr c38
          subst c38
          have H1 : ((spec_DrawIsUpright.f kj8 l0).bind fun bt332 => ((impl_IsUpright.f kj8 bt332.1 bt332.2).bind fun bt336 => ((spec_IsUpright.f kj8 bt332.1 bt332.2).bind fun bt338 => (if (bt336.1 == bt338.1) = true then (some (bt336.2 == bt338.2)) else (none))))) = some r := by rw [if_neg (show ¬ (false = true) by decide)] at H; exact H
          clear H
          have H := H1
          clear H1
          replace H := Option.bind_eq_some_iff.mp H
          obtain ⟨⟨t332, t333⟩, A870, H⟩ := H
          replace H : ((impl_IsUpright.f kj8 t332 t333).bind fun bt336 => ((spec_IsUpright.f kj8 t332 t333).bind fun bt338 => (if (bt336.1 == bt338.1) = true then (some (bt336.2 == bt338.2)) else (none)))) = some r := H
          have A87 := Aside0.mk A870
          clear A870
          replace H := Option.bind_eq_some_iff.mp H
          obtain ⟨⟨t336, t337⟩, A880, H⟩ := H
          replace H : ((spec_IsUpright.f kj8 t332 t333).bind fun bt338 => (if (t336 == bt338.1) = true then (some (t337 == bt338.2)) else (none))) = some r := H
          have A88 := Aside0.mk A880
          clear A880
          replace H := Option.bind_eq_some_iff.mp H
          obtain ⟨⟨t338, t339⟩, A890, H⟩ := H
          replace H : (if (t336 == t338) = true then (some (t337 == t339)) else (none)) = some r := H
          have A89 := Aside0.mk A890
          clear A890
          by_cases c90 : (t336 == t338) = true
          ·rw [if_pos c90] at H
           have c90b0 : (t336 == t338) = true := c90
           (try (have c90b1 : decide (t336 = t338) = true := by simpa using c90))
           (try (have c90b2 : (t336 == t338) = true := by simpa using c90))
           clear c90
           obtain rfl := Option.some.inj H
           go_wp2_with (first | ((with_reducible refine gate_callee (f := 11) rfl ?_); refine goesL_ (some 126) rfl rfl Try.func11 (by kernel_rfl) rfl #[.slice A0 l0.length c0] rfl gmp ?_; (with_reducible refine (spec_DrawBestSwap.calls kj8 _ _ l0 t289 _ ?side1 ?side2 A31.out).mono ?_); (case side1 => exact cdl (Kd.C_below HR0.out HB.out)); (case side2 => exact HC0.out); rintro e w91 ⟨v290, rfl, ho0, hb⟩; refine ⟨_, rfl, ?_⟩; have n0_ := Aside0.mk (Kd.R_lower ho0 (below_size (bel HB))); have n1_ := Aside0.mk (below_step (bel HB) hb); clear HB; have HO291 := n0_; have HB := n1_; clear n0_ n1_; (try clear hb); (try clear hb2); (try clear hk); (try clear hi); (try clear ho0); obtain ⟨Ao92, co92, eo92⟩ := Kd.R_slice HO291.out; subst eo92) | ((with_reducible refine gate_callee (f := 12) rfl ?_); refine goesL_ (some 129) rfl rfl Try.func12 (by kernel_rfl) rfl #[.slice Ao92 t289.length co92] rfl gmp ?_; (with_reducible refine (impl_BestSwap.calls kj8 _ _ t289 t292 t293 false _ ?side1 ?side2 A32.out).mono ?_); (case side1 => repeat (first | exact (Kd.R_reads' HO291.out).2.2 | (with_reducible refine Kd.C_alloc ?_ _) | (with_reducible refine Kd.C_drewN ?_ _) | (with_reducible refine Kd.C_drew ?_))); (case side2 => exact (Kd.R_reads' HO291.out).2.1); rintro e w93 ⟨v295, rfl, ho0, hb⟩; refine ⟨_, rfl, ?_⟩; have n0_ := Aside0.mk (Kd.R_below (rdl HO291) hb); have n1_ := Aside0.mk (Kd.R_lower ho0 (below_size (bel HB))); have n2_ := Aside0.mk (below_step (bel HB) hb); clear HO291; clear HB; have HO291 := n0_; have HO296 := n1_; have HB := n2_; clear n0_ n1_ n2_; (try clear hb); (try clear hb2); (try clear hk); (try clear hi); (try clear ho0)) | ((with_reducible refine gate_callee (f := 13) rfl ?_); refine goesL_ (some 135) rfl rfl Try.func13 (by kernel_rfl) rfl #[.slice Ao92 t289.length co92] rfl gmp ?_; (with_reducible refine (spec_BestSwap.calls kj8 _ _ t289 t297 t298 t299 _ ?side1 ?side2 A33.out).mono ?_); (case side1 => repeat (first | exact (Kd.R_reads' HO291.out).2.2 | (with_reducible refine Kd.C_alloc ?_ _) | (with_reducible refine Kd.C_drewN ?_ _) | (with_reducible refine Kd.C_drew ?_))); (case side2 => exact (Kd.R_reads' HO291.out).2.1); rintro e w94 ⟨v300, rfl, ho0, hb⟩; refine ⟨_, rfl, ?_⟩; have n0_ := Aside0.mk (Kd.R_below (rdl HO291) hb); have n1_ := Aside0.mk (Kd.R_elder' (rdl HO296) (Kd.R_base ho0) hb); have n2_ := Aside0.mk (Kd.R_lower (Kd.R_new' ho0 (Kd.R_lt (rdl HO296))) (below_size (bel HB))); have n3_ := Aside0.mk (below_step (bel HB) hb); clear HO291; clear HO296; clear HB; have HO291 := n0_; have HO296 := n1_; have HO301 := n2_; have HB := n3_; clear n0_ n1_ n2_ n3_; (try clear hb); (try clear hb2); (try clear hk); (try clear hi); (try clear ho0); obtain ⟨Ao95, co95, eo95⟩ := Kd.R_slice HO296.out; subst eo95; obtain ⟨Ao96, co96, eo96⟩ := Kd.R_slice HO301.out; subst eo96) | (go_at_call 14; (with_reducible refine (laws_rInts.calls kj8 _ _ t292 _ _ t297 true _ ?side1 ?side2 ?side3 ?side4 A36.out).mono ?_); (case side1 => repeat (first | exact (Kd.R_reads' HO296.out).2.2 | (with_reducible refine Kd.C_alloc ?_ _) | (with_reducible refine Kd.C_drewN ?_ _) | (with_reducible refine Kd.C_drew ?_))); (case side2 => exact (Kd.R_reads' HO296.out).2.1); (case side3 => repeat (first | exact (Kd.R_reads' HO301.out).2.2 | (with_reducible refine Kd.C_alloc ?_ _) | (with_reducible refine Kd.C_drewN ?_ _) | (with_reducible refine Kd.C_drew ?_))); (case side4 => exact (Kd.R_reads' HO301.out).2.1); rintro e w' ⟨rfl, ⟨nd, rfl⟩⟩) | ((with_reducible refine gate_callee (f := 15) rfl ?_); refine goesL_ (some 210) rfl rfl Try.func15 (by kernel_rfl) rfl #[.slice A0 l0.length c0] rfl gmp ?_; (with_reducible refine (spec_DrawIsUpright.calls kj8 _ _ l0 t332 t333 _ ?side1 ?side2 A87.out).mono ?_); (case side1 => repeat (first | exact (Kd.C_below HR0.out (bel HB)) | (with_reducible refine Kd.C_alloc ?_ _) | (with_reducible refine Kd.C_drewN ?_ _) | (with_reducible refine Kd.C_drew ?_))); (case side2 => exact HC0.out); rintro e w97 ⟨v334, rfl, ho0, hb⟩; refine ⟨_, rfl, ?_⟩; have n0_ := Aside0.mk (Kd.R_elder' (rdl HO291) (Kd.R_base ho0) hb); have n1_ := Aside0.mk (Kd.R_below (rdl HO296) hb); have n2_ := Aside0.mk (Kd.R_below (rdl HO301) hb); have n3_ := Aside0.mk (Kd.R_lower (Kd.R_new' ho0 (Kd.R_lt (rdl HO291))) (below_size (bel HB))); have n4_ := Aside0.mk (below_step (bel HB) hb); clear HO291; clear HO296; clear HO301; clear HB; have HO291 := n0_; have HO296 := n1_; have HO301 := n2_; have HO335 := n3_; have HB := n4_; clear n0_ n1_ n2_ n3_ n4_; (try clear hb); (try clear hb2); (try clear hk); (try clear hi); (try clear ho0); obtain ⟨Ao98, co98, eo98⟩ := Kd.R_slice HO335.out; subst eo98) | ((with_reducible refine gate_callee (f := 16) rfl ?_); refine goesL_ (some 216) rfl rfl Try.func16 (by kernel_rfl) rfl #[.slice Ao98 t332.length co98, .int .i64 t333] rfl gmp ?_; (with_reducible refine (impl_IsUpright.calls kj8 _ _ t332 t333 t336 t337 _ ?side1 ?side2 A88.out).mono ?_); (case side1 => repeat (first | exact (Kd.R_reads' HO335.out).2.2 | (with_reducible refine Kd.C_alloc ?_ _) | (with_reducible refine Kd.C_drewN ?_ _) | (with_reducible refine Kd.C_drew ?_))); (case side2 => exact (Kd.R_reads' HO335.out).2.1); rintro e w99 ⟨rfl, hb⟩; refine ⟨_, rfl, ?_⟩; have n0_ := Aside0.mk (Kd.R_below (rdl HO291) hb); have n1_ := Aside0.mk (Kd.R_below (rdl HO296) hb); have n2_ := Aside0.mk (Kd.R_below (rdl HO301) hb); have n3_ := Aside0.mk (Kd.R_below (rdl HO335) hb); have n4_ := Aside0.mk (below_step (bel HB) hb); clear HO291; clear HO296; clear HO301; clear HO335; clear HB; have HO291 := n0_; have HO296 := n1_; have HO301 := n2_; have HO335 := n3_; have HB := n4_; clear n0_ n1_ n2_ n3_ n4_; (try clear hb); (try clear hb2); (try clear hk); (try clear hi)) | ((with_reducible refine gate_callee (f := 17) rfl ?_); refine goesL_ (some 222) rfl rfl Try.func17 (by kernel_rfl) rfl #[.slice Ao98 t332.length co98, .int .i64 t333] rfl gmp ?_; (with_reducible refine (spec_IsUpright.calls kj8 _ _ t332 t333 t338 t339 _ ?side1 ?side2 A89.out).mono ?_); (case side1 => repeat (first | exact (Kd.R_reads' HO335.out).2.2 | (with_reducible refine Kd.C_alloc ?_ _) | (with_reducible refine Kd.C_drewN ?_ _) | (with_reducible refine Kd.C_drew ?_))); (case side2 => exact (Kd.R_reads' HO335.out).2.1); rintro e w' ⟨rfl, ⟨nd, rfl⟩⟩; refine ⟨_, rfl, ?_⟩))
           go_ret
           exact ⟨by first | rfl | (simp [errW_none, errW_some] <;> rfl) | (simp [*, errW_none, errW_some] <;> rfl), bel HB⟩
          ·rw [if_neg c90] at H
           exact absurd H (by simp)
        ·replace c37 := Bool.eq_false_iff.mpr c37
         subst c37
         have H1 : (none) = some r := by rw [if_neg (show ¬ (false = true) by decide)] at H; exact H
         clear H
         have H := H1
         clear H1
         exact absurd H (by simp)
       ·rw [if_neg c35] at H
        exact absurd H (by simp)
  ·rw [if_neg c7] at H
   exact absurd H (by simp)

/-- THE ONE PURE STATEMENT of laws_FnBallast. -/
def laws_FnBallast.Pure : Prop := ∀ (l0 : List Int), (l0.length ≤ maxLen ∧ ∀ z340, z340 ∈ l0 → (Lit.int .u8 z340).wf = true) → ∃ k, laws_FnBallast.f k l0 = some true
theorem laws_FnBallast.walk (P : laws_FnBallast.Pure) (A0 : Option Addr) (c0 : Nat) (l0 : List Int) (w : World) (hr0 : Kd.C (Kd.int .u8) w A0 l0.length l0) (hc0 : l0.length ≤ c0) (g0 : (l0.length ≤ maxLen ∧ ∀ z341, z341 ∈ l0 → (Lit.int .u8 z341).wf = true)) :
  Calls Try.prog 3 #[.slice A0 l0.length c0] w fun e w' => e = .returned (.bool true) ∧ Below w.heap.size w w' := by
 obtain ⟨k, h⟩ := P l0 g0
 refine (laws_FnBallast.calls k _ _ l0 true w hr0 hc0 h).mono ?_
 rintro e w' ⟨rfl, hd⟩
 exact ⟨rfl, hd⟩

end Go.Proofs.Ytkahifpcimoogaa.P
