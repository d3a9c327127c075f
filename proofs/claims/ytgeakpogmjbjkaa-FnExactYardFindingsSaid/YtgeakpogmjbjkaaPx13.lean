-- Written by a program of this session over the translation (a variant of the printer, see wip/gen); Lean checks it.
import Derived.Test.YtgeakpogmjbjkaaPx0
import Derived.Test.YtgeakpogmjbjkaaPx12
namespace Go.Proofs.Ytgeakpogmjbjkaa.P
open Go.RowKit Go.Proofs.YtgeakpogmjbjkaaW.PrintWords Go.Proofs.YtgeakpogmjbjkaaW.PrintLast Go.Proofs.YtgeakpogmjbjkaaW.PrintMore
attribute [local go_sem] Go.Proofs.Ytgeakpogmjbjkaa.V.isSome_setCell max2_int min2_int max_two min_two max_three min_three max_four min_four   -- for this text's walks alone
set_option linter.unusedVariables false
set_option linter.unusedSimpArgs false

/-! ### impl_brokenRules: function 50 -/
mutual
def impl_brokenRules.j0 : Nat → Int → Int → List Int → ByteArray → Int → Int → Int → Int → ByteArray → Int → Int → Int → Int → Option (List Int)
 | 0, _, _, _, _, _, _, _, _, _, _, _, _, _ => none
 | k + 1, x2, x3, x11, x271000, x271001, x271002, x271003, x271004, x274000, x274001, x274002, x274003, x274004 => if x271001 = x274001 then (impl_brokenRules.j1 k x2 x3 x11 x271000 x271001 x271002 x271003 x271004) else (if x11.length < 17592186044416 then (impl_brokenRules.j1 k x2 x3 (x11 ++ [2]) x271000 x271001 x271002 x271003 x271004) else (none))
def impl_brokenRules.j1 : Nat → Int → Int → List Int → ByteArray → Int → Int → Int → Int → Option (List Int)
 | 0, _, _, _, _, _, _, _, _ => none
 | k + 1, x2, x3, x11, x271000, x271001, x271002, x271003, x271004 => if x271003 = 3 then (if x11.length < 17592186044416 then ((some (x11 ++ [3] : List Int)).bind fun y280 => (if x271003 = 2 then (if x3 ≥ x2 then (if y280.length < 17592186044416 then (some (y280 ++ [4])) else (none)) else (some y280)) else (some y280))) else (none)) else (if x271003 = 2 then (if x3 ≥ x2 then (if x11.length < 17592186044416 then (some (x11 ++ [4])) else (none)) else (some x11)) else (some x11))
end
def impl_brokenRules.f (k : Nat) (l0 : List Int) (l1 : List (S61)) (a2 : Int) (a3 : Int) (a4 : Int) : Option (List Int) := (some (([] : List Int) : List Int)).bind fun y265 => (if 0 ≤ a4 then (if a4 < (l0.length : Int) then (if 0 ≤ (wrap64 ((rd l0 a4) - 1)) then (if (wrap64 ((rd l0 a4) - 1)) < (l1.length : Int) then (if a4 > 0 then (if 0 ≤ (wrap64 (a4 - 1)) then (if (wrap64 (a4 - 1)) < (l0.length : Int) then (if 0 ≤ (wrap64 ((rd l0 (wrap64 (a4 - 1))) - 1)) then (if (wrap64 ((rd l0 (wrap64 (a4 - 1))) - 1)) < (l1.length : Int) then (if ((rd_T61 l1 (wrap64 ((rd l0 a4) - 1))).f2) > ((rd_T61 l1 (wrap64 ((rd l0 (wrap64 (a4 - 1))) - 1))).f2) then (if y265.length < 17592186044416 then (impl_brokenRules.j0 k a2 a3 (y265 ++ [1]) ((rd_T61 l1 (wrap64 ((rd l0 a4) - 1))).f0) ((rd_T61 l1 (wrap64 ((rd l0 a4) - 1))).f1) ((rd_T61 l1 (wrap64 ((rd l0 a4) - 1))).f2) ((rd_T61 l1 (wrap64 ((rd l0 a4) - 1))).f3) ((rd_T61 l1 (wrap64 ((rd l0 a4) - 1))).f4) ((rd_T61 l1 (wrap64 ((rd l0 (wrap64 (a4 - 1))) - 1))).f0) ((rd_T61 l1 (wrap64 ((rd l0 (wrap64 (a4 - 1))) - 1))).f1) ((rd_T61 l1 (wrap64 ((rd l0 (wrap64 (a4 - 1))) - 1))).f2) ((rd_T61 l1 (wrap64 ((rd l0 (wrap64 (a4 - 1))) - 1))).f3) ((rd_T61 l1 (wrap64 ((rd l0 (wrap64 (a4 - 1))) - 1))).f4)) else (none)) else (impl_brokenRules.j0 k a2 a3 y265 ((rd_T61 l1 (wrap64 ((rd l0 a4) - 1))).f0) ((rd_T61 l1 (wrap64 ((rd l0 a4) - 1))).f1) ((rd_T61 l1 (wrap64 ((rd l0 a4) - 1))).f2) ((rd_T61 l1 (wrap64 ((rd l0 a4) - 1))).f3) ((rd_T61 l1 (wrap64 ((rd l0 a4) - 1))).f4) ((rd_T61 l1 (wrap64 ((rd l0 (wrap64 (a4 - 1))) - 1))).f0) ((rd_T61 l1 (wrap64 ((rd l0 (wrap64 (a4 - 1))) - 1))).f1) ((rd_T61 l1 (wrap64 ((rd l0 (wrap64 (a4 - 1))) - 1))).f2) ((rd_T61 l1 (wrap64 ((rd l0 (wrap64 (a4 - 1))) - 1))).f3) ((rd_T61 l1 (wrap64 ((rd l0 (wrap64 (a4 - 1))) - 1))).f4))) else (none)) else (none)) else (none)) else (none)) else (if ((rd_T61 l1 (wrap64 ((rd l0 a4) - 1))).f3) = 2 then (if a3 ≥ a2 then (if y265.length < 17592186044416 then (some (y265 ++ [4])) else (none)) else (some y265)) else (some y265))) else (none)) else (none)) else (none)) else (none))
theorem impl_brokenRules.mono_l : ∀ k, (∀ y0 y1 y2 y3 y4 y5 y6 y7 y8 y9 y10 y11 y12, LeO (impl_brokenRules.j0 k y0 y1 y2 y3 y4 y5 y6 y7 y8 y9 y10 y11 y12) (impl_brokenRules.j0 (k + 1) y0 y1 y2 y3 y4 y5 y6 y7 y8 y9 y10 y11 y12)) ∧ (∀ y0 y1 y2 y3 y4 y5 y6 y7, LeO (impl_brokenRules.j1 k y0 y1 y2 y3 y4 y5 y6 y7) (impl_brokenRules.j1 (k + 1) y0 y1 y2 y3 y4 y5 y6 y7))
 | 0 => ⟨fun _ _ _ _ _ _ _ _ _ _ _ _ _ r h => by simp [impl_brokenRules.j0] at h, fun _ _ _ _ _ _ _ _ r h => by simp [impl_brokenRules.j1] at h⟩
 | k + 1 => by
  obtain ⟨ih0, ih1⟩ := impl_brokenRules.mono_l k
  refine ⟨?_, ?_⟩
  ·intro y0 y1 y2 y3 y4 y5 y6 y7 y8 y9 y10 y11 y12
   unfold impl_brokenRules.j0
   repeat' first
   | (with_reducible exact ih0 _ _ _ _ _ _ _ _ _ _ _ _ _)
   | (with_reducible exact ih1 _ _ _ _ _ _ _ _)
   | (with_reducible exact LeO.refl _)
   | (with_reducible exact LeO.none _)
   | (with_reducible refine LeO.ite ?_ ?_)
   | (with_reducible refine LeO.bind ?_ (fun _ => ?_))
   | exact ih0 _ _ _ _ _ _ _ _ _ _ _ _ _
   | exact ih1 _ _ _ _ _ _ _ _
   | exact LeO.none _
   | refine LeO.ite ?_ ?_
   | refine LeO.bind ?_ (fun _ => ?_)
  ·intro y0 y1 y2 y3 y4 y5 y6 y7
   unfold impl_brokenRules.j1
   repeat' first
   | (with_reducible exact ih0 _ _ _ _ _ _ _ _ _ _ _ _ _)
   | (with_reducible exact ih1 _ _ _ _ _ _ _ _)
   | (with_reducible exact LeO.refl _)
   | (with_reducible exact LeO.none _)
   | (with_reducible refine LeO.ite ?_ ?_)
   | (with_reducible refine LeO.bind ?_ (fun _ => ?_))
   | exact ih0 _ _ _ _ _ _ _ _ _ _ _ _ _
   | exact ih1 _ _ _ _ _ _ _ _
   | exact LeO.none _
   | refine LeO.ite ?_ ?_
   | refine LeO.bind ?_ (fun _ => ?_)
theorem impl_brokenRules.mono : ∀ a0 a1 a2 a3 a4 k, LeO (impl_brokenRules.f k a0 a1 a2 a3 a4) (impl_brokenRules.f (k + 1) a0 a1 a2 a3 a4) := by
 intro a0 a1 a2 a3 a4 k
 obtain ⟨ih0, ih1⟩ := impl_brokenRules.mono_l k
 unfold impl_brokenRules.f
 repeat' first
   | (with_reducible exact ih0 _ _ _ _ _ _ _ _ _ _ _ _ _)
   | (with_reducible exact ih1 _ _ _ _ _ _ _ _)
   | (with_reducible exact LeO.refl _)
   | (with_reducible exact LeO.none _)
   | (with_reducible refine LeO.ite ?_ ?_)
   | (with_reducible refine LeO.bind ?_ (fun _ => ?_))
   | exact ih0 _ _ _ _ _ _ _ _ _ _ _ _ _
   | exact ih1 _ _ _ _ _ _ _ _
   | exact LeO.none _
   | refine LeO.ite ?_ ?_
   | refine LeO.bind ?_ (fun _ => ?_)
set_option maxHeartbeats 8000000 in
set_option maxRecDepth 100000 in
theorem impl_brokenRules.calls (k : Nat) (A0 : Option Addr) (c0 : Nat) (l0 : List Int) (A1 : Option Addr) (c1 : Nat) (l1 : List (S61)) (a2 : Int) (a3 : Int) (a4 : Int) (r : List Int) (w : World) (hr0 : Kd.C (Kd.int .i64) w A0 l0.length l0) (hc0 : l0.length ≤ c0) (hr1 : Kd.C k61 w A1 l1.length l1) (hc1 : l1.length ≤ c1) (h : impl_brokenRules.f k l0 l1 a2 a3 a4 = some r) :
  Calls Try.prog 50 #[.slice A0 l0.length c0, .slice A1 l1.length c1, .int .i64 a2, .int .i64 a3, .int .i64 a4] w fun e w' => ∃ v0_ : Value, e = .returned (v0_) ∧ Kd.R (Kd.int .i64) 3 w' w.heap.size (fun _ => True) v0_ r ∧ Below w.heap.size w w' := by
 have hu61 := Try.underlying61
 have HR0 := Aside0.mk hr0
 have HC0 := Aside0.mk hc0
 clear hr0 hc0
 have HR1 := Aside0.mk hr1
 have HC1 := Aside0.mk hc1
 clear hr1 hc1
 have HB := Aside0.mk (Below.refl w.heap.size w)
 have H : ((some (([] : List Int) : List Int)).bind fun y265 => (if 0 ≤ a4 then (if a4 < (l0.length : Int) then (if 0 ≤ (wrap64 ((rd l0 a4) - 1)) then (if (wrap64 ((rd l0 a4) - 1)) < (l1.length : Int) then (if a4 > 0 then (if 0 ≤ (wrap64 (a4 - 1)) then (if (wrap64 (a4 - 1)) < (l0.length : Int) then (if 0 ≤ (wrap64 ((rd l0 (wrap64 (a4 - 1))) - 1)) then (if (wrap64 ((rd l0 (wrap64 (a4 - 1))) - 1)) < (l1.length : Int) then (if ((rd_T61 l1 (wrap64 ((rd l0 a4) - 1))).f2) > ((rd_T61 l1 (wrap64 ((rd l0 (wrap64 (a4 - 1))) - 1))).f2) then (if y265.length < 17592186044416 then (impl_brokenRules.j0 k a2 a3 (y265 ++ [1]) ((rd_T61 l1 (wrap64 ((rd l0 a4) - 1))).f0) ((rd_T61 l1 (wrap64 ((rd l0 a4) - 1))).f1) ((rd_T61 l1 (wrap64 ((rd l0 a4) - 1))).f2) ((rd_T61 l1 (wrap64 ((rd l0 a4) - 1))).f3) ((rd_T61 l1 (wrap64 ((rd l0 a4) - 1))).f4) ((rd_T61 l1 (wrap64 ((rd l0 (wrap64 (a4 - 1))) - 1))).f0) ((rd_T61 l1 (wrap64 ((rd l0 (wrap64 (a4 - 1))) - 1))).f1) ((rd_T61 l1 (wrap64 ((rd l0 (wrap64 (a4 - 1))) - 1))).f2) ((rd_T61 l1 (wrap64 ((rd l0 (wrap64 (a4 - 1))) - 1))).f3) ((rd_T61 l1 (wrap64 ((rd l0 (wrap64 (a4 - 1))) - 1))).f4)) else (none)) else (impl_brokenRules.j0 k a2 a3 y265 ((rd_T61 l1 (wrap64 ((rd l0 a4) - 1))).f0) ((rd_T61 l1 (wrap64 ((rd l0 a4) - 1))).f1) ((rd_T61 l1 (wrap64 ((rd l0 a4) - 1))).f2) ((rd_T61 l1 (wrap64 ((rd l0 a4) - 1))).f3) ((rd_T61 l1 (wrap64 ((rd l0 a4) - 1))).f4) ((rd_T61 l1 (wrap64 ((rd l0 (wrap64 (a4 - 1))) - 1))).f0) ((rd_T61 l1 (wrap64 ((rd l0 (wrap64 (a4 - 1))) - 1))).f1) ((rd_T61 l1 (wrap64 ((rd l0 (wrap64 (a4 - 1))) - 1))).f2) ((rd_T61 l1 (wrap64 ((rd l0 (wrap64 (a4 - 1))) - 1))).f3) ((rd_T61 l1 (wrap64 ((rd l0 (wrap64 (a4 - 1))) - 1))).f4))) else (none)) else (none)) else (none)) else (none)) else (if ((rd_T61 l1 (wrap64 ((rd l0 a4) - 1))).f3) = 2 then (if a3 ≥ a2 then (if y265.length < 17592186044416 then (some (y265 ++ [4])) else (none)) else (some y265)) else (some y265))) else (none)) else (none)) else (none)) else (none))) = some r := h
 clear h
 obtain ⟨y265, hy265⟩ : ∃ y_ : List Int, y_ = (([] : List Int)) := ⟨_, rfl⟩
 replace H : (if 0 ≤ a4 then (if a4 < (l0.length : Int) then (if 0 ≤ (wrap64 ((rd l0 a4) - 1)) then (if (wrap64 ((rd l0 a4) - 1)) < (l1.length : Int) then (if a4 > 0 then (if 0 ≤ (wrap64 (a4 - 1)) then (if (wrap64 (a4 - 1)) < (l0.length : Int) then (if 0 ≤ (wrap64 ((rd l0 (wrap64 (a4 - 1))) - 1)) then (if (wrap64 ((rd l0 (wrap64 (a4 - 1))) - 1)) < (l1.length : Int) then (if ((rd_T61 l1 (wrap64 ((rd l0 a4) - 1))).f2) > ((rd_T61 l1 (wrap64 ((rd l0 (wrap64 (a4 - 1))) - 1))).f2) then (if y265.length < 17592186044416 then (impl_brokenRules.j0 k a2 a3 (y265 ++ [1]) ((rd_T61 l1 (wrap64 ((rd l0 a4) - 1))).f0) ((rd_T61 l1 (wrap64 ((rd l0 a4) - 1))).f1) ((rd_T61 l1 (wrap64 ((rd l0 a4) - 1))).f2) ((rd_T61 l1 (wrap64 ((rd l0 a4) - 1))).f3) ((rd_T61 l1 (wrap64 ((rd l0 a4) - 1))).f4) ((rd_T61 l1 (wrap64 ((rd l0 (wrap64 (a4 - 1))) - 1))).f0) ((rd_T61 l1 (wrap64 ((rd l0 (wrap64 (a4 - 1))) - 1))).f1) ((rd_T61 l1 (wrap64 ((rd l0 (wrap64 (a4 - 1))) - 1))).f2) ((rd_T61 l1 (wrap64 ((rd l0 (wrap64 (a4 - 1))) - 1))).f3) ((rd_T61 l1 (wrap64 ((rd l0 (wrap64 (a4 - 1))) - 1))).f4)) else (none)) else (impl_brokenRules.j0 k a2 a3 y265 ((rd_T61 l1 (wrap64 ((rd l0 a4) - 1))).f0) ((rd_T61 l1 (wrap64 ((rd l0 a4) - 1))).f1) ((rd_T61 l1 (wrap64 ((rd l0 a4) - 1))).f2) ((rd_T61 l1 (wrap64 ((rd l0 a4) - 1))).f3) ((rd_T61 l1 (wrap64 ((rd l0 a4) - 1))).f4) ((rd_T61 l1 (wrap64 ((rd l0 (wrap64 (a4 - 1))) - 1))).f0) ((rd_T61 l1 (wrap64 ((rd l0 (wrap64 (a4 - 1))) - 1))).f1) ((rd_T61 l1 (wrap64 ((rd l0 (wrap64 (a4 - 1))) - 1))).f2) ((rd_T61 l1 (wrap64 ((rd l0 (wrap64 (a4 - 1))) - 1))).f3) ((rd_T61 l1 (wrap64 ((rd l0 (wrap64 (a4 - 1))) - 1))).f4))) else (none)) else (none)) else (none)) else (none)) else (if ((rd_T61 l1 (wrap64 ((rd l0 a4) - 1))).f3) = 2 then (if a3 ≥ a2 then (if y265.length < 17592186044416 then (some (y265 ++ [4])) else (none)) else (some y265)) else (some y265))) else (none)) else (none)) else (none)) else (none)) = some r := by first | (rw [hy265]; with_reducible exact H) | (have H2_ := (Option.bind_some _ _).symm.trans H; rw [hy265]; with_reducible exact H2_) | (have H2_ := (Option.bind_some _ _).symm.trans H; with_reducible exact H2_) | with_reducible exact H | (rw [hy265]; exact H) | exact H
 have Ny265 := Aside0.mk hy265
 clear hy265
 by_cases c6 : 0 ≤ a4
 ·rw [if_pos c6] at H
  have c6b0 : decide (0 ≤ a4) = true := decide_eq_true c6
  clear c6
  by_cases c7 : a4 < (l0.length : Int)
  ·rw [if_pos c7] at H
   have c7b0 : decide (a4 < (l0.length : Int)) = true := decide_eq_true c7
   clear c7
   obtain ⟨ji8, hji8⟩ : ∃ j_ : Int, (wrap64 ((rd l0 a4) - 1)) = j_ := ⟨_, rfl⟩
   replace H : (if 0 ≤ (ji8) then (if (ji8) < (l1.length : Int) then (if a4 > 0 then (if 0 ≤ (wrap64 (a4 - 1)) then (if (wrap64 (a4 - 1)) < (l0.length : Int) then (if 0 ≤ (wrap64 ((rd l0 (wrap64 (a4 - 1))) - 1)) then (if (wrap64 ((rd l0 (wrap64 (a4 - 1))) - 1)) < (l1.length : Int) then (if ((rd_T61 l1 (ji8)).f2) > ((rd_T61 l1 (wrap64 ((rd l0 (wrap64 (a4 - 1))) - 1))).f2) then (if y265.length < 17592186044416 then (impl_brokenRules.j0 k a2 a3 (y265 ++ [1]) ((rd_T61 l1 (ji8)).f0) ((rd_T61 l1 (ji8)).f1) ((rd_T61 l1 (ji8)).f2) ((rd_T61 l1 (ji8)).f3) ((rd_T61 l1 (ji8)).f4) ((rd_T61 l1 (wrap64 ((rd l0 (wrap64 (a4 - 1))) - 1))).f0) ((rd_T61 l1 (wrap64 ((rd l0 (wrap64 (a4 - 1))) - 1))).f1) ((rd_T61 l1 (wrap64 ((rd l0 (wrap64 (a4 - 1))) - 1))).f2) ((rd_T61 l1 (wrap64 ((rd l0 (wrap64 (a4 - 1))) - 1))).f3) ((rd_T61 l1 (wrap64 ((rd l0 (wrap64 (a4 - 1))) - 1))).f4)) else (none)) else (impl_brokenRules.j0 k a2 a3 y265 ((rd_T61 l1 (ji8)).f0) ((rd_T61 l1 (ji8)).f1) ((rd_T61 l1 (ji8)).f2) ((rd_T61 l1 (ji8)).f3) ((rd_T61 l1 (ji8)).f4) ((rd_T61 l1 (wrap64 ((rd l0 (wrap64 (a4 - 1))) - 1))).f0) ((rd_T61 l1 (wrap64 ((rd l0 (wrap64 (a4 - 1))) - 1))).f1) ((rd_T61 l1 (wrap64 ((rd l0 (wrap64 (a4 - 1))) - 1))).f2) ((rd_T61 l1 (wrap64 ((rd l0 (wrap64 (a4 - 1))) - 1))).f3) ((rd_T61 l1 (wrap64 ((rd l0 (wrap64 (a4 - 1))) - 1))).f4))) else (none)) else (none)) else (none)) else (none)) else (if ((rd_T61 l1 (ji8)).f3) = 2 then (if a3 ≥ a2 then (if y265.length < 17592186044416 then (some (y265 ++ [4])) else (none)) else (some y265)) else (some y265))) else (none)) else (none)) = some r := by first | (rw [hji8] at H; exact H) | (simp only [hji8] at H ⊢; exact H)
   have hji8w : (IntKind.i64.wrap ((rd l0 a4) - 1)) = ji8 := (i64_w _).trans hji8
   by_cases c9 : 0 ≤ (ji8)
   ·rw [if_pos c9] at H
    have c9b0 : decide (0 ≤ (ji8)) = true := decide_eq_true c9
    clear c9
    by_cases c10 : (ji8) < (l1.length : Int)
    ·rw [if_pos c10] at H
     have c10b0 : decide ((ji8) < (l1.length : Int)) = true := decide_eq_true c10
     clear c10
     by_cases c11 : a4 > 0
     ·rw [if_pos c11] at H
      have c11b0 : decide (0 < a4) = true := decide_eq_true c11
      clear c11
      obtain ⟨ji12, hji12⟩ : ∃ j_ : Int, (wrap64 (a4 - 1)) = j_ := ⟨_, rfl⟩
      replace H : (if 0 ≤ (ji12) then (if (ji12) < (l0.length : Int) then (if 0 ≤ (wrap64 ((rd l0 (ji12)) - 1)) then (if (wrap64 ((rd l0 (ji12)) - 1)) < (l1.length : Int) then (if ((rd_T61 l1 (ji8)).f2) > ((rd_T61 l1 (wrap64 ((rd l0 (ji12)) - 1))).f2) then (if y265.length < 17592186044416 then (impl_brokenRules.j0 k a2 a3 (y265 ++ [1]) ((rd_T61 l1 (ji8)).f0) ((rd_T61 l1 (ji8)).f1) ((rd_T61 l1 (ji8)).f2) ((rd_T61 l1 (ji8)).f3) ((rd_T61 l1 (ji8)).f4) ((rd_T61 l1 (wrap64 ((rd l0 (ji12)) - 1))).f0) ((rd_T61 l1 (wrap64 ((rd l0 (ji12)) - 1))).f1) ((rd_T61 l1 (wrap64 ((rd l0 (ji12)) - 1))).f2) ((rd_T61 l1 (wrap64 ((rd l0 (ji12)) - 1))).f3) ((rd_T61 l1 (wrap64 ((rd l0 (ji12)) - 1))).f4)) else (none)) else (impl_brokenRules.j0 k a2 a3 y265 ((rd_T61 l1 (ji8)).f0) ((rd_T61 l1 (ji8)).f1) ((rd_T61 l1 (ji8)).f2) ((rd_T61 l1 (ji8)).f3) ((rd_T61 l1 (ji8)).f4) ((rd_T61 l1 (wrap64 ((rd l0 (ji12)) - 1))).f0) ((rd_T61 l1 (wrap64 ((rd l0 (ji12)) - 1))).f1) ((rd_T61 l1 (wrap64 ((rd l0 (ji12)) - 1))).f2) ((rd_T61 l1 (wrap64 ((rd l0 (ji12)) - 1))).f3) ((rd_T61 l1 (wrap64 ((rd l0 (ji12)) - 1))).f4))) else (none)) else (none)) else (none)) else (none)) = some r := by first | (rw [hji12] at H; exact H) | (simp only [hji12] at H ⊢; exact H)
      have hji12w : (IntKind.i64.wrap (a4 - 1)) = ji12 := (i64_w _).trans hji12
      by_cases c13 : 0 ≤ (ji12)
      ·rw [if_pos c13] at H
       have c13b0 : decide (0 ≤ (ji12)) = true := decide_eq_true c13
       clear c13
       by_cases c14 : (ji12) < (l0.length : Int)
       ·rw [if_pos c14] at H
        have c14b0 : decide ((ji12) < (l0.length : Int)) = true := decide_eq_true c14
        clear c14
        obtain ⟨ji15, hji15⟩ : ∃ j_ : Int, (wrap64 ((rd l0 (ji12)) - 1)) = j_ := ⟨_, rfl⟩
        replace H : (if 0 ≤ (ji15) then (if (ji15) < (l1.length : Int) then (if ((rd_T61 l1 (ji8)).f2) > ((rd_T61 l1 (ji15)).f2) then (if y265.length < 17592186044416 then (impl_brokenRules.j0 k a2 a3 (y265 ++ [1]) ((rd_T61 l1 (ji8)).f0) ((rd_T61 l1 (ji8)).f1) ((rd_T61 l1 (ji8)).f2) ((rd_T61 l1 (ji8)).f3) ((rd_T61 l1 (ji8)).f4) ((rd_T61 l1 (ji15)).f0) ((rd_T61 l1 (ji15)).f1) ((rd_T61 l1 (ji15)).f2) ((rd_T61 l1 (ji15)).f3) ((rd_T61 l1 (ji15)).f4)) else (none)) else (impl_brokenRules.j0 k a2 a3 y265 ((rd_T61 l1 (ji8)).f0) ((rd_T61 l1 (ji8)).f1) ((rd_T61 l1 (ji8)).f2) ((rd_T61 l1 (ji8)).f3) ((rd_T61 l1 (ji8)).f4) ((rd_T61 l1 (ji15)).f0) ((rd_T61 l1 (ji15)).f1) ((rd_T61 l1 (ji15)).f2) ((rd_T61 l1 (ji15)).f3) ((rd_T61 l1 (ji15)).f4))) else (none)) else (none)) = some r := by first | (rw [hji15] at H; exact H) | (simp only [hji15] at H ⊢; exact H)
        have hji15w : (IntKind.i64.wrap ((rd l0 (ji12)) - 1)) = ji15 := (i64_w _).trans hji15
        by_cases c16 : 0 ≤ (ji15)
        ·rw [if_pos c16] at H
         have c16b0 : decide (0 ≤ (ji15)) = true := decide_eq_true c16
         clear c16
         by_cases c17 : (ji15) < (l1.length : Int)
         ·rw [if_pos c17] at H
          have c17b0 : decide ((ji15) < (l1.length : Int)) = true := decide_eq_true c17
          clear c17
          have HC18 := Aside0.mk H
          clear H
          go_enter Try.func50, Try.ntmps50
          go_upto_if 38 with (first | ((with_reducible refine gate_dst (N := 14) rfl ?_); refine Kd.R_lit (Kd.int .i64) _ 3 ?hg (N := 14) ?hd (xs := ([] : List Int)) (inner := []) (ok := fun _ => True) (okp := fun _ => True) ?hr ?hp (fun _ hk => hk) trivial (Below.refl _ _) (Nat.le_refl _) (by simp) ?_; (case hd => rfl); (case hg => rfl); (case hr => first | (go_simp; done) | (go_simp; rfl)); (case hp => exact (Reps.none _ _)); intro v266 w19 ho20 hb hg_ hnew_; clear hg_ hnew_; (first | rw [← Ny265.out] at ho20 | (simp only [Int.reduceToNat] at ho20; rw [← Ny265.out] at ho20)); have n0_ := Aside0.mk (Kd.R_lower ho20 (below_size (bel HB))); have n1_ := Aside0.mk (below_step (bel HB) hb); clear HB; have HO267 := n0_; have HB := n1_; clear n0_ n1_; clear hb ho20; have p268 : 0 ≤ (a4 : Int) := oda; have q268 : a4 < (l0.length : Int) := oda; obtain ⟨ad268, e268, hx268_0⟩ := Kd.at_int HR0.out a4 p268 q268; cases e268; replace hx268_0 := cel HB hx268_0; replace p268 := eq_true p268; replace q268 := eq_true q268; have p269 : 0 ≤ ((ji8) : Int) := oda; have q269 : (ji8) < (l1.length : Int) := oda; obtain ⟨ad269, e269, hx269_0, hx269_1, hx269_2, hx269_3, hx269_4⟩ := at_T61 HR1.out (ji8) p269 q269; cases e269; replace hx269_0 := cel HB hx269_0; replace hx269_1 := cel HB hx269_1; replace hx269_2 := cel HB hx269_2; replace hx269_3 := cel HB hx269_3; replace hx269_4 := cel HB hx269_4; replace p269 := eq_true p269; replace q269 := eq_true q269) | ((with_reducible refine gate_dst (N := 12) rfl ?_); refine box_event ?hg (N := 12) ?hd (cs := #[.string (⟨#[]⟩ : ByteArray), .int .i64 0, .int .i64 0, .int .i64 0, .int .i64 0]) (t := 61) ?hr ?_; (case hd => rfl); (case hg => rfl); (case hr => first | (go_simp; done) | (go_simp; rfl)); intro gb270 hg w21 hbox hb; have n0_ := Aside0.mk (Kd.R_below (rdl HO267) hb); have n1_ := Aside0.mk (below_step (bel HB) hb); have n2_ := Aside0.mk (hbox); have n3_ := Aside0.mk ((by rw [hg]; exact (below_size (bel HB)) : w.heap.size ≤ gb270)); have n4_ := Aside0.mk ((by rw [hg]; exact (below_size (bel HB)) : w.heap.size ≤ gb270)); clear HO267; clear HB; have HO267 := n0_; have HB := n1_; have BK270 := n2_; have GW270 := n3_; have GE270 := n4_; clear n0_ n1_ n2_ n3_ n4_; clear hb hbox hg; have hcz22_0 : w21.cell? ⟨gb270, 0, none⟩ = some (.string (⟨#[]⟩ : ByteArray)) := (blk_cell BK270.out 0).trans rfl; have hcz22_1 : w21.cell? ⟨gb270, 1, none⟩ = some (.int .i64 0) := (blk_cell BK270.out 1).trans rfl; have hcz22_2 : w21.cell? ⟨gb270, 2, none⟩ = some (.int .i64 0) := (blk_cell BK270.out 2).trans rfl; have hcz22_3 : w21.cell? ⟨gb270, 3, none⟩ = some (.int .i64 0) := (blk_cell BK270.out 3).trans rfl; have hcz22_4 : w21.cell? ⟨gb270, 4, none⟩ = some (.int .i64 0) := (blk_cell BK270.out 4).trans rfl; have hfz22_0 := blk_frozen BK270.out 0; have hfz22_1 := blk_frozen BK270.out 1; have hfz22_2 := blk_frozen BK270.out 2; have hfz22_3 := blk_frozen BK270.out 3; have hfz22_4 := blk_frozen BK270.out 4; have p271 : 0 ≤ ((ji12) : Int) := oda; have q271 : (ji12) < (l0.length : Int) := oda; obtain ⟨ad271, e271, hx271_0⟩ := Kd.at_int HR0.out (ji12) p271 q271; obtain rfl : ad268 = ad271 := (by injection e271); have hn271_0 : ad268.block ≠ gb270 := Nat.ne_of_lt (Nat.lt_of_lt_of_le (by have := World.block_lt_of_cell? _ _ hx271_0; first | rwa [add_block] at this | exact this) GW270.out); have hn271_1 : ad268.block ≠ gb270 := Nat.ne_of_lt (Nat.lt_of_lt_of_le (by have := World.block_lt_of_cell? _ _ hx271_0; first | rwa [add_block] at this | exact this) GW270.out); have hn271_2 : ad268.block ≠ gb270 := Nat.ne_of_lt (Nat.lt_of_lt_of_le (by have := World.block_lt_of_cell? _ _ hx271_0; first | rwa [add_block] at this | exact this) GW270.out); have hn271_3 : ad268.block ≠ gb270 := Nat.ne_of_lt (Nat.lt_of_lt_of_le (by have := World.block_lt_of_cell? _ _ hx271_0; first | rwa [add_block] at this | exact this) GW270.out); have hn271_4 : ad268.block ≠ gb270 := Nat.ne_of_lt (Nat.lt_of_lt_of_le (by have := World.block_lt_of_cell? _ _ hx271_0; first | rwa [add_block] at this | exact this) GW270.out); replace hx271_0 := cel HB hx271_0; replace hx271_0 := (cell_far (p := ⟨gb270, 0, none⟩) (by first | (rw [add_block]; exact hn271_0) | (show (Addr.add _ _).block ≠ _; rw [add_block]; exact hn271_0) | exact hn271_0) (.string ((rd_T61 l1 (ji8)).f0))).trans hx271_0; replace hx271_0 := (cell_far (p := ⟨gb270, 1, none⟩) (by first | (rw [add_block]; exact hn271_1) | (show (Addr.add _ _).block ≠ _; rw [add_block]; exact hn271_1) | exact hn271_1) (.int .i64 ((rd_T61 l1 (ji8)).f1))).trans hx271_0; replace hx271_0 := (cell_far (p := ⟨gb270, 2, none⟩) (by first | (rw [add_block]; exact hn271_2) | (show (Addr.add _ _).block ≠ _; rw [add_block]; exact hn271_2) | exact hn271_2) (.int .i64 ((rd_T61 l1 (ji8)).f2))).trans hx271_0; replace hx271_0 := (cell_far (p := ⟨gb270, 3, none⟩) (by first | (rw [add_block]; exact hn271_3) | (show (Addr.add _ _).block ≠ _; rw [add_block]; exact hn271_3) | exact hn271_3) (.int .i64 ((rd_T61 l1 (ji8)).f3))).trans hx271_0; replace hx271_0 := (cell_far (p := ⟨gb270, 4, none⟩) (by first | (rw [add_block]; exact hn271_4) | (show (Addr.add _ _).block ≠ _; rw [add_block]; exact hn271_4) | exact hn271_4) (.int .i64 ((rd_T61 l1 (ji8)).f4))).trans hx271_0; clear hn271_0; clear hn271_1; clear hn271_2; clear hn271_3; clear hn271_4; replace p271 := eq_true p271; replace q271 := eq_true q271; have p272 : 0 ≤ ((ji15) : Int) := oda; have q272 : (ji15) < (l1.length : Int) := oda; obtain ⟨ad272, e272, hx272_0, hx272_1, hx272_2, hx272_3, hx272_4⟩ := at_T61 HR1.out (ji15) p272 q272; obtain rfl : ad269 = ad272 := (by injection e272); have hn272_0 : ad269.block ≠ gb270 := Nat.ne_of_lt (Nat.lt_of_lt_of_le (by have := World.block_lt_of_cell? _ _ hx272_0; first | rwa [add_block] at this | exact this) GW270.out); have hn272_1 : ad269.block ≠ gb270 := Nat.ne_of_lt (Nat.lt_of_lt_of_le (by have := World.block_lt_of_cell? _ _ hx272_0; first | rwa [add_block] at this | exact this) GW270.out); have hn272_2 : ad269.block ≠ gb270 := Nat.ne_of_lt (Nat.lt_of_lt_of_le (by have := World.block_lt_of_cell? _ _ hx272_0; first | rwa [add_block] at this | exact this) GW270.out); have hn272_3 : ad269.block ≠ gb270 := Nat.ne_of_lt (Nat.lt_of_lt_of_le (by have := World.block_lt_of_cell? _ _ hx272_0; first | rwa [add_block] at this | exact this) GW270.out); have hn272_4 : ad269.block ≠ gb270 := Nat.ne_of_lt (Nat.lt_of_lt_of_le (by have := World.block_lt_of_cell? _ _ hx272_0; first | rwa [add_block] at this | exact this) GW270.out); replace hx272_0 := cel HB hx272_0; replace hx272_1 := cel HB hx272_1; replace hx272_2 := cel HB hx272_2; replace hx272_3 := cel HB hx272_3; replace hx272_4 := cel HB hx272_4; replace hx272_0 := (cell_far (p := ⟨gb270, 0, none⟩) (by first | (rw [add_block]; exact hn272_0) | (show (Addr.add _ _).block ≠ _; rw [add_block]; exact hn272_0) | exact hn272_0) (.string ((rd_T61 l1 (ji8)).f0))).trans hx272_0; replace hx272_1 := (cell_far (p := ⟨gb270, 0, none⟩) (by first | (rw [add_block]; exact hn272_0) | (show (Addr.add _ _).block ≠ _; rw [add_block]; exact hn272_0) | exact hn272_0) (.string ((rd_T61 l1 (ji8)).f0))).trans hx272_1; replace hx272_2 := (cell_far (p := ⟨gb270, 0, none⟩) (by first | (rw [add_block]; exact hn272_0) | (show (Addr.add _ _).block ≠ _; rw [add_block]; exact hn272_0) | exact hn272_0) (.string ((rd_T61 l1 (ji8)).f0))).trans hx272_2; replace hx272_3 := (cell_far (p := ⟨gb270, 0, none⟩) (by first | (rw [add_block]; exact hn272_0) | (show (Addr.add _ _).block ≠ _; rw [add_block]; exact hn272_0) | exact hn272_0) (.string ((rd_T61 l1 (ji8)).f0))).trans hx272_3; replace hx272_4 := (cell_far (p := ⟨gb270, 0, none⟩) (by first | (rw [add_block]; exact hn272_0) | (show (Addr.add _ _).block ≠ _; rw [add_block]; exact hn272_0) | exact hn272_0) (.string ((rd_T61 l1 (ji8)).f0))).trans hx272_4; replace hx272_0 := (cell_far (p := ⟨gb270, 1, none⟩) (by first | (rw [add_block]; exact hn272_1) | (show (Addr.add _ _).block ≠ _; rw [add_block]; exact hn272_1) | exact hn272_1) (.int .i64 ((rd_T61 l1 (ji8)).f1))).trans hx272_0; replace hx272_1 := (cell_far (p := ⟨gb270, 1, none⟩) (by first | (rw [add_block]; exact hn272_1) | (show (Addr.add _ _).block ≠ _; rw [add_block]; exact hn272_1) | exact hn272_1) (.int .i64 ((rd_T61 l1 (ji8)).f1))).trans hx272_1; replace hx272_2 := (cell_far (p := ⟨gb270, 1, none⟩) (by first | (rw [add_block]; exact hn272_1) | (show (Addr.add _ _).block ≠ _; rw [add_block]; exact hn272_1) | exact hn272_1) (.int .i64 ((rd_T61 l1 (ji8)).f1))).trans hx272_2; replace hx272_3 := (cell_far (p := ⟨gb270, 1, none⟩) (by first | (rw [add_block]; exact hn272_1) | (show (Addr.add _ _).block ≠ _; rw [add_block]; exact hn272_1) | exact hn272_1) (.int .i64 ((rd_T61 l1 (ji8)).f1))).trans hx272_3; replace hx272_4 := (cell_far (p := ⟨gb270, 1, none⟩) (by first | (rw [add_block]; exact hn272_1) | (show (Addr.add _ _).block ≠ _; rw [add_block]; exact hn272_1) | exact hn272_1) (.int .i64 ((rd_T61 l1 (ji8)).f1))).trans hx272_4; replace hx272_0 := (cell_far (p := ⟨gb270, 2, none⟩) (by first | (rw [add_block]; exact hn272_2) | (show (Addr.add _ _).block ≠ _; rw [add_block]; exact hn272_2) | exact hn272_2) (.int .i64 ((rd_T61 l1 (ji8)).f2))).trans hx272_0; replace hx272_1 := (cell_far (p := ⟨gb270, 2, none⟩) (by first | (rw [add_block]; exact hn272_2) | (show (Addr.add _ _).block ≠ _; rw [add_block]; exact hn272_2) | exact hn272_2) (.int .i64 ((rd_T61 l1 (ji8)).f2))).trans hx272_1; replace hx272_2 := (cell_far (p := ⟨gb270, 2, none⟩) (by first | (rw [add_block]; exact hn272_2) | (show (Addr.add _ _).block ≠ _; rw [add_block]; exact hn272_2) | exact hn272_2) (.int .i64 ((rd_T61 l1 (ji8)).f2))).trans hx272_2; replace hx272_3 := (cell_far (p := ⟨gb270, 2, none⟩) (by first | (rw [add_block]; exact hn272_2) | (show (Addr.add _ _).block ≠ _; rw [add_block]; exact hn272_2) | exact hn272_2) (.int .i64 ((rd_T61 l1 (ji8)).f2))).trans hx272_3; replace hx272_4 := (cell_far (p := ⟨gb270, 2, none⟩) (by first | (rw [add_block]; exact hn272_2) | (show (Addr.add _ _).block ≠ _; rw [add_block]; exact hn272_2) | exact hn272_2) (.int .i64 ((rd_T61 l1 (ji8)).f2))).trans hx272_4; replace hx272_0 := (cell_far (p := ⟨gb270, 3, none⟩) (by first | (rw [add_block]; exact hn272_3) | (show (Addr.add _ _).block ≠ _; rw [add_block]; exact hn272_3) | exact hn272_3) (.int .i64 ((rd_T61 l1 (ji8)).f3))).trans hx272_0; replace hx272_1 := (cell_far (p := ⟨gb270, 3, none⟩) (by first | (rw [add_block]; exact hn272_3) | (show (Addr.add _ _).block ≠ _; rw [add_block]; exact hn272_3) | exact hn272_3) (.int .i64 ((rd_T61 l1 (ji8)).f3))).trans hx272_1; replace hx272_2 := (cell_far (p := ⟨gb270, 3, none⟩) (by first | (rw [add_block]; exact hn272_3) | (show (Addr.add _ _).block ≠ _; rw [add_block]; exact hn272_3) | exact hn272_3) (.int .i64 ((rd_T61 l1 (ji8)).f3))).trans hx272_2; replace hx272_3 := (cell_far (p := ⟨gb270, 3, none⟩) (by first | (rw [add_block]; exact hn272_3) | (show (Addr.add _ _).block ≠ _; rw [add_block]; exact hn272_3) | exact hn272_3) (.int .i64 ((rd_T61 l1 (ji8)).f3))).trans hx272_3; replace hx272_4 := (cell_far (p := ⟨gb270, 3, none⟩) (by first | (rw [add_block]; exact hn272_3) | (show (Addr.add _ _).block ≠ _; rw [add_block]; exact hn272_3) | exact hn272_3) (.int .i64 ((rd_T61 l1 (ji8)).f3))).trans hx272_4; replace hx272_0 := (cell_far (p := ⟨gb270, 4, none⟩) (by first | (rw [add_block]; exact hn272_4) | (show (Addr.add _ _).block ≠ _; rw [add_block]; exact hn272_4) | exact hn272_4) (.int .i64 ((rd_T61 l1 (ji8)).f4))).trans hx272_0; replace hx272_1 := (cell_far (p := ⟨gb270, 4, none⟩) (by first | (rw [add_block]; exact hn272_4) | (show (Addr.add _ _).block ≠ _; rw [add_block]; exact hn272_4) | exact hn272_4) (.int .i64 ((rd_T61 l1 (ji8)).f4))).trans hx272_1; replace hx272_2 := (cell_far (p := ⟨gb270, 4, none⟩) (by first | (rw [add_block]; exact hn272_4) | (show (Addr.add _ _).block ≠ _; rw [add_block]; exact hn272_4) | exact hn272_4) (.int .i64 ((rd_T61 l1 (ji8)).f4))).trans hx272_2; replace hx272_3 := (cell_far (p := ⟨gb270, 4, none⟩) (by first | (rw [add_block]; exact hn272_4) | (show (Addr.add _ _).block ≠ _; rw [add_block]; exact hn272_4) | exact hn272_4) (.int .i64 ((rd_T61 l1 (ji8)).f4))).trans hx272_3; replace hx272_4 := (cell_far (p := ⟨gb270, 4, none⟩) (by first | (rw [add_block]; exact hn272_4) | (show (Addr.add _ _).block ≠ _; rw [add_block]; exact hn272_4) | exact hn272_4) (.int .i64 ((rd_T61 l1 (ji8)).f4))).trans hx272_4; clear hn272_0; clear hn272_1; clear hn272_2; clear hn272_3; clear hn272_4; replace p272 := eq_true p272; replace q272 := eq_true q272) | ((with_reducible refine gate_dst (N := 13) rfl ?_); refine box_event ?hg (N := 13) ?hd (cs := #[.string (⟨#[]⟩ : ByteArray), .int .i64 0, .int .i64 0, .int .i64 0, .int .i64 0]) (t := 61) ?hr ?_; (case hd => rfl); (case hg => rfl); (case hr => first | (go_simp; done) | (go_simp; rfl)); intro gb273 hg w23 hbox hb; have n0_ := Aside0.mk (Kd.R_below (by (with_reducible repeat (first | apply Kd.R_alloc | apply Kd.R_drewN | apply Kd.R_drew)); exact (Kd.R_mono (Kd.R_far (p := ⟨gb270, 4, none⟩) (Kd.R_far (p := ⟨gb270, 3, none⟩) (Kd.R_far (p := ⟨gb270, 2, none⟩) (Kd.R_far (p := ⟨gb270, 1, none⟩) (Kd.R_far (p := ⟨gb270, 0, none⟩) (Kd.R_types HO267.out BK270.out (by decide)) (fun _ hk => hk.2) (.string ((rd_T61 l1 (ji8)).f0))) (fun _ hk => hk.2) (.int .i64 ((rd_T61 l1 (ji8)).f1))) (fun _ hk => hk.2) (.int .i64 ((rd_T61 l1 (ji8)).f2))) (fun _ hk => hk.2) (.int .i64 ((rd_T61 l1 (ji8)).f3))) (fun _ hk => hk.2) (.int .i64 ((rd_T61 l1 (ji8)).f4))) (fun _ h_ => h_.1))) hb); have n1_ := Aside0.mk (blk_below (g := gb270) (o := .cells #[.string ((rd_T61 l1 (ji8)).f0), .int .i64 ((rd_T61 l1 (ji8)).f1), .int .i64 ((rd_T61 l1 (ji8)).f2), .int .i64 ((rd_T61 l1 (ji8)).f3), .int .i64 ((rd_T61 l1 (ji8)).f4)] 61 (0, 0)) (by (with_reducible repeat (first | refine blk_drewN ?_ _ | refine blk_drew ?_ | refine blk_alloc ?_ _)); refine blk_put (cs := #[.string ((rd_T61 l1 (ji8)).f0), .int .i64 ((rd_T61 l1 (ji8)).f1), .int .i64 ((rd_T61 l1 (ji8)).f2), .int .i64 ((rd_T61 l1 (ji8)).f3), .int .i64 0]) ?_ 4 _ rfl; (with_reducible repeat (first | refine blk_drewN ?_ _ | refine blk_drew ?_ | refine blk_alloc ?_ _)); refine blk_put (cs := #[.string ((rd_T61 l1 (ji8)).f0), .int .i64 ((rd_T61 l1 (ji8)).f1), .int .i64 ((rd_T61 l1 (ji8)).f2), .int .i64 0, .int .i64 0]) ?_ 3 _ rfl; (with_reducible repeat (first | refine blk_drewN ?_ _ | refine blk_drew ?_ | refine blk_alloc ?_ _)); refine blk_put (cs := #[.string ((rd_T61 l1 (ji8)).f0), .int .i64 ((rd_T61 l1 (ji8)).f1), .int .i64 0, .int .i64 0, .int .i64 0]) ?_ 2 _ rfl; (with_reducible repeat (first | refine blk_drewN ?_ _ | refine blk_drew ?_ | refine blk_alloc ?_ _)); refine blk_put (cs := #[.string ((rd_T61 l1 (ji8)).f0), .int .i64 0, .int .i64 0, .int .i64 0, .int .i64 0]) ?_ 1 _ rfl; (with_reducible repeat (first | refine blk_drewN ?_ _ | refine blk_drew ?_ | refine blk_alloc ?_ _)); refine blk_put (cs := #[.string (⟨#[]⟩ : ByteArray), .int .i64 0, .int .i64 0, .int .i64 0, .int .i64 0]) ?_ 0 _ rfl; (with_reducible repeat (first | refine blk_drewN ?_ _ | refine blk_drew ?_ | refine blk_alloc ?_ _)); exact BK270.out) hb); have n2_ := Aside0.mk (below_step (bel1 HB GE270) hb); have n3_ := Aside0.mk (hbox); have n4_ := Aside0.mk ((by rw [hg]; exact (below_size (bel1 HB GE270)) : w.heap.size ≤ gb273)); have n5_ := Aside0.mk ((by rw [hg]; exact (below_size (bel1 HB GE270)) : w.heap.size ≤ gb273)); have n6_ := Aside0.mk ((by rw [hg]; exact Nat.ne_of_lt (blk_lt (g := gb270) (o := .cells #[.string ((rd_T61 l1 (ji8)).f0), .int .i64 ((rd_T61 l1 (ji8)).f1), .int .i64 ((rd_T61 l1 (ji8)).f2), .int .i64 ((rd_T61 l1 (ji8)).f3), .int .i64 ((rd_T61 l1 (ji8)).f4)] 61 (0, 0)) (by (with_reducible repeat (first | refine blk_drewN ?_ _ | refine blk_drew ?_ | refine blk_alloc ?_ _)); refine blk_put (cs := #[.string ((rd_T61 l1 (ji8)).f0), .int .i64 ((rd_T61 l1 (ji8)).f1), .int .i64 ((rd_T61 l1 (ji8)).f2), .int .i64 ((rd_T61 l1 (ji8)).f3), .int .i64 0]) ?_ 4 _ rfl; (with_reducible repeat (first | refine blk_drewN ?_ _ | refine blk_drew ?_ | refine blk_alloc ?_ _)); refine blk_put (cs := #[.string ((rd_T61 l1 (ji8)).f0), .int .i64 ((rd_T61 l1 (ji8)).f1), .int .i64 ((rd_T61 l1 (ji8)).f2), .int .i64 0, .int .i64 0]) ?_ 3 _ rfl; (with_reducible repeat (first | refine blk_drewN ?_ _ | refine blk_drew ?_ | refine blk_alloc ?_ _)); refine blk_put (cs := #[.string ((rd_T61 l1 (ji8)).f0), .int .i64 ((rd_T61 l1 (ji8)).f1), .int .i64 0, .int .i64 0, .int .i64 0]) ?_ 2 _ rfl; (with_reducible repeat (first | refine blk_drewN ?_ _ | refine blk_drew ?_ | refine blk_alloc ?_ _)); refine blk_put (cs := #[.string ((rd_T61 l1 (ji8)).f0), .int .i64 0, .int .i64 0, .int .i64 0, .int .i64 0]) ?_ 1 _ rfl; (with_reducible repeat (first | refine blk_drewN ?_ _ | refine blk_drew ?_ | refine blk_alloc ?_ _)); refine blk_put (cs := #[.string (⟨#[]⟩ : ByteArray), .int .i64 0, .int .i64 0, .int .i64 0, .int .i64 0]) ?_ 0 _ rfl; (with_reducible repeat (first | refine blk_drewN ?_ _ | refine blk_drew ?_ | refine blk_alloc ?_ _)); exact BK270.out)) : gb270 ≠ gb273)); have n7_ := Aside0.mk ((by rw [hg]; exact Nat.ne_of_gt (blk_lt (g := gb270) (o := .cells #[.string ((rd_T61 l1 (ji8)).f0), .int .i64 ((rd_T61 l1 (ji8)).f1), .int .i64 ((rd_T61 l1 (ji8)).f2), .int .i64 ((rd_T61 l1 (ji8)).f3), .int .i64 ((rd_T61 l1 (ji8)).f4)] 61 (0, 0)) (by (with_reducible repeat (first | refine blk_drewN ?_ _ | refine blk_drew ?_ | refine blk_alloc ?_ _)); refine blk_put (cs := #[.string ((rd_T61 l1 (ji8)).f0), .int .i64 ((rd_T61 l1 (ji8)).f1), .int .i64 ((rd_T61 l1 (ji8)).f2), .int .i64 ((rd_T61 l1 (ji8)).f3), .int .i64 0]) ?_ 4 _ rfl; (with_reducible repeat (first | refine blk_drewN ?_ _ | refine blk_drew ?_ | refine blk_alloc ?_ _)); refine blk_put (cs := #[.string ((rd_T61 l1 (ji8)).f0), .int .i64 ((rd_T61 l1 (ji8)).f1), .int .i64 ((rd_T61 l1 (ji8)).f2), .int .i64 0, .int .i64 0]) ?_ 3 _ rfl; (with_reducible repeat (first | refine blk_drewN ?_ _ | refine blk_drew ?_ | refine blk_alloc ?_ _)); refine blk_put (cs := #[.string ((rd_T61 l1 (ji8)).f0), .int .i64 ((rd_T61 l1 (ji8)).f1), .int .i64 0, .int .i64 0, .int .i64 0]) ?_ 2 _ rfl; (with_reducible repeat (first | refine blk_drewN ?_ _ | refine blk_drew ?_ | refine blk_alloc ?_ _)); refine blk_put (cs := #[.string ((rd_T61 l1 (ji8)).f0), .int .i64 0, .int .i64 0, .int .i64 0, .int .i64 0]) ?_ 1 _ rfl; (with_reducible repeat (first | refine blk_drewN ?_ _ | refine blk_drew ?_ | refine blk_alloc ?_ _)); refine blk_put (cs := #[.string (⟨#[]⟩ : ByteArray), .int .i64 0, .int .i64 0, .int .i64 0, .int .i64 0]) ?_ 0 _ rfl; (with_reducible repeat (first | refine blk_drewN ?_ _ | refine blk_drew ?_ | refine blk_alloc ?_ _)); exact BK270.out)) : gb273 ≠ gb270)); clear HO267; clear BK270; clear HB; have HO267 := n0_; have BK270 := n1_; have HB := n2_; have BK273 := n3_; have GW273 := n4_; have GE273 := n5_; have NB270_273 := n6_; have NB273_270 := n7_; clear n0_ n1_ n2_ n3_ n4_ n5_ n6_ n7_; clear hb hbox hg; have hnb24 := NB273_270.out; have hnc24 := NB270_273.out; have hcz25_0 : w23.cell? ⟨gb273, 0, none⟩ = some (.string (⟨#[]⟩ : ByteArray)) := (blk_cell BK273.out 0).trans rfl; have hcz25_1 : w23.cell? ⟨gb273, 1, none⟩ = some (.int .i64 0) := (blk_cell BK273.out 1).trans rfl; have hcz25_2 : w23.cell? ⟨gb273, 2, none⟩ = some (.int .i64 0) := (blk_cell BK273.out 2).trans rfl; have hcz25_3 : w23.cell? ⟨gb273, 3, none⟩ = some (.int .i64 0) := (blk_cell BK273.out 3).trans rfl; have hcz25_4 : w23.cell? ⟨gb273, 4, none⟩ = some (.int .i64 0) := (blk_cell BK273.out 4).trans rfl; have hfz25_0 := blk_frozen BK273.out 0; have hfz25_1 := blk_frozen BK273.out 1; have hfz25_2 := blk_frozen BK273.out 2; have hfz25_3 := blk_frozen BK273.out 3; have hfz25_4 := blk_frozen BK273.out 4; have hcz26_0 : w23.cell? ⟨gb270, 0, none⟩ = some (.string ((rd_T61 l1 (ji8)).f0)) := (blk_cell BK270.out 0).trans rfl; have hcz26_1 : w23.cell? ⟨gb270, 1, none⟩ = some (.int .i64 ((rd_T61 l1 (ji8)).f1)) := (blk_cell BK270.out 1).trans rfl; have hcz26_2 : w23.cell? ⟨gb270, 2, none⟩ = some (.int .i64 ((rd_T61 l1 (ji8)).f2)) := (blk_cell BK270.out 2).trans rfl; have hcz26_3 : w23.cell? ⟨gb270, 3, none⟩ = some (.int .i64 ((rd_T61 l1 (ji8)).f3)) := (blk_cell BK270.out 3).trans rfl; have hcz26_4 : w23.cell? ⟨gb270, 4, none⟩ = some (.int .i64 ((rd_T61 l1 (ji8)).f4)) := (blk_cell BK270.out 4).trans rfl; have hfz26_0 := blk_frozen BK270.out 0; have hfz26_1 := blk_frozen BK270.out 1; have hfz26_2 := blk_frozen BK270.out 2; have hfz26_3 := blk_frozen BK270.out 3; have hfz26_4 := blk_frozen BK270.out 4))
          (try simp only [Act.put, List.setIfInBounds_toArray, List.set_cons_zero, List.set_cons_succ])
          go_cut [11] (fun v11 wc => ∃ (kq : Nat) (x11_17 : List Int), Aside0 (impl_brokenRules.j0 kq a2 a3 x11_17 ((rd_T61 l1 (ji8)).f0) ((rd_T61 l1 (ji8)).f1) ((rd_T61 l1 (ji8)).f2) ((rd_T61 l1 (ji8)).f3) ((rd_T61 l1 (ji8)).f4) ((rd_T61 l1 (ji15)).f0) ((rd_T61 l1 (ji15)).f1) ((rd_T61 l1 (ji15)).f2) ((rd_T61 l1 (ji15)).f3) ((rd_T61 l1 (ji15)).f4) = some r) ∧ Aside0 (kq ≤ k) ∧ Aside0 (Kd.R (Kd.int .i64) 3 wc w.heap.size (fun _ => True) v11 x11_17) ∧ Aside0 (wc.heap[gb270]? = some (.cells #[.string ((rd_T61 l1 (ji8)).f0), .int .i64 ((rd_T61 l1 (ji8)).f1), .int .i64 ((rd_T61 l1 (ji8)).f2), .int .i64 ((rd_T61 l1 (ji8)).f3), .int .i64 ((rd_T61 l1 (ji8)).f4)] 61 (0, 0))) ∧ Aside0 (wc.heap[gb273]? = some (.cells #[.string ((rd_T61 l1 (ji15)).f0), .int .i64 ((rd_T61 l1 (ji15)).f1), .int .i64 ((rd_T61 l1 (ji15)).f2), .int .i64 ((rd_T61 l1 (ji15)).f3), .int .i64 ((rd_T61 l1 (ji15)).f4)] 61 (0, 0))) ∧ Aside0 (Below w.heap.size w wc))
          case first =>
           have H := HC18.out
           clear HC18
           by_cases c27 : ((rd_T61 l1 (ji8)).f2) > ((rd_T61 l1 (ji15)).f2)
           ·rw [if_pos c27] at H
            have c27b0 : decide (((rd_T61 l1 (ji15)).f2) < ((rd_T61 l1 (ji8)).f2)) = true := decide_eq_true c27
            clear c27
            (first | rw [c27b0] | (simp only [i64_w, i32_w]; rw [c27b0]) | skip)
            by_cases c28 : y265.length < 17592186044416
            ·rw [if_pos c28] at H
             have LMc28 := Aside0.mk c28
             clear c28
             obtain ⟨y274, hy274⟩ : ∃ y_ : List Int, y_ = (y265 ++ [1]) := ⟨_, rfl⟩
             replace H : (impl_brokenRules.j0 k a2 a3 y274 ((rd_T61 l1 (ji8)).f0) ((rd_T61 l1 (ji8)).f1) ((rd_T61 l1 (ji8)).f2) ((rd_T61 l1 (ji8)).f3) ((rd_T61 l1 (ji8)).f4) ((rd_T61 l1 (ji15)).f0) ((rd_T61 l1 (ji15)).f1) ((rd_T61 l1 (ji15)).f2) ((rd_T61 l1 (ji15)).f3) ((rd_T61 l1 (ji15)).f4)) = some r := by first | (rw [hy274]; with_reducible exact H) | (have H2_ := (Option.bind_some _ _).symm.trans H; rw [hy274]; with_reducible exact H2_) | (have H2_ := (Option.bind_some _ _).symm.trans H; with_reducible exact H2_) | with_reducible exact H | (rw [hy274]; exact H) | exact H
             have Ny274 := Aside0.mk hy274
             clear hy274
             have H' := Aside0.mk H
             clear H
             go_wp2_with (first | ((with_reducible refine gate_builtin (b := .append) (xs := #[.tmp 39, .tmp 40]) rfl ?_); at_builtin; refine Kd.R_append (Kd.int .i64) (w0 := w) w.heap.size rfl (.tmp 39) (.tmp 40) 28 3 (.int .i64 0) 8 rfl Try.underlying28 info3 rfl (by decide) (by omega) v266 y265 1 [.int .i64 1] (fun _ => True) (fun _ => False) rfl (by first | (go_simp; done) | (go_simp; rfl)) ?aP (fun _ hk => hk.elim) ?aF ?aO ?aB ?aS ?aL ?_; (case aP => exact rfl); (case aB => exact (bel2 HB GE270 GE273)); (case aF => exact (fun _ _ => trivial)); (case aO => exact (by (with_reducible repeat (first | apply Kd.R_alloc | apply Kd.R_drewN | apply Kd.R_drew)); exact Kd.R_mono (Kd.R_far (p := ⟨gb273, 4, none⟩) (Kd.R_far (p := ⟨gb273, 3, none⟩) (Kd.R_far (p := ⟨gb273, 2, none⟩) (Kd.R_far (p := ⟨gb273, 1, none⟩) (Kd.R_far (p := ⟨gb273, 0, none⟩) (Kd.R_types HO267.out BK273.out (by decide)) (fun _ hk => hk.2) (.string ((rd_T61 l1 (ji15)).f0))) (fun _ hk => hk.2) (.int .i64 ((rd_T61 l1 (ji15)).f1))) (fun _ hk => hk.2) (.int .i64 ((rd_T61 l1 (ji15)).f2))) (fun _ hk => hk.2) (.int .i64 ((rd_T61 l1 (ji15)).f3))) (fun _ hk => hk.2) (.int .i64 ((rd_T61 l1 (ji15)).f4))) (fun _ hk => trivial))); (case aS => exact (below_size (bel2 HB GE270 GE273))); (case aL => have := LMc28.out; omega); intro v275 w29 ho hb hg hat; rw [← Ny274.out] at ho; have n0_ := Aside0.mk (blk_grown (g := gb270) (o := .cells #[.string ((rd_T61 l1 (ji8)).f0), .int .i64 ((rd_T61 l1 (ji8)).f1), .int .i64 ((rd_T61 l1 (ji8)).f2), .int .i64 ((rd_T61 l1 (ji8)).f3), .int .i64 ((rd_T61 l1 (ji8)).f4)] 61 (0, 0)) (by (with_reducible repeat (first | refine blk_drewN ?_ _ | refine blk_drew ?_ | refine blk_alloc ?_ _)); refine blk_far ?_ NB270_273.out _; (with_reducible repeat (first | refine blk_drewN ?_ _ | refine blk_drew ?_ | refine blk_alloc ?_ _)); refine blk_far ?_ NB270_273.out _; (with_reducible repeat (first | refine blk_drewN ?_ _ | refine blk_drew ?_ | refine blk_alloc ?_ _)); refine blk_far ?_ NB270_273.out _; (with_reducible repeat (first | refine blk_drewN ?_ _ | refine blk_drew ?_ | refine blk_alloc ?_ _)); refine blk_far ?_ NB270_273.out _; (with_reducible repeat (first | refine blk_drewN ?_ _ | refine blk_drew ?_ | refine blk_alloc ?_ _)); refine blk_far ?_ NB270_273.out _; (with_reducible repeat (first | refine blk_drewN ?_ _ | refine blk_drew ?_ | refine blk_alloc ?_ _)); exact BK270.out) hg (Kd.R_ne HO267.out BK270.out (by decide))); have n1_ := Aside0.mk (blk_grown (g := gb273) (o := .cells #[.string ((rd_T61 l1 (ji15)).f0), .int .i64 ((rd_T61 l1 (ji15)).f1), .int .i64 ((rd_T61 l1 (ji15)).f2), .int .i64 ((rd_T61 l1 (ji15)).f3), .int .i64 ((rd_T61 l1 (ji15)).f4)] 61 (0, 0)) (by (with_reducible repeat (first | refine blk_drewN ?_ _ | refine blk_drew ?_ | refine blk_alloc ?_ _)); refine blk_put (cs := #[.string ((rd_T61 l1 (ji15)).f0), .int .i64 ((rd_T61 l1 (ji15)).f1), .int .i64 ((rd_T61 l1 (ji15)).f2), .int .i64 ((rd_T61 l1 (ji15)).f3), .int .i64 0]) ?_ 4 _ rfl; (with_reducible repeat (first | refine blk_drewN ?_ _ | refine blk_drew ?_ | refine blk_alloc ?_ _)); refine blk_put (cs := #[.string ((rd_T61 l1 (ji15)).f0), .int .i64 ((rd_T61 l1 (ji15)).f1), .int .i64 ((rd_T61 l1 (ji15)).f2), .int .i64 0, .int .i64 0]) ?_ 3 _ rfl; (with_reducible repeat (first | refine blk_drewN ?_ _ | refine blk_drew ?_ | refine blk_alloc ?_ _)); refine blk_put (cs := #[.string ((rd_T61 l1 (ji15)).f0), .int .i64 ((rd_T61 l1 (ji15)).f1), .int .i64 0, .int .i64 0, .int .i64 0]) ?_ 2 _ rfl; (with_reducible repeat (first | refine blk_drewN ?_ _ | refine blk_drew ?_ | refine blk_alloc ?_ _)); refine blk_put (cs := #[.string ((rd_T61 l1 (ji15)).f0), .int .i64 0, .int .i64 0, .int .i64 0, .int .i64 0]) ?_ 1 _ rfl; (with_reducible repeat (first | refine blk_drewN ?_ _ | refine blk_drew ?_ | refine blk_alloc ?_ _)); refine blk_put (cs := #[.string (⟨#[]⟩ : ByteArray), .int .i64 0, .int .i64 0, .int .i64 0, .int .i64 0]) ?_ 0 _ rfl; (with_reducible repeat (first | refine blk_drewN ?_ _ | refine blk_drew ?_ | refine blk_alloc ?_ _)); exact BK273.out) hg (Kd.R_ne HO267.out BK273.out (by decide))); have n2_ := Aside0.mk (hb); have n3_ := Aside0.mk (ho); clear BK270; clear BK273; clear HB; clear HO267; have BK270 := n0_; have BK273 := n1_; have HB := n2_; have HO276 := n3_; clear n0_ n1_ n2_ n3_; clear ho hb hg hat))
             go_meet
             case rel => exact ⟨_, (y274), H', ⟨by first | omega | exact Nat.le_refl _⟩, ⟨rdl HO276⟩, ⟨bkl BK270⟩, ⟨bkl BK273⟩, ⟨bel2 HB GE270 GE273⟩⟩
            ·rw [if_neg c28] at H
             exact absurd H (by simp)
           ·rw [if_neg c27] at H
            have c27b0 : decide (((rd_T61 l1 (ji15)).f2) < ((rd_T61 l1 (ji8)).f2)) = false := decide_eq_false c27
            clear c27
            (first | rw [c27b0] | (simp only [i64_w, i32_w]; rw [c27b0]) | skip)
            have H' := Aside0.mk H
            clear H
            go_wp2
            go_meet
            case rel => exact ⟨_, (y265), H', ⟨by first | omega | exact Nat.le_refl _⟩, ⟨by (with_reducible repeat (first | apply Kd.R_alloc | apply Kd.R_drewN | apply Kd.R_drew)); exact Kd.R_mono (Kd.R_far (p := ⟨gb273, 4, none⟩) (Kd.R_far (p := ⟨gb273, 3, none⟩) (Kd.R_far (p := ⟨gb273, 2, none⟩) (Kd.R_far (p := ⟨gb273, 1, none⟩) (Kd.R_far (p := ⟨gb273, 0, none⟩) (Kd.R_types HO267.out BK273.out (by decide)) (fun _ hk => hk.2) (.string ((rd_T61 l1 (ji15)).f0))) (fun _ hk => hk.2) (.int .i64 ((rd_T61 l1 (ji15)).f1))) (fun _ hk => hk.2) (.int .i64 ((rd_T61 l1 (ji15)).f2))) (fun _ hk => hk.2) (.int .i64 ((rd_T61 l1 (ji15)).f3))) (fun _ hk => hk.2) (.int .i64 ((rd_T61 l1 (ji15)).f4))) (fun _ hk => trivial)⟩, ⟨by (with_reducible repeat (first | refine blk_drewN ?_ _ | refine blk_drew ?_ | refine blk_alloc ?_ _)); refine blk_far ?_ NB270_273.out _; (with_reducible repeat (first | refine blk_drewN ?_ _ | refine blk_drew ?_ | refine blk_alloc ?_ _)); refine blk_far ?_ NB270_273.out _; (with_reducible repeat (first | refine blk_drewN ?_ _ | refine blk_drew ?_ | refine blk_alloc ?_ _)); refine blk_far ?_ NB270_273.out _; (with_reducible repeat (first | refine blk_drewN ?_ _ | refine blk_drew ?_ | refine blk_alloc ?_ _)); refine blk_far ?_ NB270_273.out _; (with_reducible repeat (first | refine blk_drewN ?_ _ | refine blk_drew ?_ | refine blk_alloc ?_ _)); refine blk_far ?_ NB270_273.out _; (with_reducible repeat (first | refine blk_drewN ?_ _ | refine blk_drew ?_ | refine blk_alloc ?_ _)); exact BK270.out⟩, ⟨by (with_reducible repeat (first | refine blk_drewN ?_ _ | refine blk_drew ?_ | refine blk_alloc ?_ _)); refine blk_put (cs := #[.string ((rd_T61 l1 (ji15)).f0), .int .i64 ((rd_T61 l1 (ji15)).f1), .int .i64 ((rd_T61 l1 (ji15)).f2), .int .i64 ((rd_T61 l1 (ji15)).f3), .int .i64 0]) ?_ 4 _ rfl; (with_reducible repeat (first | refine blk_drewN ?_ _ | refine blk_drew ?_ | refine blk_alloc ?_ _)); refine blk_put (cs := #[.string ((rd_T61 l1 (ji15)).f0), .int .i64 ((rd_T61 l1 (ji15)).f1), .int .i64 ((rd_T61 l1 (ji15)).f2), .int .i64 0, .int .i64 0]) ?_ 3 _ rfl; (with_reducible repeat (first | refine blk_drewN ?_ _ | refine blk_drew ?_ | refine blk_alloc ?_ _)); refine blk_put (cs := #[.string ((rd_T61 l1 (ji15)).f0), .int .i64 ((rd_T61 l1 (ji15)).f1), .int .i64 0, .int .i64 0, .int .i64 0]) ?_ 2 _ rfl; (with_reducible repeat (first | refine blk_drewN ?_ _ | refine blk_drew ?_ | refine blk_alloc ?_ _)); refine blk_put (cs := #[.string ((rd_T61 l1 (ji15)).f0), .int .i64 0, .int .i64 0, .int .i64 0, .int .i64 0]) ?_ 1 _ rfl; (with_reducible repeat (first | refine blk_drewN ?_ _ | refine blk_drew ?_ | refine blk_alloc ?_ _)); refine blk_put (cs := #[.string (⟨#[]⟩ : ByteArray), .int .i64 0, .int .i64 0, .int .i64 0, .int .i64 0]) ?_ 0 _ rfl; (with_reducible repeat (first | refine blk_drewN ?_ _ | refine blk_drew ?_ | refine blk_alloc ?_ _)); exact BK273.out⟩, ⟨bel2 HB GE270 GE273⟩⟩
          case rest =>
           clear HC18
           try clear c1
           try clear c2
           try clear p2
           try clear q2
           try clear hx2
           try clear c5
           try clear c6
           try clear c6b0
           try clear p6
           try clear c7
           try clear c7b0
           try clear c9
           try clear c9b0
           try clear c10
           try clear c10b0
           try clear c11
           try clear c11b0
           try clear c13
           try clear c13b0
           try clear c14
           try clear c14b0
           try clear c16
           try clear c16b0
           try clear c17
           try clear c17b0
           try clear c24
           try clear p26
           try clear q26
           try clear hx26
           try clear c27
           try clear c27b0
           try clear p27
           try clear q27
           try clear hx27
           try clear c28
           try clear hcz22_0
           try clear hcz22_1
           try clear hcz22_2
           try clear hcz22_3
           try clear hcz22_4
           try clear hcz25_0
           try clear hcz25_1
           try clear hcz25_2
           try clear hcz25_3
           try clear hcz25_4
           try clear hcz26_0
           try clear hcz26_1
           try clear hcz26_2
           try clear hcz26_3
           try clear hcz26_4
           try clear hfz22_0
           try clear hfz22_1
           try clear hfz22_2
           try clear hfz22_3
           try clear hfz22_4
           try clear hfz25_0
           try clear hfz25_1
           try clear hfz25_2
           try clear hfz25_3
           try clear hfz25_4
           try clear hfz26_0
           try clear hfz26_1
           try clear hfz26_2
           try clear hfz26_3
           try clear hfz26_4
           try clear hx268_0
           try clear hx269_0
           try clear hx269_1
           try clear hx269_2
           try clear hx269_3
           try clear hx269_4
           try clear hx271_0
           try clear hx272_0
           try clear hx272_1
           try clear hx272_2
           try clear hx272_3
           try clear hx272_4
           try clear p268
           try clear p269
           try clear p271
           try clear p272
           try clear q268
           try clear q269
           try clear q271
           try clear q272
           obtain ⟨kq, x11_17, HA, HJ17, HO_11, BK270, BK273, HB⟩ := hcut
           cases kq with
           | zero => exact absurd HA.out (by simp [impl_brokenRules.j0])
           | succ kj17 =>
            have H := HA.out
            clear HA
            simp only [impl_brokenRules.j0] at H
            have HC30 := Aside0.mk H
            clear H
            have hnb31 := NB270_273.out
            have hnc31 := NB273_270.out
            have hcz32_0 : wc.cell? ⟨gb270, 0, none⟩ = some (.string ((rd_T61 l1 (ji8)).f0)) := (blk_cell BK270.out 0).trans rfl
            have hcz32_1 : wc.cell? ⟨gb270, 1, none⟩ = some (.int .i64 ((rd_T61 l1 (ji8)).f1)) := (blk_cell BK270.out 1).trans rfl
            have hcz32_2 : wc.cell? ⟨gb270, 2, none⟩ = some (.int .i64 ((rd_T61 l1 (ji8)).f2)) := (blk_cell BK270.out 2).trans rfl
            have hcz32_3 : wc.cell? ⟨gb270, 3, none⟩ = some (.int .i64 ((rd_T61 l1 (ji8)).f3)) := (blk_cell BK270.out 3).trans rfl
            have hcz32_4 : wc.cell? ⟨gb270, 4, none⟩ = some (.int .i64 ((rd_T61 l1 (ji8)).f4)) := (blk_cell BK270.out 4).trans rfl
            have hfz32_0 := blk_frozen BK270.out 0
            have hfz32_1 := blk_frozen BK270.out 1
            have hfz32_2 := blk_frozen BK270.out 2
            have hfz32_3 := blk_frozen BK270.out 3
            have hfz32_4 := blk_frozen BK270.out 4
            have hcz33_0 : wc.cell? ⟨gb273, 0, none⟩ = some (.string ((rd_T61 l1 (ji15)).f0)) := (blk_cell BK273.out 0).trans rfl
            have hcz33_1 : wc.cell? ⟨gb273, 1, none⟩ = some (.int .i64 ((rd_T61 l1 (ji15)).f1)) := (blk_cell BK273.out 1).trans rfl
            have hcz33_2 : wc.cell? ⟨gb273, 2, none⟩ = some (.int .i64 ((rd_T61 l1 (ji15)).f2)) := (blk_cell BK273.out 2).trans rfl
            have hcz33_3 : wc.cell? ⟨gb273, 3, none⟩ = some (.int .i64 ((rd_T61 l1 (ji15)).f3)) := (blk_cell BK273.out 3).trans rfl
            have hcz33_4 : wc.cell? ⟨gb273, 4, none⟩ = some (.int .i64 ((rd_T61 l1 (ji15)).f4)) := (blk_cell BK273.out 4).trans rfl
            have hfz33_0 := blk_frozen BK273.out 0
            have hfz33_1 := blk_frozen BK273.out 1
            have hfz33_2 := blk_frozen BK273.out 2
            have hfz33_3 := blk_frozen BK273.out 3
            have hfz33_4 := blk_frozen BK273.out 4
            go_upto_if 46 with (fail)
            go_cut [11] (fun v11 wc => ∃ (kq : Nat) (x11_29 : List Int), Aside0 (impl_brokenRules.j1 kq a2 a3 x11_29 ((rd_T61 l1 (ji8)).f0) ((rd_T61 l1 (ji8)).f1) ((rd_T61 l1 (ji8)).f2) ((rd_T61 l1 (ji8)).f3) ((rd_T61 l1 (ji8)).f4) = some r) ∧ Aside0 (kq ≤ kj17) ∧ Aside0 (Kd.R (Kd.int .i64) 3 wc w.heap.size (fun _ => True) v11 x11_29) ∧ Aside0 (wc.heap[gb270]? = some (.cells #[.string ((rd_T61 l1 (ji8)).f0), .int .i64 ((rd_T61 l1 (ji8)).f1), .int .i64 ((rd_T61 l1 (ji8)).f2), .int .i64 ((rd_T61 l1 (ji8)).f3), .int .i64 ((rd_T61 l1 (ji8)).f4)] 61 (0, 0))) ∧ Aside0 (wc.heap[gb273]? = some (.cells #[.string ((rd_T61 l1 (ji15)).f0), .int .i64 ((rd_T61 l1 (ji15)).f1), .int .i64 ((rd_T61 l1 (ji15)).f2), .int .i64 ((rd_T61 l1 (ji15)).f3), .int .i64 ((rd_T61 l1 (ji15)).f4)] 61 (0, 0))) ∧ Aside0 (Below w.heap.size w wc))
            case first =>
             have H := HC30.out
             clear HC30
             by_cases c34 : ((rd_T61 l1 (ji8)).f1) = ((rd_T61 l1 (ji15)).f1)
             ·rw [if_pos c34] at H
              have c34b0 : (((rd_T61 l1 (ji8)).f1) == ((rd_T61 l1 (ji15)).f1)) = true := beq_iff_eq.mpr c34
              have c34b1 : (((rd_T61 l1 (ji8)).f1) != ((rd_T61 l1 (ji15)).f1)) = false := bne_eq_false_iff_eq.mpr c34
              clear c34
              (first | rw [c34b0] | (simp only [i64_w, i32_w]; rw [c34b0]) | skip)
              have H' := Aside0.mk H
              clear H
              go_wp2
              go_meet
              case rel => exact ⟨_, (x11_17), H', ⟨by have := HJ17.out; first | omega | exact Nat.le_refl _⟩, ⟨rdl HO_11⟩, ⟨bkl BK270⟩, ⟨bkl BK273⟩, ⟨bel2 HB GE270 GE273⟩⟩
             ·rw [if_neg c34] at H
              have c34b0 : (((rd_T61 l1 (ji8)).f1) == ((rd_T61 l1 (ji15)).f1)) = false := beq_eq_false_iff_ne.mpr c34
              have c34b1 : (((rd_T61 l1 (ji8)).f1) != ((rd_T61 l1 (ji15)).f1)) = true := bne_iff_ne.mpr c34
              (first | rw [c34b0] | (simp only [i64_w, i32_w]; rw [c34b0]) | skip)
              by_cases c35 : x11_17.length < 17592186044416
              ·rw [if_pos c35] at H
               have LMc35 := Aside0.mk c35
               clear c35
               obtain ⟨y277, hy277⟩ : ∃ y_ : List Int, y_ = (x11_17 ++ [2]) := ⟨_, rfl⟩
               replace H : (impl_brokenRules.j1 kj17 a2 a3 y277 ((rd_T61 l1 (ji8)).f0) ((rd_T61 l1 (ji8)).f1) ((rd_T61 l1 (ji8)).f2) ((rd_T61 l1 (ji8)).f3) ((rd_T61 l1 (ji8)).f4)) = some r := by first | (rw [hy277]; with_reducible exact H) | (have H2_ := (Option.bind_some _ _).symm.trans H; rw [hy277]; with_reducible exact H2_) | (have H2_ := (Option.bind_some _ _).symm.trans H; with_reducible exact H2_) | with_reducible exact H | (rw [hy277]; exact H) | exact H
               have Ny277 := Aside0.mk hy277
               clear hy277
               have H' := Aside0.mk H
               clear H
               go_wp2_with (first | ((with_reducible refine gate_builtin (b := .append) (xs := #[.tmp 47, .tmp 48]) rfl ?_); at_builtin; refine Kd.R_append (Kd.int .i64) (w0 := w) w.heap.size rfl (.tmp 47) (.tmp 48) 28 3 (.int .i64 0) 8 rfl Try.underlying28 info3 rfl (by decide) (by omega) u11 x11_17 2 [.int .i64 2] (fun _ => True) (fun _ => False) rfl rfl ?aP (fun _ hk => hk.elim) ?aF ?aO ?aB ?aS ?aL ?_; (case aP => exact rfl); (case aB => exact (bel2 HB GE270 GE273)); (case aF => exact (fun _ _ => trivial)); (case aO => exact (rdl HO_11)); (case aS => exact (below_size (bel2 HB GE270 GE273))); (case aL => have := LMc35.out; omega); intro v278 w36 ho hb hg hat; rw [← Ny277.out] at ho; have n0_ := Aside0.mk (blk_grown (g := gb270) (o := .cells #[.string ((rd_T61 l1 (ji8)).f0), .int .i64 ((rd_T61 l1 (ji8)).f1), .int .i64 ((rd_T61 l1 (ji8)).f2), .int .i64 ((rd_T61 l1 (ji8)).f3), .int .i64 ((rd_T61 l1 (ji8)).f4)] 61 (0, 0)) (bkl BK270) hg (Kd.R_ne HO_11.out BK270.out (by decide))); have n1_ := Aside0.mk (blk_grown (g := gb273) (o := .cells #[.string ((rd_T61 l1 (ji15)).f0), .int .i64 ((rd_T61 l1 (ji15)).f1), .int .i64 ((rd_T61 l1 (ji15)).f2), .int .i64 ((rd_T61 l1 (ji15)).f3), .int .i64 ((rd_T61 l1 (ji15)).f4)] 61 (0, 0)) (bkl BK273) hg (Kd.R_ne HO_11.out BK273.out (by decide))); have n2_ := Aside0.mk (hb); have n3_ := Aside0.mk (ho); clear BK270; clear BK273; clear HB; clear HO_11; have BK270 := n0_; have BK273 := n1_; have HB := n2_; have HO279 := n3_; clear n0_ n1_ n2_ n3_; clear ho hb hg hat))
               go_meet
               case rel => exact ⟨_, (y277), H', ⟨by have := HJ17.out; first | omega | exact Nat.le_refl _⟩, ⟨rdl HO279⟩, ⟨bkl BK270⟩, ⟨bkl BK273⟩, ⟨bel2 HB GE270 GE273⟩⟩
              ·rw [if_neg c35] at H
               exact absurd H (by simp)
            case rest =>
             clear HC30
             try clear c1
             try clear c2
             try clear p2
             try clear q2
             try clear hx2
             try clear c3
             try clear c5
             try clear c6
             try clear c6b0
             try clear p6
             try clear c7
             try clear c7b0
             try clear c9
             try clear c9b0
             try clear c10
             try clear c10b0
             try clear c11
             try clear c11b0
             try clear c13
             try clear c13b0
             try clear c14
             try clear c14b0
             try clear c16
             try clear c16b0
             try clear c17
             try clear c17b0
             try clear c24
             try clear p26
             try clear q26
             try clear hx26
             try clear c27
             try clear c27b0
             try clear p27
             try clear q27
             try clear hx27
             try clear c28
             try clear c31
             try clear c34
             try clear c34b0
             try clear c34b1
             try clear c35
             try clear hcz22_0
             try clear hcz22_1
             try clear hcz22_2
             try clear hcz22_3
             try clear hcz22_4
             try clear hcz25_0
             try clear hcz25_1
             try clear hcz25_2
             try clear hcz25_3
             try clear hcz25_4
             try clear hcz26_0
             try clear hcz26_1
             try clear hcz26_2
             try clear hcz26_3
             try clear hcz26_4
             try clear hcz32_0
             try clear hcz32_1
             try clear hcz32_2
             try clear hcz32_3
             try clear hcz32_4
             try clear hcz33_0
             try clear hcz33_1
             try clear hcz33_2
             try clear hcz33_3
             try clear hcz33_4
             try clear hfz22_0
             try clear hfz22_1
             try clear hfz22_2
             try clear hfz22_3
             try clear hfz22_4
             try clear hfz25_0
             try clear hfz25_1
             try clear hfz25_2
             try clear hfz25_3
             try clear hfz25_4
             try clear hfz26_0
             try clear hfz26_1
             try clear hfz26_2
             try clear hfz26_3
             try clear hfz26_4
             try clear hfz32_0
             try clear hfz32_1
             try clear hfz32_2
             try clear hfz32_3
             try clear hfz32_4
             try clear hfz33_0
             try clear hfz33_1
             try clear hfz33_2
             try clear hfz33_3
             try clear hfz33_4
             try clear hx268_0
             try clear hx269_0
             try clear hx269_1
             try clear hx269_2
             try clear hx269_3
             try clear hx269_4
             try clear hx271_0
             try clear hx272_0
             try clear hx272_1
             try clear hx272_2
             try clear hx272_3
             try clear hx272_4
             try clear p2
             try clear p26
             try clear p268
             try clear p269
             try clear p27
             try clear p271
             try clear p272
             try clear p6
             try clear q2
             try clear q26
             try clear q268
             try clear q269
             try clear q27
             try clear q271
             try clear q272
             obtain ⟨kq, x11_29, HA, HJ29, HO_11, BK270, BK273, HB⟩ := hcut
             cases kq with
             | zero => exact absurd HA.out (by simp [impl_brokenRules.j1])
             | succ kj29 =>
              have H := HA.out
              clear HA
              simp only [impl_brokenRules.j1] at H
              by_cases c37 : ((rd_T61 l1 (ji8)).f3) = 3
              ·rw [if_pos c37] at H
               have c37b0 : (((rd_T61 l1 (ji8)).f3) == 3) = true := beq_iff_eq.mpr c37
               have c37b1 : (((rd_T61 l1 (ji8)).f3) != 3) = false := bne_eq_false_iff_eq.mpr c37
               clear c37
               by_cases c38 : x11_29.length < 17592186044416
               ·rw [if_pos c38] at H
                have LMc38 := Aside0.mk c38
                clear c38
                obtain ⟨y280, hy280⟩ : ∃ y_ : List Int, y_ = (x11_29 ++ [3]) := ⟨_, rfl⟩
                replace H : (if ((rd_T61 l1 (ji8)).f3) = 2 then (if a3 ≥ a2 then (if y280.length < 17592186044416 then (some (y280 ++ [4])) else (none)) else (some y280)) else (some y280)) = some r := by first | (rw [hy280]; with_reducible exact H) | (have H2_ := (Option.bind_some _ _).symm.trans H; rw [hy280]; with_reducible exact H2_) | (have H2_ := (Option.bind_some _ _).symm.trans H; with_reducible exact H2_) | with_reducible exact H | (rw [hy280]; exact H) | exact H
                have Ny280 := Aside0.mk hy280
                clear hy280
                by_cases c39 : ((rd_T61 l1 (ji8)).f3) = 2
                ·rw [if_pos c39] at H
                 have c39b0 : (((rd_T61 l1 (ji8)).f3) == 2) = true := beq_iff_eq.mpr c39
                 have c39b1 : (((rd_T61 l1 (ji8)).f3) != 2) = false := bne_eq_false_iff_eq.mpr c39
                 clear c39
                 by_cases c40 : a3 ≥ a2
                 ·rw [if_pos c40] at H
                  have c40b0 : decide (a2 ≤ a3) = true := decide_eq_true c40
                  clear c40
                  by_cases c41 : y280.length < 17592186044416
                  ·rw [if_pos c41] at H
                   have LMc41 := Aside0.mk c41
                   clear c41
                   obtain ⟨y283, hy283⟩ : ∃ y_ : List Int, y_ = (y280 ++ [4]) := ⟨_, rfl⟩
                   replace H : (some y283) = some r := by first | (rw [hy283]; with_reducible exact H) | (have H2_ := (Option.bind_some _ _).symm.trans H; rw [hy283]; with_reducible exact H2_) | (have H2_ := (Option.bind_some _ _).symm.trans H; with_reducible exact H2_) | with_reducible exact H | (rw [hy283]; exact H) | exact H
                   have Ny283 := Aside0.mk hy283
                   clear hy283
                   obtain rfl := Option.some.inj H
                   have hnb42 := NB270_273.out
                   have hnc42 := NB273_270.out
                   have hcz43_0 : wc.cell? ⟨gb270, 0, none⟩ = some (.string ((rd_T61 l1 (ji8)).f0)) := (blk_cell BK270.out 0).trans rfl
                   have hcz43_1 : wc.cell? ⟨gb270, 1, none⟩ = some (.int .i64 ((rd_T61 l1 (ji8)).f1)) := (blk_cell BK270.out 1).trans rfl
                   have hcz43_2 : wc.cell? ⟨gb270, 2, none⟩ = some (.int .i64 ((rd_T61 l1 (ji8)).f2)) := (blk_cell BK270.out 2).trans rfl
                   have hcz43_3 : wc.cell? ⟨gb270, 3, none⟩ = some (.int .i64 ((rd_T61 l1 (ji8)).f3)) := (blk_cell BK270.out 3).trans rfl
                   have hcz43_4 : wc.cell? ⟨gb270, 4, none⟩ = some (.int .i64 ((rd_T61 l1 (ji8)).f4)) := (blk_cell BK270.out 4).trans rfl
                   have hfz43_0 := blk_frozen BK270.out 0
                   have hfz43_1 := blk_frozen BK270.out 1
                   have hfz43_2 := blk_frozen BK270.out 2
                   have hfz43_3 := blk_frozen BK270.out 3
                   have hfz43_4 := blk_frozen BK270.out 4
                   go_wp2_with (first | ((with_reducible refine gate_builtin (b := .append) (xs := #[.tmp 53, .tmp 54]) rfl ?_); at_builtin; refine Kd.R_append (Kd.int .i64) (w0 := w) w.heap.size rfl (.tmp 53) (.tmp 54) 28 3 (.int .i64 0) 8 rfl Try.underlying28 info3 rfl (by decide) (by omega) u11 x11_29 3 [.int .i64 3] (fun _ => True) (fun _ => False) rfl rfl ?aP (fun _ hk => hk.elim) ?aF ?aO ?aB ?aS ?aL ?_; (case aP => exact rfl); (case aB => exact (bel2 HB GE270 GE273)); (case aF => exact (fun _ _ => trivial)); (case aO => exact (rdl HO_11)); (case aS => exact (below_size (bel2 HB GE270 GE273))); (case aL => have := LMc38.out; omega); intro v281 w44 ho hb hg hat; rw [← Ny280.out] at ho; have n0_ := Aside0.mk (blk_grown (g := gb270) (o := .cells #[.string ((rd_T61 l1 (ji8)).f0), .int .i64 ((rd_T61 l1 (ji8)).f1), .int .i64 ((rd_T61 l1 (ji8)).f2), .int .i64 ((rd_T61 l1 (ji8)).f3), .int .i64 ((rd_T61 l1 (ji8)).f4)] 61 (0, 0)) (bkl BK270) hg (Kd.R_ne HO_11.out BK270.out (by decide))); have n1_ := Aside0.mk (blk_grown (g := gb273) (o := .cells #[.string ((rd_T61 l1 (ji15)).f0), .int .i64 ((rd_T61 l1 (ji15)).f1), .int .i64 ((rd_T61 l1 (ji15)).f2), .int .i64 ((rd_T61 l1 (ji15)).f3), .int .i64 ((rd_T61 l1 (ji15)).f4)] 61 (0, 0)) (bkl BK273) hg (Kd.R_ne HO_11.out BK273.out (by decide))); have n2_ := Aside0.mk (hb); have n3_ := Aside0.mk (ho); clear BK270; clear BK273; clear HB; clear HO_11; have BK270 := n0_; have BK273 := n1_; have HB := n2_; have HO282 := n3_; clear n0_ n1_ n2_ n3_; clear ho hb hg hat; have hcz45_0 : w44.cell? ⟨gb270, 0, none⟩ = some (.string ((rd_T61 l1 (ji8)).f0)) := (blk_cell BK270.out 0).trans rfl; have hcz45_1 : w44.cell? ⟨gb270, 1, none⟩ = some (.int .i64 ((rd_T61 l1 (ji8)).f1)) := (blk_cell BK270.out 1).trans rfl; have hcz45_2 : w44.cell? ⟨gb270, 2, none⟩ = some (.int .i64 ((rd_T61 l1 (ji8)).f2)) := (blk_cell BK270.out 2).trans rfl; have hcz45_3 : w44.cell? ⟨gb270, 3, none⟩ = some (.int .i64 ((rd_T61 l1 (ji8)).f3)) := (blk_cell BK270.out 3).trans rfl; have hcz45_4 : w44.cell? ⟨gb270, 4, none⟩ = some (.int .i64 ((rd_T61 l1 (ji8)).f4)) := (blk_cell BK270.out 4).trans rfl; have hfz45_0 := blk_frozen BK270.out 0; have hfz45_1 := blk_frozen BK270.out 1; have hfz45_2 := blk_frozen BK270.out 2; have hfz45_3 := blk_frozen BK270.out 3; have hfz45_4 := blk_frozen BK270.out 4) | ((with_reducible refine gate_builtin (b := .append) (xs := #[.tmp 64, .tmp 65]) rfl ?_); at_builtin; refine Kd.R_append (Kd.int .i64) (w0 := w) w.heap.size rfl (.tmp 64) (.tmp 65) 28 3 (.int .i64 0) 8 rfl Try.underlying28 info3 rfl (by decide) (by omega) v281 y280 4 [.int .i64 4] (fun _ => True) (fun _ => False) rfl rfl ?aP (fun _ hk => hk.elim) ?aF ?aO ?aB ?aS ?aL ?_; (case aP => exact rfl); (case aB => exact (bel2 HB GE270 GE273)); (case aF => exact (fun _ _ => trivial)); (case aO => exact (rdl HO282)); (case aS => exact (below_size (bel2 HB GE270 GE273))); (case aL => have := LMc41.out; omega); intro v284 w46 ho hb hg hat; rw [← Ny283.out] at ho; have n0_ := Aside0.mk (blk_grown (g := gb270) (o := .cells #[.string ((rd_T61 l1 (ji8)).f0), .int .i64 ((rd_T61 l1 (ji8)).f1), .int .i64 ((rd_T61 l1 (ji8)).f2), .int .i64 ((rd_T61 l1 (ji8)).f3), .int .i64 ((rd_T61 l1 (ji8)).f4)] 61 (0, 0)) (bkl BK270) hg (Kd.R_ne HO282.out BK270.out (by decide))); have n1_ := Aside0.mk (blk_grown (g := gb273) (o := .cells #[.string ((rd_T61 l1 (ji15)).f0), .int .i64 ((rd_T61 l1 (ji15)).f1), .int .i64 ((rd_T61 l1 (ji15)).f2), .int .i64 ((rd_T61 l1 (ji15)).f3), .int .i64 ((rd_T61 l1 (ji15)).f4)] 61 (0, 0)) (bkl BK273) hg (Kd.R_ne HO282.out BK273.out (by decide))); have n2_ := Aside0.mk (hb); have n3_ := Aside0.mk (ho); clear BK270; clear BK273; clear HB; clear HO282; have BK270 := n0_; have BK273 := n1_; have HB := n2_; have HO285 := n3_; clear n0_ n1_ n2_ n3_; clear ho hb hg hat))
                   go_ret
                   exact ⟨_, by first | rfl | (simp [errW_none, errW_some] <;> rfl) | (simp only [← hji8, ← hji12, ← hji15]; first | rfl | (simp [errW_none, errW_some] <;> rfl)) | (simp [*, errW_none, errW_some] <;> rfl), rdl HO285, bel2 HB GE270 GE273⟩
                  ·rw [if_neg c41] at H
                   exact absurd H (by simp)
                 ·rw [if_neg c40] at H
                  have c40b0 : decide (a2 ≤ a3) = false := decide_eq_false c40
                  clear c40
                  obtain rfl := Option.some.inj H
                  have hnb47 := NB270_273.out
                  have hnc47 := NB273_270.out
                  have hcz48_0 : wc.cell? ⟨gb270, 0, none⟩ = some (.string ((rd_T61 l1 (ji8)).f0)) := (blk_cell BK270.out 0).trans rfl
                  have hcz48_1 : wc.cell? ⟨gb270, 1, none⟩ = some (.int .i64 ((rd_T61 l1 (ji8)).f1)) := (blk_cell BK270.out 1).trans rfl
                  have hcz48_2 : wc.cell? ⟨gb270, 2, none⟩ = some (.int .i64 ((rd_T61 l1 (ji8)).f2)) := (blk_cell BK270.out 2).trans rfl
                  have hcz48_3 : wc.cell? ⟨gb270, 3, none⟩ = some (.int .i64 ((rd_T61 l1 (ji8)).f3)) := (blk_cell BK270.out 3).trans rfl
                  have hcz48_4 : wc.cell? ⟨gb270, 4, none⟩ = some (.int .i64 ((rd_T61 l1 (ji8)).f4)) := (blk_cell BK270.out 4).trans rfl
                  have hfz48_0 := blk_frozen BK270.out 0
                  have hfz48_1 := blk_frozen BK270.out 1
                  have hfz48_2 := blk_frozen BK270.out 2
                  have hfz48_3 := blk_frozen BK270.out 3
                  have hfz48_4 := blk_frozen BK270.out 4
                  go_wp2_with (first | ((with_reducible refine gate_builtin (b := .append) (xs := #[.tmp 53, .tmp 54]) rfl ?_); at_builtin; refine Kd.R_append (Kd.int .i64) (w0 := w) w.heap.size rfl (.tmp 53) (.tmp 54) 28 3 (.int .i64 0) 8 rfl Try.underlying28 info3 rfl (by decide) (by omega) u11 x11_29 3 [.int .i64 3] (fun _ => True) (fun _ => False) rfl rfl ?aP (fun _ hk => hk.elim) ?aF ?aO ?aB ?aS ?aL ?_; (case aP => exact rfl); (case aB => exact (bel2 HB GE270 GE273)); (case aF => exact (fun _ _ => trivial)); (case aO => exact (rdl HO_11)); (case aS => exact (below_size (bel2 HB GE270 GE273))); (case aL => have := LMc38.out; omega); intro v281 w49 ho hb hg hat; rw [← Ny280.out] at ho; have n0_ := Aside0.mk (blk_grown (g := gb270) (o := .cells #[.string ((rd_T61 l1 (ji8)).f0), .int .i64 ((rd_T61 l1 (ji8)).f1), .int .i64 ((rd_T61 l1 (ji8)).f2), .int .i64 ((rd_T61 l1 (ji8)).f3), .int .i64 ((rd_T61 l1 (ji8)).f4)] 61 (0, 0)) (bkl BK270) hg (Kd.R_ne HO_11.out BK270.out (by decide))); have n1_ := Aside0.mk (blk_grown (g := gb273) (o := .cells #[.string ((rd_T61 l1 (ji15)).f0), .int .i64 ((rd_T61 l1 (ji15)).f1), .int .i64 ((rd_T61 l1 (ji15)).f2), .int .i64 ((rd_T61 l1 (ji15)).f3), .int .i64 ((rd_T61 l1 (ji15)).f4)] 61 (0, 0)) (bkl BK273) hg (Kd.R_ne HO_11.out BK273.out (by decide))); have n2_ := Aside0.mk (hb); have n3_ := Aside0.mk (ho); clear BK270; clear BK273; clear HB; clear HO_11; have BK270 := n0_; have BK273 := n1_; have HB := n2_; have HO282 := n3_; clear n0_ n1_ n2_ n3_; clear ho hb hg hat; have hcz50_0 : w49.cell? ⟨gb270, 0, none⟩ = some (.string ((rd_T61 l1 (ji8)).f0)) := (blk_cell BK270.out 0).trans rfl; have hcz50_1 : w49.cell? ⟨gb270, 1, none⟩ = some (.int .i64 ((rd_T61 l1 (ji8)).f1)) := (blk_cell BK270.out 1).trans rfl; have hcz50_2 : w49.cell? ⟨gb270, 2, none⟩ = some (.int .i64 ((rd_T61 l1 (ji8)).f2)) := (blk_cell BK270.out 2).trans rfl; have hcz50_3 : w49.cell? ⟨gb270, 3, none⟩ = some (.int .i64 ((rd_T61 l1 (ji8)).f3)) := (blk_cell BK270.out 3).trans rfl; have hcz50_4 : w49.cell? ⟨gb270, 4, none⟩ = some (.int .i64 ((rd_T61 l1 (ji8)).f4)) := (blk_cell BK270.out 4).trans rfl; have hfz50_0 := blk_frozen BK270.out 0; have hfz50_1 := blk_frozen BK270.out 1; have hfz50_2 := blk_frozen BK270.out 2; have hfz50_3 := blk_frozen BK270.out 3; have hfz50_4 := blk_frozen BK270.out 4))
                  go_ret
                  exact ⟨_, by first | rfl | (simp [errW_none, errW_some] <;> rfl) | (simp only [← hji8, ← hji12, ← hji15]; first | rfl | (simp [errW_none, errW_some] <;> rfl)) | (simp [*, errW_none, errW_some] <;> rfl), rdl HO282, bel2 HB GE270 GE273⟩
                ·rw [if_neg c39] at H
                 have c39b0 : (((rd_T61 l1 (ji8)).f3) == 2) = false := beq_eq_false_iff_ne.mpr c39
                 have c39b1 : (((rd_T61 l1 (ji8)).f3) != 2) = true := bne_iff_ne.mpr c39
                 obtain rfl := Option.some.inj H
                 have hnb51 := NB270_273.out
                 have hnc51 := NB273_270.out
                 have hcz52_0 : wc.cell? ⟨gb270, 0, none⟩ = some (.string ((rd_T61 l1 (ji8)).f0)) := (blk_cell BK270.out 0).trans rfl
                 have hcz52_1 : wc.cell? ⟨gb270, 1, none⟩ = some (.int .i64 ((rd_T61 l1 (ji8)).f1)) := (blk_cell BK270.out 1).trans rfl
                 have hcz52_2 : wc.cell? ⟨gb270, 2, none⟩ = some (.int .i64 ((rd_T61 l1 (ji8)).f2)) := (blk_cell BK270.out 2).trans rfl
                 have hcz52_3 : wc.cell? ⟨gb270, 3, none⟩ = some (.int .i64 ((rd_T61 l1 (ji8)).f3)) := (blk_cell BK270.out 3).trans rfl
                 have hcz52_4 : wc.cell? ⟨gb270, 4, none⟩ = some (.int .i64 ((rd_T61 l1 (ji8)).f4)) := (blk_cell BK270.out 4).trans rfl
                 have hfz52_0 := blk_frozen BK270.out 0
                 have hfz52_1 := blk_frozen BK270.out 1
                 have hfz52_2 := blk_frozen BK270.out 2
                 have hfz52_3 := blk_frozen BK270.out 3
                 have hfz52_4 := blk_frozen BK270.out 4
                 go_wp2_with (first | ((with_reducible refine gate_builtin (b := .append) (xs := #[.tmp 53, .tmp 54]) rfl ?_); at_builtin; refine Kd.R_append (Kd.int .i64) (w0 := w) w.heap.size rfl (.tmp 53) (.tmp 54) 28 3 (.int .i64 0) 8 rfl Try.underlying28 info3 rfl (by decide) (by omega) u11 x11_29 3 [.int .i64 3] (fun _ => True) (fun _ => False) rfl rfl ?aP (fun _ hk => hk.elim) ?aF ?aO ?aB ?aS ?aL ?_; (case aP => exact rfl); (case aB => exact (bel2 HB GE270 GE273)); (case aF => exact (fun _ _ => trivial)); (case aO => exact (rdl HO_11)); (case aS => exact (below_size (bel2 HB GE270 GE273))); (case aL => have := LMc38.out; omega); intro v281 w53 ho hb hg hat; rw [← Ny280.out] at ho; have n0_ := Aside0.mk (blk_grown (g := gb270) (o := .cells #[.string ((rd_T61 l1 (ji8)).f0), .int .i64 ((rd_T61 l1 (ji8)).f1), .int .i64 ((rd_T61 l1 (ji8)).f2), .int .i64 ((rd_T61 l1 (ji8)).f3), .int .i64 ((rd_T61 l1 (ji8)).f4)] 61 (0, 0)) (bkl BK270) hg (Kd.R_ne HO_11.out BK270.out (by decide))); have n1_ := Aside0.mk (blk_grown (g := gb273) (o := .cells #[.string ((rd_T61 l1 (ji15)).f0), .int .i64 ((rd_T61 l1 (ji15)).f1), .int .i64 ((rd_T61 l1 (ji15)).f2), .int .i64 ((rd_T61 l1 (ji15)).f3), .int .i64 ((rd_T61 l1 (ji15)).f4)] 61 (0, 0)) (bkl BK273) hg (Kd.R_ne HO_11.out BK273.out (by decide))); have n2_ := Aside0.mk (hb); have n3_ := Aside0.mk (ho); clear BK270; clear BK273; clear HB; clear HO_11; have BK270 := n0_; have BK273 := n1_; have HB := n2_; have HO282 := n3_; clear n0_ n1_ n2_ n3_; clear ho hb hg hat; have hcz54_0 : w53.cell? ⟨gb270, 0, none⟩ = some (.string ((rd_T61 l1 (ji8)).f0)) := (blk_cell BK270.out 0).trans rfl; have hcz54_1 : w53.cell? ⟨gb270, 1, none⟩ = some (.int .i64 ((rd_T61 l1 (ji8)).f1)) := (blk_cell BK270.out 1).trans rfl; have hcz54_2 : w53.cell? ⟨gb270, 2, none⟩ = some (.int .i64 ((rd_T61 l1 (ji8)).f2)) := (blk_cell BK270.out 2).trans rfl; have hcz54_3 : w53.cell? ⟨gb270, 3, none⟩ = some (.int .i64 ((rd_T61 l1 (ji8)).f3)) := (blk_cell BK270.out 3).trans rfl; have hcz54_4 : w53.cell? ⟨gb270, 4, none⟩ = some (.int .i64 ((rd_T61 l1 (ji8)).f4)) := (blk_cell BK270.out 4).trans rfl; have hfz54_0 := blk_frozen BK270.out 0; have hfz54_1 := blk_frozen BK270.out 1; have hfz54_2 := blk_frozen BK270.out 2; have hfz54_3 := blk_frozen BK270.out 3; have hfz54_4 := blk_frozen BK270.out 4))
                 go_ret
                 exact ⟨_, by first | rfl | (simp [errW_none, errW_some] <;> rfl) | (simp only [← hji8, ← hji12, ← hji15]; first | rfl | (simp [errW_none, errW_some] <;> rfl)) | (simp [*, errW_none, errW_some] <;> rfl), rdl HO282, bel2 HB GE270 GE273⟩
               ·rw [if_neg c38] at H
                exact absurd H (by simp)
              ·rw [if_neg c37] at H
               have c37b0 : (((rd_T61 l1 (ji8)).f3) == 3) = false := beq_eq_false_iff_ne.mpr c37
               have c37b1 : (((rd_T61 l1 (ji8)).f3) != 3) = true := bne_iff_ne.mpr c37
               by_cases c55 : ((rd_T61 l1 (ji8)).f3) = 2
               ·rw [if_pos c55] at H
                have c55b0 : (((rd_T61 l1 (ji8)).f3) == 2) = true := beq_iff_eq.mpr c55
                have c55b1 : (((rd_T61 l1 (ji8)).f3) != 2) = false := bne_eq_false_iff_eq.mpr c55
                clear c55
                by_cases c56 : a3 ≥ a2
                ·rw [if_pos c56] at H
                 have c56b0 : decide (a2 ≤ a3) = true := decide_eq_true c56
                 clear c56
                 by_cases c57 : x11_29.length < 17592186044416
                 ·rw [if_pos c57] at H
                  have LMc57 := Aside0.mk c57
                  clear c57
                  obtain ⟨y286, hy286⟩ : ∃ y_ : List Int, y_ = (x11_29 ++ [4]) := ⟨_, rfl⟩
                  replace H : (some y286) = some r := by first | (rw [hy286]; with_reducible exact H) | (have H2_ := (Option.bind_some _ _).symm.trans H; rw [hy286]; with_reducible exact H2_) | (have H2_ := (Option.bind_some _ _).symm.trans H; with_reducible exact H2_) | with_reducible exact H | (rw [hy286]; exact H) | exact H
                  have Ny286 := Aside0.mk hy286
                  clear hy286
                  obtain rfl := Option.some.inj H
                  have hnb58 := NB270_273.out
                  have hnc58 := NB273_270.out
                  have hcz59_0 : wc.cell? ⟨gb270, 0, none⟩ = some (.string ((rd_T61 l1 (ji8)).f0)) := (blk_cell BK270.out 0).trans rfl
                  have hcz59_1 : wc.cell? ⟨gb270, 1, none⟩ = some (.int .i64 ((rd_T61 l1 (ji8)).f1)) := (blk_cell BK270.out 1).trans rfl
                  have hcz59_2 : wc.cell? ⟨gb270, 2, none⟩ = some (.int .i64 ((rd_T61 l1 (ji8)).f2)) := (blk_cell BK270.out 2).trans rfl
                  have hcz59_3 : wc.cell? ⟨gb270, 3, none⟩ = some (.int .i64 ((rd_T61 l1 (ji8)).f3)) := (blk_cell BK270.out 3).trans rfl
                  have hcz59_4 : wc.cell? ⟨gb270, 4, none⟩ = some (.int .i64 ((rd_T61 l1 (ji8)).f4)) := (blk_cell BK270.out 4).trans rfl
                  have hfz59_0 := blk_frozen BK270.out 0
                  have hfz59_1 := blk_frozen BK270.out 1
                  have hfz59_2 := blk_frozen BK270.out 2
                  have hfz59_3 := blk_frozen BK270.out 3
                  have hfz59_4 := blk_frozen BK270.out 4
                  go_wp2_with (first | ((with_reducible refine gate_builtin (b := .append) (xs := #[.tmp 64, .tmp 65]) rfl ?_); at_builtin; refine Kd.R_append (Kd.int .i64) (w0 := w) w.heap.size rfl (.tmp 64) (.tmp 65) 28 3 (.int .i64 0) 8 rfl Try.underlying28 info3 rfl (by decide) (by omega) u11 x11_29 4 [.int .i64 4] (fun _ => True) (fun _ => False) rfl rfl ?aP (fun _ hk => hk.elim) ?aF ?aO ?aB ?aS ?aL ?_; (case aP => exact rfl); (case aB => exact (bel2 HB GE270 GE273)); (case aF => exact (fun _ _ => trivial)); (case aO => exact (rdl HO_11)); (case aS => exact (below_size (bel2 HB GE270 GE273))); (case aL => have := LMc57.out; omega); intro v287 w60 ho hb hg hat; rw [← Ny286.out] at ho; have n0_ := Aside0.mk (blk_grown (g := gb270) (o := .cells #[.string ((rd_T61 l1 (ji8)).f0), .int .i64 ((rd_T61 l1 (ji8)).f1), .int .i64 ((rd_T61 l1 (ji8)).f2), .int .i64 ((rd_T61 l1 (ji8)).f3), .int .i64 ((rd_T61 l1 (ji8)).f4)] 61 (0, 0)) (bkl BK270) hg (Kd.R_ne HO_11.out BK270.out (by decide))); have n1_ := Aside0.mk (blk_grown (g := gb273) (o := .cells #[.string ((rd_T61 l1 (ji15)).f0), .int .i64 ((rd_T61 l1 (ji15)).f1), .int .i64 ((rd_T61 l1 (ji15)).f2), .int .i64 ((rd_T61 l1 (ji15)).f3), .int .i64 ((rd_T61 l1 (ji15)).f4)] 61 (0, 0)) (bkl BK273) hg (Kd.R_ne HO_11.out BK273.out (by decide))); have n2_ := Aside0.mk (hb); have n3_ := Aside0.mk (ho); clear BK270; clear BK273; clear HB; clear HO_11; have BK270 := n0_; have BK273 := n1_; have HB := n2_; have HO288 := n3_; clear n0_ n1_ n2_ n3_; clear ho hb hg hat))
                  go_ret
                  exact ⟨_, by first | rfl | (simp [errW_none, errW_some] <;> rfl) | (simp only [← hji8, ← hji12, ← hji15]; first | rfl | (simp [errW_none, errW_some] <;> rfl)) | (simp [*, errW_none, errW_some] <;> rfl), rdl HO288, bel2 HB GE270 GE273⟩
                 ·rw [if_neg c57] at H
                  exact absurd H (by simp)
                ·rw [if_neg c56] at H
                 have c56b0 : decide (a2 ≤ a3) = false := decide_eq_false c56
                 clear c56
                 obtain rfl := Option.some.inj H
                 have hnb61 := NB270_273.out
                 have hnc61 := NB273_270.out
                 have hcz62_0 : wc.cell? ⟨gb270, 0, none⟩ = some (.string ((rd_T61 l1 (ji8)).f0)) := (blk_cell BK270.out 0).trans rfl
                 have hcz62_1 : wc.cell? ⟨gb270, 1, none⟩ = some (.int .i64 ((rd_T61 l1 (ji8)).f1)) := (blk_cell BK270.out 1).trans rfl
                 have hcz62_2 : wc.cell? ⟨gb270, 2, none⟩ = some (.int .i64 ((rd_T61 l1 (ji8)).f2)) := (blk_cell BK270.out 2).trans rfl
                 have hcz62_3 : wc.cell? ⟨gb270, 3, none⟩ = some (.int .i64 ((rd_T61 l1 (ji8)).f3)) := (blk_cell BK270.out 3).trans rfl
                 have hcz62_4 : wc.cell? ⟨gb270, 4, none⟩ = some (.int .i64 ((rd_T61 l1 (ji8)).f4)) := (blk_cell BK270.out 4).trans rfl
                 have hfz62_0 := blk_frozen BK270.out 0
                 have hfz62_1 := blk_frozen BK270.out 1
                 have hfz62_2 := blk_frozen BK270.out 2
                 have hfz62_3 := blk_frozen BK270.out 3
                 have hfz62_4 := blk_frozen BK270.out 4
                 go_wp2
                 go_ret
                 exact ⟨_, by first | rfl | (simp [errW_none, errW_some] <;> rfl) | (simp only [← hji8, ← hji12, ← hji15]; first | rfl | (simp [errW_none, errW_some] <;> rfl)) | (simp [*, errW_none, errW_some] <;> rfl), rdl HO_11, bel2 HB GE270 GE273⟩
               ·rw [if_neg c55] at H
                have c55b0 : (((rd_T61 l1 (ji8)).f3) == 2) = false := beq_eq_false_iff_ne.mpr c55
                have c55b1 : (((rd_T61 l1 (ji8)).f3) != 2) = true := bne_iff_ne.mpr c55
                obtain rfl := Option.some.inj H
                have hnb63 := NB270_273.out
                have hnc63 := NB273_270.out
                have hcz64_0 : wc.cell? ⟨gb270, 0, none⟩ = some (.string ((rd_T61 l1 (ji8)).f0)) := (blk_cell BK270.out 0).trans rfl
                have hcz64_1 : wc.cell? ⟨gb270, 1, none⟩ = some (.int .i64 ((rd_T61 l1 (ji8)).f1)) := (blk_cell BK270.out 1).trans rfl
                have hcz64_2 : wc.cell? ⟨gb270, 2, none⟩ = some (.int .i64 ((rd_T61 l1 (ji8)).f2)) := (blk_cell BK270.out 2).trans rfl
                have hcz64_3 : wc.cell? ⟨gb270, 3, none⟩ = some (.int .i64 ((rd_T61 l1 (ji8)).f3)) := (blk_cell BK270.out 3).trans rfl
                have hcz64_4 : wc.cell? ⟨gb270, 4, none⟩ = some (.int .i64 ((rd_T61 l1 (ji8)).f4)) := (blk_cell BK270.out 4).trans rfl
                have hfz64_0 := blk_frozen BK270.out 0
                have hfz64_1 := blk_frozen BK270.out 1
                have hfz64_2 := blk_frozen BK270.out 2
                have hfz64_3 := blk_frozen BK270.out 3
                have hfz64_4 := blk_frozen BK270.out 4
                go_wp2
                go_ret
                exact ⟨_, by first | rfl | (simp [errW_none, errW_some] <;> rfl) | (simp only [← hji8, ← hji12, ← hji15]; first | rfl | (simp [errW_none, errW_some] <;> rfl)) | (simp [*, errW_none, errW_some] <;> rfl), rdl HO_11, bel2 HB GE270 GE273⟩
         ·rw [if_neg c17] at H
          exact absurd H (by simp)
        ·rw [if_neg c16] at H
         exact absurd H (by simp)
       ·rw [if_neg c14] at H
        exact absurd H (by simp)
      ·rw [if_neg c13] at H
       exact absurd H (by simp)
     ·rw [if_neg c11] at H
      have c11b0 : decide (0 < a4) = false := decide_eq_false c11
      clear c11
      by_cases c65 : ((rd_T61 l1 (ji8)).f3) = 2
      ·rw [if_pos c65] at H
       have c65b0 : (((rd_T61 l1 (ji8)).f3) == 2) = true := beq_iff_eq.mpr c65
       have c65b1 : (((rd_T61 l1 (ji8)).f3) != 2) = false := bne_eq_false_iff_eq.mpr c65
       clear c65
       by_cases c66 : a3 ≥ a2
       ·rw [if_pos c66] at H
        have c66b0 : decide (a2 ≤ a3) = true := decide_eq_true c66
        clear c66
        by_cases c67 : y265.length < 17592186044416
        ·rw [if_pos c67] at H
         have LMc67 := Aside0.mk c67
         clear c67
         obtain ⟨y289, hy289⟩ : ∃ y_ : List Int, y_ = (y265 ++ [4]) := ⟨_, rfl⟩
         replace H : (some y289) = some r := by first | (rw [hy289]; with_reducible exact H) | (have H2_ := (Option.bind_some _ _).symm.trans H; rw [hy289]; with_reducible exact H2_) | (have H2_ := (Option.bind_some _ _).symm.trans H; with_reducible exact H2_) | with_reducible exact H | (rw [hy289]; exact H) | exact H
         have Ny289 := Aside0.mk hy289
         clear hy289
         obtain rfl := Option.some.inj H
         go_enter Try.func50, Try.ntmps50
         go_wp2_with (first | ((with_reducible refine gate_dst (N := 14) rfl ?_); refine Kd.R_lit (Kd.int .i64) _ 3 ?hg (N := 14) ?hd (xs := ([] : List Int)) (inner := []) (ok := fun _ => True) (okp := fun _ => True) ?hr ?hp (fun _ hk => hk) trivial (Below.refl _ _) (Nat.le_refl _) (by simp) ?_; (case hd => rfl); (case hg => rfl); (case hr => first | (go_simp; done) | (go_simp; rfl)); (case hp => exact (Reps.none _ _)); intro v266 w68 ho69 hb hg_ hnew_; clear hg_ hnew_; (first | rw [← Ny265.out] at ho69 | (simp only [Int.reduceToNat] at ho69; rw [← Ny265.out] at ho69)); have n0_ := Aside0.mk (Kd.R_lower ho69 (below_size (bel HB))); have n1_ := Aside0.mk (below_step (bel HB) hb); clear HB; have HO267 := n0_; have HB := n1_; clear n0_ n1_; clear hb ho69; have p268 : 0 ≤ (a4 : Int) := oda; have q268 : a4 < (l0.length : Int) := oda; obtain ⟨ad268, e268, hx268_0⟩ := Kd.at_int HR0.out a4 p268 q268; cases e268; replace hx268_0 := cel HB hx268_0; replace p268 := eq_true p268; replace q268 := eq_true q268; have p269 : 0 ≤ ((ji8) : Int) := oda; have q269 : (ji8) < (l1.length : Int) := oda; obtain ⟨ad269, e269, hx269_0, hx269_1, hx269_2, hx269_3, hx269_4⟩ := at_T61 HR1.out (ji8) p269 q269; cases e269; replace hx269_0 := cel HB hx269_0; replace hx269_1 := cel HB hx269_1; replace hx269_2 := cel HB hx269_2; replace hx269_3 := cel HB hx269_3; replace hx269_4 := cel HB hx269_4; replace p269 := eq_true p269; replace q269 := eq_true q269) | ((with_reducible refine gate_dst (N := 12) rfl ?_); refine box_event ?hg (N := 12) ?hd (cs := #[.string (⟨#[]⟩ : ByteArray), .int .i64 0, .int .i64 0, .int .i64 0, .int .i64 0]) (t := 61) ?hr ?_; (case hd => rfl); (case hg => rfl); (case hr => first | (go_simp; done) | (go_simp; rfl)); intro gb270 hg w70 hbox hb; have n0_ := Aside0.mk (Kd.R_below (rdl HO267) hb); have n1_ := Aside0.mk (below_step (bel HB) hb); have n2_ := Aside0.mk (hbox); have n3_ := Aside0.mk ((by rw [hg]; exact (below_size (bel HB)) : w.heap.size ≤ gb270)); have n4_ := Aside0.mk ((by rw [hg]; exact (below_size (bel HB)) : w.heap.size ≤ gb270)); clear HO267; clear HB; have HO267 := n0_; have HB := n1_; have BK270 := n2_; have GW270 := n3_; have GE270 := n4_; clear n0_ n1_ n2_ n3_ n4_; clear hb hbox hg; have hcz71_0 : w70.cell? ⟨gb270, 0, none⟩ = some (.string (⟨#[]⟩ : ByteArray)) := (blk_cell BK270.out 0).trans rfl; have hcz71_1 : w70.cell? ⟨gb270, 1, none⟩ = some (.int .i64 0) := (blk_cell BK270.out 1).trans rfl; have hcz71_2 : w70.cell? ⟨gb270, 2, none⟩ = some (.int .i64 0) := (blk_cell BK270.out 2).trans rfl; have hcz71_3 : w70.cell? ⟨gb270, 3, none⟩ = some (.int .i64 0) := (blk_cell BK270.out 3).trans rfl; have hcz71_4 : w70.cell? ⟨gb270, 4, none⟩ = some (.int .i64 0) := (blk_cell BK270.out 4).trans rfl; have hfz71_0 := blk_frozen BK270.out 0; have hfz71_1 := blk_frozen BK270.out 1; have hfz71_2 := blk_frozen BK270.out 2; have hfz71_3 := blk_frozen BK270.out 3; have hfz71_4 := blk_frozen BK270.out 4) | ((with_reducible refine gate_builtin (b := .append) (xs := #[.tmp 64, .tmp 65]) rfl ?_); at_builtin; refine Kd.R_append (Kd.int .i64) (w0 := w) w.heap.size rfl (.tmp 64) (.tmp 65) 28 3 (.int .i64 0) 8 rfl Try.underlying28 info3 rfl (by decide) (by omega) v266 y265 4 [.int .i64 4] (fun _ => True) (fun _ => False) rfl (by first | (go_simp; done) | (go_simp; rfl)) ?aP (fun _ hk => hk.elim) ?aF ?aO ?aB ?aS ?aL ?_; (case aP => exact rfl); (case aB => exact (bel1 HB GE270)); (case aF => exact (fun _ _ => trivial)); (case aO => exact (by (with_reducible repeat (first | apply Kd.R_alloc | apply Kd.R_drewN | apply Kd.R_drew)); exact Kd.R_mono (Kd.R_far (p := ⟨gb270, 4, none⟩) (Kd.R_far (p := ⟨gb270, 3, none⟩) (Kd.R_far (p := ⟨gb270, 2, none⟩) (Kd.R_far (p := ⟨gb270, 1, none⟩) (Kd.R_far (p := ⟨gb270, 0, none⟩) (Kd.R_types HO267.out BK270.out (by decide)) (fun _ hk => hk.2) (.string ((rd_T61 l1 (ji8)).f0))) (fun _ hk => hk.2) (.int .i64 ((rd_T61 l1 (ji8)).f1))) (fun _ hk => hk.2) (.int .i64 ((rd_T61 l1 (ji8)).f2))) (fun _ hk => hk.2) (.int .i64 ((rd_T61 l1 (ji8)).f3))) (fun _ hk => hk.2) (.int .i64 ((rd_T61 l1 (ji8)).f4))) (fun _ hk => trivial))); (case aS => exact (below_size (bel1 HB GE270))); (case aL => have := LMc67.out; omega); intro v290 w72 ho hb hg hat; rw [← Ny289.out] at ho; have n0_ := Aside0.mk (blk_grown (g := gb270) (o := .cells #[.string ((rd_T61 l1 (ji8)).f0), .int .i64 ((rd_T61 l1 (ji8)).f1), .int .i64 ((rd_T61 l1 (ji8)).f2), .int .i64 ((rd_T61 l1 (ji8)).f3), .int .i64 ((rd_T61 l1 (ji8)).f4)] 61 (0, 0)) (by (with_reducible repeat (first | refine blk_drewN ?_ _ | refine blk_drew ?_ | refine blk_alloc ?_ _)); refine blk_put (cs := #[.string ((rd_T61 l1 (ji8)).f0), .int .i64 ((rd_T61 l1 (ji8)).f1), .int .i64 ((rd_T61 l1 (ji8)).f2), .int .i64 ((rd_T61 l1 (ji8)).f3), .int .i64 0]) ?_ 4 _ rfl; (with_reducible repeat (first | refine blk_drewN ?_ _ | refine blk_drew ?_ | refine blk_alloc ?_ _)); refine blk_put (cs := #[.string ((rd_T61 l1 (ji8)).f0), .int .i64 ((rd_T61 l1 (ji8)).f1), .int .i64 ((rd_T61 l1 (ji8)).f2), .int .i64 0, .int .i64 0]) ?_ 3 _ rfl; (with_reducible repeat (first | refine blk_drewN ?_ _ | refine blk_drew ?_ | refine blk_alloc ?_ _)); refine blk_put (cs := #[.string ((rd_T61 l1 (ji8)).f0), .int .i64 ((rd_T61 l1 (ji8)).f1), .int .i64 0, .int .i64 0, .int .i64 0]) ?_ 2 _ rfl; (with_reducible repeat (first | refine blk_drewN ?_ _ | refine blk_drew ?_ | refine blk_alloc ?_ _)); refine blk_put (cs := #[.string ((rd_T61 l1 (ji8)).f0), .int .i64 0, .int .i64 0, .int .i64 0, .int .i64 0]) ?_ 1 _ rfl; (with_reducible repeat (first | refine blk_drewN ?_ _ | refine blk_drew ?_ | refine blk_alloc ?_ _)); refine blk_put (cs := #[.string (⟨#[]⟩ : ByteArray), .int .i64 0, .int .i64 0, .int .i64 0, .int .i64 0]) ?_ 0 _ rfl; (with_reducible repeat (first | refine blk_drewN ?_ _ | refine blk_drew ?_ | refine blk_alloc ?_ _)); exact BK270.out) hg (Kd.R_ne HO267.out BK270.out (by decide))); have n1_ := Aside0.mk (hb); have n2_ := Aside0.mk (ho); clear BK270; clear HB; clear HO267; have BK270 := n0_; have HB := n1_; have HO291 := n2_; clear n0_ n1_ n2_; clear ho hb hg hat))
         go_ret
         exact ⟨_, by first | rfl | (simp [errW_none, errW_some] <;> rfl) | (simp only [← hji8]; first | rfl | (simp [errW_none, errW_some] <;> rfl)) | (simp [*, errW_none, errW_some] <;> rfl), rdl HO291, bel1 HB GE270⟩
        ·rw [if_neg c67] at H
         exact absurd H (by simp)
       ·rw [if_neg c66] at H
        have c66b0 : decide (a2 ≤ a3) = false := decide_eq_false c66
        clear c66
        obtain rfl := Option.some.inj H
        go_enter Try.func50, Try.ntmps50
        go_wp2_with (first | ((with_reducible refine gate_dst (N := 14) rfl ?_); refine Kd.R_lit (Kd.int .i64) _ 3 ?hg (N := 14) ?hd (xs := ([] : List Int)) (inner := []) (ok := fun _ => True) (okp := fun _ => True) ?hr ?hp (fun _ hk => hk) trivial (Below.refl _ _) (Nat.le_refl _) (by simp) ?_; (case hd => rfl); (case hg => rfl); (case hr => first | (go_simp; done) | (go_simp; rfl)); (case hp => exact (Reps.none _ _)); intro v266 w73 ho74 hb hg_ hnew_; clear hg_ hnew_; (first | rw [← Ny265.out] at ho74 | (simp only [Int.reduceToNat] at ho74; rw [← Ny265.out] at ho74)); have n0_ := Aside0.mk (Kd.R_lower ho74 (below_size (bel HB))); have n1_ := Aside0.mk (below_step (bel HB) hb); clear HB; have HO267 := n0_; have HB := n1_; clear n0_ n1_; clear hb ho74; have p268 : 0 ≤ (a4 : Int) := oda; have q268 : a4 < (l0.length : Int) := oda; obtain ⟨ad268, e268, hx268_0⟩ := Kd.at_int HR0.out a4 p268 q268; cases e268; replace hx268_0 := cel HB hx268_0; replace p268 := eq_true p268; replace q268 := eq_true q268; have p269 : 0 ≤ ((ji8) : Int) := oda; have q269 : (ji8) < (l1.length : Int) := oda; obtain ⟨ad269, e269, hx269_0, hx269_1, hx269_2, hx269_3, hx269_4⟩ := at_T61 HR1.out (ji8) p269 q269; cases e269; replace hx269_0 := cel HB hx269_0; replace hx269_1 := cel HB hx269_1; replace hx269_2 := cel HB hx269_2; replace hx269_3 := cel HB hx269_3; replace hx269_4 := cel HB hx269_4; replace p269 := eq_true p269; replace q269 := eq_true q269) | ((with_reducible refine gate_dst (N := 12) rfl ?_); refine box_event ?hg (N := 12) ?hd (cs := #[.string (⟨#[]⟩ : ByteArray), .int .i64 0, .int .i64 0, .int .i64 0, .int .i64 0]) (t := 61) ?hr ?_; (case hd => rfl); (case hg => rfl); (case hr => first | (go_simp; done) | (go_simp; rfl)); intro gb270 hg w75 hbox hb; have n0_ := Aside0.mk (Kd.R_below (rdl HO267) hb); have n1_ := Aside0.mk (below_step (bel HB) hb); have n2_ := Aside0.mk (hbox); have n3_ := Aside0.mk ((by rw [hg]; exact (below_size (bel HB)) : w.heap.size ≤ gb270)); have n4_ := Aside0.mk ((by rw [hg]; exact (below_size (bel HB)) : w.heap.size ≤ gb270)); clear HO267; clear HB; have HO267 := n0_; have HB := n1_; have BK270 := n2_; have GW270 := n3_; have GE270 := n4_; clear n0_ n1_ n2_ n3_ n4_; clear hb hbox hg; have hcz76_0 : w75.cell? ⟨gb270, 0, none⟩ = some (.string (⟨#[]⟩ : ByteArray)) := (blk_cell BK270.out 0).trans rfl; have hcz76_1 : w75.cell? ⟨gb270, 1, none⟩ = some (.int .i64 0) := (blk_cell BK270.out 1).trans rfl; have hcz76_2 : w75.cell? ⟨gb270, 2, none⟩ = some (.int .i64 0) := (blk_cell BK270.out 2).trans rfl; have hcz76_3 : w75.cell? ⟨gb270, 3, none⟩ = some (.int .i64 0) := (blk_cell BK270.out 3).trans rfl; have hcz76_4 : w75.cell? ⟨gb270, 4, none⟩ = some (.int .i64 0) := (blk_cell BK270.out 4).trans rfl; have hfz76_0 := blk_frozen BK270.out 0; have hfz76_1 := blk_frozen BK270.out 1; have hfz76_2 := blk_frozen BK270.out 2; have hfz76_3 := blk_frozen BK270.out 3; have hfz76_4 := blk_frozen BK270.out 4))
        go_ret
        exact ⟨_, by first | rfl | (simp [errW_none, errW_some] <;> rfl) | (simp only [← hji8]; first | rfl | (simp [errW_none, errW_some] <;> rfl)) | (simp [*, errW_none, errW_some] <;> rfl), by (with_reducible repeat (first | apply Kd.R_alloc | apply Kd.R_drewN | apply Kd.R_drew)); exact Kd.R_mono (Kd.R_far (p := ⟨gb270, 4, none⟩) (Kd.R_far (p := ⟨gb270, 3, none⟩) (Kd.R_far (p := ⟨gb270, 2, none⟩) (Kd.R_far (p := ⟨gb270, 1, none⟩) (Kd.R_far (p := ⟨gb270, 0, none⟩) (Kd.R_types HO267.out BK270.out (by decide)) (fun _ hk => hk.2) (.string ((rd_T61 l1 (ji8)).f0))) (fun _ hk => hk.2) (.int .i64 ((rd_T61 l1 (ji8)).f1))) (fun _ hk => hk.2) (.int .i64 ((rd_T61 l1 (ji8)).f2))) (fun _ hk => hk.2) (.int .i64 ((rd_T61 l1 (ji8)).f3))) (fun _ hk => hk.2) (.int .i64 ((rd_T61 l1 (ji8)).f4))) (fun _ hk => trivial), bel1 HB GE270⟩
      ·rw [if_neg c65] at H
       have c65b0 : (((rd_T61 l1 (ji8)).f3) == 2) = false := beq_eq_false_iff_ne.mpr c65
       have c65b1 : (((rd_T61 l1 (ji8)).f3) != 2) = true := bne_iff_ne.mpr c65
       obtain rfl := Option.some.inj H
       go_enter Try.func50, Try.ntmps50
       go_wp2_with (first | ((with_reducible refine gate_dst (N := 14) rfl ?_); refine Kd.R_lit (Kd.int .i64) _ 3 ?hg (N := 14) ?hd (xs := ([] : List Int)) (inner := []) (ok := fun _ => True) (okp := fun _ => True) ?hr ?hp (fun _ hk => hk) trivial (Below.refl _ _) (Nat.le_refl _) (by simp) ?_; (case hd => rfl); (case hg => rfl); (case hr => first | (go_simp; done) | (go_simp; rfl)); (case hp => exact (Reps.none _ _)); intro v266 w77 ho78 hb hg_ hnew_; clear hg_ hnew_; (first | rw [← Ny265.out] at ho78 | (simp only [Int.reduceToNat] at ho78; rw [← Ny265.out] at ho78)); have n0_ := Aside0.mk (Kd.R_lower ho78 (below_size (bel HB))); have n1_ := Aside0.mk (below_step (bel HB) hb); clear HB; have HO267 := n0_; have HB := n1_; clear n0_ n1_; clear hb ho78; have p268 : 0 ≤ (a4 : Int) := oda; have q268 : a4 < (l0.length : Int) := oda; obtain ⟨ad268, e268, hx268_0⟩ := Kd.at_int HR0.out a4 p268 q268; cases e268; replace hx268_0 := cel HB hx268_0; replace p268 := eq_true p268; replace q268 := eq_true q268; have p269 : 0 ≤ ((ji8) : Int) := oda; have q269 : (ji8) < (l1.length : Int) := oda; obtain ⟨ad269, e269, hx269_0, hx269_1, hx269_2, hx269_3, hx269_4⟩ := at_T61 HR1.out (ji8) p269 q269; cases e269; replace hx269_0 := cel HB hx269_0; replace hx269_1 := cel HB hx269_1; replace hx269_2 := cel HB hx269_2; replace hx269_3 := cel HB hx269_3; replace hx269_4 := cel HB hx269_4; replace p269 := eq_true p269; replace q269 := eq_true q269) | ((with_reducible refine gate_dst (N := 12) rfl ?_); refine box_event ?hg (N := 12) ?hd (cs := #[.string (⟨#[]⟩ : ByteArray), .int .i64 0, .int .i64 0, .int .i64 0, .int .i64 0]) (t := 61) ?hr ?_; (case hd => rfl); (case hg => rfl); (case hr => first | (go_simp; done) | (go_simp; rfl)); intro gb270 hg w79 hbox hb; have n0_ := Aside0.mk (Kd.R_below (rdl HO267) hb); have n1_ := Aside0.mk (below_step (bel HB) hb); have n2_ := Aside0.mk (hbox); have n3_ := Aside0.mk ((by rw [hg]; exact (below_size (bel HB)) : w.heap.size ≤ gb270)); have n4_ := Aside0.mk ((by rw [hg]; exact (below_size (bel HB)) : w.heap.size ≤ gb270)); clear HO267; clear HB; have HO267 := n0_; have HB := n1_; have BK270 := n2_; have GW270 := n3_; have GE270 := n4_; clear n0_ n1_ n2_ n3_ n4_; clear hb hbox hg; have hcz80_0 : w79.cell? ⟨gb270, 0, none⟩ = some (.string (⟨#[]⟩ : ByteArray)) := (blk_cell BK270.out 0).trans rfl; have hcz80_1 : w79.cell? ⟨gb270, 1, none⟩ = some (.int .i64 0) := (blk_cell BK270.out 1).trans rfl; have hcz80_2 : w79.cell? ⟨gb270, 2, none⟩ = some (.int .i64 0) := (blk_cell BK270.out 2).trans rfl; have hcz80_3 : w79.cell? ⟨gb270, 3, none⟩ = some (.int .i64 0) := (blk_cell BK270.out 3).trans rfl; have hcz80_4 : w79.cell? ⟨gb270, 4, none⟩ = some (.int .i64 0) := (blk_cell BK270.out 4).trans rfl; have hfz80_0 := blk_frozen BK270.out 0; have hfz80_1 := blk_frozen BK270.out 1; have hfz80_2 := blk_frozen BK270.out 2; have hfz80_3 := blk_frozen BK270.out 3; have hfz80_4 := blk_frozen BK270.out 4))
       go_ret
       exact ⟨_, by first | rfl | (simp [errW_none, errW_some] <;> rfl) | (simp only [← hji8]; first | rfl | (simp [errW_none, errW_some] <;> rfl)) | (simp [*, errW_none, errW_some] <;> rfl), by (with_reducible repeat (first | apply Kd.R_alloc | apply Kd.R_drewN | apply Kd.R_drew)); exact Kd.R_mono (Kd.R_far (p := ⟨gb270, 4, none⟩) (Kd.R_far (p := ⟨gb270, 3, none⟩) (Kd.R_far (p := ⟨gb270, 2, none⟩) (Kd.R_far (p := ⟨gb270, 1, none⟩) (Kd.R_far (p := ⟨gb270, 0, none⟩) (Kd.R_types HO267.out BK270.out (by decide)) (fun _ hk => hk.2) (.string ((rd_T61 l1 (ji8)).f0))) (fun _ hk => hk.2) (.int .i64 ((rd_T61 l1 (ji8)).f1))) (fun _ hk => hk.2) (.int .i64 ((rd_T61 l1 (ji8)).f2))) (fun _ hk => hk.2) (.int .i64 ((rd_T61 l1 (ji8)).f3))) (fun _ hk => hk.2) (.int .i64 ((rd_T61 l1 (ji8)).f4))) (fun _ hk => trivial), bel1 HB GE270⟩
    ·rw [if_neg c10] at H
     exact absurd H (by simp)
   ·rw [if_neg c9] at H
    exact absurd H (by simp)
  ·rw [if_neg c7] at H
   exact absurd H (by simp)
 ·rw [if_neg c6] at H
  exact absurd H (by simp)

/-! ### impl_yardFindings: function 39 -/
mutual
def impl_yardFindings.l0 : Nat → List (S61) → Int → List (S59) → List (List Int) → Int → Int → Option ((List (S59)))
 | 0, _, _, _, _, _, _ => none
 | k + 1, x1, x2, x7, x15, x16, x17 => if x17 < x16 then (if 0 ≤ x17 then (if x17 < (x15.length : Int) then (impl_yardFindings.l1 k x1 x2 x7 x17 (rd_L1 x15 x17) x15 x16 x17 ((rd_L1 x15 x17).length : Int) 0) else (none)) else (none)) else (some x7)
def impl_yardFindings.l1 : Nat → List (S61) → Int → List (S59) → Int → List Int → List (List Int) → Int → Int → Int → Int → Option ((List (S59)))
 | 0, _, _, _, _, _, _, _, _, _, _ => none
 | k + 1, x1, x2, x7, x8, x9, x15, x16, x17, x23, x24 => if x24 < x23 then ((impl_brokenRules.f k x9 x1 x2 x8 x24).bind fun t297 => (impl_yardFindings.l2 k x1 x2 x7 x8 x9 x24 x15 x16 x17 x23 x24 t297 (t297.length : Int) 0)) else (impl_yardFindings.l0 k x1 x2 x7 x15 x16 (wrap64 (x17 + 1)))
def impl_yardFindings.l2 : Nat → List (S61) → Int → List (S59) → Int → List Int → Int → List (List Int) → Int → Int → Int → Int → List Int → Int → Int → Option ((List (S59)))
 | 0, _, _, _, _, _, _, _, _, _, _, _, _, _, _ => none
 | k + 1, x1, x2, x7, x8, x9, x10, x15, x16, x17, x23, x24, x32, x33, x34 => if x34 < x33 then (if 0 ≤ x34 then (if x34 < (x32.length : Int) then (if x7.length < 5864062014805 then (impl_yardFindings.l2 k x1 x2 (x7 ++ [(⟨rd x32 x34, x8, x10⟩ : S59)]) x8 x9 x10 x15 x16 x17 x23 x24 x32 x33 (wrap64 (x34 + 1))) else (none)) else (none)) else (none)) else (impl_yardFindings.l1 k x1 x2 x7 x8 x9 x15 x16 x17 x23 (wrap64 (x24 + 1)))
end
def impl_yardFindings.f (k : Nat) (l0_0 : List (List Int)) (l1 : List (S61)) (a2 : Int) : Option ((List (S59))) := impl_yardFindings.l0 k l1 a2 (([] : List (S59))) l0_0 (l0_0.length : Int) 0
theorem impl_yardFindings.mono_l : ∀ k, (∀ y0 y1 y2 y3 y4 y5, LeO (impl_yardFindings.l0 k y0 y1 y2 y3 y4 y5) (impl_yardFindings.l0 (k + 1) y0 y1 y2 y3 y4 y5)) ∧ (∀ y0 y1 y2 y3 y4 y5 y6 y7 y8 y9, LeO (impl_yardFindings.l1 k y0 y1 y2 y3 y4 y5 y6 y7 y8 y9) (impl_yardFindings.l1 (k + 1) y0 y1 y2 y3 y4 y5 y6 y7 y8 y9)) ∧ (∀ y0 y1 y2 y3 y4 y5 y6 y7 y8 y9 y10 y11 y12 y13, LeO (impl_yardFindings.l2 k y0 y1 y2 y3 y4 y5 y6 y7 y8 y9 y10 y11 y12 y13) (impl_yardFindings.l2 (k + 1) y0 y1 y2 y3 y4 y5 y6 y7 y8 y9 y10 y11 y12 y13))
 | 0 => ⟨fun _ _ _ _ _ _ r h => by simp [impl_yardFindings.l0] at h, fun _ _ _ _ _ _ _ _ _ _ r h => by simp [impl_yardFindings.l1] at h, fun _ _ _ _ _ _ _ _ _ _ _ _ _ _ r h => by simp [impl_yardFindings.l2] at h⟩
 | k + 1 => by
  obtain ⟨ih0, ih1, ih2⟩ := impl_yardFindings.mono_l k
  refine ⟨?_, ?_, ?_⟩
  ·intro y0 y1 y2 y3 y4 y5
   unfold impl_yardFindings.l0
   repeat' first
   | (with_reducible exact ih0 _ _ _ _ _ _)
   | (with_reducible exact ih1 _ _ _ _ _ _ _ _ _ _)
   | (with_reducible exact ih2 _ _ _ _ _ _ _ _ _ _ _ _ _ _)
   | (with_reducible exact impl_brokenRules.mono _ _ _ _ _ _)
   | (with_reducible exact LeO.refl _)
   | (with_reducible exact LeO.none _)
   | (with_reducible refine LeO.ite ?_ ?_)
   | (with_reducible refine LeO.bind ?_ (fun _ => ?_))
   | exact ih0 _ _ _ _ _ _
   | exact ih1 _ _ _ _ _ _ _ _ _ _
   | exact ih2 _ _ _ _ _ _ _ _ _ _ _ _ _ _
   | exact impl_brokenRules.mono _ _ _ _ _ _
   | exact LeO.none _
   | refine LeO.ite ?_ ?_
   | refine LeO.bind ?_ (fun _ => ?_)
  ·intro y0 y1 y2 y3 y4 y5 y6 y7 y8 y9
   unfold impl_yardFindings.l1
   repeat' first
   | (with_reducible exact ih0 _ _ _ _ _ _)
   | (with_reducible exact ih1 _ _ _ _ _ _ _ _ _ _)
   | (with_reducible exact ih2 _ _ _ _ _ _ _ _ _ _ _ _ _ _)
   | (with_reducible exact impl_brokenRules.mono _ _ _ _ _ _)
   | (with_reducible exact LeO.refl _)
   | (with_reducible exact LeO.none _)
   | (with_reducible refine LeO.ite ?_ ?_)
   | (with_reducible refine LeO.bind ?_ (fun _ => ?_))
   | exact ih0 _ _ _ _ _ _
   | exact ih1 _ _ _ _ _ _ _ _ _ _
   | exact ih2 _ _ _ _ _ _ _ _ _ _ _ _ _ _
   | exact impl_brokenRules.mono _ _ _ _ _ _
   | exact LeO.none _
   | refine LeO.ite ?_ ?_
   | refine LeO.bind ?_ (fun _ => ?_)
  ·intro y0 y1 y2 y3 y4 y5 y6 y7 y8 y9 y10 y11 y12 y13
   unfold impl_yardFindings.l2
   repeat' first
   | (with_reducible exact ih0 _ _ _ _ _ _)
   | (with_reducible exact ih1 _ _ _ _ _ _ _ _ _ _)
   | (with_reducible exact ih2 _ _ _ _ _ _ _ _ _ _ _ _ _ _)
   | (with_reducible exact impl_brokenRules.mono _ _ _ _ _ _)
   | (with_reducible exact LeO.refl _)
   | (with_reducible exact LeO.none _)
   | (with_reducible refine LeO.ite ?_ ?_)
   | (with_reducible refine LeO.bind ?_ (fun _ => ?_))
   | exact ih0 _ _ _ _ _ _
   | exact ih1 _ _ _ _ _ _ _ _ _ _
   | exact ih2 _ _ _ _ _ _ _ _ _ _ _ _ _ _
   | exact impl_brokenRules.mono _ _ _ _ _ _
   | exact LeO.none _
   | refine LeO.ite ?_ ?_
   | refine LeO.bind ?_ (fun _ => ?_)
theorem impl_yardFindings.mono : ∀ a0 a1 a2 k, LeO (impl_yardFindings.f k a0 a1 a2) (impl_yardFindings.f (k + 1) a0 a1 a2) := by
 intro a0 a1 a2 k
 obtain ⟨ih0, ih1, ih2⟩ := impl_yardFindings.mono_l k
 unfold impl_yardFindings.f
 repeat' first
   | (with_reducible exact ih0 _ _ _ _ _ _)
   | (with_reducible exact ih1 _ _ _ _ _ _ _ _ _ _)
   | (with_reducible exact ih2 _ _ _ _ _ _ _ _ _ _ _ _ _ _)
   | (with_reducible exact impl_brokenRules.mono _ _ _ _ _ _)
   | (with_reducible exact LeO.refl _)
   | (with_reducible exact LeO.none _)
   | (with_reducible refine LeO.ite ?_ ?_)
   | (with_reducible refine LeO.bind ?_ (fun _ => ?_))
   | exact ih0 _ _ _ _ _ _
   | exact ih1 _ _ _ _ _ _ _ _ _ _
   | exact ih2 _ _ _ _ _ _ _ _ _ _ _ _ _ _
   | exact impl_brokenRules.mono _ _ _ _ _ _
   | exact LeO.none _
   | refine LeO.ite ?_ ?_
   | refine LeO.bind ?_ (fun _ => ?_)
set_option maxHeartbeats 8000000 in
set_option maxRecDepth 100000 in
theorem impl_yardFindings.calls (k : Nat) (A0_0 : Option Addr) (c0_0 : Nat) (l0_0 : List (List Int)) (A1 : Option Addr) (c1 : Nat) (l1 : List (S61)) (a2 : Int) (r : List (S59)) (w : World) (hr0_0 : Kd.C (Kd.slice 3 (Kd.int .i64)) w A0_0 l0_0.length l0_0) (hc0_0 : l0_0.length ≤ c0_0) (hr1 : Kd.C k61 w A1 l1.length l1) (hc1 : l1.length ≤ c1) (h : impl_yardFindings.f k l0_0 l1 a2 = some r) :
  Calls Try.prog 39 #[.agg #[.slice A0_0 l0_0.length c0_0], .slice A1 l1.length c1, .int .i64 a2] w fun e w' => ∃ v0_ : Value, e = .returned (v0_) ∧ Kd.R k59 59 w' w.heap.size (fun _ => True) v0_ r ∧ Below w.heap.size w w' := by
 have hu31 := Try.underlying31
 have hu59 := Try.underlying59
 have HR0_0 := Aside0.mk hr0_0
 have HC0_0 := Aside0.mk hc0_0
 clear hr0_0 hc0_0
 have HR1 := Aside0.mk hr1
 have HC1 := Aside0.mk hc1
 clear hr1 hc1
 have HB := Aside0.mk (Below.refl w.heap.size w)
 have H : (impl_yardFindings.l0 k l1 a2 (([] : List (S59))) l0_0 (l0_0.length : Int) 0) = some r := h
 clear h
 obtain ⟨y293, hy293⟩ : ∃ y_ : List (S59), y_ = (([] : List (S59))) := ⟨_, rfl⟩
 replace H : (impl_yardFindings.l0 k l1 a2 y293 l0_0 (l0_0.length : Int) 0) = some r := by first | (rw [hy293]; with_reducible exact H) | (have H2_ := (Option.bind_some _ _).symm.trans H; rw [hy293]; with_reducible exact H2_) | (have H2_ := (Option.bind_some _ _).symm.trans H; with_reducible exact H2_) | with_reducible exact H | (rw [hy293]; exact H) | exact H
 have Ny293 := Aside0.mk hy293
 clear hy293
 have H' := Aside0.mk H
 clear H
 go_enter Try.func39, Try.ntmps39
 go_wp2_with (first | ((with_reducible refine gate_dst (N := 3) rfl ?_); refine box_event ?hg (N := 3) ?hd (cs := #[.slice A0_0 l0_0.length c0_0]) (t := 31) ?hr ?_; (case hd => rfl); (case hg => rfl); (case hr => first | (go_simp; done) | (go_simp; rfl)); intro gb292 hg w4 hbox hb; have n0_ := Aside0.mk (below_step (bel HB) hb); have n1_ := Aside0.mk (hbox); have n2_ := Aside0.mk ((by rw [hg]; exact (below_size (bel HB)) : w.heap.size ≤ gb292)); have n3_ := Aside0.mk ((by rw [hg]; exact (below_size (bel HB)) : w.heap.size ≤ gb292)); clear HB; have HB := n0_; have BK292 := n1_; have GW292 := n2_; have GE292 := n3_; clear n0_ n1_ n2_ n3_; clear hb hbox hg) | ((with_reducible refine gate_dst (N := 13) rfl ?_); refine Kd.R_lit k59 _ 59 ?hg (N := 13) ?hd (xs := ([] : List (S59))) (inner := []) (ok := fun _ => True) (okp := fun _ => True) ?hr ?hp (fun _ hk => hk) trivial (Below.refl _ _) (Nat.le_refl _) (by simp) ?_; (case hd => rfl); (case hg => rfl); (case hr => first | (go_simp; done) | (go_simp; rfl)); (case hp => exact (Reps.none _ _)); intro v294 w5 ho6 hb hg_ hnew_; clear hg_ hnew_; (first | rw [← Ny293.out] at ho6 | (simp only [Int.reduceToNat] at ho6; rw [← Ny293.out] at ho6)); have n0_ := Aside0.mk (Kd.R_lower ho6 (below_size (bel1 HB GE292))); have n1_ := Aside0.mk (blk_below (g := gb292) (o := .cells #[.slice A0_0 l0_0.length c0_0] 31 (0, 0)) (bkl BK292) hb); have n2_ := Aside0.mk (below_step (bel1 HB GE292) hb); clear BK292; clear HB; have HO295 := n0_; have BK292 := n1_; have HB := n2_; clear n0_ n1_ n2_; clear hb ho6; have hcz7_0 : w5.cell? ⟨gb292, 0, none⟩ = some (.slice A0_0 l0_0.length c0_0) := (blk_cell BK292.out 0).trans rfl; have hfz7_0 := blk_frozen BK292.out 0))
 go_loopg [7, 17] k (fun kq v7 v17 w' => ∃ (x7_1 : List (S59)) (x17_1 : Int), v17 = .int .i64 x17_1 ∧ Aside0 (impl_yardFindings.l0 kq l1 a2 x7_1 l0_0 (l0_0.length : Int) x17_1 = some r) ∧ Aside0 (kq ≤ k) ∧ Aside0 (Kd.R k59 59 w' w.heap.size (fun _ => True) v7 x7_1) ∧ Aside0 (w'.heap[gb292]? = some (.cells #[(.slice A0_0 l0_0.length c0_0)] 31 (0, 0))) ∧ Aside0 (Below w.heap.size w w'))
 case atStart => exact ⟨(y293), (0), (by first | rfl | (simp; done) | (simp [*]; done)), H', ⟨Nat.le_refl _⟩, ⟨rdl HO295⟩, ⟨bkl BK292⟩, ⟨bel1 HB GE292⟩⟩
 case round =>
  clear H'
  try clear c1
  try clear p2
  try clear c3
  try clear hcz7_0
  try clear hfz7_0
  obtain ⟨x7_1, x17_1, rfl, HA, HK1, HO_7, BK292, HB⟩ := hrel
  cases gk with
  | zero => exact absurd HA.out (by simp [impl_yardFindings.l0])
  | succ k1 =>
   have H := HA.out
   clear HA
   simp only [impl_yardFindings.l0] at H
   by_cases c8 : x17_1 < (l0_0.length : Int)
   ·rw [if_pos c8] at H
    have c8b0 : decide (x17_1 < (l0_0.length : Int)) = true := decide_eq_true c8
    clear c8
    by_cases c9 : 0 ≤ x17_1
    ·rw [if_pos c9] at H
     have c9b0 : decide (0 ≤ x17_1) = true := decide_eq_true c9
     clear c9
     by_cases c10 : x17_1 < (l0_0.length : Int)
     ·rw [if_pos c10] at H
      have c10b0 : decide (x17_1 < (l0_0.length : Int)) = true := decide_eq_true c10
      clear c10
      have H' := Aside0.mk H
      clear H
      have p296 : 0 ≤ (x17_1 : Int) := oda
      have q296 : x17_1 < (l0_0.length : Int) := oda
      obtain ⟨ad296, A296_0, c296_0, e296, hx296_0, hl296_0, hi296_0⟩ := at_L1 HR0_0.out x17_1 p296 q296
      cases e296
      replace hx296_0 := cel HB hx296_0
      have HR296_0 := Aside0.mk hi296_0
      have HC296_0 := Aside0.mk hl296_0
      clear hi296_0 hl296_0
      replace p296 := eq_true p296
      replace q296 := eq_true q296
      go_wp2
      go_loopg [7, 24] k1 (fun kq v7 v24 w' => ∃ (x7_2 : List (S59)) (x24_2 : Int), v24 = .int .i64 x24_2 ∧ Aside0 (impl_yardFindings.l1 kq l1 a2 x7_2 x17_1 (rd_L1 l0_0 x17_1) l0_0 (l0_0.length : Int) x17_1 ((rd_L1 l0_0 x17_1).length : Int) x24_2 = some r) ∧ Aside0 (kq ≤ k1) ∧ Aside0 (Kd.R k59 59 w' w.heap.size (fun _ => True) v7 x7_2) ∧ Aside0 (w'.heap[gb292]? = some (.cells #[(.slice (some ad296) l0_0.length c0_0)] 31 (0, 0))) ∧ Aside0 (Below w.heap.size w w'))
      case atStart => exact ⟨(x7_1), (0), (by first | rfl | (simp; done) | (simp [*]; done)), H', ⟨Nat.le_refl _⟩, ⟨rdl HO_7⟩, ⟨bkl BK292⟩, ⟨bel1 HB GE292⟩⟩
      case round =>
       clear H'
       try clear c1
       try clear c2
       try clear p2
       try clear q2
       try clear hx2
       try clear c3
       try clear c8
       try clear c8b0
       try clear c9
       try clear c9b0
       try clear c10
       try clear c10b0
       try clear hcz7_0
       try clear hfz7_0
       try clear hx296_0
       try clear p2
       try clear p296
       try clear q296
       obtain ⟨x7_2, x24_2, rfl, HA, HK2, HO_7, BK292, HB⟩ := hrel
       cases gk with
       | zero => exact absurd HA.out (by simp [impl_yardFindings.l1])
       | succ k2 =>
        have H := HA.out
        clear HA
        simp only [impl_yardFindings.l1] at H
        by_cases c11 : x24_2 < ((rd_L1 l0_0 x17_1).length : Int)
        ·rw [if_pos c11] at H
         have c11b0 : decide (x24_2 < ((rd_L1 l0_0 x17_1).length : Int)) = true := decide_eq_true c11
         clear c11
         replace H := Option.bind_eq_some_iff.mp H
         obtain ⟨t297, A120, H⟩ := H
         replace H : (impl_yardFindings.l2 k2 l1 a2 x7_2 x17_1 (rd_L1 l0_0 x17_1) x24_2 l0_0 (l0_0.length : Int) x17_1 ((rd_L1 l0_0 x17_1).length : Int) x24_2 t297 (t297.length : Int) 0) = some r := H
         have A12 := Aside0.mk A120
         clear A120
         have H' := Aside0.mk H
         clear H
         go_wp2_with (first | ((with_reducible refine gate_callee (f := 50) rfl ?_); refine goesL_ (some 32) rfl rfl Try.func50 (by kernel_rfl) rfl #[.slice A296_0 (rd_L1 l0_0 x17_1).length c296_0, .slice A1 l1.length c1, .int .i64 a2, .int .i64 x17_1, .int .i64 x24_2] rfl gmp ?_; (with_reducible refine (impl_brokenRules.calls k2 _ _ (rd_L1 l0_0 x17_1) _ _ l1 a2 x17_1 x24_2 t297 _ ?side1 ?side2 ?side3 ?side4 A12.out).mono ?_); (case side1 => exact cdl (Kd.C_below HR296_0.out HB.out)); (case side2 => exact HC296_0.out); (case side3 => exact cdl (Kd.C_below HR1.out HB.out)); (case side4 => exact HC1.out); rintro e w13 ⟨v298, rfl, ho0, hb⟩; refine ⟨_, rfl, ?_⟩; have n0_ := Aside0.mk (Kd.R_below (rdl HO_7) hb); have n1_ := Aside0.mk (Kd.R_lower ho0 (below_size (bel1 HB GE292))); have n2_ := Aside0.mk (blk_below (g := gb292) (o := .cells #[.slice (some ad296) l0_0.length c0_0] 31 (0, 0)) (bkl BK292) hb); have n3_ := Aside0.mk (below_step (bel1 HB GE292) hb); clear HO_7; clear BK292; clear HB; have HO_7 := n0_; have HO299 := n1_; have BK292 := n2_; have HB := n3_; clear n0_ n1_ n2_ n3_; (try clear hb); (try clear hb2); (try clear hk); (try clear hi); (try clear ho0); obtain ⟨Ao14, co14, eo14⟩ := Kd.R_slice HO299.out; subst eo14))
         go_loopg [7, 34] k2 (fun kq v7 v34 w' => ∃ (x7_3 : List (S59)) (x34_3 : Int), v34 = .int .i64 x34_3 ∧ Aside0 (impl_yardFindings.l2 kq l1 a2 x7_3 x17_1 (rd_L1 l0_0 x17_1) x24_2 l0_0 (l0_0.length : Int) x17_1 ((rd_L1 l0_0 x17_1).length : Int) x24_2 t297 (t297.length : Int) x34_3 = some r) ∧ Aside0 (kq ≤ k2) ∧ Aside0 (Kd.R k59 59 w' w.heap.size (fun _ => True) v7 x7_3) ∧ Aside0 (Kd.R (Kd.int .i64) 3 w' w.heap.size (fun _ => True) (.slice Ao14 t297.length co14) t297) ∧ Aside0 (w'.heap[gb292]? = some (.cells #[(.slice (some ad296) l0_0.length c0_0)] 31 (0, 0))) ∧ Aside0 (Below w.heap.size w w'))
         case atStart => exact ⟨(x7_2), (0), (by first | rfl | (simp; done) | (simp [*]; done)), H', ⟨Nat.le_refl _⟩, ⟨rdl HO_7⟩, ⟨rdl HO299⟩, ⟨bkl BK292⟩, ⟨bel1 HB GE292⟩⟩
         case round =>
          clear H'
          try clear c1
          try clear c2
          try clear p2
          try clear q2
          try clear hx2
          try clear c3
          try clear c5
          try clear c8
          try clear c8b0
          try clear c9
          try clear c9b0
          try clear c10
          try clear c10b0
          try clear c11
          try clear c11b0
          try clear hcz7_0
          try clear hfz7_0
          try clear hx296_0
          try clear p2
          try clear p296
          try clear q2
          try clear q296
          obtain ⟨x7_3, x34_3, rfl, HA, HK3, HO_7, HO_32, BK292, HB⟩ := hrel
          cases gk with
          | zero => exact absurd HA.out (by simp [impl_yardFindings.l2])
          | succ k3 =>
           have H := HA.out
           clear HA
           simp only [impl_yardFindings.l2] at H
           by_cases c15 : x34_3 < (t297.length : Int)
           ·rw [if_pos c15] at H
            have c15b0 : decide (x34_3 < (t297.length : Int)) = true := decide_eq_true c15
            clear c15
            by_cases c16 : 0 ≤ x34_3
            ·rw [if_pos c16] at H
             have c16b0 : decide (0 ≤ x34_3) = true := decide_eq_true c16
             clear c16
             by_cases c17 : x34_3 < (t297.length : Int)
             ·rw [if_pos c17] at H
              have c17b0 : decide (x34_3 < (t297.length : Int)) = true := decide_eq_true c17
              clear c17
              by_cases c18 : x7_3.length < 5864062014805
              ·rw [if_pos c18] at H
               have LMc18 := Aside0.mk c18
               clear c18
               obtain ⟨y301, hy301⟩ : ∃ y_ : List (S59), y_ = (x7_3 ++ [(⟨rd t297 x34_3, x17_1, x24_2⟩ : S59)]) := ⟨_, rfl⟩
               replace H : (impl_yardFindings.l2 k3 l1 a2 y301 x17_1 (rd_L1 l0_0 x17_1) x24_2 l0_0 (l0_0.length : Int) x17_1 ((rd_L1 l0_0 x17_1).length : Int) x24_2 t297 (t297.length : Int) (wrap64 (x34_3 + 1))) = some r := by first | (rw [hy301]; with_reducible exact H) | (have H2_ := (Option.bind_some _ _).symm.trans H; rw [hy301]; with_reducible exact H2_) | (have H2_ := (Option.bind_some _ _).symm.trans H; with_reducible exact H2_) | with_reducible exact H | (rw [hy301]; exact H) | exact H
               have Ny301 := Aside0.mk hy301
               clear hy301
               have H' := Aside0.mk H
               clear H
               have p300 : 0 ≤ (x34_3 : Int) := oda
               have q300 : x34_3 < (t297.length : Int) := oda
               obtain ⟨ad300, e300, hx300_0⟩ := Kd.at_int (Kd.R_reads' HO_32.out).2.2 x34_3 p300 q300
               cases e300
               replace p300 := eq_true p300
               replace q300 := eq_true q300
               go_wp2_with (first | ((with_reducible refine gate_builtin (b := .append) (xs := #[.tmp 38, .tmp 43]) rfl ?_); at_builtin; refine Kd.R_append k59 (w0 := w) w.heap.size rfl (.tmp 38) (.tmp 43) 42 59 (.agg #[(.int .i64 0), (.int .i64 0), (.int .i64 0)]) 24 rfl Try.underlying42 info59 rfl (by decide) (by omega) u7 x7_3 (⟨rd t297 x34_3, x17_1, x24_2⟩ : S59) [.int .i64 (rd t297 x34_3), .int .i64 x17_1, .int .i64 x24_2] (fun _ => True) (fun _ => False) rfl rfl ?aP (fun _ hk => hk.elim) ?aF ?aO ?aB ?aS ?aL ?_; (case aP => exact k59_mkM _ _ _ (⟨rd t297 x34_3, x17_1, x24_2⟩ : S59)); (case aB => exact (bel1 HB GE292)); (case aF => exact (fun _ _ => trivial)); (case aO => exact (rdl HO_7)); (case aS => exact (below_size (bel1 HB GE292))); (case aL => have := LMc18.out; omega); intro v302 w19 ho hb hg hat; rw [← Ny301.out] at ho; have n0_ := Aside0.mk (Kd.R_over' (rdl HO_32) (Kd.R_typed (rdl HO_7)) (by decide) hg); have n1_ := Aside0.mk (blk_grown (g := gb292) (o := .cells #[.slice (some ad296) l0_0.length c0_0] 31 (0, 0)) (bkl BK292) hg (Kd.R_ne HO_7.out BK292.out (by decide))); have n2_ := Aside0.mk (hb); have n3_ := Aside0.mk (ho); clear HO_32; clear BK292; clear HB; clear HO_7; have HO_32 := n0_; have BK292 := n1_; have HB := n2_; have HO303 := n3_; clear n0_ n1_ n2_ n3_; clear ho hb hg hat))
               go_roundg k3
               case measure => have := HK1.out; have := HK2.out; have := HK3.out; omega
               case rel => exact ⟨(y301), (wrap64 (x34_3 + 1)), (by first | rfl | (simp; done) | (simp [*]; done)), H', ⟨by have := HK1.out; have := HK2.out; have := HK3.out; omega⟩, ⟨rdl HO303⟩, ⟨rdl HO_32⟩, ⟨bkl BK292⟩, ⟨bel1 HB GE292⟩⟩
              ·rw [if_neg c18] at H
               exact absurd H (by simp)
             ·rw [if_neg c17] at H
              exact absurd H (by simp)
            ·rw [if_neg c16] at H
             exact absurd H (by simp)
           ·rw [if_neg c15] at H
            have c15b0 : decide (x34_3 < (t297.length : Int)) = false := decide_eq_false c15
            clear c15
            have H' := Aside0.mk H
            clear H
            go_wp2
            go_roundg k3
            case measure => have := HK1.out; have := HK2.out; have := HK3.out; omega
            case rel => exact ⟨(x7_3), (wrap64 (x24_2 + 1)), (by first | rfl | (simp; done) | (simp [*]; done)), H', ⟨by have := HK1.out; have := HK2.out; have := HK3.out; omega⟩, ⟨rdl HO_7⟩, ⟨bkl BK292⟩, ⟨bel1 HB GE292⟩⟩
        ·rw [if_neg c11] at H
         have c11b0 : decide (x24_2 < ((rd_L1 l0_0 x17_1).length : Int)) = false := decide_eq_false c11
         clear c11
         have H' := Aside0.mk H
         clear H
         go_wp2
         go_roundg k2
         case measure => have := HK1.out; have := HK2.out; omega
         case rel => exact ⟨(x7_2), (wrap64 (x17_1 + 1)), (by first | rfl | (simp; done) | (simp [*]; done)), H', ⟨by have := HK1.out; have := HK2.out; omega⟩, ⟨rdl HO_7⟩, ⟨bkl BK292⟩, ⟨bel1 HB GE292⟩⟩
     ·rw [if_neg c10] at H
      exact absurd H (by simp)
    ·rw [if_neg c9] at H
     exact absurd H (by simp)
   ·rw [if_neg c8] at H
    have c8b0 : decide (x17_1 < (l0_0.length : Int)) = false := decide_eq_false c8
    clear c8
    obtain rfl := Option.some.inj H
    go_wp2
    go_ret
    exact ⟨_, by first | rfl | (simp [errW_none, errW_some] <;> rfl) | (simp [*, errW_none, errW_some] <;> rfl), rdl HO_7, bel1 HB GE292⟩

/-! ### impl_YardFindings: function 21 -/
def impl_YardFindings.f (k : Nat) (l0_0 : List (List Int)) (l1 : List (S61)) (a2 : Int) : Option ((List (S59)) × Bool) := (impl_areYard.f k l0_0 l1 a2).bind fun t305 => (if t305 = true then ((impl_yardFindings.f k l0_0 l1 a2).bind fun t306 => (some (t306, true))) else (some (([] : List (S59)), false)))
theorem impl_YardFindings.mono : ∀ a0 a1 a2 k, LeO (impl_YardFindings.f k a0 a1 a2) (impl_YardFindings.f (k + 1) a0 a1 a2) := by
 intro a0 a1 a2 k
 unfold impl_YardFindings.f
 repeat' first
   | (with_reducible exact impl_areYard.mono _ _ _ _)
   | (with_reducible exact impl_yardFindings.mono _ _ _ _)
   | (with_reducible exact LeO.refl _)
   | (with_reducible exact LeO.none _)
   | (with_reducible refine LeO.ite ?_ ?_)
   | (with_reducible refine LeO.bind ?_ (fun _ => ?_))
   | exact impl_areYard.mono _ _ _ _
   | exact impl_yardFindings.mono _ _ _ _
   | exact LeO.none _
   | refine LeO.ite ?_ ?_
   | refine LeO.bind ?_ (fun _ => ?_)
set_option maxHeartbeats 8000000 in
set_option maxRecDepth 100000 in
theorem impl_YardFindings.calls (k : Nat) (A0_0 : Option Addr) (c0_0 : Nat) (l0_0 : List (List Int)) (A1 : Option Addr) (c1 : Nat) (l1 : List (S61)) (a2 : Int) (r1 : List (S59)) (r2 : Bool) (w : World) (hr0_0 : Kd.C (Kd.slice 3 (Kd.int .i64)) w A0_0 l0_0.length l0_0) (hc0_0 : l0_0.length ≤ c0_0) (hr1 : Kd.C k61 w A1 l1.length l1) (hc1 : l1.length ≤ c1) (h : impl_YardFindings.f k l0_0 l1 a2 = some (r1, r2)) :
  Calls Try.prog 21 #[.agg #[.slice A0_0 l0_0.length c0_0], .slice A1 l1.length c1, .int .i64 a2] w fun e w' => ∃ v0_ : Value, e = .returned (.tuple #[v0_, .bool r2]) ∧ Kd.R k59 59 w' w.heap.size (fun _ => True) v0_ r1 ∧ Below w.heap.size w w' := by
 have hu31 := Try.underlying31
 have HR0_0 := Aside0.mk hr0_0
 have HC0_0 := Aside0.mk hc0_0
 clear hr0_0 hc0_0
 have HR1 := Aside0.mk hr1
 have HC1 := Aside0.mk hc1
 clear hr1 hc1
 have HB := Aside0.mk (Below.refl w.heap.size w)
 have H : ((impl_areYard.f k l0_0 l1 a2).bind fun t305 => (if t305 = true then ((impl_yardFindings.f k l0_0 l1 a2).bind fun t306 => (some (t306, true))) else (some (([] : List (S59)), false)))) = some (r1, r2) := h
 clear h
 replace H := Option.bind_eq_some_iff.mp H
 obtain ⟨t305, A40, H⟩ := H
 replace H : (if t305 = true then ((impl_yardFindings.f k l0_0 l1 a2).bind fun t306 => (some (t306, true))) else (some (([] : List (S59)), false))) = some (r1, r2) := H
 have A4 := Aside0.mk A40
 clear A40
 by_cases c5 : t305 = true
 ·subst c5
  have H1 : ((impl_yardFindings.f k l0_0 l1 a2).bind fun t306 => (some (t306, true))) = some (r1, r2) := by rw [if_pos rfl] at H; exact H
  clear H
  have H := H1
  clear H1
  replace H := Option.bind_eq_some_iff.mp H
  obtain ⟨t306, A60, H⟩ := H
  replace H : (some (t306, true)) = some (r1, r2) := H
  have A6 := Aside0.mk A60
  clear A60
  simp only [Option.some.injEq, Prod.mk.injEq] at H
  obtain ⟨rfl, rfl⟩ := H
  go_enter Try.func21, Try.ntmps21
  go_wp2_with (first | ((with_reducible refine gate_dst (N := 3) rfl ?_); refine box_event ?hg (N := 3) ?hd (cs := #[.slice A0_0 l0_0.length c0_0]) (t := 31) ?hr ?_; (case hd => rfl); (case hg => rfl); (case hr => first | (go_simp; done) | (go_simp; rfl)); intro gb304 hg w7 hbox hb; have n0_ := Aside0.mk (below_step (bel HB) hb); have n1_ := Aside0.mk (hbox); have n2_ := Aside0.mk ((by rw [hg]; exact (below_size (bel HB)) : w.heap.size ≤ gb304)); have n3_ := Aside0.mk ((by rw [hg]; exact (below_size (bel HB)) : w.heap.size ≤ gb304)); clear HB; have HB := n0_; have BK304 := n1_; have GW304 := n2_; have GE304 := n3_; clear n0_ n1_ n2_ n3_; clear hb hbox hg; have hcz8_0 : w7.cell? ⟨gb304, 0, none⟩ = some (.slice A0_0 l0_0.length c0_0) := (blk_cell BK304.out 0).trans rfl; have hfz8_0 := blk_frozen BK304.out 0) | ((with_reducible refine gate_callee (f := 38) rfl ?_); refine goesL_ (some 11) rfl rfl Try.func38 (by kernel_rfl) rfl #[.agg #[.slice A0_0 l0_0.length c0_0], .slice A1 l1.length c1, .int .i64 a2] rfl gmp ?_; (with_reducible refine (impl_areYard.calls k _ _ l0_0 _ _ l1 a2 true _ ?side1 ?side2 ?side3 ?side4 A4.out).mono ?_); (case side1 => exact cdl (Kd.C_below HR0_0.out HB.out)); (case side2 => exact HC0_0.out); (case side3 => exact cdl (Kd.C_below HR1.out HB.out)); (case side4 => exact HC1.out); rintro e w9 ⟨rfl, hb⟩; refine ⟨_, rfl, ?_⟩; have n0_ := Aside0.mk (blk_below (g := gb304) (o := .cells #[.slice A0_0 l0_0.length c0_0] 31 (0, 0)) (bkl BK304) hb); have n1_ := Aside0.mk (below_step (bel1 HB GE304) hb); clear BK304; clear HB; have BK304 := n0_; have HB := n1_; clear n0_ n1_; (try clear hb); (try clear hb2); (try clear hk); (try clear hi); have hcz10_0 : w9.cell? ⟨gb304, 0, none⟩ = some (.slice A0_0 l0_0.length c0_0) := (blk_cell BK304.out 0).trans rfl; have hfz10_0 := blk_frozen BK304.out 0) | ((with_reducible refine gate_callee (f := 39) rfl ?_); refine goesL_ (some 16) rfl rfl Try.func39 (by kernel_rfl) rfl #[.agg #[.slice A0_0 l0_0.length c0_0], .slice A1 l1.length c1, .int .i64 a2] rfl gmp ?_; (with_reducible refine (impl_yardFindings.calls k _ _ l0_0 _ _ l1 a2 t306 _ ?side1 ?side2 ?side3 ?side4 A6.out).mono ?_); (case side1 => exact cdl (Kd.C_below HR0_0.out HB.out)); (case side2 => exact HC0_0.out); (case side3 => exact cdl (Kd.C_below HR1.out HB.out)); (case side4 => exact HC1.out); rintro e w11 ⟨v307, rfl, ho0, hb⟩; refine ⟨_, rfl, ?_⟩; have n0_ := Aside0.mk (Kd.R_lower ho0 (below_size (bel1 HB GE304))); have n1_ := Aside0.mk (blk_below (g := gb304) (o := .cells #[.slice A0_0 l0_0.length c0_0] 31 (0, 0)) (bkl BK304) hb); have n2_ := Aside0.mk (below_step (bel1 HB GE304) hb); clear BK304; clear HB; have HO308 := n0_; have BK304 := n1_; have HB := n2_; clear n0_ n1_ n2_; (try clear hb); (try clear hb2); (try clear hk); (try clear hi); (try clear ho0)))
  go_ret2
  exact ⟨_, by first | rfl | (simp [errW_none, errW_some] <;> rfl) | (simp [*, errW_none, errW_some] <;> rfl), rdl HO308, bel1 HB GE304⟩
 ·replace c5 := Bool.eq_false_iff.mpr c5
  subst c5
  have H1 : (some (([] : List (S59)), false)) = some (r1, r2) := by rw [if_neg (show ¬ (false = true) by decide)] at H; exact H
  clear H
  have H := H1
  clear H1
  simp only [Option.some.injEq, Prod.mk.injEq] at H
  obtain ⟨rfl, rfl⟩ := H
  go_enter Try.func21, Try.ntmps21
  go_wp2_with (first | ((with_reducible refine gate_dst (N := 3) rfl ?_); refine box_event ?hg (N := 3) ?hd (cs := #[.slice A0_0 l0_0.length c0_0]) (t := 31) ?hr ?_; (case hd => rfl); (case hg => rfl); (case hr => first | (go_simp; done) | (go_simp; rfl)); intro gb304 hg w12 hbox hb; have n0_ := Aside0.mk (below_step (bel HB) hb); have n1_ := Aside0.mk (hbox); have n2_ := Aside0.mk ((by rw [hg]; exact (below_size (bel HB)) : w.heap.size ≤ gb304)); have n3_ := Aside0.mk ((by rw [hg]; exact (below_size (bel HB)) : w.heap.size ≤ gb304)); clear HB; have HB := n0_; have BK304 := n1_; have GW304 := n2_; have GE304 := n3_; clear n0_ n1_ n2_ n3_; clear hb hbox hg; have hcz13_0 : w12.cell? ⟨gb304, 0, none⟩ = some (.slice A0_0 l0_0.length c0_0) := (blk_cell BK304.out 0).trans rfl; have hfz13_0 := blk_frozen BK304.out 0) | ((with_reducible refine gate_callee (f := 38) rfl ?_); refine goesL_ (some 11) rfl rfl Try.func38 (by kernel_rfl) rfl #[.agg #[.slice A0_0 l0_0.length c0_0], .slice A1 l1.length c1, .int .i64 a2] rfl gmp ?_; (with_reducible refine (impl_areYard.calls k _ _ l0_0 _ _ l1 a2 false _ ?side1 ?side2 ?side3 ?side4 A4.out).mono ?_); (case side1 => exact cdl (Kd.C_below HR0_0.out HB.out)); (case side2 => exact HC0_0.out); (case side3 => exact cdl (Kd.C_below HR1.out HB.out)); (case side4 => exact HC1.out); rintro e w14 ⟨rfl, hb⟩; refine ⟨_, rfl, ?_⟩; have n0_ := Aside0.mk (blk_below (g := gb304) (o := .cells #[.slice A0_0 l0_0.length c0_0] 31 (0, 0)) (bkl BK304) hb); have n1_ := Aside0.mk (below_step (bel1 HB GE304) hb); clear BK304; clear HB; have BK304 := n0_; have HB := n1_; clear n0_ n1_; (try clear hb); (try clear hb2); (try clear hk); (try clear hi)))
  go_ret2
  exact ⟨_, by first | rfl | (simp [errW_none, errW_some] <;> rfl) | (simp [*, errW_none, errW_some] <;> rfl), by first | exact Kd.R_nil _ _ _ _ _ | exact Kd.N_nil _ _ _ _ _ | exact Kd.V_nil _ _ _ _ _ | exact Kd.Q_nil _ _ _ _ _ | exact Kd.S_nil _ _ _ _ _, bel1 HB GE304⟩

/-! ### laws_eqYardFinding: function 42 -/
def laws_eqYardFinding.f (a0_0 : Int) (a0_1 : Int) (a0_2 : Int) (a1_0 : Int) (a1_1 : Int) (a1_2 : Int) : Option (Bool) := if a0_0 = a1_0 then (if a0_1 = a1_1 then (if a0_2 = a1_2 then (some true) else (some false)) else (some false)) else (some false)
set_option maxHeartbeats 8000000 in
set_option maxRecDepth 100000 in
theorem laws_eqYardFinding.calls (a0_0 : Int) (a0_1 : Int) (a0_2 : Int) (a1_0 : Int) (a1_1 : Int) (a1_2 : Int) (r : Bool) (w : World) (h : laws_eqYardFinding.f a0_0 a0_1 a0_2 a1_0 a1_1 a1_2 = some r) :
  Calls Try.prog 42 #[.agg #[.int .i64 a0_0, .int .i64 a0_1, .int .i64 a0_2], .agg #[.int .i64 a1_0, .int .i64 a1_1, .int .i64 a1_2]] w fun e w' => e = .returned (.bool r) ∧ Below w.heap.size w w' := by
 have hu59 := Try.underlying59
 have HB := Aside0.mk (Below.refl w.heap.size w)
 have H : (if a0_0 = a1_0 then (if a0_1 = a1_1 then (if a0_2 = a1_2 then (some true) else (some false)) else (some false)) else (some false)) = some r := h
 clear h
 by_cases c3 : a0_0 = a1_0
 ·rw [if_pos c3] at H
  have c3b0 : (a0_0 == a1_0) = true := beq_iff_eq.mpr c3
  have c3b1 : (a0_0 != a1_0) = false := bne_eq_false_iff_eq.mpr c3
  clear c3
  by_cases c4 : a0_1 = a1_1
  ·rw [if_pos c4] at H
   have c4b0 : (a0_1 == a1_1) = true := beq_iff_eq.mpr c4
   have c4b1 : (a0_1 != a1_1) = false := bne_eq_false_iff_eq.mpr c4
   clear c4
   by_cases c5 : a0_2 = a1_2
   ·rw [if_pos c5] at H
    have c5b0 : (a0_2 == a1_2) = true := beq_iff_eq.mpr c5
    have c5b1 : (a0_2 != a1_2) = false := bne_eq_false_iff_eq.mpr c5
    clear c5
    obtain rfl := Option.some.inj H
    go_enter Try.func42, Try.ntmps42
    go_wp2_with (first | ((with_reducible refine gate_dst (N := 2) rfl ?_); refine box_event ?hg (N := 2) ?hd (cs := #[.int .i64 a0_0, .int .i64 a0_1, .int .i64 a0_2]) (t := 59) ?hr ?_; (case hd => rfl); (case hg => rfl); (case hr => first | (go_simp; done) | (go_simp; rfl)); intro gb309 hg w6 hbox hb; have n0_ := Aside0.mk (below_step (bel HB) hb); have n1_ := Aside0.mk (hbox); have n2_ := Aside0.mk ((by rw [hg]; exact (below_size (bel HB)) : w.heap.size ≤ gb309)); have n3_ := Aside0.mk ((by rw [hg]; exact (below_size (bel HB)) : w.heap.size ≤ gb309)); clear HB; have HB := n0_; have BK309 := n1_; have GW309 := n2_; have GE309 := n3_; clear n0_ n1_ n2_ n3_; clear hb hbox hg) | ((with_reducible refine gate_dst (N := 3) rfl ?_); refine box_event ?hg (N := 3) ?hd (cs := #[.int .i64 a1_0, .int .i64 a1_1, .int .i64 a1_2]) (t := 59) ?hr ?_; (case hd => rfl); (case hg => rfl); (case hr => first | (go_simp; done) | (go_simp; rfl)); intro gb310 hg w7 hbox hb; have n0_ := Aside0.mk (blk_below (g := gb309) (o := .cells #[.int .i64 a0_0, .int .i64 a0_1, .int .i64 a0_2] 59 (0, 0)) (bkl BK309) hb); have n1_ := Aside0.mk (below_step (bel1 HB GE309) hb); have n2_ := Aside0.mk (hbox); have n3_ := Aside0.mk ((by rw [hg]; exact (below_size (bel1 HB GE309)) : w.heap.size ≤ gb310)); have n4_ := Aside0.mk ((by rw [hg]; exact (below_size (bel1 HB GE309)) : w.heap.size ≤ gb310)); have n5_ := Aside0.mk ((by rw [hg]; exact Nat.ne_of_lt (blk_lt (g := gb309) (o := .cells #[.int .i64 a0_0, .int .i64 a0_1, .int .i64 a0_2] 59 (0, 0)) (bkl BK309)) : gb309 ≠ gb310)); have n6_ := Aside0.mk ((by rw [hg]; exact Nat.ne_of_gt (blk_lt (g := gb309) (o := .cells #[.int .i64 a0_0, .int .i64 a0_1, .int .i64 a0_2] 59 (0, 0)) (bkl BK309)) : gb310 ≠ gb309)); clear BK309; clear HB; have BK309 := n0_; have HB := n1_; have BK310 := n2_; have GW310 := n3_; have GE310 := n4_; have NB309_310 := n5_; have NB310_309 := n6_; clear n0_ n1_ n2_ n3_ n4_ n5_ n6_; clear hb hbox hg; have hnb8 := NB309_310.out; have hnc8 := NB310_309.out; have hcz9_0 : w7.cell? ⟨gb309, 0, none⟩ = some (.int .i64 a0_0) := (blk_cell BK309.out 0).trans rfl; have hcz9_1 : w7.cell? ⟨gb309, 1, none⟩ = some (.int .i64 a0_1) := (blk_cell BK309.out 1).trans rfl; have hcz9_2 : w7.cell? ⟨gb309, 2, none⟩ = some (.int .i64 a0_2) := (blk_cell BK309.out 2).trans rfl; have hfz9_0 := blk_frozen BK309.out 0; have hfz9_1 := blk_frozen BK309.out 1; have hfz9_2 := blk_frozen BK309.out 2; have hcz10_0 : w7.cell? ⟨gb310, 0, none⟩ = some (.int .i64 a1_0) := (blk_cell BK310.out 0).trans rfl; have hcz10_1 : w7.cell? ⟨gb310, 1, none⟩ = some (.int .i64 a1_1) := (blk_cell BK310.out 1).trans rfl; have hcz10_2 : w7.cell? ⟨gb310, 2, none⟩ = some (.int .i64 a1_2) := (blk_cell BK310.out 2).trans rfl; have hfz10_0 := blk_frozen BK310.out 0; have hfz10_1 := blk_frozen BK310.out 1; have hfz10_2 := blk_frozen BK310.out 2))
    go_ret
    exact ⟨by first | rfl | (simp [errW_none, errW_some] <;> rfl) | (simp [*, errW_none, errW_some] <;> rfl), bel2 HB GE309 GE310⟩
   ·rw [if_neg c5] at H
    have c5b0 : (a0_2 == a1_2) = false := beq_eq_false_iff_ne.mpr c5
    have c5b1 : (a0_2 != a1_2) = true := bne_iff_ne.mpr c5
    obtain rfl := Option.some.inj H
    go_enter Try.func42, Try.ntmps42
    go_wp2_with (first | ((with_reducible refine gate_dst (N := 2) rfl ?_); refine box_event ?hg (N := 2) ?hd (cs := #[.int .i64 a0_0, .int .i64 a0_1, .int .i64 a0_2]) (t := 59) ?hr ?_; (case hd => rfl); (case hg => rfl); (case hr => first | (go_simp; done) | (go_simp; rfl)); intro gb309 hg w11 hbox hb; have n0_ := Aside0.mk (below_step (bel HB) hb); have n1_ := Aside0.mk (hbox); have n2_ := Aside0.mk ((by rw [hg]; exact (below_size (bel HB)) : w.heap.size ≤ gb309)); have n3_ := Aside0.mk ((by rw [hg]; exact (below_size (bel HB)) : w.heap.size ≤ gb309)); clear HB; have HB := n0_; have BK309 := n1_; have GW309 := n2_; have GE309 := n3_; clear n0_ n1_ n2_ n3_; clear hb hbox hg) | ((with_reducible refine gate_dst (N := 3) rfl ?_); refine box_event ?hg (N := 3) ?hd (cs := #[.int .i64 a1_0, .int .i64 a1_1, .int .i64 a1_2]) (t := 59) ?hr ?_; (case hd => rfl); (case hg => rfl); (case hr => first | (go_simp; done) | (go_simp; rfl)); intro gb310 hg w12 hbox hb; have n0_ := Aside0.mk (blk_below (g := gb309) (o := .cells #[.int .i64 a0_0, .int .i64 a0_1, .int .i64 a0_2] 59 (0, 0)) (bkl BK309) hb); have n1_ := Aside0.mk (below_step (bel1 HB GE309) hb); have n2_ := Aside0.mk (hbox); have n3_ := Aside0.mk ((by rw [hg]; exact (below_size (bel1 HB GE309)) : w.heap.size ≤ gb310)); have n4_ := Aside0.mk ((by rw [hg]; exact (below_size (bel1 HB GE309)) : w.heap.size ≤ gb310)); have n5_ := Aside0.mk ((by rw [hg]; exact Nat.ne_of_lt (blk_lt (g := gb309) (o := .cells #[.int .i64 a0_0, .int .i64 a0_1, .int .i64 a0_2] 59 (0, 0)) (bkl BK309)) : gb309 ≠ gb310)); have n6_ := Aside0.mk ((by rw [hg]; exact Nat.ne_of_gt (blk_lt (g := gb309) (o := .cells #[.int .i64 a0_0, .int .i64 a0_1, .int .i64 a0_2] 59 (0, 0)) (bkl BK309)) : gb310 ≠ gb309)); clear BK309; clear HB; have BK309 := n0_; have HB := n1_; have BK310 := n2_; have GW310 := n3_; have GE310 := n4_; have NB309_310 := n5_; have NB310_309 := n6_; clear n0_ n1_ n2_ n3_ n4_ n5_ n6_; clear hb hbox hg; have hnb13 := NB309_310.out; have hnc13 := NB310_309.out; have hcz14_0 : w12.cell? ⟨gb309, 0, none⟩ = some (.int .i64 a0_0) := (blk_cell BK309.out 0).trans rfl; have hcz14_1 : w12.cell? ⟨gb309, 1, none⟩ = some (.int .i64 a0_1) := (blk_cell BK309.out 1).trans rfl; have hcz14_2 : w12.cell? ⟨gb309, 2, none⟩ = some (.int .i64 a0_2) := (blk_cell BK309.out 2).trans rfl; have hfz14_0 := blk_frozen BK309.out 0; have hfz14_1 := blk_frozen BK309.out 1; have hfz14_2 := blk_frozen BK309.out 2; have hcz15_0 : w12.cell? ⟨gb310, 0, none⟩ = some (.int .i64 a1_0) := (blk_cell BK310.out 0).trans rfl; have hcz15_1 : w12.cell? ⟨gb310, 1, none⟩ = some (.int .i64 a1_1) := (blk_cell BK310.out 1).trans rfl; have hcz15_2 : w12.cell? ⟨gb310, 2, none⟩ = some (.int .i64 a1_2) := (blk_cell BK310.out 2).trans rfl; have hfz15_0 := blk_frozen BK310.out 0; have hfz15_1 := blk_frozen BK310.out 1; have hfz15_2 := blk_frozen BK310.out 2))
    go_ret
    exact ⟨by first | rfl | (simp [errW_none, errW_some] <;> rfl) | (simp [*, errW_none, errW_some] <;> rfl), bel2 HB GE309 GE310⟩
  ·rw [if_neg c4] at H
   have c4b0 : (a0_1 == a1_1) = false := beq_eq_false_iff_ne.mpr c4
   have c4b1 : (a0_1 != a1_1) = true := bne_iff_ne.mpr c4
   obtain rfl := Option.some.inj H
   go_enter Try.func42, Try.ntmps42
   go_wp2_with (first | ((with_reducible refine gate_dst (N := 2) rfl ?_); refine box_event ?hg (N := 2) ?hd (cs := #[.int .i64 a0_0, .int .i64 a0_1, .int .i64 a0_2]) (t := 59) ?hr ?_; (case hd => rfl); (case hg => rfl); (case hr => first | (go_simp; done) | (go_simp; rfl)); intro gb309 hg w16 hbox hb; have n0_ := Aside0.mk (below_step (bel HB) hb); have n1_ := Aside0.mk (hbox); have n2_ := Aside0.mk ((by rw [hg]; exact (below_size (bel HB)) : w.heap.size ≤ gb309)); have n3_ := Aside0.mk ((by rw [hg]; exact (below_size (bel HB)) : w.heap.size ≤ gb309)); clear HB; have HB := n0_; have BK309 := n1_; have GW309 := n2_; have GE309 := n3_; clear n0_ n1_ n2_ n3_; clear hb hbox hg) | ((with_reducible refine gate_dst (N := 3) rfl ?_); refine box_event ?hg (N := 3) ?hd (cs := #[.int .i64 a1_0, .int .i64 a1_1, .int .i64 a1_2]) (t := 59) ?hr ?_; (case hd => rfl); (case hg => rfl); (case hr => first | (go_simp; done) | (go_simp; rfl)); intro gb310 hg w17 hbox hb; have n0_ := Aside0.mk (blk_below (g := gb309) (o := .cells #[.int .i64 a0_0, .int .i64 a0_1, .int .i64 a0_2] 59 (0, 0)) (bkl BK309) hb); have n1_ := Aside0.mk (below_step (bel1 HB GE309) hb); have n2_ := Aside0.mk (hbox); have n3_ := Aside0.mk ((by rw [hg]; exact (below_size (bel1 HB GE309)) : w.heap.size ≤ gb310)); have n4_ := Aside0.mk ((by rw [hg]; exact (below_size (bel1 HB GE309)) : w.heap.size ≤ gb310)); have n5_ := Aside0.mk ((by rw [hg]; exact Nat.ne_of_lt (blk_lt (g := gb309) (o := .cells #[.int .i64 a0_0, .int .i64 a0_1, .int .i64 a0_2] 59 (0, 0)) (bkl BK309)) : gb309 ≠ gb310)); have n6_ := Aside0.mk ((by rw [hg]; exact Nat.ne_of_gt (blk_lt (g := gb309) (o := .cells #[.int .i64 a0_0, .int .i64 a0_1, .int .i64 a0_2] 59 (0, 0)) (bkl BK309)) : gb310 ≠ gb309)); clear BK309; clear HB; have BK309 := n0_; have HB := n1_; have BK310 := n2_; have GW310 := n3_; have GE310 := n4_; have NB309_310 := n5_; have NB310_309 := n6_; clear n0_ n1_ n2_ n3_ n4_ n5_ n6_; clear hb hbox hg; have hnb18 := NB309_310.out; have hnc18 := NB310_309.out; have hcz19_0 : w17.cell? ⟨gb309, 0, none⟩ = some (.int .i64 a0_0) := (blk_cell BK309.out 0).trans rfl; have hcz19_1 : w17.cell? ⟨gb309, 1, none⟩ = some (.int .i64 a0_1) := (blk_cell BK309.out 1).trans rfl; have hcz19_2 : w17.cell? ⟨gb309, 2, none⟩ = some (.int .i64 a0_2) := (blk_cell BK309.out 2).trans rfl; have hfz19_0 := blk_frozen BK309.out 0; have hfz19_1 := blk_frozen BK309.out 1; have hfz19_2 := blk_frozen BK309.out 2; have hcz20_0 : w17.cell? ⟨gb310, 0, none⟩ = some (.int .i64 a1_0) := (blk_cell BK310.out 0).trans rfl; have hcz20_1 : w17.cell? ⟨gb310, 1, none⟩ = some (.int .i64 a1_1) := (blk_cell BK310.out 1).trans rfl; have hcz20_2 : w17.cell? ⟨gb310, 2, none⟩ = some (.int .i64 a1_2) := (blk_cell BK310.out 2).trans rfl; have hfz20_0 := blk_frozen BK310.out 0; have hfz20_1 := blk_frozen BK310.out 1; have hfz20_2 := blk_frozen BK310.out 2))
   go_ret
   exact ⟨by first | rfl | (simp [errW_none, errW_some] <;> rfl) | (simp [*, errW_none, errW_some] <;> rfl), bel2 HB GE309 GE310⟩
 ·rw [if_neg c3] at H
  have c3b0 : (a0_0 == a1_0) = false := beq_eq_false_iff_ne.mpr c3
  have c3b1 : (a0_0 != a1_0) = true := bne_iff_ne.mpr c3
  obtain rfl := Option.some.inj H
  go_enter Try.func42, Try.ntmps42
  go_wp2_with (first | ((with_reducible refine gate_dst (N := 2) rfl ?_); refine box_event ?hg (N := 2) ?hd (cs := #[.int .i64 a0_0, .int .i64 a0_1, .int .i64 a0_2]) (t := 59) ?hr ?_; (case hd => rfl); (case hg => rfl); (case hr => first | (go_simp; done) | (go_simp; rfl)); intro gb309 hg w21 hbox hb; have n0_ := Aside0.mk (below_step (bel HB) hb); have n1_ := Aside0.mk (hbox); have n2_ := Aside0.mk ((by rw [hg]; exact (below_size (bel HB)) : w.heap.size ≤ gb309)); have n3_ := Aside0.mk ((by rw [hg]; exact (below_size (bel HB)) : w.heap.size ≤ gb309)); clear HB; have HB := n0_; have BK309 := n1_; have GW309 := n2_; have GE309 := n3_; clear n0_ n1_ n2_ n3_; clear hb hbox hg) | ((with_reducible refine gate_dst (N := 3) rfl ?_); refine box_event ?hg (N := 3) ?hd (cs := #[.int .i64 a1_0, .int .i64 a1_1, .int .i64 a1_2]) (t := 59) ?hr ?_; (case hd => rfl); (case hg => rfl); (case hr => first | (go_simp; done) | (go_simp; rfl)); intro gb310 hg w22 hbox hb; have n0_ := Aside0.mk (blk_below (g := gb309) (o := .cells #[.int .i64 a0_0, .int .i64 a0_1, .int .i64 a0_2] 59 (0, 0)) (bkl BK309) hb); have n1_ := Aside0.mk (below_step (bel1 HB GE309) hb); have n2_ := Aside0.mk (hbox); have n3_ := Aside0.mk ((by rw [hg]; exact (below_size (bel1 HB GE309)) : w.heap.size ≤ gb310)); have n4_ := Aside0.mk ((by rw [hg]; exact (below_size (bel1 HB GE309)) : w.heap.size ≤ gb310)); have n5_ := Aside0.mk ((by rw [hg]; exact Nat.ne_of_lt (blk_lt (g := gb309) (o := .cells #[.int .i64 a0_0, .int .i64 a0_1, .int .i64 a0_2] 59 (0, 0)) (bkl BK309)) : gb309 ≠ gb310)); have n6_ := Aside0.mk ((by rw [hg]; exact Nat.ne_of_gt (blk_lt (g := gb309) (o := .cells #[.int .i64 a0_0, .int .i64 a0_1, .int .i64 a0_2] 59 (0, 0)) (bkl BK309)) : gb310 ≠ gb309)); clear BK309; clear HB; have BK309 := n0_; have HB := n1_; have BK310 := n2_; have GW310 := n3_; have GE310 := n4_; have NB309_310 := n5_; have NB310_309 := n6_; clear n0_ n1_ n2_ n3_ n4_ n5_ n6_; clear hb hbox hg; have hnb23 := NB309_310.out; have hnc23 := NB310_309.out; have hcz24_0 : w22.cell? ⟨gb309, 0, none⟩ = some (.int .i64 a0_0) := (blk_cell BK309.out 0).trans rfl; have hcz24_1 : w22.cell? ⟨gb309, 1, none⟩ = some (.int .i64 a0_1) := (blk_cell BK309.out 1).trans rfl; have hcz24_2 : w22.cell? ⟨gb309, 2, none⟩ = some (.int .i64 a0_2) := (blk_cell BK309.out 2).trans rfl; have hfz24_0 := blk_frozen BK309.out 0; have hfz24_1 := blk_frozen BK309.out 1; have hfz24_2 := blk_frozen BK309.out 2; have hcz25_0 : w22.cell? ⟨gb310, 0, none⟩ = some (.int .i64 a1_0) := (blk_cell BK310.out 0).trans rfl; have hcz25_1 : w22.cell? ⟨gb310, 1, none⟩ = some (.int .i64 a1_1) := (blk_cell BK310.out 1).trans rfl; have hcz25_2 : w22.cell? ⟨gb310, 2, none⟩ = some (.int .i64 a1_2) := (blk_cell BK310.out 2).trans rfl; have hfz25_0 := blk_frozen BK310.out 0; have hfz25_1 := blk_frozen BK310.out 1; have hfz25_2 := blk_frozen BK310.out 2))
  go_ret
  exact ⟨by first | rfl | (simp [errW_none, errW_some] <;> rfl) | (simp [*, errW_none, errW_some] <;> rfl), bel2 HB GE309 GE310⟩

end Go.Proofs.Ytgeakpogmjbjkaa.P
