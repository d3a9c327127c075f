-- Written by a program of this session over the translation (a variant of the printer, see wip/gen); Lean checks it.
import Derived.Test.YtmpmcckjpkijnaaPx0
namespace Go.Proofs.Ytmpmcckjpkijnaa.P
open Go.RowKit Go.Proofs.YtmpmcckjpkijnaaW.PrintWords Go.Proofs.YtmpmcckjpkijnaaW.PrintLast Go.Proofs.YtmpmcckjpkijnaaW.PrintMore
attribute [local go_sem] Go.Proofs.Ytmpmcckjpkijnaa.V.isSome_setCell max2_int min2_int max_two min_two max_three min_three max_four min_four   -- for this text's walks alone
set_option linter.unusedVariables false
set_option linter.unusedSimpArgs false

/-! ### impl_brokenRules: function 62 -/
mutual
def impl_brokenRules.j0 : Nat → Int → Int → List Int → ByteArray → Int → Int → Int → Int → ByteArray → Int → Int → Int → Int → Option (List Int)
 | 0, _, _, _, _, _, _, _, _, _, _, _, _, _ => none
 | k + 1, x2, x3, x11, x245000, x245001, x245002, x245003, x245004, x248000, x248001, x248002, x248003, x248004 => if x245001 = x248001 then (impl_brokenRules.j1 k x2 x3 x11 x245000 x245001 x245002 x245003 x245004) else (if x11.length < 17592186044416 then (impl_brokenRules.j1 k x2 x3 (x11 ++ [2]) x245000 x245001 x245002 x245003 x245004) else (none))
def impl_brokenRules.j1 : Nat → Int → Int → List Int → ByteArray → Int → Int → Int → Int → Option (List Int)
 | 0, _, _, _, _, _, _, _, _ => none
 | k + 1, x2, x3, x11, x245000, x245001, x245002, x245003, x245004 => if x245003 = 3 then (if x11.length < 17592186044416 then ((some (x11 ++ [3] : List Int)).bind fun y254 => (if x245003 = 2 then (if x3 ≥ x2 then (if y254.length < 17592186044416 then (some (y254 ++ [4])) else (none)) else (some y254)) else (some y254))) else (none)) else (if x245003 = 2 then (if x3 ≥ x2 then (if x11.length < 17592186044416 then (some (x11 ++ [4])) else (none)) else (some x11)) else (some x11))
end
def impl_brokenRules.f (k : Nat) (l0 : List Int) (l1 : List (S69)) (a2 : Int) (a3 : Int) (a4 : Int) : Option (List Int) := (some (([] : List Int) : List Int)).bind fun y239 => (if 0 ≤ a4 then (if a4 < (l0.length : Int) then (if 0 ≤ (wrap64 ((rd l0 a4) - 1)) then (if (wrap64 ((rd l0 a4) - 1)) < (l1.length : Int) then (if a4 > 0 then (if 0 ≤ (wrap64 (a4 - 1)) then (if (wrap64 (a4 - 1)) < (l0.length : Int) then (if 0 ≤ (wrap64 ((rd l0 (wrap64 (a4 - 1))) - 1)) then (if (wrap64 ((rd l0 (wrap64 (a4 - 1))) - 1)) < (l1.length : Int) then (if ((rd_T69 l1 (wrap64 ((rd l0 a4) - 1))).f2) > ((rd_T69 l1 (wrap64 ((rd l0 (wrap64 (a4 - 1))) - 1))).f2) then (if y239.length < 17592186044416 then (impl_brokenRules.j0 k a2 a3 (y239 ++ [1]) ((rd_T69 l1 (wrap64 ((rd l0 a4) - 1))).f0) ((rd_T69 l1 (wrap64 ((rd l0 a4) - 1))).f1) ((rd_T69 l1 (wrap64 ((rd l0 a4) - 1))).f2) ((rd_T69 l1 (wrap64 ((rd l0 a4) - 1))).f3) ((rd_T69 l1 (wrap64 ((rd l0 a4) - 1))).f4) ((rd_T69 l1 (wrap64 ((rd l0 (wrap64 (a4 - 1))) - 1))).f0) ((rd_T69 l1 (wrap64 ((rd l0 (wrap64 (a4 - 1))) - 1))).f1) ((rd_T69 l1 (wrap64 ((rd l0 (wrap64 (a4 - 1))) - 1))).f2) ((rd_T69 l1 (wrap64 ((rd l0 (wrap64 (a4 - 1))) - 1))).f3) ((rd_T69 l1 (wrap64 ((rd l0 (wrap64 (a4 - 1))) - 1))).f4)) else (none)) else (impl_brokenRules.j0 k a2 a3 y239 ((rd_T69 l1 (wrap64 ((rd l0 a4) - 1))).f0) ((rd_T69 l1 (wrap64 ((rd l0 a4) - 1))).f1) ((rd_T69 l1 (wrap64 ((rd l0 a4) - 1))).f2) ((rd_T69 l1 (wrap64 ((rd l0 a4) - 1))).f3) ((rd_T69 l1 (wrap64 ((rd l0 a4) - 1))).f4) ((rd_T69 l1 (wrap64 ((rd l0 (wrap64 (a4 - 1))) - 1))).f0) ((rd_T69 l1 (wrap64 ((rd l0 (wrap64 (a4 - 1))) - 1))).f1) ((rd_T69 l1 (wrap64 ((rd l0 (wrap64 (a4 - 1))) - 1))).f2) ((rd_T69 l1 (wrap64 ((rd l0 (wrap64 (a4 - 1))) - 1))).f3) ((rd_T69 l1 (wrap64 ((rd l0 (wrap64 (a4 - 1))) - 1))).f4))) else (none)) else (none)) else (none)) else (none)) else (if ((rd_T69 l1 (wrap64 ((rd l0 a4) - 1))).f3) = 2 then (if a3 ≥ a2 then (if y239.length < 17592186044416 then (some (y239 ++ [4])) else (none)) else (some y239)) else (some y239))) else (none)) else (none)) else (none)) else (none))
theorem impl_brokenRules.mono_l : ∀ k, (∀ y0 y1 y2 y3 y4 y5 y6 y7 y8 y9 y10 y11 y12, LeO (impl_brokenRules.j0 k y0 y1 y2 y3 y4 y5 y6 y7 y8 y9 y10 y11 y12) (impl_brokenRules.j0 (k + 1) y0 y1 y2 y3 y4 y5 y6 y7 y8 y9 y10 y11 y12)) ∧ (∀ y0 y1 y2 y3 y4 y5 y6 y7, LeO (impl_brokenRules.j1 k y0 y1 y2 y3 y4 y5 y6 y7) (impl_brokenRules.j1 (k + 1) y0 y1 y2 y3 y4 y5 y6 y7))
 | 0 => ⟨fun _ _ _ _ _ _ _ _ _ _ _ _ _ r h => by simp [impl_brokenRules.j0] at h, fun _ _ _ _ _ _ _ _ r h => by simp [impl_brokenRules.j1] at h⟩
 | k + 1 => by
  obtain ⟨ih0, ih1⟩ := impl_brokenRules.mono_l k
  refine ⟨?_, ?_⟩
  ·intro y0 y1 y2 y3 y4 y5 y6 y7 y8 y9 y10 y11 y12
   unfold impl_brokenRules.j0
   repeat' first
   | (with_reducible exact ih0 _ _ _ _ _ _ _ _ _ _ _ _ _)
   | (with_reducible exact ih1 _ _ _ _ _ _ _ _)
   | (with_reducible exact LeO.refl _)
   | (with_reducible exact LeO.none _)
   | (with_reducible refine LeO.ite ?_ ?_)
   | (with_reducible refine LeO.bind ?_ (fun _ => ?_))
   | exact ih0 _ _ _ _ _ _ _ _ _ _ _ _ _
   | exact ih1 _ _ _ _ _ _ _ _
   | exact LeO.none _
   | refine LeO.ite ?_ ?_
   | refine LeO.bind ?_ (fun _ => ?_)
  ·intro y0 y1 y2 y3 y4 y5 y6 y7
   unfold impl_brokenRules.j1
   repeat' first
   | (with_reducible exact ih0 _ _ _ _ _ _ _ _ _ _ _ _ _)
   | (with_reducible exact ih1 _ _ _ _ _ _ _ _)
   | (with_reducible exact LeO.refl _)
   | (with_reducible exact LeO.none _)
   | (with_reducible refine LeO.ite ?_ ?_)
   | (with_reducible refine LeO.bind ?_ (fun _ => ?_))
   | exact ih0 _ _ _ _ _ _ _ _ _ _ _ _ _
   | exact ih1 _ _ _ _ _ _ _ _
   | exact LeO.none _
   | refine LeO.ite ?_ ?_
   | refine LeO.bind ?_ (fun _ => ?_)
theorem impl_brokenRules.mono : ∀ a0 a1 a2 a3 a4 k, LeO (impl_brokenRules.f k a0 a1 a2 a3 a4) (impl_brokenRules.f (k + 1) a0 a1 a2 a3 a4) := by
 intro a0 a1 a2 a3 a4 k
 obtain ⟨ih0, ih1⟩ := impl_brokenRules.mono_l k
 unfold impl_brokenRules.f
 repeat' first
   | (with_reducible exact ih0 _ _ _ _ _ _ _ _ _ _ _ _ _)
   | (with_reducible exact ih1 _ _ _ _ _ _ _ _)
   | (with_reducible exact LeO.refl _)
   | (with_reducible exact LeO.none _)
   | (with_reducible refine LeO.ite ?_ ?_)
   | (with_reducible refine LeO.bind ?_ (fun _ => ?_))
   | exact ih0 _ _ _ _ _ _ _ _ _ _ _ _ _
   | exact ih1 _ _ _ _ _ _ _ _
   | exact LeO.none _
   | refine LeO.ite ?_ ?_
   | refine LeO.bind ?_ (fun _ => ?_)
set_option maxHeartbeats 8000000 in
set_option maxRecDepth 100000 in
theorem impl_brokenRules.calls (k : Nat) (A0 : Option Addr) (c0 : Nat) (l0 : List Int) (A1 : Option Addr) (c1 : Nat) (l1 : List (S69)) (a2 : Int) (a3 : Int) (a4 : Int) (r : List Int) (w : World) (hr0 : Kd.C (Kd.int .i64) w A0 l0.length l0) (hc0 : l0.length ≤ c0) (hr1 : Kd.C k69 w A1 l1.length l1) (hc1 : l1.length ≤ c1) (h : impl_brokenRules.f k l0 l1 a2 a3 a4 = some r) :
  Calls Try.prog 62 #[.slice A0 l0.length c0, .slice A1 l1.length c1, .int .i64 a2, .int .i64 a3, .int .i64 a4] w fun e w' => ∃ v0_ : Value, e = .returned (v0_) ∧ Kd.R (Kd.int .i64) 3 w' w.heap.size (fun _ => True) v0_ r ∧ Below w.heap.size w w' := by
 have hu69 := Try.underlying69
 have HR0 := Aside0.mk hr0
 have HC0 := Aside0.mk hc0
 clear hr0 hc0
 have HR1 := Aside0.mk hr1
 have HC1 := Aside0.mk hc1
 clear hr1 hc1
 have HB := Aside0.mk (Below.refl w.heap.size w)
 have H : ((some (([] : List Int) : List Int)).bind fun y239 => (if 0 ≤ a4 then (if a4 < (l0.length : Int) then (if 0 ≤ (wrap64 ((rd l0 a4) - 1)) then (if (wrap64 ((rd l0 a4) - 1)) < (l1.length : Int) then (if a4 > 0 then (if 0 ≤ (wrap64 (a4 - 1)) then (if (wrap64 (a4 - 1)) < (l0.length : Int) then (if 0 ≤ (wrap64 ((rd l0 (wrap64 (a4 - 1))) - 1)) then (if (wrap64 ((rd l0 (wrap64 (a4 - 1))) - 1)) < (l1.length : Int) then (if ((rd_T69 l1 (wrap64 ((rd l0 a4) - 1))).f2) > ((rd_T69 l1 (wrap64 ((rd l0 (wrap64 (a4 - 1))) - 1))).f2) then (if y239.length < 17592186044416 then (impl_brokenRules.j0 k a2 a3 (y239 ++ [1]) ((rd_T69 l1 (wrap64 ((rd l0 a4) - 1))).f0) ((rd_T69 l1 (wrap64 ((rd l0 a4) - 1))).f1) ((rd_T69 l1 (wrap64 ((rd l0 a4) - 1))).f2) ((rd_T69 l1 (wrap64 ((rd l0 a4) - 1))).f3) ((rd_T69 l1 (wrap64 ((rd l0 a4) - 1))).f4) ((rd_T69 l1 (wrap64 ((rd l0 (wrap64 (a4 - 1))) - 1))).f0) ((rd_T69 l1 (wrap64 ((rd l0 (wrap64 (a4 - 1))) - 1))).f1) ((rd_T69 l1 (wrap64 ((rd l0 (wrap64 (a4 - 1))) - 1))).f2) ((rd_T69 l1 (wrap64 ((rd l0 (wrap64 (a4 - 1))) - 1))).f3) ((rd_T69 l1 (wrap64 ((rd l0 (wrap64 (a4 - 1))) - 1))).f4)) else (none)) else (impl_brokenRules.j0 k a2 a3 y239 ((rd_T69 l1 (wrap64 ((rd l0 a4) - 1))).f0) ((rd_T69 l1 (wrap64 ((rd l0 a4) - 1))).f1) ((rd_T69 l1 (wrap64 ((rd l0 a4) - 1))).f2) ((rd_T69 l1 (wrap64 ((rd l0 a4) - 1))).f3) ((rd_T69 l1 (wrap64 ((rd l0 a4) - 1))).f4) ((rd_T69 l1 (wrap64 ((rd l0 (wrap64 (a4 - 1))) - 1))).f0) ((rd_T69 l1 (wrap64 ((rd l0 (wrap64 (a4 - 1))) - 1))).f1) ((rd_T69 l1 (wrap64 ((rd l0 (wrap64 (a4 - 1))) - 1))).f2) ((rd_T69 l1 (wrap64 ((rd l0 (wrap64 (a4 - 1))) - 1))).f3) ((rd_T69 l1 (wrap64 ((rd l0 (wrap64 (a4 - 1))) - 1))).f4))) else (none)) else (none)) else (none)) else (none)) else (if ((rd_T69 l1 (wrap64 ((rd l0 a4) - 1))).f3) = 2 then (if a3 ≥ a2 then (if y239.length < 17592186044416 then (some (y239 ++ [4])) else (none)) else (some y239)) else (some y239))) else (none)) else (none)) else (none)) else (none))) = some r := h
 clear h
 obtain ⟨y239, hy239⟩ : ∃ y_ : List Int, y_ = (([] : List Int)) := ⟨_, rfl⟩
 replace H : (if 0 ≤ a4 then (if a4 < (l0.length : Int) then (if 0 ≤ (wrap64 ((rd l0 a4) - 1)) then (if (wrap64 ((rd l0 a4) - 1)) < (l1.length : Int) then (if a4 > 0 then (if 0 ≤ (wrap64 (a4 - 1)) then (if (wrap64 (a4 - 1)) < (l0.length : Int) then (if 0 ≤ (wrap64 ((rd l0 (wrap64 (a4 - 1))) - 1)) then (if (wrap64 ((rd l0 (wrap64 (a4 - 1))) - 1)) < (l1.length : Int) then (if ((rd_T69 l1 (wrap64 ((rd l0 a4) - 1))).f2) > ((rd_T69 l1 (wrap64 ((rd l0 (wrap64 (a4 - 1))) - 1))).f2) then (if y239.length < 17592186044416 then (impl_brokenRules.j0 k a2 a3 (y239 ++ [1]) ((rd_T69 l1 (wrap64 ((rd l0 a4) - 1))).f0) ((rd_T69 l1 (wrap64 ((rd l0 a4) - 1))).f1) ((rd_T69 l1 (wrap64 ((rd l0 a4) - 1))).f2) ((rd_T69 l1 (wrap64 ((rd l0 a4) - 1))).f3) ((rd_T69 l1 (wrap64 ((rd l0 a4) - 1))).f4) ((rd_T69 l1 (wrap64 ((rd l0 (wrap64 (a4 - 1))) - 1))).f0) ((rd_T69 l1 (wrap64 ((rd l0 (wrap64 (a4 - 1))) - 1))).f1) ((rd_T69 l1 (wrap64 ((rd l0 (wrap64 (a4 - 1))) - 1))).f2) ((rd_T69 l1 (wrap64 ((rd l0 (wrap64 (a4 - 1))) - 1))).f3) ((rd_T69 l1 (wrap64 ((rd l0 (wrap64 (a4 - 1))) - 1))).f4)) else (none)) else (impl_brokenRules.j0 k a2 a3 y239 ((rd_T69 l1 (wrap64 ((rd l0 a4) - 1))).f0) ((rd_T69 l1 (wrap64 ((rd l0 a4) - 1))).f1) ((rd_T69 l1 (wrap64 ((rd l0 a4) - 1))).f2) ((rd_T69 l1 (wrap64 ((rd l0 a4) - 1))).f3) ((rd_T69 l1 (wrap64 ((rd l0 a4) - 1))).f4) ((rd_T69 l1 (wrap64 ((rd l0 (wrap64 (a4 - 1))) - 1))).f0) ((rd_T69 l1 (wrap64 ((rd l0 (wrap64 (a4 - 1))) - 1))).f1) ((rd_T69 l1 (wrap64 ((rd l0 (wrap64 (a4 - 1))) - 1))).f2) ((rd_T69 l1 (wrap64 ((rd l0 (wrap64 (a4 - 1))) - 1))).f3) ((rd_T69 l1 (wrap64 ((rd l0 (wrap64 (a4 - 1))) - 1))).f4))) else (none)) else (none)) else (none)) else (none)) else (if ((rd_T69 l1 (wrap64 ((rd l0 a4) - 1))).f3) = 2 then (if a3 ≥ a2 then (if y239.length < 17592186044416 then (some (y239 ++ [4])) else (none)) else (some y239)) else (some y239))) else (none)) else (none)) else (none)) else (none)) = some r := by first | (rw [hy239]; with_reducible exact H) | (have H2_ := (Option.bind_some _ _).symm.trans H; rw [hy239]; with_reducible exact H2_) | (have H2_ := (Option.bind_some _ _).symm.trans H; with_reducible exact H2_) | with_reducible exact H | (rw [hy239]; exact H) | exact H
 have Ny239 := Aside0.mk hy239
 clear hy239
 by_cases c6 : 0 ≤ a4
 ·rw [if_pos c6] at H
  have c6b0 : decide (0 ≤ a4) = true := decide_eq_true c6
  clear c6
  by_cases c7 : a4 < (l0.length : Int)
  ·rw [if_pos c7] at H
   have c7b0 : decide (a4 < (l0.length : Int)) = true := decide_eq_true c7
   clear c7
   obtain ⟨ji8, hji8⟩ : ∃ j_ : Int, (wrap64 ((rd l0 a4) - 1)) = j_ := ⟨_, rfl⟩
   replace H : (if 0 ≤ (ji8) then (if (ji8) < (l1.length : Int) then (if a4 > 0 then (if 0 ≤ (wrap64 (a4 - 1)) then (if (wrap64 (a4 - 1)) < (l0.length : Int) then (if 0 ≤ (wrap64 ((rd l0 (wrap64 (a4 - 1))) - 1)) then (if (wrap64 ((rd l0 (wrap64 (a4 - 1))) - 1)) < (l1.length : Int) then (if ((rd_T69 l1 (ji8)).f2) > ((rd_T69 l1 (wrap64 ((rd l0 (wrap64 (a4 - 1))) - 1))).f2) then (if y239.length < 17592186044416 then (impl_brokenRules.j0 k a2 a3 (y239 ++ [1]) ((rd_T69 l1 (ji8)).f0) ((rd_T69 l1 (ji8)).f1) ((rd_T69 l1 (ji8)).f2) ((rd_T69 l1 (ji8)).f3) ((rd_T69 l1 (ji8)).f4) ((rd_T69 l1 (wrap64 ((rd l0 (wrap64 (a4 - 1))) - 1))).f0) ((rd_T69 l1 (wrap64 ((rd l0 (wrap64 (a4 - 1))) - 1))).f1) ((rd_T69 l1 (wrap64 ((rd l0 (wrap64 (a4 - 1))) - 1))).f2) ((rd_T69 l1 (wrap64 ((rd l0 (wrap64 (a4 - 1))) - 1))).f3) ((rd_T69 l1 (wrap64 ((rd l0 (wrap64 (a4 - 1))) - 1))).f4)) else (none)) else (impl_brokenRules.j0 k a2 a3 y239 ((rd_T69 l1 (ji8)).f0) ((rd_T69 l1 (ji8)).f1) ((rd_T69 l1 (ji8)).f2) ((rd_T69 l1 (ji8)).f3) ((rd_T69 l1 (ji8)).f4) ((rd_T69 l1 (wrap64 ((rd l0 (wrap64 (a4 - 1))) - 1))).f0) ((rd_T69 l1 (wrap64 ((rd l0 (wrap64 (a4 - 1))) - 1))).f1) ((rd_T69 l1 (wrap64 ((rd l0 (wrap64 (a4 - 1))) - 1))).f2) ((rd_T69 l1 (wrap64 ((rd l0 (wrap64 (a4 - 1))) - 1))).f3) ((rd_T69 l1 (wrap64 ((rd l0 (wrap64 (a4 - 1))) - 1))).f4))) else (none)) else (none)) else (none)) else (none)) else (if ((rd_T69 l1 (ji8)).f3) = 2 then (if a3 ≥ a2 then (if y239.length < 17592186044416 then (some (y239 ++ [4])) else (none)) else (some y239)) else (some y239))) else (none)) else (none)) = some r := by first | (rw [hji8] at H; exact H) | (simp only [hji8] at H ⊢; exact H)
   have hji8w : (IntKind.i64.wrap ((rd l0 a4) - 1)) = ji8 := (i64_w _).trans hji8
   by_cases c9 : 0 ≤ (ji8)
   ·rw [if_pos c9] at H
    have c9b0 : decide (0 ≤ (ji8)) = true := decide_eq_true c9
    clear c9
    by_cases c10 : (ji8) < (l1.length : Int)
    ·rw [if_pos c10] at H
     have c10b0 : decide ((ji8) < (l1.length : Int)) = true := decide_eq_true c10
     clear c10
     by_cases c11 : a4 > 0
     ·rw [if_pos c11] at H
      have c11b0 : decide (0 < a4) = true := decide_eq_true c11
      clear c11
      obtain ⟨ji12, hji12⟩ : ∃ j_ : Int, (wrap64 (a4 - 1)) = j_ := ⟨_, rfl⟩
      replace H : (if 0 ≤ (ji12) then (if (ji12) < (l0.length : Int) then (if 0 ≤ (wrap64 ((rd l0 (ji12)) - 1)) then (if (wrap64 ((rd l0 (ji12)) - 1)) < (l1.length : Int) then (if ((rd_T69 l1 (ji8)).f2) > ((rd_T69 l1 (wrap64 ((rd l0 (ji12)) - 1))).f2) then (if y239.length < 17592186044416 then (impl_brokenRules.j0 k a2 a3 (y239 ++ [1]) ((rd_T69 l1 (ji8)).f0) ((rd_T69 l1 (ji8)).f1) ((rd_T69 l1 (ji8)).f2) ((rd_T69 l1 (ji8)).f3) ((rd_T69 l1 (ji8)).f4) ((rd_T69 l1 (wrap64 ((rd l0 (ji12)) - 1))).f0) ((rd_T69 l1 (wrap64 ((rd l0 (ji12)) - 1))).f1) ((rd_T69 l1 (wrap64 ((rd l0 (ji12)) - 1))).f2) ((rd_T69 l1 (wrap64 ((rd l0 (ji12)) - 1))).f3) ((rd_T69 l1 (wrap64 ((rd l0 (ji12)) - 1))).f4)) else (none)) else (impl_brokenRules.j0 k a2 a3 y239 ((rd_T69 l1 (ji8)).f0) ((rd_T69 l1 (ji8)).f1) ((rd_T69 l1 (ji8)).f2) ((rd_T69 l1 (ji8)).f3) ((rd_T69 l1 (ji8)).f4) ((rd_T69 l1 (wrap64 ((rd l0 (ji12)) - 1))).f0) ((rd_T69 l1 (wrap64 ((rd l0 (ji12)) - 1))).f1) ((rd_T69 l1 (wrap64 ((rd l0 (ji12)) - 1))).f2) ((rd_T69 l1 (wrap64 ((rd l0 (ji12)) - 1))).f3) ((rd_T69 l1 (wrap64 ((rd l0 (ji12)) - 1))).f4))) else (none)) else (none)) else (none)) else (none)) = some r := by first | (rw [hji12] at H; exact H) | (simp only [hji12] at H ⊢; exact H)
      have hji12w : (IntKind.i64.wrap (a4 - 1)) = ji12 := (i64_w _).trans hji12
      by_cases c13 : 0 ≤ (ji12)
      ·rw [if_pos c13] at H
       have c13b0 : decide (0 ≤ (ji12)) = true := decide_eq_true c13
       clear c13
       by_cases c14 : (ji12) < (l0.length : Int)
       ·rw [if_pos c14] at H
        have c14b0 : decide ((ji12) < (l0.length : Int)) = true := decide_eq_true c14
        clear c14
        obtain ⟨ji15, hji15⟩ : ∃ j_ : Int, (wrap64 ((rd l0 (ji12)) - 1)) = j_ := ⟨_, rfl⟩
        replace H : (if 0 ≤ (ji15) then (if (ji15) < (l1.length : Int) then (if ((rd_T69 l1 (ji8)).f2) > ((rd_T69 l1 (ji15)).f2) then (if y239.length < 17592186044416 then (impl_brokenRules.j0 k a2 a3 (y239 ++ [1]) ((rd_T69 l1 (ji8)).f0) ((rd_T69 l1 (ji8)).f1) ((rd_T69 l1 (ji8)).f2) ((rd_T69 l1 (ji8)).f3) ((rd_T69 l1 (ji8)).f4) ((rd_T69 l1 (ji15)).f0) ((rd_T69 l1 (ji15)).f1) ((rd_T69 l1 (ji15)).f2) ((rd_T69 l1 (ji15)).f3) ((rd_T69 l1 (ji15)).f4)) else (none)) else (impl_brokenRules.j0 k a2 a3 y239 ((rd_T69 l1 (ji8)).f0) ((rd_T69 l1 (ji8)).f1) ((rd_T69 l1 (ji8)).f2) ((rd_T69 l1 (ji8)).f3) ((rd_T69 l1 (ji8)).f4) ((rd_T69 l1 (ji15)).f0) ((rd_T69 l1 (ji15)).f1) ((rd_T69 l1 (ji15)).f2) ((rd_T69 l1 (ji15)).f3) ((rd_T69 l1 (ji15)).f4))) else (none)) else (none)) = some r := by first | (rw [hji15] at H; exact H) | (simp only [hji15] at H ⊢; exact H)
        have hji15w : (IntKind.i64.wrap ((rd l0 (ji12)) - 1)) = ji15 := (i64_w _).trans hji15
        by_cases c16 : 0 ≤ (ji15)
        ·rw [if_pos c16] at H
         have c16b0 : decide (0 ≤ (ji15)) = true := decide_eq_true c16
         clear c16
         by_cases c17 : (ji15) < (l1.length : Int)
         ·rw [if_pos c17] at H
          have c17b0 : decide ((ji15) < (l1.length : Int)) = true := decide_eq_true c17
          clear c17
          have HC18 := Aside0.mk H
          clear H
          go_enter Try.func62, Try.ntmps62
          go_upto_if 38 with (first | ((with_reducible refine gate_dst (N := 14) rfl ?_); refine Kd.R_lit (Kd.int .i64) _ 3 ?hg (N := 14) ?hd (xs := ([] : List Int)) (inner := []) (ok := fun _ => True) (okp := fun _ => True) ?hr ?hp (fun _ hk => hk) trivial (Below.refl _ _) (Nat.le_refl _) (by simp) ?_; (case hd => rfl); (case hg => rfl); (case hr => first | (go_simp; done) | (go_simp; rfl)); (case hp => exact (Reps.none _ _)); intro v240 w19 ho20 hb hg_ hnew_; clear hg_ hnew_; (first | rw [← Ny239.out] at ho20 | (simp only [Int.reduceToNat] at ho20; rw [← Ny239.out] at ho20)); have n0_ := Aside0.mk (Kd.R_lower ho20 (below_size (bel HB))); have n1_ := Aside0.mk (below_step (bel HB) hb); clear HB; have HO241 := n0_; have HB := n1_; clear n0_ n1_; clear hb ho20; have p242 : 0 ≤ (a4 : Int) := oda; have q242 : a4 < (l0.length : Int) := oda; obtain ⟨ad242, e242, hx242_0⟩ := Kd.at_int HR0.out a4 p242 q242; cases e242; replace hx242_0 := cel HB hx242_0; replace p242 := eq_true p242; replace q242 := eq_true q242; have p243 : 0 ≤ ((ji8) : Int) := oda; have q243 : (ji8) < (l1.length : Int) := oda; obtain ⟨ad243, e243, hx243_0, hx243_1, hx243_2, hx243_3, hx243_4⟩ := at_T69 HR1.out (ji8) p243 q243; cases e243; replace hx243_0 := cel HB hx243_0; replace hx243_1 := cel HB hx243_1; replace hx243_2 := cel HB hx243_2; replace hx243_3 := cel HB hx243_3; replace hx243_4 := cel HB hx243_4; replace p243 := eq_true p243; replace q243 := eq_true q243) | ((with_reducible refine gate_dst (N := 12) rfl ?_); refine box_event ?hg (N := 12) ?hd (cs := #[.string (⟨#[]⟩ : ByteArray), .int .i64 0, .int .i64 0, .int .i64 0, .int .i64 0]) (t := 69) ?hr ?_; (case hd => rfl); (case hg => rfl); (case hr => first | (go_simp; done) | (go_simp; rfl)); intro gb244 hg w21 hbox hb; have n0_ := Aside0.mk (Kd.R_below (rdl HO241) hb); have n1_ := Aside0.mk (below_step (bel HB) hb); have n2_ := Aside0.mk (hbox); have n3_ := Aside0.mk ((by rw [hg]; exact (below_size (bel HB)) : w.heap.size ≤ gb244)); have n4_ := Aside0.mk ((by rw [hg]; exact (below_size (bel HB)) : w.heap.size ≤ gb244)); clear HO241; clear HB; have HO241 := n0_; have HB := n1_; have BK244 := n2_; have GW244 := n3_; have GE244 := n4_; clear n0_ n1_ n2_ n3_ n4_; clear hb hbox hg; have hcz22_0 : w21.cell? ⟨gb244, 0, none⟩ = some (.string (⟨#[]⟩ : ByteArray)) := (blk_cell BK244.out 0).trans rfl; have hcz22_1 : w21.cell? ⟨gb244, 1, none⟩ = some (.int .i64 0) := (blk_cell BK244.out 1).trans rfl; have hcz22_2 : w21.cell? ⟨gb244, 2, none⟩ = some (.int .i64 0) := (blk_cell BK244.out 2).trans rfl; have hcz22_3 : w21.cell? ⟨gb244, 3, none⟩ = some (.int .i64 0) := (blk_cell BK244.out 3).trans rfl; have hcz22_4 : w21.cell? ⟨gb244, 4, none⟩ = some (.int .i64 0) := (blk_cell BK244.out 4).trans rfl; have hfz22_0 := blk_frozen BK244.out 0; have hfz22_1 := blk_frozen BK244.out 1; have hfz22_2 := blk_frozen BK244.out 2; have hfz22_3 := blk_frozen BK244.out 3; have hfz22_4 := blk_frozen BK244.out 4; have p245 : 0 ≤ ((ji12) : Int) := oda; have q245 : (ji12) < (l0.length : Int) := oda; obtain ⟨ad245, e245, hx245_0⟩ := Kd.at_int HR0.out (ji12) p245 q245; obtain rfl : ad242 = ad245 := (by injection e245); have hn245_0 : ad242.block ≠ gb244 := Nat.ne_of_lt (Nat.lt_of_lt_of_le (by have := World.block_lt_of_cell? _ _ hx245_0; first | rwa [add_block] at this | exact this) GW244.out); have hn245_1 : ad242.block ≠ gb244 := Nat.ne_of_lt (Nat.lt_of_lt_of_le (by have := World.block_lt_of_cell? _ _ hx245_0; first | rwa [add_block] at this | exact this) GW244.out); have hn245_2 : ad242.block ≠ gb244 := Nat.ne_of_lt (Nat.lt_of_lt_of_le (by have := World.block_lt_of_cell? _ _ hx245_0; first | rwa [add_block] at this | exact this) GW244.out); have hn245_3 : ad242.block ≠ gb244 := Nat.ne_of_lt (Nat.lt_of_lt_of_le (by have := World.block_lt_of_cell? _ _ hx245_0; first | rwa [add_block] at this | exact this) GW244.out); have hn245_4 : ad242.block ≠ gb244 := Nat.ne_of_lt (Nat.lt_of_lt_of_le (by have := World.block_lt_of_cell? _ _ hx245_0; first | rwa [add_block] at this | exact this) GW244.out); replace hx245_0 := cel HB hx245_0; replace hx245_0 := (cell_far (p := ⟨gb244, 0, none⟩) (by first | (rw [add_block]; exact hn245_0) | (show (Addr.add _ _).block ≠ _; rw [add_block]; exact hn245_0) | exact hn245_0) (.string ((rd_T69 l1 (ji8)).f0))).trans hx245_0; replace hx245_0 := (cell_far (p := ⟨gb244, 1, none⟩) (by first | (rw [add_block]; exact hn245_1) | (show (Addr.add _ _).block ≠ _; rw [add_block]; exact hn245_1) | exact hn245_1) (.int .i64 ((rd_T69 l1 (ji8)).f1))).trans hx245_0; replace hx245_0 := (cell_far (p := ⟨gb244, 2, none⟩) (by first | (rw [add_block]; exact hn245_2) | (show (Addr.add _ _).block ≠ _; rw [add_block]; exact hn245_2) | exact hn245_2) (.int .i64 ((rd_T69 l1 (ji8)).f2))).trans hx245_0; replace hx245_0 := (cell_far (p := ⟨gb244, 3, none⟩) (by first | (rw [add_block]; exact hn245_3) | (show (Addr.add _ _).block ≠ _; rw [add_block]; exact hn245_3) | exact hn245_3) (.int .i64 ((rd_T69 l1 (ji8)).f3))).trans hx245_0; replace hx245_0 := (cell_far (p := ⟨gb244, 4, none⟩) (by first | (rw [add_block]; exact hn245_4) | (show (Addr.add _ _).block ≠ _; rw [add_block]; exact hn245_4) | exact hn245_4) (.int .i64 ((rd_T69 l1 (ji8)).f4))).trans hx245_0; clear hn245_0; clear hn245_1; clear hn245_2; clear hn245_3; clear hn245_4; replace p245 := eq_true p245; replace q245 := eq_true q245; have p246 : 0 ≤ ((ji15) : Int) := oda; have q246 : (ji15) < (l1.length : Int) := oda; obtain ⟨ad246, e246, hx246_0, hx246_1, hx246_2, hx246_3, hx246_4⟩ := at_T69 HR1.out (ji15) p246 q246; obtain rfl : ad243 = ad246 := (by injection e246); have hn246_0 : ad243.block ≠ gb244 := Nat.ne_of_lt (Nat.lt_of_lt_of_le (by have := World.block_lt_of_cell? _ _ hx246_0; first | rwa [add_block] at this | exact this) GW244.out); have hn246_1 : ad243.block ≠ gb244 := Nat.ne_of_lt (Nat.lt_of_lt_of_le (by have := World.block_lt_of_cell? _ _ hx246_0; first | rwa [add_block] at this | exact this) GW244.out); have hn246_2 : ad243.block ≠ gb244 := Nat.ne_of_lt (Nat.lt_of_lt_of_le (by have := World.block_lt_of_cell? _ _ hx246_0; first | rwa [add_block] at this | exact this) GW244.out); have hn246_3 : ad243.block ≠ gb244 := Nat.ne_of_lt (Nat.lt_of_lt_of_le (by have := World.block_lt_of_cell? _ _ hx246_0; first | rwa [add_block] at this | exact this) GW244.out); have hn246_4 : ad243.block ≠ gb244 := Nat.ne_of_lt (Nat.lt_of_lt_of_le (by have := World.block_lt_of_cell? _ _ hx246_0; first | rwa [add_block] at this | exact this) GW244.out); replace hx246_0 := cel HB hx246_0; replace hx246_1 := cel HB hx246_1; replace hx246_2 := cel HB hx246_2; replace hx246_3 := cel HB hx246_3; replace hx246_4 := cel HB hx246_4; replace hx246_0 := (cell_far (p := ⟨gb244, 0, none⟩) (by first | (rw [add_block]; exact hn246_0) | (show (Addr.add _ _).block ≠ _; rw [add_block]; exact hn246_0) | exact hn246_0) (.string ((rd_T69 l1 (ji8)).f0))).trans hx246_0; replace hx246_1 := (cell_far (p := ⟨gb244, 0, none⟩) (by first | (rw [add_block]; exact hn246_0) | (show (Addr.add _ _).block ≠ _; rw [add_block]; exact hn246_0) | exact hn246_0) (.string ((rd_T69 l1 (ji8)).f0))).trans hx246_1; replace hx246_2 := (cell_far (p := ⟨gb244, 0, none⟩) (by first | (rw [add_block]; exact hn246_0) | (show (Addr.add _ _).block ≠ _; rw [add_block]; exact hn246_0) | exact hn246_0) (.string ((rd_T69 l1 (ji8)).f0))).trans hx246_2; replace hx246_3 := (cell_far (p := ⟨gb244, 0, none⟩) (by first | (rw [add_block]; exact hn246_0) | (show (Addr.add _ _).block ≠ _; rw [add_block]; exact hn246_0) | exact hn246_0) (.string ((rd_T69 l1 (ji8)).f0))).trans hx246_3; replace hx246_4 := (cell_far (p := ⟨gb244, 0, none⟩) (by first | (rw [add_block]; exact hn246_0) | (show (Addr.add _ _).block ≠ _; rw [add_block]; exact hn246_0) | exact hn246_0) (.string ((rd_T69 l1 (ji8)).f0))).trans hx246_4; replace hx246_0 := (cell_far (p := ⟨gb244, 1, none⟩) (by first | (rw [add_block]; exact hn246_1) | (show (Addr.add _ _).block ≠ _; rw [add_block]; exact hn246_1) | exact hn246_1) (.int .i64 ((rd_T69 l1 (ji8)).f1))).trans hx246_0; replace hx246_1 := (cell_far (p := ⟨gb244, 1, none⟩) (by first | (rw [add_block]; exact hn246_1) | (show (Addr.add _ _).block ≠ _; rw [add_block]; exact hn246_1) | exact hn246_1) (.int .i64 ((rd_T69 l1 (ji8)).f1))).trans hx246_1; replace hx246_2 := (cell_far (p := ⟨gb244, 1, none⟩) (by first | (rw [add_block]; exact hn246_1) | (show (Addr.add _ _).block ≠ _; rw [add_block]; exact hn246_1) | exact hn246_1) (.int .i64 ((rd_T69 l1 (ji8)).f1))).trans hx246_2; replace hx246_3 := (cell_far (p := ⟨gb244, 1, none⟩) (by first | (rw [add_block]; exact hn246_1) | (show (Addr.add _ _).block ≠ _; rw [add_block]; exact hn246_1) | exact hn246_1) (.int .i64 ((rd_T69 l1 (ji8)).f1))).trans hx246_3; replace hx246_4 := (cell_far (p := ⟨gb244, 1, none⟩) (by first | (rw [add_block]; exact hn246_1) | (show (Addr.add _ _).block ≠ _; rw [add_block]; exact hn246_1) | exact hn246_1) (.int .i64 ((rd_T69 l1 (ji8)).f1))).trans hx246_4; replace hx246_0 := (cell_far (p := ⟨gb244, 2, none⟩) (by first | (rw [add_block]; exact hn246_2) | (show (Addr.add _ _).block ≠ _; rw [add_block]; exact hn246_2) | exact hn246_2) (.int .i64 ((rd_T69 l1 (ji8)).f2))).trans hx246_0; replace hx246_1 := (cell_far (p := ⟨gb244, 2, none⟩) (by first | (rw [add_block]; exact hn246_2) | (show (Addr.add _ _).block ≠ _; rw [add_block]; exact hn246_2) | exact hn246_2) (.int .i64 ((rd_T69 l1 (ji8)).f2))).trans hx246_1; replace hx246_2 := (cell_far (p := ⟨gb244, 2, none⟩) (by first | (rw [add_block]; exact hn246_2) | (show (Addr.add _ _).block ≠ _; rw [add_block]; exact hn246_2) | exact hn246_2) (.int .i64 ((rd_T69 l1 (ji8)).f2))).trans hx246_2; replace hx246_3 := (cell_far (p := ⟨gb244, 2, none⟩) (by first | (rw [add_block]; exact hn246_2) | (show (Addr.add _ _).block ≠ _; rw [add_block]; exact hn246_2) | exact hn246_2) (.int .i64 ((rd_T69 l1 (ji8)).f2))).trans hx246_3; replace hx246_4 := (cell_far (p := ⟨gb244, 2, none⟩) (by first | (rw [add_block]; exact hn246_2) | (show (Addr.add _ _).block ≠ _; rw [add_block]; exact hn246_2) | exact hn246_2) (.int .i64 ((rd_T69 l1 (ji8)).f2))).trans hx246_4; replace hx246_0 := (cell_far (p := ⟨gb244, 3, none⟩) (by first | (rw [add_block]; exact hn246_3) | (show (Addr.add _ _).block ≠ _; rw [add_block]; exact hn246_3) | exact hn246_3) (.int .i64 ((rd_T69 l1 (ji8)).f3))).trans hx246_0; replace hx246_1 := (cell_far (p := ⟨gb244, 3, none⟩) (by first | (rw [add_block]; exact hn246_3) | (show (Addr.add _ _).block ≠ _; rw [add_block]; exact hn246_3) | exact hn246_3) (.int .i64 ((rd_T69 l1 (ji8)).f3))).trans hx246_1; replace hx246_2 := (cell_far (p := ⟨gb244, 3, none⟩) (by first | (rw [add_block]; exact hn246_3) | (show (Addr.add _ _).block ≠ _; rw [add_block]; exact hn246_3) | exact hn246_3) (.int .i64 ((rd_T69 l1 (ji8)).f3))).trans hx246_2; replace hx246_3 := (cell_far (p := ⟨gb244, 3, none⟩) (by first | (rw [add_block]; exact hn246_3) | (show (Addr.add _ _).block ≠ _; rw [add_block]; exact hn246_3) | exact hn246_3) (.int .i64 ((rd_T69 l1 (ji8)).f3))).trans hx246_3; replace hx246_4 := (cell_far (p := ⟨gb244, 3, none⟩) (by first | (rw [add_block]; exact hn246_3) | (show (Addr.add _ _).block ≠ _; rw [add_block]; exact hn246_3) | exact hn246_3) (.int .i64 ((rd_T69 l1 (ji8)).f3))).trans hx246_4; replace hx246_0 := (cell_far (p := ⟨gb244, 4, none⟩) (by first | (rw [add_block]; exact hn246_4) | (show (Addr.add _ _).block ≠ _; rw [add_block]; exact hn246_4) | exact hn246_4) (.int .i64 ((rd_T69 l1 (ji8)).f4))).trans hx246_0; replace hx246_1 := (cell_far (p := ⟨gb244, 4, none⟩) (by first | (rw [add_block]; exact hn246_4) | (show (Addr.add _ _).block ≠ _; rw [add_block]; exact hn246_4) | exact hn246_4) (.int .i64 ((rd_T69 l1 (ji8)).f4))).trans hx246_1; replace hx246_2 := (cell_far (p := ⟨gb244, 4, none⟩) (by first | (rw [add_block]; exact hn246_4) | (show (Addr.add _ _).block ≠ _; rw [add_block]; exact hn246_4) | exact hn246_4) (.int .i64 ((rd_T69 l1 (ji8)).f4))).trans hx246_2; replace hx246_3 := (cell_far (p := ⟨gb244, 4, none⟩) (by first | (rw [add_block]; exact hn246_4) | (show (Addr.add _ _).block ≠ _; rw [add_block]; exact hn246_4) | exact hn246_4) (.int .i64 ((rd_T69 l1 (ji8)).f4))).trans hx246_3; replace hx246_4 := (cell_far (p := ⟨gb244, 4, none⟩) (by first | (rw [add_block]; exact hn246_4) | (show (Addr.add _ _).block ≠ _; rw [add_block]; exact hn246_4) | exact hn246_4) (.int .i64 ((rd_T69 l1 (ji8)).f4))).trans hx246_4; clear hn246_0; clear hn246_1; clear hn246_2; clear hn246_3; clear hn246_4; replace p246 := eq_true p246; replace q246 := eq_true q246) | ((with_reducible refine gate_dst (N := 13) rfl ?_); refine box_event ?hg (N := 13) ?hd (cs := #[.string (⟨#[]⟩ : ByteArray), .int .i64 0, .int .i64 0, .int .i64 0, .int .i64 0]) (t := 69) ?hr ?_; (case hd => rfl); (case hg => rfl); (case hr => first | (go_simp; done) | (go_simp; rfl)); intro gb247 hg w23 hbox hb; have n0_ := Aside0.mk (Kd.R_below (by (with_reducible repeat (first | apply Kd.R_alloc | apply Kd.R_drewN | apply Kd.R_drew)); exact (Kd.R_mono (Kd.R_far (p := ⟨gb244, 4, none⟩) (Kd.R_far (p := ⟨gb244, 3, none⟩) (Kd.R_far (p := ⟨gb244, 2, none⟩) (Kd.R_far (p := ⟨gb244, 1, none⟩) (Kd.R_far (p := ⟨gb244, 0, none⟩) (Kd.R_types HO241.out BK244.out (by decide)) (fun _ hk => hk.2) (.string ((rd_T69 l1 (ji8)).f0))) (fun _ hk => hk.2) (.int .i64 ((rd_T69 l1 (ji8)).f1))) (fun _ hk => hk.2) (.int .i64 ((rd_T69 l1 (ji8)).f2))) (fun _ hk => hk.2) (.int .i64 ((rd_T69 l1 (ji8)).f3))) (fun _ hk => hk.2) (.int .i64 ((rd_T69 l1 (ji8)).f4))) (fun _ h_ => h_.1))) hb); have n1_ := Aside0.mk (blk_below (g := gb244) (o := .cells #[.string ((rd_T69 l1 (ji8)).f0), .int .i64 ((rd_T69 l1 (ji8)).f1), .int .i64 ((rd_T69 l1 (ji8)).f2), .int .i64 ((rd_T69 l1 (ji8)).f3), .int .i64 ((rd_T69 l1 (ji8)).f4)] 69 (0, 0)) (by (with_reducible repeat (first | refine blk_drewN ?_ _ | refine blk_drew ?_ | refine blk_alloc ?_ _)); refine blk_put (cs := #[.string ((rd_T69 l1 (ji8)).f0), .int .i64 ((rd_T69 l1 (ji8)).f1), .int .i64 ((rd_T69 l1 (ji8)).f2), .int .i64 ((rd_T69 l1 (ji8)).f3), .int .i64 0]) ?_ 4 _ rfl; (with_reducible repeat (first | refine blk_drewN ?_ _ | refine blk_drew ?_ | refine blk_alloc ?_ _)); refine blk_put (cs := #[.string ((rd_T69 l1 (ji8)).f0), .int .i64 ((rd_T69 l1 (ji8)).f1), .int .i64 ((rd_T69 l1 (ji8)).f2), .int .i64 0, .int .i64 0]) ?_ 3 _ rfl; (with_reducible repeat (first | refine blk_drewN ?_ _ | refine blk_drew ?_ | refine blk_alloc ?_ _)); refine blk_put (cs := #[.string ((rd_T69 l1 (ji8)).f0), .int .i64 ((rd_T69 l1 (ji8)).f1), .int .i64 0, .int .i64 0, .int .i64 0]) ?_ 2 _ rfl; (with_reducible repeat (first | refine blk_drewN ?_ _ | refine blk_drew ?_ | refine blk_alloc ?_ _)); refine blk_put (cs := #[.string ((rd_T69 l1 (ji8)).f0), .int .i64 0, .int .i64 0, .int .i64 0, .int .i64 0]) ?_ 1 _ rfl; (with_reducible repeat (first | refine blk_drewN ?_ _ | refine blk_drew ?_ | refine blk_alloc ?_ _)); refine blk_put (cs := #[.string (⟨#[]⟩ : ByteArray), .int .i64 0, .int .i64 0, .int .i64 0, .int .i64 0]) ?_ 0 _ rfl; (with_reducible repeat (first | refine blk_drewN ?_ _ | refine blk_drew ?_ | refine blk_alloc ?_ _)); exact BK244.out) hb); have n2_ := Aside0.mk (below_step (bel1 HB GE244) hb); have n3_ := Aside0.mk (hbox); have n4_ := Aside0.mk ((by rw [hg]; exact (below_size (bel1 HB GE244)) : w.heap.size ≤ gb247)); have n5_ := Aside0.mk ((by rw [hg]; exact (below_size (bel1 HB GE244)) : w.heap.size ≤ gb247)); have n6_ := Aside0.mk ((by rw [hg]; exact Nat.ne_of_lt (blk_lt (g := gb244) (o := .cells #[.string ((rd_T69 l1 (ji8)).f0), .int .i64 ((rd_T69 l1 (ji8)).f1), .int .i64 ((rd_T69 l1 (ji8)).f2), .int .i64 ((rd_T69 l1 (ji8)).f3), .int .i64 ((rd_T69 l1 (ji8)).f4)] 69 (0, 0)) (by (with_reducible repeat (first | refine blk_drewN ?_ _ | refine blk_drew ?_ | refine blk_alloc ?_ _)); refine blk_put (cs := #[.string ((rd_T69 l1 (ji8)).f0), .int .i64 ((rd_T69 l1 (ji8)).f1), .int .i64 ((rd_T69 l1 (ji8)).f2), .int .i64 ((rd_T69 l1 (ji8)).f3), .int .i64 0]) ?_ 4 _ rfl; (with_reducible repeat (first | refine blk_drewN ?_ _ | refine blk_drew ?_ | refine blk_alloc ?_ _)); refine blk_put (cs := #[.string ((rd_T69 l1 (ji8)).f0), .int .i64 ((rd_T69 l1 (ji8)).f1), .int .i64 ((rd_T69 l1 (ji8)).f2), .int .i64 0, .int .i64 0]) ?_ 3 _ rfl; (with_reducible repeat (first | refine blk_drewN ?_ _ | refine blk_drew ?_ | refine blk_alloc ?_ _)); refine blk_put (cs := #[.string ((rd_T69 l1 (ji8)).f0), .int .i64 ((rd_T69 l1 (ji8)).f1), .int .i64 0, .int .i64 0, .int .i64 0]) ?_ 2 _ rfl; (with_reducible repeat (first | refine blk_drewN ?_ _ | refine blk_drew ?_ | refine blk_alloc ?_ _)); refine blk_put (cs := #[.string ((rd_T69 l1 (ji8)).f0), .int .i64 0, .int .i64 0, .int .i64 0, .int .i64 0]) ?_ 1 _ rfl; (with_reducible repeat (first | refine blk_drewN ?_ _ | refine blk_drew ?_ | refine blk_alloc ?_ _)); refine blk_put (cs := #[.string (⟨#[]⟩ : ByteArray), .int .i64 0, .int .i64 0, .int .i64 0, .int .i64 0]) ?_ 0 _ rfl; (with_reducible repeat (first | refine blk_drewN ?_ _ | refine blk_drew ?_ | refine blk_alloc ?_ _)); exact BK244.out)) : gb244 ≠ gb247)); have n7_ := Aside0.mk ((by rw [hg]; exact Nat.ne_of_gt (blk_lt (g := gb244) (o := .cells #[.string ((rd_T69 l1 (ji8)).f0), .int .i64 ((rd_T69 l1 (ji8)).f1), .int .i64 ((rd_T69 l1 (ji8)).f2), .int .i64 ((rd_T69 l1 (ji8)).f3), .int .i64 ((rd_T69 l1 (ji8)).f4)] 69 (0, 0)) (by (with_reducible repeat (first | refine blk_drewN ?_ _ | refine blk_drew ?_ | refine blk_alloc ?_ _)); refine blk_put (cs := #[.string ((rd_T69 l1 (ji8)).f0), .int .i64 ((rd_T69 l1 (ji8)).f1), .int .i64 ((rd_T69 l1 (ji8)).f2), .int .i64 ((rd_T69 l1 (ji8)).f3), .int .i64 0]) ?_ 4 _ rfl; (with_reducible repeat (first | refine blk_drewN ?_ _ | refine blk_drew ?_ | refine blk_alloc ?_ _)); refine blk_put (cs := #[.string ((rd_T69 l1 (ji8)).f0), .int .i64 ((rd_T69 l1 (ji8)).f1), .int .i64 ((rd_T69 l1 (ji8)).f2), .int .i64 0, .int .i64 0]) ?_ 3 _ rfl; (with_reducible repeat (first | refine blk_drewN ?_ _ | refine blk_drew ?_ | refine blk_alloc ?_ _)); refine blk_put (cs := #[.string ((rd_T69 l1 (ji8)).f0), .int .i64 ((rd_T69 l1 (ji8)).f1), .int .i64 0, .int .i64 0, .int .i64 0]) ?_ 2 _ rfl; (with_reducible repeat (first | refine blk_drewN ?_ _ | refine blk_drew ?_ | refine blk_alloc ?_ _)); refine blk_put (cs := #[.string ((rd_T69 l1 (ji8)).f0), .int .i64 0, .int .i64 0, .int .i64 0, .int .i64 0]) ?_ 1 _ rfl; (with_reducible repeat (first | refine blk_drewN ?_ _ | refine blk_drew ?_ | refine blk_alloc ?_ _)); refine blk_put (cs := #[.string (⟨#[]⟩ : ByteArray), .int .i64 0, .int .i64 0, .int .i64 0, .int .i64 0]) ?_ 0 _ rfl; (with_reducible repeat (first | refine blk_drewN ?_ _ | refine blk_drew ?_ | refine blk_alloc ?_ _)); exact BK244.out)) : gb247 ≠ gb244)); clear HO241; clear BK244; clear HB; have HO241 := n0_; have BK244 := n1_; have HB := n2_; have BK247 := n3_; have GW247 := n4_; have GE247 := n5_; have NB244_247 := n6_; have NB247_244 := n7_; clear n0_ n1_ n2_ n3_ n4_ n5_ n6_ n7_; clear hb hbox hg; have hnb24 := NB247_244.out; have hnc24 := NB244_247.out; have hcz25_0 : w23.cell? ⟨gb247, 0, none⟩ = some (.string (⟨#[]⟩ : ByteArray)) := (blk_cell BK247.out 0).trans rfl; have hcz25_1 : w23.cell? ⟨gb247, 1, none⟩ = some (.int .i64 0) := (blk_cell BK247.out 1).trans rfl; have hcz25_2 : w23.cell? ⟨gb247, 2, none⟩ = some (.int .i64 0) := (blk_cell BK247.out 2).trans rfl; have hcz25_3 : w23.cell? ⟨gb247, 3, none⟩ = some (.int .i64 0) := (blk_cell BK247.out 3).trans rfl; have hcz25_4 : w23.cell? ⟨gb247, 4, none⟩ = some (.int .i64 0) := (blk_cell BK247.out 4).trans rfl; have hfz25_0 := blk_frozen BK247.out 0; have hfz25_1 := blk_frozen BK247.out 1; have hfz25_2 := blk_frozen BK247.out 2; have hfz25_3 := blk_frozen BK247.out 3; have hfz25_4 := blk_frozen BK247.out 4; have hcz26_0 : w23.cell? ⟨gb244, 0, none⟩ = some (.string ((rd_T69 l1 (ji8)).f0)) := (blk_cell BK244.out 0).trans rfl; have hcz26_1 : w23.cell? ⟨gb244, 1, none⟩ = some (.int .i64 ((rd_T69 l1 (ji8)).f1)) := (blk_cell BK244.out 1).trans rfl; have hcz26_2 : w23.cell? ⟨gb244, 2, none⟩ = some (.int .i64 ((rd_T69 l1 (ji8)).f2)) := (blk_cell BK244.out 2).trans rfl; have hcz26_3 : w23.cell? ⟨gb244, 3, none⟩ = some (.int .i64 ((rd_T69 l1 (ji8)).f3)) := (blk_cell BK244.out 3).trans rfl; have hcz26_4 : w23.cell? ⟨gb244, 4, none⟩ = some (.int .i64 ((rd_T69 l1 (ji8)).f4)) := (blk_cell BK244.out 4).trans rfl; have hfz26_0 := blk_frozen BK244.out 0; have hfz26_1 := blk_frozen BK244.out 1; have hfz26_2 := blk_frozen BK244.out 2; have hfz26_3 := blk_frozen BK244.out 3; have hfz26_4 := blk_frozen BK244.out 4))
          (try simp only [Act.put, List.setIfInBounds_toArray, List.set_cons_zero, List.set_cons_succ])
          go_cut [11] (fun v11 wc => ∃ (kq : Nat) (x11_17 : List Int), Aside0 (impl_brokenRules.j0 kq a2 a3 x11_17 ((rd_T69 l1 (ji8)).f0) ((rd_T69 l1 (ji8)).f1) ((rd_T69 l1 (ji8)).f2) ((rd_T69 l1 (ji8)).f3) ((rd_T69 l1 (ji8)).f4) ((rd_T69 l1 (ji15)).f0) ((rd_T69 l1 (ji15)).f1) ((rd_T69 l1 (ji15)).f2) ((rd_T69 l1 (ji15)).f3) ((rd_T69 l1 (ji15)).f4) = some r) ∧ Aside0 (kq ≤ k) ∧ Aside0 (Kd.R (Kd.int .i64) 3 wc w.heap.size (fun _ => True) v11 x11_17) ∧ Aside0 (wc.heap[gb244]? = some (.cells #[.string ((rd_T69 l1 (ji8)).f0), .int .i64 ((rd_T69 l1 (ji8)).f1), .int .i64 ((rd_T69 l1 (ji8)).f2), .int .i64 ((rd_T69 l1 (ji8)).f3), .int .i64 ((rd_T69 l1 (ji8)).f4)] 69 (0, 0))) ∧ Aside0 (wc.heap[gb247]? = some (.cells #[.string ((rd_T69 l1 (ji15)).f0), .int .i64 ((rd_T69 l1 (ji15)).f1), .int .i64 ((rd_T69 l1 (ji15)).f2), .int .i64 ((rd_T69 l1 (ji15)).f3), .int .i64 ((rd_T69 l1 (ji15)).f4)] 69 (0, 0))) ∧ Aside0 (Below w.heap.size w wc))
          case first =>
           have H := HC18.out
           clear HC18
           by_cases c27 : ((rd_T69 l1 (ji8)).f2) > ((rd_T69 l1 (ji15)).f2)
           ·rw [if_pos c27] at H
            have c27b0 : decide (((rd_T69 l1 (ji15)).f2) < ((rd_T69 l1 (ji8)).f2)) = true := decide_eq_true c27
            clear c27
            (first | rw [c27b0] | (simp only [i64_w, i32_w]; rw [c27b0]) | skip)
            by_cases c28 : y239.length < 17592186044416
            ·rw [if_pos c28] at H
             have LMc28 := Aside0.mk c28
             clear c28
             obtain ⟨y248, hy248⟩ : ∃ y_ : List Int, y_ = (y239 ++ [1]) := ⟨_, rfl⟩
             replace H : (impl_brokenRules.j0 k a2 a3 y248 ((rd_T69 l1 (ji8)).f0) ((rd_T69 l1 (ji8)).f1) ((rd_T69 l1 (ji8)).f2) ((rd_T69 l1 (ji8)).f3) ((rd_T69 l1 (ji8)).f4) ((rd_T69 l1 (ji15)).f0) ((rd_T69 l1 (ji15)).f1) ((rd_T69 l1 (ji15)).f2) ((rd_T69 l1 (ji15)).f3) ((rd_T69 l1 (ji15)).f4)) = some r := by first | (rw [hy248]; with_reducible exact H) | (have H2_ := (Option.bind_some _ _).symm.trans H; rw [hy248]; with_reducible exact H2_) | (have H2_ := (Option.bind_some _ _).symm.trans H; with_reducible exact H2_) | with_reducible exact H | (rw [hy248]; exact H) | exact H
             have Ny248 := Aside0.mk hy248
             clear hy248
             have H' := Aside0.mk H
             clear H
             go_wp2_with (first | ((with_reducible refine gate_builtin (b := .append) (xs := #[.tmp 39, .tmp 40]) rfl ?_); at_builtin; refine Kd.R_append (Kd.int .i64) (w0 := w) w.heap.size rfl (.tmp 39) (.tmp 40) 39 3 (.int .i64 0) 8 rfl Try.underlying39 info3 rfl (by decide) (by omega) v240 y239 1 [.int .i64 1] (fun _ => True) (fun _ => False) rfl (by first | (go_simp; done) | (go_simp; rfl)) ?aP (fun _ hk => hk.elim) ?aF ?aO ?aB ?aS ?aL ?_; (case aP => exact rfl); (case aB => exact (bel2 HB GE244 GE247)); (case aF => exact (fun _ _ => trivial)); (case aO => exact (by (with_reducible repeat (first | apply Kd.R_alloc | apply Kd.R_drewN | apply Kd.R_drew)); exact Kd.R_mono (Kd.R_far (p := ⟨gb247, 4, none⟩) (Kd.R_far (p := ⟨gb247, 3, none⟩) (Kd.R_far (p := ⟨gb247, 2, none⟩) (Kd.R_far (p := ⟨gb247, 1, none⟩) (Kd.R_far (p := ⟨gb247, 0, none⟩) (Kd.R_types HO241.out BK247.out (by decide)) (fun _ hk => hk.2) (.string ((rd_T69 l1 (ji15)).f0))) (fun _ hk => hk.2) (.int .i64 ((rd_T69 l1 (ji15)).f1))) (fun _ hk => hk.2) (.int .i64 ((rd_T69 l1 (ji15)).f2))) (fun _ hk => hk.2) (.int .i64 ((rd_T69 l1 (ji15)).f3))) (fun _ hk => hk.2) (.int .i64 ((rd_T69 l1 (ji15)).f4))) (fun _ hk => trivial))); (case aS => exact (below_size (bel2 HB GE244 GE247))); (case aL => have := LMc28.out; omega); intro v249 w29 ho hb hg hat; rw [← Ny248.out] at ho; have n0_ := Aside0.mk (blk_grown (g := gb244) (o := .cells #[.string ((rd_T69 l1 (ji8)).f0), .int .i64 ((rd_T69 l1 (ji8)).f1), .int .i64 ((rd_T69 l1 (ji8)).f2), .int .i64 ((rd_T69 l1 (ji8)).f3), .int .i64 ((rd_T69 l1 (ji8)).f4)] 69 (0, 0)) (by (with_reducible repeat (first | refine blk_drewN ?_ _ | refine blk_drew ?_ | refine blk_alloc ?_ _)); refine blk_far ?_ NB244_247.out _; (with_reducible repeat (first | refine blk_drewN ?_ _ | refine blk_drew ?_ | refine blk_alloc ?_ _)); refine blk_far ?_ NB244_247.out _; (with_reducible repeat (first | refine blk_drewN ?_ _ | refine blk_drew ?_ | refine blk_alloc ?_ _)); refine blk_far ?_ NB244_247.out _; (with_reducible repeat (first | refine blk_drewN ?_ _ | refine blk_drew ?_ | refine blk_alloc ?_ _)); refine blk_far ?_ NB244_247.out _; (with_reducible repeat (first | refine blk_drewN ?_ _ | refine blk_drew ?_ | refine blk_alloc ?_ _)); refine blk_far ?_ NB244_247.out _; (with_reducible repeat (first | refine blk_drewN ?_ _ | refine blk_drew ?_ | refine blk_alloc ?_ _)); exact BK244.out) hg (Kd.R_ne HO241.out BK244.out (by decide))); have n1_ := Aside0.mk (blk_grown (g := gb247) (o := .cells #[.string ((rd_T69 l1 (ji15)).f0), .int .i64 ((rd_T69 l1 (ji15)).f1), .int .i64 ((rd_T69 l1 (ji15)).f2), .int .i64 ((rd_T69 l1 (ji15)).f3), .int .i64 ((rd_T69 l1 (ji15)).f4)] 69 (0, 0)) (by (with_reducible repeat (first | refine blk_drewN ?_ _ | refine blk_drew ?_ | refine blk_alloc ?_ _)); refine blk_put (cs := #[.string ((rd_T69 l1 (ji15)).f0), .int .i64 ((rd_T69 l1 (ji15)).f1), .int .i64 ((rd_T69 l1 (ji15)).f2), .int .i64 ((rd_T69 l1 (ji15)).f3), .int .i64 0]) ?_ 4 _ rfl; (with_reducible repeat (first | refine blk_drewN ?_ _ | refine blk_drew ?_ | refine blk_alloc ?_ _)); refine blk_put (cs := #[.string ((rd_T69 l1 (ji15)).f0), .int .i64 ((rd_T69 l1 (ji15)).f1), .int .i64 ((rd_T69 l1 (ji15)).f2), .int .i64 0, .int .i64 0]) ?_ 3 _ rfl; (with_reducible repeat (first | refine blk_drewN ?_ _ | refine blk_drew ?_ | refine blk_alloc ?_ _)); refine blk_put (cs := #[.string ((rd_T69 l1 (ji15)).f0), .int .i64 ((rd_T69 l1 (ji15)).f1), .int .i64 0, .int .i64 0, .int .i64 0]) ?_ 2 _ rfl; (with_reducible repeat (first | refine blk_drewN ?_ _ | refine blk_drew ?_ | refine blk_alloc ?_ _)); refine blk_put (cs := #[.string ((rd_T69 l1 (ji15)).f0), .int .i64 0, .int .i64 0, .int .i64 0, .int .i64 0]) ?_ 1 _ rfl; (with_reducible repeat (first | refine blk_drewN ?_ _ | refine blk_drew ?_ | refine blk_alloc ?_ _)); refine blk_put (cs := #[.string (⟨#[]⟩ : ByteArray), .int .i64 0, .int .i64 0, .int .i64 0, .int .i64 0]) ?_ 0 _ rfl; (with_reducible repeat (first | refine blk_drewN ?_ _ | refine blk_drew ?_ | refine blk_alloc ?_ _)); exact BK247.out) hg (Kd.R_ne HO241.out BK247.out (by decide))); have n2_ := Aside0.mk (hb); have n3_ := Aside0.mk (ho); clear BK244; clear BK247; clear HB; clear HO241; have BK244 := n0_; have BK247 := n1_; have HB := n2_; have HO250 := n3_; clear n0_ n1_ n2_ n3_; clear ho hb hg hat))
             go_meet
             case rel => exact ⟨_, (y248), H', ⟨by first | omega | exact Nat.le_refl _⟩, ⟨rdl HO250⟩, ⟨bkl BK244⟩, ⟨bkl BK247⟩, ⟨bel2 HB GE244 GE247⟩⟩
            ·rw [if_neg c28] at H
             exact absurd H (by simp)
           ·rw [if_neg c27] at H
            have c27b0 : decide (((rd_T69 l1 (ji15)).f2) < ((rd_T69 l1 (ji8)).f2)) = false := decide_eq_false c27
            clear c27
            (first | rw [c27b0] | (simp only [i64_w, i32_w]; rw [c27b0]) | skip)
            have H' := Aside0.mk H
            clear H
            go_wp2
            go_meet
            case rel => exact ⟨_, (y239), H', ⟨by first | omega | exact Nat.le_refl _⟩, ⟨by (with_reducible repeat (first | apply Kd.R_alloc | apply Kd.R_drewN | apply Kd.R_drew)); exact Kd.R_mono (Kd.R_far (p := ⟨gb247, 4, none⟩) (Kd.R_far (p := ⟨gb247, 3, none⟩) (Kd.R_far (p := ⟨gb247, 2, none⟩) (Kd.R_far (p := ⟨gb247, 1, none⟩) (Kd.R_far (p := ⟨gb247, 0, none⟩) (Kd.R_types HO241.out BK247.out (by decide)) (fun _ hk => hk.2) (.string ((rd_T69 l1 (ji15)).f0))) (fun _ hk => hk.2) (.int .i64 ((rd_T69 l1 (ji15)).f1))) (fun _ hk => hk.2) (.int .i64 ((rd_T69 l1 (ji15)).f2))) (fun _ hk => hk.2) (.int .i64 ((rd_T69 l1 (ji15)).f3))) (fun _ hk => hk.2) (.int .i64 ((rd_T69 l1 (ji15)).f4))) (fun _ hk => trivial)⟩, ⟨by (with_reducible repeat (first | refine blk_drewN ?_ _ | refine blk_drew ?_ | refine blk_alloc ?_ _)); refine blk_far ?_ NB244_247.out _; (with_reducible repeat (first | refine blk_drewN ?_ _ | refine blk_drew ?_ | refine blk_alloc ?_ _)); refine blk_far ?_ NB244_247.out _; (with_reducible repeat (first | refine blk_drewN ?_ _ | refine blk_drew ?_ | refine blk_alloc ?_ _)); refine blk_far ?_ NB244_247.out _; (with_reducible repeat (first | refine blk_drewN ?_ _ | refine blk_drew ?_ | refine blk_alloc ?_ _)); refine blk_far ?_ NB244_247.out _; (with_reducible repeat (first | refine blk_drewN ?_ _ | refine blk_drew ?_ | refine blk_alloc ?_ _)); refine blk_far ?_ NB244_247.out _; (with_reducible repeat (first | refine blk_drewN ?_ _ | refine blk_drew ?_ | refine blk_alloc ?_ _)); exact BK244.out⟩, ⟨by (with_reducible repeat (first | refine blk_drewN ?_ _ | refine blk_drew ?_ | refine blk_alloc ?_ _)); refine blk_put (cs := #[.string ((rd_T69 l1 (ji15)).f0), .int .i64 ((rd_T69 l1 (ji15)).f1), .int .i64 ((rd_T69 l1 (ji15)).f2), .int .i64 ((rd_T69 l1 (ji15)).f3), .int .i64 0]) ?_ 4 _ rfl; (with_reducible repeat (first | refine blk_drewN ?_ _ | refine blk_drew ?_ | refine blk_alloc ?_ _)); refine blk_put (cs := #[.string ((rd_T69 l1 (ji15)).f0), .int .i64 ((rd_T69 l1 (ji15)).f1), .int .i64 ((rd_T69 l1 (ji15)).f2), .int .i64 0, .int .i64 0]) ?_ 3 _ rfl; (with_reducible repeat (first | refine blk_drewN ?_ _ | refine blk_drew ?_ | refine blk_alloc ?_ _)); refine blk_put (cs := #[.string ((rd_T69 l1 (ji15)).f0), .int .i64 ((rd_T69 l1 (ji15)).f1), .int .i64 0, .int .i64 0, .int .i64 0]) ?_ 2 _ rfl; (with_reducible repeat (first | refine blk_drewN ?_ _ | refine blk_drew ?_ | refine blk_alloc ?_ _)); refine blk_put (cs := #[.string ((rd_T69 l1 (ji15)).f0), .int .i64 0, .int .i64 0, .int .i64 0, .int .i64 0]) ?_ 1 _ rfl; (with_reducible repeat (first | refine blk_drewN ?_ _ | refine blk_drew ?_ | refine blk_alloc ?_ _)); refine blk_put (cs := #[.string (⟨#[]⟩ : ByteArray), .int .i64 0, .int .i64 0, .int .i64 0, .int .i64 0]) ?_ 0 _ rfl; (with_reducible repeat (first | refine blk_drewN ?_ _ | refine blk_drew ?_ | refine blk_alloc ?_ _)); exact BK247.out⟩, ⟨bel2 HB GE244 GE247⟩⟩
          case rest =>
           clear HC18
           try clear c1
           try clear c2
           try clear p2
           try clear q2
           try clear hx2
           try clear c6
           try clear c6b0
           try clear p6
           try clear c7
           try clear c7b0
           try clear c9
           try clear c9b0
           try clear c10
           try clear c10b0
           try clear c11
           try clear c11b0
           try clear c13
           try clear c13b0
           try clear c14
           try clear c14b0
           try clear c16
           try clear c16b0
           try clear c17
           try clear c17b0
           try clear c24
           try clear p24
           try clear q24
           try clear hx24
           try clear c27
           try clear c27b0
           try clear c28
           try clear hcz22_0
           try clear hcz22_1
           try clear hcz22_2
           try clear hcz22_3
           try clear hcz22_4
           try clear hcz25_0
           try clear hcz25_1
           try clear hcz25_2
           try clear hcz25_3
           try clear hcz25_4
           try clear hcz26_0
           try clear hcz26_1
           try clear hcz26_2
           try clear hcz26_3
           try clear hcz26_4
           try clear hfz22_0
           try clear hfz22_1
           try clear hfz22_2
           try clear hfz22_3
           try clear hfz22_4
           try clear hfz25_0
           try clear hfz25_1
           try clear hfz25_2
           try clear hfz25_3
           try clear hfz25_4
           try clear hfz26_0
           try clear hfz26_1
           try clear hfz26_2
           try clear hfz26_3
           try clear hfz26_4
           try clear hx242_0
           try clear hx243_0
           try clear hx243_1
           try clear hx243_2
           try clear hx243_3
           try clear hx243_4
           try clear hx245_0
           try clear hx246_0
           try clear hx246_1
           try clear hx246_2
           try clear hx246_3
           try clear hx246_4
           try clear p242
           try clear p243
           try clear p245
           try clear p246
           try clear q242
           try clear q243
           try clear q245
           try clear q246
           obtain ⟨kq, x11_17, HA, HJ17, HO_11, BK244, BK247, HB⟩ := hcut
           cases kq with
           | zero => exact absurd HA.out (by simp [impl_brokenRules.j0])
           | succ kj17 =>
            have H := HA.out
            clear HA
            simp only [impl_brokenRules.j0] at H
            have HC30 := Aside0.mk H
            clear H
            have hnb31 := NB244_247.out
            have hnc31 := NB247_244.out
            have hcz32_0 : wc.cell? ⟨gb244, 0, none⟩ = some (.string ((rd_T69 l1 (ji8)).f0)) := (blk_cell BK244.out 0).trans rfl
            have hcz32_1 : wc.cell? ⟨gb244, 1, none⟩ = some (.int .i64 ((rd_T69 l1 (ji8)).f1)) := (blk_cell BK244.out 1).trans rfl
            have hcz32_2 : wc.cell? ⟨gb244, 2, none⟩ = some (.int .i64 ((rd_T69 l1 (ji8)).f2)) := (blk_cell BK244.out 2).trans rfl
            have hcz32_3 : wc.cell? ⟨gb244, 3, none⟩ = some (.int .i64 ((rd_T69 l1 (ji8)).f3)) := (blk_cell BK244.out 3).trans rfl
            have hcz32_4 : wc.cell? ⟨gb244, 4, none⟩ = some (.int .i64 ((rd_T69 l1 (ji8)).f4)) := (blk_cell BK244.out 4).trans rfl
            have hfz32_0 := blk_frozen BK244.out 0
            have hfz32_1 := blk_frozen BK244.out 1
            have hfz32_2 := blk_frozen BK244.out 2
            have hfz32_3 := blk_frozen BK244.out 3
            have hfz32_4 := blk_frozen BK244.out 4
            have hcz33_0 : wc.cell? ⟨gb247, 0, none⟩ = some (.string ((rd_T69 l1 (ji15)).f0)) := (blk_cell BK247.out 0).trans rfl
            have hcz33_1 : wc.cell? ⟨gb247, 1, none⟩ = some (.int .i64 ((rd_T69 l1 (ji15)).f1)) := (blk_cell BK247.out 1).trans rfl
            have hcz33_2 : wc.cell? ⟨gb247, 2, none⟩ = some (.int .i64 ((rd_T69 l1 (ji15)).f2)) := (blk_cell BK247.out 2).trans rfl
            have hcz33_3 : wc.cell? ⟨gb247, 3, none⟩ = some (.int .i64 ((rd_T69 l1 (ji15)).f3)) := (blk_cell BK247.out 3).trans rfl
            have hcz33_4 : wc.cell? ⟨gb247, 4, none⟩ = some (.int .i64 ((rd_T69 l1 (ji15)).f4)) := (blk_cell BK247.out 4).trans rfl
            have hfz33_0 := blk_frozen BK247.out 0
            have hfz33_1 := blk_frozen BK247.out 1
            have hfz33_2 := blk_frozen BK247.out 2
            have hfz33_3 := blk_frozen BK247.out 3
            have hfz33_4 := blk_frozen BK247.out 4
            go_upto_if 46 with (fail)
            go_cut [11] (fun v11 wc => ∃ (kq : Nat) (x11_29 : List Int), Aside0 (impl_brokenRules.j1 kq a2 a3 x11_29 ((rd_T69 l1 (ji8)).f0) ((rd_T69 l1 (ji8)).f1) ((rd_T69 l1 (ji8)).f2) ((rd_T69 l1 (ji8)).f3) ((rd_T69 l1 (ji8)).f4) = some r) ∧ Aside0 (kq ≤ kj17) ∧ Aside0 (Kd.R (Kd.int .i64) 3 wc w.heap.size (fun _ => True) v11 x11_29) ∧ Aside0 (wc.heap[gb244]? = some (.cells #[.string ((rd_T69 l1 (ji8)).f0), .int .i64 ((rd_T69 l1 (ji8)).f1), .int .i64 ((rd_T69 l1 (ji8)).f2), .int .i64 ((rd_T69 l1 (ji8)).f3), .int .i64 ((rd_T69 l1 (ji8)).f4)] 69 (0, 0))) ∧ Aside0 (wc.heap[gb247]? = some (.cells #[.string ((rd_T69 l1 (ji15)).f0), .int .i64 ((rd_T69 l1 (ji15)).f1), .int .i64 ((rd_T69 l1 (ji15)).f2), .int .i64 ((rd_T69 l1 (ji15)).f3), .int .i64 ((rd_T69 l1 (ji15)).f4)] 69 (0, 0))) ∧ Aside0 (Below w.heap.size w wc))
            case first =>
             have H := HC30.out
             clear HC30
             by_cases c34 : ((rd_T69 l1 (ji8)).f1) = ((rd_T69 l1 (ji15)).f1)
             ·rw [if_pos c34] at H
              have c34b0 : (((rd_T69 l1 (ji8)).f1) == ((rd_T69 l1 (ji15)).f1)) = true := beq_iff_eq.mpr c34
              have c34b1 : (((rd_T69 l1 (ji8)).f1) != ((rd_T69 l1 (ji15)).f1)) = false := bne_eq_false_iff_eq.mpr c34
              clear c34
              (first | rw [c34b0] | (simp only [i64_w, i32_w]; rw [c34b0]) | skip)
              have H' := Aside0.mk H
              clear H
              go_wp2
              go_meet
              case rel => exact ⟨_, (x11_17), H', ⟨by have := HJ17.out; first | omega | exact Nat.le_refl _⟩, ⟨rdl HO_11⟩, ⟨bkl BK244⟩, ⟨bkl BK247⟩, ⟨bel2 HB GE244 GE247⟩⟩
             ·rw [if_neg c34] at H
              have c34b0 : (((rd_T69 l1 (ji8)).f1) == ((rd_T69 l1 (ji15)).f1)) = false := beq_eq_false_iff_ne.mpr c34
              have c34b1 : (((rd_T69 l1 (ji8)).f1) != ((rd_T69 l1 (ji15)).f1)) = true := bne_iff_ne.mpr c34
              (first | rw [c34b0] | (simp only [i64_w, i32_w]; rw [c34b0]) | skip)
              by_cases c35 : x11_17.length < 17592186044416
              ·rw [if_pos c35] at H
               have LMc35 := Aside0.mk c35
               clear c35
               obtain ⟨y251, hy251⟩ : ∃ y_ : List Int, y_ = (x11_17 ++ [2]) := ⟨_, rfl⟩
               replace H : (impl_brokenRules.j1 kj17 a2 a3 y251 ((rd_T69 l1 (ji8)).f0) ((rd_T69 l1 (ji8)).f1) ((rd_T69 l1 (ji8)).f2) ((rd_T69 l1 (ji8)).f3) ((rd_T69 l1 (ji8)).f4)) = some r := by first | (rw [hy251]; with_reducible exact H) | (have H2_ := (Option.bind_some _ _).symm.trans H; rw [hy251]; with_reducible exact H2_) | (have H2_ := (Option.bind_some _ _).symm.trans H; with_reducible exact H2_) | with_reducible exact H | (rw [hy251]; exact H) | exact H
               have Ny251 := Aside0.mk hy251
               clear hy251
               have H' := Aside0.mk H
               clear H
               go_wp2_with (first | ((with_reducible refine gate_builtin (b := .append) (xs := #[.tmp 47, .tmp 48]) rfl ?_); at_builtin; refine Kd.R_append (Kd.int .i64) (w0 := w) w.heap.size rfl (.tmp 47) (.tmp 48) 39 3 (.int .i64 0) 8 rfl Try.underlying39 info3 rfl (by decide) (by omega) u11 x11_17 2 [.int .i64 2] (fun _ => True) (fun _ => False) rfl rfl ?aP (fun _ hk => hk.elim) ?aF ?aO ?aB ?aS ?aL ?_; (case aP => exact rfl); (case aB => exact (bel2 HB GE244 GE247)); (case aF => exact (fun _ _ => trivial)); (case aO => exact (rdl HO_11)); (case aS => exact (below_size (bel2 HB GE244 GE247))); (case aL => have := LMc35.out; omega); intro v252 w36 ho hb hg hat; rw [← Ny251.out] at ho; have n0_ := Aside0.mk (blk_grown (g := gb244) (o := .cells #[.string ((rd_T69 l1 (ji8)).f0), .int .i64 ((rd_T69 l1 (ji8)).f1), .int .i64 ((rd_T69 l1 (ji8)).f2), .int .i64 ((rd_T69 l1 (ji8)).f3), .int .i64 ((rd_T69 l1 (ji8)).f4)] 69 (0, 0)) (bkl BK244) hg (Kd.R_ne HO_11.out BK244.out (by decide))); have n1_ := Aside0.mk (blk_grown (g := gb247) (o := .cells #[.string ((rd_T69 l1 (ji15)).f0), .int .i64 ((rd_T69 l1 (ji15)).f1), .int .i64 ((rd_T69 l1 (ji15)).f2), .int .i64 ((rd_T69 l1 (ji15)).f3), .int .i64 ((rd_T69 l1 (ji15)).f4)] 69 (0, 0)) (bkl BK247) hg (Kd.R_ne HO_11.out BK247.out (by decide))); have n2_ := Aside0.mk (hb); have n3_ := Aside0.mk (ho); clear BK244; clear BK247; clear HB; clear HO_11; have BK244 := n0_; have BK247 := n1_; have HB := n2_; have HO253 := n3_; clear n0_ n1_ n2_ n3_; clear ho hb hg hat))
               go_meet
               case rel => exact ⟨_, (y251), H', ⟨by have := HJ17.out; first | omega | exact Nat.le_refl _⟩, ⟨rdl HO253⟩, ⟨bkl BK244⟩, ⟨bkl BK247⟩, ⟨bel2 HB GE244 GE247⟩⟩
              ·rw [if_neg c35] at H
               exact absurd H (by simp)
            case rest =>
             clear HC30
             try clear c1
             try clear c2
             try clear p2
             try clear q2
             try clear hx2
             try clear c3
             try clear c6
             try clear c6b0
             try clear p6
             try clear c7
             try clear c7b0
             try clear c9
             try clear c9b0
             try clear c10
             try clear c10b0
             try clear c11
             try clear c11b0
             try clear c13
             try clear c13b0
             try clear c14
             try clear c14b0
             try clear c16
             try clear c16b0
             try clear c17
             try clear c17b0
             try clear c24
             try clear p24
             try clear q24
             try clear hx24
             try clear c27
             try clear c27b0
             try clear c28
             try clear c31
             try clear c34
             try clear c34b0
             try clear c34b1
             try clear c35
             try clear hcz22_0
             try clear hcz22_1
             try clear hcz22_2
             try clear hcz22_3
             try clear hcz22_4
             try clear hcz25_0
             try clear hcz25_1
             try clear hcz25_2
             try clear hcz25_3
             try clear hcz25_4
             try clear hcz26_0
             try clear hcz26_1
             try clear hcz26_2
             try clear hcz26_3
             try clear hcz26_4
             try clear hcz32_0
             try clear hcz32_1
             try clear hcz32_2
             try clear hcz32_3
             try clear hcz32_4
             try clear hcz33_0
             try clear hcz33_1
             try clear hcz33_2
             try clear hcz33_3
             try clear hcz33_4
             try clear hfz22_0
             try clear hfz22_1
             try clear hfz22_2
             try clear hfz22_3
             try clear hfz22_4
             try clear hfz25_0
             try clear hfz25_1
             try clear hfz25_2
             try clear hfz25_3
             try clear hfz25_4
             try clear hfz26_0
             try clear hfz26_1
             try clear hfz26_2
             try clear hfz26_3
             try clear hfz26_4
             try clear hfz32_0
             try clear hfz32_1
             try clear hfz32_2
             try clear hfz32_3
             try clear hfz32_4
             try clear hfz33_0
             try clear hfz33_1
             try clear hfz33_2
             try clear hfz33_3
             try clear hfz33_4
             try clear hx242_0
             try clear hx243_0
             try clear hx243_1
             try clear hx243_2
             try clear hx243_3
             try clear hx243_4
             try clear hx245_0
             try clear hx246_0
             try clear hx246_1
             try clear hx246_2
             try clear hx246_3
             try clear hx246_4
             try clear p2
             try clear p24
             try clear p242
             try clear p243
             try clear p245
             try clear p246
             try clear p6
             try clear q2
             try clear q24
             try clear q242
             try clear q243
             try clear q245
             try clear q246
             obtain ⟨kq, x11_29, HA, HJ29, HO_11, BK244, BK247, HB⟩ := hcut
             cases kq with
             | zero => exact absurd HA.out (by simp [impl_brokenRules.j1])
             | succ kj29 =>
              have H := HA.out
              clear HA
              simp only [impl_brokenRules.j1] at H
              by_cases c37 : ((rd_T69 l1 (ji8)).f3) = 3
              ·rw [if_pos c37] at H
               have c37b0 : (((rd_T69 l1 (ji8)).f3) == 3) = true := beq_iff_eq.mpr c37
               have c37b1 : (((rd_T69 l1 (ji8)).f3) != 3) = false := bne_eq_false_iff_eq.mpr c37
               clear c37
               by_cases c38 : x11_29.length < 17592186044416
               ·rw [if_pos c38] at H
                have LMc38 := Aside0.mk c38
                clear c38
                obtain ⟨y254, hy254⟩ : ∃ y_ : List Int, y_ = (x11_29 ++ [3]) := ⟨_, rfl⟩
                replace H : (if ((rd_T69 l1 (ji8)).f3) = 2 then (if a3 ≥ a2 then (if y254.length < 17592186044416 then (some (y254 ++ [4])) else (none)) else (some y254)) else (some y254)) = some r := by first | (rw [hy254]; with_reducible exact H) | (have H2_ := (Option.bind_some _ _).symm.trans H; rw [hy254]; with_reducible exact H2_) | (have H2_ := (Option.bind_some _ _).symm.trans H; with_reducible exact H2_) | with_reducible exact H | (rw [hy254]; exact H) | exact H
                have Ny254 := Aside0.mk hy254
                clear hy254
                by_cases c39 : ((rd_T69 l1 (ji8)).f3) = 2
                ·rw [if_pos c39] at H
                 have c39b0 : (((rd_T69 l1 (ji8)).f3) == 2) = true := beq_iff_eq.mpr c39
                 have c39b1 : (((rd_T69 l1 (ji8)).f3) != 2) = false := bne_eq_false_iff_eq.mpr c39
                 clear c39
                 by_cases c40 : a3 ≥ a2
                 ·rw [if_pos c40] at H
                  have c40b0 : decide (a2 ≤ a3) = true := decide_eq_true c40
                  clear c40
                  by_cases c41 : y254.length < 17592186044416
                  ·rw [if_pos c41] at H
                   have LMc41 := Aside0.mk c41
                   clear c41
                   obtain ⟨y257, hy257⟩ : ∃ y_ : List Int, y_ = (y254 ++ [4]) := ⟨_, rfl⟩
                   replace H : (some y257) = some r := by first | (rw [hy257]; with_reducible exact H) | (have H2_ := (Option.bind_some _ _).symm.trans H; rw [hy257]; with_reducible exact H2_) | (have H2_ := (Option.bind_some _ _).symm.trans H; with_reducible exact H2_) | with_reducible exact H | (rw [hy257]; exact H) | exact H
                   have Ny257 := Aside0.mk hy257
                   clear hy257
                   obtain rfl := Option.some.inj H
                   have hnb42 := NB244_247.out
                   have hnc42 := NB247_244.out
                   have hcz43_0 : wc.cell? ⟨gb244, 0, none⟩ = some (.string ((rd_T69 l1 (ji8)).f0)) := (blk_cell BK244.out 0).trans rfl
                   have hcz43_1 : wc.cell? ⟨gb244, 1, none⟩ = some (.int .i64 ((rd_T69 l1 (ji8)).f1)) := (blk_cell BK244.out 1).trans rfl
                   have hcz43_2 : wc.cell? ⟨gb244, 2, none⟩ = some (.int .i64 ((rd_T69 l1 (ji8)).f2)) := (blk_cell BK244.out 2).trans rfl
                   have hcz43_3 : wc.cell? ⟨gb244, 3, none⟩ = some (.int .i64 ((rd_T69 l1 (ji8)).f3)) := (blk_cell BK244.out 3).trans rfl
                   have hcz43_4 : wc.cell? ⟨gb244, 4, none⟩ = some (.int .i64 ((rd_T69 l1 (ji8)).f4)) := (blk_cell BK244.out 4).trans rfl
                   have hfz43_0 := blk_frozen BK244.out 0
                   have hfz43_1 := blk_frozen BK244.out 1
                   have hfz43_2 := blk_frozen BK244.out 2
                   have hfz43_3 := blk_frozen BK244.out 3
                   have hfz43_4 := blk_frozen BK244.out 4
                   go_wp2_with (first | ((with_reducible refine gate_builtin (b := .append) (xs := #[.tmp 53, .tmp 54]) rfl ?_); at_builtin; refine Kd.R_append (Kd.int .i64) (w0 := w) w.heap.size rfl (.tmp 53) (.tmp 54) 39 3 (.int .i64 0) 8 rfl Try.underlying39 info3 rfl (by decide) (by omega) u11 x11_29 3 [.int .i64 3] (fun _ => True) (fun _ => False) rfl rfl ?aP (fun _ hk => hk.elim) ?aF ?aO ?aB ?aS ?aL ?_; (case aP => exact rfl); (case aB => exact (bel2 HB GE244 GE247)); (case aF => exact (fun _ _ => trivial)); (case aO => exact (rdl HO_11)); (case aS => exact (below_size (bel2 HB GE244 GE247))); (case aL => have := LMc38.out; omega); intro v255 w44 ho hb hg hat; rw [← Ny254.out] at ho; have n0_ := Aside0.mk (blk_grown (g := gb244) (o := .cells #[.string ((rd_T69 l1 (ji8)).f0), .int .i64 ((rd_T69 l1 (ji8)).f1), .int .i64 ((rd_T69 l1 (ji8)).f2), .int .i64 ((rd_T69 l1 (ji8)).f3), .int .i64 ((rd_T69 l1 (ji8)).f4)] 69 (0, 0)) (bkl BK244) hg (Kd.R_ne HO_11.out BK244.out (by decide))); have n1_ := Aside0.mk (blk_grown (g := gb247) (o := .cells #[.string ((rd_T69 l1 (ji15)).f0), .int .i64 ((rd_T69 l1 (ji15)).f1), .int .i64 ((rd_T69 l1 (ji15)).f2), .int .i64 ((rd_T69 l1 (ji15)).f3), .int .i64 ((rd_T69 l1 (ji15)).f4)] 69 (0, 0)) (bkl BK247) hg (Kd.R_ne HO_11.out BK247.out (by decide))); have n2_ := Aside0.mk (hb); have n3_ := Aside0.mk (ho); clear BK244; clear BK247; clear HB; clear HO_11; have BK244 := n0_; have BK247 := n1_; have HB := n2_; have HO256 := n3_; clear n0_ n1_ n2_ n3_; clear ho hb hg hat; have hcz45_0 : w44.cell? ⟨gb244, 0, none⟩ = some (.string ((rd_T69 l1 (ji8)).f0)) := (blk_cell BK244.out 0).trans rfl; have hcz45_1 : w44.cell? ⟨gb244, 1, none⟩ = some (.int .i64 ((rd_T69 l1 (ji8)).f1)) := (blk_cell BK244.out 1).trans rfl; have hcz45_2 : w44.cell? ⟨gb244, 2, none⟩ = some (.int .i64 ((rd_T69 l1 (ji8)).f2)) := (blk_cell BK244.out 2).trans rfl; have hcz45_3 : w44.cell? ⟨gb244, 3, none⟩ = some (.int .i64 ((rd_T69 l1 (ji8)).f3)) := (blk_cell BK244.out 3).trans rfl; have hcz45_4 : w44.cell? ⟨gb244, 4, none⟩ = some (.int .i64 ((rd_T69 l1 (ji8)).f4)) := (blk_cell BK244.out 4).trans rfl; have hfz45_0 := blk_frozen BK244.out 0; have hfz45_1 := blk_frozen BK244.out 1; have hfz45_2 := blk_frozen BK244.out 2; have hfz45_3 := blk_frozen BK244.out 3; have hfz45_4 := blk_frozen BK244.out 4) | ((with_reducible refine gate_builtin (b := .append) (xs := #[.tmp 64, .tmp 65]) rfl ?_); at_builtin; refine Kd.R_append (Kd.int .i64) (w0 := w) w.heap.size rfl (.tmp 64) (.tmp 65) 39 3 (.int .i64 0) 8 rfl Try.underlying39 info3 rfl (by decide) (by omega) v255 y254 4 [.int .i64 4] (fun _ => True) (fun _ => False) rfl rfl ?aP (fun _ hk => hk.elim) ?aF ?aO ?aB ?aS ?aL ?_; (case aP => exact rfl); (case aB => exact (bel2 HB GE244 GE247)); (case aF => exact (fun _ _ => trivial)); (case aO => exact (rdl HO256)); (case aS => exact (below_size (bel2 HB GE244 GE247))); (case aL => have := LMc41.out; omega); intro v258 w46 ho hb hg hat; rw [← Ny257.out] at ho; have n0_ := Aside0.mk (blk_grown (g := gb244) (o := .cells #[.string ((rd_T69 l1 (ji8)).f0), .int .i64 ((rd_T69 l1 (ji8)).f1), .int .i64 ((rd_T69 l1 (ji8)).f2), .int .i64 ((rd_T69 l1 (ji8)).f3), .int .i64 ((rd_T69 l1 (ji8)).f4)] 69 (0, 0)) (bkl BK244) hg (Kd.R_ne HO256.out BK244.out (by decide))); have n1_ := Aside0.mk (blk_grown (g := gb247) (o := .cells #[.string ((rd_T69 l1 (ji15)).f0), .int .i64 ((rd_T69 l1 (ji15)).f1), .int .i64 ((rd_T69 l1 (ji15)).f2), .int .i64 ((rd_T69 l1 (ji15)).f3), .int .i64 ((rd_T69 l1 (ji15)).f4)] 69 (0, 0)) (bkl BK247) hg (Kd.R_ne HO256.out BK247.out (by decide))); have n2_ := Aside0.mk (hb); have n3_ := Aside0.mk (ho); clear BK244; clear BK247; clear HB; clear HO256; have BK244 := n0_; have BK247 := n1_; have HB := n2_; have HO259 := n3_; clear n0_ n1_ n2_ n3_; clear ho hb hg hat))
                   go_ret
                   exact ⟨_, by first | rfl | (simp [errW_none, errW_some] <;> rfl) | (simp only [← hji8, ← hji12, ← hji15]; first | rfl | (simp [errW_none, errW_some] <;> rfl)) | (simp [*, errW_none, errW_some] <;> rfl), rdl HO259, bel2 HB GE244 GE247⟩
                  ·rw [if_neg c41] at H
                   exact absurd H (by simp)
                 ·rw [if_neg c40] at H
                  have c40b0 : decide (a2 ≤ a3) = false := decide_eq_false c40
                  clear c40
                  obtain rfl := Option.some.inj H
                  have hnb47 := NB244_247.out
                  have hnc47 := NB247_244.out
                  have hcz48_0 : wc.cell? ⟨gb244, 0, none⟩ = some (.string ((rd_T69 l1 (ji8)).f0)) := (blk_cell BK244.out 0).trans rfl
                  have hcz48_1 : wc.cell? ⟨gb244, 1, none⟩ = some (.int .i64 ((rd_T69 l1 (ji8)).f1)) := (blk_cell BK244.out 1).trans rfl
                  have hcz48_2 : wc.cell? ⟨gb244, 2, none⟩ = some (.int .i64 ((rd_T69 l1 (ji8)).f2)) := (blk_cell BK244.out 2).trans rfl
                  have hcz48_3 : wc.cell? ⟨gb244, 3, none⟩ = some (.int .i64 ((rd_T69 l1 (ji8)).f3)) := (blk_cell BK244.out 3).trans rfl
                  have hcz48_4 : wc.cell? ⟨gb244, 4, none⟩ = some (.int .i64 ((rd_T69 l1 (ji8)).f4)) := (blk_cell BK244.out 4).trans rfl
                  have hfz48_0 := blk_frozen BK244.out 0
                  have hfz48_1 := blk_frozen BK244.out 1
                  have hfz48_2 := blk_frozen BK244.out 2
                  have hfz48_3 := blk_frozen BK244.out 3
                  have hfz48_4 := blk_frozen BK244.out 4
                  go_wp2_with (first | ((with_reducible refine gate_builtin (b := .append) (xs := #[.tmp 53, .tmp 54]) rfl ?_); at_builtin; refine Kd.R_append (Kd.int .i64) (w0 := w) w.heap.size rfl (.tmp 53) (.tmp 54) 39 3 (.int .i64 0) 8 rfl Try.underlying39 info3 rfl (by decide) (by omega) u11 x11_29 3 [.int .i64 3] (fun _ => True) (fun _ => False) rfl rfl ?aP (fun _ hk => hk.elim) ?aF ?aO ?aB ?aS ?aL ?_; (case aP => exact rfl); (case aB => exact (bel2 HB GE244 GE247)); (case aF => exact (fun _ _ => trivial)); (case aO => exact (rdl HO_11)); (case aS => exact (below_size (bel2 HB GE244 GE247))); (case aL => have := LMc38.out; omega); intro v255 w49 ho hb hg hat; rw [← Ny254.out] at ho; have n0_ := Aside0.mk (blk_grown (g := gb244) (o := .cells #[.string ((rd_T69 l1 (ji8)).f0), .int .i64 ((rd_T69 l1 (ji8)).f1), .int .i64 ((rd_T69 l1 (ji8)).f2), .int .i64 ((rd_T69 l1 (ji8)).f3), .int .i64 ((rd_T69 l1 (ji8)).f4)] 69 (0, 0)) (bkl BK244) hg (Kd.R_ne HO_11.out BK244.out (by decide))); have n1_ := Aside0.mk (blk_grown (g := gb247) (o := .cells #[.string ((rd_T69 l1 (ji15)).f0), .int .i64 ((rd_T69 l1 (ji15)).f1), .int .i64 ((rd_T69 l1 (ji15)).f2), .int .i64 ((rd_T69 l1 (ji15)).f3), .int .i64 ((rd_T69 l1 (ji15)).f4)] 69 (0, 0)) (bkl BK247) hg (Kd.R_ne HO_11.out BK247.out (by decide))); have n2_ := Aside0.mk (hb); have n3_ := Aside0.mk (ho); clear BK244; clear BK247; clear HB; clear HO_11; have BK244 := n0_; have BK247 := n1_; have HB := n2_; have HO256 := n3_; clear n0_ n1_ n2_ n3_; clear ho hb hg hat; have hcz50_0 : w49.cell? ⟨gb244, 0, none⟩ = some (.string ((rd_T69 l1 (ji8)).f0)) := (blk_cell BK244.out 0).trans rfl; have hcz50_1 : w49.cell? ⟨gb244, 1, none⟩ = some (.int .i64 ((rd_T69 l1 (ji8)).f1)) := (blk_cell BK244.out 1).trans rfl; have hcz50_2 : w49.cell? ⟨gb244, 2, none⟩ = some (.int .i64 ((rd_T69 l1 (ji8)).f2)) := (blk_cell BK244.out 2).trans rfl; have hcz50_3 : w49.cell? ⟨gb244, 3, none⟩ = some (.int .i64 ((rd_T69 l1 (ji8)).f3)) := (blk_cell BK244.out 3).trans rfl; have hcz50_4 : w49.cell? ⟨gb244, 4, none⟩ = some (.int .i64 ((rd_T69 l1 (ji8)).f4)) := (blk_cell BK244.out 4).trans rfl; have hfz50_0 := blk_frozen BK244.out 0; have hfz50_1 := blk_frozen BK244.out 1; have hfz50_2 := blk_frozen BK244.out 2; have hfz50_3 := blk_frozen BK244.out 3; have hfz50_4 := blk_frozen BK244.out 4))
                  go_ret
                  exact ⟨_, by first | rfl | (simp [errW_none, errW_some] <;> rfl) | (simp only [← hji8, ← hji12, ← hji15]; first | rfl | (simp [errW_none, errW_some] <;> rfl)) | (simp [*, errW_none, errW_some] <;> rfl), rdl HO256, bel2 HB GE244 GE247⟩
                ·rw [if_neg c39] at H
                 have c39b0 : (((rd_T69 l1 (ji8)).f3) == 2) = false := beq_eq_false_iff_ne.mpr c39
                 have c39b1 : (((rd_T69 l1 (ji8)).f3) != 2) = true := bne_iff_ne.mpr c39
                 obtain rfl := Option.some.inj H
                 have hnb51 := NB244_247.out
                 have hnc51 := NB247_244.out
                 have hcz52_0 : wc.cell? ⟨gb244, 0, none⟩ = some (.string ((rd_T69 l1 (ji8)).f0)) := (blk_cell BK244.out 0).trans rfl
                 have hcz52_1 : wc.cell? ⟨gb244, 1, none⟩ = some (.int .i64 ((rd_T69 l1 (ji8)).f1)) := (blk_cell BK244.out 1).trans rfl
                 have hcz52_2 : wc.cell? ⟨gb244, 2, none⟩ = some (.int .i64 ((rd_T69 l1 (ji8)).f2)) := (blk_cell BK244.out 2).trans rfl
                 have hcz52_3 : wc.cell? ⟨gb244, 3, none⟩ = some (.int .i64 ((rd_T69 l1 (ji8)).f3)) := (blk_cell BK244.out 3).trans rfl
                 have hcz52_4 : wc.cell? ⟨gb244, 4, none⟩ = some (.int .i64 ((rd_T69 l1 (ji8)).f4)) := (blk_cell BK244.out 4).trans rfl
                 have hfz52_0 := blk_frozen BK244.out 0
                 have hfz52_1 := blk_frozen BK244.out 1
                 have hfz52_2 := blk_frozen BK244.out 2
                 have hfz52_3 := blk_frozen BK244.out 3
                 have hfz52_4 := blk_frozen BK244.out 4
                 go_wp2_with (first | ((with_reducible refine gate_builtin (b := .append) (xs := #[.tmp 53, .tmp 54]) rfl ?_); at_builtin; refine Kd.R_append (Kd.int .i64) (w0 := w) w.heap.size rfl (.tmp 53) (.tmp 54) 39 3 (.int .i64 0) 8 rfl Try.underlying39 info3 rfl (by decide) (by omega) u11 x11_29 3 [.int .i64 3] (fun _ => True) (fun _ => False) rfl rfl ?aP (fun _ hk => hk.elim) ?aF ?aO ?aB ?aS ?aL ?_; (case aP => exact rfl); (case aB => exact (bel2 HB GE244 GE247)); (case aF => exact (fun _ _ => trivial)); (case aO => exact (rdl HO_11)); (case aS => exact (below_size (bel2 HB GE244 GE247))); (case aL => have := LMc38.out; omega); intro v255 w53 ho hb hg hat; rw [← Ny254.out] at ho; have n0_ := Aside0.mk (blk_grown (g := gb244) (o := .cells #[.string ((rd_T69 l1 (ji8)).f0), .int .i64 ((rd_T69 l1 (ji8)).f1), .int .i64 ((rd_T69 l1 (ji8)).f2), .int .i64 ((rd_T69 l1 (ji8)).f3), .int .i64 ((rd_T69 l1 (ji8)).f4)] 69 (0, 0)) (bkl BK244) hg (Kd.R_ne HO_11.out BK244.out (by decide))); have n1_ := Aside0.mk (blk_grown (g := gb247) (o := .cells #[.string ((rd_T69 l1 (ji15)).f0), .int .i64 ((rd_T69 l1 (ji15)).f1), .int .i64 ((rd_T69 l1 (ji15)).f2), .int .i64 ((rd_T69 l1 (ji15)).f3), .int .i64 ((rd_T69 l1 (ji15)).f4)] 69 (0, 0)) (bkl BK247) hg (Kd.R_ne HO_11.out BK247.out (by decide))); have n2_ := Aside0.mk (hb); have n3_ := Aside0.mk (ho); clear BK244; clear BK247; clear HB; clear HO_11; have BK244 := n0_; have BK247 := n1_; have HB := n2_; have HO256 := n3_; clear n0_ n1_ n2_ n3_; clear ho hb hg hat; have hcz54_0 : w53.cell? ⟨gb244, 0, none⟩ = some (.string ((rd_T69 l1 (ji8)).f0)) := (blk_cell BK244.out 0).trans rfl; have hcz54_1 : w53.cell? ⟨gb244, 1, none⟩ = some (.int .i64 ((rd_T69 l1 (ji8)).f1)) := (blk_cell BK244.out 1).trans rfl; have hcz54_2 : w53.cell? ⟨gb244, 2, none⟩ = some (.int .i64 ((rd_T69 l1 (ji8)).f2)) := (blk_cell BK244.out 2).trans rfl; have hcz54_3 : w53.cell? ⟨gb244, 3, none⟩ = some (.int .i64 ((rd_T69 l1 (ji8)).f3)) := (blk_cell BK244.out 3).trans rfl; have hcz54_4 : w53.cell? ⟨gb244, 4, none⟩ = some (.int .i64 ((rd_T69 l1 (ji8)).f4)) := (blk_cell BK244.out 4).trans rfl; have hfz54_0 := blk_frozen BK244.out 0; have hfz54_1 := blk_frozen BK244.out 1; have hfz54_2 := blk_frozen BK244.out 2; have hfz54_3 := blk_frozen BK244.out 3; have hfz54_4 := blk_frozen BK244.out 4))
                 go_ret
                 exact ⟨_, by first | rfl | (simp [errW_none, errW_some] <;> rfl) | (simp only [← hji8, ← hji12, ← hji15]; first | rfl | (simp [errW_none, errW_some] <;> rfl)) | (simp [*, errW_none, errW_some] <;> rfl), rdl HO256, bel2 HB GE244 GE247⟩
               ·rw [if_neg c38] at H
                exact absurd H (by simp)
              ·rw [if_neg c37] at H
               have c37b0 : (((rd_T69 l1 (ji8)).f3) == 3) = false := beq_eq_false_iff_ne.mpr c37
               have c37b1 : (((rd_T69 l1 (ji8)).f3) != 3) = true := bne_iff_ne.mpr c37
               by_cases c55 : ((rd_T69 l1 (ji8)).f3) = 2
               ·rw [if_pos c55] at H
                have c55b0 : (((rd_T69 l1 (ji8)).f3) == 2) = true := beq_iff_eq.mpr c55
                have c55b1 : (((rd_T69 l1 (ji8)).f3) != 2) = false := bne_eq_false_iff_eq.mpr c55
                clear c55
                by_cases c56 : a3 ≥ a2
                ·rw [if_pos c56] at H
                 have c56b0 : decide (a2 ≤ a3) = true := decide_eq_true c56
                 clear c56
                 by_cases c57 : x11_29.length < 17592186044416
                 ·rw [if_pos c57] at H
                  have LMc57 := Aside0.mk c57
                  clear c57
                  obtain ⟨y260, hy260⟩ : ∃ y_ : List Int, y_ = (x11_29 ++ [4]) := ⟨_, rfl⟩
                  replace H : (some y260) = some r := by first | (rw [hy260]; with_reducible exact H) | (have H2_ := (Option.bind_some _ _).symm.trans H; rw [hy260]; with_reducible exact H2_) | (have H2_ := (Option.bind_some _ _).symm.trans H; with_reducible exact H2_) | with_reducible exact H | (rw [hy260]; exact H) | exact H
                  have Ny260 := Aside0.mk hy260
                  clear hy260
                  obtain rfl := Option.some.inj H
                  have hnb58 := NB244_247.out
                  have hnc58 := NB247_244.out
                  have hcz59_0 : wc.cell? ⟨gb244, 0, none⟩ = some (.string ((rd_T69 l1 (ji8)).f0)) := (blk_cell BK244.out 0).trans rfl
                  have hcz59_1 : wc.cell? ⟨gb244, 1, none⟩ = some (.int .i64 ((rd_T69 l1 (ji8)).f1)) := (blk_cell BK244.out 1).trans rfl
                  have hcz59_2 : wc.cell? ⟨gb244, 2, none⟩ = some (.int .i64 ((rd_T69 l1 (ji8)).f2)) := (blk_cell BK244.out 2).trans rfl
                  have hcz59_3 : wc.cell? ⟨gb244, 3, none⟩ = some (.int .i64 ((rd_T69 l1 (ji8)).f3)) := (blk_cell BK244.out 3).trans rfl
                  have hcz59_4 : wc.cell? ⟨gb244, 4, none⟩ = some (.int .i64 ((rd_T69 l1 (ji8)).f4)) := (blk_cell BK244.out 4).trans rfl
                  have hfz59_0 := blk_frozen BK244.out 0
                  have hfz59_1 := blk_frozen BK244.out 1
                  have hfz59_2 := blk_frozen BK244.out 2
                  have hfz59_3 := blk_frozen BK244.out 3
                  have hfz59_4 := blk_frozen BK244.out 4
                  go_wp2_with (first | ((with_reducible refine gate_builtin (b := .append) (xs := #[.tmp 64, .tmp 65]) rfl ?_); at_builtin; refine Kd.R_append (Kd.int .i64) (w0 := w) w.heap.size rfl (.tmp 64) (.tmp 65) 39 3 (.int .i64 0) 8 rfl Try.underlying39 info3 rfl (by decide) (by omega) u11 x11_29 4 [.int .i64 4] (fun _ => True) (fun _ => False) rfl rfl ?aP (fun _ hk => hk.elim) ?aF ?aO ?aB ?aS ?aL ?_; (case aP => exact rfl); (case aB => exact (bel2 HB GE244 GE247)); (case aF => exact (fun _ _ => trivial)); (case aO => exact (rdl HO_11)); (case aS => exact (below_size (bel2 HB GE244 GE247))); (case aL => have := LMc57.out; omega); intro v261 w60 ho hb hg hat; rw [← Ny260.out] at ho; have n0_ := Aside0.mk (blk_grown (g := gb244) (o := .cells #[.string ((rd_T69 l1 (ji8)).f0), .int .i64 ((rd_T69 l1 (ji8)).f1), .int .i64 ((rd_T69 l1 (ji8)).f2), .int .i64 ((rd_T69 l1 (ji8)).f3), .int .i64 ((rd_T69 l1 (ji8)).f4)] 69 (0, 0)) (bkl BK244) hg (Kd.R_ne HO_11.out BK244.out (by decide))); have n1_ := Aside0.mk (blk_grown (g := gb247) (o := .cells #[.string ((rd_T69 l1 (ji15)).f0), .int .i64 ((rd_T69 l1 (ji15)).f1), .int .i64 ((rd_T69 l1 (ji15)).f2), .int .i64 ((rd_T69 l1 (ji15)).f3), .int .i64 ((rd_T69 l1 (ji15)).f4)] 69 (0, 0)) (bkl BK247) hg (Kd.R_ne HO_11.out BK247.out (by decide))); have n2_ := Aside0.mk (hb); have n3_ := Aside0.mk (ho); clear BK244; clear BK247; clear HB; clear HO_11; have BK244 := n0_; have BK247 := n1_; have HB := n2_; have HO262 := n3_; clear n0_ n1_ n2_ n3_; clear ho hb hg hat))
                  go_ret
                  exact ⟨_, by first | rfl | (simp [errW_none, errW_some] <;> rfl) | (simp only [← hji8, ← hji12, ← hji15]; first | rfl | (simp [errW_none, errW_some] <;> rfl)) | (simp [*, errW_none, errW_some] <;> rfl), rdl HO262, bel2 HB GE244 GE247⟩
                 ·rw [if_neg c57] at H
                  exact absurd H (by simp)
                ·rw [if_neg c56] at H
                 have c56b0 : decide (a2 ≤ a3) = false := decide_eq_false c56
                 clear c56
                 obtain rfl := Option.some.inj H
                 have hnb61 := NB244_247.out
                 have hnc61 := NB247_244.out
                 have hcz62_0 : wc.cell? ⟨gb244, 0, none⟩ = some (.string ((rd_T69 l1 (ji8)).f0)) := (blk_cell BK244.out 0).trans rfl
                 have hcz62_1 : wc.cell? ⟨gb244, 1, none⟩ = some (.int .i64 ((rd_T69 l1 (ji8)).f1)) := (blk_cell BK244.out 1).trans rfl
                 have hcz62_2 : wc.cell? ⟨gb244, 2, none⟩ = some (.int .i64 ((rd_T69 l1 (ji8)).f2)) := (blk_cell BK244.out 2).trans rfl
                 have hcz62_3 : wc.cell? ⟨gb244, 3, none⟩ = some (.int .i64 ((rd_T69 l1 (ji8)).f3)) := (blk_cell BK244.out 3).trans rfl
                 have hcz62_4 : wc.cell? ⟨gb244, 4, none⟩ = some (.int .i64 ((rd_T69 l1 (ji8)).f4)) := (blk_cell BK244.out 4).trans rfl
                 have hfz62_0 := blk_frozen BK244.out 0
                 have hfz62_1 := blk_frozen BK244.out 1
                 have hfz62_2 := blk_frozen BK244.out 2
                 have hfz62_3 := blk_frozen BK244.out 3
                 have hfz62_4 := blk_frozen BK244.out 4
                 go_wp2
                 go_ret
                 exact ⟨_, by first | rfl | (simp [errW_none, errW_some] <;> rfl) | (simp only [← hji8, ← hji12, ← hji15]; first | rfl | (simp [errW_none, errW_some] <;> rfl)) | (simp [*, errW_none, errW_some] <;> rfl), rdl HO_11, bel2 HB GE244 GE247⟩
               ·rw [if_neg c55] at H
                have c55b0 : (((rd_T69 l1 (ji8)).f3) == 2) = false := beq_eq_false_iff_ne.mpr c55
                have c55b1 : (((rd_T69 l1 (ji8)).f3) != 2) = true := bne_iff_ne.mpr c55
                obtain rfl := Option.some.inj H
                have hnb63 := NB244_247.out
                have hnc63 := NB247_244.out
                have hcz64_0 : wc.cell? ⟨gb244, 0, none⟩ = some (.string ((rd_T69 l1 (ji8)).f0)) := (blk_cell BK244.out 0).trans rfl
                have hcz64_1 : wc.cell? ⟨gb244, 1, none⟩ = some (.int .i64 ((rd_T69 l1 (ji8)).f1)) := (blk_cell BK244.out 1).trans rfl
                have hcz64_2 : wc.cell? ⟨gb244, 2, none⟩ = some (.int .i64 ((rd_T69 l1 (ji8)).f2)) := (blk_cell BK244.out 2).trans rfl
                have hcz64_3 : wc.cell? ⟨gb244, 3, none⟩ = some (.int .i64 ((rd_T69 l1 (ji8)).f3)) := (blk_cell BK244.out 3).trans rfl
                have hcz64_4 : wc.cell? ⟨gb244, 4, none⟩ = some (.int .i64 ((rd_T69 l1 (ji8)).f4)) := (blk_cell BK244.out 4).trans rfl
                have hfz64_0 := blk_frozen BK244.out 0
                have hfz64_1 := blk_frozen BK244.out 1
                have hfz64_2 := blk_frozen BK244.out 2
                have hfz64_3 := blk_frozen BK244.out 3
                have hfz64_4 := blk_frozen BK244.out 4
                go_wp2
                go_ret
                exact ⟨_, by first | rfl | (simp [errW_none, errW_some] <;> rfl) | (simp only [← hji8, ← hji12, ← hji15]; first | rfl | (simp [errW_none, errW_some] <;> rfl)) | (simp [*, errW_none, errW_some] <;> rfl), rdl HO_11, bel2 HB GE244 GE247⟩
         ·rw [if_neg c17] at H
          exact absurd H (by simp)
        ·rw [if_neg c16] at H
         exact absurd H (by simp)
       ·rw [if_neg c14] at H
        exact absurd H (by simp)
      ·rw [if_neg c13] at H
       exact absurd H (by simp)
     ·rw [if_neg c11] at H
      have c11b0 : decide (0 < a4) = false := decide_eq_false c11
      clear c11
      by_cases c65 : ((rd_T69 l1 (ji8)).f3) = 2
      ·rw [if_pos c65] at H
       have c65b0 : (((rd_T69 l1 (ji8)).f3) == 2) = true := beq_iff_eq.mpr c65
       have c65b1 : (((rd_T69 l1 (ji8)).f3) != 2) = false := bne_eq_false_iff_eq.mpr c65
       clear c65
       by_cases c66 : a3 ≥ a2
       ·rw [if_pos c66] at H
        have c66b0 : decide (a2 ≤ a3) = true := decide_eq_true c66
        clear c66
        by_cases c67 : y239.length < 17592186044416
        ·rw [if_pos c67] at H
         have LMc67 := Aside0.mk c67
         clear c67
         obtain ⟨y263, hy263⟩ : ∃ y_ : List Int, y_ = (y239 ++ [4]) := ⟨_, rfl⟩
         replace H : (some y263) = some r := by first | (rw [hy263]; with_reducible exact H) | (have H2_ := (Option.bind_some _ _).symm.trans H; rw [hy263]; with_reducible exact H2_) | (have H2_ := (Option.bind_some _ _).symm.trans H; with_reducible exact H2_) | with_reducible exact H | (rw [hy263]; exact H) | exact H
         have Ny263 := Aside0.mk hy263
         clear hy263
         obtain rfl := Option.some.inj H
         go_enter Try.func62, Try.ntmps62
         go_wp2_with (first | ((with_reducible refine gate_dst (N := 14) rfl ?_); refine Kd.R_lit (Kd.int .i64) _ 3 ?hg (N := 14) ?hd (xs := ([] : List Int)) (inner := []) (ok := fun _ => True) (okp := fun _ => True) ?hr ?hp (fun _ hk => hk) trivial (Below.refl _ _) (Nat.le_refl _) (by simp) ?_; (case hd => rfl); (case hg => rfl); (case hr => first | (go_simp; done) | (go_simp; rfl)); (case hp => exact (Reps.none _ _)); intro v240 w68 ho69 hb hg_ hnew_; clear hg_ hnew_; (first | rw [← Ny239.out] at ho69 | (simp only [Int.reduceToNat] at ho69; rw [← Ny239.out] at ho69)); have n0_ := Aside0.mk (Kd.R_lower ho69 (below_size (bel HB))); have n1_ := Aside0.mk (below_step (bel HB) hb); clear HB; have HO241 := n0_; have HB := n1_; clear n0_ n1_; clear hb ho69; have p242 : 0 ≤ (a4 : Int) := oda; have q242 : a4 < (l0.length : Int) := oda; obtain ⟨ad242, e242, hx242_0⟩ := Kd.at_int HR0.out a4 p242 q242; cases e242; replace hx242_0 := cel HB hx242_0; replace p242 := eq_true p242; replace q242 := eq_true q242; have p243 : 0 ≤ ((ji8) : Int) := oda; have q243 : (ji8) < (l1.length : Int) := oda; obtain ⟨ad243, e243, hx243_0, hx243_1, hx243_2, hx243_3, hx243_4⟩ := at_T69 HR1.out (ji8) p243 q243; cases e243; replace hx243_0 := cel HB hx243_0; replace hx243_1 := cel HB hx243_1; replace hx243_2 := cel HB hx243_2; replace hx243_3 := cel HB hx243_3; replace hx243_4 := cel HB hx243_4; replace p243 := eq_true p243; replace q243 := eq_true q243) | ((with_reducible refine gate_dst (N := 12) rfl ?_); refine box_event ?hg (N := 12) ?hd (cs := #[.string (⟨#[]⟩ : ByteArray), .int .i64 0, .int .i64 0, .int .i64 0, .int .i64 0]) (t := 69) ?hr ?_; (case hd => rfl); (case hg => rfl); (case hr => first | (go_simp; done) | (go_simp; rfl)); intro gb244 hg w70 hbox hb; have n0_ := Aside0.mk (Kd.R_below (rdl HO241) hb); have n1_ := Aside0.mk (below_step (bel HB) hb); have n2_ := Aside0.mk (hbox); have n3_ := Aside0.mk ((by rw [hg]; exact (below_size (bel HB)) : w.heap.size ≤ gb244)); have n4_ := Aside0.mk ((by rw [hg]; exact (below_size (bel HB)) : w.heap.size ≤ gb244)); clear HO241; clear HB; have HO241 := n0_; have HB := n1_; have BK244 := n2_; have GW244 := n3_; have GE244 := n4_; clear n0_ n1_ n2_ n3_ n4_; clear hb hbox hg; have hcz71_0 : w70.cell? ⟨gb244, 0, none⟩ = some (.string (⟨#[]⟩ : ByteArray)) := (blk_cell BK244.out 0).trans rfl; have hcz71_1 : w70.cell? ⟨gb244, 1, none⟩ = some (.int .i64 0) := (blk_cell BK244.out 1).trans rfl; have hcz71_2 : w70.cell? ⟨gb244, 2, none⟩ = some (.int .i64 0) := (blk_cell BK244.out 2).trans rfl; have hcz71_3 : w70.cell? ⟨gb244, 3, none⟩ = some (.int .i64 0) := (blk_cell BK244.out 3).trans rfl; have hcz71_4 : w70.cell? ⟨gb244, 4, none⟩ = some (.int .i64 0) := (blk_cell BK244.out 4).trans rfl; have hfz71_0 := blk_frozen BK244.out 0; have hfz71_1 := blk_frozen BK244.out 1; have hfz71_2 := blk_frozen BK244.out 2; have hfz71_3 := blk_frozen BK244.out 3; have hfz71_4 := blk_frozen BK244.out 4) | ((with_reducible refine gate_builtin (b := .append) (xs := #[.tmp 64, .tmp 65]) rfl ?_); at_builtin; refine Kd.R_append (Kd.int .i64) (w0 := w) w.heap.size rfl (.tmp 64) (.tmp 65) 39 3 (.int .i64 0) 8 rfl Try.underlying39 info3 rfl (by decide) (by omega) v240 y239 4 [.int .i64 4] (fun _ => True) (fun _ => False) rfl (by first | (go_simp; done) | (go_simp; rfl)) ?aP (fun _ hk => hk.elim) ?aF ?aO ?aB ?aS ?aL ?_; (case aP => exact rfl); (case aB => exact (bel1 HB GE244)); (case aF => exact (fun _ _ => trivial)); (case aO => exact (by (with_reducible repeat (first | apply Kd.R_alloc | apply Kd.R_drewN | apply Kd.R_drew)); exact Kd.R_mono (Kd.R_far (p := ⟨gb244, 4, none⟩) (Kd.R_far (p := ⟨gb244, 3, none⟩) (Kd.R_far (p := ⟨gb244, 2, none⟩) (Kd.R_far (p := ⟨gb244, 1, none⟩) (Kd.R_far (p := ⟨gb244, 0, none⟩) (Kd.R_types HO241.out BK244.out (by decide)) (fun _ hk => hk.2) (.string ((rd_T69 l1 (ji8)).f0))) (fun _ hk => hk.2) (.int .i64 ((rd_T69 l1 (ji8)).f1))) (fun _ hk => hk.2) (.int .i64 ((rd_T69 l1 (ji8)).f2))) (fun _ hk => hk.2) (.int .i64 ((rd_T69 l1 (ji8)).f3))) (fun _ hk => hk.2) (.int .i64 ((rd_T69 l1 (ji8)).f4))) (fun _ hk => trivial))); (case aS => exact (below_size (bel1 HB GE244))); (case aL => have := LMc67.out; omega); intro v264 w72 ho hb hg hat; rw [← Ny263.out] at ho; have n0_ := Aside0.mk (blk_grown (g := gb244) (o := .cells #[.string ((rd_T69 l1 (ji8)).f0), .int .i64 ((rd_T69 l1 (ji8)).f1), .int .i64 ((rd_T69 l1 (ji8)).f2), .int .i64 ((rd_T69 l1 (ji8)).f3), .int .i64 ((rd_T69 l1 (ji8)).f4)] 69 (0, 0)) (by (with_reducible repeat (first | refine blk_drewN ?_ _ | refine blk_drew ?_ | refine blk_alloc ?_ _)); refine blk_put (cs := #[.string ((rd_T69 l1 (ji8)).f0), .int .i64 ((rd_T69 l1 (ji8)).f1), .int .i64 ((rd_T69 l1 (ji8)).f2), .int .i64 ((rd_T69 l1 (ji8)).f3), .int .i64 0]) ?_ 4 _ rfl; (with_reducible repeat (first | refine blk_drewN ?_ _ | refine blk_drew ?_ | refine blk_alloc ?_ _)); refine blk_put (cs := #[.string ((rd_T69 l1 (ji8)).f0), .int .i64 ((rd_T69 l1 (ji8)).f1), .int .i64 ((rd_T69 l1 (ji8)).f2), .int .i64 0, .int .i64 0]) ?_ 3 _ rfl; (with_reducible repeat (first | refine blk_drewN ?_ _ | refine blk_drew ?_ | refine blk_alloc ?_ _)); refine blk_put (cs := #[.string ((rd_T69 l1 (ji8)).f0), .int .i64 ((rd_T69 l1 (ji8)).f1), .int .i64 0, .int .i64 0, .int .i64 0]) ?_ 2 _ rfl; (with_reducible repeat (first | refine blk_drewN ?_ _ | refine blk_drew ?_ | refine blk_alloc ?_ _)); refine blk_put (cs := #[.string ((rd_T69 l1 (ji8)).f0), .int .i64 0, .int .i64 0, .int .i64 0, .int .i64 0]) ?_ 1 _ rfl; (with_reducible repeat (first | refine blk_drewN ?_ _ | refine blk_drew ?_ | refine blk_alloc ?_ _)); refine blk_put (cs := #[.string (⟨#[]⟩ : ByteArray), .int .i64 0, .int .i64 0, .int .i64 0, .int .i64 0]) ?_ 0 _ rfl; (with_reducible repeat (first | refine blk_drewN ?_ _ | refine blk_drew ?_ | refine blk_alloc ?_ _)); exact BK244.out) hg (Kd.R_ne HO241.out BK244.out (by decide))); have n1_ := Aside0.mk (hb); have n2_ := Aside0.mk (ho); clear BK244; clear HB; clear HO241; have BK244 := n0_; have HB := n1_; have HO265 := n2_; clear n0_ n1_ n2_; clear ho hb hg hat))
         go_ret
         exact ⟨_, by first | rfl | (simp [errW_none, errW_some] <;> rfl) | (simp only [← hji8]; first | rfl | (simp [errW_none, errW_some] <;> rfl)) | (simp [*, errW_none, errW_some] <;> rfl), rdl HO265, bel1 HB GE244⟩
        ·rw [if_neg c67] at H
         exact absurd H (by simp)
       ·rw [if_neg c66] at H
        have c66b0 : decide (a2 ≤ a3) = false := decide_eq_false c66
        clear c66
        obtain rfl := Option.some.inj H
        go_enter Try.func62, Try.ntmps62
        go_wp2_with (first | ((with_reducible refine gate_dst (N := 14) rfl ?_); refine Kd.R_lit (Kd.int .i64) _ 3 ?hg (N := 14) ?hd (xs := ([] : List Int)) (inner := []) (ok := fun _ => True) (okp := fun _ => True) ?hr ?hp (fun _ hk => hk) trivial (Below.refl _ _) (Nat.le_refl _) (by simp) ?_; (case hd => rfl); (case hg => rfl); (case hr => first | (go_simp; done) | (go_simp; rfl)); (case hp => exact (Reps.none _ _)); intro v240 w73 ho74 hb hg_ hnew_; clear hg_ hnew_; (first | rw [← Ny239.out] at ho74 | (simp only [Int.reduceToNat] at ho74; rw [← Ny239.out] at ho74)); have n0_ := Aside0.mk (Kd.R_lower ho74 (below_size (bel HB))); have n1_ := Aside0.mk (below_step (bel HB) hb); clear HB; have HO241 := n0_; have HB := n1_; clear n0_ n1_; clear hb ho74; have p242 : 0 ≤ (a4 : Int) := oda; have q242 : a4 < (l0.length : Int) := oda; obtain ⟨ad242, e242, hx242_0⟩ := Kd.at_int HR0.out a4 p242 q242; cases e242; replace hx242_0 := cel HB hx242_0; replace p242 := eq_true p242; replace q242 := eq_true q242; have p243 : 0 ≤ ((ji8) : Int) := oda; have q243 : (ji8) < (l1.length : Int) := oda; obtain ⟨ad243, e243, hx243_0, hx243_1, hx243_2, hx243_3, hx243_4⟩ := at_T69 HR1.out (ji8) p243 q243; cases e243; replace hx243_0 := cel HB hx243_0; replace hx243_1 := cel HB hx243_1; replace hx243_2 := cel HB hx243_2; replace hx243_3 := cel HB hx243_3; replace hx243_4 := cel HB hx243_4; replace p243 := eq_true p243; replace q243 := eq_true q243) | ((with_reducible refine gate_dst (N := 12) rfl ?_); refine box_event ?hg (N := 12) ?hd (cs := #[.string (⟨#[]⟩ : ByteArray), .int .i64 0, .int .i64 0, .int .i64 0, .int .i64 0]) (t := 69) ?hr ?_; (case hd => rfl); (case hg => rfl); (case hr => first | (go_simp; done) | (go_simp; rfl)); intro gb244 hg w75 hbox hb; have n0_ := Aside0.mk (Kd.R_below (rdl HO241) hb); have n1_ := Aside0.mk (below_step (bel HB) hb); have n2_ := Aside0.mk (hbox); have n3_ := Aside0.mk ((by rw [hg]; exact (below_size (bel HB)) : w.heap.size ≤ gb244)); have n4_ := Aside0.mk ((by rw [hg]; exact (below_size (bel HB)) : w.heap.size ≤ gb244)); clear HO241; clear HB; have HO241 := n0_; have HB := n1_; have BK244 := n2_; have GW244 := n3_; have GE244 := n4_; clear n0_ n1_ n2_ n3_ n4_; clear hb hbox hg; have hcz76_0 : w75.cell? ⟨gb244, 0, none⟩ = some (.string (⟨#[]⟩ : ByteArray)) := (blk_cell BK244.out 0).trans rfl; have hcz76_1 : w75.cell? ⟨gb244, 1, none⟩ = some (.int .i64 0) := (blk_cell BK244.out 1).trans rfl; have hcz76_2 : w75.cell? ⟨gb244, 2, none⟩ = some (.int .i64 0) := (blk_cell BK244.out 2).trans rfl; have hcz76_3 : w75.cell? ⟨gb244, 3, none⟩ = some (.int .i64 0) := (blk_cell BK244.out 3).trans rfl; have hcz76_4 : w75.cell? ⟨gb244, 4, none⟩ = some (.int .i64 0) := (blk_cell BK244.out 4).trans rfl; have hfz76_0 := blk_frozen BK244.out 0; have hfz76_1 := blk_frozen BK244.out 1; have hfz76_2 := blk_frozen BK244.out 2; have hfz76_3 := blk_frozen BK244.out 3; have hfz76_4 := blk_frozen BK244.out 4))
        go_ret
        exact ⟨_, by first | rfl | (simp [errW_none, errW_some] <;> rfl) | (simp only [← hji8]; first | rfl | (simp [errW_none, errW_some] <;> rfl)) | (simp [*, errW_none, errW_some] <;> rfl), by (with_reducible repeat (first | apply Kd.R_alloc | apply Kd.R_drewN | apply Kd.R_drew)); exact Kd.R_mono (Kd.R_far (p := ⟨gb244, 4, none⟩) (Kd.R_far (p := ⟨gb244, 3, none⟩) (Kd.R_far (p := ⟨gb244, 2, none⟩) (Kd.R_far (p := ⟨gb244, 1, none⟩) (Kd.R_far (p := ⟨gb244, 0, none⟩) (Kd.R_types HO241.out BK244.out (by decide)) (fun _ hk => hk.2) (.string ((rd_T69 l1 (ji8)).f0))) (fun _ hk => hk.2) (.int .i64 ((rd_T69 l1 (ji8)).f1))) (fun _ hk => hk.2) (.int .i64 ((rd_T69 l1 (ji8)).f2))) (fun _ hk => hk.2) (.int .i64 ((rd_T69 l1 (ji8)).f3))) (fun _ hk => hk.2) (.int .i64 ((rd_T69 l1 (ji8)).f4))) (fun _ hk => trivial), bel1 HB GE244⟩
      ·rw [if_neg c65] at H
       have c65b0 : (((rd_T69 l1 (ji8)).f3) == 2) = false := beq_eq_false_iff_ne.mpr c65
       have c65b1 : (((rd_T69 l1 (ji8)).f3) != 2) = true := bne_iff_ne.mpr c65
       obtain rfl := Option.some.inj H
       go_enter Try.func62, Try.ntmps62
       go_wp2_with (first | ((with_reducible refine gate_dst (N := 14) rfl ?_); refine Kd.R_lit (Kd.int .i64) _ 3 ?hg (N := 14) ?hd (xs := ([] : List Int)) (inner := []) (ok := fun _ => True) (okp := fun _ => True) ?hr ?hp (fun _ hk => hk) trivial (Below.refl _ _) (Nat.le_refl _) (by simp) ?_; (case hd => rfl); (case hg => rfl); (case hr => first | (go_simp; done) | (go_simp; rfl)); (case hp => exact (Reps.none _ _)); intro v240 w77 ho78 hb hg_ hnew_; clear hg_ hnew_; (first | rw [← Ny239.out] at ho78 | (simp only [Int.reduceToNat] at ho78; rw [← Ny239.out] at ho78)); have n0_ := Aside0.mk (Kd.R_lower ho78 (below_size (bel HB))); have n1_ := Aside0.mk (below_step (bel HB) hb); clear HB; have HO241 := n0_; have HB := n1_; clear n0_ n1_; clear hb ho78; have p242 : 0 ≤ (a4 : Int) := oda; have q242 : a4 < (l0.length : Int) := oda; obtain ⟨ad242, e242, hx242_0⟩ := Kd.at_int HR0.out a4 p242 q242; cases e242; replace hx242_0 := cel HB hx242_0; replace p242 := eq_true p242; replace q242 := eq_true q242; have p243 : 0 ≤ ((ji8) : Int) := oda; have q243 : (ji8) < (l1.length : Int) := oda; obtain ⟨ad243, e243, hx243_0, hx243_1, hx243_2, hx243_3, hx243_4⟩ := at_T69 HR1.out (ji8) p243 q243; cases e243; replace hx243_0 := cel HB hx243_0; replace hx243_1 := cel HB hx243_1; replace hx243_2 := cel HB hx243_2; replace hx243_3 := cel HB hx243_3; replace hx243_4 := cel HB hx243_4; replace p243 := eq_true p243; replace q243 := eq_true q243) | ((with_reducible refine gate_dst (N := 12) rfl ?_); refine box_event ?hg (N := 12) ?hd (cs := #[.string (⟨#[]⟩ : ByteArray), .int .i64 0, .int .i64 0, .int .i64 0, .int .i64 0]) (t := 69) ?hr ?_; (case hd => rfl); (case hg => rfl); (case hr => first | (go_simp; done) | (go_simp; rfl)); intro gb244 hg w79 hbox hb; have n0_ := Aside0.mk (Kd.R_below (rdl HO241) hb); have n1_ := Aside0.mk (below_step (bel HB) hb); have n2_ := Aside0.mk (hbox); have n3_ := Aside0.mk ((by rw [hg]; exact (below_size (bel HB)) : w.heap.size ≤ gb244)); have n4_ := Aside0.mk ((by rw [hg]; exact (below_size (bel HB)) : w.heap.size ≤ gb244)); clear HO241; clear HB; have HO241 := n0_; have HB := n1_; have BK244 := n2_; have GW244 := n3_; have GE244 := n4_; clear n0_ n1_ n2_ n3_ n4_; clear hb hbox hg; have hcz80_0 : w79.cell? ⟨gb244, 0, none⟩ = some (.string (⟨#[]⟩ : ByteArray)) := (blk_cell BK244.out 0).trans rfl; have hcz80_1 : w79.cell? ⟨gb244, 1, none⟩ = some (.int .i64 0) := (blk_cell BK244.out 1).trans rfl; have hcz80_2 : w79.cell? ⟨gb244, 2, none⟩ = some (.int .i64 0) := (blk_cell BK244.out 2).trans rfl; have hcz80_3 : w79.cell? ⟨gb244, 3, none⟩ = some (.int .i64 0) := (blk_cell BK244.out 3).trans rfl; have hcz80_4 : w79.cell? ⟨gb244, 4, none⟩ = some (.int .i64 0) := (blk_cell BK244.out 4).trans rfl; have hfz80_0 := blk_frozen BK244.out 0; have hfz80_1 := blk_frozen BK244.out 1; have hfz80_2 := blk_frozen BK244.out 2; have hfz80_3 := blk_frozen BK244.out 3; have hfz80_4 := blk_frozen BK244.out 4))
       go_ret
       exact ⟨_, by first | rfl | (simp [errW_none, errW_some] <;> rfl) | (simp only [← hji8]; first | rfl | (simp [errW_none, errW_some] <;> rfl)) | (simp [*, errW_none, errW_some] <;> rfl), by (with_reducible repeat (first | apply Kd.R_alloc | apply Kd.R_drewN | apply Kd.R_drew)); exact Kd.R_mono (Kd.R_far (p := ⟨gb244, 4, none⟩) (Kd.R_far (p := ⟨gb244, 3, none⟩) (Kd.R_far (p := ⟨gb244, 2, none⟩) (Kd.R_far (p := ⟨gb244, 1, none⟩) (Kd.R_far (p := ⟨gb244, 0, none⟩) (Kd.R_types HO241.out BK244.out (by decide)) (fun _ hk => hk.2) (.string ((rd_T69 l1 (ji8)).f0))) (fun _ hk => hk.2) (.int .i64 ((rd_T69 l1 (ji8)).f1))) (fun _ hk => hk.2) (.int .i64 ((rd_T69 l1 (ji8)).f2))) (fun _ hk => hk.2) (.int .i64 ((rd_T69 l1 (ji8)).f3))) (fun _ hk => hk.2) (.int .i64 ((rd_T69 l1 (ji8)).f4))) (fun _ hk => trivial), bel1 HB GE244⟩
    ·rw [if_neg c10] at H
     exact absurd H (by simp)
   ·rw [if_neg c9] at H
    exact absurd H (by simp)
  ·rw [if_neg c7] at H
   exact absurd H (by simp)
 ·rw [if_neg c6] at H
  exact absurd H (by simp)

end Go.Proofs.Ytmpmcckjpkijnaa.P
