-- Written by a program of this session over the translation (a variant of the printer, see wip/gen); Lean checks it.
import Derived.Test.YtlbmookfonlpjaaPx0
namespace Go.Proofs.Ytlbmookfonlpjaa.P
open Go.RowKit Go.Proofs.YtlbmookfonlpjaaW.PrintWords Go.Proofs.YtlbmookfonlpjaaW.PrintLast Go.Proofs.YtlbmookfonlpjaaW.PrintMore
attribute [local go_sem] Go.Proofs.Ytlbmookfonlpjaa.V.isSome_setCell max2_int min2_int max_two min_two max_three min_three max_four min_four   -- for this text's walks alone
set_option linter.unusedVariables false
set_option linter.unusedSimpArgs false

/-! ### impl_brokenRules: function 43 -/
mutual
def impl_brokenRules.j0 : Nat → Int → Int → List Int → ByteArray → Int → Int → Int → Int → ByteArray → Int → Int → Int → Int → Option (List Int)
 | 0, _, _, _, _, _, _, _, _, _, _, _, _, _ => none
 | k + 1, x2, x3, x11, x278000, x278001, x278002, x278003, x278004, x281000, x281001, x281002, x281003, x281004 => if x278001 = x281001 then (impl_brokenRules.j1 k x2 x3 x11 x278000 x278001 x278002 x278003 x278004) else (if x11.length < 17592186044416 then (impl_brokenRules.j1 k x2 x3 (x11 ++ [2]) x278000 x278001 x278002 x278003 x278004) else (none))
def impl_brokenRules.j1 : Nat → Int → Int → List Int → ByteArray → Int → Int → Int → Int → Option (List Int)
 | 0, _, _, _, _, _, _, _, _ => none
 | k + 1, x2, x3, x11, x278000, x278001, x278002, x278003, x278004 => if x278003 = 3 then (if x11.length < 17592186044416 then ((some (x11 ++ [3] : List Int)).bind fun y287 => (if x278003 = 2 then (if x3 ≥ x2 then (if y287.length < 17592186044416 then (some (y287 ++ [4])) else (none)) else (some y287)) else (some y287))) else (none)) else (if x278003 = 2 then (if x3 ≥ x2 then (if x11.length < 17592186044416 then (some (x11 ++ [4])) else (none)) else (some x11)) else (some x11))
end
def impl_brokenRules.f (k : Nat) (l0 : List Int) (l1 : List (S50)) (a2 : Int) (a3 : Int) (a4 : Int) : Option (List Int) := (some (([] : List Int) : List Int)).bind fun y272 => (if 0 ≤ a4 then (if a4 < (l0.length : Int) then (if 0 ≤ (wrap64 ((rd l0 a4) - 1)) then (if (wrap64 ((rd l0 a4) - 1)) < (l1.length : Int) then (if a4 > 0 then (if 0 ≤ (wrap64 (a4 - 1)) then (if (wrap64 (a4 - 1)) < (l0.length : Int) then (if 0 ≤ (wrap64 ((rd l0 (wrap64 (a4 - 1))) - 1)) then (if (wrap64 ((rd l0 (wrap64 (a4 - 1))) - 1)) < (l1.length : Int) then (if ((rd_T50 l1 (wrap64 ((rd l0 a4) - 1))).f2) > ((rd_T50 l1 (wrap64 ((rd l0 (wrap64 (a4 - 1))) - 1))).f2) then (if y272.length < 17592186044416 then (impl_brokenRules.j0 k a2 a3 (y272 ++ [1]) ((rd_T50 l1 (wrap64 ((rd l0 a4) - 1))).f0) ((rd_T50 l1 (wrap64 ((rd l0 a4) - 1))).f1) ((rd_T50 l1 (wrap64 ((rd l0 a4) - 1))).f2) ((rd_T50 l1 (wrap64 ((rd l0 a4) - 1))).f3) ((rd_T50 l1 (wrap64 ((rd l0 a4) - 1))).f4) ((rd_T50 l1 (wrap64 ((rd l0 (wrap64 (a4 - 1))) - 1))).f0) ((rd_T50 l1 (wrap64 ((rd l0 (wrap64 (a4 - 1))) - 1))).f1) ((rd_T50 l1 (wrap64 ((rd l0 (wrap64 (a4 - 1))) - 1))).f2) ((rd_T50 l1 (wrap64 ((rd l0 (wrap64 (a4 - 1))) - 1))).f3) ((rd_T50 l1 (wrap64 ((rd l0 (wrap64 (a4 - 1))) - 1))).f4)) else (none)) else (impl_brokenRules.j0 k a2 a3 y272 ((rd_T50 l1 (wrap64 ((rd l0 a4) - 1))).f0) ((rd_T50 l1 (wrap64 ((rd l0 a4) - 1))).f1) ((rd_T50 l1 (wrap64 ((rd l0 a4) - 1))).f2) ((rd_T50 l1 (wrap64 ((rd l0 a4) - 1))).f3) ((rd_T50 l1 (wrap64 ((rd l0 a4) - 1))).f4) ((rd_T50 l1 (wrap64 ((rd l0 (wrap64 (a4 - 1))) - 1))).f0) ((rd_T50 l1 (wrap64 ((rd l0 (wrap64 (a4 - 1))) - 1))).f1) ((rd_T50 l1 (wrap64 ((rd l0 (wrap64 (a4 - 1))) - 1))).f2) ((rd_T50 l1 (wrap64 ((rd l0 (wrap64 (a4 - 1))) - 1))).f3) ((rd_T50 l1 (wrap64 ((rd l0 (wrap64 (a4 - 1))) - 1))).f4))) else (none)) else (none)) else (none)) else (none)) else (if ((rd_T50 l1 (wrap64 ((rd l0 a4) - 1))).f3) = 2 then (if a3 ≥ a2 then (if y272.length < 17592186044416 then (some (y272 ++ [4])) else (none)) else (some y272)) else (some y272))) else (none)) else (none)) else (none)) else (none))
theorem impl_brokenRules.mono_l : ∀ k, (∀ y0 y1 y2 y3 y4 y5 y6 y7 y8 y9 y10 y11 y12, LeO (impl_brokenRules.j0 k y0 y1 y2 y3 y4 y5 y6 y7 y8 y9 y10 y11 y12) (impl_brokenRules.j0 (k + 1) y0 y1 y2 y3 y4 y5 y6 y7 y8 y9 y10 y11 y12)) ∧ (∀ y0 y1 y2 y3 y4 y5 y6 y7, LeO (impl_brokenRules.j1 k y0 y1 y2 y3 y4 y5 y6 y7) (impl_brokenRules.j1 (k + 1) y0 y1 y2 y3 y4 y5 y6 y7))
 | 0 => ⟨fun _ _ _ _ _ _ _ _ _ _ _ _ _ r h => by simp [impl_brokenRules.j0] at h, fun _ _ _ _ _ _ _ _ r h => by simp [impl_brokenRules.j1] at h⟩
 | k + 1 => by
  obtain ⟨ih0, ih1⟩ := impl_brokenRules.mono_l k
  refine ⟨?_, ?_⟩
  ·intro y0 y1 y2 y3 y4 y5 y6 y7 y8 y9 y10 y11 y12
   unfold impl_brokenRules.j0
   repeat' first
   | (with_reducible exact ih0 _ _ _ _ _ _ _ _ _ _ _ _ _)
   | (with_reducible exact ih1 _ _ _ _ _ _ _ _)
   | (with_reducible exact LeO.refl _)
   | (with_reducible exact LeO.none _)
   | (with_reducible refine LeO.ite ?_ ?_)
   | (with_reducible refine LeO.bind ?_ (fun _ => ?_))
   | exact ih0 _ _ _ _ _ _ _ _ _ _ _ _ _
   | exact ih1 _ _ _ _ _ _ _ _
   | exact LeO.none _
   | refine LeO.ite ?_ ?_
   | refine LeO.bind ?_ (fun _ => ?_)
  ·intro y0 y1 y2 y3 y4 y5 y6 y7
   unfold impl_brokenRules.j1
   repeat' first
   | (with_reducible exact ih0 _ _ _ _ _ _ _ _ _ _ _ _ _)
   | (with_reducible exact ih1 _ _ _ _ _ _ _ _)
   | (with_reducible exact LeO.refl _)
   | (with_reducible exact LeO.none _)
   | (with_reducible refine LeO.ite ?_ ?_)
   | (with_reducible refine LeO.bind ?_ (fun _ => ?_))
   | exact ih0 _ _ _ _ _ _ _ _ _ _ _ _ _
   | exact ih1 _ _ _ _ _ _ _ _
   | exact LeO.none _
   | refine LeO.ite ?_ ?_
   | refine LeO.bind ?_ (fun _ => ?_)
theorem impl_brokenRules.mono : ∀ a0 a1 a2 a3 a4 k, LeO (impl_brokenRules.f k a0 a1 a2 a3 a4) (impl_brokenRules.f (k + 1) a0 a1 a2 a3 a4) := by
 intro a0 a1 a2 a3 a4 k
 obtain ⟨ih0, ih1⟩ := impl_brokenRules.mono_l k
 unfold impl_brokenRules.f
 repeat' first
   | (with_reducible exact ih0 _ _ _ _ _ _ _ _ _ _ _ _ _)
   | (with_reducible exact ih1 _ _ _ _ _ _ _ _)
   | (with_reducible exact LeO.refl _)
   | (with_reducible exact LeO.none _)
   | (with_reducible refine LeO.ite ?_ ?_)
   | (with_reducible refine LeO.bind ?_ (fun _ => ?_))
   | exact ih0 _ _ _ _ _ _ _ _ _ _ _ _ _
   | exact ih1 _ _ _ _ _ _ _ _
   | exact LeO.none _
   | refine LeO.ite ?_ ?_
   | refine LeO.bind ?_ (fun _ => ?_)
set_option maxHeartbeats 8000000 in
set_option maxRecDepth 100000 in
theorem impl_brokenRules.calls (k : Nat) (A0 : Option Addr) (c0 : Nat) (l0 : List Int) (A1 : Option Addr) (c1 : Nat) (l1 : List (S50)) (a2 : Int) (a3 : Int) (a4 : Int) (r : List Int) (w : World) (hr0 : Kd.C (Kd.int .i64) w A0 l0.length l0) (hc0 : l0.length ≤ c0) (hr1 : Kd.C k50 w A1 l1.length l1) (hc1 : l1.length ≤ c1) (h : impl_brokenRules.f k l0 l1 a2 a3 a4 = some r) :
  Calls Try.prog 43 #[.slice A0 l0.length c0, .slice A1 l1.length c1, .int .i64 a2, .int .i64 a3, .int .i64 a4] w fun e w' => ∃ v0_ : Value, e = .returned (v0_) ∧ Kd.R (Kd.int .i64) 3 w' w.heap.size (fun _ => True) v0_ r ∧ Below w.heap.size w w' := by
 have hu50 := Try.underlying50
 have HR0 := Aside0.mk hr0
 have HC0 := Aside0.mk hc0
 clear hr0 hc0
 have HR1 := Aside0.mk hr1
 have HC1 := Aside0.mk hc1
 clear hr1 hc1
 have HB := Aside0.mk (Below.refl w.heap.size w)
 have H : ((some (([] : List Int) : List Int)).bind fun y272 => (if 0 ≤ a4 then (if a4 < (l0.length : Int) then (if 0 ≤ (wrap64 ((rd l0 a4) - 1)) then (if (wrap64 ((rd l0 a4) - 1)) < (l1.length : Int) then (if a4 > 0 then (if 0 ≤ (wrap64 (a4 - 1)) then (if (wrap64 (a4 - 1)) < (l0.length : Int) then (if 0 ≤ (wrap64 ((rd l0 (wrap64 (a4 - 1))) - 1)) then (if (wrap64 ((rd l0 (wrap64 (a4 - 1))) - 1)) < (l1.length : Int) then (if ((rd_T50 l1 (wrap64 ((rd l0 a4) - 1))).f2) > ((rd_T50 l1 (wrap64 ((rd l0 (wrap64 (a4 - 1))) - 1))).f2) then (if y272.length < 17592186044416 then (impl_brokenRules.j0 k a2 a3 (y272 ++ [1]) ((rd_T50 l1 (wrap64 ((rd l0 a4) - 1))).f0) ((rd_T50 l1 (wrap64 ((rd l0 a4) - 1))).f1) ((rd_T50 l1 (wrap64 ((rd l0 a4) - 1))).f2) ((rd_T50 l1 (wrap64 ((rd l0 a4) - 1))).f3) ((rd_T50 l1 (wrap64 ((rd l0 a4) - 1))).f4) ((rd_T50 l1 (wrap64 ((rd l0 (wrap64 (a4 - 1))) - 1))).f0) ((rd_T50 l1 (wrap64 ((rd l0 (wrap64 (a4 - 1))) - 1))).f1) ((rd_T50 l1 (wrap64 ((rd l0 (wrap64 (a4 - 1))) - 1))).f2) ((rd_T50 l1 (wrap64 ((rd l0 (wrap64 (a4 - 1))) - 1))).f3) ((rd_T50 l1 (wrap64 ((rd l0 (wrap64 (a4 - 1))) - 1))).f4)) else (none)) else (impl_brokenRules.j0 k a2 a3 y272 ((rd_T50 l1 (wrap64 ((rd l0 a4) - 1))).f0) ((rd_T50 l1 (wrap64 ((rd l0 a4) - 1))).f1) ((rd_T50 l1 (wrap64 ((rd l0 a4) - 1))).f2) ((rd_T50 l1 (wrap64 ((rd l0 a4) - 1))).f3) ((rd_T50 l1 (wrap64 ((rd l0 a4) - 1))).f4) ((rd_T50 l1 (wrap64 ((rd l0 (wrap64 (a4 - 1))) - 1))).f0) ((rd_T50 l1 (wrap64 ((rd l0 (wrap64 (a4 - 1))) - 1))).f1) ((rd_T50 l1 (wrap64 ((rd l0 (wrap64 (a4 - 1))) - 1))).f2) ((rd_T50 l1 (wrap64 ((rd l0 (wrap64 (a4 - 1))) - 1))).f3) ((rd_T50 l1 (wrap64 ((rd l0 (wrap64 (a4 - 1))) - 1))).f4))) else (none)) else (none)) else (none)) else (none)) else (if ((rd_T50 l1 (wrap64 ((rd l0 a4) - 1))).f3) = 2 then (if a3 ≥ a2 then (if y272.length < 17592186044416 then (some (y272 ++ [4])) else (none)) else (some y272)) else (some y272))) else (none)) else (none)) else (none)) else (none))) = some r := h
 clear h
 obtain ⟨y272, hy272⟩ : ∃ y_ : List Int, y_ = (([] : List Int)) := ⟨_, rfl⟩
 replace H : (if 0 ≤ a4 then (if a4 < (l0.length : Int) then (if 0 ≤ (wrap64 ((rd l0 a4) - 1)) then (if (wrap64 ((rd l0 a4) - 1)) < (l1.length : Int) then (if a4 > 0 then (if 0 ≤ (wrap64 (a4 - 1)) then (if (wrap64 (a4 - 1)) < (l0.length : Int) then (if 0 ≤ (wrap64 ((rd l0 (wrap64 (a4 - 1))) - 1)) then (if (wrap64 ((rd l0 (wrap64 (a4 - 1))) - 1)) < (l1.length : Int) then (if ((rd_T50 l1 (wrap64 ((rd l0 a4) - 1))).f2) > ((rd_T50 l1 (wrap64 ((rd l0 (wrap64 (a4 - 1))) - 1))).f2) then (if y272.length < 17592186044416 then (impl_brokenRules.j0 k a2 a3 (y272 ++ [1]) ((rd_T50 l1 (wrap64 ((rd l0 a4) - 1))).f0) ((rd_T50 l1 (wrap64 ((rd l0 a4) - 1))).f1) ((rd_T50 l1 (wrap64 ((rd l0 a4) - 1))).f2) ((rd_T50 l1 (wrap64 ((rd l0 a4) - 1))).f3) ((rd_T50 l1 (wrap64 ((rd l0 a4) - 1))).f4) ((rd_T50 l1 (wrap64 ((rd l0 (wrap64 (a4 - 1))) - 1))).f0) ((rd_T50 l1 (wrap64 ((rd l0 (wrap64 (a4 - 1))) - 1))).f1) ((rd_T50 l1 (wrap64 ((rd l0 (wrap64 (a4 - 1))) - 1))).f2) ((rd_T50 l1 (wrap64 ((rd l0 (wrap64 (a4 - 1))) - 1))).f3) ((rd_T50 l1 (wrap64 ((rd l0 (wrap64 (a4 - 1))) - 1))).f4)) else (none)) else (impl_brokenRules.j0 k a2 a3 y272 ((rd_T50 l1 (wrap64 ((rd l0 a4) - 1))).f0) ((rd_T50 l1 (wrap64 ((rd l0 a4) - 1))).f1) ((rd_T50 l1 (wrap64 ((rd l0 a4) - 1))).f2) ((rd_T50 l1 (wrap64 ((rd l0 a4) - 1))).f3) ((rd_T50 l1 (wrap64 ((rd l0 a4) - 1))).f4) ((rd_T50 l1 (wrap64 ((rd l0 (wrap64 (a4 - 1))) - 1))).f0) ((rd_T50 l1 (wrap64 ((rd l0 (wrap64 (a4 - 1))) - 1))).f1) ((rd_T50 l1 (wrap64 ((rd l0 (wrap64 (a4 - 1))) - 1))).f2) ((rd_T50 l1 (wrap64 ((rd l0 (wrap64 (a4 - 1))) - 1))).f3) ((rd_T50 l1 (wrap64 ((rd l0 (wrap64 (a4 - 1))) - 1))).f4))) else (none)) else (none)) else (none)) else (none)) else (if ((rd_T50 l1 (wrap64 ((rd l0 a4) - 1))).f3) = 2 then (if a3 ≥ a2 then (if y272.length < 17592186044416 then (some (y272 ++ [4])) else (none)) else (some y272)) else (some y272))) else (none)) else (none)) else (none)) else (none)) = some r := by first | (rw [hy272]; with_reducible exact H) | (have H2_ := (Option.bind_some _ _).symm.trans H; rw [hy272]; with_reducible exact H2_) | (have H2_ := (Option.bind_some _ _).symm.trans H; with_reducible exact H2_) | with_reducible exact H | (rw [hy272]; exact H) | exact H
 have Ny272 := Aside0.mk hy272
 clear hy272
 by_cases c6 : 0 ≤ a4
 ·rw [if_pos c6] at H
  have c6b0 : decide (0 ≤ a4) = true := decide_eq_true c6
  clear c6
  by_cases c7 : a4 < (l0.length : Int)
  ·rw [if_pos c7] at H
   have c7b0 : decide (a4 < (l0.length : Int)) = true := decide_eq_true c7
   clear c7
   obtain ⟨ji8, hji8⟩ : ∃ j_ : Int, (wrap64 ((rd l0 a4) - 1)) = j_ := ⟨_, rfl⟩
   replace H : (if 0 ≤ (ji8) then (if (ji8) < (l1.length : Int) then (if a4 > 0 then (if 0 ≤ (wrap64 (a4 - 1)) then (if (wrap64 (a4 - 1)) < (l0.length : Int) then (if 0 ≤ (wrap64 ((rd l0 (wrap64 (a4 - 1))) - 1)) then (if (wrap64 ((rd l0 (wrap64 (a4 - 1))) - 1)) < (l1.length : Int) then (if ((rd_T50 l1 (ji8)).f2) > ((rd_T50 l1 (wrap64 ((rd l0 (wrap64 (a4 - 1))) - 1))).f2) then (if y272.length < 17592186044416 then (impl_brokenRules.j0 k a2 a3 (y272 ++ [1]) ((rd_T50 l1 (ji8)).f0) ((rd_T50 l1 (ji8)).f1) ((rd_T50 l1 (ji8)).f2) ((rd_T50 l1 (ji8)).f3) ((rd_T50 l1 (ji8)).f4) ((rd_T50 l1 (wrap64 ((rd l0 (wrap64 (a4 - 1))) - 1))).f0) ((rd_T50 l1 (wrap64 ((rd l0 (wrap64 (a4 - 1))) - 1))).f1) ((rd_T50 l1 (wrap64 ((rd l0 (wrap64 (a4 - 1))) - 1))).f2) ((rd_T50 l1 (wrap64 ((rd l0 (wrap64 (a4 - 1))) - 1))).f3) ((rd_T50 l1 (wrap64 ((rd l0 (wrap64 (a4 - 1))) - 1))).f4)) else (none)) else (impl_brokenRules.j0 k a2 a3 y272 ((rd_T50 l1 (ji8)).f0) ((rd_T50 l1 (ji8)).f1) ((rd_T50 l1 (ji8)).f2) ((rd_T50 l1 (ji8)).f3) ((rd_T50 l1 (ji8)).f4) ((rd_T50 l1 (wrap64 ((rd l0 (wrap64 (a4 - 1))) - 1))).f0) ((rd_T50 l1 (wrap64 ((rd l0 (wrap64 (a4 - 1))) - 1))).f1) ((rd_T50 l1 (wrap64 ((rd l0 (wrap64 (a4 - 1))) - 1))).f2) ((rd_T50 l1 (wrap64 ((rd l0 (wrap64 (a4 - 1))) - 1))).f3) ((rd_T50 l1 (wrap64 ((rd l0 (wrap64 (a4 - 1))) - 1))).f4))) else (none)) else (none)) else (none)) else (none)) else (if ((rd_T50 l1 (ji8)).f3) = 2 then (if a3 ≥ a2 then (if y272.length < 17592186044416 then (some (y272 ++ [4])) else (none)) else (some y272)) else (some y272))) else (none)) else (none)) = some r := by first | (rw [hji8] at H; exact H) | (simp only [hji8] at H ⊢; exact H)
   have hji8w : (IntKind.i64.wrap ((rd l0 a4) - 1)) = ji8 := (i64_w _).trans hji8
   by_cases c9 : 0 ≤ (ji8)
   ·rw [if_pos c9] at H
    have c9b0 : decide (0 ≤ (ji8)) = true := decide_eq_true c9
    clear c9
    by_cases c10 : (ji8) < (l1.length : Int)
    ·rw [if_pos c10] at H
     have c10b0 : decide ((ji8) < (l1.length : Int)) = true := decide_eq_true c10
     clear c10
     by_cases c11 : a4 > 0
     ·rw [if_pos c11] at H
      have c11b0 : decide (0 < a4) = true := decide_eq_true c11
      clear c11
      obtain ⟨ji12, hji12⟩ : ∃ j_ : Int, (wrap64 (a4 - 1)) = j_ := ⟨_, rfl⟩
      replace H : (if 0 ≤ (ji12) then (if (ji12) < (l0.length : Int) then (if 0 ≤ (wrap64 ((rd l0 (ji12)) - 1)) then (if (wrap64 ((rd l0 (ji12)) - 1)) < (l1.length : Int) then (if ((rd_T50 l1 (ji8)).f2) > ((rd_T50 l1 (wrap64 ((rd l0 (ji12)) - 1))).f2) then (if y272.length < 17592186044416 then (impl_brokenRules.j0 k a2 a3 (y272 ++ [1]) ((rd_T50 l1 (ji8)).f0) ((rd_T50 l1 (ji8)).f1) ((rd_T50 l1 (ji8)).f2) ((rd_T50 l1 (ji8)).f3) ((rd_T50 l1 (ji8)).f4) ((rd_T50 l1 (wrap64 ((rd l0 (ji12)) - 1))).f0) ((rd_T50 l1 (wrap64 ((rd l0 (ji12)) - 1))).f1) ((rd_T50 l1 (wrap64 ((rd l0 (ji12)) - 1))).f2) ((rd_T50 l1 (wrap64 ((rd l0 (ji12)) - 1))).f3) ((rd_T50 l1 (wrap64 ((rd l0 (ji12)) - 1))).f4)) else (none)) else (impl_brokenRules.j0 k a2 a3 y272 ((rd_T50 l1 (ji8)).f0) ((rd_T50 l1 (ji8)).f1) ((rd_T50 l1 (ji8)).f2) ((rd_T50 l1 (ji8)).f3) ((rd_T50 l1 (ji8)).f4) ((rd_T50 l1 (wrap64 ((rd l0 (ji12)) - 1))).f0) ((rd_T50 l1 (wrap64 ((rd l0 (ji12)) - 1))).f1) ((rd_T50 l1 (wrap64 ((rd l0 (ji12)) - 1))).f2) ((rd_T50 l1 (wrap64 ((rd l0 (ji12)) - 1))).f3) ((rd_T50 l1 (wrap64 ((rd l0 (ji12)) - 1))).f4))) else (none)) else (none)) else (none)) else (none)) = some r := by first | (rw [hji12] at H; exact H) | (simp only [hji12] at H ⊢; exact H)
      have hji12w : (IntKind.i64.wrap (a4 - 1)) = ji12 := (i64_w _).trans hji12
      by_cases c13 : 0 ≤ (ji12)
      ·rw [if_pos c13] at H
       have c13b0 : decide (0 ≤ (ji12)) = true := decide_eq_true c13
       clear c13
       by_cases c14 : (ji12) < (l0.length : Int)
       ·rw [if_pos c14] at H
        have c14b0 : decide ((ji12) < (l0.length : Int)) = true := decide_eq_true c14
        clear c14
        obtain ⟨ji15, hji15⟩ : ∃ j_ : Int, (wrap64 ((rd l0 (ji12)) - 1)) = j_ := ⟨_, rfl⟩
        replace H : (if 0 ≤ (ji15) then (if (ji15) < (l1.length : Int) then (if ((rd_T50 l1 (ji8)).f2) > ((rd_T50 l1 (ji15)).f2) then (if y272.length < 17592186044416 then (impl_brokenRules.j0 k a2 a3 (y272 ++ [1]) ((rd_T50 l1 (ji8)).f0) ((rd_T50 l1 (ji8)).f1) ((rd_T50 l1 (ji8)).f2) ((rd_T50 l1 (ji8)).f3) ((rd_T50 l1 (ji8)).f4) ((rd_T50 l1 (ji15)).f0) ((rd_T50 l1 (ji15)).f1) ((rd_T50 l1 (ji15)).f2) ((rd_T50 l1 (ji15)).f3) ((rd_T50 l1 (ji15)).f4)) else (none)) else (impl_brokenRules.j0 k a2 a3 y272 ((rd_T50 l1 (ji8)).f0) ((rd_T50 l1 (ji8)).f1) ((rd_T50 l1 (ji8)).f2) ((rd_T50 l1 (ji8)).f3) ((rd_T50 l1 (ji8)).f4) ((rd_T50 l1 (ji15)).f0) ((rd_T50 l1 (ji15)).f1) ((rd_T50 l1 (ji15)).f2) ((rd_T50 l1 (ji15)).f3) ((rd_T50 l1 (ji15)).f4))) else (none)) else (none)) = some r := by first | (rw [hji15] at H; exact H) | (simp only [hji15] at H ⊢; exact H)
        have hji15w : (IntKind.i64.wrap ((rd l0 (ji12)) - 1)) = ji15 := (i64_w _).trans hji15
        by_cases c16 : 0 ≤ (ji15)
        ·rw [if_pos c16] at H
         have c16b0 : decide (0 ≤ (ji15)) = true := decide_eq_true c16
         clear c16
         by_cases c17 : (ji15) < (l1.length : Int)
         ·rw [if_pos c17] at H
          have c17b0 : decide ((ji15) < (l1.length : Int)) = true := decide_eq_true c17
          clear c17
          have HC18 := Aside0.mk H
          clear H
          go_enter Try.func43, Try.ntmps43
          go_upto_if 38 with (first | ((with_reducible refine gate_dst (N := 14) rfl ?_); refine Kd.R_lit (Kd.int .i64) _ 3 ?hg (N := 14) ?hd (xs := ([] : List Int)) (inner := []) (ok := fun _ => True) (okp := fun _ => True) ?hr ?hp (fun _ hk => hk) trivial (Below.refl _ _) (Nat.le_refl _) (by simp) ?_; (case hd => rfl); (case hg => rfl); (case hr => first | (go_simp; done) | (go_simp; rfl)); (case hp => exact (Reps.none _ _)); intro v273 w19 ho20 hb hg_ hnew_; clear hg_ hnew_; (first | rw [← Ny272.out] at ho20 | (simp only [Int.reduceToNat] at ho20; rw [← Ny272.out] at ho20)); have n0_ := Aside0.mk (Kd.R_lower ho20 (below_size (bel HB))); have n1_ := Aside0.mk (below_step (bel HB) hb); clear HB; have HO274 := n0_; have HB := n1_; clear n0_ n1_; clear hb ho20; have p275 : 0 ≤ (a4 : Int) := oda; have q275 : a4 < (l0.length : Int) := oda; obtain ⟨ad275, e275, hx275_0⟩ := Kd.at_int HR0.out a4 p275 q275; cases e275; replace hx275_0 := cel HB hx275_0; replace p275 := eq_true p275; replace q275 := eq_true q275; have p276 : 0 ≤ ((ji8) : Int) := oda; have q276 : (ji8) < (l1.length : Int) := oda; obtain ⟨ad276, e276, hx276_0, hx276_1, hx276_2, hx276_3, hx276_4⟩ := at_T50 HR1.out (ji8) p276 q276; cases e276; replace hx276_0 := cel HB hx276_0; replace hx276_1 := cel HB hx276_1; replace hx276_2 := cel HB hx276_2; replace hx276_3 := cel HB hx276_3; replace hx276_4 := cel HB hx276_4; replace p276 := eq_true p276; replace q276 := eq_true q276) | ((with_reducible refine gate_dst (N := 12) rfl ?_); refine box_event ?hg (N := 12) ?hd (cs := #[.string (⟨#[]⟩ : ByteArray), .int .i64 0, .int .i64 0, .int .i64 0, .int .i64 0]) (t := 50) ?hr ?_; (case hd => rfl); (case hg => rfl); (case hr => first | (go_simp; done) | (go_simp; rfl)); intro gb277 hg w21 hbox hb; have n0_ := Aside0.mk (Kd.R_below (rdl HO274) hb); have n1_ := Aside0.mk (below_step (bel HB) hb); have n2_ := Aside0.mk (hbox); have n3_ := Aside0.mk ((by rw [hg]; exact (below_size (bel HB)) : w.heap.size ≤ gb277)); have n4_ := Aside0.mk ((by rw [hg]; exact (below_size (bel HB)) : w.heap.size ≤ gb277)); clear HO274; clear HB; have HO274 := n0_; have HB := n1_; have BK277 := n2_; have GW277 := n3_; have GE277 := n4_; clear n0_ n1_ n2_ n3_ n4_; clear hb hbox hg; have hcz22_0 : w21.cell? ⟨gb277, 0, none⟩ = some (.string (⟨#[]⟩ : ByteArray)) := (blk_cell BK277.out 0).trans rfl; have hcz22_1 : w21.cell? ⟨gb277, 1, none⟩ = some (.int .i64 0) := (blk_cell BK277.out 1).trans rfl; have hcz22_2 : w21.cell? ⟨gb277, 2, none⟩ = some (.int .i64 0) := (blk_cell BK277.out 2).trans rfl; have hcz22_3 : w21.cell? ⟨gb277, 3, none⟩ = some (.int .i64 0) := (blk_cell BK277.out 3).trans rfl; have hcz22_4 : w21.cell? ⟨gb277, 4, none⟩ = some (.int .i64 0) := (blk_cell BK277.out 4).trans rfl; have hfz22_0 := blk_frozen BK277.out 0; have hfz22_1 := blk_frozen BK277.out 1; have hfz22_2 := blk_frozen BK277.out 2; have hfz22_3 := blk_frozen BK277.out 3; have hfz22_4 := blk_frozen BK277.out 4; have p278 : 0 ≤ ((ji12) : Int) := oda; have q278 : (ji12) < (l0.length : Int) := oda; obtain ⟨ad278, e278, hx278_0⟩ := Kd.at_int HR0.out (ji12) p278 q278; obtain rfl : ad275 = ad278 := (by injection e278); have hn278_0 : ad275.block ≠ gb277 := Nat.ne_of_lt (Nat.lt_of_lt_of_le (by have := World.block_lt_of_cell? _ _ hx278_0; first | rwa [add_block] at this | exact this) GW277.out); have hn278_1 : ad275.block ≠ gb277 := Nat.ne_of_lt (Nat.lt_of_lt_of_le (by have := World.block_lt_of_cell? _ _ hx278_0; first | rwa [add_block] at this | exact this) GW277.out); have hn278_2 : ad275.block ≠ gb277 := Nat.ne_of_lt (Nat.lt_of_lt_of_le (by have := World.block_lt_of_cell? _ _ hx278_0; first | rwa [add_block] at this | exact this) GW277.out); have hn278_3 : ad275.block ≠ gb277 := Nat.ne_of_lt (Nat.lt_of_lt_of_le (by have := World.block_lt_of_cell? _ _ hx278_0; first | rwa [add_block] at this | exact this) GW277.out); have hn278_4 : ad275.block ≠ gb277 := Nat.ne_of_lt (Nat.lt_of_lt_of_le (by have := World.block_lt_of_cell? _ _ hx278_0; first | rwa [add_block] at this | exact this) GW277.out); replace hx278_0 := cel HB hx278_0; replace hx278_0 := (cell_far (p := ⟨gb277, 0, none⟩) (by first | (rw [add_block]; exact hn278_0) | (show (Addr.add _ _).block ≠ _; rw [add_block]; exact hn278_0) | exact hn278_0) (.string ((rd_T50 l1 (ji8)).f0))).trans hx278_0; replace hx278_0 := (cell_far (p := ⟨gb277, 1, none⟩) (by first | (rw [add_block]; exact hn278_1) | (show (Addr.add _ _).block ≠ _; rw [add_block]; exact hn278_1) | exact hn278_1) (.int .i64 ((rd_T50 l1 (ji8)).f1))).trans hx278_0; replace hx278_0 := (cell_far (p := ⟨gb277, 2, none⟩) (by first | (rw [add_block]; exact hn278_2) | (show (Addr.add _ _).block ≠ _; rw [add_block]; exact hn278_2) | exact hn278_2) (.int .i64 ((rd_T50 l1 (ji8)).f2))).trans hx278_0; replace hx278_0 := (cell_far (p := ⟨gb277, 3, none⟩) (by first | (rw [add_block]; exact hn278_3) | (show (Addr.add _ _).block ≠ _; rw [add_block]; exact hn278_3) | exact hn278_3) (.int .i64 ((rd_T50 l1 (ji8)).f3))).trans hx278_0; replace hx278_0 := (cell_far (p := ⟨gb277, 4, none⟩) (by first | (rw [add_block]; exact hn278_4) | (show (Addr.add _ _).block ≠ _; rw [add_block]; exact hn278_4) | exact hn278_4) (.int .i64 ((rd_T50 l1 (ji8)).f4))).trans hx278_0; clear hn278_0; clear hn278_1; clear hn278_2; clear hn278_3; clear hn278_4; replace p278 := eq_true p278; replace q278 := eq_true q278; have p279 : 0 ≤ ((ji15) : Int) := oda; have q279 : (ji15) < (l1.length : Int) := oda; obtain ⟨ad279, e279, hx279_0, hx279_1, hx279_2, hx279_3, hx279_4⟩ := at_T50 HR1.out (ji15) p279 q279; obtain rfl : ad276 = ad279 := (by injection e279); have hn279_0 : ad276.block ≠ gb277 := Nat.ne_of_lt (Nat.lt_of_lt_of_le (by have := World.block_lt_of_cell? _ _ hx279_0; first | rwa [add_block] at this | exact this) GW277.out); have hn279_1 : ad276.block ≠ gb277 := Nat.ne_of_lt (Nat.lt_of_lt_of_le (by have := World.block_lt_of_cell? _ _ hx279_0; first | rwa [add_block] at this | exact this) GW277.out); have hn279_2 : ad276.block ≠ gb277 := Nat.ne_of_lt (Nat.lt_of_lt_of_le (by have := World.block_lt_of_cell? _ _ hx279_0; first | rwa [add_block] at this | exact this) GW277.out); have hn279_3 : ad276.block ≠ gb277 := Nat.ne_of_lt (Nat.lt_of_lt_of_le (by have := World.block_lt_of_cell? _ _ hx279_0; first | rwa [add_block] at this | exact this) GW277.out); have hn279_4 : ad276.block ≠ gb277 := Nat.ne_of_lt (Nat.lt_of_lt_of_le (by have := World.block_lt_of_cell? _ _ hx279_0; first | rwa [add_block] at this | exact this) GW277.out); replace hx279_0 := cel HB hx279_0; replace hx279_1 := cel HB hx279_1; replace hx279_2 := cel HB hx279_2; replace hx279_3 := cel HB hx279_3; replace hx279_4 := cel HB hx279_4; replace hx279_0 := (cell_far (p := ⟨gb277, 0, none⟩) (by first | (rw [add_block]; exact hn279_0) | (show (Addr.add _ _).block ≠ _; rw [add_block]; exact hn279_0) | exact hn279_0) (.string ((rd_T50 l1 (ji8)).f0))).trans hx279_0; replace hx279_1 := (cell_far (p := ⟨gb277, 0, none⟩) (by first | (rw [add_block]; exact hn279_0) | (show (Addr.add _ _).block ≠ _; rw [add_block]; exact hn279_0) | exact hn279_0) (.string ((rd_T50 l1 (ji8)).f0))).trans hx279_1; replace hx279_2 := (cell_far (p := ⟨gb277, 0, none⟩) (by first | (rw [add_block]; exact hn279_0) | (show (Addr.add _ _).block ≠ _; rw [add_block]; exact hn279_0) | exact hn279_0) (.string ((rd_T50 l1 (ji8)).f0))).trans hx279_2; replace hx279_3 := (cell_far (p := ⟨gb277, 0, none⟩) (by first | (rw [add_block]; exact hn279_0) | (show (Addr.add _ _).block ≠ _; rw [add_block]; exact hn279_0) | exact hn279_0) (.string ((rd_T50 l1 (ji8)).f0))).trans hx279_3; replace hx279_4 := (cell_far (p := ⟨gb277, 0, none⟩) (by first | (rw [add_block]; exact hn279_0) | (show (Addr.add _ _).block ≠ _; rw [add_block]; exact hn279_0) | exact hn279_0) (.string ((rd_T50 l1 (ji8)).f0))).trans hx279_4; replace hx279_0 := (cell_far (p := ⟨gb277, 1, none⟩) (by first | (rw [add_block]; exact hn279_1) | (show (Addr.add _ _).block ≠ _; rw [add_block]; exact hn279_1) | exact hn279_1) (.int .i64 ((rd_T50 l1 (ji8)).f1))).trans hx279_0; replace hx279_1 := (cell_far (p := ⟨gb277, 1, none⟩) (by first | (rw [add_block]; exact hn279_1) | (show (Addr.add _ _).block ≠ _; rw [add_block]; exact hn279_1) | exact hn279_1) (.int .i64 ((rd_T50 l1 (ji8)).f1))).trans hx279_1; replace hx279_2 := (cell_far (p := ⟨gb277, 1, none⟩) (by first | (rw [add_block]; exact hn279_1) | (show (Addr.add _ _).block ≠ _; rw [add_block]; exact hn279_1) | exact hn279_1) (.int .i64 ((rd_T50 l1 (ji8)).f1))).trans hx279_2; replace hx279_3 := (cell_far (p := ⟨gb277, 1, none⟩) (by first | (rw [add_block]; exact hn279_1) | (show (Addr.add _ _).block ≠ _; rw [add_block]; exact hn279_1) | exact hn279_1) (.int .i64 ((rd_T50 l1 (ji8)).f1))).trans hx279_3; replace hx279_4 := (cell_far (p := ⟨gb277, 1, none⟩) (by first | (rw [add_block]; exact hn279_1) | (show (Addr.add _ _).block ≠ _; rw [add_block]; exact hn279_1) | exact hn279_1) (.int .i64 ((rd_T50 l1 (ji8)).f1))).trans hx279_4; replace hx279_0 := (cell_far (p := ⟨gb277, 2, none⟩) (by first | (rw [add_block]; exact hn279_2) | (show (Addr.add _ _).block ≠ _; rw [add_block]; exact hn279_2) | exact hn279_2) (.int .i64 ((rd_T50 l1 (ji8)).f2))).trans hx279_0; replace hx279_1 := (cell_far (p := ⟨gb277, 2, none⟩) (by first | (rw [add_block]; exact hn279_2) | (show (Addr.add _ _).block ≠ _; rw [add_block]; exact hn279_2) | exact hn279_2) (.int .i64 ((rd_T50 l1 (ji8)).f2))).trans hx279_1; replace hx279_2 := (cell_far (p := ⟨gb277, 2, none⟩) (by first | (rw [add_block]; exact hn279_2) | (show (Addr.add _ _).block ≠ _; rw [add_block]; exact hn279_2) | exact hn279_2) (.int .i64 ((rd_T50 l1 (ji8)).f2))).trans hx279_2; replace hx279_3 := (cell_far (p := ⟨gb277, 2, none⟩) (by first | (rw [add_block]; exact hn279_2) | (show (Addr.add _ _).block ≠ _; rw [add_block]; exact hn279_2) | exact hn279_2) (.int .i64 ((rd_T50 l1 (ji8)).f2))).trans hx279_3; replace hx279_4 := (cell_far (p := ⟨gb277, 2, none⟩) (by first | (rw [add_block]; exact hn279_2) | (show (Addr.add _ _).block ≠ _; rw [add_block]; exact hn279_2) | exact hn279_2) (.int .i64 ((rd_T50 l1 (ji8)).f2))).trans hx279_4; replace hx279_0 := (cell_far (p := ⟨gb277, 3, none⟩) (by first | (rw [add_block]; exact hn279_3) | (show (Addr.add _ _).block ≠ _; rw [add_block]; exact hn279_3) | exact hn279_3) (.int .i64 ((rd_T50 l1 (ji8)).f3))).trans hx279_0; replace hx279_1 := (cell_far (p := ⟨gb277, 3, none⟩) (by first | (rw [add_block]; exact hn279_3) | (show (Addr.add _ _).block ≠ _; rw [add_block]; exact hn279_3) | exact hn279_3) (.int .i64 ((rd_T50 l1 (ji8)).f3))).trans hx279_1; replace hx279_2 := (cell_far (p := ⟨gb277, 3, none⟩) (by first | (rw [add_block]; exact hn279_3) | (show (Addr.add _ _).block ≠ _; rw [add_block]; exact hn279_3) | exact hn279_3) (.int .i64 ((rd_T50 l1 (ji8)).f3))).trans hx279_2; replace hx279_3 := (cell_far (p := ⟨gb277, 3, none⟩) (by first | (rw [add_block]; exact hn279_3) | (show (Addr.add _ _).block ≠ _; rw [add_block]; exact hn279_3) | exact hn279_3) (.int .i64 ((rd_T50 l1 (ji8)).f3))).trans hx279_3; replace hx279_4 := (cell_far (p := ⟨gb277, 3, none⟩) (by first | (rw [add_block]; exact hn279_3) | (show (Addr.add _ _).block ≠ _; rw [add_block]; exact hn279_3) | exact hn279_3) (.int .i64 ((rd_T50 l1 (ji8)).f3))).trans hx279_4; replace hx279_0 := (cell_far (p := ⟨gb277, 4, none⟩) (by first | (rw [add_block]; exact hn279_4) | (show (Addr.add _ _).block ≠ _; rw [add_block]; exact hn279_4) | exact hn279_4) (.int .i64 ((rd_T50 l1 (ji8)).f4))).trans hx279_0; replace hx279_1 := (cell_far (p := ⟨gb277, 4, none⟩) (by first | (rw [add_block]; exact hn279_4) | (show (Addr.add _ _).block ≠ _; rw [add_block]; exact hn279_4) | exact hn279_4) (.int .i64 ((rd_T50 l1 (ji8)).f4))).trans hx279_1; replace hx279_2 := (cell_far (p := ⟨gb277, 4, none⟩) (by first | (rw [add_block]; exact hn279_4) | (show (Addr.add _ _).block ≠ _; rw [add_block]; exact hn279_4) | exact hn279_4) (.int .i64 ((rd_T50 l1 (ji8)).f4))).trans hx279_2; replace hx279_3 := (cell_far (p := ⟨gb277, 4, none⟩) (by first | (rw [add_block]; exact hn279_4) | (show (Addr.add _ _).block ≠ _; rw [add_block]; exact hn279_4) | exact hn279_4) (.int .i64 ((rd_T50 l1 (ji8)).f4))).trans hx279_3; replace hx279_4 := (cell_far (p := ⟨gb277, 4, none⟩) (by first | (rw [add_block]; exact hn279_4) | (show (Addr.add _ _).block ≠ _; rw [add_block]; exact hn279_4) | exact hn279_4) (.int .i64 ((rd_T50 l1 (ji8)).f4))).trans hx279_4; clear hn279_0; clear hn279_1; clear hn279_2; clear hn279_3; clear hn279_4; replace p279 := eq_true p279; replace q279 := eq_true q279) | ((with_reducible refine gate_dst (N := 13) rfl ?_); refine box_event ?hg (N := 13) ?hd (cs := #[.string (⟨#[]⟩ : ByteArray), .int .i64 0, .int .i64 0, .int .i64 0, .int .i64 0]) (t := 50) ?hr ?_; (case hd => rfl); (case hg => rfl); (case hr => first | (go_simp; done) | (go_simp; rfl)); intro gb280 hg w23 hbox hb; have n0_ := Aside0.mk (Kd.R_below (by (with_reducible repeat (first | apply Kd.R_alloc | apply Kd.R_drewN | apply Kd.R_drew)); exact (Kd.R_mono (Kd.R_far (p := ⟨gb277, 4, none⟩) (Kd.R_far (p := ⟨gb277, 3, none⟩) (Kd.R_far (p := ⟨gb277, 2, none⟩) (Kd.R_far (p := ⟨gb277, 1, none⟩) (Kd.R_far (p := ⟨gb277, 0, none⟩) (Kd.R_types HO274.out BK277.out (by decide)) (fun _ hk => hk.2) (.string ((rd_T50 l1 (ji8)).f0))) (fun _ hk => hk.2) (.int .i64 ((rd_T50 l1 (ji8)).f1))) (fun _ hk => hk.2) (.int .i64 ((rd_T50 l1 (ji8)).f2))) (fun _ hk => hk.2) (.int .i64 ((rd_T50 l1 (ji8)).f3))) (fun _ hk => hk.2) (.int .i64 ((rd_T50 l1 (ji8)).f4))) (fun _ h_ => h_.1))) hb); have n1_ := Aside0.mk (blk_below (g := gb277) (o := .cells #[.string ((rd_T50 l1 (ji8)).f0), .int .i64 ((rd_T50 l1 (ji8)).f1), .int .i64 ((rd_T50 l1 (ji8)).f2), .int .i64 ((rd_T50 l1 (ji8)).f3), .int .i64 ((rd_T50 l1 (ji8)).f4)] 50 (0, 0)) (by (with_reducible repeat (first | refine blk_drewN ?_ _ | refine blk_drew ?_ | refine blk_alloc ?_ _)); refine blk_put (cs := #[.string ((rd_T50 l1 (ji8)).f0), .int .i64 ((rd_T50 l1 (ji8)).f1), .int .i64 ((rd_T50 l1 (ji8)).f2), .int .i64 ((rd_T50 l1 (ji8)).f3), .int .i64 0]) ?_ 4 _ rfl; (with_reducible repeat (first | refine blk_drewN ?_ _ | refine blk_drew ?_ | refine blk_alloc ?_ _)); refine blk_put (cs := #[.string ((rd_T50 l1 (ji8)).f0), .int .i64 ((rd_T50 l1 (ji8)).f1), .int .i64 ((rd_T50 l1 (ji8)).f2), .int .i64 0, .int .i64 0]) ?_ 3 _ rfl; (with_reducible repeat (first | refine blk_drewN ?_ _ | refine blk_drew ?_ | refine blk_alloc ?_ _)); refine blk_put (cs := #[.string ((rd_T50 l1 (ji8)).f0), .int .i64 ((rd_T50 l1 (ji8)).f1), .int .i64 0, .int .i64 0, .int .i64 0]) ?_ 2 _ rfl; (with_reducible repeat (first | refine blk_drewN ?_ _ | refine blk_drew ?_ | refine blk_alloc ?_ _)); refine blk_put (cs := #[.string ((rd_T50 l1 (ji8)).f0), .int .i64 0, .int .i64 0, .int .i64 0, .int .i64 0]) ?_ 1 _ rfl; (with_reducible repeat (first | refine blk_drewN ?_ _ | refine blk_drew ?_ | refine blk_alloc ?_ _)); refine blk_put (cs := #[.string (⟨#[]⟩ : ByteArray), .int .i64 0, .int .i64 0, .int .i64 0, .int .i64 0]) ?_ 0 _ rfl; (with_reducible repeat (first | refine blk_drewN ?_ _ | refine blk_drew ?_ | refine blk_alloc ?_ _)); exact BK277.out) hb); have n2_ := Aside0.mk (below_step (bel1 HB GE277) hb); have n3_ := Aside0.mk (hbox); have n4_ := Aside0.mk ((by rw [hg]; exact (below_size (bel1 HB GE277)) : w.heap.size ≤ gb280)); have n5_ := Aside0.mk ((by rw [hg]; exact (below_size (bel1 HB GE277)) : w.heap.size ≤ gb280)); have n6_ := Aside0.mk ((by rw [hg]; exact Nat.ne_of_lt (blk_lt (g := gb277) (o := .cells #[.string ((rd_T50 l1 (ji8)).f0), .int .i64 ((rd_T50 l1 (ji8)).f1), .int .i64 ((rd_T50 l1 (ji8)).f2), .int .i64 ((rd_T50 l1 (ji8)).f3), .int .i64 ((rd_T50 l1 (ji8)).f4)] 50 (0, 0)) (by (with_reducible repeat (first | refine blk_drewN ?_ _ | refine blk_drew ?_ | refine blk_alloc ?_ _)); refine blk_put (cs := #[.string ((rd_T50 l1 (ji8)).f0), .int .i64 ((rd_T50 l1 (ji8)).f1), .int .i64 ((rd_T50 l1 (ji8)).f2), .int .i64 ((rd_T50 l1 (ji8)).f3), .int .i64 0]) ?_ 4 _ rfl; (with_reducible repeat (first | refine blk_drewN ?_ _ | refine blk_drew ?_ | refine blk_alloc ?_ _)); refine blk_put (cs := #[.string ((rd_T50 l1 (ji8)).f0), .int .i64 ((rd_T50 l1 (ji8)).f1), .int .i64 ((rd_T50 l1 (ji8)).f2), .int .i64 0, .int .i64 0]) ?_ 3 _ rfl; (with_reducible repeat (first | refine blk_drewN ?_ _ | refine blk_drew ?_ | refine blk_alloc ?_ _)); refine blk_put (cs := #[.string ((rd_T50 l1 (ji8)).f0), .int .i64 ((rd_T50 l1 (ji8)).f1), .int .i64 0, .int .i64 0, .int .i64 0]) ?_ 2 _ rfl; (with_reducible repeat (first | refine blk_drewN ?_ _ | refine blk_drew ?_ | refine blk_alloc ?_ _)); refine blk_put (cs := #[.string ((rd_T50 l1 (ji8)).f0), .int .i64 0, .int .i64 0, .int .i64 0, .int .i64 0]) ?_ 1 _ rfl; (with_reducible repeat (first | refine blk_drewN ?_ _ | refine blk_drew ?_ | refine blk_alloc ?_ _)); refine blk_put (cs := #[.string (⟨#[]⟩ : ByteArray), .int .i64 0, .int .i64 0, .int .i64 0, .int .i64 0]) ?_ 0 _ rfl; (with_reducible repeat (first | refine blk_drewN ?_ _ | refine blk_drew ?_ | refine blk_alloc ?_ _)); exact BK277.out)) : gb277 ≠ gb280)); have n7_ := Aside0.mk ((by rw [hg]; exact Nat.ne_of_gt (blk_lt (g := gb277) (o := .cells #[.string ((rd_T50 l1 (ji8)).f0), .int .i64 ((rd_T50 l1 (ji8)).f1), .int .i64 ((rd_T50 l1 (ji8)).f2), .int .i64 ((rd_T50 l1 (ji8)).f3), .int .i64 ((rd_T50 l1 (ji8)).f4)] 50 (0, 0)) (by (with_reducible repeat (first | refine blk_drewN ?_ _ | refine blk_drew ?_ | refine blk_alloc ?_ _)); refine blk_put (cs := #[.string ((rd_T50 l1 (ji8)).f0), .int .i64 ((rd_T50 l1 (ji8)).f1), .int .i64 ((rd_T50 l1 (ji8)).f2), .int .i64 ((rd_T50 l1 (ji8)).f3), .int .i64 0]) ?_ 4 _ rfl; (with_reducible repeat (first | refine blk_drewN ?_ _ | refine blk_drew ?_ | refine blk_alloc ?_ _)); refine blk_put (cs := #[.string ((rd_T50 l1 (ji8)).f0), .int .i64 ((rd_T50 l1 (ji8)).f1), .int .i64 ((rd_T50 l1 (ji8)).f2), .int .i64 0, .int .i64 0]) ?_ 3 _ rfl; (with_reducible repeat (first | refine blk_drewN ?_ _ | refine blk_drew ?_ | refine blk_alloc ?_ _)); refine blk_put (cs := #[.string ((rd_T50 l1 (ji8)).f0), .int .i64 ((rd_T50 l1 (ji8)).f1), .int .i64 0, .int .i64 0, .int .i64 0]) ?_ 2 _ rfl; (with_reducible repeat (first | refine blk_drewN ?_ _ | refine blk_drew ?_ | refine blk_alloc ?_ _)); refine blk_put (cs := #[.string ((rd_T50 l1 (ji8)).f0), .int .i64 0, .int .i64 0, .int .i64 0, .int .i64 0]) ?_ 1 _ rfl; (with_reducible repeat (first | refine blk_drewN ?_ _ | refine blk_drew ?_ | refine blk_alloc ?_ _)); refine blk_put (cs := #[.string (⟨#[]⟩ : ByteArray), .int .i64 0, .int .i64 0, .int .i64 0, .int .i64 0]) ?_ 0 _ rfl; (with_reducible repeat (first | refine blk_drewN ?_ _ | refine blk_drew ?_ | refine blk_alloc ?_ _)); exact BK277.out)) : gb280 ≠ gb277)); clear HO274; clear BK277; clear HB; have HO274 := n0_; have BK277 := n1_; have HB := n2_; have BK280 := n3_; have GW280 := n4_; have GE280 := n5_; have NB277_280 := n6_; have NB280_277 := n7_; clear n0_ n1_ n2_ n3_ n4_ n5_ n6_ n7_; clear hb hbox hg; have hnb24 := NB280_277.out; have hnc24 := NB277_280.out; have hcz25_0 : w23.cell? ⟨gb280, 0, none⟩ = some (.string (⟨#[]⟩ : ByteArray)) := (blk_cell BK280.out 0).trans rfl; have hcz25_1 : w23.cell? ⟨gb280, 1, none⟩ = some (.int .i64 0) := (blk_cell BK280.out 1).trans rfl; have hcz25_2 : w23.cell? ⟨gb280, 2, none⟩ = some (.int .i64 0) := (blk_cell BK280.out 2).trans rfl; have hcz25_3 : w23.cell? ⟨gb280, 3, none⟩ = some (.int .i64 0) := (blk_cell BK280.out 3).trans rfl; have hcz25_4 : w23.cell? ⟨gb280, 4, none⟩ = some (.int .i64 0) := (blk_cell BK280.out 4).trans rfl; have hfz25_0 := blk_frozen BK280.out 0; have hfz25_1 := blk_frozen BK280.out 1; have hfz25_2 := blk_frozen BK280.out 2; have hfz25_3 := blk_frozen BK280.out 3; have hfz25_4 := blk_frozen BK280.out 4; have hcz26_0 : w23.cell? ⟨gb277, 0, none⟩ = some (.string ((rd_T50 l1 (ji8)).f0)) := (blk_cell BK277.out 0).trans rfl; have hcz26_1 : w23.cell? ⟨gb277, 1, none⟩ = some (.int .i64 ((rd_T50 l1 (ji8)).f1)) := (blk_cell BK277.out 1).trans rfl; have hcz26_2 : w23.cell? ⟨gb277, 2, none⟩ = some (.int .i64 ((rd_T50 l1 (ji8)).f2)) := (blk_cell BK277.out 2).trans rfl; have hcz26_3 : w23.cell? ⟨gb277, 3, none⟩ = some (.int .i64 ((rd_T50 l1 (ji8)).f3)) := (blk_cell BK277.out 3).trans rfl; have hcz26_4 : w23.cell? ⟨gb277, 4, none⟩ = some (.int .i64 ((rd_T50 l1 (ji8)).f4)) := (blk_cell BK277.out 4).trans rfl; have hfz26_0 := blk_frozen BK277.out 0; have hfz26_1 := blk_frozen BK277.out 1; have hfz26_2 := blk_frozen BK277.out 2; have hfz26_3 := blk_frozen BK277.out 3; have hfz26_4 := blk_frozen BK277.out 4))
          (try simp only [Act.put, List.setIfInBounds_toArray, List.set_cons_zero, List.set_cons_succ])
          go_cut [11] (fun v11 wc => ∃ (kq : Nat) (x11_17 : List Int), Aside0 (impl_brokenRules.j0 kq a2 a3 x11_17 ((rd_T50 l1 (ji8)).f0) ((rd_T50 l1 (ji8)).f1) ((rd_T50 l1 (ji8)).f2) ((rd_T50 l1 (ji8)).f3) ((rd_T50 l1 (ji8)).f4) ((rd_T50 l1 (ji15)).f0) ((rd_T50 l1 (ji15)).f1) ((rd_T50 l1 (ji15)).f2) ((rd_T50 l1 (ji15)).f3) ((rd_T50 l1 (ji15)).f4) = some r) ∧ Aside0 (kq ≤ k) ∧ Aside0 (Kd.R (Kd.int .i64) 3 wc w.heap.size (fun _ => True) v11 x11_17) ∧ Aside0 (wc.heap[gb277]? = some (.cells #[.string ((rd_T50 l1 (ji8)).f0), .int .i64 ((rd_T50 l1 (ji8)).f1), .int .i64 ((rd_T50 l1 (ji8)).f2), .int .i64 ((rd_T50 l1 (ji8)).f3), .int .i64 ((rd_T50 l1 (ji8)).f4)] 50 (0, 0))) ∧ Aside0 (wc.heap[gb280]? = some (.cells #[.string ((rd_T50 l1 (ji15)).f0), .int .i64 ((rd_T50 l1 (ji15)).f1), .int .i64 ((rd_T50 l1 (ji15)).f2), .int .i64 ((rd_T50 l1 (ji15)).f3), .int .i64 ((rd_T50 l1 (ji15)).f4)] 50 (0, 0))) ∧ Aside0 (Below w.heap.size w wc))
          case first =>
           have H := HC18.out
           clear HC18
           by_cases c27 : ((rd_T50 l1 (ji8)).f2) > ((rd_T50 l1 (ji15)).f2)
           ·rw [if_pos c27] at H
            have c27b0 : decide (((rd_T50 l1 (ji15)).f2) < ((rd_T50 l1 (ji8)).f2)) = true := decide_eq_true c27
            clear c27
            (first | rw [c27b0] | (simp only [i64_w, i32_w]; rw [c27b0]) | skip)
            by_cases c28 : y272.length < 17592186044416
            ·rw [if_pos c28] at H
             have LMc28 := Aside0.mk c28
             clear c28
             obtain ⟨y281, hy281⟩ : ∃ y_ : List Int, y_ = (y272 ++ [1]) := ⟨_, rfl⟩
             replace H : (impl_brokenRules.j0 k a2 a3 y281 ((rd_T50 l1 (ji8)).f0) ((rd_T50 l1 (ji8)).f1) ((rd_T50 l1 (ji8)).f2) ((rd_T50 l1 (ji8)).f3) ((rd_T50 l1 (ji8)).f4) ((rd_T50 l1 (ji15)).f0) ((rd_T50 l1 (ji15)).f1) ((rd_T50 l1 (ji15)).f2) ((rd_T50 l1 (ji15)).f3) ((rd_T50 l1 (ji15)).f4)) = some r := by first | (rw [hy281]; with_reducible exact H) | (have H2_ := (Option.bind_some _ _).symm.trans H; rw [hy281]; with_reducible exact H2_) | (have H2_ := (Option.bind_some _ _).symm.trans H; with_reducible exact H2_) | with_reducible exact H | (rw [hy281]; exact H) | exact H
             have Ny281 := Aside0.mk hy281
             clear hy281
             have H' := Aside0.mk H
             clear H
             go_wp2_with (first | ((with_reducible refine gate_builtin (b := .append) (xs := #[.tmp 39, .tmp 40]) rfl ?_); at_builtin; refine Kd.R_append (Kd.int .i64) (w0 := w) w.heap.size rfl (.tmp 39) (.tmp 40) 47 3 (.int .i64 0) 8 rfl Try.underlying47 info3 rfl (by decide) (by omega) v273 y272 1 [.int .i64 1] (fun _ => True) (fun _ => False) rfl (by first | (go_simp; done) | (go_simp; rfl)) ?aP (fun _ hk => hk.elim) ?aF ?aO ?aB ?aS ?aL ?_; (case aP => exact rfl); (case aB => exact (bel2 HB GE277 GE280)); (case aF => exact (fun _ _ => trivial)); (case aO => exact (by (with_reducible repeat (first | apply Kd.R_alloc | apply Kd.R_drewN | apply Kd.R_drew)); exact Kd.R_mono (Kd.R_far (p := ⟨gb280, 4, none⟩) (Kd.R_far (p := ⟨gb280, 3, none⟩) (Kd.R_far (p := ⟨gb280, 2, none⟩) (Kd.R_far (p := ⟨gb280, 1, none⟩) (Kd.R_far (p := ⟨gb280, 0, none⟩) (Kd.R_types HO274.out BK280.out (by decide)) (fun _ hk => hk.2) (.string ((rd_T50 l1 (ji15)).f0))) (fun _ hk => hk.2) (.int .i64 ((rd_T50 l1 (ji15)).f1))) (fun _ hk => hk.2) (.int .i64 ((rd_T50 l1 (ji15)).f2))) (fun _ hk => hk.2) (.int .i64 ((rd_T50 l1 (ji15)).f3))) (fun _ hk => hk.2) (.int .i64 ((rd_T50 l1 (ji15)).f4))) (fun _ hk => trivial))); (case aS => exact (below_size (bel2 HB GE277 GE280))); (case aL => have := LMc28.out; omega); intro v282 w29 ho hb hg hat; rw [← Ny281.out] at ho; have n0_ := Aside0.mk (blk_grown (g := gb277) (o := .cells #[.string ((rd_T50 l1 (ji8)).f0), .int .i64 ((rd_T50 l1 (ji8)).f1), .int .i64 ((rd_T50 l1 (ji8)).f2), .int .i64 ((rd_T50 l1 (ji8)).f3), .int .i64 ((rd_T50 l1 (ji8)).f4)] 50 (0, 0)) (by (with_reducible repeat (first | refine blk_drewN ?_ _ | refine blk_drew ?_ | refine blk_alloc ?_ _)); refine blk_far ?_ NB277_280.out _; (with_reducible repeat (first | refine blk_drewN ?_ _ | refine blk_drew ?_ | refine blk_alloc ?_ _)); refine blk_far ?_ NB277_280.out _; (with_reducible repeat (first | refine blk_drewN ?_ _ | refine blk_drew ?_ | refine blk_alloc ?_ _)); refine blk_far ?_ NB277_280.out _; (with_reducible repeat (first | refine blk_drewN ?_ _ | refine blk_drew ?_ | refine blk_alloc ?_ _)); refine blk_far ?_ NB277_280.out _; (with_reducible repeat (first | refine blk_drewN ?_ _ | refine blk_drew ?_ | refine blk_alloc ?_ _)); refine blk_far ?_ NB277_280.out _; (with_reducible repeat (first | refine blk_drewN ?_ _ | refine blk_drew ?_ | refine blk_alloc ?_ _)); exact BK277.out) hg (Kd.R_ne HO274.out BK277.out (by decide))); have n1_ := Aside0.mk (blk_grown (g := gb280) (o := .cells #[.string ((rd_T50 l1 (ji15)).f0), .int .i64 ((rd_T50 l1 (ji15)).f1), .int .i64 ((rd_T50 l1 (ji15)).f2), .int .i64 ((rd_T50 l1 (ji15)).f3), .int .i64 ((rd_T50 l1 (ji15)).f4)] 50 (0, 0)) (by (with_reducible repeat (first | refine blk_drewN ?_ _ | refine blk_drew ?_ | refine blk_alloc ?_ _)); refine blk_put (cs := #[.string ((rd_T50 l1 (ji15)).f0), .int .i64 ((rd_T50 l1 (ji15)).f1), .int .i64 ((rd_T50 l1 (ji15)).f2), .int .i64 ((rd_T50 l1 (ji15)).f3), .int .i64 0]) ?_ 4 _ rfl; (with_reducible repeat (first | refine blk_drewN ?_ _ | refine blk_drew ?_ | refine blk_alloc ?_ _)); refine blk_put (cs := #[.string ((rd_T50 l1 (ji15)).f0), .int .i64 ((rd_T50 l1 (ji15)).f1), .int .i64 ((rd_T50 l1 (ji15)).f2), .int .i64 0, .int .i64 0]) ?_ 3 _ rfl; (with_reducible repeat (first | refine blk_drewN ?_ _ | refine blk_drew ?_ | refine blk_alloc ?_ _)); refine blk_put (cs := #[.string ((rd_T50 l1 (ji15)).f0), .int .i64 ((rd_T50 l1 (ji15)).f1), .int .i64 0, .int .i64 0, .int .i64 0]) ?_ 2 _ rfl; (with_reducible repeat (first | refine blk_drewN ?_ _ | refine blk_drew ?_ | refine blk_alloc ?_ _)); refine blk_put (cs := #[.string ((rd_T50 l1 (ji15)).f0), .int .i64 0, .int .i64 0, .int .i64 0, .int .i64 0]) ?_ 1 _ rfl; (with_reducible repeat (first | refine blk_drewN ?_ _ | refine blk_drew ?_ | refine blk_alloc ?_ _)); refine blk_put (cs := #[.string (⟨#[]⟩ : ByteArray), .int .i64 0, .int .i64 0, .int .i64 0, .int .i64 0]) ?_ 0 _ rfl; (with_reducible repeat (first | refine blk_drewN ?_ _ | refine blk_drew ?_ | refine blk_alloc ?_ _)); exact BK280.out) hg (Kd.R_ne HO274.out BK280.out (by decide))); have n2_ := Aside0.mk (hb); have n3_ := Aside0.mk (ho); clear BK277; clear BK280; clear HB; clear HO274; have BK277 := n0_; have BK280 := n1_; have HB := n2_; have HO283 := n3_; clear n0_ n1_ n2_ n3_; clear ho hb hg hat))
             go_meet
             case rel => exact ⟨_, (y281), H', ⟨by first | omega | exact Nat.le_refl _⟩, ⟨rdl HO283⟩, ⟨bkl BK277⟩, ⟨bkl BK280⟩, ⟨bel2 HB GE277 GE280⟩⟩
            ·rw [if_neg c28] at H
             exact absurd H (by simp)
           ·rw [if_neg c27] at H
            have c27b0 : decide (((rd_T50 l1 (ji15)).f2) < ((rd_T50 l1 (ji8)).f2)) = false := decide_eq_false c27
            clear c27
            (first | rw [c27b0] | (simp only [i64_w, i32_w]; rw [c27b0]) | skip)
            have H' := Aside0.mk H
            clear H
            go_wp2
            go_meet
            case rel => exact ⟨_, (y272), H', ⟨by first | omega | exact Nat.le_refl _⟩, ⟨by (with_reducible repeat (first | apply Kd.R_alloc | apply Kd.R_drewN | apply Kd.R_drew)); exact Kd.R_mono (Kd.R_far (p := ⟨gb280, 4, none⟩) (Kd.R_far (p := ⟨gb280, 3, none⟩) (Kd.R_far (p := ⟨gb280, 2, none⟩) (Kd.R_far (p := ⟨gb280, 1, none⟩) (Kd.R_far (p := ⟨gb280, 0, none⟩) (Kd.R_types HO274.out BK280.out (by decide)) (fun _ hk => hk.2) (.string ((rd_T50 l1 (ji15)).f0))) (fun _ hk => hk.2) (.int .i64 ((rd_T50 l1 (ji15)).f1))) (fun _ hk => hk.2) (.int .i64 ((rd_T50 l1 (ji15)).f2))) (fun _ hk => hk.2) (.int .i64 ((rd_T50 l1 (ji15)).f3))) (fun _ hk => hk.2) (.int .i64 ((rd_T50 l1 (ji15)).f4))) (fun _ hk => trivial)⟩, ⟨by (with_reducible repeat (first | refine blk_drewN ?_ _ | refine blk_drew ?_ | refine blk_alloc ?_ _)); refine blk_far ?_ NB277_280.out _; (with_reducible repeat (first | refine blk_drewN ?_ _ | refine blk_drew ?_ | refine blk_alloc ?_ _)); refine blk_far ?_ NB277_280.out _; (with_reducible repeat (first | refine blk_drewN ?_ _ | refine blk_drew ?_ | refine blk_alloc ?_ _)); refine blk_far ?_ NB277_280.out _; (with_reducible repeat (first | refine blk_drewN ?_ _ | refine blk_drew ?_ | refine blk_alloc ?_ _)); refine blk_far ?_ NB277_280.out _; (with_reducible repeat (first | refine blk_drewN ?_ _ | refine blk_drew ?_ | refine blk_alloc ?_ _)); refine blk_far ?_ NB277_280.out _; (with_reducible repeat (first | refine blk_drewN ?_ _ | refine blk_drew ?_ | refine blk_alloc ?_ _)); exact BK277.out⟩, ⟨by (with_reducible repeat (first | refine blk_drewN ?_ _ | refine blk_drew ?_ | refine blk_alloc ?_ _)); refine blk_put (cs := #[.string ((rd_T50 l1 (ji15)).f0), .int .i64 ((rd_T50 l1 (ji15)).f1), .int .i64 ((rd_T50 l1 (ji15)).f2), .int .i64 ((rd_T50 l1 (ji15)).f3), .int .i64 0]) ?_ 4 _ rfl; (with_reducible repeat (first | refine blk_drewN ?_ _ | refine blk_drew ?_ | refine blk_alloc ?_ _)); refine blk_put (cs := #[.string ((rd_T50 l1 (ji15)).f0), .int .i64 ((rd_T50 l1 (ji15)).f1), .int .i64 ((rd_T50 l1 (ji15)).f2), .int .i64 0, .int .i64 0]) ?_ 3 _ rfl; (with_reducible repeat (first | refine blk_drewN ?_ _ | refine blk_drew ?_ | refine blk_alloc ?_ _)); refine blk_put (cs := #[.string ((rd_T50 l1 (ji15)).f0), .int .i64 ((rd_T50 l1 (ji15)).f1), .int .i64 0, .int .i64 0, .int .i64 0]) ?_ 2 _ rfl; (with_reducible repeat (first | refine blk_drewN ?_ _ | refine blk_drew ?_ | refine blk_alloc ?_ _)); refine blk_put (cs := #[.string ((rd_T50 l1 (ji15)).f0), .int .i64 0, .int .i64 0, .int .i64 0, .int .i64 0]) ?_ 1 _ rfl; (with_reducible repeat (first | refine blk_drewN ?_ _ | refine blk_drew ?_ | refine blk_alloc ?_ _)); refine blk_put (cs := #[.string (⟨#[]⟩ : ByteArray), .int .i64 0, .int .i64 0, .int .i64 0, .int .i64 0]) ?_ 0 _ rfl; (with_reducible repeat (first | refine blk_drewN ?_ _ | refine blk_drew ?_ | refine blk_alloc ?_ _)); exact BK280.out⟩, ⟨bel2 HB GE277 GE280⟩⟩
          case rest =>
           clear HC18
           try clear c1
           try clear c2
           try clear p2
           try clear q2
           try clear hx2
           try clear c4
           try clear c6
           try clear c6b0
           try clear p6
           try clear c7
           try clear c7b0
           try clear c9
           try clear c9b0
           try clear c10
           try clear c10b0
           try clear c11
           try clear c11b0
           try clear c13
           try clear c13b0
           try clear c14
           try clear c14b0
           try clear c16
           try clear c16b0
           try clear c17
           try clear c17b0
           try clear c24
           try clear c27
           try clear c27b0
           try clear p27
           try clear q27
           try clear hx27
           try clear c28
           try clear hcz22_0
           try clear hcz22_1
           try clear hcz22_2
           try clear hcz22_3
           try clear hcz22_4
           try clear hcz25_0
           try clear hcz25_1
           try clear hcz25_2
           try clear hcz25_3
           try clear hcz25_4
           try clear hcz26_0
           try clear hcz26_1
           try clear hcz26_2
           try clear hcz26_3
           try clear hcz26_4
           try clear hfz22_0
           try clear hfz22_1
           try clear hfz22_2
           try clear hfz22_3
           try clear hfz22_4
           try clear hfz25_0
           try clear hfz25_1
           try clear hfz25_2
           try clear hfz25_3
           try clear hfz25_4
           try clear hfz26_0
           try clear hfz26_1
           try clear hfz26_2
           try clear hfz26_3
           try clear hfz26_4
           try clear hx275_0
           try clear hx276_0
           try clear hx276_1
           try clear hx276_2
           try clear hx276_3
           try clear hx276_4
           try clear hx278_0
           try clear hx279_0
           try clear hx279_1
           try clear hx279_2
           try clear hx279_3
           try clear hx279_4
           try clear p275
           try clear p276
           try clear p278
           try clear p279
           try clear q275
           try clear q276
           try clear q278
           try clear q279
           obtain ⟨kq, x11_17, HA, HJ17, HO_11, BK277, BK280, HB⟩ := hcut
           cases kq with
           | zero => exact absurd HA.out (by simp [impl_brokenRules.j0])
           | succ kj17 =>
            have H := HA.out
            clear HA
            simp only [impl_brokenRules.j0] at H
            have HC30 := Aside0.mk H
            clear H
            have hnb31 := NB277_280.out
            have hnc31 := NB280_277.out
            have hcz32_0 : wc.cell? ⟨gb277, 0, none⟩ = some (.string ((rd_T50 l1 (ji8)).f0)) := (blk_cell BK277.out 0).trans rfl
            have hcz32_1 : wc.cell? ⟨gb277, 1, none⟩ = some (.int .i64 ((rd_T50 l1 (ji8)).f1)) := (blk_cell BK277.out 1).trans rfl
            have hcz32_2 : wc.cell? ⟨gb277, 2, none⟩ = some (.int .i64 ((rd_T50 l1 (ji8)).f2)) := (blk_cell BK277.out 2).trans rfl
            have hcz32_3 : wc.cell? ⟨gb277, 3, none⟩ = some (.int .i64 ((rd_T50 l1 (ji8)).f3)) := (blk_cell BK277.out 3).trans rfl
            have hcz32_4 : wc.cell? ⟨gb277, 4, none⟩ = some (.int .i64 ((rd_T50 l1 (ji8)).f4)) := (blk_cell BK277.out 4).trans rfl
            have hfz32_0 := blk_frozen BK277.out 0
            have hfz32_1 := blk_frozen BK277.out 1
            have hfz32_2 := blk_frozen BK277.out 2
            have hfz32_3 := blk_frozen BK277.out 3
            have hfz32_4 := blk_frozen BK277.out 4
            have hcz33_0 : wc.cell? ⟨gb280, 0, none⟩ = some (.string ((rd_T50 l1 (ji15)).f0)) := (blk_cell BK280.out 0).trans rfl
            have hcz33_1 : wc.cell? ⟨gb280, 1, none⟩ = some (.int .i64 ((rd_T50 l1 (ji15)).f1)) := (blk_cell BK280.out 1).trans rfl
            have hcz33_2 : wc.cell? ⟨gb280, 2, none⟩ = some (.int .i64 ((rd_T50 l1 (ji15)).f2)) := (blk_cell BK280.out 2).trans rfl
            have hcz33_3 : wc.cell? ⟨gb280, 3, none⟩ = some (.int .i64 ((rd_T50 l1 (ji15)).f3)) := (blk_cell BK280.out 3).trans rfl
            have hcz33_4 : wc.cell? ⟨gb280, 4, none⟩ = some (.int .i64 ((rd_T50 l1 (ji15)).f4)) := (blk_cell BK280.out 4).trans rfl
            have hfz33_0 := blk_frozen BK280.out 0
            have hfz33_1 := blk_frozen BK280.out 1
            have hfz33_2 := blk_frozen BK280.out 2
            have hfz33_3 := blk_frozen BK280.out 3
            have hfz33_4 := blk_frozen BK280.out 4
            go_upto_if 46 with (fail)
            go_cut [11] (fun v11 wc => ∃ (kq : Nat) (x11_29 : List Int), Aside0 (impl_brokenRules.j1 kq a2 a3 x11_29 ((rd_T50 l1 (ji8)).f0) ((rd_T50 l1 (ji8)).f1) ((rd_T50 l1 (ji8)).f2) ((rd_T50 l1 (ji8)).f3) ((rd_T50 l1 (ji8)).f4) = some r) ∧ Aside0 (kq ≤ kj17) ∧ Aside0 (Kd.R (Kd.int .i64) 3 wc w.heap.size (fun _ => True) v11 x11_29) ∧ Aside0 (wc.heap[gb277]? = some (.cells #[.string ((rd_T50 l1 (ji8)).f0), .int .i64 ((rd_T50 l1 (ji8)).f1), .int .i64 ((rd_T50 l1 (ji8)).f2), .int .i64 ((rd_T50 l1 (ji8)).f3), .int .i64 ((rd_T50 l1 (ji8)).f4)] 50 (0, 0))) ∧ Aside0 (wc.heap[gb280]? = some (.cells #[.string ((rd_T50 l1 (ji15)).f0), .int .i64 ((rd_T50 l1 (ji15)).f1), .int .i64 ((rd_T50 l1 (ji15)).f2), .int .i64 ((rd_T50 l1 (ji15)).f3), .int .i64 ((rd_T50 l1 (ji15)).f4)] 50 (0, 0))) ∧ Aside0 (Below w.heap.size w wc))
            case first =>
             have H := HC30.out
             clear HC30
             by_cases c34 : ((rd_T50 l1 (ji8)).f1) = ((rd_T50 l1 (ji15)).f1)
             ·rw [if_pos c34] at H
              have c34b0 : (((rd_T50 l1 (ji8)).f1) == ((rd_T50 l1 (ji15)).f1)) = true := beq_iff_eq.mpr c34
              have c34b1 : (((rd_T50 l1 (ji8)).f1) != ((rd_T50 l1 (ji15)).f1)) = false := bne_eq_false_iff_eq.mpr c34
              clear c34
              (first | rw [c34b0] | (simp only [i64_w, i32_w]; rw [c34b0]) | skip)
              have H' := Aside0.mk H
              clear H
              go_wp2
              go_meet
              case rel => exact ⟨_, (x11_17), H', ⟨by have := HJ17.out; first | omega | exact Nat.le_refl _⟩, ⟨rdl HO_11⟩, ⟨bkl BK277⟩, ⟨bkl BK280⟩, ⟨bel2 HB GE277 GE280⟩⟩
             ·rw [if_neg c34] at H
              have c34b0 : (((rd_T50 l1 (ji8)).f1) == ((rd_T50 l1 (ji15)).f1)) = false := beq_eq_false_iff_ne.mpr c34
              have c34b1 : (((rd_T50 l1 (ji8)).f1) != ((rd_T50 l1 (ji15)).f1)) = true := bne_iff_ne.mpr c34
              (first | rw [c34b0] | (simp only [i64_w, i32_w]; rw [c34b0]) | skip)
              by_cases c35 : x11_17.length < 17592186044416
              ·rw [if_pos c35] at H
               have LMc35 := Aside0.mk c35
               clear c35
               obtain ⟨y284, hy284⟩ : ∃ y_ : List Int, y_ = (x11_17 ++ [2]) := ⟨_, rfl⟩
               replace H : (impl_brokenRules.j1 kj17 a2 a3 y284 ((rd_T50 l1 (ji8)).f0) ((rd_T50 l1 (ji8)).f1) ((rd_T50 l1 (ji8)).f2) ((rd_T50 l1 (ji8)).f3) ((rd_T50 l1 (ji8)).f4)) = some r := by first | (rw [hy284]; with_reducible exact H) | (have H2_ := (Option.bind_some _ _).symm.trans H; rw [hy284]; with_reducible exact H2_) | (have H2_ := (Option.bind_some _ _).symm.trans H; with_reducible exact H2_) | with_reducible exact H | (rw [hy284]; exact H) | exact H
               have Ny284 := Aside0.mk hy284
               clear hy284
               have H' := Aside0.mk H
               clear H
               go_wp2_with (first | ((with_reducible refine gate_builtin (b := .append) (xs := #[.tmp 47, .tmp 48]) rfl ?_); at_builtin; refine Kd.R_append (Kd.int .i64) (w0 := w) w.heap.size rfl (.tmp 47) (.tmp 48) 47 3 (.int .i64 0) 8 rfl Try.underlying47 info3 rfl (by decide) (by omega) u11 x11_17 2 [.int .i64 2] (fun _ => True) (fun _ => False) rfl rfl ?aP (fun _ hk => hk.elim) ?aF ?aO ?aB ?aS ?aL ?_; (case aP => exact rfl); (case aB => exact (bel2 HB GE277 GE280)); (case aF => exact (fun _ _ => trivial)); (case aO => exact (rdl HO_11)); (case aS => exact (below_size (bel2 HB GE277 GE280))); (case aL => have := LMc35.out; omega); intro v285 w36 ho hb hg hat; rw [← Ny284.out] at ho; have n0_ := Aside0.mk (blk_grown (g := gb277) (o := .cells #[.string ((rd_T50 l1 (ji8)).f0), .int .i64 ((rd_T50 l1 (ji8)).f1), .int .i64 ((rd_T50 l1 (ji8)).f2), .int .i64 ((rd_T50 l1 (ji8)).f3), .int .i64 ((rd_T50 l1 (ji8)).f4)] 50 (0, 0)) (bkl BK277) hg (Kd.R_ne HO_11.out BK277.out (by decide))); have n1_ := Aside0.mk (blk_grown (g := gb280) (o := .cells #[.string ((rd_T50 l1 (ji15)).f0), .int .i64 ((rd_T50 l1 (ji15)).f1), .int .i64 ((rd_T50 l1 (ji15)).f2), .int .i64 ((rd_T50 l1 (ji15)).f3), .int .i64 ((rd_T50 l1 (ji15)).f4)] 50 (0, 0)) (bkl BK280) hg (Kd.R_ne HO_11.out BK280.out (by decide))); have n2_ := Aside0.mk (hb); have n3_ := Aside0.mk (ho); clear BK277; clear BK280; clear HB; clear HO_11; have BK277 := n0_; have BK280 := n1_; have HB := n2_; have HO286 := n3_; clear n0_ n1_ n2_ n3_; clear ho hb hg hat))
               go_meet
               case rel => exact ⟨_, (y284), H', ⟨by have := HJ17.out; first | omega | exact Nat.le_refl _⟩, ⟨rdl HO286⟩, ⟨bkl BK277⟩, ⟨bkl BK280⟩, ⟨bel2 HB GE277 GE280⟩⟩
              ·rw [if_neg c35] at H
               exact absurd H (by simp)
            case rest =>
             clear HC30
             try clear c1
             try clear c2
             try clear p2
             try clear q2
             try clear hx2
             try clear c3
             try clear c4
             try clear c6
             try clear c6b0
             try clear p6
             try clear c7
             try clear c7b0
             try clear c9
             try clear c9b0
             try clear c10
             try clear c10b0
             try clear c11
             try clear c11b0
             try clear c13
             try clear c13b0
             try clear c14
             try clear c14b0
             try clear c16
             try clear c16b0
             try clear c17
             try clear c17b0
             try clear c24
             try clear c27
             try clear c27b0
             try clear p27
             try clear q27
             try clear hx27
             try clear c28
             try clear c31
             try clear c34
             try clear c34b0
             try clear c34b1
             try clear c35
             try clear hcz22_0
             try clear hcz22_1
             try clear hcz22_2
             try clear hcz22_3
             try clear hcz22_4
             try clear hcz25_0
             try clear hcz25_1
             try clear hcz25_2
             try clear hcz25_3
             try clear hcz25_4
             try clear hcz26_0
             try clear hcz26_1
             try clear hcz26_2
             try clear hcz26_3
             try clear hcz26_4
             try clear hcz32_0
             try clear hcz32_1
             try clear hcz32_2
             try clear hcz32_3
             try clear hcz32_4
             try clear hcz33_0
             try clear hcz33_1
             try clear hcz33_2
             try clear hcz33_3
             try clear hcz33_4
             try clear hfz22_0
             try clear hfz22_1
             try clear hfz22_2
             try clear hfz22_3
             try clear hfz22_4
             try clear hfz25_0
             try clear hfz25_1
             try clear hfz25_2
             try clear hfz25_3
             try clear hfz25_4
             try clear hfz26_0
             try clear hfz26_1
             try clear hfz26_2
             try clear hfz26_3
             try clear hfz26_4
             try clear hfz32_0
             try clear hfz32_1
             try clear hfz32_2
             try clear hfz32_3
             try clear hfz32_4
             try clear hfz33_0
             try clear hfz33_1
             try clear hfz33_2
             try clear hfz33_3
             try clear hfz33_4
             try clear hx275_0
             try clear hx276_0
             try clear hx276_1
             try clear hx276_2
             try clear hx276_3
             try clear hx276_4
             try clear hx278_0
             try clear hx279_0
             try clear hx279_1
             try clear hx279_2
             try clear hx279_3
             try clear hx279_4
             try clear p2
             try clear p27
             try clear p275
             try clear p276
             try clear p278
             try clear p279
             try clear p6
             try clear q2
             try clear q27
             try clear q275
             try clear q276
             try clear q278
             try clear q279
             obtain ⟨kq, x11_29, HA, HJ29, HO_11, BK277, BK280, HB⟩ := hcut
             cases kq with
             | zero => exact absurd HA.out (by simp [impl_brokenRules.j1])
             | succ kj29 =>
              have H := HA.out
              clear HA
              simp only [impl_brokenRules.j1] at H
              by_cases c37 : ((rd_T50 l1 (ji8)).f3) = 3
              ·rw [if_pos c37] at H
               have c37b0 : (((rd_T50 l1 (ji8)).f3) == 3) = true := beq_iff_eq.mpr c37
               have c37b1 : (((rd_T50 l1 (ji8)).f3) != 3) = false := bne_eq_false_iff_eq.mpr c37
               clear c37
               by_cases c38 : x11_29.length < 17592186044416
               ·rw [if_pos c38] at H
                have LMc38 := Aside0.mk c38
                clear c38
                obtain ⟨y287, hy287⟩ : ∃ y_ : List Int, y_ = (x11_29 ++ [3]) := ⟨_, rfl⟩
                replace H : (if ((rd_T50 l1 (ji8)).f3) = 2 then (if a3 ≥ a2 then (if y287.length < 17592186044416 then (some (y287 ++ [4])) else (none)) else (some y287)) else (some y287)) = some r := by first | (rw [hy287]; with_reducible exact H) | (have H2_ := (Option.bind_some _ _).symm.trans H; rw [hy287]; with_reducible exact H2_) | (have H2_ := (Option.bind_some _ _).symm.trans H; with_reducible exact H2_) | with_reducible exact H | (rw [hy287]; exact H) | exact H
                have Ny287 := Aside0.mk hy287
                clear hy287
                by_cases c39 : ((rd_T50 l1 (ji8)).f3) = 2
                ·rw [if_pos c39] at H
                 have c39b0 : (((rd_T50 l1 (ji8)).f3) == 2) = true := beq_iff_eq.mpr c39
                 have c39b1 : (((rd_T50 l1 (ji8)).f3) != 2) = false := bne_eq_false_iff_eq.mpr c39
                 clear c39
                 by_cases c40 : a3 ≥ a2
                 ·rw [if_pos c40] at H
                  have c40b0 : decide (a2 ≤ a3) = true := decide_eq_true c40
                  clear c40
                  by_cases c41 : y287.length < 17592186044416
                  ·rw [if_pos c41] at H
                   have LMc41 := Aside0.mk c41
                   clear c41
                   obtain ⟨y290, hy290⟩ : ∃ y_ : List Int, y_ = (y287 ++ [4]) := ⟨_, rfl⟩
                   replace H : (some y290) = some r := by first | (rw [hy290]; with_reducible exact H) | (have H2_ := (Option.bind_some _ _).symm.trans H; rw [hy290]; with_reducible exact H2_) | (have H2_ := (Option.bind_some _ _).symm.trans H; with_reducible exact H2_) | with_reducible exact H | (rw [hy290]; exact H) | exact H
                   have Ny290 := Aside0.mk hy290
                   clear hy290
                   obtain rfl := Option.some.inj H
                   have hnb42 := NB277_280.out
                   have hnc42 := NB280_277.out
                   have hcz43_0 : wc.cell? ⟨gb277, 0, none⟩ = some (.string ((rd_T50 l1 (ji8)).f0)) := (blk_cell BK277.out 0).trans rfl
                   have hcz43_1 : wc.cell? ⟨gb277, 1, none⟩ = some (.int .i64 ((rd_T50 l1 (ji8)).f1)) := (blk_cell BK277.out 1).trans rfl
                   have hcz43_2 : wc.cell? ⟨gb277, 2, none⟩ = some (.int .i64 ((rd_T50 l1 (ji8)).f2)) := (blk_cell BK277.out 2).trans rfl
                   have hcz43_3 : wc.cell? ⟨gb277, 3, none⟩ = some (.int .i64 ((rd_T50 l1 (ji8)).f3)) := (blk_cell BK277.out 3).trans rfl
                   have hcz43_4 : wc.cell? ⟨gb277, 4, none⟩ = some (.int .i64 ((rd_T50 l1 (ji8)).f4)) := (blk_cell BK277.out 4).trans rfl
                   have hfz43_0 := blk_frozen BK277.out 0
                   have hfz43_1 := blk_frozen BK277.out 1
                   have hfz43_2 := blk_frozen BK277.out 2
                   have hfz43_3 := blk_frozen BK277.out 3
                   have hfz43_4 := blk_frozen BK277.out 4
                   go_wp2_with (first | ((with_reducible refine gate_builtin (b := .append) (xs := #[.tmp 53, .tmp 54]) rfl ?_); at_builtin; refine Kd.R_append (Kd.int .i64) (w0 := w) w.heap.size rfl (.tmp 53) (.tmp 54) 47 3 (.int .i64 0) 8 rfl Try.underlying47 info3 rfl (by decide) (by omega) u11 x11_29 3 [.int .i64 3] (fun _ => True) (fun _ => False) rfl rfl ?aP (fun _ hk => hk.elim) ?aF ?aO ?aB ?aS ?aL ?_; (case aP => exact rfl); (case aB => exact (bel2 HB GE277 GE280)); (case aF => exact (fun _ _ => trivial)); (case aO => exact (rdl HO_11)); (case aS => exact (below_size (bel2 HB GE277 GE280))); (case aL => have := LMc38.out; omega); intro v288 w44 ho hb hg hat; rw [← Ny287.out] at ho; have n0_ := Aside0.mk (blk_grown (g := gb277) (o := .cells #[.string ((rd_T50 l1 (ji8)).f0), .int .i64 ((rd_T50 l1 (ji8)).f1), .int .i64 ((rd_T50 l1 (ji8)).f2), .int .i64 ((rd_T50 l1 (ji8)).f3), .int .i64 ((rd_T50 l1 (ji8)).f4)] 50 (0, 0)) (bkl BK277) hg (Kd.R_ne HO_11.out BK277.out (by decide))); have n1_ := Aside0.mk (blk_grown (g := gb280) (o := .cells #[.string ((rd_T50 l1 (ji15)).f0), .int .i64 ((rd_T50 l1 (ji15)).f1), .int .i64 ((rd_T50 l1 (ji15)).f2), .int .i64 ((rd_T50 l1 (ji15)).f3), .int .i64 ((rd_T50 l1 (ji15)).f4)] 50 (0, 0)) (bkl BK280) hg (Kd.R_ne HO_11.out BK280.out (by decide))); have n2_ := Aside0.mk (hb); have n3_ := Aside0.mk (ho); clear BK277; clear BK280; clear HB; clear HO_11; have BK277 := n0_; have BK280 := n1_; have HB := n2_; have HO289 := n3_; clear n0_ n1_ n2_ n3_; clear ho hb hg hat; have hcz45_0 : w44.cell? ⟨gb277, 0, none⟩ = some (.string ((rd_T50 l1 (ji8)).f0)) := (blk_cell BK277.out 0).trans rfl; have hcz45_1 : w44.cell? ⟨gb277, 1, none⟩ = some (.int .i64 ((rd_T50 l1 (ji8)).f1)) := (blk_cell BK277.out 1).trans rfl; have hcz45_2 : w44.cell? ⟨gb277, 2, none⟩ = some (.int .i64 ((rd_T50 l1 (ji8)).f2)) := (blk_cell BK277.out 2).trans rfl; have hcz45_3 : w44.cell? ⟨gb277, 3, none⟩ = some (.int .i64 ((rd_T50 l1 (ji8)).f3)) := (blk_cell BK277.out 3).trans rfl; have hcz45_4 : w44.cell? ⟨gb277, 4, none⟩ = some (.int .i64 ((rd_T50 l1 (ji8)).f4)) := (blk_cell BK277.out 4).trans rfl; have hfz45_0 := blk_frozen BK277.out 0; have hfz45_1 := blk_frozen BK277.out 1; have hfz45_2 := blk_frozen BK277.out 2; have hfz45_3 := blk_frozen BK277.out 3; have hfz45_4 := blk_frozen BK277.out 4) | ((with_reducible refine gate_builtin (b := .append) (xs := #[.tmp 64, .tmp 65]) rfl ?_); at_builtin; refine Kd.R_append (Kd.int .i64) (w0 := w) w.heap.size rfl (.tmp 64) (.tmp 65) 47 3 (.int .i64 0) 8 rfl Try.underlying47 info3 rfl (by decide) (by omega) v288 y287 4 [.int .i64 4] (fun _ => True) (fun _ => False) rfl rfl ?aP (fun _ hk => hk.elim) ?aF ?aO ?aB ?aS ?aL ?_; (case aP => exact rfl); (case aB => exact (bel2 HB GE277 GE280)); (case aF => exact (fun _ _ => trivial)); (case aO => exact (rdl HO289)); (case aS => exact (below_size (bel2 HB GE277 GE280))); (case aL => have := LMc41.out; omega); intro v291 w46 ho hb hg hat; rw [← Ny290.out] at ho; have n0_ := Aside0.mk (blk_grown (g := gb277) (o := .cells #[.string ((rd_T50 l1 (ji8)).f0), .int .i64 ((rd_T50 l1 (ji8)).f1), .int .i64 ((rd_T50 l1 (ji8)).f2), .int .i64 ((rd_T50 l1 (ji8)).f3), .int .i64 ((rd_T50 l1 (ji8)).f4)] 50 (0, 0)) (bkl BK277) hg (Kd.R_ne HO289.out BK277.out (by decide))); have n1_ := Aside0.mk (blk_grown (g := gb280) (o := .cells #[.string ((rd_T50 l1 (ji15)).f0), .int .i64 ((rd_T50 l1 (ji15)).f1), .int .i64 ((rd_T50 l1 (ji15)).f2), .int .i64 ((rd_T50 l1 (ji15)).f3), .int .i64 ((rd_T50 l1 (ji15)).f4)] 50 (0, 0)) (bkl BK280) hg (Kd.R_ne HO289.out BK280.out (by decide))); have n2_ := Aside0.mk (hb); have n3_ := Aside0.mk (ho); clear BK277; clear BK280; clear HB; clear HO289; have BK277 := n0_; have BK280 := n1_; have HB := n2_; have HO292 := n3_; clear n0_ n1_ n2_ n3_; clear ho hb hg hat))
                   go_ret
                   exact ⟨_, by first | rfl | (simp [errW_none, errW_some] <;> rfl) | (simp only [← hji8, ← hji12, ← hji15]; first | rfl | (simp [errW_none, errW_some] <;> rfl)) | (simp [*, errW_none, errW_some] <;> rfl), rdl HO292, bel2 HB GE277 GE280⟩
                  ·rw [if_neg c41] at H
                   exact absurd H (by simp)
                 ·rw [if_neg c40] at H
                  have c40b0 : decide (a2 ≤ a3) = false := decide_eq_false c40
                  clear c40
                  obtain rfl := Option.some.inj H
                  have hnb47 := NB277_280.out
                  have hnc47 := NB280_277.out
                  have hcz48_0 : wc.cell? ⟨gb277, 0, none⟩ = some (.string ((rd_T50 l1 (ji8)).f0)) := (blk_cell BK277.out 0).trans rfl
                  have hcz48_1 : wc.cell? ⟨gb277, 1, none⟩ = some (.int .i64 ((rd_T50 l1 (ji8)).f1)) := (blk_cell BK277.out 1).trans rfl
                  have hcz48_2 : wc.cell? ⟨gb277, 2, none⟩ = some (.int .i64 ((rd_T50 l1 (ji8)).f2)) := (blk_cell BK277.out 2).trans rfl
                  have hcz48_3 : wc.cell? ⟨gb277, 3, none⟩ = some (.int .i64 ((rd_T50 l1 (ji8)).f3)) := (blk_cell BK277.out 3).trans rfl
                  have hcz48_4 : wc.cell? ⟨gb277, 4, none⟩ = some (.int .i64 ((rd_T50 l1 (ji8)).f4)) := (blk_cell BK277.out 4).trans rfl
                  have hfz48_0 := blk_frozen BK277.out 0
                  have hfz48_1 := blk_frozen BK277.out 1
                  have hfz48_2 := blk_frozen BK277.out 2
                  have hfz48_3 := blk_frozen BK277.out 3
                  have hfz48_4 := blk_frozen BK277.out 4
                  go_wp2_with (first | ((with_reducible refine gate_builtin (b := .append) (xs := #[.tmp 53, .tmp 54]) rfl ?_); at_builtin; refine Kd.R_append (Kd.int .i64) (w0 := w) w.heap.size rfl (.tmp 53) (.tmp 54) 47 3 (.int .i64 0) 8 rfl Try.underlying47 info3 rfl (by decide) (by omega) u11 x11_29 3 [.int .i64 3] (fun _ => True) (fun _ => False) rfl rfl ?aP (fun _ hk => hk.elim) ?aF ?aO ?aB ?aS ?aL ?_; (case aP => exact rfl); (case aB => exact (bel2 HB GE277 GE280)); (case aF => exact (fun _ _ => trivial)); (case aO => exact (rdl HO_11)); (case aS => exact (below_size (bel2 HB GE277 GE280))); (case aL => have := LMc38.out; omega); intro v288 w49 ho hb hg hat; rw [← Ny287.out] at ho; have n0_ := Aside0.mk (blk_grown (g := gb277) (o := .cells #[.string ((rd_T50 l1 (ji8)).f0), .int .i64 ((rd_T50 l1 (ji8)).f1), .int .i64 ((rd_T50 l1 (ji8)).f2), .int .i64 ((rd_T50 l1 (ji8)).f3), .int .i64 ((rd_T50 l1 (ji8)).f4)] 50 (0, 0)) (bkl BK277) hg (Kd.R_ne HO_11.out BK277.out (by decide))); have n1_ := Aside0.mk (blk_grown (g := gb280) (o := .cells #[.string ((rd_T50 l1 (ji15)).f0), .int .i64 ((rd_T50 l1 (ji15)).f1), .int .i64 ((rd_T50 l1 (ji15)).f2), .int .i64 ((rd_T50 l1 (ji15)).f3), .int .i64 ((rd_T50 l1 (ji15)).f4)] 50 (0, 0)) (bkl BK280) hg (Kd.R_ne HO_11.out BK280.out (by decide))); have n2_ := Aside0.mk (hb); have n3_ := Aside0.mk (ho); clear BK277; clear BK280; clear HB; clear HO_11; have BK277 := n0_; have BK280 := n1_; have HB := n2_; have HO289 := n3_; clear n0_ n1_ n2_ n3_; clear ho hb hg hat; have hcz50_0 : w49.cell? ⟨gb277, 0, none⟩ = some (.string ((rd_T50 l1 (ji8)).f0)) := (blk_cell BK277.out 0).trans rfl; have hcz50_1 : w49.cell? ⟨gb277, 1, none⟩ = some (.int .i64 ((rd_T50 l1 (ji8)).f1)) := (blk_cell BK277.out 1).trans rfl; have hcz50_2 : w49.cell? ⟨gb277, 2, none⟩ = some (.int .i64 ((rd_T50 l1 (ji8)).f2)) := (blk_cell BK277.out 2).trans rfl; have hcz50_3 : w49.cell? ⟨gb277, 3, none⟩ = some (.int .i64 ((rd_T50 l1 (ji8)).f3)) := (blk_cell BK277.out 3).trans rfl; have hcz50_4 : w49.cell? ⟨gb277, 4, none⟩ = some (.int .i64 ((rd_T50 l1 (ji8)).f4)) := (blk_cell BK277.out 4).trans rfl; have hfz50_0 := blk_frozen BK277.out 0; have hfz50_1 := blk_frozen BK277.out 1; have hfz50_2 := blk_frozen BK277.out 2; have hfz50_3 := blk_frozen BK277.out 3; have hfz50_4 := blk_frozen BK277.out 4))
                  go_ret
                  exact ⟨_, by first | rfl | (simp [errW_none, errW_some] <;> rfl) | (simp only [← hji8, ← hji12, ← hji15]; first | rfl | (simp [errW_none, errW_some] <;> rfl)) | (simp [*, errW_none, errW_some] <;> rfl), rdl HO289, bel2 HB GE277 GE280⟩
                ·rw [if_neg c39] at H
                 have c39b0 : (((rd_T50 l1 (ji8)).f3) == 2) = false := beq_eq_false_iff_ne.mpr c39
                 have c39b1 : (((rd_T50 l1 (ji8)).f3) != 2) = true := bne_iff_ne.mpr c39
                 obtain rfl := Option.some.inj H
                 have hnb51 := NB277_280.out
                 have hnc51 := NB280_277.out
                 have hcz52_0 : wc.cell? ⟨gb277, 0, none⟩ = some (.string ((rd_T50 l1 (ji8)).f0)) := (blk_cell BK277.out 0).trans rfl
                 have hcz52_1 : wc.cell? ⟨gb277, 1, none⟩ = some (.int .i64 ((rd_T50 l1 (ji8)).f1)) := (blk_cell BK277.out 1).trans rfl
                 have hcz52_2 : wc.cell? ⟨gb277, 2, none⟩ = some (.int .i64 ((rd_T50 l1 (ji8)).f2)) := (blk_cell BK277.out 2).trans rfl
                 have hcz52_3 : wc.cell? ⟨gb277, 3, none⟩ = some (.int .i64 ((rd_T50 l1 (ji8)).f3)) := (blk_cell BK277.out 3).trans rfl
                 have hcz52_4 : wc.cell? ⟨gb277, 4, none⟩ = some (.int .i64 ((rd_T50 l1 (ji8)).f4)) := (blk_cell BK277.out 4).trans rfl
                 have hfz52_0 := blk_frozen BK277.out 0
                 have hfz52_1 := blk_frozen BK277.out 1
                 have hfz52_2 := blk_frozen BK277.out 2
                 have hfz52_3 := blk_frozen BK277.out 3
                 have hfz52_4 := blk_frozen BK277.out 4
                 go_wp2_with (first | ((with_reducible refine gate_builtin (b := .append) (xs := #[.tmp 53, .tmp 54]) rfl ?_); at_builtin; refine Kd.R_append (Kd.int .i64) (w0 := w) w.heap.size rfl (.tmp 53) (.tmp 54) 47 3 (.int .i64 0) 8 rfl Try.underlying47 info3 rfl (by decide) (by omega) u11 x11_29 3 [.int .i64 3] (fun _ => True) (fun _ => False) rfl rfl ?aP (fun _ hk => hk.elim) ?aF ?aO ?aB ?aS ?aL ?_; (case aP => exact rfl); (case aB => exact (bel2 HB GE277 GE280)); (case aF => exact (fun _ _ => trivial)); (case aO => exact (rdl HO_11)); (case aS => exact (below_size (bel2 HB GE277 GE280))); (case aL => have := LMc38.out; omega); intro v288 w53 ho hb hg hat; rw [← Ny287.out] at ho; have n0_ := Aside0.mk (blk_grown (g := gb277) (o := .cells #[.string ((rd_T50 l1 (ji8)).f0), .int .i64 ((rd_T50 l1 (ji8)).f1), .int .i64 ((rd_T50 l1 (ji8)).f2), .int .i64 ((rd_T50 l1 (ji8)).f3), .int .i64 ((rd_T50 l1 (ji8)).f4)] 50 (0, 0)) (bkl BK277) hg (Kd.R_ne HO_11.out BK277.out (by decide))); have n1_ := Aside0.mk (blk_grown (g := gb280) (o := .cells #[.string ((rd_T50 l1 (ji15)).f0), .int .i64 ((rd_T50 l1 (ji15)).f1), .int .i64 ((rd_T50 l1 (ji15)).f2), .int .i64 ((rd_T50 l1 (ji15)).f3), .int .i64 ((rd_T50 l1 (ji15)).f4)] 50 (0, 0)) (bkl BK280) hg (Kd.R_ne HO_11.out BK280.out (by decide))); have n2_ := Aside0.mk (hb); have n3_ := Aside0.mk (ho); clear BK277; clear BK280; clear HB; clear HO_11; have BK277 := n0_; have BK280 := n1_; have HB := n2_; have HO289 := n3_; clear n0_ n1_ n2_ n3_; clear ho hb hg hat; have hcz54_0 : w53.cell? ⟨gb277, 0, none⟩ = some (.string ((rd_T50 l1 (ji8)).f0)) := (blk_cell BK277.out 0).trans rfl; have hcz54_1 : w53.cell? ⟨gb277, 1, none⟩ = some (.int .i64 ((rd_T50 l1 (ji8)).f1)) := (blk_cell BK277.out 1).trans rfl; have hcz54_2 : w53.cell? ⟨gb277, 2, none⟩ = some (.int .i64 ((rd_T50 l1 (ji8)).f2)) := (blk_cell BK277.out 2).trans rfl; have hcz54_3 : w53.cell? ⟨gb277, 3, none⟩ = some (.int .i64 ((rd_T50 l1 (ji8)).f3)) := (blk_cell BK277.out 3).trans rfl; have hcz54_4 : w53.cell? ⟨gb277, 4, none⟩ = some (.int .i64 ((rd_T50 l1 (ji8)).f4)) := (blk_cell BK277.out 4).trans rfl; have hfz54_0 := blk_frozen BK277.out 0; have hfz54_1 := blk_frozen BK277.out 1; have hfz54_2 := blk_frozen BK277.out 2; have hfz54_3 := blk_frozen BK277.out 3; have hfz54_4 := blk_frozen BK277.out 4))
                 go_ret
                 exact ⟨_, by first | rfl | (simp [errW_none, errW_some] <;> rfl) | (simp only [← hji8, ← hji12, ← hji15]; first | rfl | (simp [errW_none, errW_some] <;> rfl)) | (simp [*, errW_none, errW_some] <;> rfl), rdl HO289, bel2 HB GE277 GE280⟩
               ·rw [if_neg c38] at H
                exact absurd H (by simp)
              ·rw [if_neg c37] at H
               have c37b0 : (((rd_T50 l1 (ji8)).f3) == 3) = false := beq_eq_false_iff_ne.mpr c37
               have c37b1 : (((rd_T50 l1 (ji8)).f3) != 3) = true := bne_iff_ne.mpr c37
               by_cases c55 : ((rd_T50 l1 (ji8)).f3) = 2
               ·rw [if_pos c55] at H
                have c55b0 : (((rd_T50 l1 (ji8)).f3) == 2) = true := beq_iff_eq.mpr c55
                have c55b1 : (((rd_T50 l1 (ji8)).f3) != 2) = false := bne_eq_false_iff_eq.mpr c55
                clear c55
                by_cases c56 : a3 ≥ a2
                ·rw [if_pos c56] at H
                 have c56b0 : decide (a2 ≤ a3) = true := decide_eq_true c56
                 clear c56
                 by_cases c57 : x11_29.length < 17592186044416
                 ·rw [if_pos c57] at H
                  have LMc57 := Aside0.mk c57
                  clear c57
                  obtain ⟨y293, hy293⟩ : ∃ y_ : List Int, y_ = (x11_29 ++ [4]) := ⟨_, rfl⟩
                  replace H : (some y293) = some r := by first | (rw [hy293]; with_reducible exact H) | (have H2_ := (Option.bind_some _ _).symm.trans H; rw [hy293]; with_reducible exact H2_) | (have H2_ := (Option.bind_some _ _).symm.trans H; with_reducible exact H2_) | with_reducible exact H | (rw [hy293]; exact H) | exact H
                  have Ny293 := Aside0.mk hy293
                  clear hy293
                  obtain rfl := Option.some.inj H
                  have hnb58 := NB277_280.out
                  have hnc58 := NB280_277.out
                  have hcz59_0 : wc.cell? ⟨gb277, 0, none⟩ = some (.string ((rd_T50 l1 (ji8)).f0)) := (blk_cell BK277.out 0).trans rfl
                  have hcz59_1 : wc.cell? ⟨gb277, 1, none⟩ = some (.int .i64 ((rd_T50 l1 (ji8)).f1)) := (blk_cell BK277.out 1).trans rfl
                  have hcz59_2 : wc.cell? ⟨gb277, 2, none⟩ = some (.int .i64 ((rd_T50 l1 (ji8)).f2)) := (blk_cell BK277.out 2).trans rfl
                  have hcz59_3 : wc.cell? ⟨gb277, 3, none⟩ = some (.int .i64 ((rd_T50 l1 (ji8)).f3)) := (blk_cell BK277.out 3).trans rfl
                  have hcz59_4 : wc.cell? ⟨gb277, 4, none⟩ = some (.int .i64 ((rd_T50 l1 (ji8)).f4)) := (blk_cell BK277.out 4).trans rfl
                  have hfz59_0 := blk_frozen BK277.out 0
                  have hfz59_1 := blk_frozen BK277.out 1
                  have hfz59_2 := blk_frozen BK277.out 2
                  have hfz59_3 := blk_frozen BK277.out 3
                  have hfz59_4 := blk_frozen BK277.out 4
                  go_wp2_with (first | ((with_reducible refine gate_builtin (b := .append) (xs := #[.tmp 64, .tmp 65]) rfl ?_); at_builtin; refine Kd.R_append (Kd.int .i64) (w0 := w) w.heap.size rfl (.tmp 64) (.tmp 65) 47 3 (.int .i64 0) 8 rfl Try.underlying47 info3 rfl (by decide) (by omega) u11 x11_29 4 [.int .i64 4] (fun _ => True) (fun _ => False) rfl rfl ?aP (fun _ hk => hk.elim) ?aF ?aO ?aB ?aS ?aL ?_; (case aP => exact rfl); (case aB => exact (bel2 HB GE277 GE280)); (case aF => exact (fun _ _ => trivial)); (case aO => exact (rdl HO_11)); (case aS => exact (below_size (bel2 HB GE277 GE280))); (case aL => have := LMc57.out; omega); intro v294 w60 ho hb hg hat; rw [← Ny293.out] at ho; have n0_ := Aside0.mk (blk_grown (g := gb277) (o := .cells #[.string ((rd_T50 l1 (ji8)).f0), .int .i64 ((rd_T50 l1 (ji8)).f1), .int .i64 ((rd_T50 l1 (ji8)).f2), .int .i64 ((rd_T50 l1 (ji8)).f3), .int .i64 ((rd_T50 l1 (ji8)).f4)] 50 (0, 0)) (bkl BK277) hg (Kd.R_ne HO_11.out BK277.out (by decide))); have n1_ := Aside0.mk (blk_grown (g := gb280) (o := .cells #[.string ((rd_T50 l1 (ji15)).f0), .int .i64 ((rd_T50 l1 (ji15)).f1), .int .i64 ((rd_T50 l1 (ji15)).f2), .int .i64 ((rd_T50 l1 (ji15)).f3), .int .i64 ((rd_T50 l1 (ji15)).f4)] 50 (0, 0)) (bkl BK280) hg (Kd.R_ne HO_11.out BK280.out (by decide))); have n2_ := Aside0.mk (hb); have n3_ := Aside0.mk (ho); clear BK277; clear BK280; clear HB; clear HO_11; have BK277 := n0_; have BK280 := n1_; have HB := n2_; have HO295 := n3_; clear n0_ n1_ n2_ n3_; clear ho hb hg hat))
                  go_ret
                  exact ⟨_, by first | rfl | (simp [errW_none, errW_some] <;> rfl) | (simp only [← hji8, ← hji12, ← hji15]; first | rfl | (simp [errW_none, errW_some] <;> rfl)) | (simp [*, errW_none, errW_some] <;> rfl), rdl HO295, bel2 HB GE277 GE280⟩
                 ·rw [if_neg c57] at H
                  exact absurd H (by simp)
                ·rw [if_neg c56] at H
                 have c56b0 : decide (a2 ≤ a3) = false := decide_eq_false c56
                 clear c56
                 obtain rfl := Option.some.inj H
                 have hnb61 := NB277_280.out
                 have hnc61 := NB280_277.out
                 have hcz62_0 : wc.cell? ⟨gb277, 0, none⟩ = some (.string ((rd_T50 l1 (ji8)).f0)) := (blk_cell BK277.out 0).trans rfl
                 have hcz62_1 : wc.cell? ⟨gb277, 1, none⟩ = some (.int .i64 ((rd_T50 l1 (ji8)).f1)) := (blk_cell BK277.out 1).trans rfl
                 have hcz62_2 : wc.cell? ⟨gb277, 2, none⟩ = some (.int .i64 ((rd_T50 l1 (ji8)).f2)) := (blk_cell BK277.out 2).trans rfl
                 have hcz62_3 : wc.cell? ⟨gb277, 3, none⟩ = some (.int .i64 ((rd_T50 l1 (ji8)).f3)) := (blk_cell BK277.out 3).trans rfl
                 have hcz62_4 : wc.cell? ⟨gb277, 4, none⟩ = some (.int .i64 ((rd_T50 l1 (ji8)).f4)) := (blk_cell BK277.out 4).trans rfl
                 have hfz62_0 := blk_frozen BK277.out 0
                 have hfz62_1 := blk_frozen BK277.out 1
                 have hfz62_2 := blk_frozen BK277.out 2
                 have hfz62_3 := blk_frozen BK277.out 3
                 have hfz62_4 := blk_frozen BK277.out 4
                 go_wp2
                 go_ret
                 exact ⟨_, by first | rfl | (simp [errW_none, errW_some] <;> rfl) | (simp only [← hji8, ← hji12, ← hji15]; first | rfl | (simp [errW_none, errW_some] <;> rfl)) | (simp [*, errW_none, errW_some] <;> rfl), rdl HO_11, bel2 HB GE277 GE280⟩
               ·rw [if_neg c55] at H
                have c55b0 : (((rd_T50 l1 (ji8)).f3) == 2) = false := beq_eq_false_iff_ne.mpr c55
                have c55b1 : (((rd_T50 l1 (ji8)).f3) != 2) = true := bne_iff_ne.mpr c55
                obtain rfl := Option.some.inj H
                have hnb63 := NB277_280.out
                have hnc63 := NB280_277.out
                have hcz64_0 : wc.cell? ⟨gb277, 0, none⟩ = some (.string ((rd_T50 l1 (ji8)).f0)) := (blk_cell BK277.out 0).trans rfl
                have hcz64_1 : wc.cell? ⟨gb277, 1, none⟩ = some (.int .i64 ((rd_T50 l1 (ji8)).f1)) := (blk_cell BK277.out 1).trans rfl
                have hcz64_2 : wc.cell? ⟨gb277, 2, none⟩ = some (.int .i64 ((rd_T50 l1 (ji8)).f2)) := (blk_cell BK277.out 2).trans rfl
                have hcz64_3 : wc.cell? ⟨gb277, 3, none⟩ = some (.int .i64 ((rd_T50 l1 (ji8)).f3)) := (blk_cell BK277.out 3).trans rfl
                have hcz64_4 : wc.cell? ⟨gb277, 4, none⟩ = some (.int .i64 ((rd_T50 l1 (ji8)).f4)) := (blk_cell BK277.out 4).trans rfl
                have hfz64_0 := blk_frozen BK277.out 0
                have hfz64_1 := blk_frozen BK277.out 1
                have hfz64_2 := blk_frozen BK277.out 2
                have hfz64_3 := blk_frozen BK277.out 3
                have hfz64_4 := blk_frozen BK277.out 4
                go_wp2
                go_ret
                exact ⟨_, by first | rfl | (simp [errW_none, errW_some] <;> rfl) | (simp only [← hji8, ← hji12, ← hji15]; first | rfl | (simp [errW_none, errW_some] <;> rfl)) | (simp [*, errW_none, errW_some] <;> rfl), rdl HO_11, bel2 HB GE277 GE280⟩
         ·rw [if_neg c17] at H
          exact absurd H (by simp)
        ·rw [if_neg c16] at H
         exact absurd H (by simp)
       ·rw [if_neg c14] at H
        exact absurd H (by simp)
      ·rw [if_neg c13] at H
       exact absurd H (by simp)
     ·rw [if_neg c11] at H
      have c11b0 : decide (0 < a4) = false := decide_eq_false c11
      clear c11
      by_cases c65 : ((rd_T50 l1 (ji8)).f3) = 2
      ·rw [if_pos c65] at H
       have c65b0 : (((rd_T50 l1 (ji8)).f3) == 2) = true := beq_iff_eq.mpr c65
       have c65b1 : (((rd_T50 l1 (ji8)).f3) != 2) = false := bne_eq_false_iff_eq.mpr c65
       clear c65
       by_cases c66 : a3 ≥ a2
       ·rw [if_pos c66] at H
        have c66b0 : decide (a2 ≤ a3) = true := decide_eq_true c66
        clear c66
        by_cases c67 : y272.length < 17592186044416
        ·rw [if_pos c67] at H
         have LMc67 := Aside0.mk c67
         clear c67
         obtain ⟨y296, hy296⟩ : ∃ y_ : List Int, y_ = (y272 ++ [4]) := ⟨_, rfl⟩
         replace H : (some y296) = some r := by first | (rw [hy296]; with_reducible exact H) | (have H2_ := (Option.bind_some _ _).symm.trans H; rw [hy296]; with_reducible exact H2_) | (have H2_ := (Option.bind_some _ _).symm.trans H; with_reducible exact H2_) | with_reducible exact H | (rw [hy296]; exact H) | exact H
         have Ny296 := Aside0.mk hy296
         clear hy296
         obtain rfl := Option.some.inj H
         go_enter Try.func43, Try.ntmps43
         go_wp2_with (first | ((with_reducible refine gate_dst (N := 14) rfl ?_); refine Kd.R_lit (Kd.int .i64) _ 3 ?hg (N := 14) ?hd (xs := ([] : List Int)) (inner := []) (ok := fun _ => True) (okp := fun _ => True) ?hr ?hp (fun _ hk => hk) trivial (Below.refl _ _) (Nat.le_refl _) (by simp) ?_; (case hd => rfl); (case hg => rfl); (case hr => first | (go_simp; done) | (go_simp; rfl)); (case hp => exact (Reps.none _ _)); intro v273 w68 ho69 hb hg_ hnew_; clear hg_ hnew_; (first | rw [← Ny272.out] at ho69 | (simp only [Int.reduceToNat] at ho69; rw [← Ny272.out] at ho69)); have n0_ := Aside0.mk (Kd.R_lower ho69 (below_size (bel HB))); have n1_ := Aside0.mk (below_step (bel HB) hb); clear HB; have HO274 := n0_; have HB := n1_; clear n0_ n1_; clear hb ho69; have p275 : 0 ≤ (a4 : Int) := oda; have q275 : a4 < (l0.length : Int) := oda; obtain ⟨ad275, e275, hx275_0⟩ := Kd.at_int HR0.out a4 p275 q275; cases e275; replace hx275_0 := cel HB hx275_0; replace p275 := eq_true p275; replace q275 := eq_true q275; have p276 : 0 ≤ ((ji8) : Int) := oda; have q276 : (ji8) < (l1.length : Int) := oda; obtain ⟨ad276, e276, hx276_0, hx276_1, hx276_2, hx276_3, hx276_4⟩ := at_T50 HR1.out (ji8) p276 q276; cases e276; replace hx276_0 := cel HB hx276_0; replace hx276_1 := cel HB hx276_1; replace hx276_2 := cel HB hx276_2; replace hx276_3 := cel HB hx276_3; replace hx276_4 := cel HB hx276_4; replace p276 := eq_true p276; replace q276 := eq_true q276) | ((with_reducible refine gate_dst (N := 12) rfl ?_); refine box_event ?hg (N := 12) ?hd (cs := #[.string (⟨#[]⟩ : ByteArray), .int .i64 0, .int .i64 0, .int .i64 0, .int .i64 0]) (t := 50) ?hr ?_; (case hd => rfl); (case hg => rfl); (case hr => first | (go_simp; done) | (go_simp; rfl)); intro gb277 hg w70 hbox hb; have n0_ := Aside0.mk (Kd.R_below (rdl HO274) hb); have n1_ := Aside0.mk (below_step (bel HB) hb); have n2_ := Aside0.mk (hbox); have n3_ := Aside0.mk ((by rw [hg]; exact (below_size (bel HB)) : w.heap.size ≤ gb277)); have n4_ := Aside0.mk ((by rw [hg]; exact (below_size (bel HB)) : w.heap.size ≤ gb277)); clear HO274; clear HB; have HO274 := n0_; have HB := n1_; have BK277 := n2_; have GW277 := n3_; have GE277 := n4_; clear n0_ n1_ n2_ n3_ n4_; clear hb hbox hg; have hcz71_0 : w70.cell? ⟨gb277, 0, none⟩ = some (.string (⟨#[]⟩ : ByteArray)) := (blk_cell BK277.out 0).trans rfl; have hcz71_1 : w70.cell? ⟨gb277, 1, none⟩ = some (.int .i64 0) := (blk_cell BK277.out 1).trans rfl; have hcz71_2 : w70.cell? ⟨gb277, 2, none⟩ = some (.int .i64 0) := (blk_cell BK277.out 2).trans rfl; have hcz71_3 : w70.cell? ⟨gb277, 3, none⟩ = some (.int .i64 0) := (blk_cell BK277.out 3).trans rfl; have hcz71_4 : w70.cell? ⟨gb277, 4, none⟩ = some (.int .i64 0) := (blk_cell BK277.out 4).trans rfl; have hfz71_0 := blk_frozen BK277.out 0; have hfz71_1 := blk_frozen BK277.out 1; have hfz71_2 := blk_frozen BK277.out 2; have hfz71_3 := blk_frozen BK277.out 3; have hfz71_4 := blk_frozen BK277.out 4) | ((with_reducible refine gate_builtin (b := .append) (xs := #[.tmp 64, .tmp 65]) rfl ?_); at_builtin; refine Kd.R_append (Kd.int .i64) (w0 := w) w.heap.size rfl (.tmp 64) (.tmp 65) 47 3 (.int .i64 0) 8 rfl Try.underlying47 info3 rfl (by decide) (by omega) v273 y272 4 [.int .i64 4] (fun _ => True) (fun _ => False) rfl (by first | (go_simp; done) | (go_simp; rfl)) ?aP (fun _ hk => hk.elim) ?aF ?aO ?aB ?aS ?aL ?_; (case aP => exact rfl); (case aB => exact (bel1 HB GE277)); (case aF => exact (fun _ _ => trivial)); (case aO => exact (by (with_reducible repeat (first | apply Kd.R_alloc | apply Kd.R_drewN | apply Kd.R_drew)); exact Kd.R_mono (Kd.R_far (p := ⟨gb277, 4, none⟩) (Kd.R_far (p := ⟨gb277, 3, none⟩) (Kd.R_far (p := ⟨gb277, 2, none⟩) (Kd.R_far (p := ⟨gb277, 1, none⟩) (Kd.R_far (p := ⟨gb277, 0, none⟩) (Kd.R_types HO274.out BK277.out (by decide)) (fun _ hk => hk.2) (.string ((rd_T50 l1 (ji8)).f0))) (fun _ hk => hk.2) (.int .i64 ((rd_T50 l1 (ji8)).f1))) (fun _ hk => hk.2) (.int .i64 ((rd_T50 l1 (ji8)).f2))) (fun _ hk => hk.2) (.int .i64 ((rd_T50 l1 (ji8)).f3))) (fun _ hk => hk.2) (.int .i64 ((rd_T50 l1 (ji8)).f4))) (fun _ hk => trivial))); (case aS => exact (below_size (bel1 HB GE277))); (case aL => have := LMc67.out; omega); intro v297 w72 ho hb hg hat; rw [← Ny296.out] at ho; have n0_ := Aside0.mk (blk_grown (g := gb277) (o := .cells #[.string ((rd_T50 l1 (ji8)).f0), .int .i64 ((rd_T50 l1 (ji8)).f1), .int .i64 ((rd_T50 l1 (ji8)).f2), .int .i64 ((rd_T50 l1 (ji8)).f3), .int .i64 ((rd_T50 l1 (ji8)).f4)] 50 (0, 0)) (by (with_reducible repeat (first | refine blk_drewN ?_ _ | refine blk_drew ?_ | refine blk_alloc ?_ _)); refine blk_put (cs := #[.string ((rd_T50 l1 (ji8)).f0), .int .i64 ((rd_T50 l1 (ji8)).f1), .int .i64 ((rd_T50 l1 (ji8)).f2), .int .i64 ((rd_T50 l1 (ji8)).f3), .int .i64 0]) ?_ 4 _ rfl; (with_reducible repeat (first | refine blk_drewN ?_ _ | refine blk_drew ?_ | refine blk_alloc ?_ _)); refine blk_put (cs := #[.string ((rd_T50 l1 (ji8)).f0), .int .i64 ((rd_T50 l1 (ji8)).f1), .int .i64 ((rd_T50 l1 (ji8)).f2), .int .i64 0, .int .i64 0]) ?_ 3 _ rfl; (with_reducible repeat (first | refine blk_drewN ?_ _ | refine blk_drew ?_ | refine blk_alloc ?_ _)); refine blk_put (cs := #[.string ((rd_T50 l1 (ji8)).f0), .int .i64 ((rd_T50 l1 (ji8)).f1), .int .i64 0, .int .i64 0, .int .i64 0]) ?_ 2 _ rfl; (with_reducible repeat (first | refine blk_drewN ?_ _ | refine blk_drew ?_ | refine blk_alloc ?_ _)); refine blk_put (cs := #[.string ((rd_T50 l1 (ji8)).f0), .int .i64 0, .int .i64 0, .int .i64 0, .int .i64 0]) ?_ 1 _ rfl; (with_reducible repeat (first | refine blk_drewN ?_ _ | refine blk_drew ?_ | refine blk_alloc ?_ _)); refine blk_put (cs := #[.string (⟨#[]⟩ : ByteArray), .int .i64 0, .int .i64 0, .int .i64 0, .int .i64 0]) ?_ 0 _ rfl; (with_reducible repeat (first | refine blk_drewN ?_ _ | refine blk_drew ?_ | refine blk_alloc ?_ _)); exact BK277.out) hg (Kd.R_ne HO274.out BK277.out (by decide))); have n1_ := Aside0.mk (hb); have n2_ := Aside0.mk (ho); clear BK277; clear HB; clear HO274; have BK277 := n0_; have HB := n1_; have HO298 := n2_; clear n0_ n1_ n2_; clear ho hb hg hat))
         go_ret
         exact ⟨_, by first | rfl | (simp [errW_none, errW_some] <;> rfl) | (simp only [← hji8]; first | rfl | (simp [errW_none, errW_some] <;> rfl)) | (simp [*, errW_none, errW_some] <;> rfl), rdl HO298, bel1 HB GE277⟩
        ·rw [if_neg c67] at H
         exact absurd H (by simp)
       ·rw [if_neg c66] at H
        have c66b0 : decide (a2 ≤ a3) = false := decide_eq_false c66
        clear c66
        obtain rfl := Option.some.inj H
        go_enter Try.func43, Try.ntmps43
        go_wp2_with (first | ((with_reducible refine gate_dst (N := 14) rfl ?_); refine Kd.R_lit (Kd.int .i64) _ 3 ?hg (N := 14) ?hd (xs := ([] : List Int)) (inner := []) (ok := fun _ => True) (okp := fun _ => True) ?hr ?hp (fun _ hk => hk) trivial (Below.refl _ _) (Nat.le_refl _) (by simp) ?_; (case hd => rfl); (case hg => rfl); (case hr => first | (go_simp; done) | (go_simp; rfl)); (case hp => exact (Reps.none _ _)); intro v273 w73 ho74 hb hg_ hnew_; clear hg_ hnew_; (first | rw [← Ny272.out] at ho74 | (simp only [Int.reduceToNat] at ho74; rw [← Ny272.out] at ho74)); have n0_ := Aside0.mk (Kd.R_lower ho74 (below_size (bel HB))); have n1_ := Aside0.mk (below_step (bel HB) hb); clear HB; have HO274 := n0_; have HB := n1_; clear n0_ n1_; clear hb ho74; have p275 : 0 ≤ (a4 : Int) := oda; have q275 : a4 < (l0.length : Int) := oda; obtain ⟨ad275, e275, hx275_0⟩ := Kd.at_int HR0.out a4 p275 q275; cases e275; replace hx275_0 := cel HB hx275_0; replace p275 := eq_true p275; replace q275 := eq_true q275; have p276 : 0 ≤ ((ji8) : Int) := oda; have q276 : (ji8) < (l1.length : Int) := oda; obtain ⟨ad276, e276, hx276_0, hx276_1, hx276_2, hx276_3, hx276_4⟩ := at_T50 HR1.out (ji8) p276 q276; cases e276; replace hx276_0 := cel HB hx276_0; replace hx276_1 := cel HB hx276_1; replace hx276_2 := cel HB hx276_2; replace hx276_3 := cel HB hx276_3; replace hx276_4 := cel HB hx276_4; replace p276 := eq_true p276; replace q276 := eq_true q276) | ((with_reducible refine gate_dst (N := 12) rfl ?_); refine box_event ?hg (N := 12) ?hd (cs := #[.string (⟨#[]⟩ : ByteArray), .int .i64 0, .int .i64 0, .int .i64 0, .int .i64 0]) (t := 50) ?hr ?_; (case hd => rfl); (case hg => rfl); (case hr => first | (go_simp; done) | (go_simp; rfl)); intro gb277 hg w75 hbox hb; have n0_ := Aside0.mk (Kd.R_below (rdl HO274) hb); have n1_ := Aside0.mk (below_step (bel HB) hb); have n2_ := Aside0.mk (hbox); have n3_ := Aside0.mk ((by rw [hg]; exact (below_size (bel HB)) : w.heap.size ≤ gb277)); have n4_ := Aside0.mk ((by rw [hg]; exact (below_size (bel HB)) : w.heap.size ≤ gb277)); clear HO274; clear HB; have HO274 := n0_; have HB := n1_; have BK277 := n2_; have GW277 := n3_; have GE277 := n4_; clear n0_ n1_ n2_ n3_ n4_; clear hb hbox hg; have hcz76_0 : w75.cell? ⟨gb277, 0, none⟩ = some (.string (⟨#[]⟩ : ByteArray)) := (blk_cell BK277.out 0).trans rfl; have hcz76_1 : w75.cell? ⟨gb277, 1, none⟩ = some (.int .i64 0) := (blk_cell BK277.out 1).trans rfl; have hcz76_2 : w75.cell? ⟨gb277, 2, none⟩ = some (.int .i64 0) := (blk_cell BK277.out 2).trans rfl; have hcz76_3 : w75.cell? ⟨gb277, 3, none⟩ = some (.int .i64 0) := (blk_cell BK277.out 3).trans rfl; have hcz76_4 : w75.cell? ⟨gb277, 4, none⟩ = some (.int .i64 0) := (blk_cell BK277.out 4).trans rfl; have hfz76_0 := blk_frozen BK277.out 0; have hfz76_1 := blk_frozen BK277.out 1; have hfz76_2 := blk_frozen BK277.out 2; have hfz76_3 := blk_frozen BK277.out 3; have hfz76_4 := blk_frozen BK277.out 4))
        go_ret
        exact ⟨_, by first | rfl | (simp [errW_none, errW_some] <;> rfl) | (simp only [← hji8]; first | rfl | (simp [errW_none, errW_some] <;> rfl)) | (simp [*, errW_none, errW_some] <;> rfl), by (with_reducible repeat (first | apply Kd.R_alloc | apply Kd.R_drewN | apply Kd.R_drew)); exact Kd.R_mono (Kd.R_far (p := ⟨gb277, 4, none⟩) (Kd.R_far (p := ⟨gb277, 3, none⟩) (Kd.R_far (p := ⟨gb277, 2, none⟩) (Kd.R_far (p := ⟨gb277, 1, none⟩) (Kd.R_far (p := ⟨gb277, 0, none⟩) (Kd.R_types HO274.out BK277.out (by decide)) (fun _ hk => hk.2) (.string ((rd_T50 l1 (ji8)).f0))) (fun _ hk => hk.2) (.int .i64 ((rd_T50 l1 (ji8)).f1))) (fun _ hk => hk.2) (.int .i64 ((rd_T50 l1 (ji8)).f2))) (fun _ hk => hk.2) (.int .i64 ((rd_T50 l1 (ji8)).f3))) (fun _ hk => hk.2) (.int .i64 ((rd_T50 l1 (ji8)).f4))) (fun _ hk => trivial), bel1 HB GE277⟩
      ·rw [if_neg c65] at H
       have c65b0 : (((rd_T50 l1 (ji8)).f3) == 2) = false := beq_eq_false_iff_ne.mpr c65
       have c65b1 : (((rd_T50 l1 (ji8)).f3) != 2) = true := bne_iff_ne.mpr c65
       obtain rfl := Option.some.inj H
       go_enter Try.func43, Try.ntmps43
       go_wp2_with (first | ((with_reducible refine gate_dst (N := 14) rfl ?_); refine Kd.R_lit (Kd.int .i64) _ 3 ?hg (N := 14) ?hd (xs := ([] : List Int)) (inner := []) (ok := fun _ => True) (okp := fun _ => True) ?hr ?hp (fun _ hk => hk) trivial (Below.refl _ _) (Nat.le_refl _) (by simp) ?_; (case hd => rfl); (case hg => rfl); (case hr => first | (go_simp; done) | (go_simp; rfl)); (case hp => exact (Reps.none _ _)); intro v273 w77 ho78 hb hg_ hnew_; clear hg_ hnew_; (first | rw [← Ny272.out] at ho78 | (simp only [Int.reduceToNat] at ho78; rw [← Ny272.out] at ho78)); have n0_ := Aside0.mk (Kd.R_lower ho78 (below_size (bel HB))); have n1_ := Aside0.mk (below_step (bel HB) hb); clear HB; have HO274 := n0_; have HB := n1_; clear n0_ n1_; clear hb ho78; have p275 : 0 ≤ (a4 : Int) := oda; have q275 : a4 < (l0.length : Int) := oda; obtain ⟨ad275, e275, hx275_0⟩ := Kd.at_int HR0.out a4 p275 q275; cases e275; replace hx275_0 := cel HB hx275_0; replace p275 := eq_true p275; replace q275 := eq_true q275; have p276 : 0 ≤ ((ji8) : Int) := oda; have q276 : (ji8) < (l1.length : Int) := oda; obtain ⟨ad276, e276, hx276_0, hx276_1, hx276_2, hx276_3, hx276_4⟩ := at_T50 HR1.out (ji8) p276 q276; cases e276; replace hx276_0 := cel HB hx276_0; replace hx276_1 := cel HB hx276_1; replace hx276_2 := cel HB hx276_2; replace hx276_3 := cel HB hx276_3; replace hx276_4 := cel HB hx276_4; replace p276 := eq_true p276; replace q276 := eq_true q276) | ((with_reducible refine gate_dst (N := 12) rfl ?_); refine box_event ?hg (N := 12) ?hd (cs := #[.string (⟨#[]⟩ : ByteArray), .int .i64 0, .int .i64 0, .int .i64 0, .int .i64 0]) (t := 50) ?hr ?_; (case hd => rfl); (case hg => rfl); (case hr => first | (go_simp; done) | (go_simp; rfl)); intro gb277 hg w79 hbox hb; have n0_ := Aside0.mk (Kd.R_below (rdl HO274) hb); have n1_ := Aside0.mk (below_step (bel HB) hb); have n2_ := Aside0.mk (hbox); have n3_ := Aside0.mk ((by rw [hg]; exact (below_size (bel HB)) : w.heap.size ≤ gb277)); have n4_ := Aside0.mk ((by rw [hg]; exact (below_size (bel HB)) : w.heap.size ≤ gb277)); clear HO274; clear HB; have HO274 := n0_; have HB := n1_; have BK277 := n2_; have GW277 := n3_; have GE277 := n4_; clear n0_ n1_ n2_ n3_ n4_; clear hb hbox hg; have hcz80_0 : w79.cell? ⟨gb277, 0, none⟩ = some (.string (⟨#[]⟩ : ByteArray)) := (blk_cell BK277.out 0).trans rfl; have hcz80_1 : w79.cell? ⟨gb277, 1, none⟩ = some (.int .i64 0) := (blk_cell BK277.out 1).trans rfl; have hcz80_2 : w79.cell? ⟨gb277, 2, none⟩ = some (.int .i64 0) := (blk_cell BK277.out 2).trans rfl; have hcz80_3 : w79.cell? ⟨gb277, 3, none⟩ = some (.int .i64 0) := (blk_cell BK277.out 3).trans rfl; have hcz80_4 : w79.cell? ⟨gb277, 4, none⟩ = some (.int .i64 0) := (blk_cell BK277.out 4).trans rfl; have hfz80_0 := blk_frozen BK277.out 0; have hfz80_1 := blk_frozen BK277.out 1; have hfz80_2 := blk_frozen BK277.out 2; have hfz80_3 := blk_frozen BK277.out 3; have hfz80_4 := blk_frozen BK277.out 4))
       go_ret
       exact ⟨_, by first | rfl | (simp [errW_none, errW_some] <;> rfl) | (simp only [← hji8]; first | rfl | (simp [errW_none, errW_some] <;> rfl)) | (simp [*, errW_none, errW_some] <;> rfl), by (with_reducible repeat (first | apply Kd.R_alloc | apply Kd.R_drewN | apply Kd.R_drew)); exact Kd.R_mono (Kd.R_far (p := ⟨gb277, 4, none⟩) (Kd.R_far (p := ⟨gb277, 3, none⟩) (Kd.R_far (p := ⟨gb277, 2, none⟩) (Kd.R_far (p := ⟨gb277, 1, none⟩) (Kd.R_far (p := ⟨gb277, 0, none⟩) (Kd.R_types HO274.out BK277.out (by decide)) (fun _ hk => hk.2) (.string ((rd_T50 l1 (ji8)).f0))) (fun _ hk => hk.2) (.int .i64 ((rd_T50 l1 (ji8)).f1))) (fun _ hk => hk.2) (.int .i64 ((rd_T50 l1 (ji8)).f2))) (fun _ hk => hk.2) (.int .i64 ((rd_T50 l1 (ji8)).f3))) (fun _ hk => hk.2) (.int .i64 ((rd_T50 l1 (ji8)).f4))) (fun _ hk => trivial), bel1 HB GE277⟩
    ·rw [if_neg c10] at H
     exact absurd H (by simp)
   ·rw [if_neg c9] at H
    exact absurd H (by simp)
  ·rw [if_neg c7] at H
   exact absurd H (by simp)
 ·rw [if_neg c6] at H
  exact absurd H (by simp)

/-! ### impl_yardFindings: function 25 -/
mutual
def impl_yardFindings.l0 : Nat → List (S50) → Int → List (S66) → List (List Int) → Int → Int → Option ((List (S66)))
 | 0, _, _, _, _, _, _ => none
 | k + 1, x1, x2, x7, x15, x16, x17 => if x17 < x16 then (if 0 ≤ x17 then (if x17 < (x15.length : Int) then (impl_yardFindings.l1 k x1 x2 x7 x17 (rd_L1 x15 x17) x15 x16 x17 ((rd_L1 x15 x17).length : Int) 0) else (none)) else (none)) else (some x7)
def impl_yardFindings.l1 : Nat → List (S50) → Int → List (S66) → Int → List Int → List (List Int) → Int → Int → Int → Int → Option ((List (S66)))
 | 0, _, _, _, _, _, _, _, _, _, _ => none
 | k + 1, x1, x2, x7, x8, x9, x15, x16, x17, x23, x24 => if x24 < x23 then ((impl_brokenRules.f k x9 x1 x2 x8 x24).bind fun t304 => (impl_yardFindings.l2 k x1 x2 x7 x8 x9 x24 x15 x16 x17 x23 x24 t304 (t304.length : Int) 0)) else (impl_yardFindings.l0 k x1 x2 x7 x15 x16 (wrap64 (x17 + 1)))
def impl_yardFindings.l2 : Nat → List (S50) → Int → List (S66) → Int → List Int → Int → List (List Int) → Int → Int → Int → Int → List Int → Int → Int → Option ((List (S66)))
 | 0, _, _, _, _, _, _, _, _, _, _, _, _, _, _ => none
 | k + 1, x1, x2, x7, x8, x9, x10, x15, x16, x17, x23, x24, x32, x33, x34 => if x34 < x33 then (if 0 ≤ x34 then (if x34 < (x32.length : Int) then (if x7.length < 5864062014805 then (impl_yardFindings.l2 k x1 x2 (x7 ++ [(⟨rd x32 x34, x8, x10⟩ : S66)]) x8 x9 x10 x15 x16 x17 x23 x24 x32 x33 (wrap64 (x34 + 1))) else (none)) else (none)) else (none)) else (impl_yardFindings.l1 k x1 x2 x7 x8 x9 x15 x16 x17 x23 (wrap64 (x24 + 1)))
end
def impl_yardFindings.f (k : Nat) (l0_0 : List (List Int)) (l1 : List (S50)) (a2 : Int) : Option ((List (S66))) := impl_yardFindings.l0 k l1 a2 (([] : List (S66))) l0_0 (l0_0.length : Int) 0
theorem impl_yardFindings.mono_l : ∀ k, (∀ y0 y1 y2 y3 y4 y5, LeO (impl_yardFindings.l0 k y0 y1 y2 y3 y4 y5) (impl_yardFindings.l0 (k + 1) y0 y1 y2 y3 y4 y5)) ∧ (∀ y0 y1 y2 y3 y4 y5 y6 y7 y8 y9, LeO (impl_yardFindings.l1 k y0 y1 y2 y3 y4 y5 y6 y7 y8 y9) (impl_yardFindings.l1 (k + 1) y0 y1 y2 y3 y4 y5 y6 y7 y8 y9)) ∧ (∀ y0 y1 y2 y3 y4 y5 y6 y7 y8 y9 y10 y11 y12 y13, LeO (impl_yardFindings.l2 k y0 y1 y2 y3 y4 y5 y6 y7 y8 y9 y10 y11 y12 y13) (impl_yardFindings.l2 (k + 1) y0 y1 y2 y3 y4 y5 y6 y7 y8 y9 y10 y11 y12 y13))
 | 0 => ⟨fun _ _ _ _ _ _ r h => by simp [impl_yardFindings.l0] at h, fun _ _ _ _ _ _ _ _ _ _ r h => by simp [impl_yardFindings.l1] at h, fun _ _ _ _ _ _ _ _ _ _ _ _ _ _ r h => by simp [impl_yardFindings.l2] at h⟩
 | k + 1 => by
  obtain ⟨ih0, ih1, ih2⟩ := impl_yardFindings.mono_l k
  refine ⟨?_, ?_, ?_⟩
  ·intro y0 y1 y2 y3 y4 y5
   unfold impl_yardFindings.l0
   repeat' first
   | (with_reducible exact ih0 _ _ _ _ _ _)
   | (with_reducible exact ih1 _ _ _ _ _ _ _ _ _ _)
   | (with_reducible exact ih2 _ _ _ _ _ _ _ _ _ _ _ _ _ _)
   | (with_reducible exact impl_brokenRules.mono _ _ _ _ _ _)
   | (with_reducible exact LeO.refl _)
   | (with_reducible exact LeO.none _)
   | (with_reducible refine LeO.ite ?_ ?_)
   | (with_reducible refine LeO.bind ?_ (fun _ => ?_))
   | exact ih0 _ _ _ _ _ _
   | exact ih1 _ _ _ _ _ _ _ _ _ _
   | exact ih2 _ _ _ _ _ _ _ _ _ _ _ _ _ _
   | exact impl_brokenRules.mono _ _ _ _ _ _
   | exact LeO.none _
   | refine LeO.ite ?_ ?_
   | refine LeO.bind ?_ (fun _ => ?_)
  ·intro y0 y1 y2 y3 y4 y5 y6 y7 y8 y9
   unfold impl_yardFindings.l1
   repeat' first
   | (with_reducible exact ih0 _ _ _ _ _ _)
   | (with_reducible exact ih1 _ _ _ _ _ _ _ _ _ _)
   | (with_reducible exact ih2 _ _ _ _ _ _ _ _ _ _ _ _ _ _)
   | (with_reducible exact impl_brokenRules.mono _ _ _ _ _ _)
   | (with_reducible exact LeO.refl _)
   | (with_reducible exact LeO.none _)
   | (with_reducible refine LeO.ite ?_ ?_)
   | (with_reducible refine LeO.bind ?_ (fun _ => ?_))
   | exact ih0 _ _ _ _ _ _
   | exact ih1 _ _ _ _ _ _ _ _ _ _
   | exact ih2 _ _ _ _ _ _ _ _ _ _ _ _ _ _
   | exact impl_brokenRules.mono _ _ _ _ _ _
   | exact LeO.none _
   | refine LeO.ite ?_ ?_
   | refine LeO.bind ?_ (fun _ => ?_)
  ·intro y0 y1 y2 y3 y4 y5 y6 y7 y8 y9 y10 y11 y12 y13
   unfold impl_yardFindings.l2
   repeat' first
   | (with_reducible exact ih0 _ _ _ _ _ _)
   | (with_reducible exact ih1 _ _ _ _ _ _ _ _ _ _)
   | (with_reducible exact ih2 _ _ _ _ _ _ _ _ _ _ _ _ _ _)
   | (with_reducible exact impl_brokenRules.mono _ _ _ _ _ _)
   | (with_reducible exact LeO.refl _)
   | (with_reducible exact LeO.none _)
   | (with_reducible refine LeO.ite ?_ ?_)
   | (with_reducible refine LeO.bind ?_ (fun _ => ?_))
   | exact ih0 _ _ _ _ _ _
   | exact ih1 _ _ _ _ _ _ _ _ _ _
   | exact ih2 _ _ _ _ _ _ _ _ _ _ _ _ _ _
   | exact impl_brokenRules.mono _ _ _ _ _ _
   | exact LeO.none _
   | refine LeO.ite ?_ ?_
   | refine LeO.bind ?_ (fun _ => ?_)
theorem impl_yardFindings.mono : ∀ a0 a1 a2 k, LeO (impl_yardFindings.f k a0 a1 a2) (impl_yardFindings.f (k + 1) a0 a1 a2) := by
 intro a0 a1 a2 k
 obtain ⟨ih0, ih1, ih2⟩ := impl_yardFindings.mono_l k
 unfold impl_yardFindings.f
 repeat' first
   | (with_reducible exact ih0 _ _ _ _ _ _)
   | (with_reducible exact ih1 _ _ _ _ _ _ _ _ _ _)
   | (with_reducible exact ih2 _ _ _ _ _ _ _ _ _ _ _ _ _ _)
   | (with_reducible exact impl_brokenRules.mono _ _ _ _ _ _)
   | (with_reducible exact LeO.refl _)
   | (with_reducible exact LeO.none _)
   | (with_reducible refine LeO.ite ?_ ?_)
   | (with_reducible refine LeO.bind ?_ (fun _ => ?_))
   | exact ih0 _ _ _ _ _ _
   | exact ih1 _ _ _ _ _ _ _ _ _ _
   | exact ih2 _ _ _ _ _ _ _ _ _ _ _ _ _ _
   | exact impl_brokenRules.mono _ _ _ _ _ _
   | exact LeO.none _
   | refine LeO.ite ?_ ?_
   | refine LeO.bind ?_ (fun _ => ?_)
set_option maxHeartbeats 8000000 in
set_option maxRecDepth 100000 in
theorem impl_yardFindings.calls (k : Nat) (A0_0 : Option Addr) (c0_0 : Nat) (l0_0 : List (List Int)) (A1 : Option Addr) (c1 : Nat) (l1 : List (S50)) (a2 : Int) (r : List (S66)) (w : World) (hr0_0 : Kd.C (Kd.slice 3 (Kd.int .i64)) w A0_0 l0_0.length l0_0) (hc0_0 : l0_0.length ≤ c0_0) (hr1 : Kd.C k50 w A1 l1.length l1) (hc1 : l1.length ≤ c1) (h : impl_yardFindings.f k l0_0 l1 a2 = some r) :
  Calls Try.prog 25 #[.agg #[.slice A0_0 l0_0.length c0_0], .slice A1 l1.length c1, .int .i64 a2] w fun e w' => ∃ v0_ : Value, e = .returned (v0_) ∧ Kd.R k66 66 w' w.heap.size (fun _ => True) v0_ r ∧ Below w.heap.size w w' := by
 have hu30 := Try.underlying30
 have hu66 := Try.underlying66
 have HR0_0 := Aside0.mk hr0_0
 have HC0_0 := Aside0.mk hc0_0
 clear hr0_0 hc0_0
 have HR1 := Aside0.mk hr1
 have HC1 := Aside0.mk hc1
 clear hr1 hc1
 have HB := Aside0.mk (Below.refl w.heap.size w)
 have H : (impl_yardFindings.l0 k l1 a2 (([] : List (S66))) l0_0 (l0_0.length : Int) 0) = some r := h
 clear h
 obtain ⟨y300, hy300⟩ : ∃ y_ : List (S66), y_ = (([] : List (S66))) := ⟨_, rfl⟩
 replace H : (impl_yardFindings.l0 k l1 a2 y300 l0_0 (l0_0.length : Int) 0) = some r := by first | (rw [hy300]; with_reducible exact H) | (have H2_ := (Option.bind_some _ _).symm.trans H; rw [hy300]; with_reducible exact H2_) | (have H2_ := (Option.bind_some _ _).symm.trans H; with_reducible exact H2_) | with_reducible exact H | (rw [hy300]; exact H) | exact H
 have Ny300 := Aside0.mk hy300
 clear hy300
 have H' := Aside0.mk H
 clear H
 go_enter Try.func25, Try.ntmps25
 go_wp2_with (first | ((with_reducible refine gate_dst (N := 3) rfl ?_); refine box_event ?hg (N := 3) ?hd (cs := #[.slice A0_0 l0_0.length c0_0]) (t := 30) ?hr ?_; (case hd => rfl); (case hg => rfl); (case hr => first | (go_simp; done) | (go_simp; rfl)); intro gb299 hg w4 hbox hb; have n0_ := Aside0.mk (below_step (bel HB) hb); have n1_ := Aside0.mk (hbox); have n2_ := Aside0.mk ((by rw [hg]; exact (below_size (bel HB)) : w.heap.size ≤ gb299)); have n3_ := Aside0.mk ((by rw [hg]; exact (below_size (bel HB)) : w.heap.size ≤ gb299)); clear HB; have HB := n0_; have BK299 := n1_; have GW299 := n2_; have GE299 := n3_; clear n0_ n1_ n2_ n3_; clear hb hbox hg) | ((with_reducible refine gate_dst (N := 13) rfl ?_); refine Kd.R_lit k66 _ 66 ?hg (N := 13) ?hd (xs := ([] : List (S66))) (inner := []) (ok := fun _ => True) (okp := fun _ => True) ?hr ?hp (fun _ hk => hk) trivial (Below.refl _ _) (Nat.le_refl _) (by simp) ?_; (case hd => rfl); (case hg => rfl); (case hr => first | (go_simp; done) | (go_simp; rfl)); (case hp => exact (Reps.none _ _)); intro v301 w5 ho6 hb hg_ hnew_; clear hg_ hnew_; (first | rw [← Ny300.out] at ho6 | (simp only [Int.reduceToNat] at ho6; rw [← Ny300.out] at ho6)); have n0_ := Aside0.mk (Kd.R_lower ho6 (below_size (bel1 HB GE299))); have n1_ := Aside0.mk (blk_below (g := gb299) (o := .cells #[.slice A0_0 l0_0.length c0_0] 30 (0, 0)) (bkl BK299) hb); have n2_ := Aside0.mk (below_step (bel1 HB GE299) hb); clear BK299; clear HB; have HO302 := n0_; have BK299 := n1_; have HB := n2_; clear n0_ n1_ n2_; clear hb ho6; have hcz7_0 : w5.cell? ⟨gb299, 0, none⟩ = some (.slice A0_0 l0_0.length c0_0) := (blk_cell BK299.out 0).trans rfl; have hfz7_0 := blk_frozen BK299.out 0))
 go_loopg [7, 17] k (fun kq v7 v17 w' => ∃ (x7_1 : List (S66)) (x17_1 : Int), v17 = .int .i64 x17_1 ∧ Aside0 (impl_yardFindings.l0 kq l1 a2 x7_1 l0_0 (l0_0.length : Int) x17_1 = some r) ∧ Aside0 (kq ≤ k) ∧ Aside0 (Kd.R k66 66 w' w.heap.size (fun _ => True) v7 x7_1) ∧ Aside0 (w'.heap[gb299]? = some (.cells #[(.slice A0_0 l0_0.length c0_0)] 30 (0, 0))) ∧ Aside0 (Below w.heap.size w w'))
 case atStart => exact ⟨(y300), (0), (by first | rfl | (simp; done) | (simp [*]; done)), H', ⟨Nat.le_refl _⟩, ⟨rdl HO302⟩, ⟨bkl BK299⟩, ⟨bel1 HB GE299⟩⟩
 case round =>
  clear H'
  try clear c1
  try clear c2
  try clear p2
  try clear hcz7_0
  try clear hfz7_0
  obtain ⟨x7_1, x17_1, rfl, HA, HK1, HO_7, BK299, HB⟩ := hrel
  cases gk with
  | zero => exact absurd HA.out (by simp [impl_yardFindings.l0])
  | succ k1 =>
   have H := HA.out
   clear HA
   simp only [impl_yardFindings.l0] at H
   by_cases c8 : x17_1 < (l0_0.length : Int)
   ·rw [if_pos c8] at H
    have c8b0 : decide (x17_1 < (l0_0.length : Int)) = true := decide_eq_true c8
    clear c8
    by_cases c9 : 0 ≤ x17_1
    ·rw [if_pos c9] at H
     have c9b0 : decide (0 ≤ x17_1) = true := decide_eq_true c9
     clear c9
     by_cases c10 : x17_1 < (l0_0.length : Int)
     ·rw [if_pos c10] at H
      have c10b0 : decide (x17_1 < (l0_0.length : Int)) = true := decide_eq_true c10
      clear c10
      have H' := Aside0.mk H
      clear H
      have p303 : 0 ≤ (x17_1 : Int) := oda
      have q303 : x17_1 < (l0_0.length : Int) := oda
      obtain ⟨ad303, A303_0, c303_0, e303, hx303_0, hl303_0, hi303_0⟩ := at_L1 HR0_0.out x17_1 p303 q303
      cases e303
      replace hx303_0 := cel HB hx303_0
      have HR303_0 := Aside0.mk hi303_0
      have HC303_0 := Aside0.mk hl303_0
      clear hi303_0 hl303_0
      replace p303 := eq_true p303
      replace q303 := eq_true q303
      go_wp2
      go_loopg [7, 24] k1 (fun kq v7 v24 w' => ∃ (x7_2 : List (S66)) (x24_2 : Int), v24 = .int .i64 x24_2 ∧ Aside0 (impl_yardFindings.l1 kq l1 a2 x7_2 x17_1 (rd_L1 l0_0 x17_1) l0_0 (l0_0.length : Int) x17_1 ((rd_L1 l0_0 x17_1).length : Int) x24_2 = some r) ∧ Aside0 (kq ≤ k1) ∧ Aside0 (Kd.R k66 66 w' w.heap.size (fun _ => True) v7 x7_2) ∧ Aside0 (w'.heap[gb299]? = some (.cells #[(.slice (some ad303) l0_0.length c0_0)] 30 (0, 0))) ∧ Aside0 (Below w.heap.size w w'))
      case atStart => exact ⟨(x7_1), (0), (by first | rfl | (simp; done) | (simp [*]; done)), H', ⟨Nat.le_refl _⟩, ⟨rdl HO_7⟩, ⟨bkl BK299⟩, ⟨bel1 HB GE299⟩⟩
      case round =>
       clear H'
       try clear c1
       try clear c2
       try clear p2
       try clear c3
       try clear p3
       try clear q3
       try clear hx3
       try clear c8
       try clear c8b0
       try clear c9
       try clear c9b0
       try clear c10
       try clear c10b0
       try clear hcz7_0
       try clear hfz7_0
       try clear hx303_0
       try clear p2
       try clear p303
       try clear q303
       obtain ⟨x7_2, x24_2, rfl, HA, HK2, HO_7, BK299, HB⟩ := hrel
       cases gk with
       | zero => exact absurd HA.out (by simp [impl_yardFindings.l1])
       | succ k2 =>
        have H := HA.out
        clear HA
        simp only [impl_yardFindings.l1] at H
        by_cases c11 : x24_2 < ((rd_L1 l0_0 x17_1).length : Int)
        ·rw [if_pos c11] at H
         have c11b0 : decide (x24_2 < ((rd_L1 l0_0 x17_1).length : Int)) = true := decide_eq_true c11
         clear c11
         replace H := Option.bind_eq_some_iff.mp H
         obtain ⟨t304, A120, H⟩ := H
         replace H : (impl_yardFindings.l2 k2 l1 a2 x7_2 x17_1 (rd_L1 l0_0 x17_1) x24_2 l0_0 (l0_0.length : Int) x17_1 ((rd_L1 l0_0 x17_1).length : Int) x24_2 t304 (t304.length : Int) 0) = some r := H
         have A12 := Aside0.mk A120
         clear A120
         have H' := Aside0.mk H
         clear H
         go_wp2_with (first | ((with_reducible refine gate_callee (f := 43) rfl ?_); refine goesL_ (some 32) rfl rfl Try.func43 (by kernel_rfl) rfl #[.slice A303_0 (rd_L1 l0_0 x17_1).length c303_0, .slice A1 l1.length c1, .int .i64 a2, .int .i64 x17_1, .int .i64 x24_2] rfl gmp ?_; (with_reducible refine (impl_brokenRules.calls k2 _ _ (rd_L1 l0_0 x17_1) _ _ l1 a2 x17_1 x24_2 t304 _ ?side1 ?side2 ?side3 ?side4 A12.out).mono ?_); (case side1 => exact cdl (Kd.C_below HR303_0.out HB.out)); (case side2 => exact HC303_0.out); (case side3 => exact cdl (Kd.C_below HR1.out HB.out)); (case side4 => exact HC1.out); rintro e w13 ⟨v305, rfl, ho0, hb⟩; refine ⟨_, rfl, ?_⟩; have n0_ := Aside0.mk (Kd.R_below (rdl HO_7) hb); have n1_ := Aside0.mk (Kd.R_lower ho0 (below_size (bel1 HB GE299))); have n2_ := Aside0.mk (blk_below (g := gb299) (o := .cells #[.slice (some ad303) l0_0.length c0_0] 30 (0, 0)) (bkl BK299) hb); have n3_ := Aside0.mk (below_step (bel1 HB GE299) hb); clear HO_7; clear BK299; clear HB; have HO_7 := n0_; have HO306 := n1_; have BK299 := n2_; have HB := n3_; clear n0_ n1_ n2_ n3_; (try clear hb); (try clear hb2); (try clear hk); (try clear hi); (try clear ho0); obtain ⟨Ao14, co14, eo14⟩ := Kd.R_slice HO306.out; subst eo14))
         go_loopg [7, 34] k2 (fun kq v7 v34 w' => ∃ (x7_3 : List (S66)) (x34_3 : Int), v34 = .int .i64 x34_3 ∧ Aside0 (impl_yardFindings.l2 kq l1 a2 x7_3 x17_1 (rd_L1 l0_0 x17_1) x24_2 l0_0 (l0_0.length : Int) x17_1 ((rd_L1 l0_0 x17_1).length : Int) x24_2 t304 (t304.length : Int) x34_3 = some r) ∧ Aside0 (kq ≤ k2) ∧ Aside0 (Kd.R k66 66 w' w.heap.size (fun _ => True) v7 x7_3) ∧ Aside0 (Kd.R (Kd.int .i64) 3 w' w.heap.size (fun _ => True) (.slice Ao14 t304.length co14) t304) ∧ Aside0 (w'.heap[gb299]? = some (.cells #[(.slice (some ad303) l0_0.length c0_0)] 30 (0, 0))) ∧ Aside0 (Below w.heap.size w w'))
         case atStart => exact ⟨(x7_2), (0), (by first | rfl | (simp; done) | (simp [*]; done)), H', ⟨Nat.le_refl _⟩, ⟨rdl HO_7⟩, ⟨rdl HO306⟩, ⟨bkl BK299⟩, ⟨bel1 HB GE299⟩⟩
         case round =>
          clear H'
          try clear c1
          try clear c2
          try clear p2
          try clear c3
          try clear p3
          try clear q3
          try clear hx3
          try clear c4
          try clear c8
          try clear c8b0
          try clear c9
          try clear c9b0
          try clear c10
          try clear c10b0
          try clear c11
          try clear c11b0
          try clear hcz7_0
          try clear hfz7_0
          try clear hx303_0
          try clear p2
          try clear p3
          try clear p303
          try clear q3
          try clear q303
          obtain ⟨x7_3, x34_3, rfl, HA, HK3, HO_7, HO_32, BK299, HB⟩ := hrel
          cases gk with
          | zero => exact absurd HA.out (by simp [impl_yardFindings.l2])
          | succ k3 =>
           have H := HA.out
           clear HA
           simp only [impl_yardFindings.l2] at H
           by_cases c15 : x34_3 < (t304.length : Int)
           ·rw [if_pos c15] at H
            have c15b0 : decide (x34_3 < (t304.length : Int)) = true := decide_eq_true c15
            clear c15
            by_cases c16 : 0 ≤ x34_3
            ·rw [if_pos c16] at H
             have c16b0 : decide (0 ≤ x34_3) = true := decide_eq_true c16
             clear c16
             by_cases c17 : x34_3 < (t304.length : Int)
             ·rw [if_pos c17] at H
              have c17b0 : decide (x34_3 < (t304.length : Int)) = true := decide_eq_true c17
              clear c17
              by_cases c18 : x7_3.length < 5864062014805
              ·rw [if_pos c18] at H
               have LMc18 := Aside0.mk c18
               clear c18
               obtain ⟨y308, hy308⟩ : ∃ y_ : List (S66), y_ = (x7_3 ++ [(⟨rd t304 x34_3, x17_1, x24_2⟩ : S66)]) := ⟨_, rfl⟩
               replace H : (impl_yardFindings.l2 k3 l1 a2 y308 x17_1 (rd_L1 l0_0 x17_1) x24_2 l0_0 (l0_0.length : Int) x17_1 ((rd_L1 l0_0 x17_1).length : Int) x24_2 t304 (t304.length : Int) (wrap64 (x34_3 + 1))) = some r := by first | (rw [hy308]; with_reducible exact H) | (have H2_ := (Option.bind_some _ _).symm.trans H; rw [hy308]; with_reducible exact H2_) | (have H2_ := (Option.bind_some _ _).symm.trans H; with_reducible exact H2_) | with_reducible exact H | (rw [hy308]; exact H) | exact H
               have Ny308 := Aside0.mk hy308
               clear hy308
               have H' := Aside0.mk H
               clear H
               have p307 : 0 ≤ (x34_3 : Int) := oda
               have q307 : x34_3 < (t304.length : Int) := oda
               obtain ⟨ad307, e307, hx307_0⟩ := Kd.at_int (Kd.R_reads' HO_32.out).2.2 x34_3 p307 q307
               cases e307
               replace p307 := eq_true p307
               replace q307 := eq_true q307
               go_wp2_with (first | ((with_reducible refine gate_builtin (b := .append) (xs := #[.tmp 38, .tmp 43]) rfl ?_); at_builtin; refine Kd.R_append k66 (w0 := w) w.heap.size rfl (.tmp 38) (.tmp 43) 45 66 (.agg #[(.int .i64 0), (.int .i64 0), (.int .i64 0)]) 24 rfl Try.underlying45 info66 rfl (by decide) (by omega) u7 x7_3 (⟨rd t304 x34_3, x17_1, x24_2⟩ : S66) [.int .i64 (rd t304 x34_3), .int .i64 x17_1, .int .i64 x24_2] (fun _ => True) (fun _ => False) rfl rfl ?aP (fun _ hk => hk.elim) ?aF ?aO ?aB ?aS ?aL ?_; (case aP => exact k66_mkM _ _ _ (⟨rd t304 x34_3, x17_1, x24_2⟩ : S66)); (case aB => exact (bel1 HB GE299)); (case aF => exact (fun _ _ => trivial)); (case aO => exact (rdl HO_7)); (case aS => exact (below_size (bel1 HB GE299))); (case aL => have := LMc18.out; omega); intro v309 w19 ho hb hg hat; rw [← Ny308.out] at ho; have n0_ := Aside0.mk (Kd.R_over' (rdl HO_32) (Kd.R_typed (rdl HO_7)) (by decide) hg); have n1_ := Aside0.mk (blk_grown (g := gb299) (o := .cells #[.slice (some ad303) l0_0.length c0_0] 30 (0, 0)) (bkl BK299) hg (Kd.R_ne HO_7.out BK299.out (by decide))); have n2_ := Aside0.mk (hb); have n3_ := Aside0.mk (ho); clear HO_32; clear BK299; clear HB; clear HO_7; have HO_32 := n0_; have BK299 := n1_; have HB := n2_; have HO310 := n3_; clear n0_ n1_ n2_ n3_; clear ho hb hg hat))
               go_roundg k3
               case measure => have := HK1.out; have := HK2.out; have := HK3.out; omega
               case rel => exact ⟨(y308), (wrap64 (x34_3 + 1)), (by first | rfl | (simp; done) | (simp [*]; done)), H', ⟨by have := HK1.out; have := HK2.out; have := HK3.out; omega⟩, ⟨rdl HO310⟩, ⟨rdl HO_32⟩, ⟨bkl BK299⟩, ⟨bel1 HB GE299⟩⟩
              ·rw [if_neg c18] at H
               exact absurd H (by simp)
             ·rw [if_neg c17] at H
              exact absurd H (by simp)
            ·rw [if_neg c16] at H
             exact absurd H (by simp)
           ·rw [if_neg c15] at H
            have c15b0 : decide (x34_3 < (t304.length : Int)) = false := decide_eq_false c15
            clear c15
            have H' := Aside0.mk H
            clear H
            go_wp2
            go_roundg k3
            case measure => have := HK1.out; have := HK2.out; have := HK3.out; omega
            case rel => exact ⟨(x7_3), (wrap64 (x24_2 + 1)), (by first | rfl | (simp; done) | (simp [*]; done)), H', ⟨by have := HK1.out; have := HK2.out; have := HK3.out; omega⟩, ⟨rdl HO_7⟩, ⟨bkl BK299⟩, ⟨bel1 HB GE299⟩⟩
        ·rw [if_neg c11] at H
         have c11b0 : decide (x24_2 < ((rd_L1 l0_0 x17_1).length : Int)) = false := decide_eq_false c11
         clear c11
         have H' := Aside0.mk H
         clear H
         go_wp2
         go_roundg k2
         case measure => have := HK1.out; have := HK2.out; omega
         case rel => exact ⟨(x7_2), (wrap64 (x17_1 + 1)), (by first | rfl | (simp; done) | (simp [*]; done)), H', ⟨by have := HK1.out; have := HK2.out; omega⟩, ⟨rdl HO_7⟩, ⟨bkl BK299⟩, ⟨bel1 HB GE299⟩⟩
     ·rw [if_neg c10] at H
      exact absurd H (by simp)
    ·rw [if_neg c9] at H
     exact absurd H (by simp)
   ·rw [if_neg c8] at H
    have c8b0 : decide (x17_1 < (l0_0.length : Int)) = false := decide_eq_false c8
    clear c8
    obtain rfl := Option.some.inj H
    go_wp2
    go_ret
    exact ⟨_, by first | rfl | (simp [errW_none, errW_some] <;> rfl) | (simp [*, errW_none, errW_some] <;> rfl), rdl HO_7, bel1 HB GE299⟩

end Go.Proofs.Ytlbmookfonlpjaa.P
