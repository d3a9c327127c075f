-- Written by a program of this session over the translation (a variant of the printer, see wip/gen); Lean checks it.
import Derived.Test.YtkahifpcimoogaaPx0
import Derived.Test.YtkahifpcimoogaaPx5
import Derived.Test.YtkahifpcimoogaaPx6
namespace Go.Proofs.Ytkahifpcimoogaa.P
open Go.RowKit Go.Proofs.YtkahifpcimoogaaW.PrintWords Go.Proofs.YtkahifpcimoogaaW.PrintLast Go.Proofs.YtkahifpcimoogaaW.PrintMore
attribute [local go_sem] Go.Proofs.Ytkahifpcimoogaa.V.isSome_setCell max2_int min2_int max_two min_two max_three min_three max_four min_four   -- for this text's walks alone
set_option linter.unusedVariables false
set_option linter.unusedSimpArgs false

/-! ### impl_BallastFor: function 7 -/
def impl_BallastFor.j0 : Nat → List (S38) → Int → Int → Bool → Option (Int × Bool)
 | 0, _, _, _, _ => none
 | k + 1, x0, x1, x2, x24 => if x24 = true then (some (0, false)) else ((impl_moments.f k x0).bind fun bt186 => ((impl_size.f bt186.2.1).bind fun t189 => (if x1 = 0 then (none) else (if (mn (wrap64 (Int.tdiv t189 x1)) x2) < x2 then ((impl_size.f (wrap64 (t189 - (wrap64 (x1 * (wrap64 ((mn (wrap64 (Int.tdiv t189 x1)) x2) + 1))))))).bind fun t190 => ((impl_size.f (wrap64 (t189 - (wrap64 (x1 * (mn (wrap64 (Int.tdiv t189 x1)) x2)))))).bind fun t191 => (if t190 < t191 then (some (wrap64 ((mn (wrap64 (Int.tdiv t189 x1)) x2) + 1), true)) else (some (mn (wrap64 (Int.tdiv t189 x1)) x2, true))))) else (some (mn (wrap64 (Int.tdiv t189 x1)) x2, true))))))
def impl_BallastFor.f (k : Nat) (l0 : List (S38)) (a1 : Int) (a2 : Int) : Option (Int × Bool) := (impl_IsValidLoads.f k l0).bind fun t183 => (if t183 = true then ((impl_within.f a1 1 200).bind fun t184 => (if t184 = true then ((impl_within.f a2 0 1000000).bind fun t185 => (impl_BallastFor.j0 k l0 a1 a2 (!t185))) else (impl_BallastFor.j0 k l0 a1 a2 true))) else (impl_BallastFor.j0 k l0 a1 a2 true))
theorem impl_BallastFor.mono_l : ∀ k, (∀ y0 y1 y2 y3, LeO (impl_BallastFor.j0 k y0 y1 y2 y3) (impl_BallastFor.j0 (k + 1) y0 y1 y2 y3))
 | 0 => fun _ _ _ _ r h => by simp [impl_BallastFor.j0] at h
 | k + 1 => by
  have ih0 := impl_BallastFor.mono_l k
  ·intro y0 y1 y2 y3
   unfold impl_BallastFor.j0
   repeat' first
   | (with_reducible exact ih0 _ _ _ _)
   | (with_reducible exact impl_IsValidLoads.mono _ _)
   | (with_reducible exact impl_moments.mono _ _)
   | (with_reducible exact LeO.refl _)
   | (with_reducible exact LeO.none _)
   | (with_reducible refine LeO.ite ?_ ?_)
   | (with_reducible refine LeO.bind ?_ (fun _ => ?_))
   | exact ih0 _ _ _ _
   | exact impl_IsValidLoads.mono _ _
   | exact impl_moments.mono _ _
   | exact LeO.none _
   | refine LeO.ite ?_ ?_
   | refine LeO.bind ?_ (fun _ => ?_)
theorem impl_BallastFor.mono : ∀ a0 a1 a2 k, LeO (impl_BallastFor.f k a0 a1 a2) (impl_BallastFor.f (k + 1) a0 a1 a2) := by
 intro a0 a1 a2 k
 have ih0 := impl_BallastFor.mono_l k
 unfold impl_BallastFor.f
 repeat' first
   | (with_reducible exact ih0 _ _ _ _)
   | (with_reducible exact impl_IsValidLoads.mono _ _)
   | (with_reducible exact impl_moments.mono _ _)
   | (with_reducible exact LeO.refl _)
   | (with_reducible exact LeO.none _)
   | (with_reducible refine LeO.ite ?_ ?_)
   | (with_reducible refine LeO.bind ?_ (fun _ => ?_))
   | exact ih0 _ _ _ _
   | exact impl_IsValidLoads.mono _ _
   | exact impl_moments.mono _ _
   | exact LeO.none _
   | refine LeO.ite ?_ ?_
   | refine LeO.bind ?_ (fun _ => ?_)
set_option maxHeartbeats 8000000 in
set_option maxRecDepth 100000 in
theorem impl_BallastFor.calls (k : Nat) (A0 : Option Addr) (c0 : Nat) (l0 : List (S38)) (a1 : Int) (a2 : Int) (r1 : Int) (r2 : Bool) (w : World) (hr0 : Kd.C k38 w A0 l0.length l0) (hc0 : l0.length ≤ c0) (h : impl_BallastFor.f k l0 a1 a2 = some (r1, r2)) :
  Calls Try.prog 7 #[.slice A0 l0.length c0, .int .i64 a1, .int .i64 a2] w fun e w' => e = .returned (.tuple #[.int .i64 r1, .bool r2]) ∧ Below w.heap.size w w' := by
 have HR0 := Aside0.mk hr0
 have HC0 := Aside0.mk hc0
 clear hr0 hc0
 have HB := Aside0.mk (Below.refl w.heap.size w)
 have H : ((impl_IsValidLoads.f k l0).bind fun t183 => (if t183 = true then ((impl_within.f a1 1 200).bind fun t184 => (if t184 = true then ((impl_within.f a2 0 1000000).bind fun t185 => (impl_BallastFor.j0 k l0 a1 a2 (!t185))) else (impl_BallastFor.j0 k l0 a1 a2 true))) else (impl_BallastFor.j0 k l0 a1 a2 true))) = some (r1, r2) := h
 clear h
 have HC4 := Aside0.mk H
 clear H
 go_enter Try.func7, Try.ntmps7
 go_upto_region 1 with (fail)
 go_cut [24] (fun v24 wc => ∃ (kq : Nat) (x24_3 : Bool), v24 = .bool x24_3 ∧ Aside0 (impl_BallastFor.j0 kq l0 a1 a2 x24_3 = some (r1, r2)) ∧ Aside0 (kq ≤ k) ∧ Aside0 (Below w.heap.size w wc))
 case first =>
  have H := HC4.out
  clear HC4
  replace H := Option.bind_eq_some_iff.mp H
  obtain ⟨t183, A50, H⟩ := H
  replace H : (if t183 = true then ((impl_within.f a1 1 200).bind fun t184 => (if t184 = true then ((impl_within.f a2 0 1000000).bind fun t185 => (impl_BallastFor.j0 k l0 a1 a2 (!t185))) else (impl_BallastFor.j0 k l0 a1 a2 true))) else (impl_BallastFor.j0 k l0 a1 a2 true)) = some (r1, r2) := H
  have A5 := Aside0.mk A50
  clear A50
  by_cases c6 : t183 = true
  ·subst c6
   have H1 : ((impl_within.f a1 1 200).bind fun t184 => (if t184 = true then ((impl_within.f a2 0 1000000).bind fun t185 => (impl_BallastFor.j0 k l0 a1 a2 (!t185))) else (impl_BallastFor.j0 k l0 a1 a2 true))) = some (r1, r2) := by rw [if_pos rfl] at H; exact H
   clear H
   have H := H1
   clear H1
   replace H := Option.bind_eq_some_iff.mp H
   obtain ⟨t184, A70, H⟩ := H
   replace H : (if t184 = true then ((impl_within.f a2 0 1000000).bind fun t185 => (impl_BallastFor.j0 k l0 a1 a2 (!t185))) else (impl_BallastFor.j0 k l0 a1 a2 true)) = some (r1, r2) := H
   have A7 := Aside0.mk A70
   clear A70
   by_cases c8 : t184 = true
   ·subst c8
    have H1 : ((impl_within.f a2 0 1000000).bind fun t185 => (impl_BallastFor.j0 k l0 a1 a2 (!t185))) = some (r1, r2) := by rw [if_pos rfl] at H; exact H
    clear H
    have H := H1
    clear H1
    replace H := Option.bind_eq_some_iff.mp H
    obtain ⟨t185, A90, H⟩ := H
    replace H : (impl_BallastFor.j0 k l0 a1 a2 (!t185)) = some (r1, r2) := H
    have A9 := Aside0.mk A90
    clear A90
    have H' := Aside0.mk H
    clear H
    go_wp2_with (first | ((with_reducible refine gate_callee (f := 22) rfl ?_); refine goesL_ (some 13) rfl rfl Try.func22 (by kernel_rfl) rfl #[.slice A0 l0.length c0] rfl gmp ?_; (with_reducible refine (impl_IsValidLoads.calls k _ _ l0 true _ ?side1 ?side2 A5.out).mono ?_); (case side1 => exact cdl (Kd.C_below HR0.out HB.out)); (case side2 => exact HC0.out); rintro e w10 ⟨rfl, hb⟩; refine ⟨_, rfl, ?_⟩; have n0_ := Aside0.mk (below_step (bel HB) hb); clear HB; have HB := n0_; clear n0_; (try clear hb); (try clear hb2); (try clear hk); (try clear hi)) | (go_at_call 33; (with_reducible refine (impl_within.calls a1 1 200 true _ A7.out).mono ?_); rintro e w' ⟨rfl, ⟨nd, rfl⟩⟩) | (go_at_call 33; (with_reducible refine (impl_within.calls a2 0 1000000 t185 _ A9.out).mono ?_); rintro e w' ⟨rfl, ⟨nd, rfl⟩⟩))
    go_meet
    case rel => exact ⟨_, (!t185), (by first | rfl | (simp; done) | (simp [*]; done)), H', ⟨by first | omega | exact Nat.le_refl _⟩, ⟨bel HB⟩⟩
   ·replace c8 := Bool.eq_false_iff.mpr c8
    subst c8
    have H1 : (impl_BallastFor.j0 k l0 a1 a2 true) = some (r1, r2) := by rw [if_neg (show ¬ (false = true) by decide)] at H; exact H
    clear H
    have H := H1
    clear H1
    have H' := Aside0.mk H
    clear H
    go_wp2_with (first | ((with_reducible refine gate_callee (f := 22) rfl ?_); refine goesL_ (some 13) rfl rfl Try.func22 (by kernel_rfl) rfl #[.slice A0 l0.length c0] rfl gmp ?_; (with_reducible refine (impl_IsValidLoads.calls k _ _ l0 true _ ?side1 ?side2 A5.out).mono ?_); (case side1 => exact cdl (Kd.C_below HR0.out HB.out)); (case side2 => exact HC0.out); rintro e w11 ⟨rfl, hb⟩; refine ⟨_, rfl, ?_⟩; have n0_ := Aside0.mk (below_step (bel HB) hb); clear HB; have HB := n0_; clear n0_; (try clear hb); (try clear hb2); (try clear hk); (try clear hi)) | (go_at_call 33; (with_reducible refine (impl_within.calls a1 1 200 false _ A7.out).mono ?_); rintro e w' ⟨rfl, ⟨nd, rfl⟩⟩))
    go_meet
    case rel => exact ⟨_, (true), (by first | rfl | (simp; done) | (simp [*]; done)), H', ⟨by first | omega | exact Nat.le_refl _⟩, ⟨bel HB⟩⟩
  ·replace c6 := Bool.eq_false_iff.mpr c6
   subst c6
   have H1 : (impl_BallastFor.j0 k l0 a1 a2 true) = some (r1, r2) := by rw [if_neg (show ¬ (false = true) by decide)] at H; exact H
   clear H
   have H := H1
   clear H1
   have H' := Aside0.mk H
   clear H
   go_wp2_with (first | ((with_reducible refine gate_callee (f := 22) rfl ?_); refine goesL_ (some 13) rfl rfl Try.func22 (by kernel_rfl) rfl #[.slice A0 l0.length c0] rfl gmp ?_; (with_reducible refine (impl_IsValidLoads.calls k _ _ l0 false _ ?side1 ?side2 A5.out).mono ?_); (case side1 => exact cdl (Kd.C_below HR0.out HB.out)); (case side2 => exact HC0.out); rintro e w12 ⟨rfl, hb⟩; refine ⟨_, rfl, ?_⟩; have n0_ := Aside0.mk (below_step (bel HB) hb); clear HB; have HB := n0_; clear n0_; (try clear hb); (try clear hb2); (try clear hk); (try clear hi)))
   go_meet
   case rel => exact ⟨_, (true), (by first | rfl | (simp; done) | (simp [*]; done)), H', ⟨by first | omega | exact Nat.le_refl _⟩, ⟨bel HB⟩⟩
 case rest =>
  clear HC4
  try clear c2
  try clear p2
  try clear c6
  try clear c7
  try clear c8
  obtain ⟨kq, x24_3, rfl, HA, HJ3, HB⟩ := hcut
  cases kq with
  | zero => exact absurd HA.out (by simp [impl_BallastFor.j0])
  | succ kj3 =>
   have H := HA.out
   clear HA
   simp only [impl_BallastFor.j0] at H
   by_cases c13 : x24_3 = true
   ·subst c13
    have H1 : (some (0, false)) = some (r1, r2) := by rw [if_pos rfl] at H; exact H
    clear H
    have H := H1
    clear H1
    simp only [Option.some.injEq, Prod.mk.injEq] at H
    obtain ⟨rfl, rfl⟩ := H
    go_wp2
    go_ret2
    exact ⟨by first | rfl | (simp [errW_none, errW_some] <;> rfl) | (simp [*, errW_none, errW_some] <;> rfl), bel HB⟩
   ·replace c13 := Bool.eq_false_iff.mpr c13
    subst c13
    have H1 : ((impl_moments.f kj3 l0).bind fun bt186 => ((impl_size.f bt186.2.1).bind fun t189 => (if a1 = 0 then (none) else (if (mn (wrap64 (Int.tdiv t189 a1)) a2) < a2 then ((impl_size.f (wrap64 (t189 - (wrap64 (a1 * (wrap64 ((mn (wrap64 (Int.tdiv t189 a1)) a2) + 1))))))).bind fun t190 => ((impl_size.f (wrap64 (t189 - (wrap64 (a1 * (mn (wrap64 (Int.tdiv t189 a1)) a2)))))).bind fun t191 => (if t190 < t191 then (some (wrap64 ((mn (wrap64 (Int.tdiv t189 a1)) a2) + 1), true)) else (some (mn (wrap64 (Int.tdiv t189 a1)) a2, true))))) else (some (mn (wrap64 (Int.tdiv t189 a1)) a2, true)))))) = some (r1, r2) := by rw [if_neg (show ¬ (false = true) by decide)] at H; exact H
    clear H
    have H := H1
    clear H1
    replace H := Option.bind_eq_some_iff.mp H
    obtain ⟨⟨t186, t187, t188⟩, A140, H⟩ := H
    replace H : ((impl_size.f t187).bind fun t189 => (if a1 = 0 then (none) else (if (mn (wrap64 (Int.tdiv t189 a1)) a2) < a2 then ((impl_size.f (wrap64 (t189 - (wrap64 (a1 * (wrap64 ((mn (wrap64 (Int.tdiv t189 a1)) a2) + 1))))))).bind fun t190 => ((impl_size.f (wrap64 (t189 - (wrap64 (a1 * (mn (wrap64 (Int.tdiv t189 a1)) a2)))))).bind fun t191 => (if t190 < t191 then (some (wrap64 ((mn (wrap64 (Int.tdiv t189 a1)) a2) + 1), true)) else (some (mn (wrap64 (Int.tdiv t189 a1)) a2, true))))) else (some (mn (wrap64 (Int.tdiv t189 a1)) a2, true))))) = some (r1, r2) := H
    have A14 := Aside0.mk A140
    clear A140
    replace H := Option.bind_eq_some_iff.mp H
    obtain ⟨t189, A150, H⟩ := H
    replace H : (if a1 = 0 then (none) else (if (mn (wrap64 (Int.tdiv t189 a1)) a2) < a2 then ((impl_size.f (wrap64 (t189 - (wrap64 (a1 * (wrap64 ((mn (wrap64 (Int.tdiv t189 a1)) a2) + 1))))))).bind fun t190 => ((impl_size.f (wrap64 (t189 - (wrap64 (a1 * (mn (wrap64 (Int.tdiv t189 a1)) a2)))))).bind fun t191 => (if t190 < t191 then (some (wrap64 ((mn (wrap64 (Int.tdiv t189 a1)) a2) + 1), true)) else (some (mn (wrap64 (Int.tdiv t189 a1)) a2, true))))) else (some (mn (wrap64 (Int.tdiv t189 a1)) a2, true)))) = some (r1, r2) := H
    have A15 := Aside0.mk A150
    clear A150
    by_cases c16 : a1 = 0
    ·rw [if_pos c16] at H
     exact absurd H (by simp)
    ·rw [if_neg c16] at H
     have c16b0 : (a1 == 0) = false := beq_eq_false_iff_ne.mpr c16
     have c16b1 : (a1 != 0) = true := bne_iff_ne.mpr c16
     obtain ⟨ji17, hji17⟩ : ∃ j_ : Int, (mn (wrap64 (Int.tdiv t189 a1)) a2) = j_ := ⟨_, rfl⟩
     replace H : (if (ji17) < a2 then ((impl_size.f (wrap64 (t189 - (wrap64 (a1 * (wrap64 ((ji17) + 1))))))).bind fun t190 => ((impl_size.f (wrap64 (t189 - (wrap64 (a1 * (ji17)))))).bind fun t191 => (if t190 < t191 then (some (wrap64 ((ji17) + 1), true)) else (some (ji17, true))))) else (some (ji17, true))) = some (r1, r2) := by first | (rw [hji17] at H; exact H) | (simp only [hji17] at H ⊢; exact H)
     (try rw [hji17] at A14)
     (try rw [hji17] at A15)
     have hji17_ : (if a2 < (wrap64 (Int.tdiv t189 a1)) then a2 else (wrap64 (Int.tdiv t189 a1))) = ji17 := hji17
     by_cases c18 : (ji17) < a2
     ·rw [if_pos c18] at H
      have c18b0 : decide ((ji17) < a2) = true := decide_eq_true c18
      clear c18
      replace H := Option.bind_eq_some_iff.mp H
      obtain ⟨t190, A190, H⟩ := H
      replace H : ((impl_size.f (wrap64 (t189 - (wrap64 (a1 * (ji17)))))).bind fun t191 => (if t190 < t191 then (some (wrap64 ((ji17) + 1), true)) else (some (ji17, true)))) = some (r1, r2) := H
      have A19 := Aside0.mk A190
      clear A190
      replace H := Option.bind_eq_some_iff.mp H
      obtain ⟨t191, A200, H⟩ := H
      replace H : (if t190 < t191 then (some (wrap64 ((ji17) + 1), true)) else (some (ji17, true))) = some (r1, r2) := H
      have A20 := Aside0.mk A200
      clear A200
      by_cases c21 : t190 < t191
      ·rw [if_pos c21] at H
       have c21b0 : decide (t190 < t191) = true := decide_eq_true c21
       clear c21
       simp only [Option.some.injEq, Prod.mk.injEq] at H
       obtain ⟨rfl, rfl⟩ := H
       go_wp2_with (first | ((with_reducible refine gate_callee (f := 34) rfl ?_); refine goesL_ (some 27) rfl rfl Try.func34 (by kernel_rfl) rfl #[.slice A0 l0.length c0] rfl gmp ?_; (with_reducible refine (impl_moments.calls kj3 _ _ l0 t186 t187 t188 _ ?side1 ?side2 A14.out).mono ?_); (case side1 => exact cdl (Kd.C_below HR0.out HB.out)); (case side2 => exact HC0.out); rintro e w22 ⟨rfl, hb⟩; refine ⟨_, rfl, ?_⟩; have n0_ := Aside0.mk (below_step (bel HB) hb); clear HB; have HB := n0_; clear n0_; (try clear hb); (try clear hb2); (try clear hk); (try clear hi)) | ((with_reducible refine gate_callee (f := 35) rfl ?_); refine goesL_ (some 32) rfl rfl Try.func35 (by kernel_rfl) rfl #[.int .i64 t187] rfl gmp ?_; (with_reducible refine (impl_size.calls t187 t189 _ A15.out).mono ?_); rintro e w23 ⟨rfl, hb⟩; refine ⟨_, rfl, ?_⟩; have n0_ := Aside0.mk (below_step (bel HB) hb); clear HB; have HB := n0_; clear n0_; (try clear hb); (try clear hb2); (try clear hk); (try clear hi)) | (go_at_call 35; (with_reducible refine (impl_size.calls (wrap64 (t189 - (wrap64 (a1 * (wrap64 ((ji17) + 1)))))) t190 _ A19.out).mono ?_); rintro e w24 ⟨rfl, hb⟩; have n0_ := Aside0.mk (below_step (bel HB) hb); clear HB; have HB := n0_; clear n0_; (try clear hb); (try clear hb2); (try clear hk); (try clear hi)) | (go_at_call 35; (with_reducible refine (impl_size.calls (wrap64 (t189 - (wrap64 (a1 * (ji17))))) t191 _ A20.out).mono ?_); rintro e w25 ⟨rfl, hb⟩; have n0_ := Aside0.mk (below_step (bel HB) hb); clear HB; have HB := n0_; clear n0_; (try clear hb); (try clear hb2); (try clear hk); (try clear hi)))
       go_ret2
       exact ⟨by first | rfl | (simp [errW_none, errW_some] <;> rfl) | (simp only [← hji17]; first | rfl | (simp [errW_none, errW_some] <;> rfl)) | (simp [*, errW_none, errW_some] <;> rfl), bel HB⟩
      ·rw [if_neg c21] at H
       have c21b0 : decide (t190 < t191) = false := decide_eq_false c21
       clear c21
       simp only [Option.some.injEq, Prod.mk.injEq] at H
       obtain ⟨rfl, rfl⟩ := H
       go_wp2_with (first | ((with_reducible refine gate_callee (f := 34) rfl ?_); refine goesL_ (some 27) rfl rfl Try.func34 (by kernel_rfl) rfl #[.slice A0 l0.length c0] rfl gmp ?_; (with_reducible refine (impl_moments.calls kj3 _ _ l0 t186 t187 t188 _ ?side1 ?side2 A14.out).mono ?_); (case side1 => exact cdl (Kd.C_below HR0.out HB.out)); (case side2 => exact HC0.out); rintro e w26 ⟨rfl, hb⟩; refine ⟨_, rfl, ?_⟩; have n0_ := Aside0.mk (below_step (bel HB) hb); clear HB; have HB := n0_; clear n0_; (try clear hb); (try clear hb2); (try clear hk); (try clear hi)) | ((with_reducible refine gate_callee (f := 35) rfl ?_); refine goesL_ (some 32) rfl rfl Try.func35 (by kernel_rfl) rfl #[.int .i64 t187] rfl gmp ?_; (with_reducible refine (impl_size.calls t187 t189 _ A15.out).mono ?_); rintro e w27 ⟨rfl, hb⟩; refine ⟨_, rfl, ?_⟩; have n0_ := Aside0.mk (below_step (bel HB) hb); clear HB; have HB := n0_; clear n0_; (try clear hb); (try clear hb2); (try clear hk); (try clear hi)) | (go_at_call 35; (with_reducible refine (impl_size.calls (wrap64 (t189 - (wrap64 (a1 * (wrap64 ((ji17) + 1)))))) t190 _ A19.out).mono ?_); rintro e w28 ⟨rfl, hb⟩; have n0_ := Aside0.mk (below_step (bel HB) hb); clear HB; have HB := n0_; clear n0_; (try clear hb); (try clear hb2); (try clear hk); (try clear hi)) | (go_at_call 35; (with_reducible refine (impl_size.calls (wrap64 (t189 - (wrap64 (a1 * (ji17))))) t191 _ A20.out).mono ?_); rintro e w29 ⟨rfl, hb⟩; have n0_ := Aside0.mk (below_step (bel HB) hb); clear HB; have HB := n0_; clear n0_; (try clear hb); (try clear hb2); (try clear hk); (try clear hi)))
       go_ret2
       exact ⟨by first | rfl | (simp [errW_none, errW_some] <;> rfl) | (simp only [← hji17]; first | rfl | (simp [errW_none, errW_some] <;> rfl)) | (simp [*, errW_none, errW_some] <;> rfl), bel HB⟩
     ·rw [if_neg c18] at H
      have c18b0 : decide ((ji17) < a2) = false := decide_eq_false c18
      clear c18
      simp only [Option.some.injEq, Prod.mk.injEq] at H
      obtain ⟨rfl, rfl⟩ := H
      go_wp2_with (first | ((with_reducible refine gate_callee (f := 34) rfl ?_); refine goesL_ (some 27) rfl rfl Try.func34 (by kernel_rfl) rfl #[.slice A0 l0.length c0] rfl gmp ?_; (with_reducible refine (impl_moments.calls kj3 _ _ l0 t186 t187 t188 _ ?side1 ?side2 A14.out).mono ?_); (case side1 => exact cdl (Kd.C_below HR0.out HB.out)); (case side2 => exact HC0.out); rintro e w30 ⟨rfl, hb⟩; refine ⟨_, rfl, ?_⟩; have n0_ := Aside0.mk (below_step (bel HB) hb); clear HB; have HB := n0_; clear n0_; (try clear hb); (try clear hb2); (try clear hk); (try clear hi)) | ((with_reducible refine gate_callee (f := 35) rfl ?_); refine goesL_ (some 32) rfl rfl Try.func35 (by kernel_rfl) rfl #[.int .i64 t187] rfl gmp ?_; (with_reducible refine (impl_size.calls t187 t189 _ A15.out).mono ?_); rintro e w31 ⟨rfl, hb⟩; refine ⟨_, rfl, ?_⟩; have n0_ := Aside0.mk (below_step (bel HB) hb); clear HB; have HB := n0_; clear n0_; (try clear hb); (try clear hb2); (try clear hk); (try clear hi)))
      go_ret2
      exact ⟨by first | rfl | (simp [errW_none, errW_some] <;> rfl) | (simp only [← hji17]; first | rfl | (simp [errW_none, errW_some] <;> rfl)) | (simp [*, errW_none, errW_some] <;> rfl), bel HB⟩

/-! ### spec_l1In: function 37 -/
def spec_l1In.f (a0 : Int) (a1 : Int) (a2 : Int) : Option (Bool) := if a0 ≥ a1 then (some (decide (a0 ≤ a2))) else (some false)
set_option maxHeartbeats 8000000 in
set_option maxRecDepth 100000 in
theorem spec_l1In.calls (a0 : Int) (a1 : Int) (a2 : Int) (r : Bool) (w : World) (h : spec_l1In.f a0 a1 a2 = some r) :
  Calls Try.prog 37 #[.int .i64 a0, .int .i64 a1, .int .i64 a2] w fun e w' => e = .returned (.bool r) ∧ Drawn0 w w' := by
 have H : (if a0 ≥ a1 then (some (decide (a0 ≤ a2))) else (some false)) = some r := h
 clear h
 by_cases c4 : a0 ≥ a1
 ·rw [if_pos c4] at H
  have c4b0 : decide (a1 ≤ a0) = true := decide_eq_true c4
  clear c4
  obtain rfl := Option.some.inj H
  go_enter Try.func37, Try.ntmps37
  go_wp2
  go_ret
  exact ⟨by first | rfl | (simp; done) | (simp [*]; done), by repeat (first | exact Drawn0.refl _ | apply Drawn0.step)⟩
 ·rw [if_neg c4] at H
  have c4b0 : decide (a1 ≤ a0) = false := decide_eq_false c4
  clear c4
  obtain rfl := Option.some.inj H
  go_enter Try.func37, Try.ntmps37
  go_wp2
  go_ret
  exact ⟨by first | rfl | (simp; done) | (simp [*]; done), by repeat (first | exact Drawn0.refl _ | apply Drawn0.step)⟩

end Go.Proofs.Ytkahifpcimoogaa.P
