-- Written by a program of this session over the translation (a variant of the printer, see wip/gen); Lean checks it.
import Derived.Test.YtkahifpcimoogaaPx0
import Derived.Test.YtkahifpcimoogaaPx8
import Derived.Test.YtkahifpcimoogaaPx9
namespace Go.Proofs.Ytkahifpcimoogaa.P
open Go.RowKit Go.Proofs.YtkahifpcimoogaaW.PrintWords Go.Proofs.YtkahifpcimoogaaW.PrintLast Go.Proofs.YtkahifpcimoogaaW.PrintMore
attribute [local go_sem] Go.Proofs.Ytkahifpcimoogaa.V.isSome_setCell max2_int min2_int max_two min_two max_three min_three max_four min_four   -- for this text's walks alone
set_option linter.unusedVariables false
set_option linter.unusedSimpArgs false

/-! ### spec_BestSwap: function 13 -/
mutual
def spec_BestSwap.j0 : Nat → List (S38) → Bool → Option (List Int × Int × Bool)
 | 0, _, _ => none
 | k + 1, x0, x20 => if x20 = true then (some ((([] : List Int)), 0, false)) else ((spec_l11Moments.f k x0).bind fun bt240 => (spec_BestSwap.l0 k x0 bt240.2.1 (([] : List Int)) (-1) 0))
def spec_BestSwap.l0 : Nat → List (S38) → Int → List Int → Int → Int → Option (List Int × Int × Bool)
 | 0, _, _, _, _, _ => none
 | k + 1, x0, x6, x8, x9, x10 => if x10 < (x0.length : Int) then (spec_BestSwap.l1 k x0 x6 x8 x9 x10 (wrap64 (x10 + 1))) else (some (x8, x9, true))
def spec_BestSwap.l1 : Nat → List (S38) → Int → List Int → Int → Int → Int → Option (List Int × Int × Bool)
 | 0, _, _, _, _, _, _ => none
 | k + 1, x0, x6, x8, x9, x10, x11 => if x11 < (x0.length : Int) then (if 0 ≤ x10 then (if x10 < (x0.length : Int) then (if 0 ≤ x11 then ((spec_l11Abs.f (wrap64 (x6 - (wrap64 ((wrap64 (((rd_T38 x0 x10).f0) - ((rd_T38 x0 x11).f0))) * (wrap64 (((rd_T38 x0 x10).f1) - ((rd_T38 x0 x11).f1)))))))).bind fun t250 => (if x9 < 0 then (spec_BestSwap.l1 k x0 x6 (([x10, x11] : List Int)) t250 x10 (wrap64 (x11 + 1))) else (if t250 < x9 then (spec_BestSwap.l1 k x0 x6 (([x10, x11] : List Int)) t250 x10 (wrap64 (x11 + 1))) else (spec_BestSwap.l1 k x0 x6 x8 x9 x10 (wrap64 (x11 + 1)))))) else (none)) else (none)) else (none)) else (spec_BestSwap.l0 k x0 x6 x8 x9 (wrap64 (x10 + 1)))
end
def spec_BestSwap.f (k : Nat) (l0 : List (S38)) : Option (List Int × Int × Bool) := (spec_l11Good.f k l0).bind fun t236 => (if t236 = true then (spec_BestSwap.j0 k l0 (decide ((l0.length : Int) < 2))) else (spec_BestSwap.j0 k l0 true))
theorem spec_BestSwap.mono_l : ∀ k, (∀ y0 y1, LeO (spec_BestSwap.j0 k y0 y1) (spec_BestSwap.j0 (k + 1) y0 y1)) ∧ (∀ y0 y1 y2 y3 y4, LeO (spec_BestSwap.l0 k y0 y1 y2 y3 y4) (spec_BestSwap.l0 (k + 1) y0 y1 y2 y3 y4)) ∧ (∀ y0 y1 y2 y3 y4 y5, LeO (spec_BestSwap.l1 k y0 y1 y2 y3 y4 y5) (spec_BestSwap.l1 (k + 1) y0 y1 y2 y3 y4 y5))
 | 0 => ⟨fun _ _ r h => by simp [spec_BestSwap.j0] at h, fun _ _ _ _ _ r h => by simp [spec_BestSwap.l0] at h, fun _ _ _ _ _ _ r h => by simp [spec_BestSwap.l1] at h⟩
 | k + 1 => by
  obtain ⟨ih0, ih1, ih2⟩ := spec_BestSwap.mono_l k
  refine ⟨?_, ?_, ?_⟩
  ·intro y0 y1
   unfold spec_BestSwap.j0
   repeat' first
   | (with_reducible exact ih0 _ _)
   | (with_reducible exact ih1 _ _ _ _ _)
   | (with_reducible exact ih2 _ _ _ _ _ _)
   | (with_reducible exact spec_l11Good.mono _ _)
   | (with_reducible exact spec_l11Moments.mono _ _)
   | (with_reducible exact LeO.refl _)
   | (with_reducible exact LeO.none _)
   | (with_reducible refine LeO.ite ?_ ?_)
   | (with_reducible refine LeO.bind ?_ (fun _ => ?_))
   | exact ih0 _ _
   | exact ih1 _ _ _ _ _
   | exact ih2 _ _ _ _ _ _
   | exact spec_l11Good.mono _ _
   | exact spec_l11Moments.mono _ _
   | exact LeO.none _
   | refine LeO.ite ?_ ?_
   | refine LeO.bind ?_ (fun _ => ?_)
  ·intro y0 y1 y2 y3 y4
   unfold spec_BestSwap.l0
   repeat' first
   | (with_reducible exact ih0 _ _)
   | (with_reducible exact ih1 _ _ _ _ _)
   | (with_reducible exact ih2 _ _ _ _ _ _)
   | (with_reducible exact spec_l11Good.mono _ _)
   | (with_reducible exact spec_l11Moments.mono _ _)
   | (with_reducible exact LeO.refl _)
   | (with_reducible exact LeO.none _)
   | (with_reducible refine LeO.ite ?_ ?_)
   | (with_reducible refine LeO.bind ?_ (fun _ => ?_))
   | exact ih0 _ _
   | exact ih1 _ _ _ _ _
   | exact ih2 _ _ _ _ _ _
   | exact spec_l11Good.mono _ _
   | exact spec_l11Moments.mono _ _
   | exact LeO.none _
   | refine LeO.ite ?_ ?_
   | refine LeO.bind ?_ (fun _ => ?_)
  ·intro y0 y1 y2 y3 y4 y5
   unfold spec_BestSwap.l1
   repeat' first
   | (with_reducible exact ih0 _ _)
   | (with_reducible exact ih1 _ _ _ _ _)
   | (with_reducible exact ih2 _ _ _ _ _ _)
   | (with_reducible exact spec_l11Good.mono _ _)
   | (with_reducible exact spec_l11Moments.mono _ _)
   | (with_reducible exact LeO.refl _)
   | (with_reducible exact LeO.none _)
   | (with_reducible refine LeO.ite ?_ ?_)
   | (with_reducible refine LeO.bind ?_ (fun _ => ?_))
   | exact ih0 _ _
   | exact ih1 _ _ _ _ _
   | exact ih2 _ _ _ _ _ _
   | exact spec_l11Good.mono _ _
   | exact spec_l11Moments.mono _ _
   | exact LeO.none _
   | refine LeO.ite ?_ ?_
   | refine LeO.bind ?_ (fun _ => ?_)
theorem spec_BestSwap.mono : ∀ a0 k, LeO (spec_BestSwap.f k a0) (spec_BestSwap.f (k + 1) a0) := by
 intro a0 k
 obtain ⟨ih0, ih1, ih2⟩ := spec_BestSwap.mono_l k
 unfold spec_BestSwap.f
 repeat' first
   | (with_reducible exact ih0 _ _)
   | (with_reducible exact ih1 _ _ _ _ _)
   | (with_reducible exact ih2 _ _ _ _ _ _)
   | (with_reducible exact spec_l11Good.mono _ _)
   | (with_reducible exact spec_l11Moments.mono _ _)
   | (with_reducible exact LeO.refl _)
   | (with_reducible exact LeO.none _)
   | (with_reducible refine LeO.ite ?_ ?_)
   | (with_reducible refine LeO.bind ?_ (fun _ => ?_))
   | exact ih0 _ _
   | exact ih1 _ _ _ _ _
   | exact ih2 _ _ _ _ _ _
   | exact spec_l11Good.mono _ _
   | exact spec_l11Moments.mono _ _
   | exact LeO.none _
   | refine LeO.ite ?_ ?_
   | refine LeO.bind ?_ (fun _ => ?_)
set_option maxHeartbeats 8000000 in
set_option maxRecDepth 100000 in
theorem spec_BestSwap.calls (k : Nat) (A0 : Option Addr) (c0 : Nat) (l0 : List (S38)) (r1 : List Int) (r2 : Int) (r3 : Bool) (w : World) (hr0 : Kd.C k38 w A0 l0.length l0) (hc0 : l0.length ≤ c0) (h : spec_BestSwap.f k l0 = some (r1, r2, r3)) :
  Calls Try.prog 13 #[.slice A0 l0.length c0] w fun e w' => ∃ v0_ : Value, e = .returned (.tuple #[v0_, .int .i64 r2, .bool r3]) ∧ Kd.R (Kd.int .i64) 3 w' w.heap.size (fun _ => True) v0_ r1 ∧ Below w.heap.size w w' := by
 have HR0 := Aside0.mk hr0
 have HC0 := Aside0.mk hc0
 clear hr0 hc0
 have HB := Aside0.mk (Below.refl w.heap.size w)
 have H : ((spec_l11Good.f k l0).bind fun t236 => (if t236 = true then (spec_BestSwap.j0 k l0 (decide ((l0.length : Int) < 2))) else (spec_BestSwap.j0 k l0 true))) = some (r1, r2, r3) := h
 clear h
 have HC2 := Aside0.mk H
 clear H
 go_enter Try.func13, Try.ntmps13
 go_upto_region 1 with (fail)
 repeat (go_quiet (fail); go_upto_region 1 with (fail))
 go_cut [20] (fun v20 wc => ∃ (kq : Nat) (x20_1 : Bool), v20 = .bool x20_1 ∧ Aside0 (spec_BestSwap.j0 kq l0 x20_1 = some (r1, r2, r3)) ∧ Aside0 (kq ≤ k) ∧ Aside0 (Below w.heap.size w wc))
 case first =>
  have H := HC2.out
  clear HC2
  replace H := Option.bind_eq_some_iff.mp H
  obtain ⟨t236, A30, H⟩ := H
  replace H : (if t236 = true then (spec_BestSwap.j0 k l0 (decide ((l0.length : Int) < 2))) else (spec_BestSwap.j0 k l0 true)) = some (r1, r2, r3) := H
  have A3 := Aside0.mk A30
  clear A30
  by_cases c4 : t236 = true
  ·subst c4
   have H1 : (spec_BestSwap.j0 k l0 (decide ((l0.length : Int) < 2))) = some (r1, r2, r3) := by rw [if_pos rfl] at H; exact H
   clear H
   have H := H1
   clear H1
   have H' := Aside0.mk H
   clear H
   go_wp2_with (first | (go_at_call 36; (with_reducible refine (spec_l11Good.calls k _ _ l0 true _ ?side1 ?side2 A3.out).mono ?_); (case side1 => exact cdl (Kd.C_below HR0.out HB.out)); (case side2 => exact HC0.out); rintro e w' ⟨rfl, ⟨nd, rfl⟩⟩; (try first | exact ⟨rfl, _, World.drewN_drewN _ _ _⟩ | exact ⟨rfl, _, Eq.trans (World.drewN_drewN _ _ _) (congrArg (World.drewN _) (Nat.add_assoc _ _ _))⟩)))
   repeat (go_quiet (first | (go_at_call 36; (with_reducible refine (spec_l11Good.calls k _ _ l0 true _ ?side1 ?side2 A3.out).mono ?_); (case side1 => exact cdl (Kd.C_below HR0.out HB.out)); (case side2 => exact HC0.out); rintro e w' ⟨rfl, ⟨nd, rfl⟩⟩; (try first | exact ⟨rfl, _, World.drewN_drewN _ _ _⟩ | exact ⟨rfl, _, Eq.trans (World.drewN_drewN _ _ _) (congrArg (World.drewN _) (Nat.add_assoc _ _ _))⟩))); try go_wp2_with (first | (go_at_call 36; (with_reducible refine (spec_l11Good.calls k _ _ l0 true _ ?side1 ?side2 A3.out).mono ?_); (case side1 => exact cdl (Kd.C_below HR0.out HB.out)); (case side2 => exact HC0.out); rintro e w' ⟨rfl, ⟨nd, rfl⟩⟩; (try first | exact ⟨rfl, _, World.drewN_drewN _ _ _⟩ | exact ⟨rfl, _, Eq.trans (World.drewN_drewN _ _ _) (congrArg (World.drewN _) (Nat.add_assoc _ _ _))⟩))))
   go_meet
   case rel => exact ⟨_, (decide ((l0.length : Int) < 2)), (by first | rfl | (simp; done) | (simp [*]; done)), H', ⟨by first | omega | exact Nat.le_refl _⟩, ⟨bel HB⟩⟩
  ·replace c4 := Bool.eq_false_iff.mpr c4
   subst c4
   have H1 : (spec_BestSwap.j0 k l0 true) = some (r1, r2, r3) := by rw [if_neg (show ¬ (false = true) by decide)] at H; exact H
   clear H
   have H := H1
   clear H1
   have H' := Aside0.mk H
   clear H
   go_wp2_with (first | (go_at_call 36; (with_reducible refine (spec_l11Good.calls k _ _ l0 false _ ?side1 ?side2 A3.out).mono ?_); (case side1 => exact cdl (Kd.C_below HR0.out HB.out)); (case side2 => exact HC0.out); rintro e w' ⟨rfl, ⟨nd, rfl⟩⟩; (try first | exact ⟨rfl, _, World.drewN_drewN _ _ _⟩ | exact ⟨rfl, _, Eq.trans (World.drewN_drewN _ _ _) (congrArg (World.drewN _) (Nat.add_assoc _ _ _))⟩)))
   repeat (go_quiet (first | (go_at_call 36; (with_reducible refine (spec_l11Good.calls k _ _ l0 false _ ?side1 ?side2 A3.out).mono ?_); (case side1 => exact cdl (Kd.C_below HR0.out HB.out)); (case side2 => exact HC0.out); rintro e w' ⟨rfl, ⟨nd, rfl⟩⟩; (try first | exact ⟨rfl, _, World.drewN_drewN _ _ _⟩ | exact ⟨rfl, _, Eq.trans (World.drewN_drewN _ _ _) (congrArg (World.drewN _) (Nat.add_assoc _ _ _))⟩))); try go_wp2_with (first | (go_at_call 36; (with_reducible refine (spec_l11Good.calls k _ _ l0 false _ ?side1 ?side2 A3.out).mono ?_); (case side1 => exact cdl (Kd.C_below HR0.out HB.out)); (case side2 => exact HC0.out); rintro e w' ⟨rfl, ⟨nd, rfl⟩⟩; (try first | exact ⟨rfl, _, World.drewN_drewN _ _ _⟩ | exact ⟨rfl, _, Eq.trans (World.drewN_drewN _ _ _) (congrArg (World.drewN _) (Nat.add_assoc _ _ _))⟩))))
   go_meet
   case rel => exact ⟨_, (true), (by first | rfl | (simp; done) | (simp [*]; done)), H', ⟨by first | omega | exact Nat.le_refl _⟩, ⟨bel HB⟩⟩
 case rest =>
  clear HC2
  try clear c1
  try clear p2
  try clear c4
  obtain ⟨kq, x20_1, rfl, HA, HJ1, HB⟩ := hcut
  cases kq with
  | zero => exact absurd HA.out (by simp [spec_BestSwap.j0])
  | succ kj1 =>
   have H := HA.out
   clear HA
   simp only [spec_BestSwap.j0] at H
   by_cases c5 : x20_1 = true
   ·subst c5
    have H1 : (some ((([] : List Int)), 0, false)) = some (r1, r2, r3) := by rw [if_pos rfl] at H; exact H
    clear H
    have H := H1
    clear H1
    obtain ⟨y237, hy237⟩ : ∃ y_ : List Int, y_ = (([] : List Int)) := ⟨_, rfl⟩
    replace H : (some (y237, 0, false)) = some (r1, r2, r3) := by first | (rw [hy237]; with_reducible exact H) | (have H2_ := (Option.bind_some _ _).symm.trans H; rw [hy237]; with_reducible exact H2_) | (have H2_ := (Option.bind_some _ _).symm.trans H; with_reducible exact H2_) | with_reducible exact H | (rw [hy237]; exact H) | exact H
    have Ny237 := Aside0.mk hy237
    clear hy237
    simp only [Option.some.injEq, Prod.mk.injEq] at H
    obtain ⟨rfl, rfl, rfl⟩ := H
    go_wp2_with (first | ((with_reducible refine gate_dst (N := 21) rfl ?_); (try (refine gate_guard (by rfl) ?_; dsimp only)); refine Kd.R_lit (Kd.int .i64) _ 3 ?hg (N := 21) ?hd (xs := ([] : List Int)) (inner := []) (ok := fun _ => True) (okp := fun _ => True) ?hr ?hp (fun _ hk => hk) trivial (Below.refl _ _) (Nat.le_refl _) (by simp) ?_; (case hd => rfl); (case hg => rfl); (case hr => first | (go_simp; done) | (go_simp; rfl)); (case hp => exact (Reps.none _ _)); intro v238 w6 ho7 hb hg_ hnew_; clear hg_ hnew_; (first | rw [← Ny237.out] at ho7 | (simp only [Int.reduceToNat] at ho7; rw [← Ny237.out] at ho7)); have n0_ := Aside0.mk (Kd.R_lower ho7 (below_size (bel HB))); have n1_ := Aside0.mk (below_step (bel HB) hb); clear HB; have HO239 := n0_; have HB := n1_; clear n0_ n1_; clear hb ho7))
    repeat (go_quiet (first | ((with_reducible refine gate_dst (N := 21) rfl ?_); (try (refine gate_guard (by rfl) ?_; dsimp only)); refine Kd.R_lit (Kd.int .i64) _ 3 ?hg (N := 21) ?hd (xs := ([] : List Int)) (inner := []) (ok := fun _ => True) (okp := fun _ => True) ?hr ?hp (fun _ hk => hk) trivial (Below.refl _ _) (Nat.le_refl _) (by simp) ?_; (case hd => rfl); (case hg => rfl); (case hr => first | (go_simp; done) | (go_simp; rfl)); (case hp => exact (Reps.none _ _)); intro v238 w6 ho7 hb hg_ hnew_; clear hg_ hnew_; (first | rw [← Ny237.out] at ho7 | (simp only [Int.reduceToNat] at ho7; rw [← Ny237.out] at ho7)); have n0_ := Aside0.mk (Kd.R_lower ho7 (below_size (bel HB))); have n1_ := Aside0.mk (below_step (bel HB) hb); clear HB; have HO239 := n0_; have HB := n1_; clear n0_ n1_; clear hb ho7)); try go_wp2_with (first | ((with_reducible refine gate_dst (N := 21) rfl ?_); (try (refine gate_guard (by rfl) ?_; dsimp only)); refine Kd.R_lit (Kd.int .i64) _ 3 ?hg (N := 21) ?hd (xs := ([] : List Int)) (inner := []) (ok := fun _ => True) (okp := fun _ => True) ?hr ?hp (fun _ hk => hk) trivial (Below.refl _ _) (Nat.le_refl _) (by simp) ?_; (case hd => rfl); (case hg => rfl); (case hr => first | (go_simp; done) | (go_simp; rfl)); (case hp => exact (Reps.none _ _)); intro v238 w6 ho7 hb hg_ hnew_; clear hg_ hnew_; (first | rw [← Ny237.out] at ho7 | (simp only [Int.reduceToNat] at ho7; rw [← Ny237.out] at ho7)); have n0_ := Aside0.mk (Kd.R_lower ho7 (below_size (bel HB))); have n1_ := Aside0.mk (below_step (bel HB) hb); clear HB; have HO239 := n0_; have HB := n1_; clear n0_ n1_; clear hb ho7)))
    go_ret3
    exact ⟨_, by first | rfl | (simp [errW_none, errW_some] <;> rfl) | (simp [*, errW_none, errW_some] <;> rfl), rdl HO239, bel HB⟩
   ·replace c5 := Bool.eq_false_iff.mpr c5
    subst c5
    have H1 : ((spec_l11Moments.f kj1 l0).bind fun bt240 => (spec_BestSwap.l0 kj1 l0 bt240.2.1 (([] : List Int)) (-1) 0)) = some (r1, r2, r3) := by rw [if_neg (show ¬ (false = true) by decide)] at H; exact H
    clear H
    have H := H1
    clear H1
    replace H := Option.bind_eq_some_iff.mp H
    obtain ⟨⟨t240, t241, t242⟩, A80, H⟩ := H
    replace H : (spec_BestSwap.l0 kj1 l0 t241 (([] : List Int)) (-1) 0) = some (r1, r2, r3) := H
    have A8 := Aside0.mk A80
    clear A80
    obtain ⟨y243, hy243⟩ : ∃ y_ : List Int, y_ = (([] : List Int)) := ⟨_, rfl⟩
    replace H : (spec_BestSwap.l0 kj1 l0 t241 y243 (-1) 0) = some (r1, r2, r3) := by first | (rw [hy243]; with_reducible exact H) | (have H2_ := (Option.bind_some _ _).symm.trans H; rw [hy243]; with_reducible exact H2_) | (have H2_ := (Option.bind_some _ _).symm.trans H; with_reducible exact H2_) | with_reducible exact H | (rw [hy243]; exact H) | exact H
    have Ny243 := Aside0.mk hy243
    clear hy243
    have H' := Aside0.mk H
    clear H
    go_wp2_with (first | (go_at_call 38; (with_reducible refine (spec_l11Moments.calls kj1 _ _ l0 t240 t241 t242 _ ?side1 ?side2 A8.out).mono ?_); (case side1 => exact cdl (Kd.C_below HR0.out HB.out)); (case side2 => exact HC0.out); rintro e w' ⟨rfl, ⟨nd, rfl⟩⟩; (try first | exact ⟨rfl, _, World.drewN_drewN _ _ _⟩ | exact ⟨rfl, _, Eq.trans (World.drewN_drewN _ _ _) (congrArg (World.drewN _) (Nat.add_assoc _ _ _))⟩)) | ((with_reducible refine gate_dst (N := 28) rfl ?_); (try (refine gate_guard (by rfl) ?_; dsimp only)); refine Kd.R_lit (Kd.int .i64) _ 3 ?hg (N := 28) ?hd (xs := ([] : List Int)) (inner := []) (ok := fun _ => True) (okp := fun _ => True) ?hr ?hp (fun _ hk => hk) trivial (Below.refl _ _) (Nat.le_refl _) (by simp) ?_; (case hd => rfl); (case hg => rfl); (case hr => first | (go_simp; done) | (go_simp; rfl)); (case hp => exact (Reps.none _ _)); intro v244 w9 ho10 hb hg_ hnew_; clear hg_ hnew_; (first | rw [← Ny243.out] at ho10 | (simp only [Int.reduceToNat] at ho10; rw [← Ny243.out] at ho10)); have n0_ := Aside0.mk (Kd.R_lower ho10 (below_size (bel HB))); have n1_ := Aside0.mk (below_step (bel HB) hb); clear HB; have HO245 := n0_; have HB := n1_; clear n0_ n1_; clear hb ho10))
    repeat (go_quiet (first | (go_at_call 38; (with_reducible refine (spec_l11Moments.calls kj1 _ _ l0 t240 t241 t242 _ ?side1 ?side2 A8.out).mono ?_); (case side1 => exact cdl (Kd.C_below HR0.out HB.out)); (case side2 => exact HC0.out); rintro e w' ⟨rfl, ⟨nd, rfl⟩⟩; (try first | exact ⟨rfl, _, World.drewN_drewN _ _ _⟩ | exact ⟨rfl, _, Eq.trans (World.drewN_drewN _ _ _) (congrArg (World.drewN _) (Nat.add_assoc _ _ _))⟩)) | ((with_reducible refine gate_dst (N := 28) rfl ?_); (try (refine gate_guard (by rfl) ?_; dsimp only)); refine Kd.R_lit (Kd.int .i64) _ 3 ?hg (N := 28) ?hd (xs := ([] : List Int)) (inner := []) (ok := fun _ => True) (okp := fun _ => True) ?hr ?hp (fun _ hk => hk) trivial (Below.refl _ _) (Nat.le_refl _) (by simp) ?_; (case hd => rfl); (case hg => rfl); (case hr => first | (go_simp; done) | (go_simp; rfl)); (case hp => exact (Reps.none _ _)); intro v244 w9 ho10 hb hg_ hnew_; clear hg_ hnew_; (first | rw [← Ny243.out] at ho10 | (simp only [Int.reduceToNat] at ho10; rw [← Ny243.out] at ho10)); have n0_ := Aside0.mk (Kd.R_lower ho10 (below_size (bel HB))); have n1_ := Aside0.mk (below_step (bel HB) hb); clear HB; have HO245 := n0_; have HB := n1_; clear n0_ n1_; clear hb ho10)); try go_wp2_with (first | (go_at_call 38; (with_reducible refine (spec_l11Moments.calls kj1 _ _ l0 t240 t241 t242 _ ?side1 ?side2 A8.out).mono ?_); (case side1 => exact cdl (Kd.C_below HR0.out HB.out)); (case side2 => exact HC0.out); rintro e w' ⟨rfl, ⟨nd, rfl⟩⟩; (try first | exact ⟨rfl, _, World.drewN_drewN _ _ _⟩ | exact ⟨rfl, _, Eq.trans (World.drewN_drewN _ _ _) (congrArg (World.drewN _) (Nat.add_assoc _ _ _))⟩)) | ((with_reducible refine gate_dst (N := 28) rfl ?_); (try (refine gate_guard (by rfl) ?_; dsimp only)); refine Kd.R_lit (Kd.int .i64) _ 3 ?hg (N := 28) ?hd (xs := ([] : List Int)) (inner := []) (ok := fun _ => True) (okp := fun _ => True) ?hr ?hp (fun _ hk => hk) trivial (Below.refl _ _) (Nat.le_refl _) (by simp) ?_; (case hd => rfl); (case hg => rfl); (case hr => first | (go_simp; done) | (go_simp; rfl)); (case hp => exact (Reps.none _ _)); intro v244 w9 ho10 hb hg_ hnew_; clear hg_ hnew_; (first | rw [← Ny243.out] at ho10 | (simp only [Int.reduceToNat] at ho10; rw [← Ny243.out] at ho10)); have n0_ := Aside0.mk (Kd.R_lower ho10 (below_size (bel HB))); have n1_ := Aside0.mk (below_step (bel HB) hb); clear HB; have HO245 := n0_; have HB := n1_; clear n0_ n1_; clear hb ho10)))
    go_loopg [8, 9, 10] kj1 (fun kq v8 v9 v10 w' => ∃ (x8_2 : List Int) (x9_2 : Int) (x10_2 : Int), v9 = .int .i64 x9_2 ∧ v10 = .int .i64 x10_2 ∧ Aside0 (spec_BestSwap.l0 kq l0 t241 x8_2 x9_2 x10_2 = some (r1, r2, r3)) ∧ Aside0 (kq ≤ kj1) ∧ Aside0 (Kd.R (Kd.int .i64) 3 w' w.heap.size (fun _ => True) v8 x8_2) ∧ Aside0 (Below w.heap.size w w'))
    case atStart => exact ⟨(y243), ((-1)), (0), (by first | rfl | (simp; done) | (simp [*]; done)), (by first | rfl | (simp; done) | (simp [*]; done)), H', ⟨Nat.le_refl _⟩, ⟨rdl HO245⟩, ⟨bel HB⟩⟩
    case round =>
     clear H'
     try clear c1
     try clear p2
     try clear c4
     try clear c5
     try clear p2
     obtain ⟨x8_2, x9_2, x10_2, rfl, rfl, HA, HK2, HO_8, HB⟩ := hrel
     cases gk with
     | zero => exact absurd HA.out (by simp [spec_BestSwap.l0])
     | succ k2 =>
      have H := HA.out
      clear HA
      simp only [spec_BestSwap.l0] at H
      by_cases c11 : x10_2 < (l0.length : Int)
      ·rw [if_pos c11] at H
       have c11b0 : decide (x10_2 < (l0.length : Int)) = true := decide_eq_true c11
       clear c11
       have H' := Aside0.mk H
       clear H
       go_wp2
       repeat (go_quiet (fail); try go_wp2)
       go_loopg [8, 9, 11] k2 (fun kq v8 v9 v11 w' => ∃ (x8_3 : List Int) (x9_3 : Int) (x11_3 : Int), v9 = .int .i64 x9_3 ∧ v11 = .int .i64 x11_3 ∧ Aside0 (spec_BestSwap.l1 kq l0 t241 x8_3 x9_3 x10_2 x11_3 = some (r1, r2, r3)) ∧ Aside0 (kq ≤ k2) ∧ Aside0 (Kd.R (Kd.int .i64) 3 w' w.heap.size (fun _ => True) v8 x8_3) ∧ Aside0 (Below w.heap.size w w'))
       case atStart => exact ⟨(x8_2), (x9_2), (wrap64 (x10_2 + 1)), (by first | rfl | (simp; done) | (simp [*]; done)), (by first | rfl | (simp; done) | (simp [*]; done)), H', ⟨Nat.le_refl _⟩, ⟨rdl HO_8⟩, ⟨bel HB⟩⟩
       case round =>
        clear H'
        try clear c1
        try clear p2
        try clear c4
        try clear c5
        try clear p6
        try clear c11
        try clear c11b0
        try clear p2
        obtain ⟨x8_3, x9_3, x11_3, rfl, rfl, HA, HK3, HO_8, HB⟩ := hrel
        cases gk with
        | zero => exact absurd HA.out (by simp [spec_BestSwap.l1])
        | succ k3 =>
         have H := HA.out
         clear HA
         simp only [spec_BestSwap.l1] at H
         by_cases c12 : x11_3 < (l0.length : Int)
         ·rw [if_pos c12] at H
          have c12b0 : decide (x11_3 < (l0.length : Int)) = true := decide_eq_true c12
          clear c12
          by_cases c13 : 0 ≤ x10_2
          ·rw [if_pos c13] at H
           have c13b0 : decide (0 ≤ x10_2) = true := decide_eq_true c13
           clear c13
           by_cases c14 : x10_2 < (l0.length : Int)
           ·rw [if_pos c14] at H
            have c14b0 : decide (x10_2 < (l0.length : Int)) = true := decide_eq_true c14
            clear c14
            by_cases c15 : 0 ≤ x11_3
            ·rw [if_pos c15] at H
             have c15b0 : decide (0 ≤ x11_3) = true := decide_eq_true c15
             clear c15
             replace H := Option.bind_eq_some_iff.mp H
             obtain ⟨t250, A160, H⟩ := H
             replace H : (if x9_3 < 0 then (spec_BestSwap.l1 k3 l0 t241 (([x10_2, x11_3] : List Int)) t250 x10_2 (wrap64 (x11_3 + 1))) else (if t250 < x9_3 then (spec_BestSwap.l1 k3 l0 t241 (([x10_2, x11_3] : List Int)) t250 x10_2 (wrap64 (x11_3 + 1))) else (spec_BestSwap.l1 k3 l0 t241 x8_3 x9_3 x10_2 (wrap64 (x11_3 + 1))))) = some (r1, r2, r3) := H
             have A16 := Aside0.mk A160
             clear A160
             by_cases c17 : x9_3 < 0
             ·rw [if_pos c17] at H
              have c17b0 : decide (x9_3 < 0) = true := decide_eq_true c17
              clear c17
              obtain ⟨y251, hy251⟩ : ∃ y_ : List Int, y_ = (([x10_2, x11_3] : List Int)) := ⟨_, rfl⟩
              replace H : (spec_BestSwap.l1 k3 l0 t241 y251 t250 x10_2 (wrap64 (x11_3 + 1))) = some (r1, r2, r3) := by first | (rw [hy251]; with_reducible exact H) | (have H2_ := (Option.bind_some _ _).symm.trans H; rw [hy251]; with_reducible exact H2_) | (have H2_ := (Option.bind_some _ _).symm.trans H; with_reducible exact H2_) | with_reducible exact H | (rw [hy251]; exact H) | exact H
              have Ny251 := Aside0.mk hy251
              clear hy251
              have H' := Aside0.mk H
              clear H
              have p246 : 0 ≤ (x10_2 : Int) := oda
              have q246 : x10_2 < (l0.length : Int) := oda
              obtain ⟨ad246, e246, hx246_0, hx246_1, hx246_2⟩ := at_T38 HR0.out x10_2 p246 q246
              cases e246
              replace hx246_0 := cel HB hx246_0
              replace hx246_1 := cel HB hx246_1
              replace hx246_2 := cel HB hx246_2
              replace p246 := eq_true p246
              replace q246 := eq_true q246
              have p247 : 0 ≤ (x11_3 : Int) := oda
              have q247 : x11_3 < (l0.length : Int) := oda
              obtain ⟨ad247, e247, hx247_0, hx247_1, hx247_2⟩ := at_T38 HR0.out x11_3 p247 q247
              obtain rfl : ad246 = ad247 := (by injection e247)
              replace hx247_0 := cel HB hx247_0
              replace hx247_1 := cel HB hx247_1
              replace hx247_2 := cel HB hx247_2
              replace p247 := eq_true p247
              replace q247 := eq_true q247
              have p248 : 0 ≤ (x10_2 : Int) := oda
              have q248 : x10_2 < (l0.length : Int) := oda
              obtain ⟨ad248, e248, hx248_0, hx248_1, hx248_2⟩ := at_T38 HR0.out x10_2 p248 q248
              obtain rfl : ad246 = ad248 := (by injection e248)
              replace hx248_0 := cel HB hx248_0
              replace hx248_1 := cel HB hx248_1
              replace hx248_2 := cel HB hx248_2
              replace p248 := eq_true p248
              replace q248 := eq_true q248
              have p249 : 0 ≤ (x11_3 : Int) := oda
              have q249 : x11_3 < (l0.length : Int) := oda
              obtain ⟨ad249, e249, hx249_0, hx249_1, hx249_2⟩ := at_T38 HR0.out x11_3 p249 q249
              obtain rfl : ad246 = ad249 := (by injection e249)
              replace hx249_0 := cel HB hx249_0
              replace hx249_1 := cel HB hx249_1
              replace hx249_2 := cel HB hx249_2
              replace p249 := eq_true p249
              replace q249 := eq_true q249
              go_wp2_with (first | (go_at_call 39; (with_reducible refine (spec_l11Abs.calls (wrap64 (t241 - (wrap64 ((wrap64 (((rd_T38 l0 x10_2).f0) - ((rd_T38 l0 x11_3).f0))) * (wrap64 (((rd_T38 l0 x10_2).f1) - ((rd_T38 l0 x11_3).f1))))))) t250 _ A16.out).mono ?_); rintro e w' ⟨rfl, ⟨nd, rfl⟩⟩; (try first | exact ⟨rfl, _, World.drewN_drewN _ _ _⟩ | exact ⟨rfl, _, Eq.trans (World.drewN_drewN _ _ _) (congrArg (World.drewN _) (Nat.add_assoc _ _ _))⟩)) | ((with_reducible refine gate_dst (N := 78) rfl ?_); (try (refine gate_guard (by rfl) ?_; dsimp only)); refine Kd.R_lit (Kd.int .i64) _ 3 ?hg (N := 78) ?hd (xs := ([x10_2, x11_3] : List Int)) (inner := [.int .i64 x10_2, .int .i64 x11_3]) (ok := fun _ => True) (okp := fun _ => True) ?hr ?hp (fun _ hk => hk) trivial (Below.refl _ _) (Nat.le_refl _) (by simp) ?_; (case hd => rfl); (case hg => rfl); (case hr => first | (go_simp; done) | (go_simp; rfl)); (case hp => exact (Reps.one (show Kd.M (Kd.int .i64) _ _ _ x10_2 [.int .i64 x10_2] from rfl) (Reps.one (show Kd.M (Kd.int .i64) _ _ _ x11_3 [.int .i64 x11_3] from rfl) (Reps.none _ _)))); intro v252 w18 ho19 hb hg_ hnew_; clear hg_ hnew_; (first | rw [← Ny251.out] at ho19 | (simp only [Int.reduceToNat] at ho19; rw [← Ny251.out] at ho19)); have n0_ := Aside0.mk (Kd.R_elder' (rdl HO_8) (Kd.R_base ho19) hb); have n1_ := Aside0.mk (Kd.R_lower (Kd.R_new' ho19 (Kd.R_lt (rdl HO_8))) (below_size (bel HB))); have n2_ := Aside0.mk (below_step (bel HB) hb); clear HO_8; clear HB; have HO_8 := n0_; have HO253 := n1_; have HB := n2_; clear n0_ n1_ n2_; clear hb ho19))
              repeat (go_quiet (first | (go_at_call 39; (with_reducible refine (spec_l11Abs.calls (wrap64 (t241 - (wrap64 ((wrap64 (((rd_T38 l0 x10_2).f0) - ((rd_T38 l0 x11_3).f0))) * (wrap64 (((rd_T38 l0 x10_2).f1) - ((rd_T38 l0 x11_3).f1))))))) t250 _ A16.out).mono ?_); rintro e w' ⟨rfl, ⟨nd, rfl⟩⟩; (try first | exact ⟨rfl, _, World.drewN_drewN _ _ _⟩ | exact ⟨rfl, _, Eq.trans (World.drewN_drewN _ _ _) (congrArg (World.drewN _) (Nat.add_assoc _ _ _))⟩)) | ((with_reducible refine gate_dst (N := 78) rfl ?_); (try (refine gate_guard (by rfl) ?_; dsimp only)); refine Kd.R_lit (Kd.int .i64) _ 3 ?hg (N := 78) ?hd (xs := ([x10_2, x11_3] : List Int)) (inner := [.int .i64 x10_2, .int .i64 x11_3]) (ok := fun _ => True) (okp := fun _ => True) ?hr ?hp (fun _ hk => hk) trivial (Below.refl _ _) (Nat.le_refl _) (by simp) ?_; (case hd => rfl); (case hg => rfl); (case hr => first | (go_simp; done) | (go_simp; rfl)); (case hp => exact (Reps.one (show Kd.M (Kd.int .i64) _ _ _ x10_2 [.int .i64 x10_2] from rfl) (Reps.one (show Kd.M (Kd.int .i64) _ _ _ x11_3 [.int .i64 x11_3] from rfl) (Reps.none _ _)))); intro v252 w18 ho19 hb hg_ hnew_; clear hg_ hnew_; (first | rw [← Ny251.out] at ho19 | (simp only [Int.reduceToNat] at ho19; rw [← Ny251.out] at ho19)); have n0_ := Aside0.mk (Kd.R_elder' (rdl HO_8) (Kd.R_base ho19) hb); have n1_ := Aside0.mk (Kd.R_lower (Kd.R_new' ho19 (Kd.R_lt (rdl HO_8))) (below_size (bel HB))); have n2_ := Aside0.mk (below_step (bel HB) hb); clear HO_8; clear HB; have HO_8 := n0_; have HO253 := n1_; have HB := n2_; clear n0_ n1_ n2_; clear hb ho19)); try go_wp2_with (first | (go_at_call 39; (with_reducible refine (spec_l11Abs.calls (wrap64 (t241 - (wrap64 ((wrap64 (((rd_T38 l0 x10_2).f0) - ((rd_T38 l0 x11_3).f0))) * (wrap64 (((rd_T38 l0 x10_2).f1) - ((rd_T38 l0 x11_3).f1))))))) t250 _ A16.out).mono ?_); rintro e w' ⟨rfl, ⟨nd, rfl⟩⟩; (try first | exact ⟨rfl, _, World.drewN_drewN _ _ _⟩ | exact ⟨rfl, _, Eq.trans (World.drewN_drewN _ _ _) (congrArg (World.drewN _) (Nat.add_assoc _ _ _))⟩)) | ((with_reducible refine gate_dst (N := 78) rfl ?_); (try (refine gate_guard (by rfl) ?_; dsimp only)); refine Kd.R_lit (Kd.int .i64) _ 3 ?hg (N := 78) ?hd (xs := ([x10_2, x11_3] : List Int)) (inner := [.int .i64 x10_2, .int .i64 x11_3]) (ok := fun _ => True) (okp := fun _ => True) ?hr ?hp (fun _ hk => hk) trivial (Below.refl _ _) (Nat.le_refl _) (by simp) ?_; (case hd => rfl); (case hg => rfl); (case hr => first | (go_simp; done) | (go_simp; rfl)); (case hp => exact (Reps.one (show Kd.M (Kd.int .i64) _ _ _ x10_2 [.int .i64 x10_2] from rfl) (Reps.one (show Kd.M (Kd.int .i64) _ _ _ x11_3 [.int .i64 x11_3] from rfl) (Reps.none _ _)))); intro v252 w18 ho19 hb hg_ hnew_; clear hg_ hnew_; (first | rw [← Ny251.out] at ho19 | (simp only [Int.reduceToNat] at ho19; rw [← Ny251.out] at ho19)); have n0_ := Aside0.mk (Kd.R_elder' (rdl HO_8) (Kd.R_base ho19) hb); have n1_ := Aside0.mk (Kd.R_lower (Kd.R_new' ho19 (Kd.R_lt (rdl HO_8))) (below_size (bel HB))); have n2_ := Aside0.mk (below_step (bel HB) hb); clear HO_8; clear HB; have HO_8 := n0_; have HO253 := n1_; have HB := n2_; clear n0_ n1_ n2_; clear hb ho19)))
              go_roundg k3
              case measure => have := HJ1.out; have := HK2.out; have := HK3.out; omega
              case rel => exact ⟨(y251), (t250), (wrap64 (x11_3 + 1)), (by first | rfl | (simp; done) | (simp [*]; done)), (by first | rfl | (simp; done) | (simp [*]; done)), H', ⟨by have := HJ1.out; have := HK2.out; have := HK3.out; omega⟩, ⟨by (with_reducible repeat (first | apply Kd.R_alloc | apply Kd.R_drewN | apply Kd.R_drew)); exact Kd.R_mono HO253.out (fun _ hk => trivial)⟩, ⟨bel HB⟩⟩
             ·rw [if_neg c17] at H
              have c17b0 : decide (x9_3 < 0) = false := decide_eq_false c17
              clear c17
              by_cases c20 : t250 < x9_3
              ·rw [if_pos c20] at H
               have c20b0 : decide (t250 < x9_3) = true := decide_eq_true c20
               clear c20
               obtain ⟨y254, hy254⟩ : ∃ y_ : List Int, y_ = (([x10_2, x11_3] : List Int)) := ⟨_, rfl⟩
               replace H : (spec_BestSwap.l1 k3 l0 t241 y254 t250 x10_2 (wrap64 (x11_3 + 1))) = some (r1, r2, r3) := by first | (rw [hy254]; with_reducible exact H) | (have H2_ := (Option.bind_some _ _).symm.trans H; rw [hy254]; with_reducible exact H2_) | (have H2_ := (Option.bind_some _ _).symm.trans H; with_reducible exact H2_) | with_reducible exact H | (rw [hy254]; exact H) | exact H
               have Ny254 := Aside0.mk hy254
               clear hy254
               have H' := Aside0.mk H
               clear H
               have p246 : 0 ≤ (x10_2 : Int) := oda
               have q246 : x10_2 < (l0.length : Int) := oda
               obtain ⟨ad246, e246, hx246_0, hx246_1, hx246_2⟩ := at_T38 HR0.out x10_2 p246 q246
               cases e246
               replace hx246_0 := cel HB hx246_0
               replace hx246_1 := cel HB hx246_1
               replace hx246_2 := cel HB hx246_2
               replace p246 := eq_true p246
               replace q246 := eq_true q246
               have p247 : 0 ≤ (x11_3 : Int) := oda
               have q247 : x11_3 < (l0.length : Int) := oda
               obtain ⟨ad247, e247, hx247_0, hx247_1, hx247_2⟩ := at_T38 HR0.out x11_3 p247 q247
               obtain rfl : ad246 = ad247 := (by injection e247)
               replace hx247_0 := cel HB hx247_0
               replace hx247_1 := cel HB hx247_1
               replace hx247_2 := cel HB hx247_2
               replace p247 := eq_true p247
               replace q247 := eq_true q247
               have p248 : 0 ≤ (x10_2 : Int) := oda
               have q248 : x10_2 < (l0.length : Int) := oda
               obtain ⟨ad248, e248, hx248_0, hx248_1, hx248_2⟩ := at_T38 HR0.out x10_2 p248 q248
               obtain rfl : ad246 = ad248 := (by injection e248)
               replace hx248_0 := cel HB hx248_0
               replace hx248_1 := cel HB hx248_1
               replace hx248_2 := cel HB hx248_2
               replace p248 := eq_true p248
               replace q248 := eq_true q248
               have p249 : 0 ≤ (x11_3 : Int) := oda
               have q249 : x11_3 < (l0.length : Int) := oda
               obtain ⟨ad249, e249, hx249_0, hx249_1, hx249_2⟩ := at_T38 HR0.out x11_3 p249 q249
               obtain rfl : ad246 = ad249 := (by injection e249)
               replace hx249_0 := cel HB hx249_0
               replace hx249_1 := cel HB hx249_1
               replace hx249_2 := cel HB hx249_2
               replace p249 := eq_true p249
               replace q249 := eq_true q249
               go_wp2_with (first | (go_at_call 39; (with_reducible refine (spec_l11Abs.calls (wrap64 (t241 - (wrap64 ((wrap64 (((rd_T38 l0 x10_2).f0) - ((rd_T38 l0 x11_3).f0))) * (wrap64 (((rd_T38 l0 x10_2).f1) - ((rd_T38 l0 x11_3).f1))))))) t250 _ A16.out).mono ?_); rintro e w' ⟨rfl, ⟨nd, rfl⟩⟩; (try first | exact ⟨rfl, _, World.drewN_drewN _ _ _⟩ | exact ⟨rfl, _, Eq.trans (World.drewN_drewN _ _ _) (congrArg (World.drewN _) (Nat.add_assoc _ _ _))⟩)) | ((with_reducible refine gate_dst (N := 78) rfl ?_); (try (refine gate_guard (by rfl) ?_; dsimp only)); refine Kd.R_lit (Kd.int .i64) _ 3 ?hg (N := 78) ?hd (xs := ([x10_2, x11_3] : List Int)) (inner := [.int .i64 x10_2, .int .i64 x11_3]) (ok := fun _ => True) (okp := fun _ => True) ?hr ?hp (fun _ hk => hk) trivial (Below.refl _ _) (Nat.le_refl _) (by simp) ?_; (case hd => rfl); (case hg => rfl); (case hr => first | (go_simp; done) | (go_simp; rfl)); (case hp => exact (Reps.one (show Kd.M (Kd.int .i64) _ _ _ x10_2 [.int .i64 x10_2] from rfl) (Reps.one (show Kd.M (Kd.int .i64) _ _ _ x11_3 [.int .i64 x11_3] from rfl) (Reps.none _ _)))); intro v255 w21 ho22 hb hg_ hnew_; clear hg_ hnew_; (first | rw [← Ny254.out] at ho22 | (simp only [Int.reduceToNat] at ho22; rw [← Ny254.out] at ho22)); have n0_ := Aside0.mk (Kd.R_elder' (rdl HO_8) (Kd.R_base ho22) hb); have n1_ := Aside0.mk (Kd.R_lower (Kd.R_new' ho22 (Kd.R_lt (rdl HO_8))) (below_size (bel HB))); have n2_ := Aside0.mk (below_step (bel HB) hb); clear HO_8; clear HB; have HO_8 := n0_; have HO256 := n1_; have HB := n2_; clear n0_ n1_ n2_; clear hb ho22))
               repeat (go_quiet (first | (go_at_call 39; (with_reducible refine (spec_l11Abs.calls (wrap64 (t241 - (wrap64 ((wrap64 (((rd_T38 l0 x10_2).f0) - ((rd_T38 l0 x11_3).f0))) * (wrap64 (((rd_T38 l0 x10_2).f1) - ((rd_T38 l0 x11_3).f1))))))) t250 _ A16.out).mono ?_); rintro e w' ⟨rfl, ⟨nd, rfl⟩⟩; (try first | exact ⟨rfl, _, World.drewN_drewN _ _ _⟩ | exact ⟨rfl, _, Eq.trans (World.drewN_drewN _ _ _) (congrArg (World.drewN _) (Nat.add_assoc _ _ _))⟩)) | ((with_reducible refine gate_dst (N := 78) rfl ?_); (try (refine gate_guard (by rfl) ?_; dsimp only)); refine Kd.R_lit (Kd.int .i64) _ 3 ?hg (N := 78) ?hd (xs := ([x10_2, x11_3] : List Int)) (inner := [.int .i64 x10_2, .int .i64 x11_3]) (ok := fun _ => True) (okp := fun _ => True) ?hr ?hp (fun _ hk => hk) trivial (Below.refl _ _) (Nat.le_refl _) (by simp) ?_; (case hd => rfl); (case hg => rfl); (case hr => first | (go_simp; done) | (go_simp; rfl)); (case hp => exact (Reps.one (show Kd.M (Kd.int .i64) _ _ _ x10_2 [.int .i64 x10_2] from rfl) (Reps.one (show Kd.M (Kd.int .i64) _ _ _ x11_3 [.int .i64 x11_3] from rfl) (Reps.none _ _)))); intro v255 w21 ho22 hb hg_ hnew_; clear hg_ hnew_; (first | rw [← Ny254.out] at ho22 | (simp only [Int.reduceToNat] at ho22; rw [← Ny254.out] at ho22)); have n0_ := Aside0.mk (Kd.R_elder' (rdl HO_8) (Kd.R_base ho22) hb); have n1_ := Aside0.mk (Kd.R_lower (Kd.R_new' ho22 (Kd.R_lt (rdl HO_8))) (below_size (bel HB))); have n2_ := Aside0.mk (below_step (bel HB) hb); clear HO_8; clear HB; have HO_8 := n0_; have HO256 := n1_; have HB := n2_; clear n0_ n1_ n2_; clear hb ho22)); try go_wp2_with (first | (go_at_call 39; (with_reducible refine (spec_l11Abs.calls (wrap64 (t241 - (wrap64 ((wrap64 (((rd_T38 l0 x10_2).f0) - ((rd_T38 l0 x11_3).f0))) * (wrap64 (((rd_T38 l0 x10_2).f1) - ((rd_T38 l0 x11_3).f1))))))) t250 _ A16.out).mono ?_); rintro e w' ⟨rfl, ⟨nd, rfl⟩⟩; (try first | exact ⟨rfl, _, World.drewN_drewN _ _ _⟩ | exact ⟨rfl, _, Eq.trans (World.drewN_drewN _ _ _) (congrArg (World.drewN _) (Nat.add_assoc _ _ _))⟩)) | ((with_reducible refine gate_dst (N := 78) rfl ?_); (try (refine gate_guard (by rfl) ?_; dsimp only)); refine Kd.R_lit (Kd.int .i64) _ 3 ?hg (N := 78) ?hd (xs := ([x10_2, x11_3] : List Int)) (inner := [.int .i64 x10_2, .int .i64 x11_3]) (ok := fun _ => True) (okp := fun _ => True) ?hr ?hp (fun _ hk => hk) trivial (Below.refl _ _) (Nat.le_refl _) (by simp) ?_; (case hd => rfl); (case hg => rfl); (case hr => first | (go_simp; done) | (go_simp; rfl)); (case hp => exact (Reps.one (show Kd.M (Kd.int .i64) _ _ _ x10_2 [.int .i64 x10_2] from rfl) (Reps.one (show Kd.M (Kd.int .i64) _ _ _ x11_3 [.int .i64 x11_3] from rfl) (Reps.none _ _)))); intro v255 w21 ho22 hb hg_ hnew_; clear hg_ hnew_; (first | rw [← Ny254.out] at ho22 | (simp only [Int.reduceToNat] at ho22; rw [← Ny254.out] at ho22)); have n0_ := Aside0.mk (Kd.R_elder' (rdl HO_8) (Kd.R_base ho22) hb); have n1_ := Aside0.mk (Kd.R_lower (Kd.R_new' ho22 (Kd.R_lt (rdl HO_8))) (below_size (bel HB))); have n2_ := Aside0.mk (below_step (bel HB) hb); clear HO_8; clear HB; have HO_8 := n0_; have HO256 := n1_; have HB := n2_; clear n0_ n1_ n2_; clear hb ho22)))
               go_roundg k3
               case measure => have := HJ1.out; have := HK2.out; have := HK3.out; omega
               case rel => exact ⟨(y254), (t250), (wrap64 (x11_3 + 1)), (by first | rfl | (simp; done) | (simp [*]; done)), (by first | rfl | (simp; done) | (simp [*]; done)), H', ⟨by have := HJ1.out; have := HK2.out; have := HK3.out; omega⟩, ⟨by (with_reducible repeat (first | apply Kd.R_alloc | apply Kd.R_drewN | apply Kd.R_drew)); exact Kd.R_mono HO256.out (fun _ hk => trivial)⟩, ⟨bel HB⟩⟩
              ·rw [if_neg c20] at H
               have c20b0 : decide (t250 < x9_3) = false := decide_eq_false c20
               clear c20
               have H' := Aside0.mk H
               clear H
               have p246 : 0 ≤ (x10_2 : Int) := oda
               have q246 : x10_2 < (l0.length : Int) := oda
               obtain ⟨ad246, e246, hx246_0, hx246_1, hx246_2⟩ := at_T38 HR0.out x10_2 p246 q246
               cases e246
               replace hx246_0 := cel HB hx246_0
               replace hx246_1 := cel HB hx246_1
               replace hx246_2 := cel HB hx246_2
               replace p246 := eq_true p246
               replace q246 := eq_true q246
               have p247 : 0 ≤ (x11_3 : Int) := oda
               have q247 : x11_3 < (l0.length : Int) := oda
               obtain ⟨ad247, e247, hx247_0, hx247_1, hx247_2⟩ := at_T38 HR0.out x11_3 p247 q247
               obtain rfl : ad246 = ad247 := (by injection e247)
               replace hx247_0 := cel HB hx247_0
               replace hx247_1 := cel HB hx247_1
               replace hx247_2 := cel HB hx247_2
               replace p247 := eq_true p247
               replace q247 := eq_true q247
               have p248 : 0 ≤ (x10_2 : Int) := oda
               have q248 : x10_2 < (l0.length : Int) := oda
               obtain ⟨ad248, e248, hx248_0, hx248_1, hx248_2⟩ := at_T38 HR0.out x10_2 p248 q248
               obtain rfl : ad246 = ad248 := (by injection e248)
               replace hx248_0 := cel HB hx248_0
               replace hx248_1 := cel HB hx248_1
               replace hx248_2 := cel HB hx248_2
               replace p248 := eq_true p248
               replace q248 := eq_true q248
               have p249 : 0 ≤ (x11_3 : Int) := oda
               have q249 : x11_3 < (l0.length : Int) := oda
               obtain ⟨ad249, e249, hx249_0, hx249_1, hx249_2⟩ := at_T38 HR0.out x11_3 p249 q249
               obtain rfl : ad246 = ad249 := (by injection e249)
               replace hx249_0 := cel HB hx249_0
               replace hx249_1 := cel HB hx249_1
               replace hx249_2 := cel HB hx249_2
               replace p249 := eq_true p249
               replace q249 := eq_true q249
               go_wp2_with (first | (go_at_call 39; (with_reducible refine (spec_l11Abs.calls (wrap64 (t241 - (wrap64 ((wrap64 (((rd_T38 l0 x10_2).f0) - ((rd_T38 l0 x11_3).f0))) * (wrap64 (((rd_T38 l0 x10_2).f1) - ((rd_T38 l0 x11_3).f1))))))) t250 _ A16.out).mono ?_); rintro e w' ⟨rfl, ⟨nd, rfl⟩⟩; (try first | exact ⟨rfl, _, World.drewN_drewN _ _ _⟩ | exact ⟨rfl, _, Eq.trans (World.drewN_drewN _ _ _) (congrArg (World.drewN _) (Nat.add_assoc _ _ _))⟩)))
               repeat (go_quiet (first | (go_at_call 39; (with_reducible refine (spec_l11Abs.calls (wrap64 (t241 - (wrap64 ((wrap64 (((rd_T38 l0 x10_2).f0) - ((rd_T38 l0 x11_3).f0))) * (wrap64 (((rd_T38 l0 x10_2).f1) - ((rd_T38 l0 x11_3).f1))))))) t250 _ A16.out).mono ?_); rintro e w' ⟨rfl, ⟨nd, rfl⟩⟩; (try first | exact ⟨rfl, _, World.drewN_drewN _ _ _⟩ | exact ⟨rfl, _, Eq.trans (World.drewN_drewN _ _ _) (congrArg (World.drewN _) (Nat.add_assoc _ _ _))⟩))); try go_wp2_with (first | (go_at_call 39; (with_reducible refine (spec_l11Abs.calls (wrap64 (t241 - (wrap64 ((wrap64 (((rd_T38 l0 x10_2).f0) - ((rd_T38 l0 x11_3).f0))) * (wrap64 (((rd_T38 l0 x10_2).f1) - ((rd_T38 l0 x11_3).f1))))))) t250 _ A16.out).mono ?_); rintro e w' ⟨rfl, ⟨nd, rfl⟩⟩; (try first | exact ⟨rfl, _, World.drewN_drewN _ _ _⟩ | exact ⟨rfl, _, Eq.trans (World.drewN_drewN _ _ _) (congrArg (World.drewN _) (Nat.add_assoc _ _ _))⟩))))
               go_roundg k3
               case measure => have := HJ1.out; have := HK2.out; have := HK3.out; omega
               case rel => exact ⟨(x8_3), (x9_3), (wrap64 (x11_3 + 1)), (by first | rfl | (simp; done) | (simp [*]; done)), (by first | rfl | (simp; done) | (simp [*]; done)), H', ⟨by have := HJ1.out; have := HK2.out; have := HK3.out; omega⟩, ⟨rdl HO_8⟩, ⟨bel HB⟩⟩
            ·rw [if_neg c15] at H
             exact absurd H (by simp)
           ·rw [if_neg c14] at H
            exact absurd H (by simp)
          ·rw [if_neg c13] at H
           exact absurd H (by simp)
         ·rw [if_neg c12] at H
          have c12b0 : decide (x11_3 < (l0.length : Int)) = false := decide_eq_false c12
          clear c12
          have H' := Aside0.mk H
          clear H
          go_wp2
          repeat (go_quiet (fail); try go_wp2)
          go_roundg k3
          case measure => have := HJ1.out; have := HK2.out; have := HK3.out; omega
          case rel => exact ⟨(x8_3), (x9_3), (wrap64 (x10_2 + 1)), (by first | rfl | (simp; done) | (simp [*]; done)), (by first | rfl | (simp; done) | (simp [*]; done)), H', ⟨by have := HJ1.out; have := HK2.out; have := HK3.out; omega⟩, ⟨rdl HO_8⟩, ⟨bel HB⟩⟩
      ·rw [if_neg c11] at H
       have c11b0 : decide (x10_2 < (l0.length : Int)) = false := decide_eq_false c11
       clear c11
       simp only [Option.some.injEq, Prod.mk.injEq] at H
       obtain ⟨rfl, rfl, rfl⟩ := H
       go_wp2
       repeat (go_quiet (fail); try go_wp2)
       go_ret3
       exact ⟨_, by first | rfl | (simp [errW_none, errW_some] <;> rfl) | (simp [*, errW_none, errW_some] <;> rfl), rdl HO_8, bel HB⟩

end Go.Proofs.Ytkahifpcimoogaa.P
