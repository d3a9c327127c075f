-- Written by a program of this session over the translation (a variant of the printer, see wip/gen); Lean checks it.
import Derived.Test.YtmggkimmnekhcaaPx0
import Derived.Test.YtmggkimmnekhcaaPx1
import Derived.Test.YtmggkimmnekhcaaPx6
import Derived.Test.YtmggkimmnekhcaaPx11
import Derived.Test.YtmggkimmnekhcaaPx13
import Derived.Test.YtmggkimmnekhcaaPx14
import Derived.Test.YtmggkimmnekhcaaPx15
import Derived.Test.YtmggkimmnekhcaaPx16
import Derived.Test.YtmggkimmnekhcaaPx19
import Derived.Test.YtmggkimmnekhcaaPx22
namespace Go.Proofs.Ytmggkimmnekhcaa.P
open Go.RowKit Go.Proofs.YtmggkimmnekhcaaW.PrintWords Go.Proofs.YtmggkimmnekhcaaW.PrintLast Go.Proofs.YtmggkimmnekhcaaW.PrintMore
attribute [local go_sem] Go.Proofs.Ytmggkimmnekhcaa.V.isSome_setCell max2_int min2_int max_two min_two max_three min_three max_four min_four
set_option linter.unusedVariables false
set_option linter.unusedSimpArgs false
/-! ### impl_EarliestOf: function 18 -/
def impl_EarliestOf.f (l0_0 : List (List Int)) (a1 : Int) : Option (Int × Bool) := (impl_hasStack.f l0_0 (([a1] : List Int))).bind fun t433 => (if t433 = true then (if 0 ≤ a1 then (if a1 < (l0_0.length : Int) then ((impl_earliestOf.f (rd_L2 l0_0 a1)).bind fun t435 => (some (t435, true))) else (none)) else (none)) else (some (0, false)))
set_option maxHeartbeats 8000000 in
set_option maxRecDepth 100000 in
theorem impl_EarliestOf.calls (A0_0 : Option Addr) (c0_0 : Nat) (l0_0 : List (List Int)) (a1 : Int) (r1 : Int) (r2 : Bool) (w : World) (hr0_0 : Kd.C (Kd.slice 3 (Kd.int .i64)) w A0_0 l0_0.length l0_0) (hc0_0 : l0_0.length ≤ c0_0) (h : impl_EarliestOf.f l0_0 a1 = some (r1, r2)) :
  Calls Try.prog 18 #[.agg #[.slice A0_0 l0_0.length c0_0], .int .i64 a1] w fun e w' => e = .returned (.tuple #[.int .i64 r1, .bool r2]) ∧ Below w.heap.size w w' := by
 have hu26 := Try.underlying26
 have HR0_0 := Aside0.mk hr0_0
 have HC0_0 := Aside0.mk hc0_0
 clear hr0_0 hc0_0
 have HB := Aside0.mk (Below.refl w.heap.size w)
 have H : ((impl_hasStack.f l0_0 (([a1] : List Int))).bind fun t433 => (if t433 = true then (if 0 ≤ a1 then (if a1 < (l0_0.length : Int) then ((impl_earliestOf.f (rd_L2 l0_0 a1)).bind fun t435 => (some (t435, true))) else (none)) else (none)) else (some (0, false)))) = some (r1, r2) := h
 clear h
 obtain ⟨y430, hy430⟩ : ∃ y_ : List Int, y_ = (([a1] : List Int)) := ⟨_, rfl⟩
 replace H : ((impl_hasStack.f l0_0 y430).bind fun t433 => (if t433 = true then (if 0 ≤ a1 then (if a1 < (l0_0.length : Int) then ((impl_earliestOf.f (rd_L2 l0_0 a1)).bind fun t435 => (some (t435, true))) else (none)) else (none)) else (some (0, false)))) = some (r1, r2) := by first | (rw [hy430]; with_reducible exact H) | (have H2_ := (Option.bind_some _ _).symm.trans H; rw [hy430]; with_reducible exact H2_) | (have H2_ := (Option.bind_some _ _).symm.trans H; with_reducible exact H2_) | with_reducible exact H | (rw [hy430]; exact H) | exact H
 have Ny430 := Aside0.mk hy430
 clear hy430
 replace H := Option.bind_eq_some_iff.mp H
 obtain ⟨t433, A30, H⟩ := H
 replace H : (if t433 = true then (if 0 ≤ a1 then (if a1 < (l0_0.length : Int) then ((impl_earliestOf.f (rd_L2 l0_0 a1)).bind fun t435 => (some (t435, true))) else (none)) else (none)) else (some (0, false))) = some (r1, r2) := H
 have A3 := Aside0.mk A30
 clear A30
 by_cases c4 : t433 = true
 rotate_left
 ·replace c4 := Bool.eq_false_iff.mpr c4
  subst c4
  have H1 : (some (0, false)) = some (r1, r2) := by rw [if_neg (show ¬ (false = true) by decide)] at H; exact H
  clear H
  have H := H1
  clear H1
  simp only [Option.some.injEq, Prod.mk.injEq] at H
  obtain ⟨rfl, rfl⟩ := H
  go_enter Try.func18, Try.ntmps18
  go_wp2_with (first | ((with_reducible refine gate_dst (N := 2) rfl ?_); refine box_event ?hg (N := 2) ?hd (cs := #[.slice A0_0 l0_0.length c0_0]) (t := 26) ?hr ?_; (case hd => rfl); (case hg => rfl); (case hr => first | (go_simp; done) | (go_simp; rfl)); intro gb429 hg w15 hbox hb; have n0_ := Aside0.mk (below_step (bel HB) hb); have n1_ := Aside0.mk (hbox); have n2_ := Aside0.mk ((by rw [hg]; exact (below_size (bel HB)) : w.heap.size ≤ gb429)); have n3_ := Aside0.mk ((by rw [hg]; exact (below_size (bel HB)) : w.heap.size ≤ gb429)); clear HB; have HB := n0_; have BK429 := n1_; have GW429 := n2_; have GE429 := n3_; clear n0_ n1_ n2_ n3_; clear hb hbox hg; have hcz16_0 : w15.cell? ⟨gb429, 0, none⟩ = some (.slice A0_0 l0_0.length c0_0) := (blk_cell BK429.out 0).trans rfl; have hfz16_0 := blk_frozen BK429.out 0) | ((with_reducible refine gate_dst (N := 8) rfl ?_); refine Kd.R_lit (Kd.int .i64) _ 3 ?hg (N := 8) ?hd (xs := ([a1] : List Int)) (inner := [.int .i64 a1]) (ok := fun _ => True) (okp := fun _ => True) ?hr ?hp (fun _ hk => hk) trivial (Below.refl _ _) (Nat.le_refl _) (by simp) ?_; (case hd => rfl); (case hg => rfl); (case hr => first | (go_simp; done) | (go_simp; rfl)); (case hp => exact (Reps.one (show Kd.M (Kd.int .i64) _ _ _ a1 [.int .i64 a1] from rfl) (Reps.none _ _))); intro v431 w17 ho18 hb hg_ hnew_; clear hg_ hnew_; (first | rw [← Ny430.out] at ho18 | (simp only [Int.reduceToNat] at ho18; rw [← Ny430.out] at ho18)); have n0_ := Aside0.mk (Kd.R_lower ho18 (below_size (bel1 HB GE429))); have n1_ := Aside0.mk (blk_below (g := gb429) (o := .cells #[.slice A0_0 l0_0.length c0_0] 26 (0, 0)) (bkl BK429) hb); have n2_ := Aside0.mk (below_step (bel1 HB GE429) hb); clear BK429; clear HB; have HO432 := n0_; have BK429 := n1_; have HB := n2_; clear n0_ n1_ n2_; clear hb ho18; obtain ⟨Ao19, co19, eo19⟩ := Kd.R_slice HO432.out; subst eo19) | ((with_reducible refine gate_callee (f := 41) rfl ?_); refine goesL_ (some 9) rfl rfl Try.func41 (by kernel_rfl) rfl #[.agg #[.slice A0_0 l0_0.length c0_0], .slice Ao19 y430.length co19] rfl gmp ?_; (with_reducible refine (impl_hasStack.calls _ _ l0_0 _ _ y430 false _ ?side1 ?side2 ?side3 ?side4 A3.out).mono ?_); (case side1 => exact cdl (Kd.C_below HR0_0.out HB.out)); (case side2 => exact HC0_0.out); (case side3 => exact cdl (Kd.R_reads' HO432.out).2.2); (case side4 => exact (Kd.R_reads' HO432.out).2.1); rintro e w20 ⟨rfl, hb⟩; refine ⟨_, rfl, ?_⟩; have n0_ := Aside0.mk (Kd.R_below (rdl HO432) hb); have n1_ := Aside0.mk (blk_below (g := gb429) (o := .cells #[.slice A0_0 l0_0.length c0_0] 26 (0, 0)) (bkl BK429) hb); have n2_ := Aside0.mk (below_step (bel1 HB GE429) hb); clear HO432; clear BK429; clear HB; have HO432 := n0_; have BK429 := n1_; have HB := n2_; clear n0_ n1_ n2_; (try clear hb); (try clear hb2); (try clear hk); (try clear hi)))
  go_ret2
  exact ⟨by first | rfl | (simp [errW_none, errW_some] <;> rfl) | (simp [*, errW_none, errW_some] <;> rfl), bel1 HB GE429⟩
 subst c4
 have H1 : (if 0 ≤ a1 then (if a1 < (l0_0.length : Int) then ((impl_earliestOf.f (rd_L2 l0_0 a1)).bind fun t435 => (some (t435, true))) else (none)) else (none)) = some (r1, r2) := by rw [if_pos rfl] at H; exact H
 clear H
 have H := H1
 clear H1
 by_cases c5 : 0 ≤ a1
 rotate_left
 ·rw [if_neg c5] at H
  exact absurd H (by simp)
 rw [if_pos c5] at H
 have c5b0 : decide (0 ≤ a1) = true := decide_eq_true c5
 clear c5
 by_cases c6 : a1 < (l0_0.length : Int)
 rotate_left
 ·rw [if_neg c6] at H
  exact absurd H (by simp)
 rw [if_pos c6] at H
 have c6b0 : decide (a1 < (l0_0.length : Int)) = true := decide_eq_true c6
 clear c6
 replace H := Option.bind_eq_some_iff.mp H
 obtain ⟨t435, A70, H⟩ := H
 replace H : (some (t435, true)) = some (r1, r2) := H
 have A7 := Aside0.mk A70
 clear A70
 simp only [Option.some.injEq, Prod.mk.injEq] at H
 obtain ⟨rfl, rfl⟩ := H
 go_enter Try.func18, Try.ntmps18
 go_wp2_with (first | ((with_reducible refine gate_dst (N := 2) rfl ?_); refine box_event ?hg (N := 2) ?hd (cs := #[.slice A0_0 l0_0.length c0_0]) (t := 26) ?hr ?_; (case hd => rfl); (case hg => rfl); (case hr => first | (go_simp; done) | (go_simp; rfl)); intro gb429 hg w8 hbox hb; have n0_ := Aside0.mk (below_step (bel HB) hb); have n1_ := Aside0.mk (hbox); have n2_ := Aside0.mk ((by rw [hg]; exact (below_size (bel HB)) : w.heap.size ≤ gb429)); have n3_ := Aside0.mk ((by rw [hg]; exact (below_size (bel HB)) : w.heap.size ≤ gb429)); clear HB; have HB := n0_; have BK429 := n1_; have GW429 := n2_; have GE429 := n3_; clear n0_ n1_ n2_ n3_; clear hb hbox hg; have hcz9_0 : w8.cell? ⟨gb429, 0, none⟩ = some (.slice A0_0 l0_0.length c0_0) := (blk_cell BK429.out 0).trans rfl; have hfz9_0 := blk_frozen BK429.out 0) | ((with_reducible refine gate_dst (N := 8) rfl ?_); refine Kd.R_lit (Kd.int .i64) _ 3 ?hg (N := 8) ?hd (xs := ([a1] : List Int)) (inner := [.int .i64 a1]) (ok := fun _ => True) (okp := fun _ => True) ?hr ?hp (fun _ hk => hk) trivial (Below.refl _ _) (Nat.le_refl _) (by simp) ?_; (case hd => rfl); (case hg => rfl); (case hr => first | (go_simp; done) | (go_simp; rfl)); (case hp => exact (Reps.one (show Kd.M (Kd.int .i64) _ _ _ a1 [.int .i64 a1] from rfl) (Reps.none _ _))); intro v431 w10 ho11 hb hg_ hnew_; clear hg_ hnew_; (first | rw [← Ny430.out] at ho11 | (simp only [Int.reduceToNat] at ho11; rw [← Ny430.out] at ho11)); have n0_ := Aside0.mk (Kd.R_lower ho11 (below_size (bel1 HB GE429))); have n1_ := Aside0.mk (blk_below (g := gb429) (o := .cells #[.slice A0_0 l0_0.length c0_0] 26 (0, 0)) (bkl BK429) hb); have n2_ := Aside0.mk (below_step (bel1 HB GE429) hb); clear BK429; clear HB; have HO432 := n0_; have BK429 := n1_; have HB := n2_; clear n0_ n1_ n2_; clear hb ho11; obtain ⟨Ao12, co12, eo12⟩ := Kd.R_slice HO432.out; subst eo12) | ((with_reducible refine gate_callee (f := 41) rfl ?_); refine goesL_ (some 9) rfl rfl Try.func41 (by kernel_rfl) rfl #[.agg #[.slice A0_0 l0_0.length c0_0], .slice Ao12 y430.length co12] rfl gmp ?_; (with_reducible refine (impl_hasStack.calls _ _ l0_0 _ _ y430 true _ ?side1 ?side2 ?side3 ?side4 A3.out).mono ?_); (case side1 => exact cdl (Kd.C_below HR0_0.out HB.out)); (case side2 => exact HC0_0.out); (case side3 => exact cdl (Kd.R_reads' HO432.out).2.2); (case side4 => exact (Kd.R_reads' HO432.out).2.1); rintro e w13 ⟨rfl, hb⟩; refine ⟨_, rfl, ?_⟩; have n0_ := Aside0.mk (Kd.R_below (rdl HO432) hb); have n1_ := Aside0.mk (blk_below (g := gb429) (o := .cells #[.slice A0_0 l0_0.length c0_0] 26 (0, 0)) (bkl BK429) hb); have n2_ := Aside0.mk (below_step (bel1 HB GE429) hb); clear HO432; clear BK429; clear HB; have HO432 := n0_; have BK429 := n1_; have HB := n2_; clear n0_ n1_ n2_; (try clear hb); (try clear hb2); (try clear hk); (try clear hi); have hcz14_0 : w13.cell? ⟨gb429, 0, none⟩ = some (.slice A0_0 l0_0.length c0_0) := (blk_cell BK429.out 0).trans rfl; have hfz14_0 := blk_frozen BK429.out 0; have p434 : 0 ≤ (a1 : Int) := oda; have q434 : a1 < (l0_0.length : Int) := oda; obtain ⟨ad434, A434_0, c434_0, e434, hx434_0, hl434_0, hi434_0⟩ := at_L2 HR0_0.out a1 p434 q434; cases e434; replace hx434_0 := cel HB hx434_0; have HR434_0 := Aside0.mk hi434_0; have HC434_0 := Aside0.mk hl434_0; clear hi434_0 hl434_0; replace p434 := eq_true p434; replace q434 := eq_true q434) | ((with_reducible refine gate_callee (f := 42) rfl ?_); refine goesL_ (some 16) rfl rfl Try.func42 (by kernel_rfl) rfl #[.slice A434_0 (rd_L2 l0_0 a1).length c434_0] rfl gmp ?_; (with_reducible refine (impl_earliestOf.calls _ _ (rd_L2 l0_0 a1) t435 _ ?side1 ?side2 A7.out).mono ?_); (case side1 => exact cdl (Kd.C_below HR434_0.out HB.out)); (case side2 => exact HC434_0.out); rintro e w' ⟨rfl, ⟨nd, rfl⟩⟩; refine ⟨_, rfl, ?_⟩))
 go_ret2
 exact ⟨by first | rfl | (simp [errW_none, errW_some] <;> rfl) | (simp [*, errW_none, errW_some] <;> rfl), bel1 HB GE429⟩
/-! ### laws_FnBadlyPlaced: function 3 -/
mutual
def laws_FnBadlyPlaced.j0 : Nat → List Int → List Int → List Int → Bool → List (List Int) → Option (Bool)
 | 0, _, _, _, _, _ => none
 | k + 1, x0, x4, x8, x99, x441000 => if x99 = true then (none) else (laws_FnBadlyPlaced.l0 k x0 x4 x8 0 x441000)
def laws_FnBadlyPlaced.l0 : Nat → List Int → List Int → List Int → Int → List (List Int) → Option (Bool)
 | 0, _, _, _, _, _ => none
 | k + 1, x0, x4, x8, x16, x441000 => if x16 < (x4.length : Int) then (if 0 ≤ x16 then ((impl_PlaceOf.f k x441000 (rd x4 x16)).bind fun bt462 => (if bt462.2.2 = true then ((laws_vHas.f k x8 bt462.1).bind fun t465 => (if t465 = true then (none) else (laws_FnBadlyPlaced.l0 k x0 x4 x8 (wrap64 (x16 + 1)) x441000))) else (none))) else (none)) else ((spec_DrawChooseStack.f k x0).bind fun bt466 => ((impl_ChooseStack.f k bt466.1 bt466.2).bind fun bt471 => ((spec_ChooseStack.f k bt466.1 bt466.2).bind fun bt473 => (if bt471.1 = bt473.1 then (if (bt471.2 != bt473.2) = true then (none) else (if bt471.2 = true then ((impl_EarliestOf.f bt466.1 bt471.1).bind fun bt475 => (if bt475.2 = true then (if bt475.1 < 1 then (none) else (if bt475.1 > 100 then (none) else (some true))) else (none))) else (some true))) else (none)))))
end
def laws_FnBadlyPlaced.f (k : Nat) (l0 : List Int) : Option (Bool) := (laws_vBig.f l0).bind fun t436 => (if t436 = true then (some true) else ((spec_DrawBadlyPlaced.f k l0).bind fun t437 => ((impl_BadlyPlaced.f k t437).bind fun bt441 => ((spec_BadlyPlaced.f k t437).bind fun bt445 => (if (bt441.2 != bt445.2) = true then (none) else ((laws_vInts.f k bt441.1 bt445.1).bind fun t449 => (if t449 = true then ((impl_SortedStacks.f k t437).bind fun bt450 => (if (bt450.2 != bt441.2) = true then (none) else ((impl_WorstBox.f k t437).bind fun bt454 => ((spec_WorstBox.f k t437).bind fun bt457 => (if bt454.1 = bt457.1 then (if bt454.2.1 = bt457.2.1 then (if (bt454.2.2 != bt457.2.2) = true then (none) else (if (bt454.2.2 != (decide ((bt441.1.length : Int) > 0))) = true then (none) else (if bt454.2.2 = true then ((laws_vHas.f k bt441.1 bt454.1).bind fun t460 => (laws_FnBadlyPlaced.j0 k l0 bt441.1 bt450.1 (!t460) t437)) else (laws_FnBadlyPlaced.j0 k l0 bt441.1 bt450.1 false t437)))) else (none)) else (none)))))) else (none))))))))
theorem laws_FnBadlyPlaced.mono_l : ∀ k, (∀ y0 y1 y2 y3 y4, LeO (laws_FnBadlyPlaced.j0 k y0 y1 y2 y3 y4) (laws_FnBadlyPlaced.j0 (k + 1) y0 y1 y2 y3 y4)) ∧ (∀ y0 y1 y2 y3 y4, LeO (laws_FnBadlyPlaced.l0 k y0 y1 y2 y3 y4) (laws_FnBadlyPlaced.l0 (k + 1) y0 y1 y2 y3 y4))
 | 0 => ⟨fun _ _ _ _ _ r h => by simp [laws_FnBadlyPlaced.j0] at h, fun _ _ _ _ _ r h => by simp [laws_FnBadlyPlaced.l0] at h⟩
 | k + 1 => by
  obtain ⟨ih0, ih1⟩ := laws_FnBadlyPlaced.mono_l k
  refine ⟨?_, ?_⟩
  ·intro y0 y1 y2 y3 y4
   unfold laws_FnBadlyPlaced.j0
   repeat' first
   | (with_reducible exact ih0 _ _ _ _ _)
   | (with_reducible exact ih1 _ _ _ _ _)
   | (with_reducible exact impl_BadlyPlaced.mono _ _)
   | (with_reducible exact impl_ChooseStack.mono _ _ _)
   | (with_reducible exact impl_PlaceOf.mono _ _ _)
   | (with_reducible exact impl_SortedStacks.mono _ _)
   | (with_reducible exact impl_WorstBox.mono _ _)
   | (with_reducible exact laws_vHas.mono _ _ _)
   | (with_reducible exact laws_vInts.mono _ _ _)
   | (with_reducible exact spec_BadlyPlaced.mono _ _)
   | (with_reducible exact spec_ChooseStack.mono _ _ _)
   | (with_reducible exact spec_DrawBadlyPlaced.mono _ _)
   | (with_reducible exact spec_DrawChooseStack.mono _ _)
   | (with_reducible exact spec_WorstBox.mono _ _)
   | (with_reducible exact LeO.refl _)
   | (with_reducible exact LeO.none _)
   | (with_reducible refine LeO.ite ?_ ?_)
   | (with_reducible refine LeO.bind ?_ (fun _ => ?_))
   | exact ih0 _ _ _ _ _
   | exact ih1 _ _ _ _ _
   | exact impl_BadlyPlaced.mono _ _
   | exact impl_ChooseStack.mono _ _ _
   | exact impl_PlaceOf.mono _ _ _
   | exact impl_SortedStacks.mono _ _
   | exact impl_WorstBox.mono _ _
   | exact laws_vHas.mono _ _ _
   | exact laws_vInts.mono _ _ _
   | exact spec_BadlyPlaced.mono _ _
   | exact spec_ChooseStack.mono _ _ _
   | exact spec_DrawBadlyPlaced.mono _ _
   | exact spec_DrawChooseStack.mono _ _
   | exact spec_WorstBox.mono _ _
   | exact LeO.none _
   | refine LeO.ite ?_ ?_
   | refine LeO.bind ?_ (fun _ => ?_)
  ·intro y0 y1 y2 y3 y4
   unfold laws_FnBadlyPlaced.l0
   repeat' first
   | (with_reducible exact ih0 _ _ _ _ _)
   | (with_reducible exact ih1 _ _ _ _ _)
   | (with_reducible exact impl_BadlyPlaced.mono _ _)
   | (with_reducible exact impl_ChooseStack.mono _ _ _)
   | (with_reducible exact impl_PlaceOf.mono _ _ _)
   | (with_reducible exact impl_SortedStacks.mono _ _)
   | (with_reducible exact impl_WorstBox.mono _ _)
   | (with_reducible exact laws_vHas.mono _ _ _)
   | (with_reducible exact laws_vInts.mono _ _ _)
   | (with_reducible exact spec_BadlyPlaced.mono _ _)
   | (with_reducible exact spec_ChooseStack.mono _ _ _)
   | (with_reducible exact spec_DrawBadlyPlaced.mono _ _)
   | (with_reducible exact spec_DrawChooseStack.mono _ _)
   | (with_reducible exact spec_WorstBox.mono _ _)
   | (with_reducible exact LeO.refl _)
   | (with_reducible exact LeO.none _)
   | (with_reducible refine LeO.ite ?_ ?_)
   | (with_reducible refine LeO.bind ?_ (fun _ => ?_))
   | exact ih0 _ _ _ _ _
   | exact ih1 _ _ _ _ _
   | exact impl_BadlyPlaced.mono _ _
   | exact impl_ChooseStack.mono _ _ _
   | exact impl_PlaceOf.mono _ _ _
   | exact impl_SortedStacks.mono _ _
   | exact impl_WorstBox.mono _ _
   | exact laws_vHas.mono _ _ _
   | exact laws_vInts.mono _ _ _
   | exact spec_BadlyPlaced.mono _ _
   | exact spec_ChooseStack.mono _ _ _
   | exact spec_DrawBadlyPlaced.mono _ _
   | exact spec_DrawChooseStack.mono _ _
   | exact spec_WorstBox.mono _ _
   | exact LeO.none _
   | refine LeO.ite ?_ ?_
   | refine LeO.bind ?_ (fun _ => ?_)
theorem laws_FnBadlyPlaced.mono : ∀ a0 k, LeO (laws_FnBadlyPlaced.f k a0) (laws_FnBadlyPlaced.f (k + 1) a0) := by
 intro a0 k
 obtain ⟨ih0, ih1⟩ := laws_FnBadlyPlaced.mono_l k
 unfold laws_FnBadlyPlaced.f
 repeat' first
   | (with_reducible exact ih0 _ _ _ _ _)
   | (with_reducible exact ih1 _ _ _ _ _)
   | (with_reducible exact impl_BadlyPlaced.mono _ _)
   | (with_reducible exact impl_ChooseStack.mono _ _ _)
   | (with_reducible exact impl_PlaceOf.mono _ _ _)
   | (with_reducible exact impl_SortedStacks.mono _ _)
   | (with_reducible exact impl_WorstBox.mono _ _)
   | (with_reducible exact laws_vHas.mono _ _ _)
   | (with_reducible exact laws_vInts.mono _ _ _)
   | (with_reducible exact spec_BadlyPlaced.mono _ _)
   | (with_reducible exact spec_ChooseStack.mono _ _ _)
   | (with_reducible exact spec_DrawBadlyPlaced.mono _ _)
   | (with_reducible exact spec_DrawChooseStack.mono _ _)
   | (with_reducible exact spec_WorstBox.mono _ _)
   | (with_reducible exact LeO.refl _)
   | (with_reducible exact LeO.none _)
   | (with_reducible refine LeO.ite ?_ ?_)
   | (with_reducible refine LeO.bind ?_ (fun _ => ?_))
   | exact ih0 _ _ _ _ _
   | exact ih1 _ _ _ _ _
   | exact impl_BadlyPlaced.mono _ _
   | exact impl_ChooseStack.mono _ _ _
   | exact impl_PlaceOf.mono _ _ _
   | exact impl_SortedStacks.mono _ _
   | exact impl_WorstBox.mono _ _
   | exact laws_vHas.mono _ _ _
   | exact laws_vInts.mono _ _ _
   | exact spec_BadlyPlaced.mono _ _
   | exact spec_ChooseStack.mono _ _ _
   | exact spec_DrawBadlyPlaced.mono _ _
   | exact spec_DrawChooseStack.mono _ _
   | exact spec_WorstBox.mono _ _
   | exact LeO.none _
   | refine LeO.ite ?_ ?_
   | refine LeO.bind ?_ (fun _ => ?_)
def laws_FnBadlyPlaced.T18 : Bool × List (List Nat × List Nat) := (true, [([], []), ([], []), ([], []), ([1, 2], [1, 2]), ([3], [3]), ([0, 4], [0, 4]), ([5], [5]), ([6], [6]), ([6], [6]), ([6], [6]), ([7, 5, 0, 1, 2, 3, 4, 5, 6, 7], [7]), ([8, 10, 0, 1, 2, 3, 4, 5, 6, 7, 8, 10], [8]), ([9, 11, 0, 1, 2, 3, 4, 5, 6, 7, 8, 9, 10, 11], [9])])
def laws_FnBadlyPlaced.B18 : List Nat := [0, 0, 0, 6, 14, 31, 63, 127, 127, 127, 255, 1535, 4095]
theorem laws_FnBadlyPlaced.tab18 : rtab .any (opsOf Try.f3 18) = laws_FnBadlyPlaced.T18 := by kernel_rfl
theorem laws_FnBadlyPlaced.bits18 : waitsOk laws_FnBadlyPlaced.T18.2 laws_FnBadlyPlaced.B18 = true := by kernel_rfl
set_option maxHeartbeats 8000000 in
set_option maxRecDepth 100000 in
theorem laws_FnBadlyPlaced.calls (k : Nat) (A0 : Option Addr) (c0 : Nat) (l0 : List Int) (r : Bool) (w : World) (hr0 : Kd.C (Kd.int .u8) w A0 l0.length l0) (hc0 : l0.length ≤ c0) (h : laws_FnBadlyPlaced.f k l0 = some r) :
  Calls Try.prog 3 #[.slice A0 l0.length c0] w fun e w' => e = .returned (.bool r) ∧ Below w.heap.size w w' := by
 have hu26 := Try.underlying26
 have HR0 := Aside0.mk hr0
 have HC0 := Aside0.mk hc0
 clear hr0 hc0
 have HB := Aside0.mk (Below.refl w.heap.size w)
 have H : ((laws_vBig.f l0).bind fun t436 => (if t436 = true then (some true) else ((spec_DrawBadlyPlaced.f k l0).bind fun t437 => ((impl_BadlyPlaced.f k t437).bind fun bt441 => ((spec_BadlyPlaced.f k t437).bind fun bt445 => (if (bt441.2 != bt445.2) = true then (none) else ((laws_vInts.f k bt441.1 bt445.1).bind fun t449 => (if t449 = true then ((impl_SortedStacks.f k t437).bind fun bt450 => (if (bt450.2 != bt441.2) = true then (none) else ((impl_WorstBox.f k t437).bind fun bt454 => ((spec_WorstBox.f k t437).bind fun bt457 => (if bt454.1 = bt457.1 then (if bt454.2.1 = bt457.2.1 then (if (bt454.2.2 != bt457.2.2) = true then (none) else (if (bt454.2.2 != (decide ((bt441.1.length : Int) > 0))) = true then (none) else (if bt454.2.2 = true then ((laws_vHas.f k bt441.1 bt454.1).bind fun t460 => (laws_FnBadlyPlaced.j0 k l0 bt441.1 bt450.1 (!t460) t437)) else (laws_FnBadlyPlaced.j0 k l0 bt441.1 bt450.1 false t437)))) else (none)) else (none)))))) else (none))))))))) = some r := h
 clear h
 replace H := Option.bind_eq_some_iff.mp H
 obtain ⟨t436, A20, H⟩ := H
 replace H : (if t436 = true then (some true) else ((spec_DrawBadlyPlaced.f k l0).bind fun t437 => ((impl_BadlyPlaced.f k t437).bind fun bt441 => ((spec_BadlyPlaced.f k t437).bind fun bt445 => (if (bt441.2 != bt445.2) = true then (none) else ((laws_vInts.f k bt441.1 bt445.1).bind fun t449 => (if t449 = true then ((impl_SortedStacks.f k t437).bind fun bt450 => (if (bt450.2 != bt441.2) = true then (none) else ((impl_WorstBox.f k t437).bind fun bt454 => ((spec_WorstBox.f k t437).bind fun bt457 => (if bt454.1 = bt457.1 then (if bt454.2.1 = bt457.2.1 then (if (bt454.2.2 != bt457.2.2) = true then (none) else (if (bt454.2.2 != (decide ((bt441.1.length : Int) > 0))) = true then (none) else (if bt454.2.2 = true then ((laws_vHas.f k bt441.1 bt454.1).bind fun t460 => (laws_FnBadlyPlaced.j0 k l0 bt441.1 bt450.1 (!t460) t437)) else (laws_FnBadlyPlaced.j0 k l0 bt441.1 bt450.1 false t437)))) else (none)) else (none)))))) else (none)))))))) = some r := H
 have A2 := Aside0.mk A20
 clear A20
 by_cases c3 : t436 = true
 ·subst c3
  have H1 : (some true) = some r := by rw [if_pos rfl] at H; exact H
  clear H
  have H := H1
  clear H1
  obtain rfl := Option.some.inj H
  go_enter Try.func3, Try.ntmps3
  go_wp2_with (first | ((with_reducible refine gate_callee (f := 5) rfl ?_); refine goesL_ (some 29) rfl rfl Try.func5 (by kernel_rfl) rfl #[.slice A0 l0.length c0] rfl gmp ?_; (with_reducible refine (laws_vBig.calls _ _ l0 true _ ?side1 ?side2 A2.out).mono ?_); (case side1 => exact cdl HR0.out); (case side2 => exact HC0.out); rintro e w' ⟨rfl, ⟨nd, rfl⟩⟩; refine ⟨_, rfl, ?_⟩))
  go_ret
  exact ⟨by first | rfl | (simp [errW_none, errW_some] <;> rfl) | (simp [*, errW_none, errW_some] <;> rfl), bel HB⟩
 replace c3 := Bool.eq_false_iff.mpr c3
 subst c3
 have H1 : ((spec_DrawBadlyPlaced.f k l0).bind fun t437 => ((impl_BadlyPlaced.f k t437).bind fun bt441 => ((spec_BadlyPlaced.f k t437).bind fun bt445 => (if (bt441.2 != bt445.2) = true then (none) else ((laws_vInts.f k bt441.1 bt445.1).bind fun t449 => (if t449 = true then ((impl_SortedStacks.f k t437).bind fun bt450 => (if (bt450.2 != bt441.2) = true then (none) else ((impl_WorstBox.f k t437).bind fun bt454 => ((spec_WorstBox.f k t437).bind fun bt457 => (if bt454.1 = bt457.1 then (if bt454.2.1 = bt457.2.1 then (if (bt454.2.2 != bt457.2.2) = true then (none) else (if (bt454.2.2 != (decide ((bt441.1.length : Int) > 0))) = true then (none) else (if bt454.2.2 = true then ((laws_vHas.f k bt441.1 bt454.1).bind fun t460 => (laws_FnBadlyPlaced.j0 k l0 bt441.1 bt450.1 (!t460) t437)) else (laws_FnBadlyPlaced.j0 k l0 bt441.1 bt450.1 false t437)))) else (none)) else (none)))))) else (none))))))) = some r := by rw [if_neg (show ¬ (false = true) by decide)] at H; exact H
 clear H
 have H := H1
 clear H1
 replace H := Option.bind_eq_some_iff.mp H
 obtain ⟨t437, A40, H⟩ := H
 replace H : ((impl_BadlyPlaced.f k t437).bind fun bt441 => ((spec_BadlyPlaced.f k t437).bind fun bt445 => (if (bt441.2 != bt445.2) = true then (none) else ((laws_vInts.f k bt441.1 bt445.1).bind fun t449 => (if t449 = true then ((impl_SortedStacks.f k t437).bind fun bt450 => (if (bt450.2 != bt441.2) = true then (none) else ((impl_WorstBox.f k t437).bind fun bt454 => ((spec_WorstBox.f k t437).bind fun bt457 => (if bt454.1 = bt457.1 then (if bt454.2.1 = bt457.2.1 then (if (bt454.2.2 != bt457.2.2) = true then (none) else (if (bt454.2.2 != (decide ((bt441.1.length : Int) > 0))) = true then (none) else (if bt454.2.2 = true then ((laws_vHas.f k bt441.1 bt454.1).bind fun t460 => (laws_FnBadlyPlaced.j0 k l0 bt441.1 bt450.1 (!t460) t437)) else (laws_FnBadlyPlaced.j0 k l0 bt441.1 bt450.1 false t437)))) else (none)) else (none)))))) else (none)))))) = some r := H
 have A4 := Aside0.mk A40
 clear A40
 replace H := Option.bind_eq_some_iff.mp H
 obtain ⟨⟨t441, t444⟩, A50, H⟩ := H
 replace H : ((spec_BadlyPlaced.f k t437).bind fun bt445 => (if (t444 != bt445.2) = true then (none) else ((laws_vInts.f k t441 bt445.1).bind fun t449 => (if t449 = true then ((impl_SortedStacks.f k t437).bind fun bt450 => (if (bt450.2 != t444) = true then (none) else ((impl_WorstBox.f k t437).bind fun bt454 => ((spec_WorstBox.f k t437).bind fun bt457 => (if bt454.1 = bt457.1 then (if bt454.2.1 = bt457.2.1 then (if (bt454.2.2 != bt457.2.2) = true then (none) else (if (bt454.2.2 != (decide ((t441.length : Int) > 0))) = true then (none) else (if bt454.2.2 = true then ((laws_vHas.f k t441 bt454.1).bind fun t460 => (laws_FnBadlyPlaced.j0 k l0 t441 bt450.1 (!t460) t437)) else (laws_FnBadlyPlaced.j0 k l0 t441 bt450.1 false t437)))) else (none)) else (none)))))) else (none))))) = some r := H
 have A5 := Aside0.mk A50
 clear A50
 replace H := Option.bind_eq_some_iff.mp H
 obtain ⟨⟨t445, t448⟩, A60, H⟩ := H
 replace H : (if (t444 != t448) = true then (none) else ((laws_vInts.f k t441 t445).bind fun t449 => (if t449 = true then ((impl_SortedStacks.f k t437).bind fun bt450 => (if (bt450.2 != t444) = true then (none) else ((impl_WorstBox.f k t437).bind fun bt454 => ((spec_WorstBox.f k t437).bind fun bt457 => (if bt454.1 = bt457.1 then (if bt454.2.1 = bt457.2.1 then (if (bt454.2.2 != bt457.2.2) = true then (none) else (if (bt454.2.2 != (decide ((t441.length : Int) > 0))) = true then (none) else (if bt454.2.2 = true then ((laws_vHas.f k t441 bt454.1).bind fun t460 => (laws_FnBadlyPlaced.j0 k l0 t441 bt450.1 (!t460) t437)) else (laws_FnBadlyPlaced.j0 k l0 t441 bt450.1 false t437)))) else (none)) else (none)))))) else (none)))) = some r := H
 have A6 := Aside0.mk A60
 clear A60
 by_cases c7 : (t444 != t448) = true
 ·rw [if_pos c7] at H
  exact absurd H (by simp)
 rw [if_neg c7] at H
 have c7b0 : (t444 != t448) = false := by simpa using c7
 (try (have c7b1 : decide (t444 = t448) = true := by simpa using c7))
 (try (have c7b2 : (t444 == t448) = true := by simpa using c7))
 clear c7
 replace H := Option.bind_eq_some_iff.mp H
 obtain ⟨t449, A80, H⟩ := H
 replace H : (if t449 = true then ((impl_SortedStacks.f k t437).bind fun bt450 => (if (bt450.2 != t444) = true then (none) else ((impl_WorstBox.f k t437).bind fun bt454 => ((spec_WorstBox.f k t437).bind fun bt457 => (if bt454.1 = bt457.1 then (if bt454.2.1 = bt457.2.1 then (if (bt454.2.2 != bt457.2.2) = true then (none) else (if (bt454.2.2 != (decide ((t441.length : Int) > 0))) = true then (none) else (if bt454.2.2 = true then ((laws_vHas.f k t441 bt454.1).bind fun t460 => (laws_FnBadlyPlaced.j0 k l0 t441 bt450.1 (!t460) t437)) else (laws_FnBadlyPlaced.j0 k l0 t441 bt450.1 false t437)))) else (none)) else (none)))))) else (none)) = some r := H
 have A8 := Aside0.mk A80
 clear A80
 by_cases c9 : t449 = true
 rotate_left
 ·replace c9 := Bool.eq_false_iff.mpr c9
  subst c9
  have H1 : (none) = some r := by rw [if_neg (show ¬ (false = true) by decide)] at H; exact H
  clear H
  have H := H1
  clear H1
  exact absurd H (by simp)
 subst c9
 have H1 : ((impl_SortedStacks.f k t437).bind fun bt450 => (if (bt450.2 != t444) = true then (none) else ((impl_WorstBox.f k t437).bind fun bt454 => ((spec_WorstBox.f k t437).bind fun bt457 => (if bt454.1 = bt457.1 then (if bt454.2.1 = bt457.2.1 then (if (bt454.2.2 != bt457.2.2) = true then (none) else (if (bt454.2.2 != (decide ((t441.length : Int) > 0))) = true then (none) else (if bt454.2.2 = true then ((laws_vHas.f k t441 bt454.1).bind fun t460 => (laws_FnBadlyPlaced.j0 k l0 t441 bt450.1 (!t460) t437)) else (laws_FnBadlyPlaced.j0 k l0 t441 bt450.1 false t437)))) else (none)) else (none)))))) = some r := by rw [if_pos rfl] at H; exact H
 clear H
 have H := H1
 clear H1
 replace H := Option.bind_eq_some_iff.mp H
 obtain ⟨⟨t450, t453⟩, A100, H⟩ := H
 replace H : (if (t453 != t444) = true then (none) else ((impl_WorstBox.f k t437).bind fun bt454 => ((spec_WorstBox.f k t437).bind fun bt457 => (if bt454.1 = bt457.1 then (if bt454.2.1 = bt457.2.1 then (if (bt454.2.2 != bt457.2.2) = true then (none) else (if (bt454.2.2 != (decide ((t441.length : Int) > 0))) = true then (none) else (if bt454.2.2 = true then ((laws_vHas.f k t441 bt454.1).bind fun t460 => (laws_FnBadlyPlaced.j0 k l0 t441 t450 (!t460) t437)) else (laws_FnBadlyPlaced.j0 k l0 t441 t450 false t437)))) else (none)) else (none))))) = some r := H
 have A10 := Aside0.mk A100
 clear A100
 by_cases c11 : (t453 != t444) = true
 ·rw [if_pos c11] at H
  exact absurd H (by simp)
 rw [if_neg c11] at H
 have c11b0 : (t453 != t444) = false := by simpa using c11
 (try (have c11b1 : decide (t453 = t444) = true := by simpa using c11))
 (try (have c11b2 : (t453 == t444) = true := by simpa using c11))
 clear c11
 replace H := Option.bind_eq_some_iff.mp H
 obtain ⟨⟨t454, t455, t456⟩, A120, H⟩ := H
 replace H : ((spec_WorstBox.f k t437).bind fun bt457 => (if t454 = bt457.1 then (if t455 = bt457.2.1 then (if (t456 != bt457.2.2) = true then (none) else (if (t456 != (decide ((t441.length : Int) > 0))) = true then (none) else (if t456 = true then ((laws_vHas.f k t441 t454).bind fun t460 => (laws_FnBadlyPlaced.j0 k l0 t441 t450 (!t460) t437)) else (laws_FnBadlyPlaced.j0 k l0 t441 t450 false t437)))) else (none)) else (none))) = some r := H
 have A12 := Aside0.mk A120
 clear A120
 replace H := Option.bind_eq_some_iff.mp H
 obtain ⟨⟨t457, t458, t459⟩, A130, H⟩ := H
 replace H : (if t454 = t457 then (if t455 = t458 then (if (t456 != t459) = true then (none) else (if (t456 != (decide ((t441.length : Int) > 0))) = true then (none) else (if t456 = true then ((laws_vHas.f k t441 t454).bind fun t460 => (laws_FnBadlyPlaced.j0 k l0 t441 t450 (!t460) t437)) else (laws_FnBadlyPlaced.j0 k l0 t441 t450 false t437)))) else (none)) else (none)) = some r := H
 have A13 := Aside0.mk A130
 clear A130
 have HC14 := Aside0.mk H
 clear H
 go_enter Try.func3, Try.ntmps3
 go_upto_region 13 with (first | ((with_reducible refine gate_callee (f := 5) rfl ?_); refine goesL_ (some 29) rfl rfl Try.func5 (by kernel_rfl) rfl #[.slice A0 l0.length c0] rfl gmp ?_; (with_reducible refine (laws_vBig.calls _ _ l0 false _ ?side1 ?side2 A2.out).mono ?_); (case side1 => exact cdl HR0.out); (case side2 => exact HC0.out); rintro e w' ⟨rfl, ⟨nd, rfl⟩⟩; refine ⟨_, rfl, ?_⟩) | ((with_reducible refine gate_callee (f := 6) rfl ?_); refine goesL_ (some 31) rfl rfl Try.func6 (by kernel_rfl) rfl #[.slice A0 l0.length c0] rfl gmp ?_; (with_reducible refine (spec_DrawBadlyPlaced.calls k _ _ l0 t437 _ ?side1 ?side2 A4.out).mono ?_); (case side1 => exact cdl HR0.out); (case side2 => exact HC0.out); rintro e w15 ⟨v438, rfl, ho0, hb⟩; refine ⟨_, rfl, ?_⟩; have n0_ := Aside0.mk (Kd.S_lower ho0 (below_size (bel HB))); have n1_ := Aside0.mk (below_step (bel HB) hb); clear HB; have HO439 := n0_; have HB := n1_; clear n0_ n1_; (try clear hb); (try clear hb2); (try clear hk); (try clear hi); (try clear ho0)) | ((with_reducible refine gate_dst (N := 3) rfl ?_); (try (refine gate_guard (by rfl) ?_; dsimp only)); refine box_event ?hg (N := 3) ?hd (cs := #[.slice none 0 0]) (t := 26) ?hr ?_; (case hd => rfl); (case hg => rfl); (case hr => first | (go_simp; done) | (go_simp; rfl)); intro gb440 hg w16 hbox hb; have n0_ := Aside0.mk (Kd.S_below (sdl HO439) hb); have n1_ := Aside0.mk (below_step (bel HB) hb); have n2_ := Aside0.mk (hbox); have n3_ := Aside0.mk ((by rw [hg]; exact (below_size (bel HB)) : w.heap.size ≤ gb440)); have n4_ := Aside0.mk ((by rw [hg]; exact (below_size (bel HB)) : w.heap.size ≤ gb440)); clear HO439; clear HB; have HO439 := n0_; have HB := n1_; have BK440 := n2_; have GW440 := n3_; have GE440 := n4_; clear n0_ n1_ n2_ n3_ n4_; clear hb hbox hg; obtain ⟨Ao17, co17, eo17⟩ := Kd.S_slice HO439.out; subst eo17; have hcz18_0 : w16.cell? ⟨gb440, 0, none⟩ = some (.slice none 0 0) := (blk_cell BK440.out 0).trans rfl; have hfz18_0 := blk_frozen BK440.out 0) | ((with_reducible refine gate_callee (f := 7) rfl ?_); refine goesL_ (some 34) rfl rfl Try.func7 (by kernel_rfl) rfl #[.agg #[.slice Ao17 t437.length co17]] rfl gmp ?_; (with_reducible refine (impl_BadlyPlaced.calls k _ _ t437 t441 t444 _ ?side1 ?side2 A5.out).mono ?_); (case side1 => refine (Kd.S_reads' (e := 28) (base := w.heap.size) (ok := fun k_ => True) (n := t437.length) (c := co17) ?_).2.2; exact (by (with_reducible repeat (first | apply Kd.S_alloc | apply Kd.S_drewN | apply Kd.S_drew)); exact (Kd.S_mono (Kd.S_far (p := ⟨gb440, 0, none⟩) (Kd.S_types HO439.out BK440.out (by decide)) (fun _ hk => hk.2) (.slice Ao17 t437.length co17)) (fun _ h_ => h_.1)))); (case side2 => exact (Kd.S_reads' HO439.out).2.1); rintro e w19 ⟨v442, rfl, ho0, hb⟩; refine ⟨_, rfl, ?_⟩; have n0_ := Aside0.mk (Kd.S_elder' (by (with_reducible repeat (first | apply Kd.S_alloc | apply Kd.S_drewN | apply Kd.S_drew)); exact (Kd.S_mono (Kd.S_far (p := ⟨gb440, 0, none⟩) (Kd.S_types HO439.out BK440.out (by decide)) (fun _ hk => hk.2) (.slice Ao17 t437.length co17)) (fun _ h_ => h_.1))) (Kd.R_base ho0) hb); have n1_ := Aside0.mk (Kd.R_lower ho0 (below_size (bel1 HB GE440))); have n2_ := Aside0.mk (blk_below (g := gb440) (o := .cells #[.slice Ao17 t437.length co17] 26 (0, 0)) (by (with_reducible repeat (first | refine blk_drewN ?_ _ | refine blk_drew ?_ | refine blk_alloc ?_ _)); refine blk_put (cs := #[.slice none 0 0]) ?_ 0 _ rfl; (with_reducible repeat (first | refine blk_drewN ?_ _ | refine blk_drew ?_ | refine blk_alloc ?_ _)); exact BK440.out) hb); have n3_ := Aside0.mk (below_step (bel1 HB GE440) hb); clear HO439; clear BK440; clear HB; have HO439 := n0_; have HO443 := n1_; have BK440 := n2_; have HB := n3_; clear n0_ n1_ n2_ n3_; (try clear hb); (try clear hb2); (try clear hk); (try clear hi); (try clear ho0); have hcz20_0 : w19.cell? ⟨gb440, 0, none⟩ = some (.slice Ao17 t437.length co17) := (blk_cell BK440.out 0).trans rfl; have hfz20_0 := blk_frozen BK440.out 0) | ((with_reducible refine gate_callee (f := 8) rfl ?_); refine goesL_ (some 39) rfl rfl Try.func8 (by kernel_rfl) rfl #[.agg #[.slice Ao17 t437.length co17]] rfl gmp ?_; (with_reducible refine (spec_BadlyPlaced.calls k _ _ t437 t445 t448 _ ?side1 ?side2 A6.out).mono ?_); (case side1 => exact cdl (Kd.S_reads' HO439.out).2.2); (case side2 => exact (Kd.S_reads' HO439.out).2.1); rintro e w21 ⟨v446, rfl, ho0, hb⟩; refine ⟨_, rfl, ?_⟩; have n0_ := Aside0.mk (Kd.S_below (sdl HO439) hb); have n1_ := Aside0.mk (Kd.R_below (rdl HO443) hb); have n2_ := Aside0.mk (Kd.V_lower (Kd.V_mono (ok' := fun k_ => some k_ ≠ (.slice Ao17 t437.length co17 : Value).ownBlock ∧ some k_ ≠ (v442 : Value).ownBlock ∧ k_ ≠ gb440) ho0 (fun k_ hk_ => ⟨(Kd.fresh' (Kd.S_lt (sdl HO439)) k_ hk_), (Kd.fresh' (Kd.R_lt (rdl HO443)) k_ hk_), (Kd.freshB (g := gb440) (o := .cells #[.slice Ao17 t437.length co17] 26 (0, 0)) (bkl BK440) k_ hk_)⟩)) (below_size (bel1 HB GE440))); have n3_ := Aside0.mk (blk_below (g := gb440) (o := .cells #[.slice Ao17 t437.length co17] 26 (0, 0)) (bkl BK440) hb); have n4_ := Aside0.mk (below_step (bel1 HB GE440) hb); clear HO439; clear HO443; clear BK440; clear HB; have HO439 := n0_; have HO443 := n1_; have HO447 := n2_; have BK440 := n3_; have HB := n4_; clear n0_ n1_ n2_ n3_ n4_; (try clear hb); (try clear hb2); (try clear hk); (try clear hi); (try clear ho0); obtain ⟨Ao22, co22, eo22⟩ := Kd.R_slice HO443.out; subst eo22; obtain ⟨Ao23, co23, eo23⟩ := Kd.V_slice HO447.out; subst eo23) | (go_at_call 9; (with_reducible refine (laws_vInts.calls k _ _ t441 _ _ t445 true _ ?side1 ?side2 ?side3 ?side4 A8.out).mono ?_); (case side1 => exact cdl (Kd.R_reads' HO443.out).2.2); (case side2 => exact (Kd.R_reads' HO443.out).2.1); (case side3 => exact cdl (Kd.V_reads' HO447.out).2.2); (case side4 => exact (Kd.V_reads' HO447.out).2.1); rintro e w' ⟨rfl, ⟨nd, rfl⟩⟩; have hcz24_0 : w21.cell? ⟨gb440, 0, none⟩ = some (.slice Ao17 t437.length co17) := (blk_cell BK440.out 0).trans rfl; have hfz24_0 := blk_frozen BK440.out 0) | ((with_reducible refine gate_callee (f := 10) rfl ?_); refine goesL_ (some 53) rfl rfl Try.func10 (by kernel_rfl) rfl #[.agg #[.slice Ao17 t437.length co17]] rfl gmp ?_; (with_reducible refine (impl_SortedStacks.calls k _ _ t437 t450 t453 _ ?side1 ?side2 A10.out).mono ?_); (case side1 => exact cdl (Kd.S_reads' HO439.out).2.2); (case side2 => exact (Kd.S_reads' HO439.out).2.1); rintro e w25 ⟨v451, rfl, ho0, hb⟩; refine ⟨_, rfl, ?_⟩; have n0_ := Aside0.mk (Kd.S_elder' (sdl HO439) (Kd.R_base ho0) hb); have n1_ := Aside0.mk (Kd.R_elder' (rdl HO443) (Kd.R_base ho0) hb); have n2_ := Aside0.mk (Kd.V_elder' (vdl HO447) (Kd.R_base ho0) hb); have n3_ := Aside0.mk (Kd.R_lower (Kd.R_new' ho0 (Kd.R_lt (rdl HO443))) (below_size (bel1 HB GE440))); have n4_ := Aside0.mk (blk_below (g := gb440) (o := .cells #[.slice Ao17 t437.length co17] 26 (0, 0)) (bkl BK440) hb); have n5_ := Aside0.mk (below_step (bel1 HB GE440) hb); clear HO439; clear HO443; clear HO447; clear BK440; clear HB; have HO439 := n0_; have HO443 := n1_; have HO447 := n2_; have HO452 := n3_; have BK440 := n4_; have HB := n5_; clear n0_ n1_ n2_ n3_ n4_ n5_; (try clear hb); (try clear hb2); (try clear hk); (try clear hi); (try clear ho0); have hcz26_0 : w25.cell? ⟨gb440, 0, none⟩ = some (.slice Ao17 t437.length co17) := (blk_cell BK440.out 0).trans rfl; have hfz26_0 := blk_frozen BK440.out 0) | ((with_reducible refine gate_callee (f := 11) rfl ?_); refine goesL_ (some 61) rfl rfl Try.func11 (by kernel_rfl) rfl #[.agg #[.slice Ao17 t437.length co17]] rfl gmp ?_; (with_reducible refine (impl_WorstBox.calls k _ _ t437 t454 t455 t456 _ ?side1 ?side2 A12.out).mono ?_); (case side1 => exact cdl (Kd.S_reads' HO439.out).2.2); (case side2 => exact (Kd.S_reads' HO439.out).2.1); rintro e w27 ⟨rfl, hb⟩; refine ⟨_, rfl, ?_⟩; have n0_ := Aside0.mk (Kd.S_below (sdl HO439) hb); have n1_ := Aside0.mk (Kd.R_below (rdl HO443) hb); have n2_ := Aside0.mk (Kd.V_below (vdl HO447) hb); have n3_ := Aside0.mk (Kd.R_below (rdl HO452) hb); have n4_ := Aside0.mk (blk_below (g := gb440) (o := .cells #[.slice Ao17 t437.length co17] 26 (0, 0)) (bkl BK440) hb); have n5_ := Aside0.mk (below_step (bel1 HB GE440) hb); clear HO439; clear HO443; clear HO447; clear HO452; clear BK440; clear HB; have HO439 := n0_; have HO443 := n1_; have HO447 := n2_; have HO452 := n3_; have BK440 := n4_; have HB := n5_; clear n0_ n1_ n2_ n3_ n4_ n5_; (try clear hb); (try clear hb2); (try clear hk); (try clear hi); have hcz28_0 : w27.cell? ⟨gb440, 0, none⟩ = some (.slice Ao17 t437.length co17) := (blk_cell BK440.out 0).trans rfl; have hfz28_0 := blk_frozen BK440.out 0) | ((with_reducible refine gate_callee (f := 12) rfl ?_); refine goesL_ (some 67) rfl rfl Try.func12 (by kernel_rfl) rfl #[.agg #[.slice Ao17 t437.length co17]] rfl gmp ?_; (with_reducible refine (spec_WorstBox.calls k _ _ t437 t457 t458 t459 _ ?side1 ?side2 A13.out).mono ?_); (case side1 => exact cdl (Kd.S_reads' HO439.out).2.2); (case side2 => exact (Kd.S_reads' HO439.out).2.1); rintro e w29 ⟨rfl, hb⟩; refine ⟨_, rfl, ?_⟩; have n0_ := Aside0.mk (Kd.S_below (sdl HO439) hb); have n1_ := Aside0.mk (Kd.R_below (rdl HO443) hb); have n2_ := Aside0.mk (Kd.V_below (vdl HO447) hb); have n3_ := Aside0.mk (Kd.R_below (rdl HO452) hb); have n4_ := Aside0.mk (blk_below (g := gb440) (o := .cells #[.slice Ao17 t437.length co17] 26 (0, 0)) (bkl BK440) hb); have n5_ := Aside0.mk (below_step (bel1 HB GE440) hb); clear HO439; clear HO443; clear HO447; clear HO452; clear BK440; clear HB; have HO439 := n0_; have HO443 := n1_; have HO447 := n2_; have HO452 := n3_; have BK440 := n4_; have HB := n5_; clear n0_ n1_ n2_ n3_ n4_ n5_; (try clear hb); (try clear hb2); (try clear hk); (try clear hi)))
 (try simp only [Act.put, List.setIfInBounds_toArray, List.set_cons_zero, List.set_cons_succ])
 go_cut [99] (fun v99 wc => ∃ (kq : Nat) (x99_13 : Bool), v99 = .bool x99_13 ∧ Aside0 (laws_FnBadlyPlaced.j0 kq l0 t441 t450 x99_13 t437 = some r) ∧ Aside0 (kq ≤ k) ∧ Aside0 (Kd.R (Kd.int .i64) 3 wc w.heap.size (fun k_ => some k_ ≠ (v451 : Value).ownBlock) (.slice Ao22 t441.length co22) t441) ∧ Aside0 (Kd.R (Kd.int .i64) 3 wc w.heap.size (fun k_ => some k_ ≠ ((.slice Ao22 t441.length co22) : Value).ownBlock) v451 t450) ∧ Aside0 (Kd.S (Kd.slice 3 (Kd.int .i64)) 28 wc w.heap.size (fun k_ => some k_ ≠ ((.slice Ao22 t441.length co22) : Value).ownBlock ∧ some k_ ≠ (v451 : Value).ownBlock) (.slice Ao17 t437.length co17) t437) ∧ Aside0 (wc.heap[gb440]? = some (.cells #[(.slice Ao17 t437.length co17)] 26 (0, 0))) ∧ Aside0 (Below w.heap.size w wc))
 case first =>
  have H := HC14.out
  clear HC14
  by_cases c30 : t454 = t457
  rotate_left
  ·rw [if_neg c30] at H
   exact absurd H (by simp)
  rw [if_pos c30] at H
  have c30b0 : (t454 == t457) = true := beq_iff_eq.mpr c30
  have c30b1 : (t454 != t457) = false := bne_eq_false_iff_eq.mpr c30
  clear c30
  (first | rw [c30b0] | (simp only [i64_w, i32_w]; rw [c30b0]) | skip)
  by_cases c31 : t455 = t458
  rotate_left
  ·rw [if_neg c31] at H
   exact absurd H (by simp)
  rw [if_pos c31] at H
  have c31b0 : (t455 == t458) = true := beq_iff_eq.mpr c31
  have c31b1 : (t455 != t458) = false := bne_eq_false_iff_eq.mpr c31
  clear c31
  by_cases c32 : (t456 != t459) = true
  ·rw [if_pos c32] at H
   exact absurd H (by simp)
  rw [if_neg c32] at H
  have c32b0 : (t456 != t459) = false := by simpa using c32
  (try (have c32b1 : decide (t456 = t459) = true := by simpa using c32))
  (try (have c32b2 : (t456 == t459) = true := by simpa using c32))
  clear c32
  by_cases c33 : (t456 != (decide ((t441.length : Int) > 0))) = true
  ·rw [if_pos c33] at H
   exact absurd H (by simp)
  rw [if_neg c33] at H
  have c33b0 : (t456 != (decide ((t441.length : Int) > 0))) = false := by simpa using c33
  (try (have c33b1 : decide (t456 = (decide ((t441.length : Int) > 0))) = true := by simpa using c33))
  (try (have c33b2 : (t456 == (decide ((t441.length : Int) > 0))) = true := by simpa using c33))
  clear c33
  by_cases c34 : t456 = true
  rotate_left
  ·replace c34 := Bool.eq_false_iff.mpr c34
   subst c34
   have c33n : ¬ 0 < t441.length := by intro hp_; have h_ := c33b0; rw [decide_eq_true (show (t441.length : Int) > 0 by omega)] at h_; exact absurd h_ (by decide)
   have H1 : (laws_FnBadlyPlaced.j0 k l0 t441 t450 false t437) = some r := by rw [if_neg (show ¬ (false = true) by decide)] at H; exact H
   clear H
   have H := H1
   clear H1
   have H' := Aside0.mk H
   clear H
   go_wp2
   go_meet
   case rel => exact ⟨_, (false), (by first | rfl | (simp; done) | (simp [*]; done)), H', ⟨by first | omega | exact Nat.le_refl _⟩, ⟨by (with_reducible repeat (first | apply Kd.R_alloc | apply Kd.R_drewN | apply Kd.R_drew)); exact Kd.R_mono HO443.out (fun _ hk => hk.2)⟩, ⟨by (with_reducible repeat (first | apply Kd.R_alloc | apply Kd.R_drewN | apply Kd.R_drew)); exact Kd.R_mono HO452.out (fun _ hk => hk.2)⟩, ⟨by (with_reducible repeat (first | apply Kd.S_alloc | apply Kd.S_drewN | apply Kd.S_drew)); exact Kd.S_mono HO439.out (fun _ hk => ⟨hk.1.2, hk.2⟩)⟩, ⟨bkl BK440⟩, ⟨bel1 HB GE440⟩⟩
  subst c34
  have c33n : 0 < t441.length := by
   rcases Nat.eq_zero_or_pos t441.length with h0_ | h0_
   ·exfalso; have h_ := c33b0; rw [decide_eq_false (show ¬ (t441.length : Int) > 0 by omega)] at h_; exact absurd h_ (by decide)
   ·exact h0_
  have H1 : ((laws_vHas.f k t441 t454).bind fun t460 => (laws_FnBadlyPlaced.j0 k l0 t441 t450 (!t460) t437)) = some r := by rw [if_pos rfl] at H; exact H
  clear H
  have H := H1
  clear H1
  replace H := Option.bind_eq_some_iff.mp H
  obtain ⟨t460, A350, H⟩ := H
  replace H : (laws_FnBadlyPlaced.j0 k l0 t441 t450 (!t460) t437) = some r := H
  have A35 := Aside0.mk A350
  clear A350
  have H' := Aside0.mk H
  clear H
  go_wp2_with (first | (go_at_call 13; (with_reducible refine (laws_vHas.calls k _ _ t441 t454 t460 _ ?side1 ?side2 A35.out).mono ?_); (case side1 => exact cdl (Kd.R_reads' HO443.out).2.2); (case side2 => exact (Kd.R_reads' HO443.out).2.1); rintro e w' ⟨rfl, ⟨nd, rfl⟩⟩))
  go_meet
  case rel => exact ⟨_, (!t460), (by first | rfl | (simp; done) | (simp [*]; done)), H', ⟨by first | omega | exact Nat.le_refl _⟩, ⟨by (with_reducible repeat (first | apply Kd.R_alloc | apply Kd.R_drewN | apply Kd.R_drew)); exact Kd.R_mono HO443.out (fun _ hk => hk.2)⟩, ⟨by (with_reducible repeat (first | apply Kd.R_alloc | apply Kd.R_drewN | apply Kd.R_drew)); exact Kd.R_mono HO452.out (fun _ hk => hk.2)⟩, ⟨by (with_reducible repeat (first | apply Kd.S_alloc | apply Kd.S_drewN | apply Kd.S_drew)); exact Kd.S_mono HO439.out (fun _ hk => ⟨hk.1.2, hk.2⟩)⟩, ⟨bkl BK440⟩, ⟨bel1 HB GE440⟩⟩
 clear HC14
 try clear c1
 try clear p2
 try clear c3
 try clear c5
 try clear c6
 try clear c7
 try clear c7b0
 try clear c7b1
 try clear c7b2
 try clear c8
 try clear c9
 try clear c10
 try clear c11
 try clear c11b0
 try clear c11b1
 try clear c11b2
 try clear c12
 try clear c30
 try clear c30b0
 try clear c30b1
 try clear c31
 try clear c31b0
 try clear c31b1
 try clear c32
 try clear c32b0
 try clear c32b1
 try clear c32b2
 try clear c33
 try clear c33b0
 try clear c33b1
 try clear c33b2
 try clear c34
 try clear hcz18_0
 try clear hcz20_0
 try clear hcz24_0
 try clear hcz26_0
 try clear hcz28_0
 try clear hfz18_0
 try clear hfz20_0
 try clear hfz24_0
 try clear hfz26_0
 try clear hfz28_0
 obtain ⟨kq, x99_13, rfl, HA, HJ13, HO_4, HO_8, HO_441000, BK440, HB⟩ := hcut
 cases kq with
 | zero => exact absurd HA.out (by simp [laws_FnBadlyPlaced.j0])
 | succ kj13 =>
  have H := HA.out
  clear HA
  simp only [laws_FnBadlyPlaced.j0] at H
  by_cases c36 : x99_13 = true
  ·subst c36
   have H1 : (none) = some r := by rw [if_pos rfl] at H; exact H
   clear H
   have H := H1
   clear H1
   exact absurd H (by simp)
  replace c36 := Bool.eq_false_iff.mpr c36
  subst c36
  have H1 : (laws_FnBadlyPlaced.l0 kj13 l0 t441 t450 0 t437) = some r := by rw [if_neg (show ¬ (false = true) by decide)] at H; exact H
  clear H
  have H := H1
  clear H1
  have H' := Aside0.mk H
  clear H
  go_wp2
  go_loopg [16] kj13 (fun kq v16 w' => ∃ (x16_2 : Int), v16 = .int .i64 x16_2 ∧ Aside0 (laws_FnBadlyPlaced.l0 kq l0 t441 t450 x16_2 t437 = some r) ∧ Aside0 (kq ≤ kj13) ∧ Aside0 (Kd.R (Kd.int .i64) 3 w' w.heap.size (fun k_ => some k_ ≠ (v451 : Value).ownBlock) (.slice Ao22 t441.length co22) t441) ∧ Aside0 (Kd.R (Kd.int .i64) 3 w' w.heap.size (fun k_ => some k_ ≠ ((.slice Ao22 t441.length co22) : Value).ownBlock) v451 t450) ∧ Aside0 (Kd.S (Kd.slice 3 (Kd.int .i64)) 28 w' w.heap.size (fun k_ => some k_ ≠ ((.slice Ao22 t441.length co22) : Value).ownBlock ∧ some k_ ≠ (v451 : Value).ownBlock) (.slice Ao17 t437.length co17) t437) ∧ Aside0 (w'.heap[gb440]? = some (.cells #[(.slice Ao17 t437.length co17)] 26 (0, 0))) ∧ Aside0 (Below w.heap.size w w'))
  case atStart => exact ⟨(0), (by first | rfl | (simp; done) | (simp [*]; done)), H', ⟨Nat.le_refl _⟩, ⟨rdl HO_4⟩, ⟨rdl HO_8⟩, ⟨sdl HO_441000⟩, ⟨bkl BK440⟩, ⟨bel1 HB GE440⟩⟩
  clear H'
  try clear c1
  try clear p2
  try clear c3
  try clear c5
  try clear c6
  try clear c7
  try clear c7b0
  try clear c7b1
  try clear c7b2
  try clear c8
  try clear c9
  try clear c10
  try clear c11
  try clear c11b0
  try clear c11b1
  try clear c11b2
  try clear c12
  try clear c30
  try clear c30b0
  try clear c30b1
  try clear c31
  try clear c31b0
  try clear c31b1
  try clear c32
  try clear c32b0
  try clear c32b1
  try clear c32b2
  try clear c33
  try clear c33b0
  try clear c33b1
  try clear c33b2
  try clear c34
  try clear c36
  try clear hcz18_0
  try clear hcz20_0
  try clear hcz24_0
  try clear hcz26_0
  try clear hcz28_0
  try clear hfz18_0
  try clear hfz20_0
  try clear hfz24_0
  try clear hfz26_0
  try clear hfz28_0
  try clear p2
  obtain ⟨x16_2, rfl, HA, HK2, HO_4, HO_8, HO_441000, BK440, HB⟩ := hrel
  cases gk with
  | zero => exact absurd HA.out (by simp [laws_FnBadlyPlaced.l0])
  | succ k2 =>
   have H := HA.out
   clear HA
   simp only [laws_FnBadlyPlaced.l0] at H
   by_cases c37 : x16_2 < (t441.length : Int)
   ·rw [if_pos c37] at H
    have c37b0 : decide (x16_2 < (t441.length : Int)) = true := decide_eq_true c37
    clear c37
    by_cases c38 : 0 ≤ x16_2
    rotate_left
    ·rw [if_neg c38] at H
     exact absurd H (by simp)
    rw [if_pos c38] at H
    have c38b0 : decide (0 ≤ x16_2) = true := decide_eq_true c38
    clear c38
    replace H := Option.bind_eq_some_iff.mp H
    obtain ⟨⟨t462, t463, t464⟩, A390, H⟩ := H
    replace H : (if t464 = true then ((laws_vHas.f k2 t450 t462).bind fun t465 => (if t465 = true then (none) else (laws_FnBadlyPlaced.l0 k2 l0 t441 t450 (wrap64 (x16_2 + 1)) t437))) else (none)) = some r := H
    have A39 := Aside0.mk A390
    clear A390
    by_cases c40 : t464 = true
    rotate_left
    ·replace c40 := Bool.eq_false_iff.mpr c40
     subst c40
     have H1 : (none) = some r := by rw [if_neg (show ¬ (false = true) by decide)] at H; exact H
     clear H
     have H := H1
     clear H1
     exact absurd H (by simp)
    subst c40
    have H1 : ((laws_vHas.f k2 t450 t462).bind fun t465 => (if t465 = true then (none) else (laws_FnBadlyPlaced.l0 k2 l0 t441 t450 (wrap64 (x16_2 + 1)) t437))) = some r := by rw [if_pos rfl] at H; exact H
    clear H
    have H := H1
    clear H1
    replace H := Option.bind_eq_some_iff.mp H
    obtain ⟨t465, A410, H⟩ := H
    replace H : (if t465 = true then (none) else (laws_FnBadlyPlaced.l0 k2 l0 t441 t450 (wrap64 (x16_2 + 1)) t437)) = some r := H
    have A41 := Aside0.mk A410
    clear A410
    by_cases c42 : t465 = true
    ·subst c42
     have H1 : (none) = some r := by rw [if_pos rfl] at H; exact H
     clear H
     have H := H1
     clear H1
     exact absurd H (by simp)
    replace c42 := Bool.eq_false_iff.mpr c42
    subst c42
    have H1 : (laws_FnBadlyPlaced.l0 k2 l0 t441 t450 (wrap64 (x16_2 + 1)) t437) = some r := by rw [if_neg (show ¬ (false = true) by decide)] at H; exact H
    clear H
    have H := H1
    clear H1
    have H' := Aside0.mk H
    clear H
    try go_wp2
    have n0_ := Aside0.mk (Kd.R_drew HO_4.out)
    have n1_ := Aside0.mk (Kd.R_drew HO_8.out)
    have n2_ := Aside0.mk (Kd.S_drew HO_441000.out)
    have n3_ := Aside0.mk (blk_drew BK440.out)
    have n4_ := Aside0.mk (below_drew1 HB.out)
    clear HO_4 HO_8 HO_441000 BK440 HB
    have HO_4 := n0_
    have HO_8 := n1_
    have HO_441000 := n2_
    have BK440 := n3_
    have HB := n4_
    clear n0_ n1_ n2_ n3_ n4_
    have p461 : 0 ≤ (x16_2 : Int) := oda
    have q461 : x16_2 < (t441.length : Int) := oda
    obtain ⟨ad461, e461, hx461_0⟩ := Kd.at_int (Kd.R_reads' HO_4.out).2.2 x16_2 p461 q461
    cases e461
    replace p461 := eq_true p461
    replace q461 := eq_true q461
    refine start_ (n := 13) (S := fun w' => w'.cell? ⟨gb440, 0, none⟩ = some (.slice Ao17 t437.length co17) ∧ w'.cell? (ad461.add (x16_2).toNat) = some (.int .i64 (rd t441 x16_2))) (ds := []) #[false, false, false, false, false, false, false, false, false, false, false, false, false] (by kernel_rfl) rfl rfl ⟨(blk_cell BK440.out 0).trans rfl, hx461_0⟩ (fun hHeld => ?_); refine with_tabW laws_FnBadlyPlaced.tab18 laws_FnBadlyPlaced.bits18 (fun HT_ HW_ => ?_)
    generalize wr.drew = w43 at HO_4 HO_8 HO_441000 BK440 HB hx461_0 hHeld ⊢
    refine pure_ (i := 1) (N := some 108) (v := ?_) (a' := ?_) #[false, true, false, false, false, false, false, false, false, false, false, false, false] rfl rfl (any_of HT_.out (by kernel_rfl)) (fun _ _ _ h => h) (Or.inl ⟨by rfl, ?_⟩) ?_ ?_
    rotate_left
    ·intro w'
     go_simp
     with_reducible rfl
    rotate_left
    ·simp only [putS]
     rfl
    refine pure_ (i := 2) (N := some 109) (v := ?_) (a' := ?_) #[false, true, true, false, false, false, false, false, false, false, false, false, false] rfl rfl (any_of HT_.out (by kernel_rfl)) (fun _ _ _ h => h) (Or.inl ⟨by rfl, ?_⟩) ?_ ?_
    rotate_left
    ·intro w'
     go_simp
     with_reducible rfl
    rotate_left
    ·simp only [putS]
     rfl
    refine pure_ (i := 3) (N := some 110) (v := ?_) (a' := ?_) #[false, true, true, true, false, false, false, false, false, false, false, false, false] rfl rfl (any_of HT_.out (by kernel_rfl)) (fun _ _ _ h => h) (Or.inl ⟨by rfl, ?_⟩) ?_ ?_
    rotate_left
    ·intro w'
     go_simp
     with_reducible rfl
    rotate_left
    ·simp only [putS]
     rfl
    refine take_ (i := 0) (N := some 107) (v := ?_) (a' := ?_) #[true, true, true, true, false, false, false, false, false, false, false, false, false] rfl rfl (take_ofW HT_.out HW_.out (by kernel_rfl)) (fun _ _ _ h => h) (Or.inl ⟨by rfl, ?_⟩) hHeld ?_ ?_
    rotate_left
    ·rintro w' ⟨s0, s1⟩
     go_simp
     with_reducible rfl
    rotate_left
    ·simp only [putS]
     rfl
    refine take_ (i := 4) (N := some 111) (v := ?_) (a' := ?_) #[true, true, true, true, true, false, false, false, false, false, false, false, false] rfl rfl (take_ofW HT_.out HW_.out (by kernel_rfl)) (fun _ _ _ h => h) (Or.inl ⟨by rfl, ?_⟩) hHeld ?_ ?_
    rotate_left
    ·rintro w' ⟨s0, s1⟩
     go_simp
     with_reducible rfl
    rotate_left
    ·simp only [putS]
     rfl
    refine one_ (i := 5) (N := some 112) #[true, true, true, true, true, true, false, false, false, false, false, false, false] rfl rfl (one_of HT_.out (by kernel_rfl)) (by decide) (fun K hK => ?_)
    refine goes_ Try.func14 (by kernel_rfl) rfl #[.agg #[.slice Ao17 t437.length co17], .int .i64 (rd t441 x16_2)] (by rfl) rfl rfl gmp ?_
    with_reducible refine (impl_PlaceOf.calls k2 _ _ t437 (rd t441 x16_2) t462 t463 true _ ?side1 ?side2 A39.out).mono ?_
    (case side1 => exact cdl (Kd.S_reads' HO_441000.out).2.2)
    (case side2 => exact (Kd.S_reads' HO_441000.out).2.1)
    rintro e w44 ⟨rfl, hb⟩
    have HS1_ := (hb.cell (World.block_lt_of_cell? _ _ (hHeld.2))).trans (hHeld.2)
    refine ⟨_, rfl, ?_⟩
    have n0_ := Aside0.mk (Kd.R_below (rdl HO_4) hb)
    have n1_ := Aside0.mk (Kd.R_below (rdl HO_8) hb)
    have n2_ := Aside0.mk (Kd.S_below (sdl HO_441000) hb)
    have n3_ := Aside0.mk (blk_below (g := gb440) (o := .cells #[.slice Ao17 t437.length co17] 26 (0, 0)) (bkl BK440) hb)
    have n4_ := Aside0.mk (below_step (bel1 HB GE440) hb)
    clear HO_4 HO_8 HO_441000 BK440 HB
    have HO_4 := n0_
    have HO_8 := n1_
    have HO_441000 := n2_
    have BK440 := n3_
    have HB := n4_
    clear n0_ n1_ n2_ n3_ n4_
    (try clear hb)
    (try clear hb2)
    (try clear hk)
    (try clear hi)
    refine hK.out _ _ ⟨(blk_cell BK440.out 0).trans rfl, HS1_⟩ (fun hHeld => ?_)
    clear hK K
    refine norm_ (a' := ?_) ?_ ?_
    rotate_left
    ·show Act.put _ (some 112) _ = _
     simp only [putS]
     rfl
    refine pure_ (i := 6) (N := some 106) (v := ?_) (a' := ?_) #[true, true, true, true, true, true, true, false, false, false, false, false, false] rfl rfl (any_of HT_.out (by kernel_rfl)) (fun _ _ _ h => h) (Or.inl ⟨by rfl, ?_⟩) ?_ ?_
    rotate_left
    ·intro w'
     go_simp
     with_reducible rfl
    rotate_left
    ·simp only [putS]
     rfl
    refine pure_ (i := 7) (N := some 113) (v := ?_) (a' := ?_) #[true, true, true, true, true, true, true, true, false, false, false, false, false] rfl rfl (any_of HT_.out (by kernel_rfl)) (fun _ _ _ h => h) (Or.inl ⟨by rfl, ?_⟩) ?_ ?_
    rotate_left
    ·intro w'
     go_simp
     with_reducible rfl
    rotate_left
    ·simp only [putS]
     rfl
    refine pure_ (i := 8) (N := some 114) (v := ?_) (a' := ?_) #[true, true, true, true, true, true, true, true, true, false, false, false, false] rfl rfl (any_of HT_.out (by kernel_rfl)) (fun _ _ _ h => h) (Or.inl ⟨by rfl, ?_⟩) ?_ ?_
    rotate_left
    ·intro w'
     go_simp
     with_reducible rfl
    rotate_left
    ·simp only [putS]
     rfl
    refine pure_ (i := 9) (N := some 115) (v := ?_) (a' := ?_) #[true, true, true, true, true, true, true, true, true, true, false, false, false] rfl rfl (any_of HT_.out (by kernel_rfl)) (fun _ _ _ h => h) (Or.inl ⟨by rfl, ?_⟩) ?_ ?_
    rotate_left
    ·intro w'
     go_simp
     with_reducible rfl
    rotate_left
    ·simp only [putS]
     rfl
    refine pure_ (i := 10) (N := some 17) (v := ?_) (a' := ?_) #[true, true, true, true, true, true, true, true, true, true, true, false, false] rfl rfl (any_of HT_.out (by kernel_rfl)) (fun _ _ _ h => h) (Or.inl ⟨by rfl, ?_⟩) ?_ ?_
    rotate_left
    ·intro w'
     go_simp
     with_reducible rfl
    rotate_left
    ·simp only [putS]
     rfl
    refine pure_ (i := 11) (N := some 18) (v := ?_) (a' := ?_) #[true, true, true, true, true, true, true, true, true, true, true, true, false] rfl rfl (any_of HT_.out (by kernel_rfl)) (fun _ _ _ h => h) (Or.inl ⟨by rfl, ?_⟩) ?_ ?_
    rotate_left
    ·intro w'
     go_simp
     with_reducible rfl
    rotate_left
    ·simp only [putS]
     rfl
    refine pure_ (i := 12) (N := some 19) (v := ?_) (a' := ?_) #[true, true, true, true, true, true, true, true, true, true, true, true, true] rfl rfl (any_of HT_.out (by kernel_rfl)) (fun _ _ _ h => h) (Or.inl ⟨by rfl, ?_⟩) ?_ ?_
    rotate_left
    ·intro w'
     go_simp
     with_reducible rfl
    rotate_left
    ·simp only [putS]
     rfl
    refine done_ (done_of HT_.out (by kernel_rfl)) ?_
    obtain ⟨Ao45, co45, eo45⟩ := Kd.R_slice HO_8.out
    subst eo45
    try go_wp2_with (first | (go_at_call 13; (with_reducible refine (laws_vHas.calls k2 _ _ t450 t462 false _ ?side1 ?side2 A41.out).mono ?_); (case side1 => exact cdl (Kd.R_reads' HO_8.out).2.2); (case side2 => exact (Kd.R_reads' HO_8.out).2.1); rintro e w' ⟨rfl, ⟨nd, rfl⟩⟩))
    go_roundg k2
    case measure => have := HJ13.out; have := HK2.out; omega
    case rel => exact ⟨(wrap64 (x16_2 + 1)), (by first | rfl | (simp; done) | (simp [*]; done)), H', ⟨by have := HJ13.out; have := HK2.out; omega⟩, ⟨rdl HO_4⟩, ⟨rdl HO_8⟩, ⟨sdl HO_441000⟩, ⟨bkl BK440⟩, ⟨bel1 HB GE440⟩⟩
   rw [if_neg c37] at H
   have c37b0 : decide (x16_2 < (t441.length : Int)) = false := decide_eq_false c37
   clear c37
   replace H := Option.bind_eq_some_iff.mp H
   obtain ⟨⟨t466, t469⟩, A460, H⟩ := H
   replace H : ((impl_ChooseStack.f k2 t466 t469).bind fun bt471 => ((spec_ChooseStack.f k2 t466 t469).bind fun bt473 => (if bt471.1 = bt473.1 then (if (bt471.2 != bt473.2) = true then (none) else (if bt471.2 = true then ((impl_EarliestOf.f t466 bt471.1).bind fun bt475 => (if bt475.2 = true then (if bt475.1 < 1 then (none) else (if bt475.1 > 100 then (none) else (some true))) else (none))) else (some true))) else (none)))) = some r := H
   have A46 := Aside0.mk A460
   clear A460
   replace H := Option.bind_eq_some_iff.mp H
   obtain ⟨⟨t471, t472⟩, A470, H⟩ := H
   replace H : ((spec_ChooseStack.f k2 t466 t469).bind fun bt473 => (if t471 = bt473.1 then (if (t472 != bt473.2) = true then (none) else (if t472 = true then ((impl_EarliestOf.f t466 t471).bind fun bt475 => (if bt475.2 = true then (if bt475.1 < 1 then (none) else (if bt475.1 > 100 then (none) else (some true))) else (none))) else (some true))) else (none))) = some r := H
   have A47 := Aside0.mk A470
   clear A470
   replace H := Option.bind_eq_some_iff.mp H
   obtain ⟨⟨t473, t474⟩, A480, H⟩ := H
   replace H : (if t471 = t473 then (if (t472 != t474) = true then (none) else (if t472 = true then ((impl_EarliestOf.f t466 t471).bind fun bt475 => (if bt475.2 = true then (if bt475.1 < 1 then (none) else (if bt475.1 > 100 then (none) else (some true))) else (none))) else (some true))) else (none)) = some r := H
   have A48 := Aside0.mk A480
   clear A480
   by_cases c49 : t471 = t473
   rotate_left
   ·rw [if_neg c49] at H
    exact absurd H (by simp)
   rw [if_pos c49] at H
   have c49b0 : (t471 == t473) = true := beq_iff_eq.mpr c49
   have c49b1 : (t471 != t473) = false := bne_eq_false_iff_eq.mpr c49
   clear c49
   by_cases c50 : (t472 != t474) = true
   ·rw [if_pos c50] at H
    exact absurd H (by simp)
   rw [if_neg c50] at H
   have c50b0 : (t472 != t474) = false := by simpa using c50
   (try (have c50b1 : decide (t472 = t474) = true := by simpa using c50))
   (try (have c50b2 : (t472 == t474) = true := by simpa using c50))
   clear c50
   by_cases c51 : t472 = true
   rotate_left
   ·replace c51 := Bool.eq_false_iff.mpr c51
    subst c51
    have H1 : (some true) = some r := by rw [if_neg (show ¬ (false = true) by decide)] at H; exact H
    clear H
    have H := H1
    clear H1
    obtain rfl := Option.some.inj H
    go_wp2_with (first | ((with_reducible refine gate_callee (f := 15) rfl ?_); refine goesL_ (some 125) rfl rfl Try.func15 (by kernel_rfl) rfl #[.slice A0 l0.length c0] rfl gmp ?_; (with_reducible refine (spec_DrawChooseStack.calls k2 _ _ l0 t466 t469 _ ?side1 ?side2 A46.out).mono ?_); (case side1 => exact cdl (Kd.C_below HR0.out HB.out)); (case side2 => exact HC0.out); rintro e w66 ⟨v467, rfl, ho0, hb⟩; refine ⟨_, rfl, ?_⟩; have n0_ := Aside0.mk (Kd.R_below (rdl HO_4) hb); have n1_ := Aside0.mk (Kd.R_below (rdl HO_8) hb); have n2_ := Aside0.mk (Kd.S_elder' (sdl HO_441000) (Kd.S_base ho0) hb); have n3_ := Aside0.mk (Kd.S_lower (Kd.S_new' (Kd.S_new' (Kd.S_new' ho0 (Kd.R_lt (rdl HO_4))) (Kd.R_lt (rdl HO_8))) (Kd.S_lt (sdl HO_441000))) (below_size (bel1 HB GE440))); have n4_ := Aside0.mk (blk_below (g := gb440) (o := .cells #[.slice Ao17 t437.length co17] 26 (0, 0)) (bkl BK440) hb); have n5_ := Aside0.mk (below_step (bel1 HB GE440) hb); clear HO_4; clear HO_8; clear HO_441000; clear BK440; clear HB; have HO_4 := n0_; have HO_8 := n1_; have HO_441000 := n2_; have HO468 := n3_; have BK440 := n4_; have HB := n5_; clear n0_ n1_ n2_ n3_ n4_ n5_; (try clear hb); (try clear hb2); (try clear hk); (try clear hi); (try clear ho0)) | ((with_reducible refine gate_dst (N := 20) rfl ?_); (try (refine gate_guard (by rfl) ?_; dsimp only)); refine box_event ?hg (N := 20) ?hd (cs := #[.slice none 0 0]) (t := 26) ?hr ?_; (case hd => rfl); (case hg => rfl); (case hr => first | (go_simp; done) | (go_simp; rfl)); intro gb470 hg w67 hbox hb; have n0_ := Aside0.mk (Kd.R_below (rdl HO_4) hb); have n1_ := Aside0.mk (Kd.R_below (rdl HO_8) hb); have n2_ := Aside0.mk (Kd.S_below (sdl HO_441000) hb); have n3_ := Aside0.mk (Kd.S_below (sdl HO468) hb); have n4_ := Aside0.mk (blk_below (g := gb440) (o := .cells #[.slice Ao17 t437.length co17] 26 (0, 0)) (bkl BK440) hb); have n5_ := Aside0.mk (below_step (bel1 HB GE440) hb); have n6_ := Aside0.mk (hbox); have n7_ := Aside0.mk ((by rw [hg]; exact (below_size (bel1 HB GE440)) : w.heap.size ≤ gb470)); have n8_ := Aside0.mk ((by rw [hg]; exact (below_size (bel1 HB GE440)) : w.heap.size ≤ gb470)); have n9_ := Aside0.mk ((by rw [hg]; exact Nat.ne_of_lt (blk_lt (g := gb440) (o := .cells #[.slice Ao17 t437.length co17] 26 (0, 0)) (bkl BK440)) : gb440 ≠ gb470)); have n10_ := Aside0.mk ((by rw [hg]; exact Nat.ne_of_gt (blk_lt (g := gb440) (o := .cells #[.slice Ao17 t437.length co17] 26 (0, 0)) (bkl BK440)) : gb470 ≠ gb440)); clear HO_4; clear HO_8; clear HO_441000; clear HO468; clear BK440; clear HB; have HO_4 := n0_; have HO_8 := n1_; have HO_441000 := n2_; have HO468 := n3_; have BK440 := n4_; have HB := n5_; have BK470 := n6_; have GW470 := n7_; have GE470 := n8_; have NB440_470 := n9_; have NB470_440 := n10_; clear n0_ n1_ n2_ n3_ n4_ n5_ n6_ n7_ n8_ n9_ n10_; clear hb hbox hg; obtain ⟨Ao68, co68, eo68⟩ := Kd.S_slice HO468.out; subst eo68; have hnb69 := NB470_440.out; have hnc69 := NB440_470.out; have hcz70_0 : w67.cell? ⟨gb470, 0, none⟩ = some (.slice none 0 0) := (blk_cell BK470.out 0).trans rfl; have hfz70_0 := blk_frozen BK470.out 0) | ((with_reducible refine gate_callee (f := 16) rfl ?_); refine goesL_ (some 131) rfl rfl Try.func16 (by kernel_rfl) rfl #[.agg #[.slice Ao68 t466.length co68], .int .i64 t469] rfl gmp ?_; (with_reducible refine (impl_ChooseStack.calls k2 _ _ t466 t469 t471 false _ ?side1 ?side2 A47.out).mono ?_); (case side1 => refine (Kd.S_reads' (e := 28) (base := w.heap.size) (ok := fun k_ => (((True ∧ some k_ ≠ (.slice Ao22 t441.length co22 : Value).ownBlock) ∧ some k_ ≠ (v451 : Value).ownBlock) ∧ some k_ ≠ (.slice Ao17 t437.length co17 : Value).ownBlock)) (n := t466.length) (c := co68) ?_).2.2; exact (by (with_reducible repeat (first | apply Kd.S_alloc | apply Kd.S_drewN | apply Kd.S_drew)); exact (Kd.S_mono (Kd.S_far (p := ⟨gb470, 0, none⟩) (Kd.S_types HO468.out BK470.out (by decide)) (fun _ hk => hk.2) (.slice Ao68 t466.length co68)) (fun _ h_ => h_.1)))); (case side2 => exact (Kd.S_reads' HO468.out).2.1); rintro e w71 ⟨rfl, hb⟩; refine ⟨_, rfl, ?_⟩; have n0_ := Aside0.mk (Kd.R_below (by (with_reducible repeat (first | apply Kd.R_alloc | apply Kd.R_drewN | apply Kd.R_drew)); exact (Kd.R_mono (Kd.R_far (p := ⟨gb470, 0, none⟩) (Kd.R_types HO_4.out BK470.out (by decide)) (fun _ hk => hk.2) (.slice Ao68 t466.length co68)) (fun _ h_ => h_.1))) hb); have n1_ := Aside0.mk (Kd.R_below (by (with_reducible repeat (first | apply Kd.R_alloc | apply Kd.R_drewN | apply Kd.R_drew)); exact (Kd.R_mono (Kd.R_far (p := ⟨gb470, 0, none⟩) (Kd.R_types HO_8.out BK470.out (by decide)) (fun _ hk => hk.2) (.slice Ao68 t466.length co68)) (fun _ h_ => h_.1))) hb); have n2_ := Aside0.mk (Kd.S_below (by (with_reducible repeat (first | apply Kd.S_alloc | apply Kd.S_drewN | apply Kd.S_drew)); exact (Kd.S_mono (Kd.S_far (p := ⟨gb470, 0, none⟩) (Kd.S_types HO_441000.out BK470.out (by decide)) (fun _ hk => hk.2) (.slice Ao68 t466.length co68)) (fun _ h_ => h_.1))) hb); have n3_ := Aside0.mk (Kd.S_below (by (with_reducible repeat (first | apply Kd.S_alloc | apply Kd.S_drewN | apply Kd.S_drew)); exact (Kd.S_mono (Kd.S_far (p := ⟨gb470, 0, none⟩) (Kd.S_types HO468.out BK470.out (by decide)) (fun _ hk => hk.2) (.slice Ao68 t466.length co68)) (fun _ h_ => h_.1))) hb); have n4_ := Aside0.mk (blk_below (g := gb440) (o := .cells #[.slice Ao17 t437.length co17] 26 (0, 0)) (by (with_reducible repeat (first | refine blk_drewN ?_ _ | refine blk_drew ?_ | refine blk_alloc ?_ _)); refine blk_far ?_ NB440_470.out _; (with_reducible repeat (first | refine blk_drewN ?_ _ | refine blk_drew ?_ | refine blk_alloc ?_ _)); exact BK440.out) hb); have n5_ := Aside0.mk (blk_below (g := gb470) (o := .cells #[.slice Ao68 t466.length co68] 26 (0, 0)) (by (with_reducible repeat (first | refine blk_drewN ?_ _ | refine blk_drew ?_ | refine blk_alloc ?_ _)); refine blk_put (cs := #[.slice none 0 0]) ?_ 0 _ rfl; (with_reducible repeat (first | refine blk_drewN ?_ _ | refine blk_drew ?_ | refine blk_alloc ?_ _)); exact BK470.out) hb); have n6_ := Aside0.mk (below_step (bel2 HB GE440 GE470) hb); clear HO_4; clear HO_8; clear HO_441000; clear HO468; clear BK440; clear BK470; clear HB; have HO_4 := n0_; have HO_8 := n1_; have HO_441000 := n2_; have HO468 := n3_; have BK440 := n4_; have BK470 := n5_; have HB := n6_; clear n0_ n1_ n2_ n3_ n4_ n5_ n6_; (try clear hb); (try clear hb2); (try clear hk); (try clear hi); have hcz72_0 : w71.cell? ⟨gb470, 0, none⟩ = some (.slice Ao68 t466.length co68) := (blk_cell BK470.out 0).trans rfl; have hfz72_0 := blk_frozen BK470.out 0) | ((with_reducible refine gate_callee (f := 17) rfl ?_); refine goesL_ (some 137) rfl rfl Try.func17 (by kernel_rfl) rfl #[.agg #[.slice Ao68 t466.length co68], .int .i64 t469] rfl gmp ?_; (with_reducible refine (spec_ChooseStack.calls k2 _ _ t466 t469 t473 t474 _ ?side1 ?side2 A48.out).mono ?_); (case side1 => exact cdl (Kd.S_reads' HO468.out).2.2); (case side2 => exact (Kd.S_reads' HO468.out).2.1); rintro e w73 ⟨rfl, hb⟩; refine ⟨_, rfl, ?_⟩; have n0_ := Aside0.mk (Kd.R_below (rdl HO_4) hb); have n1_ := Aside0.mk (Kd.R_below (rdl HO_8) hb); have n2_ := Aside0.mk (Kd.S_below (sdl HO_441000) hb); have n3_ := Aside0.mk (Kd.S_below (sdl HO468) hb); have n4_ := Aside0.mk (blk_below (g := gb440) (o := .cells #[.slice Ao17 t437.length co17] 26 (0, 0)) (bkl BK440) hb); have n5_ := Aside0.mk (blk_below (g := gb470) (o := .cells #[.slice Ao68 t466.length co68] 26 (0, 0)) (bkl BK470) hb); have n6_ := Aside0.mk (below_step (bel2 HB GE440 GE470) hb); clear HO_4; clear HO_8; clear HO_441000; clear HO468; clear BK440; clear BK470; clear HB; have HO_4 := n0_; have HO_8 := n1_; have HO_441000 := n2_; have HO468 := n3_; have BK440 := n4_; have BK470 := n5_; have HB := n6_; clear n0_ n1_ n2_ n3_ n4_ n5_ n6_; (try clear hb); (try clear hb2); (try clear hk); (try clear hi)))
    go_ret
    exact ⟨by first | rfl | (simp [errW_none, errW_some] <;> rfl) | (simp [*, errW_none, errW_some] <;> rfl), bel2 HB GE440 GE470⟩
   subst c51
   have H1 : ((impl_EarliestOf.f t466 t471).bind fun bt475 => (if bt475.2 = true then (if bt475.1 < 1 then (none) else (if bt475.1 > 100 then (none) else (some true))) else (none))) = some r := by rw [if_pos rfl] at H; exact H
   clear H
   have H := H1
   clear H1
   replace H := Option.bind_eq_some_iff.mp H
   obtain ⟨⟨t475, t476⟩, A520, H⟩ := H
   replace H : (if t476 = true then (if t475 < 1 then (none) else (if t475 > 100 then (none) else (some true))) else (none)) = some r := H
   have A52 := Aside0.mk A520
   clear A520
   by_cases c53 : t476 = true
   rotate_left
   ·replace c53 := Bool.eq_false_iff.mpr c53
    subst c53
    have H1 : (none) = some r := by rw [if_neg (show ¬ (false = true) by decide)] at H; exact H
    clear H
    have H := H1
    clear H1
    exact absurd H (by simp)
   subst c53
   have H1 : (if t475 < 1 then (none) else (if t475 > 100 then (none) else (some true))) = some r := by rw [if_pos rfl] at H; exact H
   clear H
   have H := H1
   clear H1
   by_cases c54 : t475 < 1
   ·rw [if_pos c54] at H
    exact absurd H (by simp)
   rw [if_neg c54] at H
   have c54b0 : decide (t475 < 1) = false := decide_eq_false c54
   clear c54
   by_cases c55 : t475 > 100
   ·rw [if_pos c55] at H
    exact absurd H (by simp)
   rw [if_neg c55] at H
   have c55b0 : decide (100 < t475) = false := decide_eq_false c55
   clear c55
   obtain rfl := Option.some.inj H
   go_wp2_with (first | ((with_reducible refine gate_callee (f := 15) rfl ?_); refine goesL_ (some 125) rfl rfl Try.func15 (by kernel_rfl) rfl #[.slice A0 l0.length c0] rfl gmp ?_; (with_reducible refine (spec_DrawChooseStack.calls k2 _ _ l0 t466 t469 _ ?side1 ?side2 A46.out).mono ?_); (case side1 => exact cdl (Kd.C_below HR0.out HB.out)); (case side2 => exact HC0.out); rintro e w56 ⟨v467, rfl, ho0, hb⟩; refine ⟨_, rfl, ?_⟩; have n0_ := Aside0.mk (Kd.R_below (rdl HO_4) hb); have n1_ := Aside0.mk (Kd.R_below (rdl HO_8) hb); have n2_ := Aside0.mk (Kd.S_elder' (sdl HO_441000) (Kd.S_base ho0) hb); have n3_ := Aside0.mk (Kd.S_lower (Kd.S_new' (Kd.S_new' (Kd.S_new' ho0 (Kd.R_lt (rdl HO_4))) (Kd.R_lt (rdl HO_8))) (Kd.S_lt (sdl HO_441000))) (below_size (bel1 HB GE440))); have n4_ := Aside0.mk (blk_below (g := gb440) (o := .cells #[.slice Ao17 t437.length co17] 26 (0, 0)) (bkl BK440) hb); have n5_ := Aside0.mk (below_step (bel1 HB GE440) hb); clear HO_4; clear HO_8; clear HO_441000; clear BK440; clear HB; have HO_4 := n0_; have HO_8 := n1_; have HO_441000 := n2_; have HO468 := n3_; have BK440 := n4_; have HB := n5_; clear n0_ n1_ n2_ n3_ n4_ n5_; (try clear hb); (try clear hb2); (try clear hk); (try clear hi); (try clear ho0)) | ((with_reducible refine gate_dst (N := 20) rfl ?_); (try (refine gate_guard (by rfl) ?_; dsimp only)); refine box_event ?hg (N := 20) ?hd (cs := #[.slice none 0 0]) (t := 26) ?hr ?_; (case hd => rfl); (case hg => rfl); (case hr => first | (go_simp; done) | (go_simp; rfl)); intro gb470 hg w57 hbox hb; have n0_ := Aside0.mk (Kd.R_below (rdl HO_4) hb); have n1_ := Aside0.mk (Kd.R_below (rdl HO_8) hb); have n2_ := Aside0.mk (Kd.S_below (sdl HO_441000) hb); have n3_ := Aside0.mk (Kd.S_below (sdl HO468) hb); have n4_ := Aside0.mk (blk_below (g := gb440) (o := .cells #[.slice Ao17 t437.length co17] 26 (0, 0)) (bkl BK440) hb); have n5_ := Aside0.mk (below_step (bel1 HB GE440) hb); have n6_ := Aside0.mk (hbox); have n7_ := Aside0.mk ((by rw [hg]; exact (below_size (bel1 HB GE440)) : w.heap.size ≤ gb470)); have n8_ := Aside0.mk ((by rw [hg]; exact (below_size (bel1 HB GE440)) : w.heap.size ≤ gb470)); have n9_ := Aside0.mk ((by rw [hg]; exact Nat.ne_of_lt (blk_lt (g := gb440) (o := .cells #[.slice Ao17 t437.length co17] 26 (0, 0)) (bkl BK440)) : gb440 ≠ gb470)); have n10_ := Aside0.mk ((by rw [hg]; exact Nat.ne_of_gt (blk_lt (g := gb440) (o := .cells #[.slice Ao17 t437.length co17] 26 (0, 0)) (bkl BK440)) : gb470 ≠ gb440)); clear HO_4; clear HO_8; clear HO_441000; clear HO468; clear BK440; clear HB; have HO_4 := n0_; have HO_8 := n1_; have HO_441000 := n2_; have HO468 := n3_; have BK440 := n4_; have HB := n5_; have BK470 := n6_; have GW470 := n7_; have GE470 := n8_; have NB440_470 := n9_; have NB470_440 := n10_; clear n0_ n1_ n2_ n3_ n4_ n5_ n6_ n7_ n8_ n9_ n10_; clear hb hbox hg; obtain ⟨Ao58, co58, eo58⟩ := Kd.S_slice HO468.out; subst eo58; have hnb59 := NB470_440.out; have hnc59 := NB440_470.out; have hcz60_0 : w57.cell? ⟨gb470, 0, none⟩ = some (.slice none 0 0) := (blk_cell BK470.out 0).trans rfl; have hfz60_0 := blk_frozen BK470.out 0) | ((with_reducible refine gate_callee (f := 16) rfl ?_); refine goesL_ (some 131) rfl rfl Try.func16 (by kernel_rfl) rfl #[.agg #[.slice Ao58 t466.length co58], .int .i64 t469] rfl gmp ?_; (with_reducible refine (impl_ChooseStack.calls k2 _ _ t466 t469 t471 true _ ?side1 ?side2 A47.out).mono ?_); (case side1 => refine (Kd.S_reads' (e := 28) (base := w.heap.size) (ok := fun k_ => (((True ∧ some k_ ≠ (.slice Ao22 t441.length co22 : Value).ownBlock) ∧ some k_ ≠ (v451 : Value).ownBlock) ∧ some k_ ≠ (.slice Ao17 t437.length co17 : Value).ownBlock)) (n := t466.length) (c := co58) ?_).2.2; exact (by (with_reducible repeat (first | apply Kd.S_alloc | apply Kd.S_drewN | apply Kd.S_drew)); exact (Kd.S_mono (Kd.S_far (p := ⟨gb470, 0, none⟩) (Kd.S_types HO468.out BK470.out (by decide)) (fun _ hk => hk.2) (.slice Ao58 t466.length co58)) (fun _ h_ => h_.1)))); (case side2 => exact (Kd.S_reads' HO468.out).2.1); rintro e w61 ⟨rfl, hb⟩; refine ⟨_, rfl, ?_⟩; have n0_ := Aside0.mk (Kd.R_below (by (with_reducible repeat (first | apply Kd.R_alloc | apply Kd.R_drewN | apply Kd.R_drew)); exact (Kd.R_mono (Kd.R_far (p := ⟨gb470, 0, none⟩) (Kd.R_types HO_4.out BK470.out (by decide)) (fun _ hk => hk.2) (.slice Ao58 t466.length co58)) (fun _ h_ => h_.1))) hb); have n1_ := Aside0.mk (Kd.R_below (by (with_reducible repeat (first | apply Kd.R_alloc | apply Kd.R_drewN | apply Kd.R_drew)); exact (Kd.R_mono (Kd.R_far (p := ⟨gb470, 0, none⟩) (Kd.R_types HO_8.out BK470.out (by decide)) (fun _ hk => hk.2) (.slice Ao58 t466.length co58)) (fun _ h_ => h_.1))) hb); have n2_ := Aside0.mk (Kd.S_below (by (with_reducible repeat (first | apply Kd.S_alloc | apply Kd.S_drewN | apply Kd.S_drew)); exact (Kd.S_mono (Kd.S_far (p := ⟨gb470, 0, none⟩) (Kd.S_types HO_441000.out BK470.out (by decide)) (fun _ hk => hk.2) (.slice Ao58 t466.length co58)) (fun _ h_ => h_.1))) hb); have n3_ := Aside0.mk (Kd.S_below (by (with_reducible repeat (first | apply Kd.S_alloc | apply Kd.S_drewN | apply Kd.S_drew)); exact (Kd.S_mono (Kd.S_far (p := ⟨gb470, 0, none⟩) (Kd.S_types HO468.out BK470.out (by decide)) (fun _ hk => hk.2) (.slice Ao58 t466.length co58)) (fun _ h_ => h_.1))) hb); have n4_ := Aside0.mk (blk_below (g := gb440) (o := .cells #[.slice Ao17 t437.length co17] 26 (0, 0)) (by (with_reducible repeat (first | refine blk_drewN ?_ _ | refine blk_drew ?_ | refine blk_alloc ?_ _)); refine blk_far ?_ NB440_470.out _; (with_reducible repeat (first | refine blk_drewN ?_ _ | refine blk_drew ?_ | refine blk_alloc ?_ _)); exact BK440.out) hb); have n5_ := Aside0.mk (blk_below (g := gb470) (o := .cells #[.slice Ao58 t466.length co58] 26 (0, 0)) (by (with_reducible repeat (first | refine blk_drewN ?_ _ | refine blk_drew ?_ | refine blk_alloc ?_ _)); refine blk_put (cs := #[.slice none 0 0]) ?_ 0 _ rfl; (with_reducible repeat (first | refine blk_drewN ?_ _ | refine blk_drew ?_ | refine blk_alloc ?_ _)); exact BK470.out) hb); have n6_ := Aside0.mk (below_step (bel2 HB GE440 GE470) hb); clear HO_4; clear HO_8; clear HO_441000; clear HO468; clear BK440; clear BK470; clear HB; have HO_4 := n0_; have HO_8 := n1_; have HO_441000 := n2_; have HO468 := n3_; have BK440 := n4_; have BK470 := n5_; have HB := n6_; clear n0_ n1_ n2_ n3_ n4_ n5_ n6_; (try clear hb); (try clear hb2); (try clear hk); (try clear hi); have hcz62_0 : w61.cell? ⟨gb470, 0, none⟩ = some (.slice Ao58 t466.length co58) := (blk_cell BK470.out 0).trans rfl; have hfz62_0 := blk_frozen BK470.out 0) | ((with_reducible refine gate_callee (f := 17) rfl ?_); refine goesL_ (some 137) rfl rfl Try.func17 (by kernel_rfl) rfl #[.agg #[.slice Ao58 t466.length co58], .int .i64 t469] rfl gmp ?_; (with_reducible refine (spec_ChooseStack.calls k2 _ _ t466 t469 t473 t474 _ ?side1 ?side2 A48.out).mono ?_); (case side1 => exact cdl (Kd.S_reads' HO468.out).2.2); (case side2 => exact (Kd.S_reads' HO468.out).2.1); rintro e w63 ⟨rfl, hb⟩; refine ⟨_, rfl, ?_⟩; have n0_ := Aside0.mk (Kd.R_below (rdl HO_4) hb); have n1_ := Aside0.mk (Kd.R_below (rdl HO_8) hb); have n2_ := Aside0.mk (Kd.S_below (sdl HO_441000) hb); have n3_ := Aside0.mk (Kd.S_below (sdl HO468) hb); have n4_ := Aside0.mk (blk_below (g := gb440) (o := .cells #[.slice Ao17 t437.length co17] 26 (0, 0)) (bkl BK440) hb); have n5_ := Aside0.mk (blk_below (g := gb470) (o := .cells #[.slice Ao58 t466.length co58] 26 (0, 0)) (bkl BK470) hb); have n6_ := Aside0.mk (below_step (bel2 HB GE440 GE470) hb); clear HO_4; clear HO_8; clear HO_441000; clear HO468; clear BK440; clear BK470; clear HB; have HO_4 := n0_; have HO_8 := n1_; have HO_441000 := n2_; have HO468 := n3_; have BK440 := n4_; have BK470 := n5_; have HB := n6_; clear n0_ n1_ n2_ n3_ n4_ n5_ n6_; (try clear hb); (try clear hb2); (try clear hk); (try clear hi); have hcz64_0 : w63.cell? ⟨gb470, 0, none⟩ = some (.slice Ao58 t466.length co58) := (blk_cell BK470.out 0).trans rfl; have hfz64_0 := blk_frozen BK470.out 0) | ((with_reducible refine gate_callee (f := 18) rfl ?_); refine goesL_ (some 152) rfl rfl Try.func18 (by kernel_rfl) rfl #[.agg #[.slice Ao58 t466.length co58], .int .i64 t471] rfl gmp ?_; (with_reducible refine (impl_EarliestOf.calls _ _ t466 t471 t475 true _ ?side1 ?side2 A52.out).mono ?_); (case side1 => exact cdl (Kd.S_reads' HO468.out).2.2); (case side2 => exact (Kd.S_reads' HO468.out).2.1); rintro e w65 ⟨rfl, hb⟩; refine ⟨_, rfl, ?_⟩; have n0_ := Aside0.mk (Kd.R_below (rdl HO_4) hb); have n1_ := Aside0.mk (Kd.R_below (rdl HO_8) hb); have n2_ := Aside0.mk (Kd.S_below (sdl HO_441000) hb); have n3_ := Aside0.mk (Kd.S_below (sdl HO468) hb); have n4_ := Aside0.mk (blk_below (g := gb440) (o := .cells #[.slice Ao17 t437.length co17] 26 (0, 0)) (bkl BK440) hb); have n5_ := Aside0.mk (blk_below (g := gb470) (o := .cells #[.slice Ao58 t466.length co58] 26 (0, 0)) (bkl BK470) hb); have n6_ := Aside0.mk (below_step (bel2 HB GE440 GE470) hb); clear HO_4; clear HO_8; clear HO_441000; clear HO468; clear BK440; clear BK470; clear HB; have HO_4 := n0_; have HO_8 := n1_; have HO_441000 := n2_; have HO468 := n3_; have BK440 := n4_; have BK470 := n5_; have HB := n6_; clear n0_ n1_ n2_ n3_ n4_ n5_ n6_; (try clear hb); (try clear hb2); (try clear hk); (try clear hi)))
   go_ret
   exact ⟨by first | rfl | (simp [errW_none, errW_some] <;> rfl) | (simp [*, errW_none, errW_some] <;> rfl), bel2 HB GE440 GE470⟩
/-- THE ONE PURE STATEMENT of laws_FnBadlyPlaced. -/
def laws_FnBadlyPlaced.Pure : Prop := ∀ (l0 : List Int), (l0.length ≤ maxLen ∧ ∀ z477, z477 ∈ l0 → (Lit.int .u8 z477).wf = true) → ∃ k, laws_FnBadlyPlaced.f k l0 = some true
theorem laws_FnBadlyPlaced.walk (P : laws_FnBadlyPlaced.Pure) (A0 : Option Addr) (c0 : Nat) (l0 : List Int) (w : World) (hr0 : Kd.C (Kd.int .u8) w A0 l0.length l0) (hc0 : l0.length ≤ c0) (g0 : (l0.length ≤ maxLen ∧ ∀ z478, z478 ∈ l0 → (Lit.int .u8 z478).wf = true)) :
  Calls Try.prog 3 #[.slice A0 l0.length c0] w fun e w' => e = .returned (.bool true) ∧ Below w.heap.size w w' := by
 obtain ⟨k, h⟩ := P l0 g0
 refine (laws_FnBadlyPlaced.calls k _ _ l0 true w hr0 hc0 h).mono ?_
 rintro e w' ⟨rfl, hd⟩
 exact ⟨rfl, hd⟩
end Go.Proofs.Ytmggkimmnekhcaa.P
