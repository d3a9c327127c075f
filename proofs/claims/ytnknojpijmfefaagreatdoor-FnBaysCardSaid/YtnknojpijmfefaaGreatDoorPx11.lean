-- Written by a program of this session over the translation (a variant of the printer, see wip/gen); Lean checks it.
import Derived.Test.YtnknojpijmfefaaGreatDoorPx0
import Derived.Test.YtnknojpijmfefaaGreatDoorPx10
namespace Go.Proofs.YtnknojpijmfefaaGreatDoor.P
open Go.RowKit Go.Proofs.YtnknojpijmfefaaGreatDoorW.PrintWords Go.Proofs.YtnknojpijmfefaaGreatDoorW.PrintLast Go.Proofs.YtnknojpijmfefaaGreatDoorW.PrintMore
attribute [local go_sem] Go.Proofs.YtnknojpijmfefaaGreatDoor.V.isSome_setCell max2_int min2_int max_two min_two max_three min_three max_four min_four
set_option linter.unusedVariables false
set_option linter.unusedSimpArgs false
/-! ### spec_LoadBox: function 7 -/
def spec_LoadBox.f (k : Nat) (a0_0 : Int) (l0_1 : List (List Int)) (a1 : Int) (a2 : Int) : Option (Int × (List (List Int)) × Bool) := (spec_l9Row.f k a0_0 l0_1 a1).bind fun t257 => (if t257 = true then ((spec_l9Own.f k a0_0 l0_1).bind fun bt258 => (if 0 ≤ a1 then (if a1 < (bt258.2.length : Int) then (if (rd_L2 bt258.2 a1).length < 17592186044416 then ((some (bt258.2.set (a1 : Int).toNat ((rd_L2 bt258.2 a1) ++ [a2]) : List (List Int))).bind fun y267 => ((spec_l9Good.f k bt258.1 y267).bind fun t268 => (if t268 = true then (some (bt258.1, y267, true)) else (some (0, ([] : List (List Int)), false))))) else (none)) else (none)) else (none))) else (some (0, ([] : List (List Int)), false)))
theorem spec_LoadBox.mono : ∀ a0 a1 a2 a3 k, LeO (spec_LoadBox.f k a0 a1 a2 a3) (spec_LoadBox.f (k + 1) a0 a1 a2 a3) := by
 intro a0 a1 a2 a3 k
 unfold spec_LoadBox.f
 repeat' first
   | (with_reducible exact spec_l9Good.mono _ _ _)
   | (with_reducible exact spec_l9Own.mono _ _ _)
   | (with_reducible exact spec_l9Row.mono _ _ _ _)
   | (with_reducible exact LeO.refl _)
   | (with_reducible exact LeO.none _)
   | (with_reducible refine LeO.ite ?_ ?_)
   | (with_reducible refine LeO.bind ?_ (fun _ => ?_))
   | exact spec_l9Good.mono _ _ _
   | exact spec_l9Own.mono _ _ _
   | exact spec_l9Row.mono _ _ _ _
   | exact LeO.none _
   | refine LeO.ite ?_ ?_
   | refine LeO.bind ?_ (fun _ => ?_)
def spec_LoadBox.T4 : Bool × List (List Nat × List Nat) := (true, [([], []), ([0], [0]), ([], []), ([], []), ([3], [3]), ([], []), ([4, 5], [4, 5]), ([6], [6]), ([], []), ([8], [8]), ([7, 9], [7, 9]), ([1, 2, 0, 1, 2, 3, 4, 5, 6, 7, 8, 9, 10], [1, 2]), ([11, 10, 10, 0, 1, 2, 3, 4, 5, 6, 7, 8, 9, 10], [10, 11])])
def spec_LoadBox.B4 : List Nat := [0, 1, 0, 0, 8, 0, 56, 120, 0, 256, 1016, 2047, 4095]
theorem spec_LoadBox.tab4 : rtab .any (opsOf Tryz.f7 4) = spec_LoadBox.T4 := by kernel_rfl
theorem spec_LoadBox.bits4 : waitsOk spec_LoadBox.T4.2 spec_LoadBox.B4 = true := by kernel_rfl
set_option maxHeartbeats 8000000 in
set_option maxRecDepth 100000 in
theorem spec_LoadBox.calls (k : Nat) (a0_0 : Int) (A0_1 : Option Addr) (c0_1 : Nat) (l0_1 : List (List Int)) (a1 : Int) (a2 : Int) (r1 : Int) (r2 : List (List Int)) (r3 : Bool) (w : World) (hr0_1 : Kd.C (Kd.slice 3 (Kd.int .i64)) w A0_1 l0_1.length l0_1) (hc0_1 : l0_1.length ≤ c0_1) (h : spec_LoadBox.f k a0_0 l0_1 a1 a2 = some (r1, r2, r3)) :
  Calls Tryz.prog 7 #[.agg #[.int .i64 a0_0, .slice A0_1 l0_1.length c0_1], .int .i64 a1, .int .i64 a2] w fun e w' => ∃ v1_ : Value, e = .returned (.tuple #[.agg #[.int .i64 r1, v1_], .bool r3]) ∧ Kd.S (Kd.slice 3 (Kd.int .i64)) 48 w' w.heap.size (fun _ => True) v1_ r2 ∧ Below w.heap.size w w' := by
 have hu26 := Tryz.underlying26
 have HR0_1 := Aside0.mk hr0_1
 have HC0_1 := Aside0.mk hc0_1
 clear hr0_1 hc0_1
 have HB := Aside0.mk (Below.refl w.heap.size w)
 have H : ((spec_l9Row.f k a0_0 l0_1 a1).bind fun t257 => (if t257 = true then ((spec_l9Own.f k a0_0 l0_1).bind fun bt258 => (if 0 ≤ a1 then (if a1 < (bt258.2.length : Int) then (if (rd_L2 bt258.2 a1).length < 17592186044416 then ((some (bt258.2.set (a1 : Int).toNat ((rd_L2 bt258.2 a1) ++ [a2]) : List (List Int))).bind fun y267 => ((spec_l9Good.f k bt258.1 y267).bind fun t268 => (if t268 = true then (some (bt258.1, y267, true)) else (some (0, ([] : List (List Int)), false))))) else (none)) else (none)) else (none))) else (some (0, ([] : List (List Int)), false)))) = some (r1, r2, r3) := h
 clear h
 replace H := Option.bind_eq_some_iff.mp H
 obtain ⟨t257, A40, H⟩ := H
 replace H : (if t257 = true then ((spec_l9Own.f k a0_0 l0_1).bind fun bt258 => (if 0 ≤ a1 then (if a1 < (bt258.2.length : Int) then (if (rd_L2 bt258.2 a1).length < 17592186044416 then ((some (bt258.2.set (a1 : Int).toNat ((rd_L2 bt258.2 a1) ++ [a2]) : List (List Int))).bind fun y267 => ((spec_l9Good.f k bt258.1 y267).bind fun t268 => (if t268 = true then (some (bt258.1, y267, true)) else (some (0, ([] : List (List Int)), false))))) else (none)) else (none)) else (none))) else (some (0, ([] : List (List Int)), false))) = some (r1, r2, r3) := H
 have A4 := Aside0.mk A40
 clear A40
 by_cases c5 : t257 = true
 rotate_left
 ·replace c5 := Bool.eq_false_iff.mpr c5
  subst c5
  have H1 : (some (0, ([] : List (List Int)), false)) = some (r1, r2, r3) := by rw [if_neg (show ¬ (false = true) by decide)] at H; exact H
  clear H
  have H := H1
  clear H1
  simp only [Option.some.injEq, Prod.mk.injEq] at H
  obtain ⟨rfl, rfl, rfl⟩ := H
  go_enter Tryz.func7, Tryz.ntmps7
  go_wp2_with (first | ((with_reducible refine gate_dst (N := 3) rfl ?_); refine box_event ?hg (N := 3) ?hd (cs := #[.int .i64 a0_0, .slice A0_1 l0_1.length c0_1]) (t := 26) ?hr ?_; (case hd => rfl); (case hg => rfl); (case hr => first | (go_simp; done) | (go_simp; rfl)); intro gb255 hg w60 hbox hb; have n0_ := Aside0.mk (below_step (bel HB) hb); have n1_ := Aside0.mk (hbox); have n2_ := Aside0.mk ((by rw [hg]; exact (below_size (bel HB)) : w.heap.size ≤ gb255)); have n3_ := Aside0.mk ((by rw [hg]; exact (below_size (bel HB)) : w.heap.size ≤ gb255)); clear HB; have HB := n0_; have BK255 := n1_; have GW255 := n2_; have GE255 := n3_; clear n0_ n1_ n2_ n3_; clear hb hbox hg) | ((with_reducible refine gate_dst (N := 6) rfl ?_); refine box_event ?hg (N := 6) ?hd (cs := #[.int .i64 0, .slice none 0 0]) (t := 26) ?hr ?_; (case hd => rfl); (case hg => rfl); (case hr => first | (go_simp; done) | (go_simp; rfl)); intro gb256 hg w61 hbox hb; have n0_ := Aside0.mk (blk_below (g := gb255) (o := .cells #[.int .i64 a0_0, .slice A0_1 l0_1.length c0_1] 26 (0, 0)) (bkl BK255) hb); have n1_ := Aside0.mk (below_step (bel1 HB GE255) hb); have n2_ := Aside0.mk (hbox); have n3_ := Aside0.mk ((by rw [hg]; exact (below_size (bel1 HB GE255)) : w.heap.size ≤ gb256)); have n4_ := Aside0.mk ((by rw [hg]; exact (below_size (bel1 HB GE255)) : w.heap.size ≤ gb256)); have n5_ := Aside0.mk ((by rw [hg]; exact Nat.ne_of_lt (blk_lt (g := gb255) (o := .cells #[.int .i64 a0_0, .slice A0_1 l0_1.length c0_1] 26 (0, 0)) (bkl BK255)) : gb255 ≠ gb256)); have n6_ := Aside0.mk ((by rw [hg]; exact Nat.ne_of_gt (blk_lt (g := gb255) (o := .cells #[.int .i64 a0_0, .slice A0_1 l0_1.length c0_1] 26 (0, 0)) (bkl BK255)) : gb256 ≠ gb255)); clear BK255; clear HB; have BK255 := n0_; have HB := n1_; have BK256 := n2_; have GW256 := n3_; have GE256 := n4_; have NB255_256 := n5_; have NB256_255 := n6_; clear n0_ n1_ n2_ n3_ n4_ n5_ n6_; clear hb hbox hg; have hnb62 := NB255_256.out; have hnc62 := NB256_255.out; have hcz63_0 : w61.cell? ⟨gb255, 0, none⟩ = some (.int .i64 a0_0) := (blk_cell BK255.out 0).trans rfl; have hcz63_1 : w61.cell? ⟨gb255, 1, none⟩ = some (.slice A0_1 l0_1.length c0_1) := (blk_cell BK255.out 1).trans rfl; have hfz63_0 := blk_frozen BK255.out 0; have hfz63_1 := blk_frozen BK255.out 1) | ((with_reducible refine gate_callee (f := 21) rfl ?_); refine goesL_ (some 11) rfl rfl Tryz.func21 (by kernel_rfl) rfl #[.agg #[.int .i64 a0_0, .slice A0_1 l0_1.length c0_1], .int .i64 a1] rfl gmp ?_; (with_reducible refine (spec_l9Row.calls k a0_0 _ _ l0_1 a1 false _ ?side1 ?side2 A4.out).mono ?_); (case side1 => exact cdl (Kd.C_below HR0_1.out HB.out)); (case side2 => exact HC0_1.out); rintro e w64 ⟨rfl, hb⟩; refine ⟨_, rfl, ?_⟩; have n0_ := Aside0.mk (blk_below (g := gb255) (o := .cells #[.int .i64 a0_0, .slice A0_1 l0_1.length c0_1] 26 (0, 0)) (bkl BK255) hb); have n1_ := Aside0.mk (blk_below (g := gb256) (o := .cells #[.int .i64 0, .slice none 0 0] 26 (0, 0)) (bkl BK256) hb); have n2_ := Aside0.mk (below_step (bel2 HB GE255 GE256) hb); clear BK255; clear BK256; clear HB; have BK255 := n0_; have BK256 := n1_; have HB := n2_; clear n0_ n1_ n2_; (try clear hb); (try clear hb2); (try clear hk); (try clear hi); have hcz65_0 : w64.cell? ⟨gb256, 0, none⟩ = some (.int .i64 0) := (blk_cell BK256.out 0).trans rfl; have hcz65_1 : w64.cell? ⟨gb256, 1, none⟩ = some (.slice none 0 0) := (blk_cell BK256.out 1).trans rfl; have hfz65_0 := blk_frozen BK256.out 0; have hfz65_1 := blk_frozen BK256.out 1))
  refine bodyPost_ret (results_ct rfl _ _ gb256 26 #[.int .i64 0, .slice none 0 0] (0, 0) _ rfl (by (with_reducible repeat (first | refine blk_drewN ?_ _ | refine blk_drew ?_ | refine blk_alloc ?_ _)); refine blk_put (cs := #[.int .i64 0, .slice none 0 0]) ?_ 1 _ rfl; (with_reducible repeat (first | refine blk_drewN ?_ _ | refine blk_drew ?_ | refine blk_alloc ?_ _)); refine blk_put (cs := #[.int .i64 0, .slice none 0 0]) ?_ 0 _ rfl; (with_reducible repeat (first | refine blk_drewN ?_ _ | refine blk_drew ?_ | refine blk_alloc ?_ _)); exact BK256.out) Tryz.underlying26 rfl (by kernel_rfl)) rfl ?_
  exact ⟨_, by first | rfl | (simp [errW_none, errW_some] <;> rfl) | (simp [*, errW_none, errW_some] <;> rfl), by first | exact Kd.S_nil _ _ _ _ _ | exact Kd.N_nil _ _ _ _ _ | exact Kd.V_nil _ _ _ _ _ | exact Kd.Q_nil _ _ _ _ _ | exact Kd.R_nil _ _ _ _ _, bel2 HB GE255 GE256⟩
 subst c5
 have H1 : ((spec_l9Own.f k a0_0 l0_1).bind fun bt258 => (if 0 ≤ a1 then (if a1 < (bt258.2.length : Int) then (if (rd_L2 bt258.2 a1).length < 17592186044416 then ((some (bt258.2.set (a1 : Int).toNat ((rd_L2 bt258.2 a1) ++ [a2]) : List (List Int))).bind fun y267 => ((spec_l9Good.f k bt258.1 y267).bind fun t268 => (if t268 = true then (some (bt258.1, y267, true)) else (some (0, ([] : List (List Int)), false))))) else (none)) else (none)) else (none))) = some (r1, r2, r3) := by rw [if_pos rfl] at H; exact H
 clear H
 have H := H1
 clear H1
 replace H := Option.bind_eq_some_iff.mp H
 obtain ⟨⟨t258, t259⟩, A60, H⟩ := H
 replace H : (if 0 ≤ a1 then (if a1 < (t259.length : Int) then (if (rd_L2 t259 a1).length < 17592186044416 then ((some (t259.set (a1 : Int).toNat ((rd_L2 t259 a1) ++ [a2]) : List (List Int))).bind fun y267 => ((spec_l9Good.f k t258 y267).bind fun t268 => (if t268 = true then (some (t258, y267, true)) else (some (0, ([] : List (List Int)), false))))) else (none)) else (none)) else (none)) = some (r1, r2, r3) := H
 have A6 := Aside0.mk A60
 clear A60
 by_cases c7 : 0 ≤ a1
 rotate_left
 ·rw [if_neg c7] at H
  exact absurd H (by simp)
 rw [if_pos c7] at H
 have c7b0 : decide (0 ≤ a1) = true := decide_eq_true c7
 clear c7
 by_cases c8 : a1 < (t259.length : Int)
 rotate_left
 ·rw [if_neg c8] at H
  exact absurd H (by simp)
 rw [if_pos c8] at H
 have c8b0 : decide (a1 < (t259.length : Int)) = true := decide_eq_true c8
 clear c8
 by_cases c9 : (rd_L2 t259 a1).length < 17592186044416
 rotate_left
 ·rw [if_neg c9] at H
  exact absurd H (by simp)
 rw [if_pos c9] at H
 have LMc9 := Aside0.mk c9
 clear c9
 obtain ⟨y264, hy264⟩ : ∃ y_ : List Int, y_ = ((rd_L2 t259 a1) ++ [a2]) := ⟨_, rfl⟩
 replace H : ((some (t259.set (a1 : Int).toNat y264 : List (List Int))).bind fun y267 => ((spec_l9Good.f k t258 y267).bind fun t268 => (if t268 = true then (some (t258, y267, true)) else (some (0, ([] : List (List Int)), false))))) = some (r1, r2, r3) := by first | (rw [hy264]; with_reducible exact H) | (have H2_ := (Option.bind_some _ _).symm.trans H; rw [hy264]; with_reducible exact H2_) | (have H2_ := (Option.bind_some _ _).symm.trans H; with_reducible exact H2_) | with_reducible exact H | (rw [hy264]; exact H) | exact H
 have Ny264 := Aside0.mk hy264
 clear hy264
 obtain ⟨y267, hy267⟩ : ∃ y_ : List (List Int), y_ = (t259.set (a1 : Int).toNat y264) := ⟨_, rfl⟩
 replace H : ((spec_l9Good.f k t258 y267).bind fun t268 => (if t268 = true then (some (t258, y267, true)) else (some (0, ([] : List (List Int)), false)))) = some (r1, r2, r3) := by first | (rw [hy267]; with_reducible exact H) | (have H2_ := (Option.bind_some _ _).symm.trans H; rw [hy267]; with_reducible exact H2_) | (have H2_ := (Option.bind_some _ _).symm.trans H; with_reducible exact H2_) | with_reducible exact H | (rw [hy267]; exact H) | exact H
 have Ny267 := Aside0.mk hy267
 clear hy267
 replace H := Option.bind_eq_some_iff.mp H
 obtain ⟨t268, A110, H⟩ := H
 replace H : (if t268 = true then (some (t258, y267, true)) else (some (0, ([] : List (List Int)), false))) = some (r1, r2, r3) := H
 have A11 := Aside0.mk A110
 clear A110
 by_cases c12 : t268 = true
 rotate_left
 ·replace c12 := Bool.eq_false_iff.mpr c12
  subst c12
  have H1 : (some (0, ([] : List (List Int)), false)) = some (r1, r2, r3) := by rw [if_neg (show ¬ (false = true) by decide)] at H; exact H
  clear H
  have H := H1
  clear H1
  simp only [Option.some.injEq, Prod.mk.injEq] at H
  obtain ⟨rfl, rfl, rfl⟩ := H
  go_enter Tryz.func7, Tryz.ntmps7
  try go_wp2_with (first | ((with_reducible refine gate_dst (N := 3) rfl ?_); refine box_event ?hg (N := 3) ?hd (cs := #[.int .i64 a0_0, .slice A0_1 l0_1.length c0_1]) (t := 26) ?hr ?_; (case hd => rfl); (case hg => rfl); (case hr => first | (go_simp; done) | (go_simp; rfl)); intro gb255 hg w37 hbox hb; have n0_ := Aside0.mk (below_step (bel HB) hb); have n1_ := Aside0.mk (hbox); have n2_ := Aside0.mk ((by rw [hg]; exact (below_size (bel HB)) : w.heap.size ≤ gb255)); have n3_ := Aside0.mk ((by rw [hg]; exact (below_size (bel HB)) : w.heap.size ≤ gb255)); clear HB; have HB := n0_; have BK255 := n1_; have GW255 := n2_; have GE255 := n3_; clear n0_ n1_ n2_ n3_; clear hb hbox hg) | ((with_reducible refine gate_dst (N := 6) rfl ?_); refine box_event ?hg (N := 6) ?hd (cs := #[.int .i64 0, .slice none 0 0]) (t := 26) ?hr ?_; (case hd => rfl); (case hg => rfl); (case hr => first | (go_simp; done) | (go_simp; rfl)); intro gb256 hg w38 hbox hb; have n0_ := Aside0.mk (blk_below (g := gb255) (o := .cells #[.int .i64 a0_0, .slice A0_1 l0_1.length c0_1] 26 (0, 0)) (bkl BK255) hb); have n1_ := Aside0.mk (below_step (bel1 HB GE255) hb); have n2_ := Aside0.mk (hbox); have n3_ := Aside0.mk ((by rw [hg]; exact (below_size (bel1 HB GE255)) : w.heap.size ≤ gb256)); have n4_ := Aside0.mk ((by rw [hg]; exact (below_size (bel1 HB GE255)) : w.heap.size ≤ gb256)); have n5_ := Aside0.mk ((by rw [hg]; exact Nat.ne_of_lt (blk_lt (g := gb255) (o := .cells #[.int .i64 a0_0, .slice A0_1 l0_1.length c0_1] 26 (0, 0)) (bkl BK255)) : gb255 ≠ gb256)); have n6_ := Aside0.mk ((by rw [hg]; exact Nat.ne_of_gt (blk_lt (g := gb255) (o := .cells #[.int .i64 a0_0, .slice A0_1 l0_1.length c0_1] 26 (0, 0)) (bkl BK255)) : gb256 ≠ gb255)); clear BK255; clear HB; have BK255 := n0_; have HB := n1_; have BK256 := n2_; have GW256 := n3_; have GE256 := n4_; have NB255_256 := n5_; have NB256_255 := n6_; clear n0_ n1_ n2_ n3_ n4_ n5_ n6_; clear hb hbox hg; have hnb39 := NB255_256.out; have hnc39 := NB256_255.out; have hcz40_0 : w38.cell? ⟨gb255, 0, none⟩ = some (.int .i64 a0_0) := (blk_cell BK255.out 0).trans rfl; have hcz40_1 : w38.cell? ⟨gb255, 1, none⟩ = some (.slice A0_1 l0_1.length c0_1) := (blk_cell BK255.out 1).trans rfl; have hfz40_0 := blk_frozen BK255.out 0; have hfz40_1 := blk_frozen BK255.out 1) | ((with_reducible refine gate_callee (f := 21) rfl ?_); refine goesL_ (some 11) rfl rfl Tryz.func21 (by kernel_rfl) rfl #[.agg #[.int .i64 a0_0, .slice A0_1 l0_1.length c0_1], .int .i64 a1] rfl gmp ?_; (with_reducible refine (spec_l9Row.calls k a0_0 _ _ l0_1 a1 true _ ?side1 ?side2 A4.out).mono ?_); (case side1 => exact cdl (Kd.C_below HR0_1.out HB.out)); (case side2 => exact HC0_1.out); rintro e w41 ⟨rfl, hb⟩; refine ⟨_, rfl, ?_⟩; have n0_ := Aside0.mk (blk_below (g := gb255) (o := .cells #[.int .i64 a0_0, .slice A0_1 l0_1.length c0_1] 26 (0, 0)) (bkl BK255) hb); have n1_ := Aside0.mk (blk_below (g := gb256) (o := .cells #[.int .i64 0, .slice none 0 0] 26 (0, 0)) (bkl BK256) hb); have n2_ := Aside0.mk (below_step (bel2 HB GE255 GE256) hb); clear BK255; clear BK256; clear HB; have BK255 := n0_; have BK256 := n1_; have HB := n2_; clear n0_ n1_ n2_; (try clear hb); (try clear hb2); (try clear hk); (try clear hi); have hcz42_0 : w41.cell? ⟨gb255, 0, none⟩ = some (.int .i64 a0_0) := (blk_cell BK255.out 0).trans rfl; have hcz42_1 : w41.cell? ⟨gb255, 1, none⟩ = some (.slice A0_1 l0_1.length c0_1) := (blk_cell BK255.out 1).trans rfl; have hfz42_0 := blk_frozen BK255.out 0; have hfz42_1 := blk_frozen BK255.out 1) | ((with_reducible refine gate_callee (f := 22) rfl ?_); refine goesL_ (some 15) rfl rfl Tryz.func22 (by kernel_rfl) rfl #[.agg #[.int .i64 a0_0, .slice A0_1 l0_1.length c0_1]] rfl gmp ?_; (with_reducible refine (spec_l9Own.calls k a0_0 _ _ l0_1 t258 t259 _ ?side1 ?side2 A6.out).mono ?_); (case side1 => exact cdl (Kd.C_below HR0_1.out HB.out)); (case side2 => exact HC0_1.out); rintro e w43 ⟨v260, rfl, ho0, hb⟩; refine ⟨_, rfl, ?_⟩; have n0_ := Aside0.mk (Kd.S_lower ho0 (below_size (bel2 HB GE255 GE256))); have n1_ := Aside0.mk (blk_below (g := gb255) (o := .cells #[.int .i64 a0_0, .slice A0_1 l0_1.length c0_1] 26 (0, 0)) (bkl BK255) hb); have n2_ := Aside0.mk (blk_below (g := gb256) (o := .cells #[.int .i64 0, .slice none 0 0] 26 (0, 0)) (bkl BK256) hb); have n3_ := Aside0.mk (below_step (bel2 HB GE255 GE256) hb); clear BK255; clear BK256; clear HB; have HO261 := n0_; have BK255 := n1_; have BK256 := n2_; have HB := n3_; clear n0_ n1_ n2_ n3_; (try clear hb); (try clear hb2); (try clear hk); (try clear hi); (try clear ho0)) | ((with_reducible refine gate_dst (N := 8) rfl ?_); refine box_event ?hg (N := 8) ?hd (cs := #[.int .i64 0, .slice none 0 0]) (t := 26) ?hr ?_; (case hd => rfl); (case hg => rfl); (case hr => first | (go_simp; done) | (go_simp; rfl)); intro gb262 hg w44 hbox hb; have n0_ := Aside0.mk (Kd.S_below (sdl HO261) hb); have n1_ := Aside0.mk (blk_below (g := gb255) (o := .cells #[.int .i64 a0_0, .slice A0_1 l0_1.length c0_1] 26 (0, 0)) (bkl BK255) hb); have n2_ := Aside0.mk (blk_below (g := gb256) (o := .cells #[.int .i64 0, .slice none 0 0] 26 (0, 0)) (bkl BK256) hb); have n3_ := Aside0.mk (below_step (bel2 HB GE255 GE256) hb); have n4_ := Aside0.mk (hbox); have n5_ := Aside0.mk ((by rw [hg]; exact (below_size (bel2 HB GE255 GE256)) : w.heap.size ≤ gb262)); have n6_ := Aside0.mk ((by rw [hg]; exact (below_size (bel2 HB GE255 GE256)) : w.heap.size ≤ gb262)); have n7_ := Aside0.mk ((by rw [hg]; exact Nat.ne_of_lt (blk_lt (g := gb255) (o := .cells #[.int .i64 a0_0, .slice A0_1 l0_1.length c0_1] 26 (0, 0)) (bkl BK255)) : gb255 ≠ gb262)); have n8_ := Aside0.mk ((by rw [hg]; exact Nat.ne_of_gt (blk_lt (g := gb255) (o := .cells #[.int .i64 a0_0, .slice A0_1 l0_1.length c0_1] 26 (0, 0)) (bkl BK255)) : gb262 ≠ gb255)); have n9_ := Aside0.mk ((by rw [hg]; exact Nat.ne_of_lt (blk_lt (g := gb256) (o := .cells #[.int .i64 0, .slice none 0 0] 26 (0, 0)) (bkl BK256)) : gb256 ≠ gb262)); have n10_ := Aside0.mk ((by rw [hg]; exact Nat.ne_of_gt (blk_lt (g := gb256) (o := .cells #[.int .i64 0, .slice none 0 0] 26 (0, 0)) (bkl BK256)) : gb262 ≠ gb256)); clear HO261; clear BK255; clear BK256; clear HB; have HO261 := n0_; have BK255 := n1_; have BK256 := n2_; have HB := n3_; have BK262 := n4_; have GW262 := n5_; have GE262 := n6_; have NB255_262 := n7_; have NB262_255 := n8_; have NB256_262 := n9_; have NB262_256 := n10_; clear n0_ n1_ n2_ n3_ n4_ n5_ n6_ n7_ n8_ n9_ n10_; clear hb hbox hg; have hnb45 := NB262_255.out; have hnc45 := NB255_262.out; have hnb46 := NB262_256.out; have hnc46 := NB256_262.out; have hcz47_0 : w44.cell? ⟨gb262, 0, none⟩ = some (.int .i64 0) := (blk_cell BK262.out 0).trans rfl; have hcz47_1 : w44.cell? ⟨gb262, 1, none⟩ = some (.slice none 0 0) := (blk_cell BK262.out 1).trans rfl; have hfz47_0 := blk_frozen BK262.out 0; have hfz47_1 := blk_frozen BK262.out 1; obtain ⟨Ao48, co48, eo48⟩ := Kd.S_slice HO261.out; subst eo48))
  have n0_ : Aside0 (Kd.S (Kd.slice 3 (Kd.int .i64)) 48 ((w44.setCell ⟨gb262, 0, none⟩ (.int .i64 t258)).setCell ⟨gb262, 1, none⟩ (.slice Ao48 t259.length co48)) w.heap.size (fun _ => True) (.slice Ao48 t259.length co48) t259) := ⟨by (with_reducible repeat (first | apply Kd.S_alloc | apply Kd.S_drewN | apply Kd.S_drew)); exact Kd.S_mono (Kd.S_far (p := ⟨gb262, 1, none⟩) (Kd.S_far (p := ⟨gb262, 0, none⟩) (Kd.S_types HO261.out BK262.out (by decide)) (fun _ hk => hk.2) (.int .i64 t258)) (fun _ hk => hk.2) (.slice Ao48 t259.length co48)) (fun _ hk => trivial)⟩
  have n1_ : Aside0 (((w44.setCell ⟨gb262, 0, none⟩ (.int .i64 t258)).setCell ⟨gb262, 1, none⟩ (.slice Ao48 t259.length co48)).heap[gb255]? = some (.cells #[.int .i64 a0_0, .slice A0_1 l0_1.length c0_1] 26 (0, 0))) := ⟨by (with_reducible repeat (first | refine blk_drewN ?_ _ | refine blk_drew ?_ | refine blk_alloc ?_ _)); refine blk_far ?_ NB255_262.out _; (with_reducible repeat (first | refine blk_drewN ?_ _ | refine blk_drew ?_ | refine blk_alloc ?_ _)); refine blk_far ?_ NB255_262.out _; (with_reducible repeat (first | refine blk_drewN ?_ _ | refine blk_drew ?_ | refine blk_alloc ?_ _)); exact BK255.out⟩
  have n2_ : Aside0 (((w44.setCell ⟨gb262, 0, none⟩ (.int .i64 t258)).setCell ⟨gb262, 1, none⟩ (.slice Ao48 t259.length co48)).heap[gb256]? = some (.cells #[.int .i64 0, .slice none 0 0] 26 (0, 0))) := ⟨by (with_reducible repeat (first | refine blk_drewN ?_ _ | refine blk_drew ?_ | refine blk_alloc ?_ _)); refine blk_far ?_ NB256_262.out _; (with_reducible repeat (first | refine blk_drewN ?_ _ | refine blk_drew ?_ | refine blk_alloc ?_ _)); refine blk_far ?_ NB256_262.out _; (with_reducible repeat (first | refine blk_drewN ?_ _ | refine blk_drew ?_ | refine blk_alloc ?_ _)); exact BK256.out⟩
  have n3_ : Aside0 (((w44.setCell ⟨gb262, 0, none⟩ (.int .i64 t258)).setCell ⟨gb262, 1, none⟩ (.slice Ao48 t259.length co48)).heap[gb262]? = some (.cells #[.int .i64 t258, .slice Ao48 t259.length co48] 26 (0, 0))) := ⟨by (with_reducible repeat (first | refine blk_drewN ?_ _ | refine blk_drew ?_ | refine blk_alloc ?_ _)); refine blk_put (cs := #[.int .i64 t258, .slice none 0 0]) ?_ 1 _ rfl; (with_reducible repeat (first | refine blk_drewN ?_ _ | refine blk_drew ?_ | refine blk_alloc ?_ _)); refine blk_put (cs := #[.int .i64 0, .slice none 0 0]) ?_ 0 _ rfl; (with_reducible repeat (first | refine blk_drewN ?_ _ | refine blk_drew ?_ | refine blk_alloc ?_ _)); exact BK262.out⟩
  have n4_ : Aside0 (Below w.heap.size w ((w44.setCell ⟨gb262, 0, none⟩ (.int .i64 t258)).setCell ⟨gb262, 1, none⟩ (.slice Ao48 t259.length co48))) := ⟨bel3 HB GE255 GE256 GE262⟩
  (try clear HO261)
  (try clear BK255)
  (try clear BK256)
  (try clear BK262)
  (try clear HB)
  generalize ((w44.setCell ⟨gb262, 0, none⟩ (.int .i64 t258)).setCell ⟨gb262, 1, none⟩ (.slice Ao48 t259.length co48)) = w49 at n0_ n1_ n2_ n3_ n4_ ⊢
  have HO261 := n0_
  have BK255 := n1_
  have BK256 := n2_
  have BK262 := n3_
  have HB := n4_
  clear n0_ n1_ n2_ n3_ n4_
  have n0_ := Aside0.mk (Kd.S_drew HO261.out)
  have n1_ := Aside0.mk (blk_drew BK255.out)
  have n2_ := Aside0.mk (blk_drew BK256.out)
  have n3_ := Aside0.mk (blk_drew BK262.out)
  have n4_ := Aside0.mk (below_drew1 HB.out)
  clear HO261 BK255 BK256 BK262 HB
  have HO261 := n0_
  have BK255 := n1_
  have BK256 := n2_
  have BK262 := n3_
  have HB := n4_
  clear n0_ n1_ n2_ n3_ n4_
  have p263 : 0 ≤ (a1 : Int) := oda
  have q263 : a1 < (t259.length : Int) := oda
  obtain ⟨ad263, A263_0, c263_0, e263, hx263_0, hl263_0, hi263_0⟩ := at_L2 (Kd.S_reads' HO261.out).2.2 a1 p263 q263
  cases e263
  obtain ⟨ce263, hce263, hMe263, hcc263⟩ := Kd.S_get HO261.out [] a1 p263 (by first | exact q263 | exact oda | (have e_ := (Kd.S_reads' HO261.out).1; omega))
  obtain ⟨ve263_0, rfl, ge263_0⟩ := hMe263
  have hv263_0 := hcc263 0 _ rfl
  rw [Nat.add_zero, show ((Kd.slice 3 (Kd.int .i64))).sz = 1 from rfl, Nat.mul_one] at hv263_0
  replace hv263_0 := Option.some.inj (hv263_0.symm.trans hx263_0)
  rw [hv263_0] at ge263_0
  have HL263_0 := Aside0.mk (show Kd.R (Kd.int .i64) 3 _ _ _ _ (rd_L2 t259 a1) from ge263_0)
  clear hv263_0 ge263_0
  have HX263_0 := Aside0.mk hx263_0
  clear hcc263 hce263
  have HR263_0 := Aside0.mk hi263_0
  have HC263_0 := Aside0.mk hl263_0
  clear hi263_0 hl263_0
  replace p263 := eq_true p263
  replace q263 := eq_true q263
  obtain ⟨go51, co51, eo51, gb51, gl51, cl51, HG51⟩ := Kd.S_form HO261.out (by have h_ : (a1 : Int) < ((t259.length : Int) : Int) := oda; have h2_ : 0 ≤ (a1 : Int) := (oda); omega)
  (first | cases eo51 | (injection eo51 with ea_ en_ ec_; (first | subst ea_ | (injection ea_ with ea_; subst ea_)); subst ec_; clear en_))
  have GB51 := Aside0.mk gb51
  have GG51 := Aside0.mk HG51
  clear gb51 gl51 HG51
  (first | simp only [add_plain] at hx263_0 | skip)
  obtain ⟨oki51, ce51, hcl51, hM51, hcc51, _, _, hH51⟩ := Kd.S_elem HO261.out [] (a1 : Int) (oda) (by have h_ : (a1 : Int) < ((t259.length : Int) : Int) := oda; first | exact h_ | (have e_ := (Kd.S_reads' HO261.out).1; omega) | simpa using h_)
  obtain ⟨ve51_0, rfl, ge51_0⟩ := hM51
  have hv51 := hcc51 0 _ rfl
  have hX51 := HX263_0.out
  (try simp only [add_plain] at hX51)
  (try simp only [Nat.add_zero] at hv51)
  (try rw [show ((Kd.slice 3 (Kd.int .i64))).sz = 1 from rfl, Nat.mul_one] at hv51)
  replace hv51 := Option.some.inj (hv51.symm.trans hX51)
  subst hv51
  clear hX51 hcc51 hcl51
  have UU51 := Aside0.mk (show Kd.R (Kd.int .i64) 3 _ w.heap.size oki51 (.slice A263_0 (rd_L2 t259 a1).length c263_0) (rd_L2 t259 a1) from ge51_0)
  have HH51 := Aside0.mk hH51
  have HN51 := Aside0.mk (Kd.S_reads' HO261.out).1
  clear hH51 ge51_0
  refine start_ (n := 13) (S := fun w' => w'.cell? ⟨gb262, 0, none⟩ = some (.int .i64 t258) ∧ w'.cell? ⟨gb262, 1, none⟩ = some (.slice (some ⟨go51, 0, none⟩) t259.length co48) ∧ w'.cell? ⟨go51, (a1).toNat, none⟩ = some (.slice A263_0 (rd_L2 t259 a1).length c263_0)) (ds := [12]) #[false, false, false, false, false, false, false, false, false, false, false, false, false] (by kernel_rfl) rfl rfl ⟨(blk_cell BK262.out 0).trans rfl, (blk_cell BK262.out 1).trans rfl, hx263_0⟩ (fun hHeld => ?_); refine with_tabW spec_LoadBox.tab4 spec_LoadBox.bits4 (fun HT_ HW_ => ?_)
  generalize w49.drew = w50 at HO261 BK255 BK256 BK262 HB GG51 HH51 HL263_0 HR263_0 HX263_0 UU51 hx263_0 hHeld ⊢
  refine pure_ (i := 0) (N := some 16) (v := ?_) (a' := ?_) #[true, false, false, false, false, false, false, false, false, false, false, false, false] rfl rfl (any_of HT_.out (by kernel_rfl)) (fun _ _ _ h => h) (Or.inl ⟨by rfl, ?_⟩) ?_ ?_
  rotate_left
  ·intro w'
   go_simp
   with_reducible rfl
  rotate_left
  ·simp only [putS]
   rfl
  refine pure_ (i := 2) (N := some 18) (v := ?_) (a' := ?_) #[true, false, true, false, false, false, false, false, false, false, false, false, false] rfl rfl (any_of HT_.out (by kernel_rfl)) (fun _ _ _ h => h) (Or.inl ⟨by rfl, ?_⟩) ?_ ?_
  rotate_left
  ·intro w'
   go_simp
   with_reducible rfl
  rotate_left
  ·simp only [putS]
   rfl
  refine pure_ (i := 3) (N := some 19) (v := ?_) (a' := ?_) #[true, false, true, true, false, false, false, false, false, false, false, false, false] rfl rfl (any_of HT_.out (by kernel_rfl)) (fun _ _ _ h => h) (Or.inl ⟨by rfl, ?_⟩) ?_ ?_
  rotate_left
  ·intro w'
   go_simp
   with_reducible rfl
  rotate_left
  ·simp only [putS]
   rfl
  refine pure_ (i := 5) (N := some 21) (v := ?_) (a' := ?_) #[true, false, true, true, false, true, false, false, false, false, false, false, false] rfl rfl (any_of HT_.out (by kernel_rfl)) (fun _ _ _ h => h) (Or.inl ⟨by rfl, ?_⟩) ?_ ?_
  rotate_left
  ·intro w'
   go_simp
   with_reducible rfl
  rotate_left
  ·simp only [putS]
   rfl
  refine pure_ (i := 8) (N := some 24) (v := ?_) (a' := ?_) #[true, false, true, true, false, true, false, false, true, false, false, false, false] rfl rfl (any_of HT_.out (by kernel_rfl)) (fun _ _ _ h => h) (Or.inl ⟨by rfl, ?_⟩) ?_ ?_
  rotate_left
  ·intro w'
   go_simp
   with_reducible rfl
  rotate_left
  ·simp only [putS]
   rfl
  refine take_ (i := 1) (N := some 17) (v := ?_) (a' := ?_) #[true, true, true, true, false, true, false, false, true, false, false, false, false] rfl rfl (take_ofW HT_.out HW_.out (by kernel_rfl)) (fun _ _ _ h => h) (Or.inl ⟨by rfl, ?_⟩) hHeld ?_ ?_
  rotate_left
  ·rintro w' ⟨s0, s1, s2⟩
   go_simp
   with_reducible rfl
  rotate_left
  ·simp only [putS]
   rfl
  refine take_ (i := 4) (N := some 20) (v := ?_) (a' := ?_) #[true, true, true, true, true, true, false, false, true, false, false, false, false] rfl rfl (take_ofW HT_.out HW_.out (by kernel_rfl)) (fun _ _ _ h => h) (Or.inl ⟨by rfl, ?_⟩) hHeld ?_ ?_
  rotate_left
  ·rintro w' ⟨s0, s1, s2⟩
   go_simp
   with_reducible rfl
  rotate_left
  ·simp only [putS]
   rfl
  refine pure_ (i := 6) (N := some 22) (v := ?_) (a' := ?_) #[true, true, true, true, true, true, true, false, true, false, false, false, false] rfl rfl (any_of HT_.out (by kernel_rfl)) (fun _ _ _ h => h) (Or.inl ⟨by rfl, ?_⟩) ?_ ?_
  rotate_left
  ·intro w'
   go_simp
   with_reducible rfl
  rotate_left
  ·simp only [putS]
   rfl
  refine take_ (i := 7) (N := some 23) (v := ?_) (a' := ?_) #[true, true, true, true, true, true, true, true, true, false, false, false, false] rfl rfl (take_ofW HT_.out HW_.out (by kernel_rfl)) (fun _ _ _ h => h) (Or.inl ⟨by rfl, ?_⟩) hHeld ?_ ?_
  rotate_left
  ·rintro w' ⟨s0, s1, s2⟩
   go_simp
   with_reducible rfl
  rotate_left
  ·simp only [putS]
   rfl
  refine one_ (i := 9) (N := some 25) #[true, true, true, true, true, true, true, true, true, true, false, false, false] rfl rfl (one_of HT_.out (by kernel_rfl)) (by decide) (fun K hK => ?_)
  refine value_ (w1 := ?_) (v := ?_) (by rfl) rfl ?_ ?_
  rotate_left 2
  ·go_simp
   constructor
   ·rfl
   rfl
  refine hK.out _ _ ⟨(blk_cell (blk_alloc BK262.out _) 0).trans rfl, (blk_cell (blk_alloc BK262.out _) 1).trans rfl, (World.cell?_alloc_lt _ _ _ (World.block_lt_of_cell? _ _ (hHeld.2.2))).trans (hHeld.2.2)⟩ (fun hHeld => ?_)
  clear hK K
  refine norm_ (a' := ?_) ?_ ?_
  rotate_left
  ·show Act.put _ (some 25) _ = _
   simp only [putS]
   rfl
  refine one_ (i := 10) (N := some 26) #[true, true, true, true, true, true, true, true, true, true, true, false, false] rfl rfl (one_of HT_.out (by kernel_rfl)) (by decide) (fun K hK => ?_)
  refine Kd.R_append_step (Kd.int .i64) (w0 := w) w.heap.size (by rfl) (.tmp 23) (.tmp 25) 48 3 (.int .i64 0) 8 rfl Tryz.underlying48 info3 rfl (by decide) (by omega) (.slice A263_0 (rd_L2 t259 a1).length c263_0) (rd_L2 t259 a1) a2 [.int .i64 a2] (fun k_ => oki51 k_ ∨ ((fun _ => True)) k_ ∧ w50.heap.size ≤ k_) (fun _ => False) rfl rfl ?aP (fun _ hk => hk.elim) ?aF ?aO ?aB ?aS ?aL ?_
  (case aP => exact rfl)
  (case aB => exact (bel3 HB GE255 GE256 GE262))
  (case aF => exact (fun k_ hk => .inr ⟨trivial, hk⟩))
  (case aO => exact (by (with_reducible repeat (first | apply Kd.R_alloc | apply Kd.R_drewN | apply Kd.R_drew)); exact Kd.R_mono UU51.out (fun _ hk => .inl hk)))
  (case aS => exact (below_size (bel3 HB GE255 GE256 GE262)))
  (case aL => have := LMc9.out; omega)
  intro v265 w52 ho hb hg hat
  (first | have HS2_ := cell_grown hg (hHeld.2.2) (by first | (rw [add_block]; exact (fun e_ => ((HL263_0.out.1 _ e_.symm).2) rfl)) | (show some (Addr.add _ _).block ≠ _; rw [add_block]; exact (fun e_ => ((HL263_0.out.1 _ e_.symm).2) rfl)) | exact (fun e_ => ((HL263_0.out.1 _ e_.symm).2) rfl)) | have HS2_ := cell_grown hg (cell_unalloc (hHeld.2.2) (by first | (rw [add_block]; exact Kd.S_lt HO261.out _ rfl) | (show (Addr.add _ _).block < _; rw [add_block]; exact Kd.S_lt HO261.out _ rfl) | exact Kd.S_lt HO261.out _ rfl)) (by first | (rw [add_block]; exact (fun e_ => ((HL263_0.out.1 _ e_.symm).2) rfl)) | (show some (Addr.add _ _).block ≠ _; rw [add_block]; exact (fun e_ => ((HL263_0.out.1 _ e_.symm).2) rfl)) | exact (fun e_ => ((HL263_0.out.1 _ e_.symm).2) rfl)))
  rw [← Ny264.out] at ho
  have n0_ := Aside0.mk (blk_grown (g := gb255) (o := .cells #[.int .i64 a0_0, .slice A0_1 l0_1.length c0_1] 26 (0, 0)) (bkl BK255) hg (Kd.R_ne HL263_0.out BK255.out (by decide)))
  have n1_ := Aside0.mk (blk_grown (g := gb256) (o := .cells #[.int .i64 0, .slice none 0 0] 26 (0, 0)) (bkl BK256) hg (Kd.R_ne HL263_0.out BK256.out (by decide)))
  have n2_ := Aside0.mk (blk_grown (g := gb262) (o := .cells #[.int .i64 t258, .slice (some ⟨go51, 0, none⟩) t259.length co48] 26 (0, 0)) (bkl BK262) hg (Kd.R_ne HL263_0.out BK262.out (by decide)))
  have n3_ := Aside0.mk (hb)
  have n4_ := Aside0.mk (Kd.H_grown (Kd.H_widen (by repeat (first | exact HH51.out | refine Kd.H_alloc ?_ _ | refine Kd.H_drewN ?_ _ | refine Kd.H_drew ?_))) hg (fun k_ e_ => .inl (UU51.out.1 k_ e_)))
  have n5_ := Aside0.mk (ho)
  clear BK255 BK256 BK262 HB HH51 HO261 UU51 HL263_0
  have BK255 := n0_
  have BK256 := n1_
  have BK262 := n2_
  have HB := n3_
  have HH51 := n4_
  have HO266 := n5_
  clear n0_ n1_ n2_ n3_ n4_ n5_ ho hb hg hat
  have p10 : 0 ≤ (a1 : Int) := oda
  have q10 : (a1 : Int) < ((t259.length : Int) : Int) := oda
  replace p10 := eq_true p10
  replace q10 := eq_true q10
  obtain ⟨Ao55, co55, eo55⟩ := Kd.R_slice HO266.out
  (first | subst eo55 | (injection eo55 with f1_ f2_ f3_; have f4_ := f1_.symm; have f5_ := f3_.symm; clear f1_ f2_ f3_; subst f4_; subst f5_))
  obtain ⟨_, _, hraw53, _, _, hcc53, _⟩ := Kd.H_raw HH51.out (oda) (by have h_ : (a1 : Int) < ((t259.length : Int) : Int) := oda; first | exact h_ | (have e_ := (HN51.out); omega) | simpa using h_)
  obtain ⟨_, hfr53⟩ := Kd.H_at HH51.out (oda) (by have h_ : (a1 : Int) < ((t259.length : Int) : Int) := oda; first | exact h_ | (have e_ := (HN51.out); omega) | simpa using h_)
  have hx53_0 := hcc53 0 _ rfl
  have hf53_0 := hfr53 0
  (try simp only [Nat.add_zero] at hx53_0 hf53_0)
  (try rw [show ((Kd.slice 3 (Kd.int .i64))).sz = 1 from rfl, Nat.mul_one] at hx53_0)
  (try rw [show ((Kd.slice 3 (Kd.int .i64))).sz = 1 from rfl, Nat.mul_one] at hf53_0)
  have HP53 := Kd.S_seg0 HH51.out (oda) (by have h_ : (a1 : Int) < ((t259.length : Int) : Int) := oda; first | exact h_ | (have e_ := (HN51.out); omega) | simpa using h_) (seg := [.slice Ao55 y264.length co55]) (j := 0) (show 1 ≤ 1 from by decide) (x' := y264) (Kd.M_row HO266.out) (fun _ hk => hk)
  (try simp only [show ((Kd.slice 3 (Kd.int .i64))).sz = 1 from rfl, Nat.mul_one, Nat.add_zero] at HP53)
  clear hcc53 hfr53
  have HNB255_go51 := Aside0.mk (show gb255 ≠ go51 from by have h_ := Kd.R_ne hraw53 BK255.out (by decide); intro e_; exact h_ (by rw [e_]; rfl))
  have HNB256_go51 := Aside0.mk (show gb256 ≠ go51 from by have h_ := Kd.R_ne hraw53 BK256.out (by decide); intro e_; exact h_ (by rw [e_]; rfl))
  have HNB262_go51 := Aside0.mk (show gb262 ≠ go51 from by have h_ := Kd.R_ne hraw53 BK262.out (by decide); intro e_; exact h_ (by rw [e_]; rfl))
  have HS53 := HP53.1
  rw [← Ny267.out] at HS53
  have HQ53 := Aside0.mk HS53
  obtain ⟨_, hgg53⟩ := Kd.R_typed hraw53 go51 rfl
  have GG53_ := Aside0.mk hgg53
  clear HP53 HS53 hgg53
  refine hK.out _ _ ⟨(blk_cell BK262.out 0).trans rfl, (blk_cell BK262.out 1).trans rfl, HS2_⟩ (fun hHeld => ?_)
  clear hK K
  refine norm_ (a' := ?_) ?_ ?_
  rotate_left
  ·show Act.put _ (some 26) _ = _
   simp only [putS]
   rfl
  refine pure_ (i := 11) (N := some 27) (v := ?_) (a' := ?_) #[true, true, true, true, true, true, true, true, true, true, true, true, false] rfl rfl (any_of HT_.out (by kernel_rfl)) (fun _ _ _ h => h) (Or.inl ⟨by rfl, ?_⟩) ?_ ?_
  rotate_left
  ·intro w'
   go_simp
   with_reducible rfl
  rotate_left
  ·simp only [putS]
   rfl
  refine last_ (i := 12) (N := none) #[true, true, true, true, true, true, true, true, true, true, true, true, true] rfl rfl (one_of HT_.out (by kernel_rfl)) (by decide) (fun K hK => ?_)
  refine skip_ (w1 := ?_) (by rfl) rfl ?_ ?_
  rotate_left
  ·go_simp
   rfl
  refine hK.out _ _ ?_
  clear hK K
  refine done_ (done_of HT_.out (by kernel_rfl)) ?_
  have n0_ : Aside0 (Kd.S (Kd.slice 3 (Kd.int .i64)) 48 (w52.setCell ⟨go51, (a1 : Int).toNat, none⟩ (.slice Ao55 y264.length co55)) w.heap.size (fun _ => True) (.slice (some ⟨go51, 0, none⟩) t259.length co48) y267) := ⟨sdl HQ53⟩
  have n1_ : Aside0 ((w52.setCell ⟨go51, (a1 : Int).toNat, none⟩ (.slice Ao55 y264.length co55)).heap[gb255]? = some (.cells #[.int .i64 a0_0, .slice A0_1 l0_1.length c0_1] 26 (0, 0))) := ⟨by (with_reducible repeat (first | refine blk_drewN ?_ _ | refine blk_drew ?_ | refine blk_alloc ?_ _)); refine blk_far ?_ HNB255_go51.out _; (with_reducible repeat (first | refine blk_drewN ?_ _ | refine blk_drew ?_ | refine blk_alloc ?_ _)); exact BK255.out⟩
  have n2_ : Aside0 ((w52.setCell ⟨go51, (a1 : Int).toNat, none⟩ (.slice Ao55 y264.length co55)).heap[gb256]? = some (.cells #[.int .i64 0, .slice none 0 0] 26 (0, 0))) := ⟨by (with_reducible repeat (first | refine blk_drewN ?_ _ | refine blk_drew ?_ | refine blk_alloc ?_ _)); refine blk_far ?_ HNB256_go51.out _; (with_reducible repeat (first | refine blk_drewN ?_ _ | refine blk_drew ?_ | refine blk_alloc ?_ _)); exact BK256.out⟩
  have n3_ : Aside0 ((w52.setCell ⟨go51, (a1 : Int).toNat, none⟩ (.slice Ao55 y264.length co55)).heap[gb262]? = some (.cells #[.int .i64 t258, .slice (some ⟨go51, 0, none⟩) t259.length co48] 26 (0, 0))) := ⟨by (with_reducible repeat (first | refine blk_drewN ?_ _ | refine blk_drew ?_ | refine blk_alloc ?_ _)); refine blk_far ?_ HNB262_go51.out _; (with_reducible repeat (first | refine blk_drewN ?_ _ | refine blk_drew ?_ | refine blk_alloc ?_ _)); exact BK262.out⟩
  have n4_ : Aside0 (Below w.heap.size w (w52.setCell ⟨go51, (a1 : Int).toNat, none⟩ (.slice Ao55 y264.length co55))) := ⟨by repeat (first | (with_reducible first | exact HB.out | apply below_alloc | apply pw_below_drewN | apply below_drew1 | refine below_set ?_ GB51.out | refine below_set ?_ GE255.out | refine below_set ?_ GE256.out | refine below_set ?_ GE262.out) | exact HB.out)⟩
  (try clear HO261)
  (try clear BK255)
  (try clear BK256)
  (try clear BK262)
  (try clear HB)
  generalize (w52.setCell ⟨go51, (a1 : Int).toNat, none⟩ (.slice Ao55 y264.length co55)) = w56 at n0_ n1_ n2_ n3_ n4_ ⊢
  have HO261 := n0_
  have BK255 := n1_
  have BK256 := n2_
  have BK262 := n3_
  have HB := n4_
  clear n0_ n1_ n2_ n3_ n4_
  have hcz57_0 : w56.cell? ⟨gb262, 0, none⟩ = some (.int .i64 t258) := (blk_cell BK262.out 0).trans rfl
  have hcz57_1 : w56.cell? ⟨gb262, 1, none⟩ = some (.slice (some ⟨go51, 0, none⟩) t259.length co48) := (blk_cell BK262.out 1).trans rfl
  have hfz57_0 := blk_frozen BK262.out 0
  have hfz57_1 := blk_frozen BK262.out 1
  try go_wp2_with (first | ((with_reducible refine gate_callee (f := 23) rfl ?_); refine goesL_ (some 29) rfl rfl Tryz.func23 (by kernel_rfl) rfl #[.agg #[.int .i64 t258, .slice (some ⟨go51, 0, none⟩) y267.length co48]] rfl (by (try simp only [List.map_toArray, List.map_cons, List.map_nil]); first | done | (rw [show y267.length = t259.length from (Kd.S_reads' HO261.out).1.symm] <;> rfl) | rfl | (simp only [List.length_drop, List.length_take]; rfl)) ?_; (with_reducible refine (spec_l9Good.calls k t258 _ _ y267 false _ ?side1 ?side2 A11.out).mono ?_); (case side1 => exact cdl (Kd.S_reads' HO261.out).2.2); (case side2 => rw [show y267.length = t259.length from (Kd.S_reads' HO261.out).1.symm]; exact (Kd.S_reads' HO261.out).2.1); rintro e w58 ⟨rfl, hb⟩; refine ⟨_, rfl, ?_⟩; have n0_ := Aside0.mk (Kd.S_below (sdl HO261) hb); have n1_ := Aside0.mk (blk_below (g := gb255) (o := .cells #[.int .i64 a0_0, .slice A0_1 l0_1.length c0_1] 26 (0, 0)) (bkl BK255) hb); have n2_ := Aside0.mk (blk_below (g := gb256) (o := .cells #[.int .i64 0, .slice none 0 0] 26 (0, 0)) (bkl BK256) hb); have n3_ := Aside0.mk (blk_below (g := gb262) (o := .cells #[.int .i64 t258, .slice (some ⟨go51, 0, none⟩) t259.length co48] 26 (0, 0)) (bkl BK262) hb); have n4_ := Aside0.mk (below_step (bel3 HB GE255 GE256 GE262) hb); clear HO261; clear BK255; clear BK256; clear BK262; clear HB; have HO261 := n0_; have BK255 := n1_; have BK256 := n2_; have BK262 := n3_; have HB := n4_; clear n0_ n1_ n2_ n3_ n4_; (try clear hb); (try clear hb2); (try clear hk); (try clear hi); have hcz59_0 : w58.cell? ⟨gb256, 0, none⟩ = some (.int .i64 0) := (blk_cell BK256.out 0).trans rfl; have hcz59_1 : w58.cell? ⟨gb256, 1, none⟩ = some (.slice none 0 0) := (blk_cell BK256.out 1).trans rfl; have hfz59_0 := blk_frozen BK256.out 0; have hfz59_1 := blk_frozen BK256.out 1))
  refine bodyPost_ret (results_ct rfl _ _ gb256 26 #[.int .i64 0, .slice none 0 0] (0, 0) _ rfl (by (with_reducible repeat (first | refine blk_drewN ?_ _ | refine blk_drew ?_ | refine blk_alloc ?_ _)); refine blk_put (cs := #[.int .i64 0, .slice none 0 0]) ?_ 1 _ rfl; (with_reducible repeat (first | refine blk_drewN ?_ _ | refine blk_drew ?_ | refine blk_alloc ?_ _)); refine blk_put (cs := #[.int .i64 0, .slice none 0 0]) ?_ 0 _ rfl; (with_reducible repeat (first | refine blk_drewN ?_ _ | refine blk_drew ?_ | refine blk_alloc ?_ _)); exact BK256.out) Tryz.underlying26 rfl (by kernel_rfl)) rfl ?_
  exact ⟨_, by first | rfl | (simp [errW_none, errW_some] <;> rfl) | (simp [*, errW_none, errW_some] <;> rfl), by first | exact Kd.S_nil _ _ _ _ _ | exact Kd.N_nil _ _ _ _ _ | exact Kd.V_nil _ _ _ _ _ | exact Kd.Q_nil _ _ _ _ _ | exact Kd.R_nil _ _ _ _ _, bel3 HB GE255 GE256 GE262⟩
 subst c12
 have H1 : (some (t258, y267, true)) = some (r1, r2, r3) := by rw [if_pos rfl] at H; exact H
 clear H
 have H := H1
 clear H1
 simp only [Option.some.injEq, Prod.mk.injEq] at H
 obtain ⟨rfl, rfl, rfl⟩ := H
 go_enter Tryz.func7, Tryz.ntmps7
 try go_wp2_with (first | ((with_reducible refine gate_dst (N := 3) rfl ?_); refine box_event ?hg (N := 3) ?hd (cs := #[.int .i64 a0_0, .slice A0_1 l0_1.length c0_1]) (t := 26) ?hr ?_; (case hd => rfl); (case hg => rfl); (case hr => first | (go_simp; done) | (go_simp; rfl)); intro gb255 hg w13 hbox hb; have n0_ := Aside0.mk (below_step (bel HB) hb); have n1_ := Aside0.mk (hbox); have n2_ := Aside0.mk ((by rw [hg]; exact (below_size (bel HB)) : w.heap.size ≤ gb255)); have n3_ := Aside0.mk ((by rw [hg]; exact (below_size (bel HB)) : w.heap.size ≤ gb255)); clear HB; have HB := n0_; have BK255 := n1_; have GW255 := n2_; have GE255 := n3_; clear n0_ n1_ n2_ n3_; clear hb hbox hg) | ((with_reducible refine gate_dst (N := 6) rfl ?_); refine box_event ?hg (N := 6) ?hd (cs := #[.int .i64 0, .slice none 0 0]) (t := 26) ?hr ?_; (case hd => rfl); (case hg => rfl); (case hr => first | (go_simp; done) | (go_simp; rfl)); intro gb256 hg w14 hbox hb; have n0_ := Aside0.mk (blk_below (g := gb255) (o := .cells #[.int .i64 a0_0, .slice A0_1 l0_1.length c0_1] 26 (0, 0)) (bkl BK255) hb); have n1_ := Aside0.mk (below_step (bel1 HB GE255) hb); have n2_ := Aside0.mk (hbox); have n3_ := Aside0.mk ((by rw [hg]; exact (below_size (bel1 HB GE255)) : w.heap.size ≤ gb256)); have n4_ := Aside0.mk ((by rw [hg]; exact (below_size (bel1 HB GE255)) : w.heap.size ≤ gb256)); have n5_ := Aside0.mk ((by rw [hg]; exact Nat.ne_of_lt (blk_lt (g := gb255) (o := .cells #[.int .i64 a0_0, .slice A0_1 l0_1.length c0_1] 26 (0, 0)) (bkl BK255)) : gb255 ≠ gb256)); have n6_ := Aside0.mk ((by rw [hg]; exact Nat.ne_of_gt (blk_lt (g := gb255) (o := .cells #[.int .i64 a0_0, .slice A0_1 l0_1.length c0_1] 26 (0, 0)) (bkl BK255)) : gb256 ≠ gb255)); clear BK255; clear HB; have BK255 := n0_; have HB := n1_; have BK256 := n2_; have GW256 := n3_; have GE256 := n4_; have NB255_256 := n5_; have NB256_255 := n6_; clear n0_ n1_ n2_ n3_ n4_ n5_ n6_; clear hb hbox hg; have hnb15 := NB255_256.out; have hnc15 := NB256_255.out; have hcz16_0 : w14.cell? ⟨gb255, 0, none⟩ = some (.int .i64 a0_0) := (blk_cell BK255.out 0).trans rfl; have hcz16_1 : w14.cell? ⟨gb255, 1, none⟩ = some (.slice A0_1 l0_1.length c0_1) := (blk_cell BK255.out 1).trans rfl; have hfz16_0 := blk_frozen BK255.out 0; have hfz16_1 := blk_frozen BK255.out 1) | ((with_reducible refine gate_callee (f := 21) rfl ?_); refine goesL_ (some 11) rfl rfl Tryz.func21 (by kernel_rfl) rfl #[.agg #[.int .i64 a0_0, .slice A0_1 l0_1.length c0_1], .int .i64 a1] rfl gmp ?_; (with_reducible refine (spec_l9Row.calls k a0_0 _ _ l0_1 a1 true _ ?side1 ?side2 A4.out).mono ?_); (case side1 => exact cdl (Kd.C_below HR0_1.out HB.out)); (case side2 => exact HC0_1.out); rintro e w17 ⟨rfl, hb⟩; refine ⟨_, rfl, ?_⟩; have n0_ := Aside0.mk (blk_below (g := gb255) (o := .cells #[.int .i64 a0_0, .slice A0_1 l0_1.length c0_1] 26 (0, 0)) (bkl BK255) hb); have n1_ := Aside0.mk (blk_below (g := gb256) (o := .cells #[.int .i64 0, .slice none 0 0] 26 (0, 0)) (bkl BK256) hb); have n2_ := Aside0.mk (below_step (bel2 HB GE255 GE256) hb); clear BK255; clear BK256; clear HB; have BK255 := n0_; have BK256 := n1_; have HB := n2_; clear n0_ n1_ n2_; (try clear hb); (try clear hb2); (try clear hk); (try clear hi); have hcz18_0 : w17.cell? ⟨gb255, 0, none⟩ = some (.int .i64 a0_0) := (blk_cell BK255.out 0).trans rfl; have hcz18_1 : w17.cell? ⟨gb255, 1, none⟩ = some (.slice A0_1 l0_1.length c0_1) := (blk_cell BK255.out 1).trans rfl; have hfz18_0 := blk_frozen BK255.out 0; have hfz18_1 := blk_frozen BK255.out 1) | ((with_reducible refine gate_callee (f := 22) rfl ?_); refine goesL_ (some 15) rfl rfl Tryz.func22 (by kernel_rfl) rfl #[.agg #[.int .i64 a0_0, .slice A0_1 l0_1.length c0_1]] rfl gmp ?_; (with_reducible refine (spec_l9Own.calls k a0_0 _ _ l0_1 t258 t259 _ ?side1 ?side2 A6.out).mono ?_); (case side1 => exact cdl (Kd.C_below HR0_1.out HB.out)); (case side2 => exact HC0_1.out); rintro e w19 ⟨v260, rfl, ho0, hb⟩; refine ⟨_, rfl, ?_⟩; have n0_ := Aside0.mk (Kd.S_lower ho0 (below_size (bel2 HB GE255 GE256))); have n1_ := Aside0.mk (blk_below (g := gb255) (o := .cells #[.int .i64 a0_0, .slice A0_1 l0_1.length c0_1] 26 (0, 0)) (bkl BK255) hb); have n2_ := Aside0.mk (blk_below (g := gb256) (o := .cells #[.int .i64 0, .slice none 0 0] 26 (0, 0)) (bkl BK256) hb); have n3_ := Aside0.mk (below_step (bel2 HB GE255 GE256) hb); clear BK255; clear BK256; clear HB; have HO261 := n0_; have BK255 := n1_; have BK256 := n2_; have HB := n3_; clear n0_ n1_ n2_ n3_; (try clear hb); (try clear hb2); (try clear hk); (try clear hi); (try clear ho0)) | ((with_reducible refine gate_dst (N := 8) rfl ?_); refine box_event ?hg (N := 8) ?hd (cs := #[.int .i64 0, .slice none 0 0]) (t := 26) ?hr ?_; (case hd => rfl); (case hg => rfl); (case hr => first | (go_simp; done) | (go_simp; rfl)); intro gb262 hg w20 hbox hb; have n0_ := Aside0.mk (Kd.S_below (sdl HO261) hb); have n1_ := Aside0.mk (blk_below (g := gb255) (o := .cells #[.int .i64 a0_0, .slice A0_1 l0_1.length c0_1] 26 (0, 0)) (bkl BK255) hb); have n2_ := Aside0.mk (blk_below (g := gb256) (o := .cells #[.int .i64 0, .slice none 0 0] 26 (0, 0)) (bkl BK256) hb); have n3_ := Aside0.mk (below_step (bel2 HB GE255 GE256) hb); have n4_ := Aside0.mk (hbox); have n5_ := Aside0.mk ((by rw [hg]; exact (below_size (bel2 HB GE255 GE256)) : w.heap.size ≤ gb262)); have n6_ := Aside0.mk ((by rw [hg]; exact (below_size (bel2 HB GE255 GE256)) : w.heap.size ≤ gb262)); have n7_ := Aside0.mk ((by rw [hg]; exact Nat.ne_of_lt (blk_lt (g := gb255) (o := .cells #[.int .i64 a0_0, .slice A0_1 l0_1.length c0_1] 26 (0, 0)) (bkl BK255)) : gb255 ≠ gb262)); have n8_ := Aside0.mk ((by rw [hg]; exact Nat.ne_of_gt (blk_lt (g := gb255) (o := .cells #[.int .i64 a0_0, .slice A0_1 l0_1.length c0_1] 26 (0, 0)) (bkl BK255)) : gb262 ≠ gb255)); have n9_ := Aside0.mk ((by rw [hg]; exact Nat.ne_of_lt (blk_lt (g := gb256) (o := .cells #[.int .i64 0, .slice none 0 0] 26 (0, 0)) (bkl BK256)) : gb256 ≠ gb262)); have n10_ := Aside0.mk ((by rw [hg]; exact Nat.ne_of_gt (blk_lt (g := gb256) (o := .cells #[.int .i64 0, .slice none 0 0] 26 (0, 0)) (bkl BK256)) : gb262 ≠ gb256)); clear HO261; clear BK255; clear BK256; clear HB; have HO261 := n0_; have BK255 := n1_; have BK256 := n2_; have HB := n3_; have BK262 := n4_; have GW262 := n5_; have GE262 := n6_; have NB255_262 := n7_; have NB262_255 := n8_; have NB256_262 := n9_; have NB262_256 := n10_; clear n0_ n1_ n2_ n3_ n4_ n5_ n6_ n7_ n8_ n9_ n10_; clear hb hbox hg; have hnb21 := NB262_255.out; have hnc21 := NB255_262.out; have hnb22 := NB262_256.out; have hnc22 := NB256_262.out; have hcz23_0 : w20.cell? ⟨gb262, 0, none⟩ = some (.int .i64 0) := (blk_cell BK262.out 0).trans rfl; have hcz23_1 : w20.cell? ⟨gb262, 1, none⟩ = some (.slice none 0 0) := (blk_cell BK262.out 1).trans rfl; have hfz23_0 := blk_frozen BK262.out 0; have hfz23_1 := blk_frozen BK262.out 1; obtain ⟨Ao24, co24, eo24⟩ := Kd.S_slice HO261.out; subst eo24))
 have n0_ : Aside0 (Kd.S (Kd.slice 3 (Kd.int .i64)) 48 ((w20.setCell ⟨gb262, 0, none⟩ (.int .i64 t258)).setCell ⟨gb262, 1, none⟩ (.slice Ao24 t259.length co24)) w.heap.size (fun _ => True) (.slice Ao24 t259.length co24) t259) := ⟨by (with_reducible repeat (first | apply Kd.S_alloc | apply Kd.S_drewN | apply Kd.S_drew)); exact Kd.S_mono (Kd.S_far (p := ⟨gb262, 1, none⟩) (Kd.S_far (p := ⟨gb262, 0, none⟩) (Kd.S_types HO261.out BK262.out (by decide)) (fun _ hk => hk.2) (.int .i64 t258)) (fun _ hk => hk.2) (.slice Ao24 t259.length co24)) (fun _ hk => trivial)⟩
 have n1_ : Aside0 (((w20.setCell ⟨gb262, 0, none⟩ (.int .i64 t258)).setCell ⟨gb262, 1, none⟩ (.slice Ao24 t259.length co24)).heap[gb255]? = some (.cells #[.int .i64 a0_0, .slice A0_1 l0_1.length c0_1] 26 (0, 0))) := ⟨by (with_reducible repeat (first | refine blk_drewN ?_ _ | refine blk_drew ?_ | refine blk_alloc ?_ _)); refine blk_far ?_ NB255_262.out _; (with_reducible repeat (first | refine blk_drewN ?_ _ | refine blk_drew ?_ | refine blk_alloc ?_ _)); refine blk_far ?_ NB255_262.out _; (with_reducible repeat (first | refine blk_drewN ?_ _ | refine blk_drew ?_ | refine blk_alloc ?_ _)); exact BK255.out⟩
 have n2_ : Aside0 (((w20.setCell ⟨gb262, 0, none⟩ (.int .i64 t258)).setCell ⟨gb262, 1, none⟩ (.slice Ao24 t259.length co24)).heap[gb256]? = some (.cells #[.int .i64 0, .slice none 0 0] 26 (0, 0))) := ⟨by (with_reducible repeat (first | refine blk_drewN ?_ _ | refine blk_drew ?_ | refine blk_alloc ?_ _)); refine blk_far ?_ NB256_262.out _; (with_reducible repeat (first | refine blk_drewN ?_ _ | refine blk_drew ?_ | refine blk_alloc ?_ _)); refine blk_far ?_ NB256_262.out _; (with_reducible repeat (first | refine blk_drewN ?_ _ | refine blk_drew ?_ | refine blk_alloc ?_ _)); exact BK256.out⟩
 have n3_ : Aside0 (((w20.setCell ⟨gb262, 0, none⟩ (.int .i64 t258)).setCell ⟨gb262, 1, none⟩ (.slice Ao24 t259.length co24)).heap[gb262]? = some (.cells #[.int .i64 t258, .slice Ao24 t259.length co24] 26 (0, 0))) := ⟨by (with_reducible repeat (first | refine blk_drewN ?_ _ | refine blk_drew ?_ | refine blk_alloc ?_ _)); refine blk_put (cs := #[.int .i64 t258, .slice none 0 0]) ?_ 1 _ rfl; (with_reducible repeat (first | refine blk_drewN ?_ _ | refine blk_drew ?_ | refine blk_alloc ?_ _)); refine blk_put (cs := #[.int .i64 0, .slice none 0 0]) ?_ 0 _ rfl; (with_reducible repeat (first | refine blk_drewN ?_ _ | refine blk_drew ?_ | refine blk_alloc ?_ _)); exact BK262.out⟩
 have n4_ : Aside0 (Below w.heap.size w ((w20.setCell ⟨gb262, 0, none⟩ (.int .i64 t258)).setCell ⟨gb262, 1, none⟩ (.slice Ao24 t259.length co24))) := ⟨bel3 HB GE255 GE256 GE262⟩
 (try clear HO261)
 (try clear BK255)
 (try clear BK256)
 (try clear BK262)
 (try clear HB)
 generalize ((w20.setCell ⟨gb262, 0, none⟩ (.int .i64 t258)).setCell ⟨gb262, 1, none⟩ (.slice Ao24 t259.length co24)) = w25 at n0_ n1_ n2_ n3_ n4_ ⊢
 have HO261 := n0_
 have BK255 := n1_
 have BK256 := n2_
 have BK262 := n3_
 have HB := n4_
 clear n0_ n1_ n2_ n3_ n4_
 have n0_ := Aside0.mk (Kd.S_drew HO261.out)
 have n1_ := Aside0.mk (blk_drew BK255.out)
 have n2_ := Aside0.mk (blk_drew BK256.out)
 have n3_ := Aside0.mk (blk_drew BK262.out)
 have n4_ := Aside0.mk (below_drew1 HB.out)
 clear HO261 BK255 BK256 BK262 HB
 have HO261 := n0_
 have BK255 := n1_
 have BK256 := n2_
 have BK262 := n3_
 have HB := n4_
 clear n0_ n1_ n2_ n3_ n4_
 have p263 : 0 ≤ (a1 : Int) := oda
 have q263 : a1 < (t259.length : Int) := oda
 obtain ⟨ad263, A263_0, c263_0, e263, hx263_0, hl263_0, hi263_0⟩ := at_L2 (Kd.S_reads' HO261.out).2.2 a1 p263 q263
 cases e263
 obtain ⟨ce263, hce263, hMe263, hcc263⟩ := Kd.S_get HO261.out [] a1 p263 (by first | exact q263 | exact oda | (have e_ := (Kd.S_reads' HO261.out).1; omega))
 obtain ⟨ve263_0, rfl, ge263_0⟩ := hMe263
 have hv263_0 := hcc263 0 _ rfl
 rw [Nat.add_zero, show ((Kd.slice 3 (Kd.int .i64))).sz = 1 from rfl, Nat.mul_one] at hv263_0
 replace hv263_0 := Option.some.inj (hv263_0.symm.trans hx263_0)
 rw [hv263_0] at ge263_0
 have HL263_0 := Aside0.mk (show Kd.R (Kd.int .i64) 3 _ _ _ _ (rd_L2 t259 a1) from ge263_0)
 clear hv263_0 ge263_0
 have HX263_0 := Aside0.mk hx263_0
 clear hcc263 hce263
 have HR263_0 := Aside0.mk hi263_0
 have HC263_0 := Aside0.mk hl263_0
 clear hi263_0 hl263_0
 replace p263 := eq_true p263
 replace q263 := eq_true q263
 obtain ⟨go27, co27, eo27, gb27, gl27, cl27, HG27⟩ := Kd.S_form HO261.out (by have h_ : (a1 : Int) < ((t259.length : Int) : Int) := oda; have h2_ : 0 ≤ (a1 : Int) := (oda); omega)
 (first | cases eo27 | (injection eo27 with ea_ en_ ec_; (first | subst ea_ | (injection ea_ with ea_; subst ea_)); subst ec_; clear en_))
 have GB27 := Aside0.mk gb27
 have GG27 := Aside0.mk HG27
 clear gb27 gl27 HG27
 (first | simp only [add_plain] at hx263_0 | skip)
 obtain ⟨oki27, ce27, hcl27, hM27, hcc27, _, _, hH27⟩ := Kd.S_elem HO261.out [] (a1 : Int) (oda) (by have h_ : (a1 : Int) < ((t259.length : Int) : Int) := oda; first | exact h_ | (have e_ := (Kd.S_reads' HO261.out).1; omega) | simpa using h_)
 obtain ⟨ve27_0, rfl, ge27_0⟩ := hM27
 have hv27 := hcc27 0 _ rfl
 have hX27 := HX263_0.out
 (try simp only [add_plain] at hX27)
 (try simp only [Nat.add_zero] at hv27)
 (try rw [show ((Kd.slice 3 (Kd.int .i64))).sz = 1 from rfl, Nat.mul_one] at hv27)
 replace hv27 := Option.some.inj (hv27.symm.trans hX27)
 subst hv27
 clear hX27 hcc27 hcl27
 have UU27 := Aside0.mk (show Kd.R (Kd.int .i64) 3 _ w.heap.size oki27 (.slice A263_0 (rd_L2 t259 a1).length c263_0) (rd_L2 t259 a1) from ge27_0)
 have HH27 := Aside0.mk hH27
 have HN27 := Aside0.mk (Kd.S_reads' HO261.out).1
 clear hH27 ge27_0
 refine start_ (n := 13) (S := fun w' => w'.cell? ⟨gb262, 0, none⟩ = some (.int .i64 t258) ∧ w'.cell? ⟨gb262, 1, none⟩ = some (.slice (some ⟨go27, 0, none⟩) t259.length co24) ∧ w'.cell? ⟨go27, (a1).toNat, none⟩ = some (.slice A263_0 (rd_L2 t259 a1).length c263_0)) (ds := [12]) #[false, false, false, false, false, false, false, false, false, false, false, false, false] (by kernel_rfl) rfl rfl ⟨(blk_cell BK262.out 0).trans rfl, (blk_cell BK262.out 1).trans rfl, hx263_0⟩ (fun hHeld => ?_); refine with_tabW spec_LoadBox.tab4 spec_LoadBox.bits4 (fun HT_ HW_ => ?_)
 generalize w25.drew = w26 at HO261 BK255 BK256 BK262 HB GG27 HH27 HL263_0 HR263_0 HX263_0 UU27 hx263_0 hHeld ⊢
 refine pure_ (i := 0) (N := some 16) (v := ?_) (a' := ?_) #[true, false, false, false, false, false, false, false, false, false, false, false, false] rfl rfl (any_of HT_.out (by kernel_rfl)) (fun _ _ _ h => h) (Or.inl ⟨by rfl, ?_⟩) ?_ ?_
 rotate_left
 ·intro w'
  go_simp
  with_reducible rfl
 rotate_left
 ·simp only [putS]
  rfl
 refine pure_ (i := 2) (N := some 18) (v := ?_) (a' := ?_) #[true, false, true, false, false, false, false, false, false, false, false, false, false] rfl rfl (any_of HT_.out (by kernel_rfl)) (fun _ _ _ h => h) (Or.inl ⟨by rfl, ?_⟩) ?_ ?_
 rotate_left
 ·intro w'
  go_simp
  with_reducible rfl
 rotate_left
 ·simp only [putS]
  rfl
 refine pure_ (i := 3) (N := some 19) (v := ?_) (a' := ?_) #[true, false, true, true, false, false, false, false, false, false, false, false, false] rfl rfl (any_of HT_.out (by kernel_rfl)) (fun _ _ _ h => h) (Or.inl ⟨by rfl, ?_⟩) ?_ ?_
 rotate_left
 ·intro w'
  go_simp
  with_reducible rfl
 rotate_left
 ·simp only [putS]
  rfl
 refine pure_ (i := 5) (N := some 21) (v := ?_) (a' := ?_) #[true, false, true, true, false, true, false, false, false, false, false, false, false] rfl rfl (any_of HT_.out (by kernel_rfl)) (fun _ _ _ h => h) (Or.inl ⟨by rfl, ?_⟩) ?_ ?_
 rotate_left
 ·intro w'
  go_simp
  with_reducible rfl
 rotate_left
 ·simp only [putS]
  rfl
 refine pure_ (i := 8) (N := some 24) (v := ?_) (a' := ?_) #[true, false, true, true, false, true, false, false, true, false, false, false, false] rfl rfl (any_of HT_.out (by kernel_rfl)) (fun _ _ _ h => h) (Or.inl ⟨by rfl, ?_⟩) ?_ ?_
 rotate_left
 ·intro w'
  go_simp
  with_reducible rfl
 rotate_left
 ·simp only [putS]
  rfl
 refine take_ (i := 1) (N := some 17) (v := ?_) (a' := ?_) #[true, true, true, true, false, true, false, false, true, false, false, false, false] rfl rfl (take_ofW HT_.out HW_.out (by kernel_rfl)) (fun _ _ _ h => h) (Or.inl ⟨by rfl, ?_⟩) hHeld ?_ ?_
 rotate_left
 ·rintro w' ⟨s0, s1, s2⟩
  go_simp
  with_reducible rfl
 rotate_left
 ·simp only [putS]
  rfl
 refine take_ (i := 4) (N := some 20) (v := ?_) (a' := ?_) #[true, true, true, true, true, true, false, false, true, false, false, false, false] rfl rfl (take_ofW HT_.out HW_.out (by kernel_rfl)) (fun _ _ _ h => h) (Or.inl ⟨by rfl, ?_⟩) hHeld ?_ ?_
 rotate_left
 ·rintro w' ⟨s0, s1, s2⟩
  go_simp
  with_reducible rfl
 rotate_left
 ·simp only [putS]
  rfl
 refine pure_ (i := 6) (N := some 22) (v := ?_) (a' := ?_) #[true, true, true, true, true, true, true, false, true, false, false, false, false] rfl rfl (any_of HT_.out (by kernel_rfl)) (fun _ _ _ h => h) (Or.inl ⟨by rfl, ?_⟩) ?_ ?_
 rotate_left
 ·intro w'
  go_simp
  with_reducible rfl
 rotate_left
 ·simp only [putS]
  rfl
 refine take_ (i := 7) (N := some 23) (v := ?_) (a' := ?_) #[true, true, true, true, true, true, true, true, true, false, false, false, false] rfl rfl (take_ofW HT_.out HW_.out (by kernel_rfl)) (fun _ _ _ h => h) (Or.inl ⟨by rfl, ?_⟩) hHeld ?_ ?_
 rotate_left
 ·rintro w' ⟨s0, s1, s2⟩
  go_simp
  with_reducible rfl
 rotate_left
 ·simp only [putS]
  rfl
 refine one_ (i := 9) (N := some 25) #[true, true, true, true, true, true, true, true, true, true, false, false, false] rfl rfl (one_of HT_.out (by kernel_rfl)) (by decide) (fun K hK => ?_)
 refine value_ (w1 := ?_) (v := ?_) (by rfl) rfl ?_ ?_
 rotate_left 2
 ·go_simp
  constructor
  ·rfl
  rfl
 refine hK.out _ _ ⟨(blk_cell (blk_alloc BK262.out _) 0).trans rfl, (blk_cell (blk_alloc BK262.out _) 1).trans rfl, (World.cell?_alloc_lt _ _ _ (World.block_lt_of_cell? _ _ (hHeld.2.2))).trans (hHeld.2.2)⟩ (fun hHeld => ?_)
 clear hK K
 refine norm_ (a' := ?_) ?_ ?_
 rotate_left
 ·show Act.put _ (some 25) _ = _
  simp only [putS]
  rfl
 refine one_ (i := 10) (N := some 26) #[true, true, true, true, true, true, true, true, true, true, true, false, false] rfl rfl (one_of HT_.out (by kernel_rfl)) (by decide) (fun K hK => ?_)
 refine Kd.R_append_step (Kd.int .i64) (w0 := w) w.heap.size (by rfl) (.tmp 23) (.tmp 25) 48 3 (.int .i64 0) 8 rfl Tryz.underlying48 info3 rfl (by decide) (by omega) (.slice A263_0 (rd_L2 t259 a1).length c263_0) (rd_L2 t259 a1) a2 [.int .i64 a2] (fun k_ => oki27 k_ ∨ ((fun _ => True)) k_ ∧ w26.heap.size ≤ k_) (fun _ => False) rfl rfl ?aP (fun _ hk => hk.elim) ?aF ?aO ?aB ?aS ?aL ?_
 (case aP => exact rfl)
 (case aB => exact (bel3 HB GE255 GE256 GE262))
 (case aF => exact (fun k_ hk => .inr ⟨trivial, hk⟩))
 (case aO => exact (by (with_reducible repeat (first | apply Kd.R_alloc | apply Kd.R_drewN | apply Kd.R_drew)); exact Kd.R_mono UU27.out (fun _ hk => .inl hk)))
 (case aS => exact (below_size (bel3 HB GE255 GE256 GE262)))
 (case aL => have := LMc9.out; omega)
 intro v265 w28 ho hb hg hat
 (first | have HS2_ := cell_grown hg (hHeld.2.2) (by first | (rw [add_block]; exact (fun e_ => ((HL263_0.out.1 _ e_.symm).2) rfl)) | (show some (Addr.add _ _).block ≠ _; rw [add_block]; exact (fun e_ => ((HL263_0.out.1 _ e_.symm).2) rfl)) | exact (fun e_ => ((HL263_0.out.1 _ e_.symm).2) rfl)) | have HS2_ := cell_grown hg (cell_unalloc (hHeld.2.2) (by first | (rw [add_block]; exact Kd.S_lt HO261.out _ rfl) | (show (Addr.add _ _).block < _; rw [add_block]; exact Kd.S_lt HO261.out _ rfl) | exact Kd.S_lt HO261.out _ rfl)) (by first | (rw [add_block]; exact (fun e_ => ((HL263_0.out.1 _ e_.symm).2) rfl)) | (show some (Addr.add _ _).block ≠ _; rw [add_block]; exact (fun e_ => ((HL263_0.out.1 _ e_.symm).2) rfl)) | exact (fun e_ => ((HL263_0.out.1 _ e_.symm).2) rfl)))
 rw [← Ny264.out] at ho
 have n0_ := Aside0.mk (blk_grown (g := gb255) (o := .cells #[.int .i64 a0_0, .slice A0_1 l0_1.length c0_1] 26 (0, 0)) (bkl BK255) hg (Kd.R_ne HL263_0.out BK255.out (by decide)))
 have n1_ := Aside0.mk (blk_grown (g := gb256) (o := .cells #[.int .i64 0, .slice none 0 0] 26 (0, 0)) (bkl BK256) hg (Kd.R_ne HL263_0.out BK256.out (by decide)))
 have n2_ := Aside0.mk (blk_grown (g := gb262) (o := .cells #[.int .i64 t258, .slice (some ⟨go27, 0, none⟩) t259.length co24] 26 (0, 0)) (bkl BK262) hg (Kd.R_ne HL263_0.out BK262.out (by decide)))
 have n3_ := Aside0.mk (hb)
 have n4_ := Aside0.mk (Kd.H_grown (Kd.H_widen (by repeat (first | exact HH27.out | refine Kd.H_alloc ?_ _ | refine Kd.H_drewN ?_ _ | refine Kd.H_drew ?_))) hg (fun k_ e_ => .inl (UU27.out.1 k_ e_)))
 have n5_ := Aside0.mk (ho)
 clear BK255 BK256 BK262 HB HH27 HO261 UU27 HL263_0
 have BK255 := n0_
 have BK256 := n1_
 have BK262 := n2_
 have HB := n3_
 have HH27 := n4_
 have HO266 := n5_
 clear n0_ n1_ n2_ n3_ n4_ n5_ ho hb hg hat
 have p10 : 0 ≤ (a1 : Int) := oda
 have q10 : (a1 : Int) < ((t259.length : Int) : Int) := oda
 replace p10 := eq_true p10
 replace q10 := eq_true q10
 obtain ⟨Ao31, co31, eo31⟩ := Kd.R_slice HO266.out
 (first | subst eo31 | (injection eo31 with f1_ f2_ f3_; have f4_ := f1_.symm; have f5_ := f3_.symm; clear f1_ f2_ f3_; subst f4_; subst f5_))
 obtain ⟨_, _, hraw29, _, _, hcc29, _⟩ := Kd.H_raw HH27.out (oda) (by have h_ : (a1 : Int) < ((t259.length : Int) : Int) := oda; first | exact h_ | (have e_ := (HN27.out); omega) | simpa using h_)
 obtain ⟨_, hfr29⟩ := Kd.H_at HH27.out (oda) (by have h_ : (a1 : Int) < ((t259.length : Int) : Int) := oda; first | exact h_ | (have e_ := (HN27.out); omega) | simpa using h_)
 have hx29_0 := hcc29 0 _ rfl
 have hf29_0 := hfr29 0
 (try simp only [Nat.add_zero] at hx29_0 hf29_0)
 (try rw [show ((Kd.slice 3 (Kd.int .i64))).sz = 1 from rfl, Nat.mul_one] at hx29_0)
 (try rw [show ((Kd.slice 3 (Kd.int .i64))).sz = 1 from rfl, Nat.mul_one] at hf29_0)
 have HP29 := Kd.S_seg0 HH27.out (oda) (by have h_ : (a1 : Int) < ((t259.length : Int) : Int) := oda; first | exact h_ | (have e_ := (HN27.out); omega) | simpa using h_) (seg := [.slice Ao31 y264.length co31]) (j := 0) (show 1 ≤ 1 from by decide) (x' := y264) (Kd.M_row HO266.out) (fun _ hk => hk)
 (try simp only [show ((Kd.slice 3 (Kd.int .i64))).sz = 1 from rfl, Nat.mul_one, Nat.add_zero] at HP29)
 clear hcc29 hfr29
 have HNB255_go27 := Aside0.mk (show gb255 ≠ go27 from by have h_ := Kd.R_ne hraw29 BK255.out (by decide); intro e_; exact h_ (by rw [e_]; rfl))
 have HNB256_go27 := Aside0.mk (show gb256 ≠ go27 from by have h_ := Kd.R_ne hraw29 BK256.out (by decide); intro e_; exact h_ (by rw [e_]; rfl))
 have HNB262_go27 := Aside0.mk (show gb262 ≠ go27 from by have h_ := Kd.R_ne hraw29 BK262.out (by decide); intro e_; exact h_ (by rw [e_]; rfl))
 have HS29 := HP29.1
 rw [← Ny267.out] at HS29
 have HQ29 := Aside0.mk HS29
 obtain ⟨_, hgg29⟩ := Kd.R_typed hraw29 go27 rfl
 have GG29_ := Aside0.mk hgg29
 clear HP29 HS29 hgg29
 refine hK.out _ _ ⟨(blk_cell BK262.out 0).trans rfl, (blk_cell BK262.out 1).trans rfl, HS2_⟩ (fun hHeld => ?_)
 clear hK K
 refine norm_ (a' := ?_) ?_ ?_
 rotate_left
 ·show Act.put _ (some 26) _ = _
  simp only [putS]
  rfl
 refine pure_ (i := 11) (N := some 27) (v := ?_) (a' := ?_) #[true, true, true, true, true, true, true, true, true, true, true, true, false] rfl rfl (any_of HT_.out (by kernel_rfl)) (fun _ _ _ h => h) (Or.inl ⟨by rfl, ?_⟩) ?_ ?_
 rotate_left
 ·intro w'
  go_simp
  with_reducible rfl
 rotate_left
 ·simp only [putS]
  rfl
 refine last_ (i := 12) (N := none) #[true, true, true, true, true, true, true, true, true, true, true, true, true] rfl rfl (one_of HT_.out (by kernel_rfl)) (by decide) (fun K hK => ?_)
 refine skip_ (w1 := ?_) (by rfl) rfl ?_ ?_
 rotate_left
 ·go_simp
  rfl
 refine hK.out _ _ ?_
 clear hK K
 refine done_ (done_of HT_.out (by kernel_rfl)) ?_
 have n0_ : Aside0 (Kd.S (Kd.slice 3 (Kd.int .i64)) 48 (w28.setCell ⟨go27, (a1 : Int).toNat, none⟩ (.slice Ao31 y264.length co31)) w.heap.size (fun _ => True) (.slice (some ⟨go27, 0, none⟩) t259.length co24) y267) := ⟨sdl HQ29⟩
 have n1_ : Aside0 ((w28.setCell ⟨go27, (a1 : Int).toNat, none⟩ (.slice Ao31 y264.length co31)).heap[gb255]? = some (.cells #[.int .i64 a0_0, .slice A0_1 l0_1.length c0_1] 26 (0, 0))) := ⟨by (with_reducible repeat (first | refine blk_drewN ?_ _ | refine blk_drew ?_ | refine blk_alloc ?_ _)); refine blk_far ?_ HNB255_go27.out _; (with_reducible repeat (first | refine blk_drewN ?_ _ | refine blk_drew ?_ | refine blk_alloc ?_ _)); exact BK255.out⟩
 have n2_ : Aside0 ((w28.setCell ⟨go27, (a1 : Int).toNat, none⟩ (.slice Ao31 y264.length co31)).heap[gb256]? = some (.cells #[.int .i64 0, .slice none 0 0] 26 (0, 0))) := ⟨by (with_reducible repeat (first | refine blk_drewN ?_ _ | refine blk_drew ?_ | refine blk_alloc ?_ _)); refine blk_far ?_ HNB256_go27.out _; (with_reducible repeat (first | refine blk_drewN ?_ _ | refine blk_drew ?_ | refine blk_alloc ?_ _)); exact BK256.out⟩
 have n3_ : Aside0 ((w28.setCell ⟨go27, (a1 : Int).toNat, none⟩ (.slice Ao31 y264.length co31)).heap[gb262]? = some (.cells #[.int .i64 t258, .slice (some ⟨go27, 0, none⟩) t259.length co24] 26 (0, 0))) := ⟨by (with_reducible repeat (first | refine blk_drewN ?_ _ | refine blk_drew ?_ | refine blk_alloc ?_ _)); refine blk_far ?_ HNB262_go27.out _; (with_reducible repeat (first | refine blk_drewN ?_ _ | refine blk_drew ?_ | refine blk_alloc ?_ _)); exact BK262.out⟩
 have n4_ : Aside0 (Below w.heap.size w (w28.setCell ⟨go27, (a1 : Int).toNat, none⟩ (.slice Ao31 y264.length co31))) := ⟨by repeat (first | (with_reducible first | exact HB.out | apply below_alloc | apply pw_below_drewN | apply below_drew1 | refine below_set ?_ GB27.out | refine below_set ?_ GE255.out | refine below_set ?_ GE256.out | refine below_set ?_ GE262.out) | exact HB.out)⟩
 (try clear HO261)
 (try clear BK255)
 (try clear BK256)
 (try clear BK262)
 (try clear HB)
 generalize (w28.setCell ⟨go27, (a1 : Int).toNat, none⟩ (.slice Ao31 y264.length co31)) = w32 at n0_ n1_ n2_ n3_ n4_ ⊢
 have HO261 := n0_
 have BK255 := n1_
 have BK256 := n2_
 have BK262 := n3_
 have HB := n4_
 clear n0_ n1_ n2_ n3_ n4_
 have hcz33_0 : w32.cell? ⟨gb262, 0, none⟩ = some (.int .i64 t258) := (blk_cell BK262.out 0).trans rfl
 have hcz33_1 : w32.cell? ⟨gb262, 1, none⟩ = some (.slice (some ⟨go27, 0, none⟩) t259.length co24) := (blk_cell BK262.out 1).trans rfl
 have hfz33_0 := blk_frozen BK262.out 0
 have hfz33_1 := blk_frozen BK262.out 1
 try go_wp2_with (first | ((with_reducible refine gate_callee (f := 23) rfl ?_); refine goesL_ (some 29) rfl rfl Tryz.func23 (by kernel_rfl) rfl #[.agg #[.int .i64 t258, .slice (some ⟨go27, 0, none⟩) y267.length co24]] rfl (by (try simp only [List.map_toArray, List.map_cons, List.map_nil]); first | done | (rw [show y267.length = t259.length from (Kd.S_reads' HO261.out).1.symm] <;> rfl) | rfl | (simp only [List.length_drop, List.length_take]; rfl)) ?_; (with_reducible refine (spec_l9Good.calls k t258 _ _ y267 true _ ?side1 ?side2 A11.out).mono ?_); (case side1 => exact cdl (Kd.S_reads' HO261.out).2.2); (case side2 => rw [show y267.length = t259.length from (Kd.S_reads' HO261.out).1.symm]; exact (Kd.S_reads' HO261.out).2.1); rintro e w34 ⟨rfl, hb⟩; refine ⟨_, rfl, ?_⟩; have n0_ := Aside0.mk (Kd.S_below (sdl HO261) hb); have n1_ := Aside0.mk (blk_below (g := gb255) (o := .cells #[.int .i64 a0_0, .slice A0_1 l0_1.length c0_1] 26 (0, 0)) (bkl BK255) hb); have n2_ := Aside0.mk (blk_below (g := gb256) (o := .cells #[.int .i64 0, .slice none 0 0] 26 (0, 0)) (bkl BK256) hb); have n3_ := Aside0.mk (blk_below (g := gb262) (o := .cells #[.int .i64 t258, .slice (some ⟨go27, 0, none⟩) t259.length co24] 26 (0, 0)) (bkl BK262) hb); have n4_ := Aside0.mk (below_step (bel3 HB GE255 GE256 GE262) hb); clear HO261; clear BK255; clear BK256; clear BK262; clear HB; have HO261 := n0_; have BK255 := n1_; have BK256 := n2_; have BK262 := n3_; have HB := n4_; clear n0_ n1_ n2_ n3_ n4_; (try clear hb); (try clear hb2); (try clear hk); (try clear hi); have hcz35_0 : w34.cell? ⟨gb262, 0, none⟩ = some (.int .i64 t258) := (blk_cell BK262.out 0).trans rfl; have hcz35_1 : w34.cell? ⟨gb262, 1, none⟩ = some (.slice (some ⟨go27, 0, none⟩) t259.length co24) := (blk_cell BK262.out 1).trans rfl; have hfz35_0 := blk_frozen BK262.out 0; have hfz35_1 := blk_frozen BK262.out 1; have hcz36_0 : w34.cell? ⟨gb256, 0, none⟩ = some (.int .i64 0) := (blk_cell BK256.out 0).trans rfl; have hcz36_1 : w34.cell? ⟨gb256, 1, none⟩ = some (.slice none 0 0) := (blk_cell BK256.out 1).trans rfl; have hfz36_0 := blk_frozen BK256.out 0; have hfz36_1 := blk_frozen BK256.out 1))
 refine bodyPost_ret (results_ct rfl _ _ gb256 26 #[.int .i64 t258, .slice (some ⟨go27, 0, none⟩) t259.length co24] (0, 0) _ rfl (by (with_reducible repeat (first | refine blk_drewN ?_ _ | refine blk_drew ?_ | refine blk_alloc ?_ _)); refine blk_put (cs := #[.int .i64 t258, .slice none 0 0]) ?_ 1 _ rfl; (with_reducible repeat (first | refine blk_drewN ?_ _ | refine blk_drew ?_ | refine blk_alloc ?_ _)); refine blk_put (cs := #[.int .i64 0, .slice none 0 0]) ?_ 0 _ rfl; (with_reducible repeat (first | refine blk_drewN ?_ _ | refine blk_drew ?_ | refine blk_alloc ?_ _)); exact BK256.out) Tryz.underlying26 rfl (by kernel_rfl)) rfl ?_
 exact ⟨_, by first | rfl | (simp [errW_none, errW_some] <;> rfl) | (simp [*, errW_none, errW_some] <;> rfl), by (with_reducible repeat (first | apply Kd.S_alloc | apply Kd.S_drewN | apply Kd.S_drew)); exact Kd.S_mono (Kd.S_far (p := ⟨gb256, 1, none⟩) (Kd.S_far (p := ⟨gb256, 0, none⟩) (Kd.S_types HO261.out BK256.out (by decide)) (fun _ hk => hk.2) (.int .i64 t258)) (fun _ hk => hk.2) (.slice (some ⟨go27, 0, none⟩) t259.length co24)) (fun _ hk => trivial), bel3 HB GE255 GE256 GE262⟩
/-! ### laws_vInts: function 42 -/
def laws_vInts.l0 : Nat → List Int → List Int → Int → Option (Bool)
 | 0, _, _, _ => none
 | k + 1, x0, x1, x5 => if x5 < (x0.length : Int) then (if 0 ≤ x5 then (if x5 < (x1.length : Int) then (if (rd x0 x5) = (rd x1 x5) then (laws_vInts.l0 k x0 x1 (wrap64 (x5 + 1))) else (some false)) else (none)) else (none)) else (some true)
def laws_vInts.f (k : Nat) (l0 : List Int) (l1 : List Int) : Option (Bool) := if (l0.length : Int) = (l1.length : Int) then (laws_vInts.l0 k l0 l1 0) else (some false)
theorem laws_vInts.mono_l : ∀ k, (∀ y0 y1 y2, LeO (laws_vInts.l0 k y0 y1 y2) (laws_vInts.l0 (k + 1) y0 y1 y2))
 | 0 => fun _ _ _ r h => by simp [laws_vInts.l0] at h
 | k + 1 => by
  have ih0 := laws_vInts.mono_l k
  ·intro y0 y1 y2
   unfold laws_vInts.l0
   repeat' first
   | (with_reducible exact ih0 _ _ _)
   | (with_reducible exact LeO.refl _)
   | (with_reducible exact LeO.none _)
   | (with_reducible refine LeO.ite ?_ ?_)
   | (with_reducible refine LeO.bind ?_ (fun _ => ?_))
   | exact ih0 _ _ _
   | exact LeO.none _
   | refine LeO.ite ?_ ?_
   | refine LeO.bind ?_ (fun _ => ?_)
theorem laws_vInts.mono : ∀ a0 a1 k, LeO (laws_vInts.f k a0 a1) (laws_vInts.f (k + 1) a0 a1) := by
 intro a0 a1 k
 have ih0 := laws_vInts.mono_l k
 unfold laws_vInts.f
 repeat' first
   | (with_reducible exact ih0 _ _ _)
   | (with_reducible exact LeO.refl _)
   | (with_reducible exact LeO.none _)
   | (with_reducible refine LeO.ite ?_ ?_)
   | (with_reducible refine LeO.bind ?_ (fun _ => ?_))
   | exact ih0 _ _ _
   | exact LeO.none _
   | refine LeO.ite ?_ ?_
   | refine LeO.bind ?_ (fun _ => ?_)
set_option maxHeartbeats 8000000 in
set_option maxRecDepth 100000 in
theorem laws_vInts.calls (k : Nat) (A0 : Option Addr) (c0 : Nat) (l0 : List Int) (A1 : Option Addr) (c1 : Nat) (l1 : List Int) (r : Bool) (w : World) (hr0 : Kd.C (Kd.int .i64) w A0 l0.length l0) (hc0 : l0.length ≤ c0) (hr1 : Kd.C (Kd.int .i64) w A1 l1.length l1) (hc1 : l1.length ≤ c1) (h : laws_vInts.f k l0 l1 = some r) :
  Calls Tryz.prog 42 #[.slice A0 l0.length c0, .slice A1 l1.length c1] w fun e w' => e = .returned (.bool r) ∧ Drawn0 w w' := by
 have HR0 := Aside0.mk hr0
 have HC0 := Aside0.mk hc0
 clear hr0 hc0
 have HR1 := Aside0.mk hr1
 have HC1 := Aside0.mk hc1
 clear hr1 hc1
 have H : (if (l0.length : Int) = (l1.length : Int) then (laws_vInts.l0 k l0 l1 0) else (some false)) = some r := h
 clear h
 by_cases c3 : (l0.length : Int) = (l1.length : Int)
 rotate_left
 ·rw [if_neg c3] at H
  have c3b0 : ((l0.length : Int) == (l1.length : Int)) = false := beq_eq_false_iff_ne.mpr c3
  have c3b1 : ((l0.length : Int) != (l1.length : Int)) = true := bne_iff_ne.mpr c3
  have c3b2 : (l0.length == l1.length) = false := by first | simpa using c3 | (simp at c3 ⊢; omega)
  obtain rfl := Option.some.inj H
  go_enter Tryz.func42, Tryz.ntmps42
  go_wp2
  repeat (go_quiet (fail); try go_wp2)
  go_ret
  exact ⟨by first | rfl | (simp; done) | (simp [*]; done), by repeat (first | exact Drawn0.refl _ | apply Drawn0.step)⟩
 rw [if_pos c3] at H
 have c3b0 : ((l0.length : Int) == (l1.length : Int)) = true := beq_iff_eq.mpr c3
 have c3b1 : ((l0.length : Int) != (l1.length : Int)) = false := bne_eq_false_iff_eq.mpr c3
 have c3b2 : (l0.length == l1.length) = true := by first | simpa using c3 | (simp at c3 ⊢; omega)
 clear c3
 have H' := Aside0.mk H
 clear H
 go_enter Tryz.func42, Tryz.ntmps42
 go_wp2
 repeat (go_quiet (fail); try go_wp2)
 go_loopg [5] k (fun kq v5 w' => ∃ (x5_1 : Int), v5 = .int .i64 x5_1 ∧ Aside0 (laws_vInts.l0 kq l0 l1 x5_1 = some r) ∧ Aside0 (kq ≤ k) ∧ Drawn0 w w')
 case atStart => exact ⟨(0), (by first | rfl | (simp; done) | (simp [*]; done)), H', ⟨Nat.le_refl _⟩, by repeat (first | exact Drawn0.refl _ | apply Drawn0.step)⟩
 clear H'
 try clear c1
 try clear p2
 try clear c3
 try clear c3b0
 try clear c3b1
 try clear c3b2
 obtain ⟨x5_1, rfl, HA, HK1, ⟨m1, rfl⟩⟩ := hrel
 cases gk with
 | zero => exact absurd HA.out (by simp [laws_vInts.l0])
 | succ k1 =>
  have H := HA.out
  clear HA
  simp only [laws_vInts.l0] at H
  by_cases c4 : x5_1 < (l0.length : Int)
  rotate_left
  ·rw [if_neg c4] at H
   have c4b0 : decide (x5_1 < (l0.length : Int)) = false := decide_eq_false c4
   clear c4
   obtain rfl := Option.some.inj H
   go_wp2
   repeat (go_quiet (fail); try go_wp2)
   go_ret
   exact ⟨by first | rfl | (simp; done) | (simp [*]; done), by repeat (first | exact Drawn0.refl _ | apply Drawn0.step)⟩
  rw [if_pos c4] at H
  have c4b0 : decide (x5_1 < (l0.length : Int)) = true := decide_eq_true c4
  clear c4
  by_cases c5 : 0 ≤ x5_1
  rotate_left
  ·rw [if_neg c5] at H
   exact absurd H (by simp)
  rw [if_pos c5] at H
  have c5b0 : decide (0 ≤ x5_1) = true := decide_eq_true c5
  clear c5
  by_cases c6 : x5_1 < (l1.length : Int)
  rotate_left
  ·rw [if_neg c6] at H
   exact absurd H (by simp)
  rw [if_pos c6] at H
  have c6b0 : decide (x5_1 < (l1.length : Int)) = true := decide_eq_true c6
  clear c6
  by_cases c7 : (rd l0 x5_1) = (rd l1 x5_1)
  rotate_left
  ·rw [if_neg c7] at H
   have c7b0 : ((rd l0 x5_1) == (rd l1 x5_1)) = false := beq_eq_false_iff_ne.mpr c7
   have c7b1 : ((rd l0 x5_1) != (rd l1 x5_1)) = true := bne_iff_ne.mpr c7
   obtain rfl := Option.some.inj H
   have p269 : 0 ≤ (x5_1 : Int) := oda
   have q269 : x5_1 < (l0.length : Int) := oda
   obtain ⟨ad269, e269, hx269_0⟩ := Kd.at_int HR0.out x5_1 p269 q269
   cases e269
   replace p269 := eq_true p269
   replace q269 := eq_true q269
   have p270 : 0 ≤ (x5_1 : Int) := oda
   have q270 : x5_1 < (l1.length : Int) := oda
   obtain ⟨ad270, e270, hx270_0⟩ := Kd.at_int HR1.out x5_1 p270 q270
   cases e270
   replace p270 := eq_true p270
   replace q270 := eq_true q270
   go_wp2
   repeat (go_quiet (fail); try go_wp2)
   go_ret
   exact ⟨by first | rfl | (simp; done) | (simp [*]; done), by repeat (first | exact Drawn0.refl _ | apply Drawn0.step)⟩
  rw [if_pos c7] at H
  have c7b0 : ((rd l0 x5_1) == (rd l1 x5_1)) = true := beq_iff_eq.mpr c7
  have c7b1 : ((rd l0 x5_1) != (rd l1 x5_1)) = false := bne_eq_false_iff_eq.mpr c7
  clear c7
  have H' := Aside0.mk H
  clear H
  have p269 : 0 ≤ (x5_1 : Int) := oda
  have q269 : x5_1 < (l0.length : Int) := oda
  obtain ⟨ad269, e269, hx269_0⟩ := Kd.at_int HR0.out x5_1 p269 q269
  cases e269
  replace p269 := eq_true p269
  replace q269 := eq_true q269
  have p270 : 0 ≤ (x5_1 : Int) := oda
  have q270 : x5_1 < (l1.length : Int) := oda
  obtain ⟨ad270, e270, hx270_0⟩ := Kd.at_int HR1.out x5_1 p270 q270
  cases e270
  replace p270 := eq_true p270
  replace q270 := eq_true q270
  go_wp2
  repeat (go_quiet (fail); try go_wp2)
  go_roundg k1
  case measure => have := HK1.out; omega
  case rel => exact ⟨(wrap64 (x5_1 + 1)), (by first | rfl | (simp; done) | (simp [*]; done)), H', ⟨by have := HK1.out; omega⟩, by repeat (first | exact Drawn0.refl _ | apply Drawn0.step)⟩
/-! ### laws_vTable: function 24 -/
def laws_vTable.l0 : Nat → List (List Int) → List (List Int) → Int → Option (Bool)
 | 0, _, _, _ => none
 | k + 1, x0, x1, x5 => if x5 < (x0.length : Int) then (if 0 ≤ x5 then (if x5 < (x1.length : Int) then ((laws_vInts.f k (rd_L2 x0 x5) (rd_L2 x1 x5)).bind fun t273 => (if t273 = true then (laws_vTable.l0 k x0 x1 (wrap64 (x5 + 1))) else (some false))) else (none)) else (none)) else (some true)
def laws_vTable.f (k : Nat) (l0 : List (List Int)) (l1 : List (List Int)) : Option (Bool) := if (l0.length : Int) = (l1.length : Int) then (laws_vTable.l0 k l0 l1 0) else (some false)
theorem laws_vTable.mono_l : ∀ k, (∀ y0 y1 y2, LeO (laws_vTable.l0 k y0 y1 y2) (laws_vTable.l0 (k + 1) y0 y1 y2))
 | 0 => fun _ _ _ r h => by simp [laws_vTable.l0] at h
 | k + 1 => by
  have ih0 := laws_vTable.mono_l k
  ·intro y0 y1 y2
   unfold laws_vTable.l0
   repeat' first
   | (with_reducible exact ih0 _ _ _)
   | (with_reducible exact laws_vInts.mono _ _ _)
   | (with_reducible exact LeO.refl _)
   | (with_reducible exact LeO.none _)
   | (with_reducible refine LeO.ite ?_ ?_)
   | (with_reducible refine LeO.bind ?_ (fun _ => ?_))
   | exact ih0 _ _ _
   | exact laws_vInts.mono _ _ _
   | exact LeO.none _
   | refine LeO.ite ?_ ?_
   | refine LeO.bind ?_ (fun _ => ?_)
theorem laws_vTable.mono : ∀ a0 a1 k, LeO (laws_vTable.f k a0 a1) (laws_vTable.f (k + 1) a0 a1) := by
 intro a0 a1 k
 have ih0 := laws_vTable.mono_l k
 unfold laws_vTable.f
 repeat' first
   | (with_reducible exact ih0 _ _ _)
   | (with_reducible exact laws_vInts.mono _ _ _)
   | (with_reducible exact LeO.refl _)
   | (with_reducible exact LeO.none _)
   | (with_reducible refine LeO.ite ?_ ?_)
   | (with_reducible refine LeO.bind ?_ (fun _ => ?_))
   | exact ih0 _ _ _
   | exact laws_vInts.mono _ _ _
   | exact LeO.none _
   | refine LeO.ite ?_ ?_
   | refine LeO.bind ?_ (fun _ => ?_)
set_option maxHeartbeats 8000000 in
set_option maxRecDepth 100000 in
theorem laws_vTable.calls (k : Nat) (A0 : Option Addr) (c0 : Nat) (l0 : List (List Int)) (A1 : Option Addr) (c1 : Nat) (l1 : List (List Int)) (r : Bool) (w : World) (hr0 : Kd.C (Kd.slice 3 (Kd.int .i64)) w A0 l0.length l0) (hc0 : l0.length ≤ c0) (hr1 : Kd.C (Kd.slice 3 (Kd.int .i64)) w A1 l1.length l1) (hc1 : l1.length ≤ c1) (h : laws_vTable.f k l0 l1 = some r) :
  Calls Tryz.prog 24 #[.slice A0 l0.length c0, .slice A1 l1.length c1] w fun e w' => e = .returned (.bool r) ∧ Drawn0 w w' := by
 have HR0 := Aside0.mk hr0
 have HC0 := Aside0.mk hc0
 clear hr0 hc0
 have HR1 := Aside0.mk hr1
 have HC1 := Aside0.mk hc1
 clear hr1 hc1
 have H : (if (l0.length : Int) = (l1.length : Int) then (laws_vTable.l0 k l0 l1 0) else (some false)) = some r := h
 clear h
 by_cases c3 : (l0.length : Int) = (l1.length : Int)
 rotate_left
 ·rw [if_neg c3] at H
  have c3b0 : ((l0.length : Int) == (l1.length : Int)) = false := beq_eq_false_iff_ne.mpr c3
  have c3b1 : ((l0.length : Int) != (l1.length : Int)) = true := bne_iff_ne.mpr c3
  have c3b2 : (l0.length == l1.length) = false := by first | simpa using c3 | (simp at c3 ⊢; omega)
  obtain rfl := Option.some.inj H
  go_enter Tryz.func24, Tryz.ntmps24
  go_wp2
  repeat (go_quiet (fail); try go_wp2)
  go_ret
  exact ⟨by first | rfl | (simp; done) | (simp [*]; done), by repeat (first | exact Drawn0.refl _ | apply Drawn0.step)⟩
 rw [if_pos c3] at H
 have c3b0 : ((l0.length : Int) == (l1.length : Int)) = true := beq_iff_eq.mpr c3
 have c3b1 : ((l0.length : Int) != (l1.length : Int)) = false := bne_eq_false_iff_eq.mpr c3
 have c3b2 : (l0.length == l1.length) = true := by first | simpa using c3 | (simp at c3 ⊢; omega)
 clear c3
 have H' := Aside0.mk H
 clear H
 go_enter Tryz.func24, Tryz.ntmps24
 go_wp2
 repeat (go_quiet (fail); try go_wp2)
 go_loopg [5] k (fun kq v5 w' => ∃ (x5_1 : Int), v5 = .int .i64 x5_1 ∧ Aside0 (laws_vTable.l0 kq l0 l1 x5_1 = some r) ∧ Aside0 (kq ≤ k) ∧ Drawn0 w w')
 case atStart => exact ⟨(0), (by first | rfl | (simp; done) | (simp [*]; done)), H', ⟨Nat.le_refl _⟩, by repeat (first | exact Drawn0.refl _ | apply Drawn0.step)⟩
 clear H'
 try clear c1
 try clear c2
 try clear p2
 try clear c3
 try clear c3b0
 try clear c3b1
 try clear c3b2
 obtain ⟨x5_1, rfl, HA, HK1, ⟨m1, rfl⟩⟩ := hrel
 cases gk with
 | zero => exact absurd HA.out (by simp [laws_vTable.l0])
 | succ k1 =>
  have H := HA.out
  clear HA
  simp only [laws_vTable.l0] at H
  by_cases c4 : x5_1 < (l0.length : Int)
  rotate_left
  ·rw [if_neg c4] at H
   have c4b0 : decide (x5_1 < (l0.length : Int)) = false := decide_eq_false c4
   clear c4
   obtain rfl := Option.some.inj H
   go_wp2
   repeat (go_quiet (fail); try go_wp2)
   go_ret
   exact ⟨by first | rfl | (simp; done) | (simp [*]; done), by repeat (first | exact Drawn0.refl _ | apply Drawn0.step)⟩
  rw [if_pos c4] at H
  have c4b0 : decide (x5_1 < (l0.length : Int)) = true := decide_eq_true c4
  clear c4
  by_cases c5 : 0 ≤ x5_1
  rotate_left
  ·rw [if_neg c5] at H
   exact absurd H (by simp)
  rw [if_pos c5] at H
  have c5b0 : decide (0 ≤ x5_1) = true := decide_eq_true c5
  clear c5
  by_cases c6 : x5_1 < (l1.length : Int)
  rotate_left
  ·rw [if_neg c6] at H
   exact absurd H (by simp)
  rw [if_pos c6] at H
  have c6b0 : decide (x5_1 < (l1.length : Int)) = true := decide_eq_true c6
  clear c6
  replace H := Option.bind_eq_some_iff.mp H
  obtain ⟨t273, A70, H⟩ := H
  replace H : (if t273 = true then (laws_vTable.l0 k1 l0 l1 (wrap64 (x5_1 + 1))) else (some false)) = some r := H
  have A7 := Aside0.mk A70
  clear A70
  by_cases c8 : t273 = true
  rotate_left
  ·replace c8 := Bool.eq_false_iff.mpr c8
   subst c8
   have H1 : (some false) = some r := by rw [if_neg (show ¬ (false = true) by decide)] at H; exact H
   clear H
   have H := H1
   clear H1
   obtain rfl := Option.some.inj H
   have p271 : 0 ≤ (x5_1 : Int) := oda
   have q271 : x5_1 < (l0.length : Int) := oda
   obtain ⟨ad271, A271_0, c271_0, e271, hx271_0, hl271_0, hi271_0⟩ := at_L2 HR0.out x5_1 p271 q271
   cases e271
   have HR271_0 := Aside0.mk hi271_0
   have HC271_0 := Aside0.mk hl271_0
   clear hi271_0 hl271_0
   replace p271 := eq_true p271
   replace q271 := eq_true q271
   have p272 : 0 ≤ (x5_1 : Int) := oda
   have q272 : x5_1 < (l1.length : Int) := oda
   obtain ⟨ad272, A272_0, c272_0, e272, hx272_0, hl272_0, hi272_0⟩ := at_L2 HR1.out x5_1 p272 q272
   cases e272
   have HR272_0 := Aside0.mk hi272_0
   have HC272_0 := Aside0.mk hl272_0
   clear hi272_0 hl272_0
   replace p272 := eq_true p272
   replace q272 := eq_true q272
   go_wp2_with (first | (go_at_call 42; (with_reducible refine (laws_vInts.calls k1 _ _ (rd_L2 l0 x5_1) _ _ (rd_L2 l1 x5_1) false _ ?side1 ?side2 ?side3 ?side4 A7.out).mono ?_); (case side1 => exact cdl HR271_0.out); (case side2 => exact HC271_0.out); (case side3 => exact cdl HR272_0.out); (case side4 => exact HC272_0.out); rintro e w' ⟨rfl, ⟨nd, rfl⟩⟩; (try first | exact ⟨rfl, _, dd2⟩ | exact ⟨rfl, _, dd3⟩)))
   repeat (go_quiet (first | (go_at_call 42; (with_reducible refine (laws_vInts.calls k1 _ _ (rd_L2 l0 x5_1) _ _ (rd_L2 l1 x5_1) false _ ?side1 ?side2 ?side3 ?side4 A7.out).mono ?_); (case side1 => exact cdl HR271_0.out); (case side2 => exact HC271_0.out); (case side3 => exact cdl HR272_0.out); (case side4 => exact HC272_0.out); rintro e w' ⟨rfl, ⟨nd, rfl⟩⟩; (try first | exact ⟨rfl, _, dd2⟩ | exact ⟨rfl, _, dd3⟩))); try go_wp2_with (first | (go_at_call 42; (with_reducible refine (laws_vInts.calls k1 _ _ (rd_L2 l0 x5_1) _ _ (rd_L2 l1 x5_1) false _ ?side1 ?side2 ?side3 ?side4 A7.out).mono ?_); (case side1 => exact cdl HR271_0.out); (case side2 => exact HC271_0.out); (case side3 => exact cdl HR272_0.out); (case side4 => exact HC272_0.out); rintro e w' ⟨rfl, ⟨nd, rfl⟩⟩; (try first | exact ⟨rfl, _, dd2⟩ | exact ⟨rfl, _, dd3⟩))))
   go_ret
   exact ⟨by first | rfl | (simp; done) | (simp [*]; done), by repeat (first | exact Drawn0.refl _ | apply Drawn0.step)⟩
  subst c8
  have H1 : (laws_vTable.l0 k1 l0 l1 (wrap64 (x5_1 + 1))) = some r := by rw [if_pos rfl] at H; exact H
  clear H
  have H := H1
  clear H1
  have H' := Aside0.mk H
  clear H
  have p271 : 0 ≤ (x5_1 : Int) := oda
  have q271 : x5_1 < (l0.length : Int) := oda
  obtain ⟨ad271, A271_0, c271_0, e271, hx271_0, hl271_0, hi271_0⟩ := at_L2 HR0.out x5_1 p271 q271
  cases e271
  have HR271_0 := Aside0.mk hi271_0
  have HC271_0 := Aside0.mk hl271_0
  clear hi271_0 hl271_0
  replace p271 := eq_true p271
  replace q271 := eq_true q271
  have p272 : 0 ≤ (x5_1 : Int) := oda
  have q272 : x5_1 < (l1.length : Int) := oda
  obtain ⟨ad272, A272_0, c272_0, e272, hx272_0, hl272_0, hi272_0⟩ := at_L2 HR1.out x5_1 p272 q272
  cases e272
  have HR272_0 := Aside0.mk hi272_0
  have HC272_0 := Aside0.mk hl272_0
  clear hi272_0 hl272_0
  replace p272 := eq_true p272
  replace q272 := eq_true q272
  go_wp2_with (first | (go_at_call 42; (with_reducible refine (laws_vInts.calls k1 _ _ (rd_L2 l0 x5_1) _ _ (rd_L2 l1 x5_1) true _ ?side1 ?side2 ?side3 ?side4 A7.out).mono ?_); (case side1 => exact cdl HR271_0.out); (case side2 => exact HC271_0.out); (case side3 => exact cdl HR272_0.out); (case side4 => exact HC272_0.out); rintro e w' ⟨rfl, ⟨nd, rfl⟩⟩; (try first | exact ⟨rfl, _, dd2⟩ | exact ⟨rfl, _, dd3⟩)))
  repeat (go_quiet (first | (go_at_call 42; (with_reducible refine (laws_vInts.calls k1 _ _ (rd_L2 l0 x5_1) _ _ (rd_L2 l1 x5_1) true _ ?side1 ?side2 ?side3 ?side4 A7.out).mono ?_); (case side1 => exact cdl HR271_0.out); (case side2 => exact HC271_0.out); (case side3 => exact cdl HR272_0.out); (case side4 => exact HC272_0.out); rintro e w' ⟨rfl, ⟨nd, rfl⟩⟩; (try first | exact ⟨rfl, _, dd2⟩ | exact ⟨rfl, _, dd3⟩))); try go_wp2_with (first | (go_at_call 42; (with_reducible refine (laws_vInts.calls k1 _ _ (rd_L2 l0 x5_1) _ _ (rd_L2 l1 x5_1) true _ ?side1 ?side2 ?side3 ?side4 A7.out).mono ?_); (case side1 => exact cdl HR271_0.out); (case side2 => exact HC271_0.out); (case side3 => exact cdl HR272_0.out); (case side4 => exact HC272_0.out); rintro e w' ⟨rfl, ⟨nd, rfl⟩⟩; (try first | exact ⟨rfl, _, dd2⟩ | exact ⟨rfl, _, dd3⟩))))
  go_roundg k1
  case measure => have := HK1.out; omega
  case rel => exact ⟨(wrap64 (x5_1 + 1)), (by first | rfl | (simp; done) | (simp [*]; done)), H', ⟨by have := HK1.out; omega⟩, by repeat (first | exact Drawn0.refl _ | apply Drawn0.step)⟩
/-! ### laws_vBay: function 8 -/
def laws_vBay.f (k : Nat) (a0_0 : Int) (l0_1 : List (List Int)) (a1_0 : Int) (l1_1 : List (List Int)) : Option (Bool) := if a0_0 = a1_0 then ((laws_vTable.f k l0_1 l1_1).bind fun t276 => (some t276)) else (some false)
theorem laws_vBay.mono : ∀ a0 a1 a2 a3 k, LeO (laws_vBay.f k a0 a1 a2 a3) (laws_vBay.f (k + 1) a0 a1 a2 a3) := by
 intro a0 a1 a2 a3 k
 unfold laws_vBay.f
 repeat' first
   | (with_reducible exact laws_vTable.mono _ _ _)
   | (with_reducible exact LeO.refl _)
   | (with_reducible exact LeO.none _)
   | (with_reducible refine LeO.ite ?_ ?_)
   | (with_reducible refine LeO.bind ?_ (fun _ => ?_))
   | exact laws_vTable.mono _ _ _
   | exact LeO.none _
   | refine LeO.ite ?_ ?_
   | refine LeO.bind ?_ (fun _ => ?_)
set_option maxHeartbeats 8000000 in
set_option maxRecDepth 100000 in
theorem laws_vBay.calls (k : Nat) (a0_0 : Int) (A0_1 : Option Addr) (c0_1 : Nat) (l0_1 : List (List Int)) (a1_0 : Int) (A1_1 : Option Addr) (c1_1 : Nat) (l1_1 : List (List Int)) (r : Bool) (w : World) (hr0_1 : Kd.C (Kd.slice 3 (Kd.int .i64)) w A0_1 l0_1.length l0_1) (hc0_1 : l0_1.length ≤ c0_1) (hr1_1 : Kd.C (Kd.slice 3 (Kd.int .i64)) w A1_1 l1_1.length l1_1) (hc1_1 : l1_1.length ≤ c1_1) (h : laws_vBay.f k a0_0 l0_1 a1_0 l1_1 = some r) :
  Calls Tryz.prog 8 #[.agg #[.int .i64 a0_0, .slice A0_1 l0_1.length c0_1], .agg #[.int .i64 a1_0, .slice A1_1 l1_1.length c1_1]] w fun e w' => e = .returned (.bool r) ∧ Below w.heap.size w w' := by
 have hu26 := Tryz.underlying26
 have HR0_1 := Aside0.mk hr0_1
 have HC0_1 := Aside0.mk hc0_1
 clear hr0_1 hc0_1
 have HR1_1 := Aside0.mk hr1_1
 have HC1_1 := Aside0.mk hc1_1
 clear hr1_1 hc1_1
 have HB := Aside0.mk (Below.refl w.heap.size w)
 have H : (if a0_0 = a1_0 then ((laws_vTable.f k l0_1 l1_1).bind fun t276 => (some t276)) else (some false)) = some r := h
 clear h
 by_cases c3 : a0_0 = a1_0
 rotate_left
 ·rw [if_neg c3] at H
  have c3b0 : (a0_0 == a1_0) = false := beq_eq_false_iff_ne.mpr c3
  have c3b1 : (a0_0 != a1_0) = true := bne_iff_ne.mpr c3
  obtain rfl := Option.some.inj H
  go_enter Tryz.func8, Tryz.ntmps8
  go_wp2_with (first | ((with_reducible refine gate_dst (N := 2) rfl ?_); refine box_event ?hg (N := 2) ?hd (cs := #[.int .i64 a0_0, .slice A0_1 l0_1.length c0_1]) (t := 26) ?hr ?_; (case hd => rfl); (case hg => rfl); (case hr => first | (go_simp; done) | (go_simp; rfl)); intro gb274 hg w10 hbox hb; have n0_ := Aside0.mk (below_step (bel HB) hb); have n1_ := Aside0.mk (hbox); have n2_ := Aside0.mk ((by rw [hg]; exact (below_size (bel HB)) : w.heap.size ≤ gb274)); have n3_ := Aside0.mk ((by rw [hg]; exact (below_size (bel HB)) : w.heap.size ≤ gb274)); clear HB; have HB := n0_; have BK274 := n1_; have GW274 := n2_; have GE274 := n3_; clear n0_ n1_ n2_ n3_; clear hb hbox hg) | ((with_reducible refine gate_dst (N := 3) rfl ?_); refine box_event ?hg (N := 3) ?hd (cs := #[.int .i64 a1_0, .slice A1_1 l1_1.length c1_1]) (t := 26) ?hr ?_; (case hd => rfl); (case hg => rfl); (case hr => first | (go_simp; done) | (go_simp; rfl)); intro gb275 hg w11 hbox hb; have n0_ := Aside0.mk (blk_below (g := gb274) (o := .cells #[.int .i64 a0_0, .slice A0_1 l0_1.length c0_1] 26 (0, 0)) (bkl BK274) hb); have n1_ := Aside0.mk (below_step (bel1 HB GE274) hb); have n2_ := Aside0.mk (hbox); have n3_ := Aside0.mk ((by rw [hg]; exact (below_size (bel1 HB GE274)) : w.heap.size ≤ gb275)); have n4_ := Aside0.mk ((by rw [hg]; exact (below_size (bel1 HB GE274)) : w.heap.size ≤ gb275)); have n5_ := Aside0.mk ((by rw [hg]; exact Nat.ne_of_lt (blk_lt (g := gb274) (o := .cells #[.int .i64 a0_0, .slice A0_1 l0_1.length c0_1] 26 (0, 0)) (bkl BK274)) : gb274 ≠ gb275)); have n6_ := Aside0.mk ((by rw [hg]; exact Nat.ne_of_gt (blk_lt (g := gb274) (o := .cells #[.int .i64 a0_0, .slice A0_1 l0_1.length c0_1] 26 (0, 0)) (bkl BK274)) : gb275 ≠ gb274)); clear BK274; clear HB; have BK274 := n0_; have HB := n1_; have BK275 := n2_; have GW275 := n3_; have GE275 := n4_; have NB274_275 := n5_; have NB275_274 := n6_; clear n0_ n1_ n2_ n3_ n4_ n5_ n6_; clear hb hbox hg; have hnb12 := NB274_275.out; have hnc12 := NB275_274.out; have hcz13_0 : w11.cell? ⟨gb274, 0, none⟩ = some (.int .i64 a0_0) := (blk_cell BK274.out 0).trans rfl; have hcz13_1 : w11.cell? ⟨gb274, 1, none⟩ = some (.slice A0_1 l0_1.length c0_1) := (blk_cell BK274.out 1).trans rfl; have hfz13_0 := blk_frozen BK274.out 0; have hfz13_1 := blk_frozen BK274.out 1; have hcz14_0 : w11.cell? ⟨gb275, 0, none⟩ = some (.int .i64 a1_0) := (blk_cell BK275.out 0).trans rfl; have hcz14_1 : w11.cell? ⟨gb275, 1, none⟩ = some (.slice A1_1 l1_1.length c1_1) := (blk_cell BK275.out 1).trans rfl; have hfz14_0 := blk_frozen BK275.out 0; have hfz14_1 := blk_frozen BK275.out 1))
  go_ret
  exact ⟨by first | rfl | (simp [errW_none, errW_some] <;> rfl) | (simp [*, errW_none, errW_some] <;> rfl), bel2 HB GE274 GE275⟩
 rw [if_pos c3] at H
 have c3b0 : (a0_0 == a1_0) = true := beq_iff_eq.mpr c3
 have c3b1 : (a0_0 != a1_0) = false := bne_eq_false_iff_eq.mpr c3
 clear c3
 replace H := Option.bind_eq_some_iff.mp H
 obtain ⟨t276, A40, H⟩ := H
 replace H : (some t276) = some r := H
 have A4 := Aside0.mk A40
 clear A40
 obtain rfl := Option.some.inj H
 go_enter Tryz.func8, Tryz.ntmps8
 go_wp2_with (first | ((with_reducible refine gate_dst (N := 2) rfl ?_); refine box_event ?hg (N := 2) ?hd (cs := #[.int .i64 a0_0, .slice A0_1 l0_1.length c0_1]) (t := 26) ?hr ?_; (case hd => rfl); (case hg => rfl); (case hr => first | (go_simp; done) | (go_simp; rfl)); intro gb274 hg w5 hbox hb; have n0_ := Aside0.mk (below_step (bel HB) hb); have n1_ := Aside0.mk (hbox); have n2_ := Aside0.mk ((by rw [hg]; exact (below_size (bel HB)) : w.heap.size ≤ gb274)); have n3_ := Aside0.mk ((by rw [hg]; exact (below_size (bel HB)) : w.heap.size ≤ gb274)); clear HB; have HB := n0_; have BK274 := n1_; have GW274 := n2_; have GE274 := n3_; clear n0_ n1_ n2_ n3_; clear hb hbox hg) | ((with_reducible refine gate_dst (N := 3) rfl ?_); refine box_event ?hg (N := 3) ?hd (cs := #[.int .i64 a1_0, .slice A1_1 l1_1.length c1_1]) (t := 26) ?hr ?_; (case hd => rfl); (case hg => rfl); (case hr => first | (go_simp; done) | (go_simp; rfl)); intro gb275 hg w6 hbox hb; have n0_ := Aside0.mk (blk_below (g := gb274) (o := .cells #[.int .i64 a0_0, .slice A0_1 l0_1.length c0_1] 26 (0, 0)) (bkl BK274) hb); have n1_ := Aside0.mk (below_step (bel1 HB GE274) hb); have n2_ := Aside0.mk (hbox); have n3_ := Aside0.mk ((by rw [hg]; exact (below_size (bel1 HB GE274)) : w.heap.size ≤ gb275)); have n4_ := Aside0.mk ((by rw [hg]; exact (below_size (bel1 HB GE274)) : w.heap.size ≤ gb275)); have n5_ := Aside0.mk ((by rw [hg]; exact Nat.ne_of_lt (blk_lt (g := gb274) (o := .cells #[.int .i64 a0_0, .slice A0_1 l0_1.length c0_1] 26 (0, 0)) (bkl BK274)) : gb274 ≠ gb275)); have n6_ := Aside0.mk ((by rw [hg]; exact Nat.ne_of_gt (blk_lt (g := gb274) (o := .cells #[.int .i64 a0_0, .slice A0_1 l0_1.length c0_1] 26 (0, 0)) (bkl BK274)) : gb275 ≠ gb274)); clear BK274; clear HB; have BK274 := n0_; have HB := n1_; have BK275 := n2_; have GW275 := n3_; have GE275 := n4_; have NB274_275 := n5_; have NB275_274 := n6_; clear n0_ n1_ n2_ n3_ n4_ n5_ n6_; clear hb hbox hg; have hnb7 := NB274_275.out; have hnc7 := NB275_274.out; have hcz8_0 : w6.cell? ⟨gb274, 0, none⟩ = some (.int .i64 a0_0) := (blk_cell BK274.out 0).trans rfl; have hcz8_1 : w6.cell? ⟨gb274, 1, none⟩ = some (.slice A0_1 l0_1.length c0_1) := (blk_cell BK274.out 1).trans rfl; have hfz8_0 := blk_frozen BK274.out 0; have hfz8_1 := blk_frozen BK274.out 1; have hcz9_0 : w6.cell? ⟨gb275, 0, none⟩ = some (.int .i64 a1_0) := (blk_cell BK275.out 0).trans rfl; have hcz9_1 : w6.cell? ⟨gb275, 1, none⟩ = some (.slice A1_1 l1_1.length c1_1) := (blk_cell BK275.out 1).trans rfl; have hfz9_0 := blk_frozen BK275.out 0; have hfz9_1 := blk_frozen BK275.out 1) | (go_at_call 24; (with_reducible refine (laws_vTable.calls k _ _ l0_1 _ _ l1_1 t276 _ ?side1 ?side2 ?side3 ?side4 A4.out).mono ?_); (case side1 => exact cdl (Kd.C_below HR0_1.out HB.out)); (case side2 => exact HC0_1.out); (case side3 => exact cdl (Kd.C_below HR1_1.out HB.out)); (case side4 => exact HC1_1.out); rintro e w' ⟨rfl, ⟨nd, rfl⟩⟩))
 go_ret
 exact ⟨by first | rfl | (simp [errW_none, errW_some] <;> rfl) | (simp [*, errW_none, errW_some] <;> rfl), bel2 HB GE274 GE275⟩
/-! ### spec_IsValidBay: function 10 -/
def spec_IsValidBay.f (k : Nat) (a0_0 : Int) (l0_1 : List (List Int)) : Option (Bool) := (spec_l9Good.f k a0_0 l0_1).bind fun t278 => (some t278)
theorem spec_IsValidBay.mono : ∀ a0 a1 k, LeO (spec_IsValidBay.f k a0 a1) (spec_IsValidBay.f (k + 1) a0 a1) := by
 intro a0 a1 k
 unfold spec_IsValidBay.f
 repeat' first
   | (with_reducible exact spec_l9Good.mono _ _ _)
   | (with_reducible exact LeO.refl _)
   | (with_reducible exact LeO.none _)
   | (with_reducible refine LeO.ite ?_ ?_)
   | (with_reducible refine LeO.bind ?_ (fun _ => ?_))
   | exact spec_l9Good.mono _ _ _
   | exact LeO.none _
   | refine LeO.ite ?_ ?_
   | refine LeO.bind ?_ (fun _ => ?_)
set_option maxHeartbeats 8000000 in
set_option maxRecDepth 100000 in
theorem spec_IsValidBay.calls (k : Nat) (a0_0 : Int) (A0_1 : Option Addr) (c0_1 : Nat) (l0_1 : List (List Int)) (r : Bool) (w : World) (hr0_1 : Kd.C (Kd.slice 3 (Kd.int .i64)) w A0_1 l0_1.length l0_1) (hc0_1 : l0_1.length ≤ c0_1) (h : spec_IsValidBay.f k a0_0 l0_1 = some r) :
  Calls Tryz.prog 10 #[.agg #[.int .i64 a0_0, .slice A0_1 l0_1.length c0_1]] w fun e w' => e = .returned (.bool r) ∧ Below w.heap.size w w' := by
 have hu26 := Tryz.underlying26
 have HR0_1 := Aside0.mk hr0_1
 have HC0_1 := Aside0.mk hc0_1
 clear hr0_1 hc0_1
 have HB := Aside0.mk (Below.refl w.heap.size w)
 have H : ((spec_l9Good.f k a0_0 l0_1).bind fun t278 => (some t278)) = some r := h
 clear h
 replace H := Option.bind_eq_some_iff.mp H
 obtain ⟨t278, A20, H⟩ := H
 replace H : (some t278) = some r := H
 have A2 := Aside0.mk A20
 clear A20
 obtain rfl := Option.some.inj H
 go_enter Tryz.func10, Tryz.ntmps10
 go_wp2_with (first | ((with_reducible refine gate_dst (N := 1) rfl ?_); refine box_event ?hg (N := 1) ?hd (cs := #[.int .i64 a0_0, .slice A0_1 l0_1.length c0_1]) (t := 26) ?hr ?_; (case hd => rfl); (case hg => rfl); (case hr => first | (go_simp; done) | (go_simp; rfl)); intro gb277 hg w3 hbox hb; have n0_ := Aside0.mk (below_step (bel HB) hb); have n1_ := Aside0.mk (hbox); have n2_ := Aside0.mk ((by rw [hg]; exact (below_size (bel HB)) : w.heap.size ≤ gb277)); have n3_ := Aside0.mk ((by rw [hg]; exact (below_size (bel HB)) : w.heap.size ≤ gb277)); clear HB; have HB := n0_; have BK277 := n1_; have GW277 := n2_; have GE277 := n3_; clear n0_ n1_ n2_ n3_; clear hb hbox hg; have hcz4_0 : w3.cell? ⟨gb277, 0, none⟩ = some (.int .i64 a0_0) := (blk_cell BK277.out 0).trans rfl; have hcz4_1 : w3.cell? ⟨gb277, 1, none⟩ = some (.slice A0_1 l0_1.length c0_1) := (blk_cell BK277.out 1).trans rfl; have hfz4_0 := blk_frozen BK277.out 0; have hfz4_1 := blk_frozen BK277.out 1) | ((with_reducible refine gate_callee (f := 23) rfl ?_); refine goesL_ (some 4) rfl rfl Tryz.func23 (by kernel_rfl) rfl #[.agg #[.int .i64 a0_0, .slice A0_1 l0_1.length c0_1]] rfl gmp ?_; (with_reducible refine (spec_l9Good.calls k a0_0 _ _ l0_1 t278 _ ?side1 ?side2 A2.out).mono ?_); (case side1 => exact cdl (Kd.C_below HR0_1.out HB.out)); (case side2 => exact HC0_1.out); rintro e w5 ⟨rfl, hb⟩; refine ⟨_, rfl, ?_⟩; have n0_ := Aside0.mk (blk_below (g := gb277) (o := .cells #[.int .i64 a0_0, .slice A0_1 l0_1.length c0_1] 26 (0, 0)) (bkl BK277) hb); have n1_ := Aside0.mk (below_step (bel1 HB GE277) hb); clear BK277; clear HB; have BK277 := n0_; have HB := n1_; clear n0_ n1_; (try clear hb); (try clear hb2); (try clear hk); (try clear hi)))
 go_ret
 exact ⟨by first | rfl | (simp [errW_none, errW_some] <;> rfl) | (simp [*, errW_none, errW_some] <;> rfl), bel1 HB GE277⟩
end Go.Proofs.YtnknojpijmfefaaGreatDoor.P
