-- Written by a program of this session over the translation (a variant of the printer, see wip/gen); Lean checks it.
import Derived.Test.YtgeefafkjokmeaaPx0
import Derived.Test.YtgeefafkjokmeaaPx3
namespace Go.Proofs.Ytgeefafkjokmeaa.P
open Go.RowKit Go.Proofs.YtgeefafkjokmeaaW.PrintWords Go.Proofs.YtgeefafkjokmeaaW.PrintLast Go.Proofs.YtgeefafkjokmeaaW.PrintMore
attribute [local go_sem] Go.Proofs.Ytgeefafkjokmeaa.V.isSome_setCell max2_int min2_int max_two min_two max_three min_three max_four min_four   -- for this text's walks alone
set_option linter.unusedVariables false
set_option linter.unusedSimpArgs false

/-! ### spec_l10Shifted: function 39 -/
mutual
def spec_l10Shifted.l0 : Nat → List Int → Int → Int → Int → List Int → Int → List (List Int) → Option (List Int)
 | 0, _, _, _, _, _, _, _ => none
 | k + 1, x5, x6, x193000, x193001, x193002, x194000, x194001 => if x6 < (x194001.length : Int) then (spec_l10Shifted.l1 k x5 x6 0 x193000 x193001 x193002 x194000 x194001) else (some x5)
def spec_l10Shifted.l1 : Nat → List Int → Int → Int → Int → Int → List Int → Int → List (List Int) → Option (List Int)
 | 0, _, _, _, _, _, _, _, _ => none
 | k + 1, x5, x6, x7, x193000, x193001, x193002, x194000, x194001 => if 0 ≤ x6 then (if x6 < (x194001.length : Int) then (if x7 < ((rd_L1 x194001 x6).length : Int) then (spec_l10Shifted.l2 k x5 x6 x7 0 x193000 x193001 x193002 x194000 x194001) else (spec_l10Shifted.l0 k x5 (wrap64 (x6 + 1)) x193000 x193001 x193002 x194000 x194001)) else (none)) else (none)
def spec_l10Shifted.l2 : Nat → List Int → Int → Int → Int → Int → Int → List Int → Int → List (List Int) → Option (List Int)
 | 0, _, _, _, _, _, _, _, _, _ => none
 | k + 1, x5, x6, x7, x8, x193000, x193001, x193002, x194000, x194001 => if x8 < x7 then (if 0 ≤ x6 then (if x6 < (x194001.length : Int) then (if 0 ≤ x8 then (if x8 < ((rd_L1 x194001 x6).length : Int) then (if 0 ≤ (wrap64 ((rd (rd_L1 x194001 x6) x8) - 1)) then (if (wrap64 ((rd (rd_L1 x194001 x6) x8) - 1)) < (x193002.length : Int) then (if 0 ≤ x7 then (if x7 < ((rd_L1 x194001 x6).length : Int) then (if 0 ≤ (wrap64 ((rd (rd_L1 x194001 x6) x7) - 1)) then (if (wrap64 ((rd (rd_L1 x194001 x6) x7) - 1)) < (x193002.length : Int) then (if (rd x193002 (wrap64 ((rd (rd_L1 x194001 x6) x8) - 1))) < (rd x193002 (wrap64 ((rd (rd_L1 x194001 x6) x7) - 1))) then ((spec_l1Put.f k x5 (rd (rd_L1 x194001 x6) x7)).bind fun t206 => (spec_l10Shifted.l2 k t206 x6 x7 (wrap64 (x8 + 1)) x193000 x193001 x193002 x194000 x194001)) else (spec_l10Shifted.l2 k x5 x6 x7 (wrap64 (x8 + 1)) x193000 x193001 x193002 x194000 x194001)) else (none)) else (none)) else (none)) else (none)) else (none)) else (none)) else (none)) else (none)) else (none)) else (none)) else (spec_l10Shifted.l1 k x5 x6 (wrap64 (x7 + 1)) x193000 x193001 x193002 x194000 x194001)
end
def spec_l10Shifted.f (k : Nat) (a0_0 : Int) (a0_1 : Int) (l0_2 : List Int) (a1_0 : Int) (l1_1 : List (List Int)) : Option (List Int) := spec_l10Shifted.l0 k (([] : List Int)) 0 a0_0 a0_1 l0_2 a1_0 l1_1
theorem spec_l10Shifted.mono_l : ∀ k, (∀ y0 y1 y2 y3 y4 y5 y6, LeO (spec_l10Shifted.l0 k y0 y1 y2 y3 y4 y5 y6) (spec_l10Shifted.l0 (k + 1) y0 y1 y2 y3 y4 y5 y6)) ∧ (∀ y0 y1 y2 y3 y4 y5 y6 y7, LeO (spec_l10Shifted.l1 k y0 y1 y2 y3 y4 y5 y6 y7) (spec_l10Shifted.l1 (k + 1) y0 y1 y2 y3 y4 y5 y6 y7)) ∧ (∀ y0 y1 y2 y3 y4 y5 y6 y7 y8, LeO (spec_l10Shifted.l2 k y0 y1 y2 y3 y4 y5 y6 y7 y8) (spec_l10Shifted.l2 (k + 1) y0 y1 y2 y3 y4 y5 y6 y7 y8))
 | 0 => ⟨fun _ _ _ _ _ _ _ r h => by simp [spec_l10Shifted.l0] at h, fun _ _ _ _ _ _ _ _ r h => by simp [spec_l10Shifted.l1] at h, fun _ _ _ _ _ _ _ _ _ r h => by simp [spec_l10Shifted.l2] at h⟩
 | k + 1 => by
  obtain ⟨ih0, ih1, ih2⟩ := spec_l10Shifted.mono_l k
  refine ⟨?_, ?_, ?_⟩
  ·intro y0 y1 y2 y3 y4 y5 y6
   unfold spec_l10Shifted.l0
   repeat' first
   | (with_reducible exact ih0 _ _ _ _ _ _ _)
   | (with_reducible exact ih1 _ _ _ _ _ _ _ _)
   | (with_reducible exact ih2 _ _ _ _ _ _ _ _ _)
   | (with_reducible exact spec_l1Put.mono _ _ _)
   | (with_reducible exact LeO.refl _)
   | (with_reducible exact LeO.none _)
   | (with_reducible refine LeO.ite ?_ ?_)
   | (with_reducible refine LeO.bind ?_ (fun _ => ?_))
   | exact ih0 _ _ _ _ _ _ _
   | exact ih1 _ _ _ _ _ _ _ _
   | exact ih2 _ _ _ _ _ _ _ _ _
   | exact spec_l1Put.mono _ _ _
   | exact LeO.none _
   | refine LeO.ite ?_ ?_
   | refine LeO.bind ?_ (fun _ => ?_)
  ·intro y0 y1 y2 y3 y4 y5 y6 y7
   unfold spec_l10Shifted.l1
   repeat' first
   | (with_reducible exact ih0 _ _ _ _ _ _ _)
   | (with_reducible exact ih1 _ _ _ _ _ _ _ _)
   | (with_reducible exact ih2 _ _ _ _ _ _ _ _ _)
   | (with_reducible exact spec_l1Put.mono _ _ _)
   | (with_reducible exact LeO.refl _)
   | (with_reducible exact LeO.none _)
   | (with_reducible refine LeO.ite ?_ ?_)
   | (with_reducible refine LeO.bind ?_ (fun _ => ?_))
   | exact ih0 _ _ _ _ _ _ _
   | exact ih1 _ _ _ _ _ _ _ _
   | exact ih2 _ _ _ _ _ _ _ _ _
   | exact spec_l1Put.mono _ _ _
   | exact LeO.none _
   | refine LeO.ite ?_ ?_
   | refine LeO.bind ?_ (fun _ => ?_)
  ·intro y0 y1 y2 y3 y4 y5 y6 y7 y8
   unfold spec_l10Shifted.l2
   repeat' first
   | (with_reducible exact ih0 _ _ _ _ _ _ _)
   | (with_reducible exact ih1 _ _ _ _ _ _ _ _)
   | (with_reducible exact ih2 _ _ _ _ _ _ _ _ _)
   | (with_reducible exact spec_l1Put.mono _ _ _)
   | (with_reducible exact LeO.refl _)
   | (with_reducible exact LeO.none _)
   | (with_reducible refine LeO.ite ?_ ?_)
   | (with_reducible refine LeO.bind ?_ (fun _ => ?_))
   | exact ih0 _ _ _ _ _ _ _
   | exact ih1 _ _ _ _ _ _ _ _
   | exact ih2 _ _ _ _ _ _ _ _ _
   | exact spec_l1Put.mono _ _ _
   | exact LeO.none _
   | refine LeO.ite ?_ ?_
   | refine LeO.bind ?_ (fun _ => ?_)
theorem spec_l10Shifted.mono : ∀ a0 a1 a2 a3 a4 k, LeO (spec_l10Shifted.f k a0 a1 a2 a3 a4) (spec_l10Shifted.f (k + 1) a0 a1 a2 a3 a4) := by
 intro a0 a1 a2 a3 a4 k
 obtain ⟨ih0, ih1, ih2⟩ := spec_l10Shifted.mono_l k
 unfold spec_l10Shifted.f
 repeat' first
   | (with_reducible exact ih0 _ _ _ _ _ _ _)
   | (with_reducible exact ih1 _ _ _ _ _ _ _ _)
   | (with_reducible exact ih2 _ _ _ _ _ _ _ _ _)
   | (with_reducible exact spec_l1Put.mono _ _ _)
   | (with_reducible exact LeO.refl _)
   | (with_reducible exact LeO.none _)
   | (with_reducible refine LeO.ite ?_ ?_)
   | (with_reducible refine LeO.bind ?_ (fun _ => ?_))
   | exact ih0 _ _ _ _ _ _ _
   | exact ih1 _ _ _ _ _ _ _ _
   | exact ih2 _ _ _ _ _ _ _ _ _
   | exact spec_l1Put.mono _ _ _
   | exact LeO.none _
   | refine LeO.ite ?_ ?_
   | refine LeO.bind ?_ (fun _ => ?_)
set_option maxHeartbeats 8000000 in
set_option maxRecDepth 100000 in
theorem spec_l10Shifted.calls (k : Nat) (a0_0 : Int) (a0_1 : Int) (A0_2 : Option Addr) (c0_2 : Nat) (l0_2 : List Int) (a1_0 : Int) (A1_1 : Option Addr) (c1_1 : Nat) (l1_1 : List (List Int)) (r : List Int) (w : World) (hr0_2 : Kd.C (Kd.int .i64) w A0_2 l0_2.length l0_2) (hc0_2 : l0_2.length ≤ c0_2) (hr1_1 : Kd.C (Kd.slice 3 (Kd.int .i64)) w A1_1 l1_1.length l1_1) (hc1_1 : l1_1.length ≤ c1_1) (h : spec_l10Shifted.f k a0_0 a0_1 l0_2 a1_0 l1_1 = some r) :
  Calls Try.prog 39 #[.agg #[.int .i64 a0_0, .int .i64 a0_1, .slice A0_2 l0_2.length c0_2], .agg #[.int .i64 a1_0, .slice A1_1 l1_1.length c1_1]] w fun e w' => ∃ v0_ : Value, e = .returned (v0_) ∧ Kd.V (Kd.int .i64) 3 w' w.heap.size (fun k_ => (w.heap.size ≤ k_)) v0_ r ∧ Below w.heap.size w w' := by
 have hu31 := Try.underlying31
 have hu28 := Try.underlying28
 have HR0_2 := Aside0.mk hr0_2
 have HC0_2 := Aside0.mk hc0_2
 clear hr0_2 hc0_2
 have HR1_1 := Aside0.mk hr1_1
 have HC1_1 := Aside0.mk hc1_1
 clear hr1_1 hc1_1
 have HB := Aside0.mk (Below.refl w.heap.size w)
 have H : (spec_l10Shifted.l0 k (([] : List Int)) 0 a0_0 a0_1 l0_2 a1_0 l1_1) = some r := h
 clear h
 obtain ⟨y194, hy194⟩ : ∃ y_ : List Int, y_ = (([] : List Int)) := ⟨_, rfl⟩
 replace H : (spec_l10Shifted.l0 k y194 0 a0_0 a0_1 l0_2 a1_0 l1_1) = some r := by first | (rw [hy194]; with_reducible exact H) | (have H2_ := (Option.bind_some _ _).symm.trans H; rw [hy194]; with_reducible exact H2_) | (have H2_ := (Option.bind_some _ _).symm.trans H; with_reducible exact H2_) | with_reducible exact H | (rw [hy194]; exact H) | exact H
 have Ny194 := Aside0.mk hy194
 clear hy194
 have H' := Aside0.mk H
 clear H
 go_enter Try.func39, Try.ntmps39
 go_wp2_with (first | ((with_reducible refine gate_dst (N := 2) rfl ?_); refine box_event ?hg (N := 2) ?hd (cs := #[.int .i64 a0_0, .int .i64 a0_1, .slice A0_2 l0_2.length c0_2]) (t := 31) ?hr ?_; (case hd => rfl); (case hg => rfl); (case hr => first | (go_simp; done) | (go_simp; rfl)); intro gb192 hg w3 hbox hb; have n0_ := Aside0.mk (below_step (bel HB) hb); have n1_ := Aside0.mk (hbox); have n2_ := Aside0.mk ((by rw [hg]; exact (below_size (bel HB)) : w.heap.size ≤ gb192)); have n3_ := Aside0.mk ((by rw [hg]; exact (below_size (bel HB)) : w.heap.size ≤ gb192)); clear HB; have HB := n0_; have BK192 := n1_; have GW192 := n2_; have GE192 := n3_; clear n0_ n1_ n2_ n3_; clear hb hbox hg) | ((with_reducible refine gate_dst (N := 3) rfl ?_); refine box_event ?hg (N := 3) ?hd (cs := #[.int .i64 a1_0, .slice A1_1 l1_1.length c1_1]) (t := 28) ?hr ?_; (case hd => rfl); (case hg => rfl); (case hr => first | (go_simp; done) | (go_simp; rfl)); intro gb193 hg w4 hbox hb; have n0_ := Aside0.mk (blk_below (g := gb192) (o := .cells #[.int .i64 a0_0, .int .i64 a0_1, .slice A0_2 l0_2.length c0_2] 31 (0, 0)) (bkl BK192) hb); have n1_ := Aside0.mk (below_step (bel1 HB GE192) hb); have n2_ := Aside0.mk (hbox); have n3_ := Aside0.mk ((by rw [hg]; exact (below_size (bel1 HB GE192)) : w.heap.size ≤ gb193)); have n4_ := Aside0.mk ((by rw [hg]; exact (below_size (bel1 HB GE192)) : w.heap.size ≤ gb193)); have n5_ := Aside0.mk ((by rw [hg]; exact Nat.ne_of_lt (blk_lt (g := gb192) (o := .cells #[.int .i64 a0_0, .int .i64 a0_1, .slice A0_2 l0_2.length c0_2] 31 (0, 0)) (bkl BK192)) : gb192 ≠ gb193)); have n6_ := Aside0.mk ((by rw [hg]; exact Nat.ne_of_gt (blk_lt (g := gb192) (o := .cells #[.int .i64 a0_0, .int .i64 a0_1, .slice A0_2 l0_2.length c0_2] 31 (0, 0)) (bkl BK192)) : gb193 ≠ gb192)); clear BK192; clear HB; have BK192 := n0_; have HB := n1_; have BK193 := n2_; have GW193 := n3_; have GE193 := n4_; have NB192_193 := n5_; have NB193_192 := n6_; clear n0_ n1_ n2_ n3_ n4_ n5_ n6_; clear hb hbox hg) | ((with_reducible refine gate_dst (N := 9) rfl ?_); refine Kd.R_lit (Kd.int .i64) _ 3 ?hg (N := 9) ?hd (xs := ([] : List Int)) (inner := []) (ok := fun _ => True) (okp := fun _ => True) ?hr ?hp (fun _ hk => hk) trivial (Below.refl _ _) (Nat.le_refl _) (by simp) ?_; (case hd => rfl); (case hg => rfl); (case hr => first | (go_simp; done) | (go_simp; rfl)); (case hp => exact (Reps.none _ _)); intro v195 w5 ho6 hb hg_ hnew_; clear hg_ hnew_; (first | rw [← Ny194.out] at ho6 | (simp only [Int.reduceToNat] at ho6; rw [← Ny194.out] at ho6)); have n0_ := Aside0.mk (Kd.R_lower (Kd.R_newM (M := fun k_ => (w.heap.size ≤ k_)) ho6 (below_size (bel2 HB GE192 GE193)) (fun k_ h_ => h_)) (below_size (bel2 HB GE192 GE193))); have n1_ := Aside0.mk (blk_below (g := gb192) (o := .cells #[.int .i64 a0_0, .int .i64 a0_1, .slice A0_2 l0_2.length c0_2] 31 (0, 0)) (bkl BK192) hb); have n2_ := Aside0.mk (blk_below (g := gb193) (o := .cells #[.int .i64 a1_0, .slice A1_1 l1_1.length c1_1] 28 (0, 0)) (bkl BK193) hb); have n3_ := Aside0.mk (below_step (bel2 HB GE192 GE193) hb); clear BK192; clear BK193; clear HB; have HO196 := n0_; have BK192 := n1_; have BK193 := n2_; have HB := n3_; clear n0_ n1_ n2_ n3_; clear hb ho6))
 repeat (go_quiet (first | ((with_reducible refine gate_dst (N := 2) rfl ?_); refine box_event ?hg (N := 2) ?hd (cs := #[.int .i64 a0_0, .int .i64 a0_1, .slice A0_2 l0_2.length c0_2]) (t := 31) ?hr ?_; (case hd => rfl); (case hg => rfl); (case hr => first | (go_simp; done) | (go_simp; rfl)); intro gb192 hg w3 hbox hb; have n0_ := Aside0.mk (below_step (bel HB) hb); have n1_ := Aside0.mk (hbox); have n2_ := Aside0.mk ((by rw [hg]; exact (below_size (bel HB)) : w.heap.size ≤ gb192)); have n3_ := Aside0.mk ((by rw [hg]; exact (below_size (bel HB)) : w.heap.size ≤ gb192)); clear HB; have HB := n0_; have BK192 := n1_; have GW192 := n2_; have GE192 := n3_; clear n0_ n1_ n2_ n3_; clear hb hbox hg) | ((with_reducible refine gate_dst (N := 3) rfl ?_); refine box_event ?hg (N := 3) ?hd (cs := #[.int .i64 a1_0, .slice A1_1 l1_1.length c1_1]) (t := 28) ?hr ?_; (case hd => rfl); (case hg => rfl); (case hr => first | (go_simp; done) | (go_simp; rfl)); intro gb193 hg w4 hbox hb; have n0_ := Aside0.mk (blk_below (g := gb192) (o := .cells #[.int .i64 a0_0, .int .i64 a0_1, .slice A0_2 l0_2.length c0_2] 31 (0, 0)) (bkl BK192) hb); have n1_ := Aside0.mk (below_step (bel1 HB GE192) hb); have n2_ := Aside0.mk (hbox); have n3_ := Aside0.mk ((by rw [hg]; exact (below_size (bel1 HB GE192)) : w.heap.size ≤ gb193)); have n4_ := Aside0.mk ((by rw [hg]; exact (below_size (bel1 HB GE192)) : w.heap.size ≤ gb193)); have n5_ := Aside0.mk ((by rw [hg]; exact Nat.ne_of_lt (blk_lt (g := gb192) (o := .cells #[.int .i64 a0_0, .int .i64 a0_1, .slice A0_2 l0_2.length c0_2] 31 (0, 0)) (bkl BK192)) : gb192 ≠ gb193)); have n6_ := Aside0.mk ((by rw [hg]; exact Nat.ne_of_gt (blk_lt (g := gb192) (o := .cells #[.int .i64 a0_0, .int .i64 a0_1, .slice A0_2 l0_2.length c0_2] 31 (0, 0)) (bkl BK192)) : gb193 ≠ gb192)); clear BK192; clear HB; have BK192 := n0_; have HB := n1_; have BK193 := n2_; have GW193 := n3_; have GE193 := n4_; have NB192_193 := n5_; have NB193_192 := n6_; clear n0_ n1_ n2_ n3_ n4_ n5_ n6_; clear hb hbox hg) | ((with_reducible refine gate_dst (N := 9) rfl ?_); refine Kd.R_lit (Kd.int .i64) _ 3 ?hg (N := 9) ?hd (xs := ([] : List Int)) (inner := []) (ok := fun _ => True) (okp := fun _ => True) ?hr ?hp (fun _ hk => hk) trivial (Below.refl _ _) (Nat.le_refl _) (by simp) ?_; (case hd => rfl); (case hg => rfl); (case hr => first | (go_simp; done) | (go_simp; rfl)); (case hp => exact (Reps.none _ _)); intro v195 w5 ho6 hb hg_ hnew_; clear hg_ hnew_; (first | rw [← Ny194.out] at ho6 | (simp only [Int.reduceToNat] at ho6; rw [← Ny194.out] at ho6)); have n0_ := Aside0.mk (Kd.R_lower (Kd.R_newM (M := fun k_ => (w.heap.size ≤ k_)) ho6 (below_size (bel2 HB GE192 GE193)) (fun k_ h_ => h_)) (below_size (bel2 HB GE192 GE193))); have n1_ := Aside0.mk (blk_below (g := gb192) (o := .cells #[.int .i64 a0_0, .int .i64 a0_1, .slice A0_2 l0_2.length c0_2] 31 (0, 0)) (bkl BK192) hb); have n2_ := Aside0.mk (blk_below (g := gb193) (o := .cells #[.int .i64 a1_0, .slice A1_1 l1_1.length c1_1] 28 (0, 0)) (bkl BK193) hb); have n3_ := Aside0.mk (below_step (bel2 HB GE192 GE193) hb); clear BK192; clear BK193; clear HB; have HO196 := n0_; have BK192 := n1_; have BK193 := n2_; have HB := n3_; clear n0_ n1_ n2_ n3_; clear hb ho6)); try go_wp2_with (first | ((with_reducible refine gate_dst (N := 2) rfl ?_); refine box_event ?hg (N := 2) ?hd (cs := #[.int .i64 a0_0, .int .i64 a0_1, .slice A0_2 l0_2.length c0_2]) (t := 31) ?hr ?_; (case hd => rfl); (case hg => rfl); (case hr => first | (go_simp; done) | (go_simp; rfl)); intro gb192 hg w3 hbox hb; have n0_ := Aside0.mk (below_step (bel HB) hb); have n1_ := Aside0.mk (hbox); have n2_ := Aside0.mk ((by rw [hg]; exact (below_size (bel HB)) : w.heap.size ≤ gb192)); have n3_ := Aside0.mk ((by rw [hg]; exact (below_size (bel HB)) : w.heap.size ≤ gb192)); clear HB; have HB := n0_; have BK192 := n1_; have GW192 := n2_; have GE192 := n3_; clear n0_ n1_ n2_ n3_; clear hb hbox hg) | ((with_reducible refine gate_dst (N := 3) rfl ?_); refine box_event ?hg (N := 3) ?hd (cs := #[.int .i64 a1_0, .slice A1_1 l1_1.length c1_1]) (t := 28) ?hr ?_; (case hd => rfl); (case hg => rfl); (case hr => first | (go_simp; done) | (go_simp; rfl)); intro gb193 hg w4 hbox hb; have n0_ := Aside0.mk (blk_below (g := gb192) (o := .cells #[.int .i64 a0_0, .int .i64 a0_1, .slice A0_2 l0_2.length c0_2] 31 (0, 0)) (bkl BK192) hb); have n1_ := Aside0.mk (below_step (bel1 HB GE192) hb); have n2_ := Aside0.mk (hbox); have n3_ := Aside0.mk ((by rw [hg]; exact (below_size (bel1 HB GE192)) : w.heap.size ≤ gb193)); have n4_ := Aside0.mk ((by rw [hg]; exact (below_size (bel1 HB GE192)) : w.heap.size ≤ gb193)); have n5_ := Aside0.mk ((by rw [hg]; exact Nat.ne_of_lt (blk_lt (g := gb192) (o := .cells #[.int .i64 a0_0, .int .i64 a0_1, .slice A0_2 l0_2.length c0_2] 31 (0, 0)) (bkl BK192)) : gb192 ≠ gb193)); have n6_ := Aside0.mk ((by rw [hg]; exact Nat.ne_of_gt (blk_lt (g := gb192) (o := .cells #[.int .i64 a0_0, .int .i64 a0_1, .slice A0_2 l0_2.length c0_2] 31 (0, 0)) (bkl BK192)) : gb193 ≠ gb192)); clear BK192; clear HB; have BK192 := n0_; have HB := n1_; have BK193 := n2_; have GW193 := n3_; have GE193 := n4_; have NB192_193 := n5_; have NB193_192 := n6_; clear n0_ n1_ n2_ n3_ n4_ n5_ n6_; clear hb hbox hg) | ((with_reducible refine gate_dst (N := 9) rfl ?_); refine Kd.R_lit (Kd.int .i64) _ 3 ?hg (N := 9) ?hd (xs := ([] : List Int)) (inner := []) (ok := fun _ => True) (okp := fun _ => True) ?hr ?hp (fun _ hk => hk) trivial (Below.refl _ _) (Nat.le_refl _) (by simp) ?_; (case hd => rfl); (case hg => rfl); (case hr => first | (go_simp; done) | (go_simp; rfl)); (case hp => exact (Reps.none _ _)); intro v195 w5 ho6 hb hg_ hnew_; clear hg_ hnew_; (first | rw [← Ny194.out] at ho6 | (simp only [Int.reduceToNat] at ho6; rw [← Ny194.out] at ho6)); have n0_ := Aside0.mk (Kd.R_lower (Kd.R_newM (M := fun k_ => (w.heap.size ≤ k_)) ho6 (below_size (bel2 HB GE192 GE193)) (fun k_ h_ => h_)) (below_size (bel2 HB GE192 GE193))); have n1_ := Aside0.mk (blk_below (g := gb192) (o := .cells #[.int .i64 a0_0, .int .i64 a0_1, .slice A0_2 l0_2.length c0_2] 31 (0, 0)) (bkl BK192) hb); have n2_ := Aside0.mk (blk_below (g := gb193) (o := .cells #[.int .i64 a1_0, .slice A1_1 l1_1.length c1_1] 28 (0, 0)) (bkl BK193) hb); have n3_ := Aside0.mk (below_step (bel2 HB GE192 GE193) hb); clear BK192; clear BK193; clear HB; have HO196 := n0_; have BK192 := n1_; have BK193 := n2_; have HB := n3_; clear n0_ n1_ n2_ n3_; clear hb ho6)))
 go_loopg [5, 6] k (fun kq v5 v6 w' => ∃ (x5_1 : List Int) (x6_1 : Int), v6 = .int .i64 x6_1 ∧ Aside0 (spec_l10Shifted.l0 kq x5_1 x6_1 a0_0 a0_1 l0_2 a1_0 l1_1 = some r) ∧ Aside0 (kq ≤ k) ∧ Aside0 (Kd.V (Kd.int .i64) 3 w' w.heap.size (fun k_ => (w.heap.size ≤ k_) ∧ k_ ≠ gb192 ∧ k_ ≠ gb193) v5 x5_1) ∧ Aside0 (w'.heap[gb192]? = some (.cells #[.int .i64 a0_0, .int .i64 a0_1, (.slice A0_2 l0_2.length c0_2)] 31 (0, 0))) ∧ Aside0 (w'.heap[gb193]? = some (.cells #[.int .i64 a1_0, (.slice A1_1 l1_1.length c1_1)] 28 (0, 0))) ∧ Aside0 (Below w.heap.size w w'))
 case atStart => exact ⟨(y194), (0), (by first | rfl | (simp; done) | (simp [*]; done)), H', ⟨Nat.le_refl _⟩, ⟨Kd.R_V (by (with_reducible repeat (first | apply Kd.R_alloc | apply Kd.R_drewN | apply Kd.R_drew)); exact Kd.R_mono (Kd.R_types (Kd.R_types HO196.out BK192.out (by decide)) BK193.out (by decide)) (fun _ hk => ⟨hk.1.1.1, ⟨hk.1.2, hk.2⟩⟩))⟩, ⟨bkl BK192⟩, ⟨bkl BK193⟩, ⟨bel2 HB GE192 GE193⟩⟩
 case round =>
  clear H'
  try clear c1
  try clear p2
  try clear c3
  obtain ⟨x5_1, x6_1, rfl, HA, HK1, HO_5, BK192, BK193, HB⟩ := hrel
  cases gk with
  | zero => exact absurd HA.out (by simp [spec_l10Shifted.l0])
  | succ k1 =>
   have H := HA.out
   clear HA
   simp only [spec_l10Shifted.l0] at H
   by_cases c7 : x6_1 < (l1_1.length : Int)
   ·rw [if_pos c7] at H
    have c7b0 : decide (x6_1 < (l1_1.length : Int)) = true := decide_eq_true c7
    clear c7
    have H' := Aside0.mk H
    clear H
    have hnb8 := NB193_192.out
    have hnc8 := NB192_193.out
    have hcz9_0 : wr.cell? ⟨gb193, 0, none⟩ = some (.int .i64 a1_0) := (blk_cell BK193.out 0).trans rfl
    have hcz9_1 : wr.cell? ⟨gb193, 1, none⟩ = some (.slice A1_1 l1_1.length c1_1) := (blk_cell BK193.out 1).trans rfl
    have hfz9_0 := blk_frozen BK193.out 0
    have hfz9_1 := blk_frozen BK193.out 1
    go_wp2
    repeat (go_quiet (fail); try go_wp2)
    go_loopg [5, 7] k1 (fun kq v5 v7 w' => ∃ (x5_2 : List Int) (x7_2 : Int), v7 = .int .i64 x7_2 ∧ Aside0 (spec_l10Shifted.l1 kq x5_2 x6_1 x7_2 a0_0 a0_1 l0_2 a1_0 l1_1 = some r) ∧ Aside0 (kq ≤ k1) ∧ Aside0 (Kd.V (Kd.int .i64) 3 w' w.heap.size (fun k_ => (w.heap.size ≤ k_) ∧ k_ ≠ gb192 ∧ k_ ≠ gb193) v5 x5_2) ∧ Aside0 (w'.heap[gb192]? = some (.cells #[.int .i64 a0_0, .int .i64 a0_1, (.slice A0_2 l0_2.length c0_2)] 31 (0, 0))) ∧ Aside0 (w'.heap[gb193]? = some (.cells #[.int .i64 a1_0, (.slice A1_1 l1_1.length c1_1)] 28 (0, 0))) ∧ Aside0 (Below w.heap.size w w'))
    case atStart => exact ⟨(x5_1), (0), (by first | rfl | (simp; done) | (simp [*]; done)), H', ⟨Nat.le_refl _⟩, ⟨by (with_reducible repeat (first | apply Kd.V_alloc | apply Kd.V_drewN | apply Kd.V_drew)); exact HO_5.out⟩, ⟨bkl BK192⟩, ⟨bkl BK193⟩, ⟨bel2 HB GE192 GE193⟩⟩
    case round =>
     clear H'
     try clear c1
     try clear p2
     try clear c3
     try clear c7
     try clear c7b0
     try clear c8
     try clear hcz9_0
     try clear hcz9_1
     try clear hfz9_0
     try clear hfz9_1
     try clear p2
     obtain ⟨x5_2, x7_2, rfl, HA, HK2, HO_5, BK192, BK193, HB⟩ := hrel
     cases gk with
     | zero => exact absurd HA.out (by simp [spec_l10Shifted.l1])
     | succ k2 =>
      have H := HA.out
      clear HA
      simp only [spec_l10Shifted.l1] at H
      by_cases c10 : 0 ≤ x6_1
      ·rw [if_pos c10] at H
       have c10b0 : decide (0 ≤ x6_1) = true := decide_eq_true c10
       clear c10
       by_cases c11 : x6_1 < (l1_1.length : Int)
       ·rw [if_pos c11] at H
        have c11b0 : decide (x6_1 < (l1_1.length : Int)) = true := decide_eq_true c11
        clear c11
        by_cases c12 : x7_2 < ((rd_L1 l1_1 x6_1).length : Int)
        ·rw [if_pos c12] at H
         have c12b0 : decide (x7_2 < ((rd_L1 l1_1 x6_1).length : Int)) = true := decide_eq_true c12
         clear c12
         have H' := Aside0.mk H
         clear H
         have hnb13 := NB193_192.out
         have hnc13 := NB192_193.out
         have hcz14_0 : wr.cell? ⟨gb193, 0, none⟩ = some (.int .i64 a1_0) := (blk_cell BK193.out 0).trans rfl
         have hcz14_1 : wr.cell? ⟨gb193, 1, none⟩ = some (.slice A1_1 l1_1.length c1_1) := (blk_cell BK193.out 1).trans rfl
         have hfz14_0 := blk_frozen BK193.out 0
         have hfz14_1 := blk_frozen BK193.out 1
         have p197 : 0 ≤ (x6_1 : Int) := oda
         have q197 : x6_1 < (l1_1.length : Int) := oda
         obtain ⟨ad197, A197_0, c197_0, e197, hx197_0, hl197_0, hi197_0⟩ := at_L1 HR1_1.out x6_1 p197 q197
         cases e197
         replace hx197_0 := cel HB hx197_0
         have HR197_0 := Aside0.mk hi197_0
         have HC197_0 := Aside0.mk hl197_0
         clear hi197_0 hl197_0
         replace p197 := eq_true p197
         replace q197 := eq_true q197
         go_wp2
         repeat (go_quiet (fail); try go_wp2)
         go_loopg [5, 8] k2 (fun kq v5 v8 w' => ∃ (x5_3 : List Int) (x8_3 : Int), v8 = .int .i64 x8_3 ∧ Aside0 (spec_l10Shifted.l2 kq x5_3 x6_1 x7_2 x8_3 a0_0 a0_1 l0_2 a1_0 l1_1 = some r) ∧ Aside0 (kq ≤ k2) ∧ Aside0 (Kd.V (Kd.int .i64) 3 w' w.heap.size (fun k_ => (w.heap.size ≤ k_) ∧ k_ ≠ gb192 ∧ k_ ≠ gb193) v5 x5_3) ∧ Aside0 (w'.heap[gb192]? = some (.cells #[.int .i64 a0_0, .int .i64 a0_1, (.slice A0_2 l0_2.length c0_2)] 31 (0, 0))) ∧ Aside0 (w'.heap[gb193]? = some (.cells #[.int .i64 a1_0, (.slice (some ad197) l1_1.length c1_1)] 28 (0, 0))) ∧ Aside0 (Below w.heap.size w w'))
         case atStart => exact ⟨(x5_2), (0), (by first | rfl | (simp; done) | (simp [*]; done)), H', ⟨Nat.le_refl _⟩, ⟨by (with_reducible repeat (first | apply Kd.V_alloc | apply Kd.V_drewN | apply Kd.V_drew)); exact HO_5.out⟩, ⟨bkl BK192⟩, ⟨bkl BK193⟩, ⟨bel2 HB GE192 GE193⟩⟩
         case round =>
          clear H'
          try clear c1
          try clear p1
          try clear q1
          try clear hx1
          try clear p2
          try clear c3
          try clear c7
          try clear c7b0
          try clear c8
          try clear c10
          try clear c10b0
          try clear c11
          try clear c11b0
          try clear c12
          try clear c12b0
          try clear c13
          try clear hcz14_0
          try clear hcz14_1
          try clear hcz9_0
          try clear hcz9_1
          try clear hfz14_0
          try clear hfz14_1
          try clear hfz9_0
          try clear hfz9_1
          try clear hx197_0
          try clear p197
          try clear p2
          try clear q197
          obtain ⟨x5_3, x8_3, rfl, HA, HK3, HO_5, BK192, BK193, HB⟩ := hrel
          cases gk with
          | zero => exact absurd HA.out (by simp [spec_l10Shifted.l2])
          | succ k3 =>
           have H := HA.out
           clear HA
           simp only [spec_l10Shifted.l2] at H
           by_cases c15 : x8_3 < x7_2
           ·rw [if_pos c15] at H
            have c15b0 : decide (x8_3 < x7_2) = true := decide_eq_true c15
            clear c15
            by_cases c16 : 0 ≤ x6_1
            ·rw [if_pos c16] at H
             have c16b0 : decide (0 ≤ x6_1) = true := decide_eq_true c16
             clear c16
             by_cases c17 : x6_1 < (l1_1.length : Int)
             ·rw [if_pos c17] at H
              have c17b0 : decide (x6_1 < (l1_1.length : Int)) = true := decide_eq_true c17
              clear c17
              by_cases c18 : 0 ≤ x8_3
              ·rw [if_pos c18] at H
               have c18b0 : decide (0 ≤ x8_3) = true := decide_eq_true c18
               clear c18
               by_cases c19 : x8_3 < ((rd_L1 l1_1 x6_1).length : Int)
               ·rw [if_pos c19] at H
                have c19b0 : decide (x8_3 < ((rd_L1 l1_1 x6_1).length : Int)) = true := decide_eq_true c19
                clear c19
                obtain ⟨ji20, hji20⟩ : ∃ j_ : Int, (wrap64 ((rd (rd_L1 l1_1 x6_1) x8_3) - 1)) = j_ := ⟨_, rfl⟩
                replace H : (if 0 ≤ (ji20) then (if (ji20) < (l0_2.length : Int) then (if 0 ≤ x7_2 then (if x7_2 < ((rd_L1 l1_1 x6_1).length : Int) then (if 0 ≤ (wrap64 ((rd (rd_L1 l1_1 x6_1) x7_2) - 1)) then (if (wrap64 ((rd (rd_L1 l1_1 x6_1) x7_2) - 1)) < (l0_2.length : Int) then (if (rd l0_2 (ji20)) < (rd l0_2 (wrap64 ((rd (rd_L1 l1_1 x6_1) x7_2) - 1))) then ((spec_l1Put.f k3 x5_3 (rd (rd_L1 l1_1 x6_1) x7_2)).bind fun t206 => (spec_l10Shifted.l2 k3 t206 x6_1 x7_2 (wrap64 (x8_3 + 1)) a0_0 a0_1 l0_2 a1_0 l1_1)) else (spec_l10Shifted.l2 k3 x5_3 x6_1 x7_2 (wrap64 (x8_3 + 1)) a0_0 a0_1 l0_2 a1_0 l1_1)) else (none)) else (none)) else (none)) else (none)) else (none)) else (none)) = some r := by first | (rw [hji20] at H; exact H) | (simp only [hji20] at H ⊢; exact H)
                have hji20w : (IntKind.i64.wrap ((rd (rd_L1 l1_1 x6_1) x8_3) - 1)) = ji20 := (i64_w _).trans hji20
                by_cases c21 : 0 ≤ (ji20)
                ·rw [if_pos c21] at H
                 have c21b0 : decide (0 ≤ (ji20)) = true := decide_eq_true c21
                 clear c21
                 by_cases c22 : (ji20) < (l0_2.length : Int)
                 ·rw [if_pos c22] at H
                  have c22b0 : decide ((ji20) < (l0_2.length : Int)) = true := decide_eq_true c22
                  clear c22
                  by_cases c23 : 0 ≤ x7_2
                  ·rw [if_pos c23] at H
                   have c23b0 : decide (0 ≤ x7_2) = true := decide_eq_true c23
                   clear c23
                   by_cases c24 : x7_2 < ((rd_L1 l1_1 x6_1).length : Int)
                   ·rw [if_pos c24] at H
                    have c24b0 : decide (x7_2 < ((rd_L1 l1_1 x6_1).length : Int)) = true := decide_eq_true c24
                    clear c24
                    obtain ⟨ji25, hji25⟩ : ∃ j_ : Int, (wrap64 ((rd (rd_L1 l1_1 x6_1) x7_2) - 1)) = j_ := ⟨_, rfl⟩
                    replace H : (if 0 ≤ (ji25) then (if (ji25) < (l0_2.length : Int) then (if (rd l0_2 (ji20)) < (rd l0_2 (ji25)) then ((spec_l1Put.f k3 x5_3 (rd (rd_L1 l1_1 x6_1) x7_2)).bind fun t206 => (spec_l10Shifted.l2 k3 t206 x6_1 x7_2 (wrap64 (x8_3 + 1)) a0_0 a0_1 l0_2 a1_0 l1_1)) else (spec_l10Shifted.l2 k3 x5_3 x6_1 x7_2 (wrap64 (x8_3 + 1)) a0_0 a0_1 l0_2 a1_0 l1_1)) else (none)) else (none)) = some r := by first | (rw [hji25] at H; exact H) | (simp only [hji25] at H ⊢; exact H)
                    have hji25w : (IntKind.i64.wrap ((rd (rd_L1 l1_1 x6_1) x7_2) - 1)) = ji25 := (i64_w _).trans hji25
                    by_cases c26 : 0 ≤ (ji25)
                    ·rw [if_pos c26] at H
                     have c26b0 : decide (0 ≤ (ji25)) = true := decide_eq_true c26
                     clear c26
                     by_cases c27 : (ji25) < (l0_2.length : Int)
                     ·rw [if_pos c27] at H
                      have c27b0 : decide ((ji25) < (l0_2.length : Int)) = true := decide_eq_true c27
                      clear c27
                      by_cases c28 : (rd l0_2 (ji20)) < (rd l0_2 (ji25))
                      ·rw [if_pos c28] at H
                       have c28b0 : decide ((rd l0_2 (ji20)) < (rd l0_2 (ji25))) = true := decide_eq_true c28
                       clear c28
                       replace H := Option.bind_eq_some_iff.mp H
                       obtain ⟨t206, A290, H⟩ := H
                       replace H : (spec_l10Shifted.l2 k3 t206 x6_1 x7_2 (wrap64 (x8_3 + 1)) a0_0 a0_1 l0_2 a1_0 l1_1) = some r := H
                       have A29 := Aside0.mk A290
                       clear A290
                       have H' := Aside0.mk H
                       clear H
                       have hnb30 := NB192_193.out
                       have hnc30 := NB193_192.out
                       have hcz31_0 : wr.cell? ⟨gb192, 0, none⟩ = some (.int .i64 a0_0) := (blk_cell BK192.out 0).trans rfl
                       have hcz31_1 : wr.cell? ⟨gb192, 1, none⟩ = some (.int .i64 a0_1) := (blk_cell BK192.out 1).trans rfl
                       have hcz31_2 : wr.cell? ⟨gb192, 2, none⟩ = some (.slice A0_2 l0_2.length c0_2) := (blk_cell BK192.out 2).trans rfl
                       have hfz31_0 := blk_frozen BK192.out 0
                       have hfz31_1 := blk_frozen BK192.out 1
                       have hfz31_2 := blk_frozen BK192.out 2
                       have hcz32_0 : wr.cell? ⟨gb193, 0, none⟩ = some (.int .i64 a1_0) := (blk_cell BK193.out 0).trans rfl
                       have hcz32_1 : wr.cell? ⟨gb193, 1, none⟩ = some (.slice (some ad197) l1_1.length c1_1) := (blk_cell BK193.out 1).trans rfl
                       have hfz32_0 := blk_frozen BK193.out 0
                       have hfz32_1 := blk_frozen BK193.out 1
                       have p198 : 0 ≤ (x6_1 : Int) := oda
                       have q198 : x6_1 < (l1_1.length : Int) := oda
                       obtain ⟨ad198, A198_0, c198_0, e198, hx198_0, hl198_0, hi198_0⟩ := at_L1 HR1_1.out x6_1 p198 q198
                       obtain rfl : ad197 = ad198 := (by injection e198)
                       replace hx198_0 := cel HB hx198_0
                       have HR198_0 := Aside0.mk hi198_0
                       have HC198_0 := Aside0.mk hl198_0
                       clear hi198_0 hl198_0
                       replace p198 := eq_true p198
                       replace q198 := eq_true q198
                       have p199 : 0 ≤ (x8_3 : Int) := oda
                       have q199 : x8_3 < ((rd_L1 l1_1 x6_1).length : Int) := oda
                       obtain ⟨ad199, e199, hx199_0⟩ := Kd.at_int HR198_0.out x8_3 p199 q199
                       cases e199
                       replace hx199_0 := cel HB hx199_0
                       replace p199 := eq_true p199
                       replace q199 := eq_true q199
                       have p200 : 0 ≤ ((ji20) : Int) := oda
                       have q200 : (ji20) < (l0_2.length : Int) := oda
                       obtain ⟨ad200, e200, hx200_0⟩ := Kd.at_int HR0_2.out (ji20) p200 q200
                       cases e200
                       replace hx200_0 := cel HB hx200_0
                       replace p200 := eq_true p200
                       replace q200 := eq_true q200
                       have p201 : 0 ≤ (x6_1 : Int) := oda
                       have q201 : x6_1 < (l1_1.length : Int) := oda
                       obtain ⟨ad201, A201_0, c201_0, e201, hx201_0, hl201_0, hi201_0⟩ := at_L1 HR1_1.out x6_1 p201 q201
                       obtain rfl : ad197 = ad201 := (by injection e201)
                       replace hx201_0 := cel HB hx201_0
                       have HR201_0 := Aside0.mk hi201_0
                       have HC201_0 := Aside0.mk hl201_0
                       clear hi201_0 hl201_0
                       replace p201 := eq_true p201
                       replace q201 := eq_true q201
                       have ea_ := Option.some.inj (hx198_0.symm.trans hx201_0)
                       injection ea_ with ea_ en_ ec_
                       subst ea_
                       subst ec_
                       clear en_
                       have p202 : 0 ≤ (x7_2 : Int) := oda
                       have q202 : x7_2 < ((rd_L1 l1_1 x6_1).length : Int) := oda
                       obtain ⟨ad202, e202, hx202_0⟩ := Kd.at_int HR201_0.out x7_2 p202 q202
                       cases e202
                       replace hx202_0 := cel HB hx202_0
                       replace p202 := eq_true p202
                       replace q202 := eq_true q202
                       have p203 : 0 ≤ ((ji25) : Int) := oda
                       have q203 : (ji25) < (l0_2.length : Int) := oda
                       obtain ⟨ad203, e203, hx203_0⟩ := Kd.at_int HR0_2.out (ji25) p203 q203
                       obtain rfl : ad200 = ad203 := (by injection e203)
                       replace hx203_0 := cel HB hx203_0
                       replace p203 := eq_true p203
                       replace q203 := eq_true q203
                       have p204 : 0 ≤ (x6_1 : Int) := oda
                       have q204 : x6_1 < (l1_1.length : Int) := oda
                       obtain ⟨ad204, A204_0, c204_0, e204, hx204_0, hl204_0, hi204_0⟩ := at_L1 HR1_1.out x6_1 p204 q204
                       obtain rfl : ad197 = ad204 := (by injection e204)
                       replace hx204_0 := cel HB hx204_0
                       have HR204_0 := Aside0.mk hi204_0
                       have HC204_0 := Aside0.mk hl204_0
                       clear hi204_0 hl204_0
                       replace p204 := eq_true p204
                       replace q204 := eq_true q204
                       have ea_ := Option.some.inj (hx198_0.symm.trans hx204_0)
                       injection ea_ with ea_ en_ ec_
                       subst ea_
                       subst ec_
                       clear en_
                       have p205 : 0 ≤ (x7_2 : Int) := oda
                       have q205 : x7_2 < ((rd_L1 l1_1 x6_1).length : Int) := oda
                       obtain ⟨ad205, e205, hx205_0⟩ := Kd.at_int HR204_0.out x7_2 p205 q205
                       cases e205
                       replace hx205_0 := cel HB hx205_0
                       replace p205 := eq_true p205
                       replace q205 := eq_true q205
                       obtain ⟨Ao33, co33, eo33⟩ := Kd.V_slice HO_5.out
                       subst eo33
                       go_wp2_with (first | (go_at_call 42; (with_reducible refine (spec_l1Put.calls k3 (fun k_ => ((w.heap.size ≤ k_) ∧ (k_ ≠ gb192 ∧ k_ ≠ gb193))) _ _ x5_3 (rd (rd_L1 l1_1 x6_1) x7_2) t206 _ ?side1 A29.out).mono ?_); (case side1 => exact HO_5.out); rintro e w34 ⟨v207, rfl, ho0, hb⟩; have n0_ := Aside0.mk (Kd.V_below (by (with_reducible repeat (first | apply Kd.V_alloc | apply Kd.V_drewN | apply Kd.V_drew)); exact HO_5.out) hb); have n1_ := Aside0.mk (Kd.V_lower (Kd.V_mono (ok' := fun k_ => (w.heap.size ≤ k_) ∧ k_ ≠ gb192 ∧ k_ ≠ gb193) ho0 (fun k_ hk_ => ⟨Or.elim hk_ (fun hs_ => hs_.1) (fun hn_ => (Nat.le_trans (below_size (bel2 HB GE192 GE193)) hn_)), Or.elim hk_ (fun hs_ => hs_.2.1) (fun hn_ => (Kd.freshB (g := gb192) (o := .cells #[.int .i64 a0_0, .int .i64 a0_1, .slice (some ad200) l0_2.length c0_2] 31 (0, 0)) (bkl BK192) k_ hn_)), Or.elim hk_ (fun hs_ => hs_.2.2) (fun hn_ => (Kd.freshB (g := gb193) (o := .cells #[.int .i64 a1_0, .slice (some ad197) l1_1.length c1_1] 28 (0, 0)) (bkl BK193) k_ hn_))⟩)) (below_size (bel2 HB GE192 GE193))); have n2_ := Aside0.mk (blk_below (g := gb192) (o := .cells #[.int .i64 a0_0, .int .i64 a0_1, .slice (some ad200) l0_2.length c0_2] 31 (0, 0)) (bkl BK192) hb); have n3_ := Aside0.mk (blk_below (g := gb193) (o := .cells #[.int .i64 a1_0, .slice (some ad197) l1_1.length c1_1] 28 (0, 0)) (bkl BK193) hb); have n4_ := Aside0.mk (below_step (bel2 HB GE192 GE193) hb); clear HO_5; clear BK192; clear BK193; clear HB; have HO_5 := n0_; have HO208 := n1_; have BK192 := n2_; have BK193 := n3_; have HB := n4_; clear n0_ n1_ n2_ n3_ n4_; (try clear hb); (try clear hb2); (try clear hk); (try clear hi); (try clear ho0)))
                       repeat (go_quiet (first | (go_at_call 42; (with_reducible refine (spec_l1Put.calls k3 (fun k_ => ((w.heap.size ≤ k_) ∧ (k_ ≠ gb192 ∧ k_ ≠ gb193))) _ _ x5_3 (rd (rd_L1 l1_1 x6_1) x7_2) t206 _ ?side1 A29.out).mono ?_); (case side1 => exact HO_5.out); rintro e w34 ⟨v207, rfl, ho0, hb⟩; have n0_ := Aside0.mk (Kd.V_below (by (with_reducible repeat (first | apply Kd.V_alloc | apply Kd.V_drewN | apply Kd.V_drew)); exact HO_5.out) hb); have n1_ := Aside0.mk (Kd.V_lower (Kd.V_mono (ok' := fun k_ => (w.heap.size ≤ k_) ∧ k_ ≠ gb192 ∧ k_ ≠ gb193) ho0 (fun k_ hk_ => ⟨Or.elim hk_ (fun hs_ => hs_.1) (fun hn_ => (Nat.le_trans (below_size (bel2 HB GE192 GE193)) hn_)), Or.elim hk_ (fun hs_ => hs_.2.1) (fun hn_ => (Kd.freshB (g := gb192) (o := .cells #[.int .i64 a0_0, .int .i64 a0_1, .slice (some ad200) l0_2.length c0_2] 31 (0, 0)) (bkl BK192) k_ hn_)), Or.elim hk_ (fun hs_ => hs_.2.2) (fun hn_ => (Kd.freshB (g := gb193) (o := .cells #[.int .i64 a1_0, .slice (some ad197) l1_1.length c1_1] 28 (0, 0)) (bkl BK193) k_ hn_))⟩)) (below_size (bel2 HB GE192 GE193))); have n2_ := Aside0.mk (blk_below (g := gb192) (o := .cells #[.int .i64 a0_0, .int .i64 a0_1, .slice (some ad200) l0_2.length c0_2] 31 (0, 0)) (bkl BK192) hb); have n3_ := Aside0.mk (blk_below (g := gb193) (o := .cells #[.int .i64 a1_0, .slice (some ad197) l1_1.length c1_1] 28 (0, 0)) (bkl BK193) hb); have n4_ := Aside0.mk (below_step (bel2 HB GE192 GE193) hb); clear HO_5; clear BK192; clear BK193; clear HB; have HO_5 := n0_; have HO208 := n1_; have BK192 := n2_; have BK193 := n3_; have HB := n4_; clear n0_ n1_ n2_ n3_ n4_; (try clear hb); (try clear hb2); (try clear hk); (try clear hi); (try clear ho0))); try go_wp2_with (first | (go_at_call 42; (with_reducible refine (spec_l1Put.calls k3 (fun k_ => ((w.heap.size ≤ k_) ∧ (k_ ≠ gb192 ∧ k_ ≠ gb193))) _ _ x5_3 (rd (rd_L1 l1_1 x6_1) x7_2) t206 _ ?side1 A29.out).mono ?_); (case side1 => exact HO_5.out); rintro e w34 ⟨v207, rfl, ho0, hb⟩; have n0_ := Aside0.mk (Kd.V_below (by (with_reducible repeat (first | apply Kd.V_alloc | apply Kd.V_drewN | apply Kd.V_drew)); exact HO_5.out) hb); have n1_ := Aside0.mk (Kd.V_lower (Kd.V_mono (ok' := fun k_ => (w.heap.size ≤ k_) ∧ k_ ≠ gb192 ∧ k_ ≠ gb193) ho0 (fun k_ hk_ => ⟨Or.elim hk_ (fun hs_ => hs_.1) (fun hn_ => (Nat.le_trans (below_size (bel2 HB GE192 GE193)) hn_)), Or.elim hk_ (fun hs_ => hs_.2.1) (fun hn_ => (Kd.freshB (g := gb192) (o := .cells #[.int .i64 a0_0, .int .i64 a0_1, .slice (some ad200) l0_2.length c0_2] 31 (0, 0)) (bkl BK192) k_ hn_)), Or.elim hk_ (fun hs_ => hs_.2.2) (fun hn_ => (Kd.freshB (g := gb193) (o := .cells #[.int .i64 a1_0, .slice (some ad197) l1_1.length c1_1] 28 (0, 0)) (bkl BK193) k_ hn_))⟩)) (below_size (bel2 HB GE192 GE193))); have n2_ := Aside0.mk (blk_below (g := gb192) (o := .cells #[.int .i64 a0_0, .int .i64 a0_1, .slice (some ad200) l0_2.length c0_2] 31 (0, 0)) (bkl BK192) hb); have n3_ := Aside0.mk (blk_below (g := gb193) (o := .cells #[.int .i64 a1_0, .slice (some ad197) l1_1.length c1_1] 28 (0, 0)) (bkl BK193) hb); have n4_ := Aside0.mk (below_step (bel2 HB GE192 GE193) hb); clear HO_5; clear BK192; clear BK193; clear HB; have HO_5 := n0_; have HO208 := n1_; have BK192 := n2_; have BK193 := n3_; have HB := n4_; clear n0_ n1_ n2_ n3_ n4_; (try clear hb); (try clear hb2); (try clear hk); (try clear hi); (try clear ho0))))
                       go_roundg k3
                       case measure => have := HK1.out; have := HK2.out; have := HK3.out; omega
                       case rel => exact ⟨(t206), (wrap64 (x8_3 + 1)), (by first | rfl | (simp; done) | (simp [*]; done)), H', ⟨by have := HK1.out; have := HK2.out; have := HK3.out; omega⟩, ⟨by (with_reducible repeat (first | apply Kd.V_alloc | apply Kd.V_drewN | apply Kd.V_drew)); exact HO208.out⟩, ⟨bkl BK192⟩, ⟨bkl BK193⟩, ⟨bel2 HB GE192 GE193⟩⟩
                      ·rw [if_neg c28] at H
                       have c28b0 : decide ((rd l0_2 (ji20)) < (rd l0_2 (ji25))) = false := decide_eq_false c28
                       clear c28
                       have H' := Aside0.mk H
                       clear H
                       have hnb35 := NB192_193.out
                       have hnc35 := NB193_192.out
                       have hcz36_0 : wr.cell? ⟨gb192, 0, none⟩ = some (.int .i64 a0_0) := (blk_cell BK192.out 0).trans rfl
                       have hcz36_1 : wr.cell? ⟨gb192, 1, none⟩ = some (.int .i64 a0_1) := (blk_cell BK192.out 1).trans rfl
                       have hcz36_2 : wr.cell? ⟨gb192, 2, none⟩ = some (.slice A0_2 l0_2.length c0_2) := (blk_cell BK192.out 2).trans rfl
                       have hfz36_0 := blk_frozen BK192.out 0
                       have hfz36_1 := blk_frozen BK192.out 1
                       have hfz36_2 := blk_frozen BK192.out 2
                       have hcz37_0 : wr.cell? ⟨gb193, 0, none⟩ = some (.int .i64 a1_0) := (blk_cell BK193.out 0).trans rfl
                       have hcz37_1 : wr.cell? ⟨gb193, 1, none⟩ = some (.slice (some ad197) l1_1.length c1_1) := (blk_cell BK193.out 1).trans rfl
                       have hfz37_0 := blk_frozen BK193.out 0
                       have hfz37_1 := blk_frozen BK193.out 1
                       have p198 : 0 ≤ (x6_1 : Int) := oda
                       have q198 : x6_1 < (l1_1.length : Int) := oda
                       obtain ⟨ad198, A198_0, c198_0, e198, hx198_0, hl198_0, hi198_0⟩ := at_L1 HR1_1.out x6_1 p198 q198
                       obtain rfl : ad197 = ad198 := (by injection e198)
                       replace hx198_0 := cel HB hx198_0
                       have HR198_0 := Aside0.mk hi198_0
                       have HC198_0 := Aside0.mk hl198_0
                       clear hi198_0 hl198_0
                       replace p198 := eq_true p198
                       replace q198 := eq_true q198
                       have p199 : 0 ≤ (x8_3 : Int) := oda
                       have q199 : x8_3 < ((rd_L1 l1_1 x6_1).length : Int) := oda
                       obtain ⟨ad199, e199, hx199_0⟩ := Kd.at_int HR198_0.out x8_3 p199 q199
                       cases e199
                       replace hx199_0 := cel HB hx199_0
                       replace p199 := eq_true p199
                       replace q199 := eq_true q199
                       have p200 : 0 ≤ ((ji20) : Int) := oda
                       have q200 : (ji20) < (l0_2.length : Int) := oda
                       obtain ⟨ad200, e200, hx200_0⟩ := Kd.at_int HR0_2.out (ji20) p200 q200
                       cases e200
                       replace hx200_0 := cel HB hx200_0
                       replace p200 := eq_true p200
                       replace q200 := eq_true q200
                       have p201 : 0 ≤ (x6_1 : Int) := oda
                       have q201 : x6_1 < (l1_1.length : Int) := oda
                       obtain ⟨ad201, A201_0, c201_0, e201, hx201_0, hl201_0, hi201_0⟩ := at_L1 HR1_1.out x6_1 p201 q201
                       obtain rfl : ad197 = ad201 := (by injection e201)
                       replace hx201_0 := cel HB hx201_0
                       have HR201_0 := Aside0.mk hi201_0
                       have HC201_0 := Aside0.mk hl201_0
                       clear hi201_0 hl201_0
                       replace p201 := eq_true p201
                       replace q201 := eq_true q201
                       have ea_ := Option.some.inj (hx198_0.symm.trans hx201_0)
                       injection ea_ with ea_ en_ ec_
                       subst ea_
                       subst ec_
                       clear en_
                       have p202 : 0 ≤ (x7_2 : Int) := oda
                       have q202 : x7_2 < ((rd_L1 l1_1 x6_1).length : Int) := oda
                       obtain ⟨ad202, e202, hx202_0⟩ := Kd.at_int HR201_0.out x7_2 p202 q202
                       cases e202
                       replace hx202_0 := cel HB hx202_0
                       replace p202 := eq_true p202
                       replace q202 := eq_true q202
                       have p203 : 0 ≤ ((ji25) : Int) := oda
                       have q203 : (ji25) < (l0_2.length : Int) := oda
                       obtain ⟨ad203, e203, hx203_0⟩ := Kd.at_int HR0_2.out (ji25) p203 q203
                       obtain rfl : ad200 = ad203 := (by injection e203)
                       replace hx203_0 := cel HB hx203_0
                       replace p203 := eq_true p203
                       replace q203 := eq_true q203
                       go_wp2
                       repeat (go_quiet (fail); try go_wp2)
                       go_roundg k3
                       case measure => have := HK1.out; have := HK2.out; have := HK3.out; omega
                       case rel => exact ⟨(x5_3), (wrap64 (x8_3 + 1)), (by first | rfl | (simp; done) | (simp [*]; done)), H', ⟨by have := HK1.out; have := HK2.out; have := HK3.out; omega⟩, ⟨by (with_reducible repeat (first | apply Kd.V_alloc | apply Kd.V_drewN | apply Kd.V_drew)); exact HO_5.out⟩, ⟨bkl BK192⟩, ⟨bkl BK193⟩, ⟨bel2 HB GE192 GE193⟩⟩
                     ·rw [if_neg c27] at H
                      exact absurd H (by simp)
                    ·rw [if_neg c26] at H
                     exact absurd H (by simp)
                   ·rw [if_neg c24] at H
                    exact absurd H (by simp)
                  ·rw [if_neg c23] at H
                   exact absurd H (by simp)
                 ·rw [if_neg c22] at H
                  exact absurd H (by simp)
                ·rw [if_neg c21] at H
                 exact absurd H (by simp)
               ·rw [if_neg c19] at H
                exact absurd H (by simp)
              ·rw [if_neg c18] at H
               exact absurd H (by simp)
             ·rw [if_neg c17] at H
              exact absurd H (by simp)
            ·rw [if_neg c16] at H
             exact absurd H (by simp)
           ·rw [if_neg c15] at H
            have c15b0 : decide (x8_3 < x7_2) = false := decide_eq_false c15
            clear c15
            have H' := Aside0.mk H
            clear H
            go_wp2
            repeat (go_quiet (fail); try go_wp2)
            go_roundg k3
            case measure => have := HK1.out; have := HK2.out; have := HK3.out; omega
            case rel => exact ⟨(x5_3), (wrap64 (x7_2 + 1)), (by first | rfl | (simp; done) | (simp [*]; done)), H', ⟨by have := HK1.out; have := HK2.out; have := HK3.out; omega⟩, ⟨by (with_reducible repeat (first | apply Kd.V_alloc | apply Kd.V_drewN | apply Kd.V_drew)); exact HO_5.out⟩, ⟨bkl BK192⟩, ⟨bkl BK193⟩, ⟨bel2 HB GE192 GE193⟩⟩
        ·rw [if_neg c12] at H
         have c12b0 : decide (x7_2 < ((rd_L1 l1_1 x6_1).length : Int)) = false := decide_eq_false c12
         clear c12
         have H' := Aside0.mk H
         clear H
         have hnb38 := NB193_192.out
         have hnc38 := NB192_193.out
         have hcz39_0 : wr.cell? ⟨gb193, 0, none⟩ = some (.int .i64 a1_0) := (blk_cell BK193.out 0).trans rfl
         have hcz39_1 : wr.cell? ⟨gb193, 1, none⟩ = some (.slice A1_1 l1_1.length c1_1) := (blk_cell BK193.out 1).trans rfl
         have hfz39_0 := blk_frozen BK193.out 0
         have hfz39_1 := blk_frozen BK193.out 1
         have p197 : 0 ≤ (x6_1 : Int) := oda
         have q197 : x6_1 < (l1_1.length : Int) := oda
         obtain ⟨ad197, A197_0, c197_0, e197, hx197_0, hl197_0, hi197_0⟩ := at_L1 HR1_1.out x6_1 p197 q197
         cases e197
         replace hx197_0 := cel HB hx197_0
         have HR197_0 := Aside0.mk hi197_0
         have HC197_0 := Aside0.mk hl197_0
         clear hi197_0 hl197_0
         replace p197 := eq_true p197
         replace q197 := eq_true q197
         go_wp2
         repeat (go_quiet (fail); try go_wp2)
         go_roundg k2
         case measure => have := HK1.out; have := HK2.out; omega
         case rel => exact ⟨(x5_2), (wrap64 (x6_1 + 1)), (by first | rfl | (simp; done) | (simp [*]; done)), H', ⟨by have := HK1.out; have := HK2.out; omega⟩, ⟨by (with_reducible repeat (first | apply Kd.V_alloc | apply Kd.V_drewN | apply Kd.V_drew)); exact HO_5.out⟩, ⟨bkl BK192⟩, ⟨bkl BK193⟩, ⟨bel2 HB GE192 GE193⟩⟩
       ·rw [if_neg c11] at H
        exact absurd H (by simp)
      ·rw [if_neg c10] at H
       exact absurd H (by simp)
   ·rw [if_neg c7] at H
    have c7b0 : decide (x6_1 < (l1_1.length : Int)) = false := decide_eq_false c7
    clear c7
    obtain rfl := Option.some.inj H
    have hnb40 := NB193_192.out
    have hnc40 := NB192_193.out
    have hcz41_0 : wr.cell? ⟨gb193, 0, none⟩ = some (.int .i64 a1_0) := (blk_cell BK193.out 0).trans rfl
    have hcz41_1 : wr.cell? ⟨gb193, 1, none⟩ = some (.slice A1_1 l1_1.length c1_1) := (blk_cell BK193.out 1).trans rfl
    have hfz41_0 := blk_frozen BK193.out 0
    have hfz41_1 := blk_frozen BK193.out 1
    go_wp2
    repeat (go_quiet (fail); try go_wp2)
    go_ret
    exact ⟨_, by first | rfl | (simp [errW_none, errW_some] <;> rfl) | (simp [*, errW_none, errW_some] <;> rfl), by (with_reducible repeat (first | apply Kd.V_alloc | apply Kd.V_drewN | apply Kd.V_drew)); exact Kd.V_mono HO_5.out (fun _ hk => hk.1), bel2 HB GE192 GE193⟩

/-! ### spec_l1In: function 41 -/
def spec_l1In.f (a0 : Int) (a1 : Int) (a2 : Int) : Option (Bool) := if a0 ≥ a1 then (some (decide (a0 ≤ a2))) else (some false)
set_option maxHeartbeats 8000000 in
set_option maxRecDepth 100000 in
theorem spec_l1In.calls (a0 : Int) (a1 : Int) (a2 : Int) (r : Bool) (w : World) (h : spec_l1In.f a0 a1 a2 = some r) :
  Calls Try.prog 41 #[.int .i64 a0, .int .i64 a1, .int .i64 a2] w fun e w' => e = .returned (.bool r) ∧ Drawn0 w w' := by
 have H : (if a0 ≥ a1 then (some (decide (a0 ≤ a2))) else (some false)) = some r := h
 clear h
 by_cases c4 : a0 ≥ a1
 ·rw [if_pos c4] at H
  have c4b0 : decide (a1 ≤ a0) = true := decide_eq_true c4
  clear c4
  obtain rfl := Option.some.inj H
  go_enter Try.func41, Try.ntmps41
  go_wp2
  go_ret
  exact ⟨by first | rfl | (simp; done) | (simp [*]; done), by repeat (first | exact Drawn0.refl _ | apply Drawn0.step)⟩
 ·rw [if_neg c4] at H
  have c4b0 : decide (a1 ≤ a0) = false := decide_eq_false c4
  clear c4
  obtain rfl := Option.some.inj H
  go_enter Try.func41, Try.ntmps41
  go_wp2
  go_ret
  exact ⟨by first | rfl | (simp; done) | (simp [*]; done), by repeat (first | exact Drawn0.refl _ | apply Drawn0.step)⟩

/-! ### spec_l10Good: function 46 -/
mutual
def spec_l10Good.j0 : Nat → Bool → Int → Int → List Int → Option (Bool)
 | 0, _, _, _, _ => none
 | k + 1, x30, x210000, x210001, x210002 => if x30 = true then (some false) else (spec_l10Good.l0 k 0 x210000 x210001 x210002)
def spec_l10Good.l0 : Nat → Int → Int → Int → List Int → Option (Bool)
 | 0, _, _, _, _ => none
 | k + 1, x3, x210000, x210001, x210002 => if x3 < (x210002.length : Int) then (if 0 ≤ x3 then ((spec_l1In.f (rd x210002 x3) 1 9).bind fun t213 => (if t213 = true then (spec_l10Good.l0 k (wrap64 (x3 + 1)) x210000 x210001 x210002) else (some false))) else (none)) else (some true)
end
def spec_l10Good.f (k : Nat) (a0_0 : Int) (a0_1 : Int) (l0_2 : List Int) : Option (Bool) := (spec_l1In.f a0_0 1 5).bind fun t210 => (if t210 = true then ((spec_l1In.f a0_1 1 4).bind fun t211 => (if t211 = true then (if (l0_2.length : Int) > 7 then (spec_l10Good.j0 k true a0_0 a0_1 l0_2) else (spec_l10Good.j0 k (decide ((l0_2.length : Int) > (wrap64 (a0_0 * a0_1)))) a0_0 a0_1 l0_2)) else (spec_l10Good.j0 k true a0_0 a0_1 l0_2))) else (spec_l10Good.j0 k true a0_0 a0_1 l0_2))
theorem spec_l10Good.mono_l : ∀ k, (∀ y0 y1 y2 y3, LeO (spec_l10Good.j0 k y0 y1 y2 y3) (spec_l10Good.j0 (k + 1) y0 y1 y2 y3)) ∧ (∀ y0 y1 y2 y3, LeO (spec_l10Good.l0 k y0 y1 y2 y3) (spec_l10Good.l0 (k + 1) y0 y1 y2 y3))
 | 0 => ⟨fun _ _ _ _ r h => by simp [spec_l10Good.j0] at h, fun _ _ _ _ r h => by simp [spec_l10Good.l0] at h⟩
 | k + 1 => by
  obtain ⟨ih0, ih1⟩ := spec_l10Good.mono_l k
  refine ⟨?_, ?_⟩
  ·intro y0 y1 y2 y3
   unfold spec_l10Good.j0
   repeat' first
   | (with_reducible exact ih0 _ _ _ _)
   | (with_reducible exact ih1 _ _ _ _)
   | (with_reducible exact LeO.refl _)
   | (with_reducible exact LeO.none _)
   | (with_reducible refine LeO.ite ?_ ?_)
   | (with_reducible refine LeO.bind ?_ (fun _ => ?_))
   | exact ih0 _ _ _ _
   | exact ih1 _ _ _ _
   | exact LeO.none _
   | refine LeO.ite ?_ ?_
   | refine LeO.bind ?_ (fun _ => ?_)
  ·intro y0 y1 y2 y3
   unfold spec_l10Good.l0
   repeat' first
   | (with_reducible exact ih0 _ _ _ _)
   | (with_reducible exact ih1 _ _ _ _)
   | (with_reducible exact LeO.refl _)
   | (with_reducible exact LeO.none _)
   | (with_reducible refine LeO.ite ?_ ?_)
   | (with_reducible refine LeO.bind ?_ (fun _ => ?_))
   | exact ih0 _ _ _ _
   | exact ih1 _ _ _ _
   | exact LeO.none _
   | refine LeO.ite ?_ ?_
   | refine LeO.bind ?_ (fun _ => ?_)
theorem spec_l10Good.mono : ∀ a0 a1 a2 k, LeO (spec_l10Good.f k a0 a1 a2) (spec_l10Good.f (k + 1) a0 a1 a2) := by
 intro a0 a1 a2 k
 obtain ⟨ih0, ih1⟩ := spec_l10Good.mono_l k
 unfold spec_l10Good.f
 repeat' first
   | (with_reducible exact ih0 _ _ _ _)
   | (with_reducible exact ih1 _ _ _ _)
   | (with_reducible exact LeO.refl _)
   | (with_reducible exact LeO.none _)
   | (with_reducible refine LeO.ite ?_ ?_)
   | (with_reducible refine LeO.bind ?_ (fun _ => ?_))
   | exact ih0 _ _ _ _
   | exact ih1 _ _ _ _
   | exact LeO.none _
   | refine LeO.ite ?_ ?_
   | refine LeO.bind ?_ (fun _ => ?_)
set_option maxHeartbeats 8000000 in
set_option maxRecDepth 100000 in
theorem spec_l10Good.calls (k : Nat) (a0_0 : Int) (a0_1 : Int) (A0_2 : Option Addr) (c0_2 : Nat) (l0_2 : List Int) (r : Bool) (w : World) (hr0_2 : Kd.C (Kd.int .i64) w A0_2 l0_2.length l0_2) (hc0_2 : l0_2.length ≤ c0_2) (h : spec_l10Good.f k a0_0 a0_1 l0_2 = some r) :
  Calls Try.prog 46 #[.agg #[.int .i64 a0_0, .int .i64 a0_1, .slice A0_2 l0_2.length c0_2]] w fun e w' => e = .returned (.bool r) ∧ Below w.heap.size w w' := by
 have hu31 := Try.underlying31
 have HR0_2 := Aside0.mk hr0_2
 have HC0_2 := Aside0.mk hc0_2
 clear hr0_2 hc0_2
 have HB := Aside0.mk (Below.refl w.heap.size w)
 have H : ((spec_l1In.f a0_0 1 5).bind fun t210 => (if t210 = true then ((spec_l1In.f a0_1 1 4).bind fun t211 => (if t211 = true then (if (l0_2.length : Int) > 7 then (spec_l10Good.j0 k true a0_0 a0_1 l0_2) else (spec_l10Good.j0 k (decide ((l0_2.length : Int) > (wrap64 (a0_0 * a0_1)))) a0_0 a0_1 l0_2)) else (spec_l10Good.j0 k true a0_0 a0_1 l0_2))) else (spec_l10Good.j0 k true a0_0 a0_1 l0_2))) = some r := h
 clear h
 have HC2 := Aside0.mk H
 clear H
 go_enter Try.func46, Try.ntmps46
 go_upto_region 1 with (first | ((with_reducible refine gate_dst (N := 1) rfl ?_); (try (refine gate_guard (by rfl) ?_; dsimp only)); refine box_event ?hg (N := 1) ?hd (cs := #[.int .i64 a0_0, .int .i64 a0_1, .slice A0_2 l0_2.length c0_2]) (t := 31) ?hr ?_; (case hd => rfl); (case hg => rfl); (case hr => first | (go_simp; done) | (go_simp; rfl)); intro gb209 hg w3 hbox hb; have n0_ := Aside0.mk (below_step (bel HB) hb); have n1_ := Aside0.mk (hbox); have n2_ := Aside0.mk ((by rw [hg]; exact (below_size (bel HB)) : w.heap.size ≤ gb209)); have n3_ := Aside0.mk ((by rw [hg]; exact (below_size (bel HB)) : w.heap.size ≤ gb209)); clear HB; have HB := n0_; have BK209 := n1_; have GW209 := n2_; have GE209 := n3_; clear n0_ n1_ n2_ n3_; clear hb hbox hg))
 (try simp only [Act.put, List.setIfInBounds_toArray, List.set_cons_zero, List.set_cons_succ])
 go_cut [30] (fun v30 wc => ∃ (kq : Nat) (x30_1 : Bool), v30 = .bool x30_1 ∧ Aside0 (spec_l10Good.j0 kq x30_1 a0_0 a0_1 l0_2 = some r) ∧ Aside0 (kq ≤ k) ∧ Aside0 (wc.heap[gb209]? = some (.cells #[.int .i64 a0_0, .int .i64 a0_1, (.slice A0_2 l0_2.length c0_2)] 31 (0, 0))) ∧ Aside0 (Below w.heap.size w wc))
 case first =>
  have H := HC2.out
  clear HC2
  replace H := Option.bind_eq_some_iff.mp H
  obtain ⟨t210, A40, H⟩ := H
  replace H : (if t210 = true then ((spec_l1In.f a0_1 1 4).bind fun t211 => (if t211 = true then (if (l0_2.length : Int) > 7 then (spec_l10Good.j0 k true a0_0 a0_1 l0_2) else (spec_l10Good.j0 k (decide ((l0_2.length : Int) > (wrap64 (a0_0 * a0_1)))) a0_0 a0_1 l0_2)) else (spec_l10Good.j0 k true a0_0 a0_1 l0_2))) else (spec_l10Good.j0 k true a0_0 a0_1 l0_2)) = some r := H
  have A4 := Aside0.mk A40
  clear A40
  by_cases c5 : t210 = true
  ·subst c5
   have H1 : ((spec_l1In.f a0_1 1 4).bind fun t211 => (if t211 = true then (if (l0_2.length : Int) > 7 then (spec_l10Good.j0 k true a0_0 a0_1 l0_2) else (spec_l10Good.j0 k (decide ((l0_2.length : Int) > (wrap64 (a0_0 * a0_1)))) a0_0 a0_1 l0_2)) else (spec_l10Good.j0 k true a0_0 a0_1 l0_2))) = some r := by rw [if_pos rfl] at H; exact H
   clear H
   have H := H1
   clear H1
   replace H := Option.bind_eq_some_iff.mp H
   obtain ⟨t211, A60, H⟩ := H
   replace H : (if t211 = true then (if (l0_2.length : Int) > 7 then (spec_l10Good.j0 k true a0_0 a0_1 l0_2) else (spec_l10Good.j0 k (decide ((l0_2.length : Int) > (wrap64 (a0_0 * a0_1)))) a0_0 a0_1 l0_2)) else (spec_l10Good.j0 k true a0_0 a0_1 l0_2)) = some r := H
   have A6 := Aside0.mk A60
   clear A60
   by_cases c7 : t211 = true
   ·subst c7
    have H1 : (if (l0_2.length : Int) > 7 then (spec_l10Good.j0 k true a0_0 a0_1 l0_2) else (spec_l10Good.j0 k (decide ((l0_2.length : Int) > (wrap64 (a0_0 * a0_1)))) a0_0 a0_1 l0_2)) = some r := by rw [if_pos rfl] at H; exact H
    clear H
    have H := H1
    clear H1
    by_cases c8 : (l0_2.length : Int) > 7
    ·rw [if_pos c8] at H
     have c8b0 : decide (7 < (l0_2.length : Int)) = true := decide_eq_true c8
     have c8b1 : decide (7 < l0_2.length) = true := decide_eq_true (by omega)
     clear c8
     (first | rw [c8b0] | (simp only [i64_w, i32_w]; rw [c8b0]) | skip)
     have H' := Aside0.mk H
     clear H
     have hcz9_0 : w3.cell? ⟨gb209, 0, none⟩ = some (.int .i64 a0_0) := (blk_cell BK209.out 0).trans rfl
     have hcz9_1 : w3.cell? ⟨gb209, 1, none⟩ = some (.int .i64 a0_1) := (blk_cell BK209.out 1).trans rfl
     have hcz9_2 : w3.cell? ⟨gb209, 2, none⟩ = some (.slice A0_2 l0_2.length c0_2) := (blk_cell BK209.out 2).trans rfl
     have hfz9_0 := blk_frozen BK209.out 0
     have hfz9_1 := blk_frozen BK209.out 1
     have hfz9_2 := blk_frozen BK209.out 2
     go_wp2_with (first | ((with_reducible refine gate_callee (f := 41) rfl ?_); refine goesL_ (some 6) rfl rfl Try.func41 (by kernel_rfl) rfl #[.int .i64 a0_0, .int .i64 1, .int .i64 5] rfl gmp ?_; (with_reducible refine (spec_l1In.calls a0_0 1 5 true _ A4.out).mono ?_); rintro e w' ⟨rfl, ⟨nd, rfl⟩⟩; refine ⟨_, rfl, ?_⟩) | (go_at_call 41; (with_reducible refine (spec_l1In.calls a0_1 1 4 true _ A6.out).mono ?_); rintro e w' ⟨rfl, ⟨nd, rfl⟩⟩))
     go_meet
     case rel => exact ⟨_, (true), (by first | rfl | (simp; done) | (simp [*]; done)), H', ⟨by first | omega | exact Nat.le_refl _⟩, ⟨bkl BK209⟩, ⟨bel1 HB GE209⟩⟩
    ·rw [if_neg c8] at H
     have c8b0 : decide (7 < (l0_2.length : Int)) = false := decide_eq_false c8
     have c8b1 : decide (7 < l0_2.length) = false := decide_eq_false (by omega)
     clear c8
     (first | rw [c8b0] | (simp only [i64_w, i32_w]; rw [c8b0]) | skip)
     have H' := Aside0.mk H
     clear H
     have hcz10_0 : w3.cell? ⟨gb209, 0, none⟩ = some (.int .i64 a0_0) := (blk_cell BK209.out 0).trans rfl
     have hcz10_1 : w3.cell? ⟨gb209, 1, none⟩ = some (.int .i64 a0_1) := (blk_cell BK209.out 1).trans rfl
     have hcz10_2 : w3.cell? ⟨gb209, 2, none⟩ = some (.slice A0_2 l0_2.length c0_2) := (blk_cell BK209.out 2).trans rfl
     have hfz10_0 := blk_frozen BK209.out 0
     have hfz10_1 := blk_frozen BK209.out 1
     have hfz10_2 := blk_frozen BK209.out 2
     go_wp2_with (first | ((with_reducible refine gate_callee (f := 41) rfl ?_); refine goesL_ (some 6) rfl rfl Try.func41 (by kernel_rfl) rfl #[.int .i64 a0_0, .int .i64 1, .int .i64 5] rfl gmp ?_; (with_reducible refine (spec_l1In.calls a0_0 1 5 true _ A4.out).mono ?_); rintro e w' ⟨rfl, ⟨nd, rfl⟩⟩; refine ⟨_, rfl, ?_⟩) | (go_at_call 41; (with_reducible refine (spec_l1In.calls a0_1 1 4 true _ A6.out).mono ?_); rintro e w' ⟨rfl, ⟨nd, rfl⟩⟩))
     go_meet
     case rel => exact ⟨_, (decide ((l0_2.length : Int) > (wrap64 (a0_0 * a0_1)))), (by first | rfl | (simp; done) | (simp [*]; done)), H', ⟨by first | omega | exact Nat.le_refl _⟩, ⟨bkl BK209⟩, ⟨bel1 HB GE209⟩⟩
   ·replace c7 := Bool.eq_false_iff.mpr c7
    subst c7
    have H1 : (spec_l10Good.j0 k true a0_0 a0_1 l0_2) = some r := by rw [if_neg (show ¬ (false = true) by decide)] at H; exact H
    clear H
    have H := H1
    clear H1
    have H' := Aside0.mk H
    clear H
    have hcz11_0 : w3.cell? ⟨gb209, 0, none⟩ = some (.int .i64 a0_0) := (blk_cell BK209.out 0).trans rfl
    have hcz11_1 : w3.cell? ⟨gb209, 1, none⟩ = some (.int .i64 a0_1) := (blk_cell BK209.out 1).trans rfl
    have hcz11_2 : w3.cell? ⟨gb209, 2, none⟩ = some (.slice A0_2 l0_2.length c0_2) := (blk_cell BK209.out 2).trans rfl
    have hfz11_0 := blk_frozen BK209.out 0
    have hfz11_1 := blk_frozen BK209.out 1
    have hfz11_2 := blk_frozen BK209.out 2
    go_wp2_with (first | ((with_reducible refine gate_callee (f := 41) rfl ?_); refine goesL_ (some 6) rfl rfl Try.func41 (by kernel_rfl) rfl #[.int .i64 a0_0, .int .i64 1, .int .i64 5] rfl gmp ?_; (with_reducible refine (spec_l1In.calls a0_0 1 5 true _ A4.out).mono ?_); rintro e w' ⟨rfl, ⟨nd, rfl⟩⟩; refine ⟨_, rfl, ?_⟩) | (go_at_call 41; (with_reducible refine (spec_l1In.calls a0_1 1 4 false _ A6.out).mono ?_); rintro e w' ⟨rfl, ⟨nd, rfl⟩⟩))
    go_meet
    case rel => exact ⟨_, (true), (by first | rfl | (simp; done) | (simp [*]; done)), H', ⟨by first | omega | exact Nat.le_refl _⟩, ⟨bkl BK209⟩, ⟨bel1 HB GE209⟩⟩
  ·replace c5 := Bool.eq_false_iff.mpr c5
   subst c5
   have H1 : (spec_l10Good.j0 k true a0_0 a0_1 l0_2) = some r := by rw [if_neg (show ¬ (false = true) by decide)] at H; exact H
   clear H
   have H := H1
   clear H1
   have H' := Aside0.mk H
   clear H
   have hcz12_0 : w3.cell? ⟨gb209, 0, none⟩ = some (.int .i64 a0_0) := (blk_cell BK209.out 0).trans rfl
   have hcz12_1 : w3.cell? ⟨gb209, 1, none⟩ = some (.int .i64 a0_1) := (blk_cell BK209.out 1).trans rfl
   have hcz12_2 : w3.cell? ⟨gb209, 2, none⟩ = some (.slice A0_2 l0_2.length c0_2) := (blk_cell BK209.out 2).trans rfl
   have hfz12_0 := blk_frozen BK209.out 0
   have hfz12_1 := blk_frozen BK209.out 1
   have hfz12_2 := blk_frozen BK209.out 2
   go_wp2_with (first | ((with_reducible refine gate_callee (f := 41) rfl ?_); refine goesL_ (some 6) rfl rfl Try.func41 (by kernel_rfl) rfl #[.int .i64 a0_0, .int .i64 1, .int .i64 5] rfl gmp ?_; (with_reducible refine (spec_l1In.calls a0_0 1 5 false _ A4.out).mono ?_); rintro e w' ⟨rfl, ⟨nd, rfl⟩⟩; refine ⟨_, rfl, ?_⟩))
   go_meet
   case rel => exact ⟨_, (true), (by first | rfl | (simp; done) | (simp [*]; done)), H', ⟨by first | omega | exact Nat.le_refl _⟩, ⟨bkl BK209⟩, ⟨bel1 HB GE209⟩⟩
 case rest =>
  clear HC2
  try clear p2
  try clear c4
  try clear c5
  try clear p6
  try clear c7
  try clear c8
  try clear c8b0
  try clear c8b1
  try clear hcz10_0
  try clear hcz10_1
  try clear hcz10_2
  try clear hcz11_0
  try clear hcz11_1
  try clear hcz11_2
  try clear hcz12_0
  try clear hcz12_1
  try clear hcz12_2
  try clear hcz9_0
  try clear hcz9_1
  try clear hcz9_2
  try clear hfz10_0
  try clear hfz10_1
  try clear hfz10_2
  try clear hfz11_0
  try clear hfz11_1
  try clear hfz11_2
  try clear hfz12_0
  try clear hfz12_1
  try clear hfz12_2
  try clear hfz9_0
  try clear hfz9_1
  try clear hfz9_2
  obtain ⟨kq, x30_1, rfl, HA, HJ1, BK209, HB⟩ := hcut
  cases kq with
  | zero => exact absurd HA.out (by simp [spec_l10Good.j0])
  | succ kj1 =>
   have H := HA.out
   clear HA
   simp only [spec_l10Good.j0] at H
   by_cases c13 : x30_1 = true
   ·subst c13
    have H1 : (some false) = some r := by rw [if_pos rfl] at H; exact H
    clear H
    have H := H1
    clear H1
    obtain rfl := Option.some.inj H
    go_wp2
    go_ret
    exact ⟨by first | rfl | (simp [errW_none, errW_some] <;> rfl) | (simp [*, errW_none, errW_some] <;> rfl), bel1 HB GE209⟩
   ·replace c13 := Bool.eq_false_iff.mpr c13
    subst c13
    have H1 : (spec_l10Good.l0 kj1 0 a0_0 a0_1 l0_2) = some r := by rw [if_neg (show ¬ (false = true) by decide)] at H; exact H
    clear H
    have H := H1
    clear H1
    have H' := Aside0.mk H
    clear H
    go_wp2
    go_loopg [3] kj1 (fun kq v3 w' => ∃ (x3_2 : Int), v3 = .int .i64 x3_2 ∧ Aside0 (spec_l10Good.l0 kq x3_2 a0_0 a0_1 l0_2 = some r) ∧ Aside0 (kq ≤ kj1) ∧ Aside0 (w'.heap[gb209]? = some (.cells #[.int .i64 a0_0, .int .i64 a0_1, (.slice A0_2 l0_2.length c0_2)] 31 (0, 0))) ∧ Aside0 (Below w.heap.size w w'))
    case atStart => exact ⟨(0), (by first | rfl | (simp; done) | (simp [*]; done)), H', ⟨Nat.le_refl _⟩, ⟨bkl BK209⟩, ⟨bel1 HB GE209⟩⟩
    case round =>
     clear H'
     try clear c1
     try clear p2
     try clear c4
     try clear c5
     try clear p6
     try clear c7
     try clear c8
     try clear c8b0
     try clear c8b1
     try clear c13
     try clear hcz10_0
     try clear hcz10_1
     try clear hcz10_2
     try clear hcz11_0
     try clear hcz11_1
     try clear hcz11_2
     try clear hcz12_0
     try clear hcz12_1
     try clear hcz12_2
     try clear hcz9_0
     try clear hcz9_1
     try clear hcz9_2
     try clear hfz10_0
     try clear hfz10_1
     try clear hfz10_2
     try clear hfz11_0
     try clear hfz11_1
     try clear hfz11_2
     try clear hfz12_0
     try clear hfz12_1
     try clear hfz12_2
     try clear hfz9_0
     try clear hfz9_1
     try clear hfz9_2
     try clear p2
     try clear p6
     obtain ⟨x3_2, rfl, HA, HK2, BK209, HB⟩ := hrel
     cases gk with
     | zero => exact absurd HA.out (by simp [spec_l10Good.l0])
     | succ k2 =>
      have H := HA.out
      clear HA
      simp only [spec_l10Good.l0] at H
      by_cases c14 : x3_2 < (l0_2.length : Int)
      ·rw [if_pos c14] at H
       have c14b0 : decide (x3_2 < (l0_2.length : Int)) = true := decide_eq_true c14
       clear c14
       by_cases c15 : 0 ≤ x3_2
       ·rw [if_pos c15] at H
        have c15b0 : decide (0 ≤ x3_2) = true := decide_eq_true c15
        clear c15
        replace H := Option.bind_eq_some_iff.mp H
        obtain ⟨t213, A160, H⟩ := H
        replace H : (if t213 = true then (spec_l10Good.l0 k2 (wrap64 (x3_2 + 1)) a0_0 a0_1 l0_2) else (some false)) = some r := H
        have A16 := Aside0.mk A160
        clear A160
        by_cases c17 : t213 = true
        ·subst c17
         have H1 : (spec_l10Good.l0 k2 (wrap64 (x3_2 + 1)) a0_0 a0_1 l0_2) = some r := by rw [if_pos rfl] at H; exact H
         clear H
         have H := H1
         clear H1
         have H' := Aside0.mk H
         clear H
         have hcz18_0 : wr.cell? ⟨gb209, 0, none⟩ = some (.int .i64 a0_0) := (blk_cell BK209.out 0).trans rfl
         have hcz18_1 : wr.cell? ⟨gb209, 1, none⟩ = some (.int .i64 a0_1) := (blk_cell BK209.out 1).trans rfl
         have hcz18_2 : wr.cell? ⟨gb209, 2, none⟩ = some (.slice A0_2 l0_2.length c0_2) := (blk_cell BK209.out 2).trans rfl
         have hfz18_0 := blk_frozen BK209.out 0
         have hfz18_1 := blk_frozen BK209.out 1
         have hfz18_2 := blk_frozen BK209.out 2
         have p212 : 0 ≤ (x3_2 : Int) := oda
         have q212 : x3_2 < (l0_2.length : Int) := oda
         obtain ⟨ad212, e212, hx212_0⟩ := Kd.at_int HR0_2.out x3_2 p212 q212
         cases e212
         replace hx212_0 := cel HB hx212_0
         replace p212 := eq_true p212
         replace q212 := eq_true q212
         go_wp2_with (first | ((with_reducible refine gate_callee (f := 41) rfl ?_); refine goesL_ (some 43) rfl rfl Try.func41 (by kernel_rfl) rfl #[.int .i64 (rd l0_2 x3_2), .int .i64 1, .int .i64 9] rfl gmp ?_; (with_reducible refine (spec_l1In.calls (rd l0_2 x3_2) 1 9 true _ A16.out).mono ?_); rintro e w' ⟨rfl, ⟨nd, rfl⟩⟩; refine ⟨_, rfl, ?_⟩))
         go_roundg k2
         case measure => have := HJ1.out; have := HK2.out; omega
         case rel => exact ⟨(wrap64 (x3_2 + 1)), (by first | rfl | (simp; done) | (simp [*]; done)), H', ⟨by have := HJ1.out; have := HK2.out; omega⟩, ⟨bkl BK209⟩, ⟨bel1 HB GE209⟩⟩
        ·replace c17 := Bool.eq_false_iff.mpr c17
         subst c17
         have H1 : (some false) = some r := by rw [if_neg (show ¬ (false = true) by decide)] at H; exact H
         clear H
         have H := H1
         clear H1
         obtain rfl := Option.some.inj H
         have hcz19_0 : wr.cell? ⟨gb209, 0, none⟩ = some (.int .i64 a0_0) := (blk_cell BK209.out 0).trans rfl
         have hcz19_1 : wr.cell? ⟨gb209, 1, none⟩ = some (.int .i64 a0_1) := (blk_cell BK209.out 1).trans rfl
         have hcz19_2 : wr.cell? ⟨gb209, 2, none⟩ = some (.slice A0_2 l0_2.length c0_2) := (blk_cell BK209.out 2).trans rfl
         have hfz19_0 := blk_frozen BK209.out 0
         have hfz19_1 := blk_frozen BK209.out 1
         have hfz19_2 := blk_frozen BK209.out 2
         have p212 : 0 ≤ (x3_2 : Int) := oda
         have q212 : x3_2 < (l0_2.length : Int) := oda
         obtain ⟨ad212, e212, hx212_0⟩ := Kd.at_int HR0_2.out x3_2 p212 q212
         cases e212
         replace hx212_0 := cel HB hx212_0
         replace p212 := eq_true p212
         replace q212 := eq_true q212
         go_wp2_with (first | ((with_reducible refine gate_callee (f := 41) rfl ?_); refine goesL_ (some 43) rfl rfl Try.func41 (by kernel_rfl) rfl #[.int .i64 (rd l0_2 x3_2), .int .i64 1, .int .i64 9] rfl gmp ?_; (with_reducible refine (spec_l1In.calls (rd l0_2 x3_2) 1 9 false _ A16.out).mono ?_); rintro e w' ⟨rfl, ⟨nd, rfl⟩⟩; refine ⟨_, rfl, ?_⟩))
         go_ret
         exact ⟨by first | rfl | (simp [errW_none, errW_some] <;> rfl) | (simp [*, errW_none, errW_some] <;> rfl), bel1 HB GE209⟩
       ·rw [if_neg c15] at H
        exact absurd H (by simp)
      ·rw [if_neg c14] at H
       have c14b0 : decide (x3_2 < (l0_2.length : Int)) = false := decide_eq_false c14
       clear c14
       obtain rfl := Option.some.inj H
       have hcz20_0 : wr.cell? ⟨gb209, 0, none⟩ = some (.int .i64 a0_0) := (blk_cell BK209.out 0).trans rfl
       have hcz20_1 : wr.cell? ⟨gb209, 1, none⟩ = some (.int .i64 a0_1) := (blk_cell BK209.out 1).trans rfl
       have hcz20_2 : wr.cell? ⟨gb209, 2, none⟩ = some (.slice A0_2 l0_2.length c0_2) := (blk_cell BK209.out 2).trans rfl
       have hfz20_0 := blk_frozen BK209.out 0
       have hfz20_1 := blk_frozen BK209.out 1
       have hfz20_2 := blk_frozen BK209.out 2
       go_wp2
       go_ret
       exact ⟨by first | rfl | (simp [errW_none, errW_some] <;> rfl) | (simp [*, errW_none, errW_some] <;> rfl), bel1 HB GE209⟩

/-! ### spec_l10Free: function 51 -/
def spec_l10Free.l0 : Nat → List Int → Int → Int → Int → Int → List Int → Option (Bool)
 | 0, _, _, _, _, _, _ => none
 | k + 1, x1, x2, x7, x215000, x215001, x215002 => if x7 < (x1.length : Int) then (if 0 ≤ x7 then (if 0 ≤ (wrap64 ((rd x1 x7) - 1)) then (if (wrap64 ((rd x1 x7) - 1)) < (x215002.length : Int) then (if (rd x215002 (wrap64 ((rd x1 x7) - 1))) < x2 then (some false) else (spec_l10Free.l0 k x1 x2 (wrap64 (x7 + 1)) x215000 x215001 x215002)) else (none)) else (none)) else (none)) else (some true)
def spec_l10Free.f (k : Nat) (a0_0 : Int) (a0_1 : Int) (l0_2 : List Int) (l1 : List Int) (a2 : Int) : Option (Bool) := spec_l10Free.l0 k l1 a2 0 a0_0 a0_1 l0_2
theorem spec_l10Free.mono_l : ∀ k, (∀ y0 y1 y2 y3 y4 y5, LeO (spec_l10Free.l0 k y0 y1 y2 y3 y4 y5) (spec_l10Free.l0 (k + 1) y0 y1 y2 y3 y4 y5))
 | 0 => fun _ _ _ _ _ _ r h => by simp [spec_l10Free.l0] at h
 | k + 1 => by
  have ih0 := spec_l10Free.mono_l k
  ·intro y0 y1 y2 y3 y4 y5
   unfold spec_l10Free.l0
   repeat' first
   | (with_reducible exact ih0 _ _ _ _ _ _)
   | (with_reducible exact LeO.refl _)
   | (with_reducible exact LeO.none _)
   | (with_reducible refine LeO.ite ?_ ?_)
   | (with_reducible refine LeO.bind ?_ (fun _ => ?_))
   | exact ih0 _ _ _ _ _ _
   | exact LeO.none _
   | refine LeO.ite ?_ ?_
   | refine LeO.bind ?_ (fun _ => ?_)
theorem spec_l10Free.mono : ∀ a0 a1 a2 a3 a4 k, LeO (spec_l10Free.f k a0 a1 a2 a3 a4) (spec_l10Free.f (k + 1) a0 a1 a2 a3 a4) := by
 intro a0 a1 a2 a3 a4 k
 have ih0 := spec_l10Free.mono_l k
 unfold spec_l10Free.f
 repeat' first
   | (with_reducible exact ih0 _ _ _ _ _ _)
   | (with_reducible exact LeO.refl _)
   | (with_reducible exact LeO.none _)
   | (with_reducible refine LeO.ite ?_ ?_)
   | (with_reducible refine LeO.bind ?_ (fun _ => ?_))
   | exact ih0 _ _ _ _ _ _
   | exact LeO.none _
   | refine LeO.ite ?_ ?_
   | refine LeO.bind ?_ (fun _ => ?_)
set_option maxHeartbeats 8000000 in
set_option maxRecDepth 100000 in
theorem spec_l10Free.calls (k : Nat) (a0_0 : Int) (a0_1 : Int) (A0_2 : Option Addr) (c0_2 : Nat) (l0_2 : List Int) (A1 : Option Addr) (c1 : Nat) (l1 : List Int) (a2 : Int) (r : Bool) (w : World) (hr0_2 : Kd.C (Kd.int .i64) w A0_2 l0_2.length l0_2) (hc0_2 : l0_2.length ≤ c0_2) (hr1 : Kd.C (Kd.int .i64) w A1 l1.length l1) (hc1 : l1.length ≤ c1) (h : spec_l10Free.f k a0_0 a0_1 l0_2 l1 a2 = some r) :
  Calls Try.prog 51 #[.agg #[.int .i64 a0_0, .int .i64 a0_1, .slice A0_2 l0_2.length c0_2], .slice A1 l1.length c1, .int .i64 a2] w fun e w' => e = .returned (.bool r) ∧ Below w.heap.size w w' := by
 have hu31 := Try.underlying31
 have HR0_2 := Aside0.mk hr0_2
 have HC0_2 := Aside0.mk hc0_2
 clear hr0_2 hc0_2
 have HR1 := Aside0.mk hr1
 have HC1 := Aside0.mk hc1
 clear hr1 hc1
 have HB := Aside0.mk (Below.refl w.heap.size w)
 have H : (spec_l10Free.l0 k l1 a2 0 a0_0 a0_1 l0_2) = some r := h
 clear h
 have H' := Aside0.mk H
 clear H
 go_enter Try.func51, Try.ntmps51
 go_wp2_with (first | ((with_reducible refine gate_dst (N := 3) rfl ?_); refine box_event ?hg (N := 3) ?hd (cs := #[.int .i64 a0_0, .int .i64 a0_1, .slice A0_2 l0_2.length c0_2]) (t := 31) ?hr ?_; (case hd => rfl); (case hg => rfl); (case hr => first | (go_simp; done) | (go_simp; rfl)); intro gb214 hg w4 hbox hb; have n0_ := Aside0.mk (below_step (bel HB) hb); have n1_ := Aside0.mk (hbox); have n2_ := Aside0.mk ((by rw [hg]; exact (below_size (bel HB)) : w.heap.size ≤ gb214)); have n3_ := Aside0.mk ((by rw [hg]; exact (below_size (bel HB)) : w.heap.size ≤ gb214)); clear HB; have HB := n0_; have BK214 := n1_; have GW214 := n2_; have GE214 := n3_; clear n0_ n1_ n2_ n3_; clear hb hbox hg))
 repeat (go_quiet (first | ((with_reducible refine gate_dst (N := 3) rfl ?_); refine box_event ?hg (N := 3) ?hd (cs := #[.int .i64 a0_0, .int .i64 a0_1, .slice A0_2 l0_2.length c0_2]) (t := 31) ?hr ?_; (case hd => rfl); (case hg => rfl); (case hr => first | (go_simp; done) | (go_simp; rfl)); intro gb214 hg w4 hbox hb; have n0_ := Aside0.mk (below_step (bel HB) hb); have n1_ := Aside0.mk (hbox); have n2_ := Aside0.mk ((by rw [hg]; exact (below_size (bel HB)) : w.heap.size ≤ gb214)); have n3_ := Aside0.mk ((by rw [hg]; exact (below_size (bel HB)) : w.heap.size ≤ gb214)); clear HB; have HB := n0_; have BK214 := n1_; have GW214 := n2_; have GE214 := n3_; clear n0_ n1_ n2_ n3_; clear hb hbox hg)); try go_wp2_with (first | ((with_reducible refine gate_dst (N := 3) rfl ?_); refine box_event ?hg (N := 3) ?hd (cs := #[.int .i64 a0_0, .int .i64 a0_1, .slice A0_2 l0_2.length c0_2]) (t := 31) ?hr ?_; (case hd => rfl); (case hg => rfl); (case hr => first | (go_simp; done) | (go_simp; rfl)); intro gb214 hg w4 hbox hb; have n0_ := Aside0.mk (below_step (bel HB) hb); have n1_ := Aside0.mk (hbox); have n2_ := Aside0.mk ((by rw [hg]; exact (below_size (bel HB)) : w.heap.size ≤ gb214)); have n3_ := Aside0.mk ((by rw [hg]; exact (below_size (bel HB)) : w.heap.size ≤ gb214)); clear HB; have HB := n0_; have BK214 := n1_; have GW214 := n2_; have GE214 := n3_; clear n0_ n1_ n2_ n3_; clear hb hbox hg)))
 go_loopg [7] k (fun kq v7 w' => ∃ (x7_1 : Int), v7 = .int .i64 x7_1 ∧ Aside0 (spec_l10Free.l0 kq l1 a2 x7_1 a0_0 a0_1 l0_2 = some r) ∧ Aside0 (kq ≤ k) ∧ Aside0 (w'.heap[gb214]? = some (.cells #[.int .i64 a0_0, .int .i64 a0_1, (.slice A0_2 l0_2.length c0_2)] 31 (0, 0))) ∧ Aside0 (Below w.heap.size w w'))
 case atStart => exact ⟨(0), (by first | rfl | (simp; done) | (simp [*]; done)), H', ⟨Nat.le_refl _⟩, ⟨bkl BK214⟩, ⟨bel1 HB GE214⟩⟩
 case round =>
  clear H'
  try clear c1
  try clear p2
  obtain ⟨x7_1, rfl, HA, HK1, BK214, HB⟩ := hrel
  cases gk with
  | zero => exact absurd HA.out (by simp [spec_l10Free.l0])
  | succ k1 =>
   have H := HA.out
   clear HA
   simp only [spec_l10Free.l0] at H
   by_cases c5 : x7_1 < (l1.length : Int)
   ·rw [if_pos c5] at H
    have c5b0 : decide (x7_1 < (l1.length : Int)) = true := decide_eq_true c5
    clear c5
    by_cases c6 : 0 ≤ x7_1
    ·rw [if_pos c6] at H
     have c6b0 : decide (0 ≤ x7_1) = true := decide_eq_true c6
     clear c6
     obtain ⟨ji7, hji7⟩ : ∃ j_ : Int, (wrap64 ((rd l1 x7_1) - 1)) = j_ := ⟨_, rfl⟩
     replace H : (if 0 ≤ (ji7) then (if (ji7) < (l0_2.length : Int) then (if (rd l0_2 (ji7)) < a2 then (some false) else (spec_l10Free.l0 k1 l1 a2 (wrap64 (x7_1 + 1)) a0_0 a0_1 l0_2)) else (none)) else (none)) = some r := by first | (rw [hji7] at H; exact H) | (simp only [hji7] at H ⊢; exact H)
     have hji7w : (IntKind.i64.wrap ((rd l1 x7_1) - 1)) = ji7 := (i64_w _).trans hji7
     by_cases c8 : 0 ≤ (ji7)
     ·rw [if_pos c8] at H
      have c8b0 : decide (0 ≤ (ji7)) = true := decide_eq_true c8
      clear c8
      by_cases c9 : (ji7) < (l0_2.length : Int)
      ·rw [if_pos c9] at H
       have c9b0 : decide ((ji7) < (l0_2.length : Int)) = true := decide_eq_true c9
       clear c9
       by_cases c10 : (rd l0_2 (ji7)) < a2
       ·rw [if_pos c10] at H
        have c10b0 : decide ((rd l0_2 (ji7)) < a2) = true := decide_eq_true c10
        clear c10
        obtain rfl := Option.some.inj H
        have hcz11_0 : wr.cell? ⟨gb214, 0, none⟩ = some (.int .i64 a0_0) := (blk_cell BK214.out 0).trans rfl
        have hcz11_1 : wr.cell? ⟨gb214, 1, none⟩ = some (.int .i64 a0_1) := (blk_cell BK214.out 1).trans rfl
        have hcz11_2 : wr.cell? ⟨gb214, 2, none⟩ = some (.slice A0_2 l0_2.length c0_2) := (blk_cell BK214.out 2).trans rfl
        have hfz11_0 := blk_frozen BK214.out 0
        have hfz11_1 := blk_frozen BK214.out 1
        have hfz11_2 := blk_frozen BK214.out 2
        have p215 : 0 ≤ (x7_1 : Int) := oda
        have q215 : x7_1 < (l1.length : Int) := oda
        obtain ⟨ad215, e215, hx215_0⟩ := Kd.at_int HR1.out x7_1 p215 q215
        cases e215
        replace hx215_0 := cel HB hx215_0
        replace p215 := eq_true p215
        replace q215 := eq_true q215
        have p216 : 0 ≤ ((ji7) : Int) := oda
        have q216 : (ji7) < (l0_2.length : Int) := oda
        obtain ⟨ad216, e216, hx216_0⟩ := Kd.at_int HR0_2.out (ji7) p216 q216
        cases e216
        replace hx216_0 := cel HB hx216_0
        replace p216 := eq_true p216
        replace q216 := eq_true q216
        go_wp2
        repeat (go_quiet (fail); try go_wp2)
        go_ret
        exact ⟨by first | rfl | (simp [errW_none, errW_some] <;> rfl) | (simp only [← hji7]; first | rfl | (simp [errW_none, errW_some] <;> rfl)) | (simp [*, errW_none, errW_some] <;> rfl), bel1 HB GE214⟩
       ·rw [if_neg c10] at H
        have c10b0 : decide ((rd l0_2 (ji7)) < a2) = false := decide_eq_false c10
        clear c10
        have H' := Aside0.mk H
        clear H
        have hcz12_0 : wr.cell? ⟨gb214, 0, none⟩ = some (.int .i64 a0_0) := (blk_cell BK214.out 0).trans rfl
        have hcz12_1 : wr.cell? ⟨gb214, 1, none⟩ = some (.int .i64 a0_1) := (blk_cell BK214.out 1).trans rfl
        have hcz12_2 : wr.cell? ⟨gb214, 2, none⟩ = some (.slice A0_2 l0_2.length c0_2) := (blk_cell BK214.out 2).trans rfl
        have hfz12_0 := blk_frozen BK214.out 0
        have hfz12_1 := blk_frozen BK214.out 1
        have hfz12_2 := blk_frozen BK214.out 2
        have p215 : 0 ≤ (x7_1 : Int) := oda
        have q215 : x7_1 < (l1.length : Int) := oda
        obtain ⟨ad215, e215, hx215_0⟩ := Kd.at_int HR1.out x7_1 p215 q215
        cases e215
        replace hx215_0 := cel HB hx215_0
        replace p215 := eq_true p215
        replace q215 := eq_true q215
        have p216 : 0 ≤ ((ji7) : Int) := oda
        have q216 : (ji7) < (l0_2.length : Int) := oda
        obtain ⟨ad216, e216, hx216_0⟩ := Kd.at_int HR0_2.out (ji7) p216 q216
        cases e216
        replace hx216_0 := cel HB hx216_0
        replace p216 := eq_true p216
        replace q216 := eq_true q216
        go_wp2
        repeat (go_quiet (fail); try go_wp2)
        go_roundg k1
        case measure => have := HK1.out; omega
        case rel => exact ⟨(wrap64 (x7_1 + 1)), (by first | rfl | (simp; done) | (simp [*]; done)), H', ⟨by have := HK1.out; omega⟩, ⟨bkl BK214⟩, ⟨bel1 HB GE214⟩⟩
      ·rw [if_neg c9] at H
       exact absurd H (by simp)
     ·rw [if_neg c8] at H
      exact absurd H (by simp)
    ·rw [if_neg c6] at H
     exact absurd H (by simp)
   ·rw [if_neg c5] at H
    have c5b0 : decide (x7_1 < (l1.length : Int)) = false := decide_eq_false c5
    clear c5
    obtain rfl := Option.some.inj H
    go_wp2
    repeat (go_quiet (fail); try go_wp2)
    go_ret
    exact ⟨by first | rfl | (simp [errW_none, errW_some] <;> rfl) | (simp [*, errW_none, errW_some] <;> rfl), bel1 HB GE214⟩

end Go.Proofs.Ytgeefafkjokmeaa.P
