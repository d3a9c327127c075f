-- Written by a program of this session over the translation (a variant of the printer, see wip/gen); Lean checks it.
import Derived.Test.YtbcklegbkdjlpaaPx0
import Derived.Test.YtbcklegbkdjlpaaPx2
namespace Go.Proofs.Ytbcklegbkdjlpaa.P
open Go.RowKit Go.Proofs.YtbcklegbkdjlpaaW.PrintWords Go.Proofs.YtbcklegbkdjlpaaW.PrintLast Go.Proofs.YtbcklegbkdjlpaaW.PrintMore
attribute [local go_sem] Go.Proofs.Ytbcklegbkdjlpaa.V.isSome_setCell max2_int min2_int max_two min_two max_three min_three max_four min_four   -- for this text's walks alone
set_option linter.unusedVariables false
set_option linter.unusedSimpArgs false

/-! ### spec_l10Shifted: function 24 -/
mutual
def spec_l10Shifted.l0 : Nat → List Int → Int → Int → Int → List Int → Int → List (List Int) → Option (List Int)
 | 0, _, _, _, _, _, _, _ => none
 | k + 1, x5, x6, x177000, x177001, x177002, x178000, x178001 => if x6 < (x178001.length : Int) then (spec_l10Shifted.l1 k x5 x6 0 x177000 x177001 x177002 x178000 x178001) else (some x5)
def spec_l10Shifted.l1 : Nat → List Int → Int → Int → Int → Int → List Int → Int → List (List Int) → Option (List Int)
 | 0, _, _, _, _, _, _, _, _ => none
 | k + 1, x5, x6, x7, x177000, x177001, x177002, x178000, x178001 => if 0 ≤ x6 then (if x6 < (x178001.length : Int) then (if x7 < ((rd_L1 x178001 x6).length : Int) then (spec_l10Shifted.l2 k x5 x6 x7 0 x177000 x177001 x177002 x178000 x178001) else (spec_l10Shifted.l0 k x5 (wrap64 (x6 + 1)) x177000 x177001 x177002 x178000 x178001)) else (none)) else (none)
def spec_l10Shifted.l2 : Nat → List Int → Int → Int → Int → Int → Int → List Int → Int → List (List Int) → Option (List Int)
 | 0, _, _, _, _, _, _, _, _, _ => none
 | k + 1, x5, x6, x7, x8, x177000, x177001, x177002, x178000, x178001 => if x8 < x7 then (if 0 ≤ x6 then (if x6 < (x178001.length : Int) then (if 0 ≤ x8 then (if x8 < ((rd_L1 x178001 x6).length : Int) then (if 0 ≤ (wrap64 ((rd (rd_L1 x178001 x6) x8) - 1)) then (if (wrap64 ((rd (rd_L1 x178001 x6) x8) - 1)) < (x177002.length : Int) then (if 0 ≤ x7 then (if x7 < ((rd_L1 x178001 x6).length : Int) then (if 0 ≤ (wrap64 ((rd (rd_L1 x178001 x6) x7) - 1)) then (if (wrap64 ((rd (rd_L1 x178001 x6) x7) - 1)) < (x177002.length : Int) then (if (rd x177002 (wrap64 ((rd (rd_L1 x178001 x6) x8) - 1))) < (rd x177002 (wrap64 ((rd (rd_L1 x178001 x6) x7) - 1))) then ((spec_l1Put.f k x5 (rd (rd_L1 x178001 x6) x7)).bind fun t190 => (spec_l10Shifted.l2 k t190 x6 x7 (wrap64 (x8 + 1)) x177000 x177001 x177002 x178000 x178001)) else (spec_l10Shifted.l2 k x5 x6 x7 (wrap64 (x8 + 1)) x177000 x177001 x177002 x178000 x178001)) else (none)) else (none)) else (none)) else (none)) else (none)) else (none)) else (none)) else (none)) else (none)) else (none)) else (spec_l10Shifted.l1 k x5 x6 (wrap64 (x7 + 1)) x177000 x177001 x177002 x178000 x178001)
end
def spec_l10Shifted.f (k : Nat) (a0_0 : Int) (a0_1 : Int) (l0_2 : List Int) (a1_0 : Int) (l1_1 : List (List Int)) : Option (List Int) := spec_l10Shifted.l0 k (([] : List Int)) 0 a0_0 a0_1 l0_2 a1_0 l1_1
theorem spec_l10Shifted.mono_l : ∀ k, (∀ y0 y1 y2 y3 y4 y5 y6, LeO (spec_l10Shifted.l0 k y0 y1 y2 y3 y4 y5 y6) (spec_l10Shifted.l0 (k + 1) y0 y1 y2 y3 y4 y5 y6)) ∧ (∀ y0 y1 y2 y3 y4 y5 y6 y7, LeO (spec_l10Shifted.l1 k y0 y1 y2 y3 y4 y5 y6 y7) (spec_l10Shifted.l1 (k + 1) y0 y1 y2 y3 y4 y5 y6 y7)) ∧ (∀ y0 y1 y2 y3 y4 y5 y6 y7 y8, LeO (spec_l10Shifted.l2 k y0 y1 y2 y3 y4 y5 y6 y7 y8) (spec_l10Shifted.l2 (k + 1) y0 y1 y2 y3 y4 y5 y6 y7 y8))
 | 0 => ⟨fun _ _ _ _ _ _ _ r h => by simp [spec_l10Shifted.l0] at h, fun _ _ _ _ _ _ _ _ r h => by simp [spec_l10Shifted.l1] at h, fun _ _ _ _ _ _ _ _ _ r h => by simp [spec_l10Shifted.l2] at h⟩
 | k + 1 => by
  obtain ⟨ih0, ih1, ih2⟩ := spec_l10Shifted.mono_l k
  refine ⟨?_, ?_, ?_⟩
  ·intro y0 y1 y2 y3 y4 y5 y6
   unfold spec_l10Shifted.l0
   repeat' first
   | (with_reducible exact ih0 _ _ _ _ _ _ _)
   | (with_reducible exact ih1 _ _ _ _ _ _ _ _)
   | (with_reducible exact ih2 _ _ _ _ _ _ _ _ _)
   | (with_reducible exact spec_l1Put.mono _ _ _)
   | (with_reducible exact LeO.refl _)
   | (with_reducible exact LeO.none _)
   | (with_reducible refine LeO.ite ?_ ?_)
   | (with_reducible refine LeO.bind ?_ (fun _ => ?_))
   | exact ih0 _ _ _ _ _ _ _
   | exact ih1 _ _ _ _ _ _ _ _
   | exact ih2 _ _ _ _ _ _ _ _ _
   | exact spec_l1Put.mono _ _ _
   | exact LeO.none _
   | refine LeO.ite ?_ ?_
   | refine LeO.bind ?_ (fun _ => ?_)
  ·intro y0 y1 y2 y3 y4 y5 y6 y7
   unfold spec_l10Shifted.l1
   repeat' first
   | (with_reducible exact ih0 _ _ _ _ _ _ _)
   | (with_reducible exact ih1 _ _ _ _ _ _ _ _)
   | (with_reducible exact ih2 _ _ _ _ _ _ _ _ _)
   | (with_reducible exact spec_l1Put.mono _ _ _)
   | (with_reducible exact LeO.refl _)
   | (with_reducible exact LeO.none _)
   | (with_reducible refine LeO.ite ?_ ?_)
   | (with_reducible refine LeO.bind ?_ (fun _ => ?_))
   | exact ih0 _ _ _ _ _ _ _
   | exact ih1 _ _ _ _ _ _ _ _
   | exact ih2 _ _ _ _ _ _ _ _ _
   | exact spec_l1Put.mono _ _ _
   | exact LeO.none _
   | refine LeO.ite ?_ ?_
   | refine LeO.bind ?_ (fun _ => ?_)
  ·intro y0 y1 y2 y3 y4 y5 y6 y7 y8
   unfold spec_l10Shifted.l2
   repeat' first
   | (with_reducible exact ih0 _ _ _ _ _ _ _)
   | (with_reducible exact ih1 _ _ _ _ _ _ _ _)
   | (with_reducible exact ih2 _ _ _ _ _ _ _ _ _)
   | (with_reducible exact spec_l1Put.mono _ _ _)
   | (with_reducible exact LeO.refl _)
   | (with_reducible exact LeO.none _)
   | (with_reducible refine LeO.ite ?_ ?_)
   | (with_reducible refine LeO.bind ?_ (fun _ => ?_))
   | exact ih0 _ _ _ _ _ _ _
   | exact ih1 _ _ _ _ _ _ _ _
   | exact ih2 _ _ _ _ _ _ _ _ _
   | exact spec_l1Put.mono _ _ _
   | exact LeO.none _
   | refine LeO.ite ?_ ?_
   | refine LeO.bind ?_ (fun _ => ?_)
theorem spec_l10Shifted.mono : ∀ a0 a1 a2 a3 a4 k, LeO (spec_l10Shifted.f k a0 a1 a2 a3 a4) (spec_l10Shifted.f (k + 1) a0 a1 a2 a3 a4) := by
 intro a0 a1 a2 a3 a4 k
 obtain ⟨ih0, ih1, ih2⟩ := spec_l10Shifted.mono_l k
 unfold spec_l10Shifted.f
 repeat' first
   | (with_reducible exact ih0 _ _ _ _ _ _ _)
   | (with_reducible exact ih1 _ _ _ _ _ _ _ _)
   | (with_reducible exact ih2 _ _ _ _ _ _ _ _ _)
   | (with_reducible exact spec_l1Put.mono _ _ _)
   | (with_reducible exact LeO.refl _)
   | (with_reducible exact LeO.none _)
   | (with_reducible refine LeO.ite ?_ ?_)
   | (with_reducible refine LeO.bind ?_ (fun _ => ?_))
   | exact ih0 _ _ _ _ _ _ _
   | exact ih1 _ _ _ _ _ _ _ _
   | exact ih2 _ _ _ _ _ _ _ _ _
   | exact spec_l1Put.mono _ _ _
   | exact LeO.none _
   | refine LeO.ite ?_ ?_
   | refine LeO.bind ?_ (fun _ => ?_)
set_option maxHeartbeats 8000000 in
set_option maxRecDepth 100000 in
theorem spec_l10Shifted.calls (k : Nat) (a0_0 : Int) (a0_1 : Int) (A0_2 : Option Addr) (c0_2 : Nat) (l0_2 : List Int) (a1_0 : Int) (A1_1 : Option Addr) (c1_1 : Nat) (l1_1 : List (List Int)) (r : List Int) (w : World) (hr0_2 : Kd.C (Kd.int .i64) w A0_2 l0_2.length l0_2) (hc0_2 : l0_2.length ≤ c0_2) (hr1_1 : Kd.C (Kd.slice 3 (Kd.int .i64)) w A1_1 l1_1.length l1_1) (hc1_1 : l1_1.length ≤ c1_1) (h : spec_l10Shifted.f k a0_0 a0_1 l0_2 a1_0 l1_1 = some r) :
  Calls Try.prog 24 #[.agg #[.int .i64 a0_0, .int .i64 a0_1, .slice A0_2 l0_2.length c0_2], .agg #[.int .i64 a1_0, .slice A1_1 l1_1.length c1_1]] w fun e w' => ∃ v0_ : Value, e = .returned (v0_) ∧ Kd.V (Kd.int .i64) 3 w' w.heap.size (fun k_ => (w.heap.size ≤ k_)) v0_ r ∧ Below w.heap.size w w' := by
 have hu28 := Try.underlying28
 have hu42 := Try.underlying42
 have HR0_2 := Aside0.mk hr0_2
 have HC0_2 := Aside0.mk hc0_2
 clear hr0_2 hc0_2
 have HR1_1 := Aside0.mk hr1_1
 have HC1_1 := Aside0.mk hc1_1
 clear hr1_1 hc1_1
 have HB := Aside0.mk (Below.refl w.heap.size w)
 have H : (spec_l10Shifted.l0 k (([] : List Int)) 0 a0_0 a0_1 l0_2 a1_0 l1_1) = some r := h
 clear h
 obtain ⟨y178, hy178⟩ : ∃ y_ : List Int, y_ = (([] : List Int)) := ⟨_, rfl⟩
 replace H : (spec_l10Shifted.l0 k y178 0 a0_0 a0_1 l0_2 a1_0 l1_1) = some r := by first | (rw [hy178]; with_reducible exact H) | (have H2_ := (Option.bind_some _ _).symm.trans H; rw [hy178]; with_reducible exact H2_) | (have H2_ := (Option.bind_some _ _).symm.trans H; with_reducible exact H2_) | with_reducible exact H | (rw [hy178]; exact H) | exact H
 have Ny178 := Aside0.mk hy178
 clear hy178
 have H' := Aside0.mk H
 clear H
 go_enter Try.func24, Try.ntmps24
 go_wp2_with (first | ((with_reducible refine gate_dst (N := 2) rfl ?_); refine box_event ?hg (N := 2) ?hd (cs := #[.int .i64 a0_0, .int .i64 a0_1, .slice A0_2 l0_2.length c0_2]) (t := 28) ?hr ?_; (case hd => rfl); (case hg => rfl); (case hr => first | (go_simp; done) | (go_simp; rfl)); intro gb176 hg w3 hbox hb; have n0_ := Aside0.mk (below_step (bel HB) hb); have n1_ := Aside0.mk (hbox); have n2_ := Aside0.mk ((by rw [hg]; exact (below_size (bel HB)) : w.heap.size ≤ gb176)); have n3_ := Aside0.mk ((by rw [hg]; exact (below_size (bel HB)) : w.heap.size ≤ gb176)); clear HB; have HB := n0_; have BK176 := n1_; have GW176 := n2_; have GE176 := n3_; clear n0_ n1_ n2_ n3_; clear hb hbox hg) | ((with_reducible refine gate_dst (N := 3) rfl ?_); refine box_event ?hg (N := 3) ?hd (cs := #[.int .i64 a1_0, .slice A1_1 l1_1.length c1_1]) (t := 42) ?hr ?_; (case hd => rfl); (case hg => rfl); (case hr => first | (go_simp; done) | (go_simp; rfl)); intro gb177 hg w4 hbox hb; have n0_ := Aside0.mk (blk_below (g := gb176) (o := .cells #[.int .i64 a0_0, .int .i64 a0_1, .slice A0_2 l0_2.length c0_2] 28 (0, 0)) (bkl BK176) hb); have n1_ := Aside0.mk (below_step (bel1 HB GE176) hb); have n2_ := Aside0.mk (hbox); have n3_ := Aside0.mk ((by rw [hg]; exact (below_size (bel1 HB GE176)) : w.heap.size ≤ gb177)); have n4_ := Aside0.mk ((by rw [hg]; exact (below_size (bel1 HB GE176)) : w.heap.size ≤ gb177)); have n5_ := Aside0.mk ((by rw [hg]; exact Nat.ne_of_lt (blk_lt (g := gb176) (o := .cells #[.int .i64 a0_0, .int .i64 a0_1, .slice A0_2 l0_2.length c0_2] 28 (0, 0)) (bkl BK176)) : gb176 ≠ gb177)); have n6_ := Aside0.mk ((by rw [hg]; exact Nat.ne_of_gt (blk_lt (g := gb176) (o := .cells #[.int .i64 a0_0, .int .i64 a0_1, .slice A0_2 l0_2.length c0_2] 28 (0, 0)) (bkl BK176)) : gb177 ≠ gb176)); clear BK176; clear HB; have BK176 := n0_; have HB := n1_; have BK177 := n2_; have GW177 := n3_; have GE177 := n4_; have NB176_177 := n5_; have NB177_176 := n6_; clear n0_ n1_ n2_ n3_ n4_ n5_ n6_; clear hb hbox hg) | ((with_reducible refine gate_dst (N := 9) rfl ?_); refine Kd.R_lit (Kd.int .i64) _ 3 ?hg (N := 9) ?hd (xs := ([] : List Int)) (inner := []) (ok := fun _ => True) (okp := fun _ => True) ?hr ?hp (fun _ hk => hk) trivial (Below.refl _ _) (Nat.le_refl _) (by simp) ?_; (case hd => rfl); (case hg => rfl); (case hr => first | (go_simp; done) | (go_simp; rfl)); (case hp => exact (Reps.none _ _)); intro v179 w5 ho6 hb hg_ hnew_; clear hg_ hnew_; (first | rw [← Ny178.out] at ho6 | (simp only [Int.reduceToNat] at ho6; rw [← Ny178.out] at ho6)); have n0_ := Aside0.mk (Kd.R_lower (Kd.R_newM (M := fun k_ => (w.heap.size ≤ k_)) ho6 (below_size (bel2 HB GE176 GE177)) (fun k_ h_ => h_)) (below_size (bel2 HB GE176 GE177))); have n1_ := Aside0.mk (blk_below (g := gb176) (o := .cells #[.int .i64 a0_0, .int .i64 a0_1, .slice A0_2 l0_2.length c0_2] 28 (0, 0)) (bkl BK176) hb); have n2_ := Aside0.mk (blk_below (g := gb177) (o := .cells #[.int .i64 a1_0, .slice A1_1 l1_1.length c1_1] 42 (0, 0)) (bkl BK177) hb); have n3_ := Aside0.mk (below_step (bel2 HB GE176 GE177) hb); clear BK176; clear BK177; clear HB; have HO180 := n0_; have BK176 := n1_; have BK177 := n2_; have HB := n3_; clear n0_ n1_ n2_ n3_; clear hb ho6))
 repeat (go_quiet (first | ((with_reducible refine gate_dst (N := 2) rfl ?_); refine box_event ?hg (N := 2) ?hd (cs := #[.int .i64 a0_0, .int .i64 a0_1, .slice A0_2 l0_2.length c0_2]) (t := 28) ?hr ?_; (case hd => rfl); (case hg => rfl); (case hr => first | (go_simp; done) | (go_simp; rfl)); intro gb176 hg w3 hbox hb; have n0_ := Aside0.mk (below_step (bel HB) hb); have n1_ := Aside0.mk (hbox); have n2_ := Aside0.mk ((by rw [hg]; exact (below_size (bel HB)) : w.heap.size ≤ gb176)); have n3_ := Aside0.mk ((by rw [hg]; exact (below_size (bel HB)) : w.heap.size ≤ gb176)); clear HB; have HB := n0_; have BK176 := n1_; have GW176 := n2_; have GE176 := n3_; clear n0_ n1_ n2_ n3_; clear hb hbox hg) | ((with_reducible refine gate_dst (N := 3) rfl ?_); refine box_event ?hg (N := 3) ?hd (cs := #[.int .i64 a1_0, .slice A1_1 l1_1.length c1_1]) (t := 42) ?hr ?_; (case hd => rfl); (case hg => rfl); (case hr => first | (go_simp; done) | (go_simp; rfl)); intro gb177 hg w4 hbox hb; have n0_ := Aside0.mk (blk_below (g := gb176) (o := .cells #[.int .i64 a0_0, .int .i64 a0_1, .slice A0_2 l0_2.length c0_2] 28 (0, 0)) (bkl BK176) hb); have n1_ := Aside0.mk (below_step (bel1 HB GE176) hb); have n2_ := Aside0.mk (hbox); have n3_ := Aside0.mk ((by rw [hg]; exact (below_size (bel1 HB GE176)) : w.heap.size ≤ gb177)); have n4_ := Aside0.mk ((by rw [hg]; exact (below_size (bel1 HB GE176)) : w.heap.size ≤ gb177)); have n5_ := Aside0.mk ((by rw [hg]; exact Nat.ne_of_lt (blk_lt (g := gb176) (o := .cells #[.int .i64 a0_0, .int .i64 a0_1, .slice A0_2 l0_2.length c0_2] 28 (0, 0)) (bkl BK176)) : gb176 ≠ gb177)); have n6_ := Aside0.mk ((by rw [hg]; exact Nat.ne_of_gt (blk_lt (g := gb176) (o := .cells #[.int .i64 a0_0, .int .i64 a0_1, .slice A0_2 l0_2.length c0_2] 28 (0, 0)) (bkl BK176)) : gb177 ≠ gb176)); clear BK176; clear HB; have BK176 := n0_; have HB := n1_; have BK177 := n2_; have GW177 := n3_; have GE177 := n4_; have NB176_177 := n5_; have NB177_176 := n6_; clear n0_ n1_ n2_ n3_ n4_ n5_ n6_; clear hb hbox hg) | ((with_reducible refine gate_dst (N := 9) rfl ?_); refine Kd.R_lit (Kd.int .i64) _ 3 ?hg (N := 9) ?hd (xs := ([] : List Int)) (inner := []) (ok := fun _ => True) (okp := fun _ => True) ?hr ?hp (fun _ hk => hk) trivial (Below.refl _ _) (Nat.le_refl _) (by simp) ?_; (case hd => rfl); (case hg => rfl); (case hr => first | (go_simp; done) | (go_simp; rfl)); (case hp => exact (Reps.none _ _)); intro v179 w5 ho6 hb hg_ hnew_; clear hg_ hnew_; (first | rw [← Ny178.out] at ho6 | (simp only [Int.reduceToNat] at ho6; rw [← Ny178.out] at ho6)); have n0_ := Aside0.mk (Kd.R_lower (Kd.R_newM (M := fun k_ => (w.heap.size ≤ k_)) ho6 (below_size (bel2 HB GE176 GE177)) (fun k_ h_ => h_)) (below_size (bel2 HB GE176 GE177))); have n1_ := Aside0.mk (blk_below (g := gb176) (o := .cells #[.int .i64 a0_0, .int .i64 a0_1, .slice A0_2 l0_2.length c0_2] 28 (0, 0)) (bkl BK176) hb); have n2_ := Aside0.mk (blk_below (g := gb177) (o := .cells #[.int .i64 a1_0, .slice A1_1 l1_1.length c1_1] 42 (0, 0)) (bkl BK177) hb); have n3_ := Aside0.mk (below_step (bel2 HB GE176 GE177) hb); clear BK176; clear BK177; clear HB; have HO180 := n0_; have BK176 := n1_; have BK177 := n2_; have HB := n3_; clear n0_ n1_ n2_ n3_; clear hb ho6)); try go_wp2_with (first | ((with_reducible refine gate_dst (N := 2) rfl ?_); refine box_event ?hg (N := 2) ?hd (cs := #[.int .i64 a0_0, .int .i64 a0_1, .slice A0_2 l0_2.length c0_2]) (t := 28) ?hr ?_; (case hd => rfl); (case hg => rfl); (case hr => first | (go_simp; done) | (go_simp; rfl)); intro gb176 hg w3 hbox hb; have n0_ := Aside0.mk (below_step (bel HB) hb); have n1_ := Aside0.mk (hbox); have n2_ := Aside0.mk ((by rw [hg]; exact (below_size (bel HB)) : w.heap.size ≤ gb176)); have n3_ := Aside0.mk ((by rw [hg]; exact (below_size (bel HB)) : w.heap.size ≤ gb176)); clear HB; have HB := n0_; have BK176 := n1_; have GW176 := n2_; have GE176 := n3_; clear n0_ n1_ n2_ n3_; clear hb hbox hg) | ((with_reducible refine gate_dst (N := 3) rfl ?_); refine box_event ?hg (N := 3) ?hd (cs := #[.int .i64 a1_0, .slice A1_1 l1_1.length c1_1]) (t := 42) ?hr ?_; (case hd => rfl); (case hg => rfl); (case hr => first | (go_simp; done) | (go_simp; rfl)); intro gb177 hg w4 hbox hb; have n0_ := Aside0.mk (blk_below (g := gb176) (o := .cells #[.int .i64 a0_0, .int .i64 a0_1, .slice A0_2 l0_2.length c0_2] 28 (0, 0)) (bkl BK176) hb); have n1_ := Aside0.mk (below_step (bel1 HB GE176) hb); have n2_ := Aside0.mk (hbox); have n3_ := Aside0.mk ((by rw [hg]; exact (below_size (bel1 HB GE176)) : w.heap.size ≤ gb177)); have n4_ := Aside0.mk ((by rw [hg]; exact (below_size (bel1 HB GE176)) : w.heap.size ≤ gb177)); have n5_ := Aside0.mk ((by rw [hg]; exact Nat.ne_of_lt (blk_lt (g := gb176) (o := .cells #[.int .i64 a0_0, .int .i64 a0_1, .slice A0_2 l0_2.length c0_2] 28 (0, 0)) (bkl BK176)) : gb176 ≠ gb177)); have n6_ := Aside0.mk ((by rw [hg]; exact Nat.ne_of_gt (blk_lt (g := gb176) (o := .cells #[.int .i64 a0_0, .int .i64 a0_1, .slice A0_2 l0_2.length c0_2] 28 (0, 0)) (bkl BK176)) : gb177 ≠ gb176)); clear BK176; clear HB; have BK176 := n0_; have HB := n1_; have BK177 := n2_; have GW177 := n3_; have GE177 := n4_; have NB176_177 := n5_; have NB177_176 := n6_; clear n0_ n1_ n2_ n3_ n4_ n5_ n6_; clear hb hbox hg) | ((with_reducible refine gate_dst (N := 9) rfl ?_); refine Kd.R_lit (Kd.int .i64) _ 3 ?hg (N := 9) ?hd (xs := ([] : List Int)) (inner := []) (ok := fun _ => True) (okp := fun _ => True) ?hr ?hp (fun _ hk => hk) trivial (Below.refl _ _) (Nat.le_refl _) (by simp) ?_; (case hd => rfl); (case hg => rfl); (case hr => first | (go_simp; done) | (go_simp; rfl)); (case hp => exact (Reps.none _ _)); intro v179 w5 ho6 hb hg_ hnew_; clear hg_ hnew_; (first | rw [← Ny178.out] at ho6 | (simp only [Int.reduceToNat] at ho6; rw [← Ny178.out] at ho6)); have n0_ := Aside0.mk (Kd.R_lower (Kd.R_newM (M := fun k_ => (w.heap.size ≤ k_)) ho6 (below_size (bel2 HB GE176 GE177)) (fun k_ h_ => h_)) (below_size (bel2 HB GE176 GE177))); have n1_ := Aside0.mk (blk_below (g := gb176) (o := .cells #[.int .i64 a0_0, .int .i64 a0_1, .slice A0_2 l0_2.length c0_2] 28 (0, 0)) (bkl BK176) hb); have n2_ := Aside0.mk (blk_below (g := gb177) (o := .cells #[.int .i64 a1_0, .slice A1_1 l1_1.length c1_1] 42 (0, 0)) (bkl BK177) hb); have n3_ := Aside0.mk (below_step (bel2 HB GE176 GE177) hb); clear BK176; clear BK177; clear HB; have HO180 := n0_; have BK176 := n1_; have BK177 := n2_; have HB := n3_; clear n0_ n1_ n2_ n3_; clear hb ho6)))
 go_loopg [5, 6] k (fun kq v5 v6 w' => ∃ (x5_1 : List Int) (x6_1 : Int), v6 = .int .i64 x6_1 ∧ Aside0 (spec_l10Shifted.l0 kq x5_1 x6_1 a0_0 a0_1 l0_2 a1_0 l1_1 = some r) ∧ Aside0 (kq ≤ k) ∧ Aside0 (Kd.V (Kd.int .i64) 3 w' w.heap.size (fun k_ => (w.heap.size ≤ k_) ∧ k_ ≠ gb176 ∧ k_ ≠ gb177) v5 x5_1) ∧ Aside0 (w'.heap[gb176]? = some (.cells #[.int .i64 a0_0, .int .i64 a0_1, (.slice A0_2 l0_2.length c0_2)] 28 (0, 0))) ∧ Aside0 (w'.heap[gb177]? = some (.cells #[.int .i64 a1_0, (.slice A1_1 l1_1.length c1_1)] 42 (0, 0))) ∧ Aside0 (Below w.heap.size w w'))
 case atStart => exact ⟨(y178), (0), (by first | rfl | (simp; done) | (simp [*]; done)), H', ⟨Nat.le_refl _⟩, ⟨Kd.R_V (by (with_reducible repeat (first | apply Kd.R_alloc | apply Kd.R_drewN | apply Kd.R_drew)); exact Kd.R_mono (Kd.R_types (Kd.R_types HO180.out BK176.out (by decide)) BK177.out (by decide)) (fun _ hk => ⟨hk.1.1.1, ⟨hk.1.2, hk.2⟩⟩))⟩, ⟨bkl BK176⟩, ⟨bkl BK177⟩, ⟨bel2 HB GE176 GE177⟩⟩
 case round =>
  clear H'
  try clear c1
  try clear c2
  try clear p2
  obtain ⟨x5_1, x6_1, rfl, HA, HK1, HO_5, BK176, BK177, HB⟩ := hrel
  cases gk with
  | zero => exact absurd HA.out (by simp [spec_l10Shifted.l0])
  | succ k1 =>
   have H := HA.out
   clear HA
   simp only [spec_l10Shifted.l0] at H
   by_cases c7 : x6_1 < (l1_1.length : Int)
   ·rw [if_pos c7] at H
    have c7b0 : decide (x6_1 < (l1_1.length : Int)) = true := decide_eq_true c7
    clear c7
    have H' := Aside0.mk H
    clear H
    have hnb8 := NB177_176.out
    have hnc8 := NB176_177.out
    have hcz9_0 : wr.cell? ⟨gb177, 0, none⟩ = some (.int .i64 a1_0) := (blk_cell BK177.out 0).trans rfl
    have hcz9_1 : wr.cell? ⟨gb177, 1, none⟩ = some (.slice A1_1 l1_1.length c1_1) := (blk_cell BK177.out 1).trans rfl
    have hfz9_0 := blk_frozen BK177.out 0
    have hfz9_1 := blk_frozen BK177.out 1
    go_wp2
    repeat (go_quiet (fail); try go_wp2)
    go_loopg [5, 7] k1 (fun kq v5 v7 w' => ∃ (x5_2 : List Int) (x7_2 : Int), v7 = .int .i64 x7_2 ∧ Aside0 (spec_l10Shifted.l1 kq x5_2 x6_1 x7_2 a0_0 a0_1 l0_2 a1_0 l1_1 = some r) ∧ Aside0 (kq ≤ k1) ∧ Aside0 (Kd.V (Kd.int .i64) 3 w' w.heap.size (fun k_ => (w.heap.size ≤ k_) ∧ k_ ≠ gb176 ∧ k_ ≠ gb177) v5 x5_2) ∧ Aside0 (w'.heap[gb176]? = some (.cells #[.int .i64 a0_0, .int .i64 a0_1, (.slice A0_2 l0_2.length c0_2)] 28 (0, 0))) ∧ Aside0 (w'.heap[gb177]? = some (.cells #[.int .i64 a1_0, (.slice A1_1 l1_1.length c1_1)] 42 (0, 0))) ∧ Aside0 (Below w.heap.size w w'))
    case atStart => exact ⟨(x5_1), (0), (by first | rfl | (simp; done) | (simp [*]; done)), H', ⟨Nat.le_refl _⟩, ⟨by (with_reducible repeat (first | apply Kd.V_alloc | apply Kd.V_drewN | apply Kd.V_drew)); exact HO_5.out⟩, ⟨bkl BK176⟩, ⟨bkl BK177⟩, ⟨bel2 HB GE176 GE177⟩⟩
    case round =>
     clear H'
     try clear c1
     try clear c2
     try clear p2
     try clear c7
     try clear c7b0
     try clear c8
     try clear hcz9_0
     try clear hcz9_1
     try clear hfz9_0
     try clear hfz9_1
     try clear p2
     obtain ⟨x5_2, x7_2, rfl, HA, HK2, HO_5, BK176, BK177, HB⟩ := hrel
     cases gk with
     | zero => exact absurd HA.out (by simp [spec_l10Shifted.l1])
     | succ k2 =>
      have H := HA.out
      clear HA
      simp only [spec_l10Shifted.l1] at H
      by_cases c10 : 0 ≤ x6_1
      ·rw [if_pos c10] at H
       have c10b0 : decide (0 ≤ x6_1) = true := decide_eq_true c10
       clear c10
       by_cases c11 : x6_1 < (l1_1.length : Int)
       ·rw [if_pos c11] at H
        have c11b0 : decide (x6_1 < (l1_1.length : Int)) = true := decide_eq_true c11
        clear c11
        by_cases c12 : x7_2 < ((rd_L1 l1_1 x6_1).length : Int)
        ·rw [if_pos c12] at H
         have c12b0 : decide (x7_2 < ((rd_L1 l1_1 x6_1).length : Int)) = true := decide_eq_true c12
         clear c12
         have H' := Aside0.mk H
         clear H
         have hnb13 := NB177_176.out
         have hnc13 := NB176_177.out
         have hcz14_0 : wr.cell? ⟨gb177, 0, none⟩ = some (.int .i64 a1_0) := (blk_cell BK177.out 0).trans rfl
         have hcz14_1 : wr.cell? ⟨gb177, 1, none⟩ = some (.slice A1_1 l1_1.length c1_1) := (blk_cell BK177.out 1).trans rfl
         have hfz14_0 := blk_frozen BK177.out 0
         have hfz14_1 := blk_frozen BK177.out 1
         have p181 : 0 ≤ (x6_1 : Int) := oda
         have q181 : x6_1 < (l1_1.length : Int) := oda
         obtain ⟨ad181, A181_0, c181_0, e181, hx181_0, hl181_0, hi181_0⟩ := at_L1 HR1_1.out x6_1 p181 q181
         cases e181
         replace hx181_0 := cel HB hx181_0
         have HR181_0 := Aside0.mk hi181_0
         have HC181_0 := Aside0.mk hl181_0
         clear hi181_0 hl181_0
         replace p181 := eq_true p181
         replace q181 := eq_true q181
         go_wp2
         repeat (go_quiet (fail); try go_wp2)
         go_loopg [5, 8] k2 (fun kq v5 v8 w' => ∃ (x5_3 : List Int) (x8_3 : Int), v8 = .int .i64 x8_3 ∧ Aside0 (spec_l10Shifted.l2 kq x5_3 x6_1 x7_2 x8_3 a0_0 a0_1 l0_2 a1_0 l1_1 = some r) ∧ Aside0 (kq ≤ k2) ∧ Aside0 (Kd.V (Kd.int .i64) 3 w' w.heap.size (fun k_ => (w.heap.size ≤ k_) ∧ k_ ≠ gb176 ∧ k_ ≠ gb177) v5 x5_3) ∧ Aside0 (w'.heap[gb176]? = some (.cells #[.int .i64 a0_0, .int .i64 a0_1, (.slice A0_2 l0_2.length c0_2)] 28 (0, 0))) ∧ Aside0 (w'.heap[gb177]? = some (.cells #[.int .i64 a1_0, (.slice (some ad181) l1_1.length c1_1)] 42 (0, 0))) ∧ Aside0 (Below w.heap.size w w'))
         case atStart => exact ⟨(x5_2), (0), (by first | rfl | (simp; done) | (simp [*]; done)), H', ⟨Nat.le_refl _⟩, ⟨by (with_reducible repeat (first | apply Kd.V_alloc | apply Kd.V_drewN | apply Kd.V_drew)); exact HO_5.out⟩, ⟨bkl BK176⟩, ⟨bkl BK177⟩, ⟨bel2 HB GE176 GE177⟩⟩
         case round =>
          clear H'
          try clear c1
          try clear p1
          try clear q1
          try clear hx1
          try clear c2
          try clear p2
          try clear c7
          try clear c7b0
          try clear c8
          try clear c10
          try clear c10b0
          try clear c11
          try clear c11b0
          try clear c12
          try clear c12b0
          try clear c13
          try clear hcz14_0
          try clear hcz14_1
          try clear hcz9_0
          try clear hcz9_1
          try clear hfz14_0
          try clear hfz14_1
          try clear hfz9_0
          try clear hfz9_1
          try clear hx181_0
          try clear p181
          try clear p2
          try clear q181
          obtain ⟨x5_3, x8_3, rfl, HA, HK3, HO_5, BK176, BK177, HB⟩ := hrel
          cases gk with
          | zero => exact absurd HA.out (by simp [spec_l10Shifted.l2])
          | succ k3 =>
           have H := HA.out
           clear HA
           simp only [spec_l10Shifted.l2] at H
           by_cases c15 : x8_3 < x7_2
           ·rw [if_pos c15] at H
            have c15b0 : decide (x8_3 < x7_2) = true := decide_eq_true c15
            clear c15
            by_cases c16 : 0 ≤ x6_1
            ·rw [if_pos c16] at H
             have c16b0 : decide (0 ≤ x6_1) = true := decide_eq_true c16
             clear c16
             by_cases c17 : x6_1 < (l1_1.length : Int)
             ·rw [if_pos c17] at H
              have c17b0 : decide (x6_1 < (l1_1.length : Int)) = true := decide_eq_true c17
              clear c17
              by_cases c18 : 0 ≤ x8_3
              ·rw [if_pos c18] at H
               have c18b0 : decide (0 ≤ x8_3) = true := decide_eq_true c18
               clear c18
               by_cases c19 : x8_3 < ((rd_L1 l1_1 x6_1).length : Int)
               ·rw [if_pos c19] at H
                have c19b0 : decide (x8_3 < ((rd_L1 l1_1 x6_1).length : Int)) = true := decide_eq_true c19
                clear c19
                obtain ⟨ji20, hji20⟩ : ∃ j_ : Int, (wrap64 ((rd (rd_L1 l1_1 x6_1) x8_3) - 1)) = j_ := ⟨_, rfl⟩
                replace H : (if 0 ≤ (ji20) then (if (ji20) < (l0_2.length : Int) then (if 0 ≤ x7_2 then (if x7_2 < ((rd_L1 l1_1 x6_1).length : Int) then (if 0 ≤ (wrap64 ((rd (rd_L1 l1_1 x6_1) x7_2) - 1)) then (if (wrap64 ((rd (rd_L1 l1_1 x6_1) x7_2) - 1)) < (l0_2.length : Int) then (if (rd l0_2 (ji20)) < (rd l0_2 (wrap64 ((rd (rd_L1 l1_1 x6_1) x7_2) - 1))) then ((spec_l1Put.f k3 x5_3 (rd (rd_L1 l1_1 x6_1) x7_2)).bind fun t190 => (spec_l10Shifted.l2 k3 t190 x6_1 x7_2 (wrap64 (x8_3 + 1)) a0_0 a0_1 l0_2 a1_0 l1_1)) else (spec_l10Shifted.l2 k3 x5_3 x6_1 x7_2 (wrap64 (x8_3 + 1)) a0_0 a0_1 l0_2 a1_0 l1_1)) else (none)) else (none)) else (none)) else (none)) else (none)) else (none)) = some r := by first | (rw [hji20] at H; exact H) | (simp only [hji20] at H ⊢; exact H)
                have hji20w : (IntKind.i64.wrap ((rd (rd_L1 l1_1 x6_1) x8_3) - 1)) = ji20 := (i64_w _).trans hji20
                by_cases c21 : 0 ≤ (ji20)
                ·rw [if_pos c21] at H
                 have c21b0 : decide (0 ≤ (ji20)) = true := decide_eq_true c21
                 clear c21
                 by_cases c22 : (ji20) < (l0_2.length : Int)
                 ·rw [if_pos c22] at H
                  have c22b0 : decide ((ji20) < (l0_2.length : Int)) = true := decide_eq_true c22
                  clear c22
                  by_cases c23 : 0 ≤ x7_2
                  ·rw [if_pos c23] at H
                   have c23b0 : decide (0 ≤ x7_2) = true := decide_eq_true c23
                   clear c23
                   by_cases c24 : x7_2 < ((rd_L1 l1_1 x6_1).length : Int)
                   ·rw [if_pos c24] at H
                    have c24b0 : decide (x7_2 < ((rd_L1 l1_1 x6_1).length : Int)) = true := decide_eq_true c24
                    clear c24
                    obtain ⟨ji25, hji25⟩ : ∃ j_ : Int, (wrap64 ((rd (rd_L1 l1_1 x6_1) x7_2) - 1)) = j_ := ⟨_, rfl⟩
                    replace H : (if 0 ≤ (ji25) then (if (ji25) < (l0_2.length : Int) then (if (rd l0_2 (ji20)) < (rd l0_2 (ji25)) then ((spec_l1Put.f k3 x5_3 (rd (rd_L1 l1_1 x6_1) x7_2)).bind fun t190 => (spec_l10Shifted.l2 k3 t190 x6_1 x7_2 (wrap64 (x8_3 + 1)) a0_0 a0_1 l0_2 a1_0 l1_1)) else (spec_l10Shifted.l2 k3 x5_3 x6_1 x7_2 (wrap64 (x8_3 + 1)) a0_0 a0_1 l0_2 a1_0 l1_1)) else (none)) else (none)) = some r := by first | (rw [hji25] at H; exact H) | (simp only [hji25] at H ⊢; exact H)
                    have hji25w : (IntKind.i64.wrap ((rd (rd_L1 l1_1 x6_1) x7_2) - 1)) = ji25 := (i64_w _).trans hji25
                    by_cases c26 : 0 ≤ (ji25)
                    ·rw [if_pos c26] at H
                     have c26b0 : decide (0 ≤ (ji25)) = true := decide_eq_true c26
                     clear c26
                     by_cases c27 : (ji25) < (l0_2.length : Int)
                     ·rw [if_pos c27] at H
                      have c27b0 : decide ((ji25) < (l0_2.length : Int)) = true := decide_eq_true c27
                      clear c27
                      by_cases c28 : (rd l0_2 (ji20)) < (rd l0_2 (ji25))
                      ·rw [if_pos c28] at H
                       have c28b0 : decide ((rd l0_2 (ji20)) < (rd l0_2 (ji25))) = true := decide_eq_true c28
                       clear c28
                       replace H := Option.bind_eq_some_iff.mp H
                       obtain ⟨t190, A290, H⟩ := H
                       replace H : (spec_l10Shifted.l2 k3 t190 x6_1 x7_2 (wrap64 (x8_3 + 1)) a0_0 a0_1 l0_2 a1_0 l1_1) = some r := H
                       have A29 := Aside0.mk A290
                       clear A290
                       have H' := Aside0.mk H
                       clear H
                       have hnb30 := NB176_177.out
                       have hnc30 := NB177_176.out
                       have hcz31_0 : wr.cell? ⟨gb176, 0, none⟩ = some (.int .i64 a0_0) := (blk_cell BK176.out 0).trans rfl
                       have hcz31_1 : wr.cell? ⟨gb176, 1, none⟩ = some (.int .i64 a0_1) := (blk_cell BK176.out 1).trans rfl
                       have hcz31_2 : wr.cell? ⟨gb176, 2, none⟩ = some (.slice A0_2 l0_2.length c0_2) := (blk_cell BK176.out 2).trans rfl
                       have hfz31_0 := blk_frozen BK176.out 0
                       have hfz31_1 := blk_frozen BK176.out 1
                       have hfz31_2 := blk_frozen BK176.out 2
                       have hcz32_0 : wr.cell? ⟨gb177, 0, none⟩ = some (.int .i64 a1_0) := (blk_cell BK177.out 0).trans rfl
                       have hcz32_1 : wr.cell? ⟨gb177, 1, none⟩ = some (.slice (some ad181) l1_1.length c1_1) := (blk_cell BK177.out 1).trans rfl
                       have hfz32_0 := blk_frozen BK177.out 0
                       have hfz32_1 := blk_frozen BK177.out 1
                       have p182 : 0 ≤ (x6_1 : Int) := oda
                       have q182 : x6_1 < (l1_1.length : Int) := oda
                       obtain ⟨ad182, A182_0, c182_0, e182, hx182_0, hl182_0, hi182_0⟩ := at_L1 HR1_1.out x6_1 p182 q182
                       obtain rfl : ad181 = ad182 := (by injection e182)
                       replace hx182_0 := cel HB hx182_0
                       have HR182_0 := Aside0.mk hi182_0
                       have HC182_0 := Aside0.mk hl182_0
                       clear hi182_0 hl182_0
                       replace p182 := eq_true p182
                       replace q182 := eq_true q182
                       have p183 : 0 ≤ (x8_3 : Int) := oda
                       have q183 : x8_3 < ((rd_L1 l1_1 x6_1).length : Int) := oda
                       obtain ⟨ad183, e183, hx183_0⟩ := Kd.at_int HR182_0.out x8_3 p183 q183
                       cases e183
                       replace hx183_0 := cel HB hx183_0
                       replace p183 := eq_true p183
                       replace q183 := eq_true q183
                       have p184 : 0 ≤ ((ji20) : Int) := oda
                       have q184 : (ji20) < (l0_2.length : Int) := oda
                       obtain ⟨ad184, e184, hx184_0⟩ := Kd.at_int HR0_2.out (ji20) p184 q184
                       cases e184
                       replace hx184_0 := cel HB hx184_0
                       replace p184 := eq_true p184
                       replace q184 := eq_true q184
                       have p185 : 0 ≤ (x6_1 : Int) := oda
                       have q185 : x6_1 < (l1_1.length : Int) := oda
                       obtain ⟨ad185, A185_0, c185_0, e185, hx185_0, hl185_0, hi185_0⟩ := at_L1 HR1_1.out x6_1 p185 q185
                       obtain rfl : ad181 = ad185 := (by injection e185)
                       replace hx185_0 := cel HB hx185_0
                       have HR185_0 := Aside0.mk hi185_0
                       have HC185_0 := Aside0.mk hl185_0
                       clear hi185_0 hl185_0
                       replace p185 := eq_true p185
                       replace q185 := eq_true q185
                       have ea_ := Option.some.inj (hx182_0.symm.trans hx185_0)
                       injection ea_ with ea_ en_ ec_
                       subst ea_
                       subst ec_
                       clear en_
                       have p186 : 0 ≤ (x7_2 : Int) := oda
                       have q186 : x7_2 < ((rd_L1 l1_1 x6_1).length : Int) := oda
                       obtain ⟨ad186, e186, hx186_0⟩ := Kd.at_int HR185_0.out x7_2 p186 q186
                       cases e186
                       replace hx186_0 := cel HB hx186_0
                       replace p186 := eq_true p186
                       replace q186 := eq_true q186
                       have p187 : 0 ≤ ((ji25) : Int) := oda
                       have q187 : (ji25) < (l0_2.length : Int) := oda
                       obtain ⟨ad187, e187, hx187_0⟩ := Kd.at_int HR0_2.out (ji25) p187 q187
                       obtain rfl : ad184 = ad187 := (by injection e187)
                       replace hx187_0 := cel HB hx187_0
                       replace p187 := eq_true p187
                       replace q187 := eq_true q187
                       have p188 : 0 ≤ (x6_1 : Int) := oda
                       have q188 : x6_1 < (l1_1.length : Int) := oda
                       obtain ⟨ad188, A188_0, c188_0, e188, hx188_0, hl188_0, hi188_0⟩ := at_L1 HR1_1.out x6_1 p188 q188
                       obtain rfl : ad181 = ad188 := (by injection e188)
                       replace hx188_0 := cel HB hx188_0
                       have HR188_0 := Aside0.mk hi188_0
                       have HC188_0 := Aside0.mk hl188_0
                       clear hi188_0 hl188_0
                       replace p188 := eq_true p188
                       replace q188 := eq_true q188
                       have ea_ := Option.some.inj (hx182_0.symm.trans hx188_0)
                       injection ea_ with ea_ en_ ec_
                       subst ea_
                       subst ec_
                       clear en_
                       have p189 : 0 ≤ (x7_2 : Int) := oda
                       have q189 : x7_2 < ((rd_L1 l1_1 x6_1).length : Int) := oda
                       obtain ⟨ad189, e189, hx189_0⟩ := Kd.at_int HR188_0.out x7_2 p189 q189
                       cases e189
                       replace hx189_0 := cel HB hx189_0
                       replace p189 := eq_true p189
                       replace q189 := eq_true q189
                       obtain ⟨Ao33, co33, eo33⟩ := Kd.V_slice HO_5.out
                       subst eo33
                       go_wp2_with (first | (go_at_call 33; (with_reducible refine (spec_l1Put.calls k3 (fun k_ => ((w.heap.size ≤ k_) ∧ (k_ ≠ gb176 ∧ k_ ≠ gb177))) _ _ x5_3 (rd (rd_L1 l1_1 x6_1) x7_2) t190 _ ?side1 A29.out).mono ?_); (case side1 => exact HO_5.out); rintro e w34 ⟨v191, rfl, ho0, hb⟩; have n0_ := Aside0.mk (Kd.V_below (by (with_reducible repeat (first | apply Kd.V_alloc | apply Kd.V_drewN | apply Kd.V_drew)); exact HO_5.out) hb); have n1_ := Aside0.mk (Kd.V_lower (Kd.V_mono (ok' := fun k_ => (w.heap.size ≤ k_) ∧ k_ ≠ gb176 ∧ k_ ≠ gb177) ho0 (fun k_ hk_ => ⟨Or.elim hk_ (fun hs_ => hs_.1) (fun hn_ => (Nat.le_trans (below_size (bel2 HB GE176 GE177)) hn_)), Or.elim hk_ (fun hs_ => hs_.2.1) (fun hn_ => (Kd.freshB (g := gb176) (o := .cells #[.int .i64 a0_0, .int .i64 a0_1, .slice (some ad184) l0_2.length c0_2] 28 (0, 0)) (bkl BK176) k_ hn_)), Or.elim hk_ (fun hs_ => hs_.2.2) (fun hn_ => (Kd.freshB (g := gb177) (o := .cells #[.int .i64 a1_0, .slice (some ad181) l1_1.length c1_1] 42 (0, 0)) (bkl BK177) k_ hn_))⟩)) (below_size (bel2 HB GE176 GE177))); have n2_ := Aside0.mk (blk_below (g := gb176) (o := .cells #[.int .i64 a0_0, .int .i64 a0_1, .slice (some ad184) l0_2.length c0_2] 28 (0, 0)) (bkl BK176) hb); have n3_ := Aside0.mk (blk_below (g := gb177) (o := .cells #[.int .i64 a1_0, .slice (some ad181) l1_1.length c1_1] 42 (0, 0)) (bkl BK177) hb); have n4_ := Aside0.mk (below_step (bel2 HB GE176 GE177) hb); clear HO_5; clear BK176; clear BK177; clear HB; have HO_5 := n0_; have HO192 := n1_; have BK176 := n2_; have BK177 := n3_; have HB := n4_; clear n0_ n1_ n2_ n3_ n4_; (try clear hb); (try clear hb2); (try clear hk); (try clear hi); (try clear ho0)))
                       repeat (go_quiet (first | (go_at_call 33; (with_reducible refine (spec_l1Put.calls k3 (fun k_ => ((w.heap.size ≤ k_) ∧ (k_ ≠ gb176 ∧ k_ ≠ gb177))) _ _ x5_3 (rd (rd_L1 l1_1 x6_1) x7_2) t190 _ ?side1 A29.out).mono ?_); (case side1 => exact HO_5.out); rintro e w34 ⟨v191, rfl, ho0, hb⟩; have n0_ := Aside0.mk (Kd.V_below (by (with_reducible repeat (first | apply Kd.V_alloc | apply Kd.V_drewN | apply Kd.V_drew)); exact HO_5.out) hb); have n1_ := Aside0.mk (Kd.V_lower (Kd.V_mono (ok' := fun k_ => (w.heap.size ≤ k_) ∧ k_ ≠ gb176 ∧ k_ ≠ gb177) ho0 (fun k_ hk_ => ⟨Or.elim hk_ (fun hs_ => hs_.1) (fun hn_ => (Nat.le_trans (below_size (bel2 HB GE176 GE177)) hn_)), Or.elim hk_ (fun hs_ => hs_.2.1) (fun hn_ => (Kd.freshB (g := gb176) (o := .cells #[.int .i64 a0_0, .int .i64 a0_1, .slice (some ad184) l0_2.length c0_2] 28 (0, 0)) (bkl BK176) k_ hn_)), Or.elim hk_ (fun hs_ => hs_.2.2) (fun hn_ => (Kd.freshB (g := gb177) (o := .cells #[.int .i64 a1_0, .slice (some ad181) l1_1.length c1_1] 42 (0, 0)) (bkl BK177) k_ hn_))⟩)) (below_size (bel2 HB GE176 GE177))); have n2_ := Aside0.mk (blk_below (g := gb176) (o := .cells #[.int .i64 a0_0, .int .i64 a0_1, .slice (some ad184) l0_2.length c0_2] 28 (0, 0)) (bkl BK176) hb); have n3_ := Aside0.mk (blk_below (g := gb177) (o := .cells #[.int .i64 a1_0, .slice (some ad181) l1_1.length c1_1] 42 (0, 0)) (bkl BK177) hb); have n4_ := Aside0.mk (below_step (bel2 HB GE176 GE177) hb); clear HO_5; clear BK176; clear BK177; clear HB; have HO_5 := n0_; have HO192 := n1_; have BK176 := n2_; have BK177 := n3_; have HB := n4_; clear n0_ n1_ n2_ n3_ n4_; (try clear hb); (try clear hb2); (try clear hk); (try clear hi); (try clear ho0))); try go_wp2_with (first | (go_at_call 33; (with_reducible refine (spec_l1Put.calls k3 (fun k_ => ((w.heap.size ≤ k_) ∧ (k_ ≠ gb176 ∧ k_ ≠ gb177))) _ _ x5_3 (rd (rd_L1 l1_1 x6_1) x7_2) t190 _ ?side1 A29.out).mono ?_); (case side1 => exact HO_5.out); rintro e w34 ⟨v191, rfl, ho0, hb⟩; have n0_ := Aside0.mk (Kd.V_below (by (with_reducible repeat (first | apply Kd.V_alloc | apply Kd.V_drewN | apply Kd.V_drew)); exact HO_5.out) hb); have n1_ := Aside0.mk (Kd.V_lower (Kd.V_mono (ok' := fun k_ => (w.heap.size ≤ k_) ∧ k_ ≠ gb176 ∧ k_ ≠ gb177) ho0 (fun k_ hk_ => ⟨Or.elim hk_ (fun hs_ => hs_.1) (fun hn_ => (Nat.le_trans (below_size (bel2 HB GE176 GE177)) hn_)), Or.elim hk_ (fun hs_ => hs_.2.1) (fun hn_ => (Kd.freshB (g := gb176) (o := .cells #[.int .i64 a0_0, .int .i64 a0_1, .slice (some ad184) l0_2.length c0_2] 28 (0, 0)) (bkl BK176) k_ hn_)), Or.elim hk_ (fun hs_ => hs_.2.2) (fun hn_ => (Kd.freshB (g := gb177) (o := .cells #[.int .i64 a1_0, .slice (some ad181) l1_1.length c1_1] 42 (0, 0)) (bkl BK177) k_ hn_))⟩)) (below_size (bel2 HB GE176 GE177))); have n2_ := Aside0.mk (blk_below (g := gb176) (o := .cells #[.int .i64 a0_0, .int .i64 a0_1, .slice (some ad184) l0_2.length c0_2] 28 (0, 0)) (bkl BK176) hb); have n3_ := Aside0.mk (blk_below (g := gb177) (o := .cells #[.int .i64 a1_0, .slice (some ad181) l1_1.length c1_1] 42 (0, 0)) (bkl BK177) hb); have n4_ := Aside0.mk (below_step (bel2 HB GE176 GE177) hb); clear HO_5; clear BK176; clear BK177; clear HB; have HO_5 := n0_; have HO192 := n1_; have BK176 := n2_; have BK177 := n3_; have HB := n4_; clear n0_ n1_ n2_ n3_ n4_; (try clear hb); (try clear hb2); (try clear hk); (try clear hi); (try clear ho0))))
                       go_roundg k3
                       case measure => have := HK1.out; have := HK2.out; have := HK3.out; omega
                       case rel => exact ⟨(t190), (wrap64 (x8_3 + 1)), (by first | rfl | (simp; done) | (simp [*]; done)), H', ⟨by have := HK1.out; have := HK2.out; have := HK3.out; omega⟩, ⟨by (with_reducible repeat (first | apply Kd.V_alloc | apply Kd.V_drewN | apply Kd.V_drew)); exact HO192.out⟩, ⟨bkl BK176⟩, ⟨bkl BK177⟩, ⟨bel2 HB GE176 GE177⟩⟩
                      ·rw [if_neg c28] at H
                       have c28b0 : decide ((rd l0_2 (ji20)) < (rd l0_2 (ji25))) = false := decide_eq_false c28
                       clear c28
                       have H' := Aside0.mk H
                       clear H
                       have hnb35 := NB176_177.out
                       have hnc35 := NB177_176.out
                       have hcz36_0 : wr.cell? ⟨gb176, 0, none⟩ = some (.int .i64 a0_0) := (blk_cell BK176.out 0).trans rfl
                       have hcz36_1 : wr.cell? ⟨gb176, 1, none⟩ = some (.int .i64 a0_1) := (blk_cell BK176.out 1).trans rfl
                       have hcz36_2 : wr.cell? ⟨gb176, 2, none⟩ = some (.slice A0_2 l0_2.length c0_2) := (blk_cell BK176.out 2).trans rfl
                       have hfz36_0 := blk_frozen BK176.out 0
                       have hfz36_1 := blk_frozen BK176.out 1
                       have hfz36_2 := blk_frozen BK176.out 2
                       have hcz37_0 : wr.cell? ⟨gb177, 0, none⟩ = some (.int .i64 a1_0) := (blk_cell BK177.out 0).trans rfl
                       have hcz37_1 : wr.cell? ⟨gb177, 1, none⟩ = some (.slice (some ad181) l1_1.length c1_1) := (blk_cell BK177.out 1).trans rfl
                       have hfz37_0 := blk_frozen BK177.out 0
                       have hfz37_1 := blk_frozen BK177.out 1
                       have p182 : 0 ≤ (x6_1 : Int) := oda
                       have q182 : x6_1 < (l1_1.length : Int) := oda
                       obtain ⟨ad182, A182_0, c182_0, e182, hx182_0, hl182_0, hi182_0⟩ := at_L1 HR1_1.out x6_1 p182 q182
                       obtain rfl : ad181 = ad182 := (by injection e182)
                       replace hx182_0 := cel HB hx182_0
                       have HR182_0 := Aside0.mk hi182_0
                       have HC182_0 := Aside0.mk hl182_0
                       clear hi182_0 hl182_0
                       replace p182 := eq_true p182
                       replace q182 := eq_true q182
                       have p183 : 0 ≤ (x8_3 : Int) := oda
                       have q183 : x8_3 < ((rd_L1 l1_1 x6_1).length : Int) := oda
                       obtain ⟨ad183, e183, hx183_0⟩ := Kd.at_int HR182_0.out x8_3 p183 q183
                       cases e183
                       replace hx183_0 := cel HB hx183_0
                       replace p183 := eq_true p183
                       replace q183 := eq_true q183
                       have p184 : 0 ≤ ((ji20) : Int) := oda
                       have q184 : (ji20) < (l0_2.length : Int) := oda
                       obtain ⟨ad184, e184, hx184_0⟩ := Kd.at_int HR0_2.out (ji20) p184 q184
                       cases e184
                       replace hx184_0 := cel HB hx184_0
                       replace p184 := eq_true p184
                       replace q184 := eq_true q184
                       have p185 : 0 ≤ (x6_1 : Int) := oda
                       have q185 : x6_1 < (l1_1.length : Int) := oda
                       obtain ⟨ad185, A185_0, c185_0, e185, hx185_0, hl185_0, hi185_0⟩ := at_L1 HR1_1.out x6_1 p185 q185
                       obtain rfl : ad181 = ad185 := (by injection e185)
                       replace hx185_0 := cel HB hx185_0
                       have HR185_0 := Aside0.mk hi185_0
                       have HC185_0 := Aside0.mk hl185_0
                       clear hi185_0 hl185_0
                       replace p185 := eq_true p185
                       replace q185 := eq_true q185
                       have ea_ := Option.some.inj (hx182_0.symm.trans hx185_0)
                       injection ea_ with ea_ en_ ec_
                       subst ea_
                       subst ec_
                       clear en_
                       have p186 : 0 ≤ (x7_2 : Int) := oda
                       have q186 : x7_2 < ((rd_L1 l1_1 x6_1).length : Int) := oda
                       obtain ⟨ad186, e186, hx186_0⟩ := Kd.at_int HR185_0.out x7_2 p186 q186
                       cases e186
                       replace hx186_0 := cel HB hx186_0
                       replace p186 := eq_true p186
                       replace q186 := eq_true q186
                       have p187 : 0 ≤ ((ji25) : Int) := oda
                       have q187 : (ji25) < (l0_2.length : Int) := oda
                       obtain ⟨ad187, e187, hx187_0⟩ := Kd.at_int HR0_2.out (ji25) p187 q187
                       obtain rfl : ad184 = ad187 := (by injection e187)
                       replace hx187_0 := cel HB hx187_0
                       replace p187 := eq_true p187
                       replace q187 := eq_true q187
                       go_wp2
                       repeat (go_quiet (fail); try go_wp2)
                       go_roundg k3
                       case measure => have := HK1.out; have := HK2.out; have := HK3.out; omega
                       case rel => exact ⟨(x5_3), (wrap64 (x8_3 + 1)), (by first | rfl | (simp; done) | (simp [*]; done)), H', ⟨by have := HK1.out; have := HK2.out; have := HK3.out; omega⟩, ⟨by (with_reducible repeat (first | apply Kd.V_alloc | apply Kd.V_drewN | apply Kd.V_drew)); exact HO_5.out⟩, ⟨bkl BK176⟩, ⟨bkl BK177⟩, ⟨bel2 HB GE176 GE177⟩⟩
                     ·rw [if_neg c27] at H
                      exact absurd H (by simp)
                    ·rw [if_neg c26] at H
                     exact absurd H (by simp)
                   ·rw [if_neg c24] at H
                    exact absurd H (by simp)
                  ·rw [if_neg c23] at H
                   exact absurd H (by simp)
                 ·rw [if_neg c22] at H
                  exact absurd H (by simp)
                ·rw [if_neg c21] at H
                 exact absurd H (by simp)
               ·rw [if_neg c19] at H
                exact absurd H (by simp)
              ·rw [if_neg c18] at H
               exact absurd H (by simp)
             ·rw [if_neg c17] at H
              exact absurd H (by simp)
            ·rw [if_neg c16] at H
             exact absurd H (by simp)
           ·rw [if_neg c15] at H
            have c15b0 : decide (x8_3 < x7_2) = false := decide_eq_false c15
            clear c15
            have H' := Aside0.mk H
            clear H
            go_wp2
            repeat (go_quiet (fail); try go_wp2)
            go_roundg k3
            case measure => have := HK1.out; have := HK2.out; have := HK3.out; omega
            case rel => exact ⟨(x5_3), (wrap64 (x7_2 + 1)), (by first | rfl | (simp; done) | (simp [*]; done)), H', ⟨by have := HK1.out; have := HK2.out; have := HK3.out; omega⟩, ⟨by (with_reducible repeat (first | apply Kd.V_alloc | apply Kd.V_drewN | apply Kd.V_drew)); exact HO_5.out⟩, ⟨bkl BK176⟩, ⟨bkl BK177⟩, ⟨bel2 HB GE176 GE177⟩⟩
        ·rw [if_neg c12] at H
         have c12b0 : decide (x7_2 < ((rd_L1 l1_1 x6_1).length : Int)) = false := decide_eq_false c12
         clear c12
         have H' := Aside0.mk H
         clear H
         have hnb38 := NB177_176.out
         have hnc38 := NB176_177.out
         have hcz39_0 : wr.cell? ⟨gb177, 0, none⟩ = some (.int .i64 a1_0) := (blk_cell BK177.out 0).trans rfl
         have hcz39_1 : wr.cell? ⟨gb177, 1, none⟩ = some (.slice A1_1 l1_1.length c1_1) := (blk_cell BK177.out 1).trans rfl
         have hfz39_0 := blk_frozen BK177.out 0
         have hfz39_1 := blk_frozen BK177.out 1
         have p181 : 0 ≤ (x6_1 : Int) := oda
         have q181 : x6_1 < (l1_1.length : Int) := oda
         obtain ⟨ad181, A181_0, c181_0, e181, hx181_0, hl181_0, hi181_0⟩ := at_L1 HR1_1.out x6_1 p181 q181
         cases e181
         replace hx181_0 := cel HB hx181_0
         have HR181_0 := Aside0.mk hi181_0
         have HC181_0 := Aside0.mk hl181_0
         clear hi181_0 hl181_0
         replace p181 := eq_true p181
         replace q181 := eq_true q181
         go_wp2
         repeat (go_quiet (fail); try go_wp2)
         go_roundg k2
         case measure => have := HK1.out; have := HK2.out; omega
         case rel => exact ⟨(x5_2), (wrap64 (x6_1 + 1)), (by first | rfl | (simp; done) | (simp [*]; done)), H', ⟨by have := HK1.out; have := HK2.out; omega⟩, ⟨by (with_reducible repeat (first | apply Kd.V_alloc | apply Kd.V_drewN | apply Kd.V_drew)); exact HO_5.out⟩, ⟨bkl BK176⟩, ⟨bkl BK177⟩, ⟨bel2 HB GE176 GE177⟩⟩
       ·rw [if_neg c11] at H
        exact absurd H (by simp)
      ·rw [if_neg c10] at H
       exact absurd H (by simp)
   ·rw [if_neg c7] at H
    have c7b0 : decide (x6_1 < (l1_1.length : Int)) = false := decide_eq_false c7
    clear c7
    obtain rfl := Option.some.inj H
    have hnb40 := NB177_176.out
    have hnc40 := NB176_177.out
    have hcz41_0 : wr.cell? ⟨gb177, 0, none⟩ = some (.int .i64 a1_0) := (blk_cell BK177.out 0).trans rfl
    have hcz41_1 : wr.cell? ⟨gb177, 1, none⟩ = some (.slice A1_1 l1_1.length c1_1) := (blk_cell BK177.out 1).trans rfl
    have hfz41_0 := blk_frozen BK177.out 0
    have hfz41_1 := blk_frozen BK177.out 1
    go_wp2
    repeat (go_quiet (fail); try go_wp2)
    go_ret
    exact ⟨_, by first | rfl | (simp [errW_none, errW_some] <;> rfl) | (simp [*, errW_none, errW_some] <;> rfl), by (with_reducible repeat (first | apply Kd.V_alloc | apply Kd.V_drewN | apply Kd.V_drew)); exact Kd.V_mono HO_5.out (fun _ hk => hk.1), bel2 HB GE176 GE177⟩

/-! ### spec_l1Own: function 25 -/
def spec_l1Own.f (l0 : List Int) : Option (List Int) := (some (([] : List Int) : List Int)).bind fun y193 => (if y193.length + l0.length < 17592186044416 then (some (y193 ++ l0)) else (none))
set_option maxHeartbeats 8000000 in
set_option maxRecDepth 100000 in
theorem spec_l1Own.calls (A0 : Option Addr) (c0 : Nat) (l0 : List Int) (r : List Int) (w : World) (hr0 : Kd.C (Kd.int .i64) w A0 l0.length l0) (hc0 : l0.length ≤ c0) (h : spec_l1Own.f l0 = some r) :
  Calls Try.prog 25 #[.slice A0 l0.length c0] w fun e w' => ∃ v0_ : Value, e = .returned (v0_) ∧ Kd.R (Kd.int .i64) 3 w' w.heap.size (fun _ => True) v0_ r ∧ Below w.heap.size w w' := by
 have HR0 := Aside0.mk hr0
 have HC0 := Aside0.mk hc0
 clear hr0 hc0
 have HB := Aside0.mk (Below.refl w.heap.size w)
 have H : ((some (([] : List Int) : List Int)).bind fun y193 => (if y193.length + l0.length < 17592186044416 then (some (y193 ++ l0)) else (none))) = some r := h
 clear h
 obtain ⟨y193, hy193⟩ : ∃ y_ : List Int, y_ = (([] : List Int)) := ⟨_, rfl⟩
 replace H : (if y193.length + l0.length < 17592186044416 then (some (y193 ++ l0)) else (none)) = some r := by first | (rw [hy193]; with_reducible exact H) | (have H2_ := (Option.bind_some _ _).symm.trans H; rw [hy193]; with_reducible exact H2_) | (have H2_ := (Option.bind_some _ _).symm.trans H; with_reducible exact H2_) | with_reducible exact H | (rw [hy193]; exact H) | exact H
 have Ny193 := Aside0.mk hy193
 clear hy193
 by_cases c2 : y193.length + l0.length < 17592186044416
 ·rw [if_pos c2] at H
  have LMc2 := Aside0.mk c2
  clear c2
  obtain ⟨y196, hy196⟩ : ∃ y_ : List Int, y_ = (y193 ++ l0) := ⟨_, rfl⟩
  replace H : (some y196) = some r := by first | (rw [hy196]; with_reducible exact H) | (have H2_ := (Option.bind_some _ _).symm.trans H; rw [hy196]; with_reducible exact H2_) | (have H2_ := (Option.bind_some _ _).symm.trans H; with_reducible exact H2_) | with_reducible exact H | (rw [hy196]; exact H) | exact H
  have Ny196 := Aside0.mk hy196
  clear hy196
  obtain rfl := Option.some.inj H
  go_enter Try.func25, Try.ntmps25
  go_wp2_with (first | ((with_reducible refine gate_dst (N := 3) rfl ?_); refine Kd.R_lit (Kd.int .i64) _ 3 ?hg (N := 3) ?hd (xs := ([] : List Int)) (inner := []) (ok := fun _ => True) (okp := fun _ => True) ?hr ?hp (fun _ hk => hk) trivial (Below.refl _ _) (Nat.le_refl _) (by simp) ?_; (case hd => rfl); (case hg => rfl); (case hr => first | (go_simp; done) | (go_simp; rfl)); (case hp => exact (Reps.none _ _)); intro v194 w3 ho4 hb hg_ hnew_; clear hg_ hnew_; (first | rw [← Ny193.out] at ho4 | (simp only [Int.reduceToNat] at ho4; rw [← Ny193.out] at ho4)); have n0_ := Aside0.mk (Kd.R_lower ho4 (below_size (bel HB))); have n1_ := Aside0.mk (below_step (bel HB) hb); clear HB; have HO195 := n0_; have HB := n1_; clear n0_ n1_; clear hb ho4) | ((with_reducible refine gate_builtin (b := .append) (xs := #[.tmp 3, .tmp 4]) rfl ?_); at_builtin; refine Kd.R_append_rows (Kd.int .i64) (w0 := w) w.heap.size rfl (.tmp 3) (.tmp 4) 22 3 (.int .i64 0) 8 rfl Try.underlying22 info3 rfl (by decide) (by omega) v194 y193 l0 _ _ _ (fun _ => True) (fun _ => False) rfl rfl ?aO ?aR (fun _ _ h => h) (fun _ h => h.elim) ?aF ?aB ?aS ?aL ?_; (case aR => exact cdl (Kd.C_below HR0.out HB.out)); (case aB => exact (bel HB)); (case aF => exact (fun _ _ => trivial)); (case aO => exact (rdl HO195)); (case aS => exact (below_size (bel HB))); (case aL => have := LMc2.out; omega); intro v197 w5 ho hb hg hat; rw [← Ny196.out] at ho; have n0_ := Aside0.mk (hb); have n1_ := Aside0.mk (ho); clear HB; clear HO195; have HB := n0_; have HO198 := n1_; clear n0_ n1_; clear ho hb hg hat))
  go_ret
  exact ⟨_, by first | rfl | (simp [errW_none, errW_some] <;> rfl) | (simp [*, errW_none, errW_some] <;> rfl), rdl HO198, bel HB⟩
 ·rw [if_neg c2] at H
  exact absurd H (by simp)

end Go.Proofs.Ytbcklegbkdjlpaa.P
