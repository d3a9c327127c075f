-- Written by a program of this session over the translation (a variant of the printer, see wip/gen); Lean checks it.
import Derived.Test.YtgeefafkjokmeaaPx0
import Derived.Test.YtgeefafkjokmeaaPx2
import Derived.Test.YtgeefafkjokmeaaPx3
import Derived.Test.YtgeefafkjokmeaaPx4
namespace Go.Proofs.Ytgeefafkjokmeaa.P
open Go.RowKit Go.Proofs.YtgeefafkjokmeaaW.PrintWords Go.Proofs.YtgeefafkjokmeaaW.PrintLast Go.Proofs.YtgeefafkjokmeaaW.PrintMore
attribute [local go_sem] Go.Proofs.Ytgeefafkjokmeaa.V.isSome_setCell max2_int min2_int max_two min_two max_three min_three max_four min_four   -- for this text's walks alone
set_option linter.unusedVariables false
set_option linter.unusedSimpArgs false

/-! ### spec_l10Shifted: function 39 -/
mutual
def spec_l10Shifted.l0 : Nat → List Int → Int → Int → Int → List Int → Int → List (List Int) → Option (List Int)
 | 0, _, _, _, _, _, _, _ => none
 | k + 1, x5, x6, x224000, x224001, x224002, x225000, x225001 => if x6 < (x225001.length : Int) then (spec_l10Shifted.l1 k x5 x6 0 x224000 x224001 x224002 x225000 x225001) else (some x5)
def spec_l10Shifted.l1 : Nat → List Int → Int → Int → Int → Int → List Int → Int → List (List Int) → Option (List Int)
 | 0, _, _, _, _, _, _, _, _ => none
 | k + 1, x5, x6, x7, x224000, x224001, x224002, x225000, x225001 => if 0 ≤ x6 then (if x6 < (x225001.length : Int) then (if x7 < ((rd_L1 x225001 x6).length : Int) then (spec_l10Shifted.l2 k x5 x6 x7 0 x224000 x224001 x224002 x225000 x225001) else (spec_l10Shifted.l0 k x5 (wrap64 (x6 + 1)) x224000 x224001 x224002 x225000 x225001)) else (none)) else (none)
def spec_l10Shifted.l2 : Nat → List Int → Int → Int → Int → Int → Int → List Int → Int → List (List Int) → Option (List Int)
 | 0, _, _, _, _, _, _, _, _, _ => none
 | k + 1, x5, x6, x7, x8, x224000, x224001, x224002, x225000, x225001 => if x8 < x7 then (if 0 ≤ x6 then (if x6 < (x225001.length : Int) then (if 0 ≤ x8 then (if x8 < ((rd_L1 x225001 x6).length : Int) then (if 0 ≤ (wrap64 ((rd (rd_L1 x225001 x6) x8) - 1)) then (if (wrap64 ((rd (rd_L1 x225001 x6) x8) - 1)) < (x224002.length : Int) then (if 0 ≤ x7 then (if x7 < ((rd_L1 x225001 x6).length : Int) then (if 0 ≤ (wrap64 ((rd (rd_L1 x225001 x6) x7) - 1)) then (if (wrap64 ((rd (rd_L1 x225001 x6) x7) - 1)) < (x224002.length : Int) then (if (rd x224002 (wrap64 ((rd (rd_L1 x225001 x6) x8) - 1))) < (rd x224002 (wrap64 ((rd (rd_L1 x225001 x6) x7) - 1))) then ((spec_l1Put.f k x5 (rd (rd_L1 x225001 x6) x7)).bind fun t237 => (spec_l10Shifted.l2 k t237 x6 x7 (wrap64 (x8 + 1)) x224000 x224001 x224002 x225000 x225001)) else (spec_l10Shifted.l2 k x5 x6 x7 (wrap64 (x8 + 1)) x224000 x224001 x224002 x225000 x225001)) else (none)) else (none)) else (none)) else (none)) else (none)) else (none)) else (none)) else (none)) else (none)) else (none)) else (spec_l10Shifted.l1 k x5 x6 (wrap64 (x7 + 1)) x224000 x224001 x224002 x225000 x225001)
end
def spec_l10Shifted.f (k : Nat) (a0_0 : Int) (a0_1 : Int) (l0_2 : List Int) (a1_0 : Int) (l1_1 : List (List Int)) : Option (List Int) := spec_l10Shifted.l0 k (([] : List Int)) 0 a0_0 a0_1 l0_2 a1_0 l1_1
theorem spec_l10Shifted.mono_l : ∀ k, (∀ y0 y1 y2 y3 y4 y5 y6, LeO (spec_l10Shifted.l0 k y0 y1 y2 y3 y4 y5 y6) (spec_l10Shifted.l0 (k + 1) y0 y1 y2 y3 y4 y5 y6)) ∧ (∀ y0 y1 y2 y3 y4 y5 y6 y7, LeO (spec_l10Shifted.l1 k y0 y1 y2 y3 y4 y5 y6 y7) (spec_l10Shifted.l1 (k + 1) y0 y1 y2 y3 y4 y5 y6 y7)) ∧ (∀ y0 y1 y2 y3 y4 y5 y6 y7 y8, LeO (spec_l10Shifted.l2 k y0 y1 y2 y3 y4 y5 y6 y7 y8) (spec_l10Shifted.l2 (k + 1) y0 y1 y2 y3 y4 y5 y6 y7 y8))
 | 0 => ⟨fun _ _ _ _ _ _ _ r h => by simp [spec_l10Shifted.l0] at h, fun _ _ _ _ _ _ _ _ r h => by simp [spec_l10Shifted.l1] at h, fun _ _ _ _ _ _ _ _ _ r h => by simp [spec_l10Shifted.l2] at h⟩
 | k + 1 => by
  obtain ⟨ih0, ih1, ih2⟩ := spec_l10Shifted.mono_l k
  refine ⟨?_, ?_, ?_⟩
  ·intro y0 y1 y2 y3 y4 y5 y6
   unfold spec_l10Shifted.l0
   repeat' first
   | (with_reducible exact ih0 _ _ _ _ _ _ _)
   | (with_reducible exact ih1 _ _ _ _ _ _ _ _)
   | (with_reducible exact ih2 _ _ _ _ _ _ _ _ _)
   | (with_reducible exact spec_l1Put.mono _ _ _)
   | (with_reducible exact LeO.refl _)
   | (with_reducible exact LeO.none _)
   | (with_reducible refine LeO.ite ?_ ?_)
   | (with_reducible refine LeO.bind ?_ (fun _ => ?_))
   | exact ih0 _ _ _ _ _ _ _
   | exact ih1 _ _ _ _ _ _ _ _
   | exact ih2 _ _ _ _ _ _ _ _ _
   | exact spec_l1Put.mono _ _ _
   | exact LeO.none _
   | refine LeO.ite ?_ ?_
   | refine LeO.bind ?_ (fun _ => ?_)
  ·intro y0 y1 y2 y3 y4 y5 y6 y7
   unfold spec_l10Shifted.l1
   repeat' first
   | (with_reducible exact ih0 _ _ _ _ _ _ _)
   | (with_reducible exact ih1 _ _ _ _ _ _ _ _)
   | (with_reducible exact ih2 _ _ _ _ _ _ _ _ _)
   | (with_reducible exact spec_l1Put.mono _ _ _)
   | (with_reducible exact LeO.refl _)
   | (with_reducible exact LeO.none _)
   | (with_reducible refine LeO.ite ?_ ?_)
   | (with_reducible refine LeO.bind ?_ (fun _ => ?_))
   | exact ih0 _ _ _ _ _ _ _
   | exact ih1 _ _ _ _ _ _ _ _
   | exact ih2 _ _ _ _ _ _ _ _ _
   | exact spec_l1Put.mono _ _ _
   | exact LeO.none _
   | refine LeO.ite ?_ ?_
   | refine LeO.bind ?_ (fun _ => ?_)
  ·intro y0 y1 y2 y3 y4 y5 y6 y7 y8
   unfold spec_l10Shifted.l2
   repeat' first
   | (with_reducible exact ih0 _ _ _ _ _ _ _)
   | (with_reducible exact ih1 _ _ _ _ _ _ _ _)
   | (with_reducible exact ih2 _ _ _ _ _ _ _ _ _)
   | (with_reducible exact spec_l1Put.mono _ _ _)
   | (with_reducible exact LeO.refl _)
   | (with_reducible exact LeO.none _)
   | (with_reducible refine LeO.ite ?_ ?_)
   | (with_reducible refine LeO.bind ?_ (fun _ => ?_))
   | exact ih0 _ _ _ _ _ _ _
   | exact ih1 _ _ _ _ _ _ _ _
   | exact ih2 _ _ _ _ _ _ _ _ _
   | exact spec_l1Put.mono _ _ _
   | exact LeO.none _
   | refine LeO.ite ?_ ?_
   | refine LeO.bind ?_ (fun _ => ?_)
theorem spec_l10Shifted.mono : ∀ a0 a1 a2 a3 a4 k, LeO (spec_l10Shifted.f k a0 a1 a2 a3 a4) (spec_l10Shifted.f (k + 1) a0 a1 a2 a3 a4) := by
 intro a0 a1 a2 a3 a4 k
 obtain ⟨ih0, ih1, ih2⟩ := spec_l10Shifted.mono_l k
 unfold spec_l10Shifted.f
 repeat' first
   | (with_reducible exact ih0 _ _ _ _ _ _ _)
   | (with_reducible exact ih1 _ _ _ _ _ _ _ _)
   | (with_reducible exact ih2 _ _ _ _ _ _ _ _ _)
   | (with_reducible exact spec_l1Put.mono _ _ _)
   | (with_reducible exact LeO.refl _)
   | (with_reducible exact LeO.none _)
   | (with_reducible refine LeO.ite ?_ ?_)
   | (with_reducible refine LeO.bind ?_ (fun _ => ?_))
   | exact ih0 _ _ _ _ _ _ _
   | exact ih1 _ _ _ _ _ _ _ _
   | exact ih2 _ _ _ _ _ _ _ _ _
   | exact spec_l1Put.mono _ _ _
   | exact LeO.none _
   | refine LeO.ite ?_ ?_
   | refine LeO.bind ?_ (fun _ => ?_)
set_option maxHeartbeats 8000000 in
set_option maxRecDepth 100000 in
theorem spec_l10Shifted.calls (k : Nat) (a0_0 : Int) (a0_1 : Int) (A0_2 : Option Addr) (c0_2 : Nat) (l0_2 : List Int) (a1_0 : Int) (A1_1 : Option Addr) (c1_1 : Nat) (l1_1 : List (List Int)) (r : List Int) (w : World) (hr0_2 : Kd.C (Kd.int .i64) w A0_2 l0_2.length l0_2) (hc0_2 : l0_2.length ≤ c0_2) (hr1_1 : Kd.C (Kd.slice 3 (Kd.int .i64)) w A1_1 l1_1.length l1_1) (hc1_1 : l1_1.length ≤ c1_1) (h : spec_l10Shifted.f k a0_0 a0_1 l0_2 a1_0 l1_1 = some r) :
  Calls Try.prog 39 #[.agg #[.int .i64 a0_0, .int .i64 a0_1, .slice A0_2 l0_2.length c0_2], .agg #[.int .i64 a1_0, .slice A1_1 l1_1.length c1_1]] w fun e w' => ∃ v0_ : Value, e = .returned (v0_) ∧ Kd.V (Kd.int .i64) 3 w' w.heap.size (fun k_ => (w.heap.size ≤ k_)) v0_ r ∧ Below w.heap.size w w' := by
 have hu31 := Try.underlying31
 have hu28 := Try.underlying28
 have HR0_2 := Aside0.mk hr0_2
 have HC0_2 := Aside0.mk hc0_2
 clear hr0_2 hc0_2
 have HR1_1 := Aside0.mk hr1_1
 have HC1_1 := Aside0.mk hc1_1
 clear hr1_1 hc1_1
 have HB := Aside0.mk (Below.refl w.heap.size w)
 have H : (spec_l10Shifted.l0 k (([] : List Int)) 0 a0_0 a0_1 l0_2 a1_0 l1_1) = some r := h
 clear h
 obtain ⟨y225, hy225⟩ : ∃ y_ : List Int, y_ = (([] : List Int)) := ⟨_, rfl⟩
 replace H : (spec_l10Shifted.l0 k y225 0 a0_0 a0_1 l0_2 a1_0 l1_1) = some r := by first | (rw [hy225]; with_reducible exact H) | (have H2_ := (Option.bind_some _ _).symm.trans H; rw [hy225]; with_reducible exact H2_) | (have H2_ := (Option.bind_some _ _).symm.trans H; with_reducible exact H2_) | with_reducible exact H | (rw [hy225]; exact H) | exact H
 have Ny225 := Aside0.mk hy225
 clear hy225
 have H' := Aside0.mk H
 clear H
 go_enter Try.func39, Try.ntmps39
 go_wp2_with (first | ((with_reducible refine gate_dst (N := 2) rfl ?_); refine box_event ?hg (N := 2) ?hd (cs := #[.int .i64 a0_0, .int .i64 a0_1, .slice A0_2 l0_2.length c0_2]) (t := 31) ?hr ?_; (case hd => rfl); (case hg => rfl); (case hr => first | (go_simp; done) | (go_simp; rfl)); intro gb223 hg w3 hbox hb; have n0_ := Aside0.mk (below_step (bel HB) hb); have n1_ := Aside0.mk (hbox); have n2_ := Aside0.mk ((by rw [hg]; exact (below_size (bel HB)) : w.heap.size ≤ gb223)); have n3_ := Aside0.mk ((by rw [hg]; exact (below_size (bel HB)) : w.heap.size ≤ gb223)); clear HB; have HB := n0_; have BK223 := n1_; have GW223 := n2_; have GE223 := n3_; clear n0_ n1_ n2_ n3_; clear hb hbox hg) | ((with_reducible refine gate_dst (N := 3) rfl ?_); refine box_event ?hg (N := 3) ?hd (cs := #[.int .i64 a1_0, .slice A1_1 l1_1.length c1_1]) (t := 28) ?hr ?_; (case hd => rfl); (case hg => rfl); (case hr => first | (go_simp; done) | (go_simp; rfl)); intro gb224 hg w4 hbox hb; have n0_ := Aside0.mk (blk_below (g := gb223) (o := .cells #[.int .i64 a0_0, .int .i64 a0_1, .slice A0_2 l0_2.length c0_2] 31 (0, 0)) (bkl BK223) hb); have n1_ := Aside0.mk (below_step (bel1 HB GE223) hb); have n2_ := Aside0.mk (hbox); have n3_ := Aside0.mk ((by rw [hg]; exact (below_size (bel1 HB GE223)) : w.heap.size ≤ gb224)); have n4_ := Aside0.mk ((by rw [hg]; exact (below_size (bel1 HB GE223)) : w.heap.size ≤ gb224)); have n5_ := Aside0.mk ((by rw [hg]; exact Nat.ne_of_lt (blk_lt (g := gb223) (o := .cells #[.int .i64 a0_0, .int .i64 a0_1, .slice A0_2 l0_2.length c0_2] 31 (0, 0)) (bkl BK223)) : gb223 ≠ gb224)); have n6_ := Aside0.mk ((by rw [hg]; exact Nat.ne_of_gt (blk_lt (g := gb223) (o := .cells #[.int .i64 a0_0, .int .i64 a0_1, .slice A0_2 l0_2.length c0_2] 31 (0, 0)) (bkl BK223)) : gb224 ≠ gb223)); clear BK223; clear HB; have BK223 := n0_; have HB := n1_; have BK224 := n2_; have GW224 := n3_; have GE224 := n4_; have NB223_224 := n5_; have NB224_223 := n6_; clear n0_ n1_ n2_ n3_ n4_ n5_ n6_; clear hb hbox hg) | ((with_reducible refine gate_dst (N := 9) rfl ?_); refine Kd.R_lit (Kd.int .i64) _ 3 ?hg (N := 9) ?hd (xs := ([] : List Int)) (inner := []) (ok := fun _ => True) (okp := fun _ => True) ?hr ?hp (fun _ hk => hk) trivial (Below.refl _ _) (Nat.le_refl _) (by simp) ?_; (case hd => rfl); (case hg => rfl); (case hr => first | (go_simp; done) | (go_simp; rfl)); (case hp => exact (Reps.none _ _)); intro v226 w5 ho6 hb hg_ hnew_; clear hg_ hnew_; (first | rw [← Ny225.out] at ho6 | (simp only [Int.reduceToNat] at ho6; rw [← Ny225.out] at ho6)); have n0_ := Aside0.mk (Kd.R_lower (Kd.R_newM (M := fun k_ => (w.heap.size ≤ k_)) ho6 (below_size (bel2 HB GE223 GE224)) (fun k_ h_ => h_)) (below_size (bel2 HB GE223 GE224))); have n1_ := Aside0.mk (blk_below (g := gb223) (o := .cells #[.int .i64 a0_0, .int .i64 a0_1, .slice A0_2 l0_2.length c0_2] 31 (0, 0)) (bkl BK223) hb); have n2_ := Aside0.mk (blk_below (g := gb224) (o := .cells #[.int .i64 a1_0, .slice A1_1 l1_1.length c1_1] 28 (0, 0)) (bkl BK224) hb); have n3_ := Aside0.mk (below_step (bel2 HB GE223 GE224) hb); clear BK223; clear BK224; clear HB; have HO227 := n0_; have BK223 := n1_; have BK224 := n2_; have HB := n3_; clear n0_ n1_ n2_ n3_; clear hb ho6))
 repeat (go_quiet (first | ((with_reducible refine gate_dst (N := 2) rfl ?_); refine box_event ?hg (N := 2) ?hd (cs := #[.int .i64 a0_0, .int .i64 a0_1, .slice A0_2 l0_2.length c0_2]) (t := 31) ?hr ?_; (case hd => rfl); (case hg => rfl); (case hr => first | (go_simp; done) | (go_simp; rfl)); intro gb223 hg w3 hbox hb; have n0_ := Aside0.mk (below_step (bel HB) hb); have n1_ := Aside0.mk (hbox); have n2_ := Aside0.mk ((by rw [hg]; exact (below_size (bel HB)) : w.heap.size ≤ gb223)); have n3_ := Aside0.mk ((by rw [hg]; exact (below_size (bel HB)) : w.heap.size ≤ gb223)); clear HB; have HB := n0_; have BK223 := n1_; have GW223 := n2_; have GE223 := n3_; clear n0_ n1_ n2_ n3_; clear hb hbox hg) | ((with_reducible refine gate_dst (N := 3) rfl ?_); refine box_event ?hg (N := 3) ?hd (cs := #[.int .i64 a1_0, .slice A1_1 l1_1.length c1_1]) (t := 28) ?hr ?_; (case hd => rfl); (case hg => rfl); (case hr => first | (go_simp; done) | (go_simp; rfl)); intro gb224 hg w4 hbox hb; have n0_ := Aside0.mk (blk_below (g := gb223) (o := .cells #[.int .i64 a0_0, .int .i64 a0_1, .slice A0_2 l0_2.length c0_2] 31 (0, 0)) (bkl BK223) hb); have n1_ := Aside0.mk (below_step (bel1 HB GE223) hb); have n2_ := Aside0.mk (hbox); have n3_ := Aside0.mk ((by rw [hg]; exact (below_size (bel1 HB GE223)) : w.heap.size ≤ gb224)); have n4_ := Aside0.mk ((by rw [hg]; exact (below_size (bel1 HB GE223)) : w.heap.size ≤ gb224)); have n5_ := Aside0.mk ((by rw [hg]; exact Nat.ne_of_lt (blk_lt (g := gb223) (o := .cells #[.int .i64 a0_0, .int .i64 a0_1, .slice A0_2 l0_2.length c0_2] 31 (0, 0)) (bkl BK223)) : gb223 ≠ gb224)); have n6_ := Aside0.mk ((by rw [hg]; exact Nat.ne_of_gt (blk_lt (g := gb223) (o := .cells #[.int .i64 a0_0, .int .i64 a0_1, .slice A0_2 l0_2.length c0_2] 31 (0, 0)) (bkl BK223)) : gb224 ≠ gb223)); clear BK223; clear HB; have BK223 := n0_; have HB := n1_; have BK224 := n2_; have GW224 := n3_; have GE224 := n4_; have NB223_224 := n5_; have NB224_223 := n6_; clear n0_ n1_ n2_ n3_ n4_ n5_ n6_; clear hb hbox hg) | ((with_reducible refine gate_dst (N := 9) rfl ?_); refine Kd.R_lit (Kd.int .i64) _ 3 ?hg (N := 9) ?hd (xs := ([] : List Int)) (inner := []) (ok := fun _ => True) (okp := fun _ => True) ?hr ?hp (fun _ hk => hk) trivial (Below.refl _ _) (Nat.le_refl _) (by simp) ?_; (case hd => rfl); (case hg => rfl); (case hr => first | (go_simp; done) | (go_simp; rfl)); (case hp => exact (Reps.none _ _)); intro v226 w5 ho6 hb hg_ hnew_; clear hg_ hnew_; (first | rw [← Ny225.out] at ho6 | (simp only [Int.reduceToNat] at ho6; rw [← Ny225.out] at ho6)); have n0_ := Aside0.mk (Kd.R_lower (Kd.R_newM (M := fun k_ => (w.heap.size ≤ k_)) ho6 (below_size (bel2 HB GE223 GE224)) (fun k_ h_ => h_)) (below_size (bel2 HB GE223 GE224))); have n1_ := Aside0.mk (blk_below (g := gb223) (o := .cells #[.int .i64 a0_0, .int .i64 a0_1, .slice A0_2 l0_2.length c0_2] 31 (0, 0)) (bkl BK223) hb); have n2_ := Aside0.mk (blk_below (g := gb224) (o := .cells #[.int .i64 a1_0, .slice A1_1 l1_1.length c1_1] 28 (0, 0)) (bkl BK224) hb); have n3_ := Aside0.mk (below_step (bel2 HB GE223 GE224) hb); clear BK223; clear BK224; clear HB; have HO227 := n0_; have BK223 := n1_; have BK224 := n2_; have HB := n3_; clear n0_ n1_ n2_ n3_; clear hb ho6)); try go_wp2_with (first | ((with_reducible refine gate_dst (N := 2) rfl ?_); refine box_event ?hg (N := 2) ?hd (cs := #[.int .i64 a0_0, .int .i64 a0_1, .slice A0_2 l0_2.length c0_2]) (t := 31) ?hr ?_; (case hd => rfl); (case hg => rfl); (case hr => first | (go_simp; done) | (go_simp; rfl)); intro gb223 hg w3 hbox hb; have n0_ := Aside0.mk (below_step (bel HB) hb); have n1_ := Aside0.mk (hbox); have n2_ := Aside0.mk ((by rw [hg]; exact (below_size (bel HB)) : w.heap.size ≤ gb223)); have n3_ := Aside0.mk ((by rw [hg]; exact (below_size (bel HB)) : w.heap.size ≤ gb223)); clear HB; have HB := n0_; have BK223 := n1_; have GW223 := n2_; have GE223 := n3_; clear n0_ n1_ n2_ n3_; clear hb hbox hg) | ((with_reducible refine gate_dst (N := 3) rfl ?_); refine box_event ?hg (N := 3) ?hd (cs := #[.int .i64 a1_0, .slice A1_1 l1_1.length c1_1]) (t := 28) ?hr ?_; (case hd => rfl); (case hg => rfl); (case hr => first | (go_simp; done) | (go_simp; rfl)); intro gb224 hg w4 hbox hb; have n0_ := Aside0.mk (blk_below (g := gb223) (o := .cells #[.int .i64 a0_0, .int .i64 a0_1, .slice A0_2 l0_2.length c0_2] 31 (0, 0)) (bkl BK223) hb); have n1_ := Aside0.mk (below_step (bel1 HB GE223) hb); have n2_ := Aside0.mk (hbox); have n3_ := Aside0.mk ((by rw [hg]; exact (below_size (bel1 HB GE223)) : w.heap.size ≤ gb224)); have n4_ := Aside0.mk ((by rw [hg]; exact (below_size (bel1 HB GE223)) : w.heap.size ≤ gb224)); have n5_ := Aside0.mk ((by rw [hg]; exact Nat.ne_of_lt (blk_lt (g := gb223) (o := .cells #[.int .i64 a0_0, .int .i64 a0_1, .slice A0_2 l0_2.length c0_2] 31 (0, 0)) (bkl BK223)) : gb223 ≠ gb224)); have n6_ := Aside0.mk ((by rw [hg]; exact Nat.ne_of_gt (blk_lt (g := gb223) (o := .cells #[.int .i64 a0_0, .int .i64 a0_1, .slice A0_2 l0_2.length c0_2] 31 (0, 0)) (bkl BK223)) : gb224 ≠ gb223)); clear BK223; clear HB; have BK223 := n0_; have HB := n1_; have BK224 := n2_; have GW224 := n3_; have GE224 := n4_; have NB223_224 := n5_; have NB224_223 := n6_; clear n0_ n1_ n2_ n3_ n4_ n5_ n6_; clear hb hbox hg) | ((with_reducible refine gate_dst (N := 9) rfl ?_); refine Kd.R_lit (Kd.int .i64) _ 3 ?hg (N := 9) ?hd (xs := ([] : List Int)) (inner := []) (ok := fun _ => True) (okp := fun _ => True) ?hr ?hp (fun _ hk => hk) trivial (Below.refl _ _) (Nat.le_refl _) (by simp) ?_; (case hd => rfl); (case hg => rfl); (case hr => first | (go_simp; done) | (go_simp; rfl)); (case hp => exact (Reps.none _ _)); intro v226 w5 ho6 hb hg_ hnew_; clear hg_ hnew_; (first | rw [← Ny225.out] at ho6 | (simp only [Int.reduceToNat] at ho6; rw [← Ny225.out] at ho6)); have n0_ := Aside0.mk (Kd.R_lower (Kd.R_newM (M := fun k_ => (w.heap.size ≤ k_)) ho6 (below_size (bel2 HB GE223 GE224)) (fun k_ h_ => h_)) (below_size (bel2 HB GE223 GE224))); have n1_ := Aside0.mk (blk_below (g := gb223) (o := .cells #[.int .i64 a0_0, .int .i64 a0_1, .slice A0_2 l0_2.length c0_2] 31 (0, 0)) (bkl BK223) hb); have n2_ := Aside0.mk (blk_below (g := gb224) (o := .cells #[.int .i64 a1_0, .slice A1_1 l1_1.length c1_1] 28 (0, 0)) (bkl BK224) hb); have n3_ := Aside0.mk (below_step (bel2 HB GE223 GE224) hb); clear BK223; clear BK224; clear HB; have HO227 := n0_; have BK223 := n1_; have BK224 := n2_; have HB := n3_; clear n0_ n1_ n2_ n3_; clear hb ho6)))
 go_loopg [5, 6] k (fun kq v5 v6 w' => ∃ (x5_1 : List Int) (x6_1 : Int), v6 = .int .i64 x6_1 ∧ Aside0 (spec_l10Shifted.l0 kq x5_1 x6_1 a0_0 a0_1 l0_2 a1_0 l1_1 = some r) ∧ Aside0 (kq ≤ k) ∧ Aside0 (Kd.V (Kd.int .i64) 3 w' w.heap.size (fun k_ => (w.heap.size ≤ k_) ∧ k_ ≠ gb223 ∧ k_ ≠ gb224) v5 x5_1) ∧ Aside0 (w'.heap[gb223]? = some (.cells #[.int .i64 a0_0, .int .i64 a0_1, (.slice A0_2 l0_2.length c0_2)] 31 (0, 0))) ∧ Aside0 (w'.heap[gb224]? = some (.cells #[.int .i64 a1_0, (.slice A1_1 l1_1.length c1_1)] 28 (0, 0))) ∧ Aside0 (Below w.heap.size w w'))
 case atStart => exact ⟨(y225), (0), (by first | rfl | (simp; done) | (simp [*]; done)), H', ⟨Nat.le_refl _⟩, ⟨Kd.R_V (by (with_reducible repeat (first | apply Kd.R_alloc | apply Kd.R_drewN | apply Kd.R_drew)); exact Kd.R_mono (Kd.R_types (Kd.R_types HO227.out BK223.out (by decide)) BK224.out (by decide)) (fun _ hk => ⟨hk.1.1.1, ⟨hk.1.2, hk.2⟩⟩))⟩, ⟨bkl BK223⟩, ⟨bkl BK224⟩, ⟨bel2 HB GE223 GE224⟩⟩
 case round =>
  clear H'
  try clear c1
  try clear p2
  try clear c3
  obtain ⟨x5_1, x6_1, rfl, HA, HK1, HO_5, BK223, BK224, HB⟩ := hrel
  cases gk with
  | zero => exact absurd HA.out (by simp [spec_l10Shifted.l0])
  | succ k1 =>
   have H := HA.out
   clear HA
   simp only [spec_l10Shifted.l0] at H
   by_cases c7 : x6_1 < (l1_1.length : Int)
   ·rw [if_pos c7] at H
    have c7b0 : decide (x6_1 < (l1_1.length : Int)) = true := decide_eq_true c7
    clear c7
    have H' := Aside0.mk H
    clear H
    have hnb8 := NB224_223.out
    have hnc8 := NB223_224.out
    have hcz9_0 : wr.cell? ⟨gb224, 0, none⟩ = some (.int .i64 a1_0) := (blk_cell BK224.out 0).trans rfl
    have hcz9_1 : wr.cell? ⟨gb224, 1, none⟩ = some (.slice A1_1 l1_1.length c1_1) := (blk_cell BK224.out 1).trans rfl
    have hfz9_0 := blk_frozen BK224.out 0
    have hfz9_1 := blk_frozen BK224.out 1
    go_wp2
    repeat (go_quiet (fail); try go_wp2)
    go_loopg [5, 7] k1 (fun kq v5 v7 w' => ∃ (x5_2 : List Int) (x7_2 : Int), v7 = .int .i64 x7_2 ∧ Aside0 (spec_l10Shifted.l1 kq x5_2 x6_1 x7_2 a0_0 a0_1 l0_2 a1_0 l1_1 = some r) ∧ Aside0 (kq ≤ k1) ∧ Aside0 (Kd.V (Kd.int .i64) 3 w' w.heap.size (fun k_ => (w.heap.size ≤ k_) ∧ k_ ≠ gb223 ∧ k_ ≠ gb224) v5 x5_2) ∧ Aside0 (w'.heap[gb223]? = some (.cells #[.int .i64 a0_0, .int .i64 a0_1, (.slice A0_2 l0_2.length c0_2)] 31 (0, 0))) ∧ Aside0 (w'.heap[gb224]? = some (.cells #[.int .i64 a1_0, (.slice A1_1 l1_1.length c1_1)] 28 (0, 0))) ∧ Aside0 (Below w.heap.size w w'))
    case atStart => exact ⟨(x5_1), (0), (by first | rfl | (simp; done) | (simp [*]; done)), H', ⟨Nat.le_refl _⟩, ⟨by (with_reducible repeat (first | apply Kd.V_alloc | apply Kd.V_drewN | apply Kd.V_drew)); exact HO_5.out⟩, ⟨bkl BK223⟩, ⟨bkl BK224⟩, ⟨bel2 HB GE223 GE224⟩⟩
    case round =>
     clear H'
     try clear c1
     try clear p2
     try clear c3
     try clear c7
     try clear c7b0
     try clear c8
     try clear hcz9_0
     try clear hcz9_1
     try clear hfz9_0
     try clear hfz9_1
     try clear p2
     obtain ⟨x5_2, x7_2, rfl, HA, HK2, HO_5, BK223, BK224, HB⟩ := hrel
     cases gk with
     | zero => exact absurd HA.out (by simp [spec_l10Shifted.l1])
     | succ k2 =>
      have H := HA.out
      clear HA
      simp only [spec_l10Shifted.l1] at H
      by_cases c10 : 0 ≤ x6_1
      ·rw [if_pos c10] at H
       have c10b0 : decide (0 ≤ x6_1) = true := decide_eq_true c10
       clear c10
       by_cases c11 : x6_1 < (l1_1.length : Int)
       ·rw [if_pos c11] at H
        have c11b0 : decide (x6_1 < (l1_1.length : Int)) = true := decide_eq_true c11
        clear c11
        by_cases c12 : x7_2 < ((rd_L1 l1_1 x6_1).length : Int)
        ·rw [if_pos c12] at H
         have c12b0 : decide (x7_2 < ((rd_L1 l1_1 x6_1).length : Int)) = true := decide_eq_true c12
         clear c12
         have H' := Aside0.mk H
         clear H
         have hnb13 := NB224_223.out
         have hnc13 := NB223_224.out
         have hcz14_0 : wr.cell? ⟨gb224, 0, none⟩ = some (.int .i64 a1_0) := (blk_cell BK224.out 0).trans rfl
         have hcz14_1 : wr.cell? ⟨gb224, 1, none⟩ = some (.slice A1_1 l1_1.length c1_1) := (blk_cell BK224.out 1).trans rfl
         have hfz14_0 := blk_frozen BK224.out 0
         have hfz14_1 := blk_frozen BK224.out 1
         have p228 : 0 ≤ (x6_1 : Int) := oda
         have q228 : x6_1 < (l1_1.length : Int) := oda
         obtain ⟨ad228, A228_0, c228_0, e228, hx228_0, hl228_0, hi228_0⟩ := at_L1 HR1_1.out x6_1 p228 q228
         cases e228
         replace hx228_0 := cel HB hx228_0
         have HR228_0 := Aside0.mk hi228_0
         have HC228_0 := Aside0.mk hl228_0
         clear hi228_0 hl228_0
         replace p228 := eq_true p228
         replace q228 := eq_true q228
         go_wp2
         repeat (go_quiet (fail); try go_wp2)
         go_loopg [5, 8] k2 (fun kq v5 v8 w' => ∃ (x5_3 : List Int) (x8_3 : Int), v8 = .int .i64 x8_3 ∧ Aside0 (spec_l10Shifted.l2 kq x5_3 x6_1 x7_2 x8_3 a0_0 a0_1 l0_2 a1_0 l1_1 = some r) ∧ Aside0 (kq ≤ k2) ∧ Aside0 (Kd.V (Kd.int .i64) 3 w' w.heap.size (fun k_ => (w.heap.size ≤ k_) ∧ k_ ≠ gb223 ∧ k_ ≠ gb224) v5 x5_3) ∧ Aside0 (w'.heap[gb223]? = some (.cells #[.int .i64 a0_0, .int .i64 a0_1, (.slice A0_2 l0_2.length c0_2)] 31 (0, 0))) ∧ Aside0 (w'.heap[gb224]? = some (.cells #[.int .i64 a1_0, (.slice (some ad228) l1_1.length c1_1)] 28 (0, 0))) ∧ Aside0 (Below w.heap.size w w'))
         case atStart => exact ⟨(x5_2), (0), (by first | rfl | (simp; done) | (simp [*]; done)), H', ⟨Nat.le_refl _⟩, ⟨by (with_reducible repeat (first | apply Kd.V_alloc | apply Kd.V_drewN | apply Kd.V_drew)); exact HO_5.out⟩, ⟨bkl BK223⟩, ⟨bkl BK224⟩, ⟨bel2 HB GE223 GE224⟩⟩
         case round =>
          clear H'
          try clear c1
          try clear c2
          try clear p2
          try clear q2
          try clear hx2
          try clear c3
          try clear c7
          try clear c7b0
          try clear c8
          try clear c10
          try clear c10b0
          try clear c11
          try clear c11b0
          try clear c12
          try clear c12b0
          try clear c13
          try clear hcz14_0
          try clear hcz14_1
          try clear hcz9_0
          try clear hcz9_1
          try clear hfz14_0
          try clear hfz14_1
          try clear hfz9_0
          try clear hfz9_1
          try clear hx228_0
          try clear p2
          try clear p228
          try clear q228
          obtain ⟨x5_3, x8_3, rfl, HA, HK3, HO_5, BK223, BK224, HB⟩ := hrel
          cases gk with
          | zero => exact absurd HA.out (by simp [spec_l10Shifted.l2])
          | succ k3 =>
           have H := HA.out
           clear HA
           simp only [spec_l10Shifted.l2] at H
           by_cases c15 : x8_3 < x7_2
           ·rw [if_pos c15] at H
            have c15b0 : decide (x8_3 < x7_2) = true := decide_eq_true c15
            clear c15
            by_cases c16 : 0 ≤ x6_1
            ·rw [if_pos c16] at H
             have c16b0 : decide (0 ≤ x6_1) = true := decide_eq_true c16
             clear c16
             by_cases c17 : x6_1 < (l1_1.length : Int)
             ·rw [if_pos c17] at H
              have c17b0 : decide (x6_1 < (l1_1.length : Int)) = true := decide_eq_true c17
              clear c17
              by_cases c18 : 0 ≤ x8_3
              ·rw [if_pos c18] at H
               have c18b0 : decide (0 ≤ x8_3) = true := decide_eq_true c18
               clear c18
               by_cases c19 : x8_3 < ((rd_L1 l1_1 x6_1).length : Int)
               ·rw [if_pos c19] at H
                have c19b0 : decide (x8_3 < ((rd_L1 l1_1 x6_1).length : Int)) = true := decide_eq_true c19
                clear c19
                obtain ⟨ji20, hji20⟩ : ∃ j_ : Int, (wrap64 ((rd (rd_L1 l1_1 x6_1) x8_3) - 1)) = j_ := ⟨_, rfl⟩
                replace H : (if 0 ≤ (ji20) then (if (ji20) < (l0_2.length : Int) then (if 0 ≤ x7_2 then (if x7_2 < ((rd_L1 l1_1 x6_1).length : Int) then (if 0 ≤ (wrap64 ((rd (rd_L1 l1_1 x6_1) x7_2) - 1)) then (if (wrap64 ((rd (rd_L1 l1_1 x6_1) x7_2) - 1)) < (l0_2.length : Int) then (if (rd l0_2 (ji20)) < (rd l0_2 (wrap64 ((rd (rd_L1 l1_1 x6_1) x7_2) - 1))) then ((spec_l1Put.f k3 x5_3 (rd (rd_L1 l1_1 x6_1) x7_2)).bind fun t237 => (spec_l10Shifted.l2 k3 t237 x6_1 x7_2 (wrap64 (x8_3 + 1)) a0_0 a0_1 l0_2 a1_0 l1_1)) else (spec_l10Shifted.l2 k3 x5_3 x6_1 x7_2 (wrap64 (x8_3 + 1)) a0_0 a0_1 l0_2 a1_0 l1_1)) else (none)) else (none)) else (none)) else (none)) else (none)) else (none)) = some r := by first | (rw [hji20] at H; exact H) | (simp only [hji20] at H ⊢; exact H)
                have hji20w : (IntKind.i64.wrap ((rd (rd_L1 l1_1 x6_1) x8_3) - 1)) = ji20 := (i64_w _).trans hji20
                by_cases c21 : 0 ≤ (ji20)
                ·rw [if_pos c21] at H
                 have c21b0 : decide (0 ≤ (ji20)) = true := decide_eq_true c21
                 clear c21
                 by_cases c22 : (ji20) < (l0_2.length : Int)
                 ·rw [if_pos c22] at H
                  have c22b0 : decide ((ji20) < (l0_2.length : Int)) = true := decide_eq_true c22
                  clear c22
                  by_cases c23 : 0 ≤ x7_2
                  ·rw [if_pos c23] at H
                   have c23b0 : decide (0 ≤ x7_2) = true := decide_eq_true c23
                   clear c23
                   by_cases c24 : x7_2 < ((rd_L1 l1_1 x6_1).length : Int)
                   ·rw [if_pos c24] at H
                    have c24b0 : decide (x7_2 < ((rd_L1 l1_1 x6_1).length : Int)) = true := decide_eq_true c24
                    clear c24
                    obtain ⟨ji25, hji25⟩ : ∃ j_ : Int, (wrap64 ((rd (rd_L1 l1_1 x6_1) x7_2) - 1)) = j_ := ⟨_, rfl⟩
                    replace H : (if 0 ≤ (ji25) then (if (ji25) < (l0_2.length : Int) then (if (rd l0_2 (ji20)) < (rd l0_2 (ji25)) then ((spec_l1Put.f k3 x5_3 (rd (rd_L1 l1_1 x6_1) x7_2)).bind fun t237 => (spec_l10Shifted.l2 k3 t237 x6_1 x7_2 (wrap64 (x8_3 + 1)) a0_0 a0_1 l0_2 a1_0 l1_1)) else (spec_l10Shifted.l2 k3 x5_3 x6_1 x7_2 (wrap64 (x8_3 + 1)) a0_0 a0_1 l0_2 a1_0 l1_1)) else (none)) else (none)) = some r := by first | (rw [hji25] at H; exact H) | (simp only [hji25] at H ⊢; exact H)
                    have hji25w : (IntKind.i64.wrap ((rd (rd_L1 l1_1 x6_1) x7_2) - 1)) = ji25 := (i64_w _).trans hji25
                    by_cases c26 : 0 ≤ (ji25)
                    ·rw [if_pos c26] at H
                     have c26b0 : decide (0 ≤ (ji25)) = true := decide_eq_true c26
                     clear c26
                     by_cases c27 : (ji25) < (l0_2.length : Int)
                     ·rw [if_pos c27] at H
                      have c27b0 : decide ((ji25) < (l0_2.length : Int)) = true := decide_eq_true c27
                      clear c27
                      by_cases c28 : (rd l0_2 (ji20)) < (rd l0_2 (ji25))
                      ·rw [if_pos c28] at H
                       have c28b0 : decide ((rd l0_2 (ji20)) < (rd l0_2 (ji25))) = true := decide_eq_true c28
                       clear c28
                       replace H := Option.bind_eq_some_iff.mp H
                       obtain ⟨t237, A290, H⟩ := H
                       replace H : (spec_l10Shifted.l2 k3 t237 x6_1 x7_2 (wrap64 (x8_3 + 1)) a0_0 a0_1 l0_2 a1_0 l1_1) = some r := H
                       have A29 := Aside0.mk A290
                       clear A290
                       have H' := Aside0.mk H
                       clear H
                       have hnb30 := NB223_224.out
                       have hnc30 := NB224_223.out
                       have hcz31_0 : wr.cell? ⟨gb223, 0, none⟩ = some (.int .i64 a0_0) := (blk_cell BK223.out 0).trans rfl
                       have hcz31_1 : wr.cell? ⟨gb223, 1, none⟩ = some (.int .i64 a0_1) := (blk_cell BK223.out 1).trans rfl
                       have hcz31_2 : wr.cell? ⟨gb223, 2, none⟩ = some (.slice A0_2 l0_2.length c0_2) := (blk_cell BK223.out 2).trans rfl
                       have hfz31_0 := blk_frozen BK223.out 0
                       have hfz31_1 := blk_frozen BK223.out 1
                       have hfz31_2 := blk_frozen BK223.out 2
                       have hcz32_0 : wr.cell? ⟨gb224, 0, none⟩ = some (.int .i64 a1_0) := (blk_cell BK224.out 0).trans rfl
                       have hcz32_1 : wr.cell? ⟨gb224, 1, none⟩ = some (.slice (some ad228) l1_1.length c1_1) := (blk_cell BK224.out 1).trans rfl
                       have hfz32_0 := blk_frozen BK224.out 0
                       have hfz32_1 := blk_frozen BK224.out 1
                       have p229 : 0 ≤ (x6_1 : Int) := oda
                       have q229 : x6_1 < (l1_1.length : Int) := oda
                       obtain ⟨ad229, A229_0, c229_0, e229, hx229_0, hl229_0, hi229_0⟩ := at_L1 HR1_1.out x6_1 p229 q229
                       obtain rfl : ad228 = ad229 := (by injection e229)
                       replace hx229_0 := cel HB hx229_0
                       have HR229_0 := Aside0.mk hi229_0
                       have HC229_0 := Aside0.mk hl229_0
                       clear hi229_0 hl229_0
                       replace p229 := eq_true p229
                       replace q229 := eq_true q229
                       have p230 : 0 ≤ (x8_3 : Int) := oda
                       have q230 : x8_3 < ((rd_L1 l1_1 x6_1).length : Int) := oda
                       obtain ⟨ad230, e230, hx230_0⟩ := Kd.at_int HR229_0.out x8_3 p230 q230
                       cases e230
                       replace hx230_0 := cel HB hx230_0
                       replace p230 := eq_true p230
                       replace q230 := eq_true q230
                       have p231 : 0 ≤ ((ji20) : Int) := oda
                       have q231 : (ji20) < (l0_2.length : Int) := oda
                       obtain ⟨ad231, e231, hx231_0⟩ := Kd.at_int HR0_2.out (ji20) p231 q231
                       cases e231
                       replace hx231_0 := cel HB hx231_0
                       replace p231 := eq_true p231
                       replace q231 := eq_true q231
                       have p232 : 0 ≤ (x6_1 : Int) := oda
                       have q232 : x6_1 < (l1_1.length : Int) := oda
                       obtain ⟨ad232, A232_0, c232_0, e232, hx232_0, hl232_0, hi232_0⟩ := at_L1 HR1_1.out x6_1 p232 q232
                       obtain rfl : ad228 = ad232 := (by injection e232)
                       replace hx232_0 := cel HB hx232_0
                       have HR232_0 := Aside0.mk hi232_0
                       have HC232_0 := Aside0.mk hl232_0
                       clear hi232_0 hl232_0
                       replace p232 := eq_true p232
                       replace q232 := eq_true q232
                       have ea_ := Option.some.inj (hx229_0.symm.trans hx232_0)
                       injection ea_ with ea_ en_ ec_
                       subst ea_
                       subst ec_
                       clear en_
                       have p233 : 0 ≤ (x7_2 : Int) := oda
                       have q233 : x7_2 < ((rd_L1 l1_1 x6_1).length : Int) := oda
                       obtain ⟨ad233, e233, hx233_0⟩ := Kd.at_int HR232_0.out x7_2 p233 q233
                       cases e233
                       replace hx233_0 := cel HB hx233_0
                       replace p233 := eq_true p233
                       replace q233 := eq_true q233
                       have p234 : 0 ≤ ((ji25) : Int) := oda
                       have q234 : (ji25) < (l0_2.length : Int) := oda
                       obtain ⟨ad234, e234, hx234_0⟩ := Kd.at_int HR0_2.out (ji25) p234 q234
                       obtain rfl : ad231 = ad234 := (by injection e234)
                       replace hx234_0 := cel HB hx234_0
                       replace p234 := eq_true p234
                       replace q234 := eq_true q234
                       have p235 : 0 ≤ (x6_1 : Int) := oda
                       have q235 : x6_1 < (l1_1.length : Int) := oda
                       obtain ⟨ad235, A235_0, c235_0, e235, hx235_0, hl235_0, hi235_0⟩ := at_L1 HR1_1.out x6_1 p235 q235
                       obtain rfl : ad228 = ad235 := (by injection e235)
                       replace hx235_0 := cel HB hx235_0
                       have HR235_0 := Aside0.mk hi235_0
                       have HC235_0 := Aside0.mk hl235_0
                       clear hi235_0 hl235_0
                       replace p235 := eq_true p235
                       replace q235 := eq_true q235
                       have ea_ := Option.some.inj (hx229_0.symm.trans hx235_0)
                       injection ea_ with ea_ en_ ec_
                       subst ea_
                       subst ec_
                       clear en_
                       have p236 : 0 ≤ (x7_2 : Int) := oda
                       have q236 : x7_2 < ((rd_L1 l1_1 x6_1).length : Int) := oda
                       obtain ⟨ad236, e236, hx236_0⟩ := Kd.at_int HR235_0.out x7_2 p236 q236
                       cases e236
                       replace hx236_0 := cel HB hx236_0
                       replace p236 := eq_true p236
                       replace q236 := eq_true q236
                       obtain ⟨Ao33, co33, eo33⟩ := Kd.V_slice HO_5.out
                       subst eo33
                       go_wp2_with (first | (go_at_call 42; (with_reducible refine (spec_l1Put.calls k3 (fun k_ => ((w.heap.size ≤ k_) ∧ (k_ ≠ gb223 ∧ k_ ≠ gb224))) _ _ x5_3 (rd (rd_L1 l1_1 x6_1) x7_2) t237 _ ?side1 A29.out).mono ?_); (case side1 => exact HO_5.out); rintro e w34 ⟨v238, rfl, ho0, hb⟩; have n0_ := Aside0.mk (Kd.V_below (by (with_reducible repeat (first | apply Kd.V_alloc | apply Kd.V_drewN | apply Kd.V_drew)); exact HO_5.out) hb); have n1_ := Aside0.mk (Kd.V_lower (Kd.V_mono (ok' := fun k_ => (w.heap.size ≤ k_) ∧ k_ ≠ gb223 ∧ k_ ≠ gb224) ho0 (fun k_ hk_ => ⟨Or.elim hk_ (fun hs_ => hs_.1) (fun hn_ => (Nat.le_trans (below_size (bel2 HB GE223 GE224)) hn_)), Or.elim hk_ (fun hs_ => hs_.2.1) (fun hn_ => (Kd.freshB (g := gb223) (o := .cells #[.int .i64 a0_0, .int .i64 a0_1, .slice (some ad231) l0_2.length c0_2] 31 (0, 0)) (bkl BK223) k_ hn_)), Or.elim hk_ (fun hs_ => hs_.2.2) (fun hn_ => (Kd.freshB (g := gb224) (o := .cells #[.int .i64 a1_0, .slice (some ad228) l1_1.length c1_1] 28 (0, 0)) (bkl BK224) k_ hn_))⟩)) (below_size (bel2 HB GE223 GE224))); have n2_ := Aside0.mk (blk_below (g := gb223) (o := .cells #[.int .i64 a0_0, .int .i64 a0_1, .slice (some ad231) l0_2.length c0_2] 31 (0, 0)) (bkl BK223) hb); have n3_ := Aside0.mk (blk_below (g := gb224) (o := .cells #[.int .i64 a1_0, .slice (some ad228) l1_1.length c1_1] 28 (0, 0)) (bkl BK224) hb); have n4_ := Aside0.mk (below_step (bel2 HB GE223 GE224) hb); clear HO_5; clear BK223; clear BK224; clear HB; have HO_5 := n0_; have HO239 := n1_; have BK223 := n2_; have BK224 := n3_; have HB := n4_; clear n0_ n1_ n2_ n3_ n4_; (try clear hb); (try clear hb2); (try clear hk); (try clear hi); (try clear ho0)))
                       repeat (go_quiet (first | (go_at_call 42; (with_reducible refine (spec_l1Put.calls k3 (fun k_ => ((w.heap.size ≤ k_) ∧ (k_ ≠ gb223 ∧ k_ ≠ gb224))) _ _ x5_3 (rd (rd_L1 l1_1 x6_1) x7_2) t237 _ ?side1 A29.out).mono ?_); (case side1 => exact HO_5.out); rintro e w34 ⟨v238, rfl, ho0, hb⟩; have n0_ := Aside0.mk (Kd.V_below (by (with_reducible repeat (first | apply Kd.V_alloc | apply Kd.V_drewN | apply Kd.V_drew)); exact HO_5.out) hb); have n1_ := Aside0.mk (Kd.V_lower (Kd.V_mono (ok' := fun k_ => (w.heap.size ≤ k_) ∧ k_ ≠ gb223 ∧ k_ ≠ gb224) ho0 (fun k_ hk_ => ⟨Or.elim hk_ (fun hs_ => hs_.1) (fun hn_ => (Nat.le_trans (below_size (bel2 HB GE223 GE224)) hn_)), Or.elim hk_ (fun hs_ => hs_.2.1) (fun hn_ => (Kd.freshB (g := gb223) (o := .cells #[.int .i64 a0_0, .int .i64 a0_1, .slice (some ad231) l0_2.length c0_2] 31 (0, 0)) (bkl BK223) k_ hn_)), Or.elim hk_ (fun hs_ => hs_.2.2) (fun hn_ => (Kd.freshB (g := gb224) (o := .cells #[.int .i64 a1_0, .slice (some ad228) l1_1.length c1_1] 28 (0, 0)) (bkl BK224) k_ hn_))⟩)) (below_size (bel2 HB GE223 GE224))); have n2_ := Aside0.mk (blk_below (g := gb223) (o := .cells #[.int .i64 a0_0, .int .i64 a0_1, .slice (some ad231) l0_2.length c0_2] 31 (0, 0)) (bkl BK223) hb); have n3_ := Aside0.mk (blk_below (g := gb224) (o := .cells #[.int .i64 a1_0, .slice (some ad228) l1_1.length c1_1] 28 (0, 0)) (bkl BK224) hb); have n4_ := Aside0.mk (below_step (bel2 HB GE223 GE224) hb); clear HO_5; clear BK223; clear BK224; clear HB; have HO_5 := n0_; have HO239 := n1_; have BK223 := n2_; have BK224 := n3_; have HB := n4_; clear n0_ n1_ n2_ n3_ n4_; (try clear hb); (try clear hb2); (try clear hk); (try clear hi); (try clear ho0))); try go_wp2_with (first | (go_at_call 42; (with_reducible refine (spec_l1Put.calls k3 (fun k_ => ((w.heap.size ≤ k_) ∧ (k_ ≠ gb223 ∧ k_ ≠ gb224))) _ _ x5_3 (rd (rd_L1 l1_1 x6_1) x7_2) t237 _ ?side1 A29.out).mono ?_); (case side1 => exact HO_5.out); rintro e w34 ⟨v238, rfl, ho0, hb⟩; have n0_ := Aside0.mk (Kd.V_below (by (with_reducible repeat (first | apply Kd.V_alloc | apply Kd.V_drewN | apply Kd.V_drew)); exact HO_5.out) hb); have n1_ := Aside0.mk (Kd.V_lower (Kd.V_mono (ok' := fun k_ => (w.heap.size ≤ k_) ∧ k_ ≠ gb223 ∧ k_ ≠ gb224) ho0 (fun k_ hk_ => ⟨Or.elim hk_ (fun hs_ => hs_.1) (fun hn_ => (Nat.le_trans (below_size (bel2 HB GE223 GE224)) hn_)), Or.elim hk_ (fun hs_ => hs_.2.1) (fun hn_ => (Kd.freshB (g := gb223) (o := .cells #[.int .i64 a0_0, .int .i64 a0_1, .slice (some ad231) l0_2.length c0_2] 31 (0, 0)) (bkl BK223) k_ hn_)), Or.elim hk_ (fun hs_ => hs_.2.2) (fun hn_ => (Kd.freshB (g := gb224) (o := .cells #[.int .i64 a1_0, .slice (some ad228) l1_1.length c1_1] 28 (0, 0)) (bkl BK224) k_ hn_))⟩)) (below_size (bel2 HB GE223 GE224))); have n2_ := Aside0.mk (blk_below (g := gb223) (o := .cells #[.int .i64 a0_0, .int .i64 a0_1, .slice (some ad231) l0_2.length c0_2] 31 (0, 0)) (bkl BK223) hb); have n3_ := Aside0.mk (blk_below (g := gb224) (o := .cells #[.int .i64 a1_0, .slice (some ad228) l1_1.length c1_1] 28 (0, 0)) (bkl BK224) hb); have n4_ := Aside0.mk (below_step (bel2 HB GE223 GE224) hb); clear HO_5; clear BK223; clear BK224; clear HB; have HO_5 := n0_; have HO239 := n1_; have BK223 := n2_; have BK224 := n3_; have HB := n4_; clear n0_ n1_ n2_ n3_ n4_; (try clear hb); (try clear hb2); (try clear hk); (try clear hi); (try clear ho0))))
                       go_roundg k3
                       case measure => have := HK1.out; have := HK2.out; have := HK3.out; omega
                       case rel => exact ⟨(t237), (wrap64 (x8_3 + 1)), (by first | rfl | (simp; done) | (simp [*]; done)), H', ⟨by have := HK1.out; have := HK2.out; have := HK3.out; omega⟩, ⟨by (with_reducible repeat (first | apply Kd.V_alloc | apply Kd.V_drewN | apply Kd.V_drew)); exact HO239.out⟩, ⟨bkl BK223⟩, ⟨bkl BK224⟩, ⟨bel2 HB GE223 GE224⟩⟩
                      ·rw [if_neg c28] at H
                       have c28b0 : decide ((rd l0_2 (ji20)) < (rd l0_2 (ji25))) = false := decide_eq_false c28
                       clear c28
                       have H' := Aside0.mk H
                       clear H
                       have hnb35 := NB223_224.out
                       have hnc35 := NB224_223.out
                       have hcz36_0 : wr.cell? ⟨gb223, 0, none⟩ = some (.int .i64 a0_0) := (blk_cell BK223.out 0).trans rfl
                       have hcz36_1 : wr.cell? ⟨gb223, 1, none⟩ = some (.int .i64 a0_1) := (blk_cell BK223.out 1).trans rfl
                       have hcz36_2 : wr.cell? ⟨gb223, 2, none⟩ = some (.slice A0_2 l0_2.length c0_2) := (blk_cell BK223.out 2).trans rfl
                       have hfz36_0 := blk_frozen BK223.out 0
                       have hfz36_1 := blk_frozen BK223.out 1
                       have hfz36_2 := blk_frozen BK223.out 2
                       have hcz37_0 : wr.cell? ⟨gb224, 0, none⟩ = some (.int .i64 a1_0) := (blk_cell BK224.out 0).trans rfl
                       have hcz37_1 : wr.cell? ⟨gb224, 1, none⟩ = some (.slice (some ad228) l1_1.length c1_1) := (blk_cell BK224.out 1).trans rfl
                       have hfz37_0 := blk_frozen BK224.out 0
                       have hfz37_1 := blk_frozen BK224.out 1
                       have p229 : 0 ≤ (x6_1 : Int) := oda
                       have q229 : x6_1 < (l1_1.length : Int) := oda
                       obtain ⟨ad229, A229_0, c229_0, e229, hx229_0, hl229_0, hi229_0⟩ := at_L1 HR1_1.out x6_1 p229 q229
                       obtain rfl : ad228 = ad229 := (by injection e229)
                       replace hx229_0 := cel HB hx229_0
                       have HR229_0 := Aside0.mk hi229_0
                       have HC229_0 := Aside0.mk hl229_0
                       clear hi229_0 hl229_0
                       replace p229 := eq_true p229
                       replace q229 := eq_true q229
                       have p230 : 0 ≤ (x8_3 : Int) := oda
                       have q230 : x8_3 < ((rd_L1 l1_1 x6_1).length : Int) := oda
                       obtain ⟨ad230, e230, hx230_0⟩ := Kd.at_int HR229_0.out x8_3 p230 q230
                       cases e230
                       replace hx230_0 := cel HB hx230_0
                       replace p230 := eq_true p230
                       replace q230 := eq_true q230
                       have p231 : 0 ≤ ((ji20) : Int) := oda
                       have q231 : (ji20) < (l0_2.length : Int) := oda
                       obtain ⟨ad231, e231, hx231_0⟩ := Kd.at_int HR0_2.out (ji20) p231 q231
                       cases e231
                       replace hx231_0 := cel HB hx231_0
                       replace p231 := eq_true p231
                       replace q231 := eq_true q231
                       have p232 : 0 ≤ (x6_1 : Int) := oda
                       have q232 : x6_1 < (l1_1.length : Int) := oda
                       obtain ⟨ad232, A232_0, c232_0, e232, hx232_0, hl232_0, hi232_0⟩ := at_L1 HR1_1.out x6_1 p232 q232
                       obtain rfl : ad228 = ad232 := (by injection e232)
                       replace hx232_0 := cel HB hx232_0
                       have HR232_0 := Aside0.mk hi232_0
                       have HC232_0 := Aside0.mk hl232_0
                       clear hi232_0 hl232_0
                       replace p232 := eq_true p232
                       replace q232 := eq_true q232
                       have ea_ := Option.some.inj (hx229_0.symm.trans hx232_0)
                       injection ea_ with ea_ en_ ec_
                       subst ea_
                       subst ec_
                       clear en_
                       have p233 : 0 ≤ (x7_2 : Int) := oda
                       have q233 : x7_2 < ((rd_L1 l1_1 x6_1).length : Int) := oda
                       obtain ⟨ad233, e233, hx233_0⟩ := Kd.at_int HR232_0.out x7_2 p233 q233
                       cases e233
                       replace hx233_0 := cel HB hx233_0
                       replace p233 := eq_true p233
                       replace q233 := eq_true q233
                       have p234 : 0 ≤ ((ji25) : Int) := oda
                       have q234 : (ji25) < (l0_2.length : Int) := oda
                       obtain ⟨ad234, e234, hx234_0⟩ := Kd.at_int HR0_2.out (ji25) p234 q234
                       obtain rfl : ad231 = ad234 := (by injection e234)
                       replace hx234_0 := cel HB hx234_0
                       replace p234 := eq_true p234
                       replace q234 := eq_true q234
                       go_wp2
                       repeat (go_quiet (fail); try go_wp2)
                       go_roundg k3
                       case measure => have := HK1.out; have := HK2.out; have := HK3.out; omega
                       case rel => exact ⟨(x5_3), (wrap64 (x8_3 + 1)), (by first | rfl | (simp; done) | (simp [*]; done)), H', ⟨by have := HK1.out; have := HK2.out; have := HK3.out; omega⟩, ⟨by (with_reducible repeat (first | apply Kd.V_alloc | apply Kd.V_drewN | apply Kd.V_drew)); exact HO_5.out⟩, ⟨bkl BK223⟩, ⟨bkl BK224⟩, ⟨bel2 HB GE223 GE224⟩⟩
                     ·rw [if_neg c27] at H
                      exact absurd H (by simp)
                    ·rw [if_neg c26] at H
                     exact absurd H (by simp)
                   ·rw [if_neg c24] at H
                    exact absurd H (by simp)
                  ·rw [if_neg c23] at H
                   exact absurd H (by simp)
                 ·rw [if_neg c22] at H
                  exact absurd H (by simp)
                ·rw [if_neg c21] at H
                 exact absurd H (by simp)
               ·rw [if_neg c19] at H
                exact absurd H (by simp)
              ·rw [if_neg c18] at H
               exact absurd H (by simp)
             ·rw [if_neg c17] at H
              exact absurd H (by simp)
            ·rw [if_neg c16] at H
             exact absurd H (by simp)
           ·rw [if_neg c15] at H
            have c15b0 : decide (x8_3 < x7_2) = false := decide_eq_false c15
            clear c15
            have H' := Aside0.mk H
            clear H
            go_wp2
            repeat (go_quiet (fail); try go_wp2)
            go_roundg k3
            case measure => have := HK1.out; have := HK2.out; have := HK3.out; omega
            case rel => exact ⟨(x5_3), (wrap64 (x7_2 + 1)), (by first | rfl | (simp; done) | (simp [*]; done)), H', ⟨by have := HK1.out; have := HK2.out; have := HK3.out; omega⟩, ⟨by (with_reducible repeat (first | apply Kd.V_alloc | apply Kd.V_drewN | apply Kd.V_drew)); exact HO_5.out⟩, ⟨bkl BK223⟩, ⟨bkl BK224⟩, ⟨bel2 HB GE223 GE224⟩⟩
        ·rw [if_neg c12] at H
         have c12b0 : decide (x7_2 < ((rd_L1 l1_1 x6_1).length : Int)) = false := decide_eq_false c12
         clear c12
         have H' := Aside0.mk H
         clear H
         have hnb38 := NB224_223.out
         have hnc38 := NB223_224.out
         have hcz39_0 : wr.cell? ⟨gb224, 0, none⟩ = some (.int .i64 a1_0) := (blk_cell BK224.out 0).trans rfl
         have hcz39_1 : wr.cell? ⟨gb224, 1, none⟩ = some (.slice A1_1 l1_1.length c1_1) := (blk_cell BK224.out 1).trans rfl
         have hfz39_0 := blk_frozen BK224.out 0
         have hfz39_1 := blk_frozen BK224.out 1
         have p228 : 0 ≤ (x6_1 : Int) := oda
         have q228 : x6_1 < (l1_1.length : Int) := oda
         obtain ⟨ad228, A228_0, c228_0, e228, hx228_0, hl228_0, hi228_0⟩ := at_L1 HR1_1.out x6_1 p228 q228
         cases e228
         replace hx228_0 := cel HB hx228_0
         have HR228_0 := Aside0.mk hi228_0
         have HC228_0 := Aside0.mk hl228_0
         clear hi228_0 hl228_0
         replace p228 := eq_true p228
         replace q228 := eq_true q228
         go_wp2
         repeat (go_quiet (fail); try go_wp2)
         go_roundg k2
         case measure => have := HK1.out; have := HK2.out; omega
         case rel => exact ⟨(x5_2), (wrap64 (x6_1 + 1)), (by first | rfl | (simp; done) | (simp [*]; done)), H', ⟨by have := HK1.out; have := HK2.out; omega⟩, ⟨by (with_reducible repeat (first | apply Kd.V_alloc | apply Kd.V_drewN | apply Kd.V_drew)); exact HO_5.out⟩, ⟨bkl BK223⟩, ⟨bkl BK224⟩, ⟨bel2 HB GE223 GE224⟩⟩
       ·rw [if_neg c11] at H
        exact absurd H (by simp)
      ·rw [if_neg c10] at H
       exact absurd H (by simp)
   ·rw [if_neg c7] at H
    have c7b0 : decide (x6_1 < (l1_1.length : Int)) = false := decide_eq_false c7
    clear c7
    obtain rfl := Option.some.inj H
    have hnb40 := NB224_223.out
    have hnc40 := NB223_224.out
    have hcz41_0 : wr.cell? ⟨gb224, 0, none⟩ = some (.int .i64 a1_0) := (blk_cell BK224.out 0).trans rfl
    have hcz41_1 : wr.cell? ⟨gb224, 1, none⟩ = some (.slice A1_1 l1_1.length c1_1) := (blk_cell BK224.out 1).trans rfl
    have hfz41_0 := blk_frozen BK224.out 0
    have hfz41_1 := blk_frozen BK224.out 1
    go_wp2
    repeat (go_quiet (fail); try go_wp2)
    go_ret
    exact ⟨_, by first | rfl | (simp [errW_none, errW_some] <;> rfl) | (simp [*, errW_none, errW_some] <;> rfl), by (with_reducible repeat (first | apply Kd.V_alloc | apply Kd.V_drewN | apply Kd.V_drew)); exact Kd.V_mono HO_5.out (fun _ hk => hk.1), bel2 HB GE223 GE224⟩

/-! ### spec_ShiftedBoxes: function 21 -/
def spec_ShiftedBoxes.f (k : Nat) (a0_0 : Int) (a0_1 : Int) (l0_2 : List Int) (l1 : List Int) : Option (List Int × Bool) := (spec_l10Asked.f k a0_0 a0_1 l0_2 l1).bind fun t241 => (if t241 = true then ((spec_l10Bay.f k a0_0 a0_1 l0_2 l1).bind fun bt242 => ((spec_l10Shifted.f k a0_0 a0_1 l0_2 bt242.1 bt242.2).bind fun t246 => (some (t246, true)))) else (some ((([] : List Int)), false)))
theorem spec_ShiftedBoxes.mono : ∀ a0 a1 a2 a3 k, LeO (spec_ShiftedBoxes.f k a0 a1 a2 a3) (spec_ShiftedBoxes.f (k + 1) a0 a1 a2 a3) := by
 intro a0 a1 a2 a3 k
 unfold spec_ShiftedBoxes.f
 repeat' first
   | (with_reducible exact spec_l10Asked.mono _ _ _ _ _)
   | (with_reducible exact spec_l10Bay.mono _ _ _ _ _)
   | (with_reducible exact spec_l10Shifted.mono _ _ _ _ _ _)
   | (with_reducible exact LeO.refl _)
   | (with_reducible exact LeO.none _)
   | (with_reducible refine LeO.ite ?_ ?_)
   | (with_reducible refine LeO.bind ?_ (fun _ => ?_))
   | exact spec_l10Asked.mono _ _ _ _ _
   | exact spec_l10Bay.mono _ _ _ _ _
   | exact spec_l10Shifted.mono _ _ _ _ _ _
   | exact LeO.none _
   | refine LeO.ite ?_ ?_
   | refine LeO.bind ?_ (fun _ => ?_)
set_option maxHeartbeats 8000000 in
set_option maxRecDepth 100000 in
theorem spec_ShiftedBoxes.calls (k : Nat) (a0_0 : Int) (a0_1 : Int) (A0_2 : Option Addr) (c0_2 : Nat) (l0_2 : List Int) (A1 : Option Addr) (c1 : Nat) (l1 : List Int) (r1 : List Int) (r2 : Bool) (w : World) (hr0_2 : Kd.C (Kd.int .i64) w A0_2 l0_2.length l0_2) (hc0_2 : l0_2.length ≤ c0_2) (hr1 : Kd.C (Kd.int .i64) w A1 l1.length l1) (hc1 : l1.length ≤ c1) (h : spec_ShiftedBoxes.f k a0_0 a0_1 l0_2 l1 = some (r1, r2)) :
  Calls Try.prog 21 #[.agg #[.int .i64 a0_0, .int .i64 a0_1, .slice A0_2 l0_2.length c0_2], .slice A1 l1.length c1] w fun e w' => ∃ v0_ : Value, e = .returned (.tuple #[v0_, .bool r2]) ∧ Kd.V (Kd.int .i64) 3 w' w.heap.size (fun k_ => (w.heap.size ≤ k_)) v0_ r1 ∧ Below w.heap.size w w' := by
 have hu31 := Try.underlying31
 have HR0_2 := Aside0.mk hr0_2
 have HC0_2 := Aside0.mk hc0_2
 clear hr0_2 hc0_2
 have HR1 := Aside0.mk hr1
 have HC1 := Aside0.mk hc1
 clear hr1 hc1
 have HB := Aside0.mk (Below.refl w.heap.size w)
 have H : ((spec_l10Asked.f k a0_0 a0_1 l0_2 l1).bind fun t241 => (if t241 = true then ((spec_l10Bay.f k a0_0 a0_1 l0_2 l1).bind fun bt242 => ((spec_l10Shifted.f k a0_0 a0_1 l0_2 bt242.1 bt242.2).bind fun t246 => (some (t246, true)))) else (some ((([] : List Int)), false)))) = some (r1, r2) := h
 clear h
 replace H := Option.bind_eq_some_iff.mp H
 obtain ⟨t241, A30, H⟩ := H
 replace H : (if t241 = true then ((spec_l10Bay.f k a0_0 a0_1 l0_2 l1).bind fun bt242 => ((spec_l10Shifted.f k a0_0 a0_1 l0_2 bt242.1 bt242.2).bind fun t246 => (some (t246, true)))) else (some ((([] : List Int)), false))) = some (r1, r2) := H
 have A3 := Aside0.mk A30
 clear A30
 by_cases c4 : t241 = true
 ·subst c4
  have H1 : ((spec_l10Bay.f k a0_0 a0_1 l0_2 l1).bind fun bt242 => ((spec_l10Shifted.f k a0_0 a0_1 l0_2 bt242.1 bt242.2).bind fun t246 => (some (t246, true)))) = some (r1, r2) := by rw [if_pos rfl] at H; exact H
  clear H
  have H := H1
  clear H1
  replace H := Option.bind_eq_some_iff.mp H
  obtain ⟨⟨t242, t243⟩, A50, H⟩ := H
  replace H : ((spec_l10Shifted.f k a0_0 a0_1 l0_2 t242 t243).bind fun t246 => (some (t246, true))) = some (r1, r2) := H
  have A5 := Aside0.mk A50
  clear A50
  replace H := Option.bind_eq_some_iff.mp H
  obtain ⟨t246, A60, H⟩ := H
  replace H : (some (t246, true)) = some (r1, r2) := H
  have A6 := Aside0.mk A60
  clear A60
  simp only [Option.some.injEq, Prod.mk.injEq] at H
  obtain ⟨rfl, rfl⟩ := H
  go_enter Try.func21, Try.ntmps21
  try go_wp2_with (first | ((with_reducible refine gate_dst (N := 2) rfl ?_); refine box_event ?hg (N := 2) ?hd (cs := #[.int .i64 a0_0, .int .i64 a0_1, .slice A0_2 l0_2.length c0_2]) (t := 31) ?hr ?_; (case hd => rfl); (case hg => rfl); (case hr => first | (go_simp; done) | (go_simp; rfl)); intro gb240 hg w7 hbox hb; have n0_ := Aside0.mk (below_step (bel HB) hb); have n1_ := Aside0.mk (hbox); have n2_ := Aside0.mk ((by rw [hg]; exact (below_size (bel HB)) : w.heap.size ≤ gb240)); have n3_ := Aside0.mk ((by rw [hg]; exact (below_size (bel HB)) : w.heap.size ≤ gb240)); clear HB; have HB := n0_; have BK240 := n1_; have GW240 := n2_; have GE240 := n3_; clear n0_ n1_ n2_ n3_; clear hb hbox hg; have hcz8_0 : w7.cell? ⟨gb240, 0, none⟩ = some (.int .i64 a0_0) := (blk_cell BK240.out 0).trans rfl; have hcz8_1 : w7.cell? ⟨gb240, 1, none⟩ = some (.int .i64 a0_1) := (blk_cell BK240.out 1).trans rfl; have hcz8_2 : w7.cell? ⟨gb240, 2, none⟩ = some (.slice A0_2 l0_2.length c0_2) := (blk_cell BK240.out 2).trans rfl; have hfz8_0 := blk_frozen BK240.out 0; have hfz8_1 := blk_frozen BK240.out 1; have hfz8_2 := blk_frozen BK240.out 2) | ((with_reducible refine gate_callee (f := 36) rfl ?_); refine goesL_ (some 8) rfl rfl Try.func36 (by kernel_rfl) rfl #[.agg #[.int .i64 a0_0, .int .i64 a0_1, .slice A0_2 l0_2.length c0_2], .slice A1 l1.length c1] rfl gmp ?_; (with_reducible refine (spec_l10Asked.calls k a0_0 a0_1 _ _ l0_2 _ _ l1 true _ ?side1 ?side2 ?side3 ?side4 A3.out).mono ?_); (case side1 => exact cdl (Kd.C_below HR0_2.out HB.out)); (case side2 => exact HC0_2.out); (case side3 => exact cdl (Kd.C_below HR1.out HB.out)); (case side4 => exact HC1.out); rintro e w9 ⟨rfl, hb⟩; refine ⟨_, rfl, ?_⟩; have n0_ := Aside0.mk (blk_below (g := gb240) (o := .cells #[.int .i64 a0_0, .int .i64 a0_1, .slice A0_2 l0_2.length c0_2] 31 (0, 0)) (bkl BK240) hb); have n1_ := Aside0.mk (below_step (bel1 HB GE240) hb); clear BK240; clear HB; have BK240 := n0_; have HB := n1_; clear n0_ n1_; (try clear hb); (try clear hb2); (try clear hk); (try clear hi)))
  have n0_ := Aside0.mk (blk_drew BK240.out)
  have n1_ := Aside0.mk (below_drew1 HB.out)
  clear BK240
  clear HB
  have BK240 := n0_
  have HB := n1_
  clear n0_ n1_
  refine start_ (n := 7) (S := fun w' => w'.cell? ⟨gb240, 0, none⟩ = some (.int .i64 a0_0) ∧ w'.cell? ⟨gb240, 1, none⟩ = some (.int .i64 a0_1) ∧ w'.cell? ⟨gb240, 2, none⟩ = some (.slice A0_2 l0_2.length c0_2)) (ds := []) #[false, false, false, false, false, false, false] (by kernel_rfl) rfl rfl ⟨(blk_cell BK240.out 0).trans rfl, (blk_cell BK240.out 1).trans rfl, (blk_cell BK240.out 2).trans rfl⟩ (fun hHeld => ?_)
  generalize w9.drew = w10 at BK240 HB hHeld ⊢
  refine pure_ (i := 2) (N := some 13) (v := ?_) (a' := ?_) #[false, false, true, false, false, false, false] rfl rfl (by kernel_rfl) (fun _ _ _ h => h) (Or.inl ⟨by rfl, ?_⟩) ?_ ?_
  rotate_left
  ·intro w'
   go_simp
   with_reducible rfl
  rotate_left
  ·simp only [Act.put, List.setIfInBounds_toArray, List.set_cons_zero, List.set_cons_succ, i64_w, i32_w]
   rfl
  refine take_ (i := 0) (N := some 11) (v := ?_) (a' := ?_) #[true, false, true, false, false, false, false] rfl rfl (by kernel_rfl) (fun _ _ _ h => h) (Or.inl ⟨by rfl, ?_⟩) hHeld ?_ ?_
  rotate_left
  ·rintro w' ⟨s0, s1, s2⟩
   go_simp
   with_reducible rfl
  rotate_left
  ·simp only [Act.put, List.setIfInBounds_toArray, List.set_cons_zero, List.set_cons_succ, i64_w, i32_w]
   rfl
  refine take_ (i := 1) (N := some 12) (v := ?_) (a' := ?_) #[true, true, true, false, false, false, false] rfl rfl (by kernel_rfl) (fun _ _ _ h => h) (Or.inl ⟨by rfl, ?_⟩) hHeld ?_ ?_
  rotate_left
  ·rintro w' ⟨s0, s1, s2⟩
   go_simp
   with_reducible rfl
  rotate_left
  ·simp only [Act.put, List.setIfInBounds_toArray, List.set_cons_zero, List.set_cons_succ, i64_w, i32_w]
   rfl
  refine one_ (i := 3) (N := some 14) #[true, true, true, true, false, false, false] rfl rfl (by kernel_rfl) (by decide) (fun K hK => ?_)
  refine goes_ Try.func37 (by kernel_rfl) rfl #[.agg #[.int .i64 a0_0, .int .i64 a0_1, .slice A0_2 l0_2.length c0_2], .slice A1 l1.length c1] (by rfl) rfl rfl gmp ?_
  with_reducible refine (spec_l10Bay.calls k a0_0 a0_1 _ _ l0_2 _ _ l1 t242 t243 _ ?side1 ?side2 ?side3 ?side4 A5.out).mono ?_
  (case side1 => exact cdl (Kd.C_below HR0_2.out HB.out))
  (case side2 => exact HC0_2.out)
  (case side3 => exact cdl (Kd.C_below HR1.out HB.out))
  (case side4 => exact HC1.out)
  rintro e w11 ⟨v244, rfl, ho0, hb⟩
  refine ⟨_, rfl, ?_⟩
  have n0_ := Aside0.mk (Kd.S_lower (Kd.S_newM (M := fun k_ => (w.heap.size ≤ k_)) ho0 (below_size (bel1 HB GE240)) (fun k_ h_ => h_)) (below_size (bel1 HB GE240)))
  have n1_ := Aside0.mk (blk_below (g := gb240) (o := .cells #[.int .i64 a0_0, .int .i64 a0_1, .slice A0_2 l0_2.length c0_2] 31 (0, 0)) (bkl BK240) hb)
  have n2_ := Aside0.mk (below_step (bel1 HB GE240) hb)
  clear BK240
  clear HB
  have HO245 := n0_
  have BK240 := n1_
  have HB := n2_
  clear n0_ n1_ n2_
  (try clear hb)
  (try clear hb2)
  (try clear hk)
  (try clear hi)
  (try clear ho0)
  obtain ⟨Ao12, co12, eo12⟩ := Kd.S_slice HO245.out
  (first | subst eo12 | (injection eo12 with f1_ f2_ f3_; have f4_ := f1_.symm; have f5_ := f3_.symm; clear f1_ f2_ f3_; subst f4_; subst f5_))
  refine hK.out _ _ ⟨(blk_cell BK240.out 0).trans rfl, (blk_cell BK240.out 1).trans rfl, (blk_cell BK240.out 2).trans rfl⟩ (fun hHeld => ?_)
  clear hK K
  refine norm_ (a' := ?_) ?_ ?_
  rotate_left
  ·show Act.put _ (some 14) _ = _
   simp only [Act.put, List.setIfInBounds_toArray, List.set_cons_zero, List.set_cons_succ, i64_w, i32_w]
   rfl
  refine one_ (i := 4) (N := some 15) #[true, true, true, true, true, false, false] rfl rfl (by kernel_rfl) (by decide) (fun K hK => ?_)
  refine goes_ Try.func39 (by kernel_rfl) rfl #[.agg #[.int .i64 a0_0, .int .i64 a0_1, .slice A0_2 l0_2.length c0_2], .agg #[.int .i64 t242, .slice Ao12 t243.length co12]] (by rfl) rfl rfl gmp ?_
  with_reducible refine (spec_l10Shifted.calls k a0_0 a0_1 _ _ l0_2 t242 _ _ t243 t246 _ ?side1 ?side2 ?side3 ?side4 A6.out).mono ?_
  (case side1 => exact cdl (Kd.C_below HR0_2.out HB.out))
  (case side2 => exact HC0_2.out)
  (case side3 => repeat (first | exact (Kd.S_reads' HO245.out).2.2 | (with_reducible refine Kd.C_alloc ?_ _) | (with_reducible refine Kd.C_drewN ?_ _) | (with_reducible refine Kd.C_drew ?_)))
  (case side4 => exact (Kd.S_reads' HO245.out).2.1)
  rintro e w13 ⟨v247, rfl, ho0, hb⟩
  refine ⟨_, rfl, ?_⟩
  have n0_ := Aside0.mk (Kd.S_below (sdl HO245) hb)
  have n1_ := Aside0.mk (Kd.V_lower (Kd.V_mono (ok' := fun k_ => (w.heap.size ≤ k_) ∧ some k_ ≠ (.slice Ao12 t243.length co12 : Value).ownBlock ∧ k_ ≠ gb240) ho0 (fun k_ hk_ => ⟨(Nat.le_trans (below_size (bel1 HB GE240)) hk_), (Kd.fresh' (Kd.S_lt (sdl HO245)) k_ hk_), (Kd.freshB (g := gb240) (o := .cells #[.int .i64 a0_0, .int .i64 a0_1, .slice A0_2 l0_2.length c0_2] 31 (0, 0)) (bkl BK240) k_ hk_)⟩)) (below_size (bel1 HB GE240)))
  have n2_ := Aside0.mk (blk_below (g := gb240) (o := .cells #[.int .i64 a0_0, .int .i64 a0_1, .slice A0_2 l0_2.length c0_2] 31 (0, 0)) (bkl BK240) hb)
  have n3_ := Aside0.mk (below_step (bel1 HB GE240) hb)
  clear HO245
  clear BK240
  clear HB
  have HO245 := n0_
  have HO248 := n1_
  have BK240 := n2_
  have HB := n3_
  clear n0_ n1_ n2_ n3_
  (try clear hb)
  (try clear hb2)
  (try clear hk)
  (try clear hi)
  (try clear ho0)
  refine hK.out _ _ ⟨(blk_cell BK240.out 0).trans rfl, (blk_cell BK240.out 1).trans rfl, (blk_cell BK240.out 2).trans rfl⟩ (fun hHeld => ?_)
  clear hK K
  refine norm_ (a' := ?_) ?_ ?_
  rotate_left
  ·show Act.put _ (some 15) _ = _
   simp only [Act.put, List.setIfInBounds_toArray, List.set_cons_zero, List.set_cons_succ, i64_w, i32_w]
   rfl
  refine pure_ (i := 5) (N := some 4) (v := ?_) (a' := ?_) #[true, true, true, true, true, true, false] rfl rfl (by kernel_rfl) (fun _ _ _ h => h) (Or.inl ⟨by rfl, ?_⟩) ?_ ?_
  rotate_left
  ·intro w'
   go_simp
   with_reducible rfl
  rotate_left
  ·simp only [Act.put, List.setIfInBounds_toArray, List.set_cons_zero, List.set_cons_succ, i64_w, i32_w]
   rfl
  refine pure_ (i := 6) (N := some 5) (v := ?_) (a' := ?_) #[true, true, true, true, true, true, true] rfl rfl (by kernel_rfl) (fun _ _ _ h => h) (Or.inl ⟨by rfl, ?_⟩) ?_ ?_
  rotate_left
  ·intro w'
   go_simp
   with_reducible rfl
  rotate_left
  ·simp only [Act.put, List.setIfInBounds_toArray, List.set_cons_zero, List.set_cons_succ, i64_w, i32_w]
   rfl
  refine done_ (by kernel_rfl) ?_
  try go_wp2
  go_ret2
  exact ⟨_, by first | rfl | (simp [errW_none, errW_some] <;> rfl) | (simp [*, errW_none, errW_some] <;> rfl), by (with_reducible repeat (first | apply Kd.V_alloc | apply Kd.V_drewN | apply Kd.V_drew)); exact Kd.V_mono HO248.out (fun _ hk => hk.1), bel1 HB GE240⟩
 ·replace c4 := Bool.eq_false_iff.mpr c4
  subst c4
  have H1 : (some ((([] : List Int)), false)) = some (r1, r2) := by rw [if_neg (show ¬ (false = true) by decide)] at H; exact H
  clear H
  have H := H1
  clear H1
  obtain ⟨y249, hy249⟩ : ∃ y_ : List Int, y_ = (([] : List Int)) := ⟨_, rfl⟩
  replace H : (some (y249, false)) = some (r1, r2) := by first | (rw [hy249]; with_reducible exact H) | (have H2_ := (Option.bind_some _ _).symm.trans H; rw [hy249]; with_reducible exact H2_) | (have H2_ := (Option.bind_some _ _).symm.trans H; with_reducible exact H2_) | with_reducible exact H | (rw [hy249]; exact H) | exact H
  have Ny249 := Aside0.mk hy249
  clear hy249
  simp only [Option.some.injEq, Prod.mk.injEq] at H
  obtain ⟨rfl, rfl⟩ := H
  go_enter Try.func21, Try.ntmps21
  go_wp2_with (first | ((with_reducible refine gate_dst (N := 2) rfl ?_); refine box_event ?hg (N := 2) ?hd (cs := #[.int .i64 a0_0, .int .i64 a0_1, .slice A0_2 l0_2.length c0_2]) (t := 31) ?hr ?_; (case hd => rfl); (case hg => rfl); (case hr => first | (go_simp; done) | (go_simp; rfl)); intro gb240 hg w14 hbox hb; have n0_ := Aside0.mk (below_step (bel HB) hb); have n1_ := Aside0.mk (hbox); have n2_ := Aside0.mk ((by rw [hg]; exact (below_size (bel HB)) : w.heap.size ≤ gb240)); have n3_ := Aside0.mk ((by rw [hg]; exact (below_size (bel HB)) : w.heap.size ≤ gb240)); clear HB; have HB := n0_; have BK240 := n1_; have GW240 := n2_; have GE240 := n3_; clear n0_ n1_ n2_ n3_; clear hb hbox hg; have hcz15_0 : w14.cell? ⟨gb240, 0, none⟩ = some (.int .i64 a0_0) := (blk_cell BK240.out 0).trans rfl; have hcz15_1 : w14.cell? ⟨gb240, 1, none⟩ = some (.int .i64 a0_1) := (blk_cell BK240.out 1).trans rfl; have hcz15_2 : w14.cell? ⟨gb240, 2, none⟩ = some (.slice A0_2 l0_2.length c0_2) := (blk_cell BK240.out 2).trans rfl; have hfz15_0 := blk_frozen BK240.out 0; have hfz15_1 := blk_frozen BK240.out 1; have hfz15_2 := blk_frozen BK240.out 2) | ((with_reducible refine gate_callee (f := 36) rfl ?_); refine goesL_ (some 8) rfl rfl Try.func36 (by kernel_rfl) rfl #[.agg #[.int .i64 a0_0, .int .i64 a0_1, .slice A0_2 l0_2.length c0_2], .slice A1 l1.length c1] rfl gmp ?_; (with_reducible refine (spec_l10Asked.calls k a0_0 a0_1 _ _ l0_2 _ _ l1 false _ ?side1 ?side2 ?side3 ?side4 A3.out).mono ?_); (case side1 => exact cdl (Kd.C_below HR0_2.out HB.out)); (case side2 => exact HC0_2.out); (case side3 => exact cdl (Kd.C_below HR1.out HB.out)); (case side4 => exact HC1.out); rintro e w16 ⟨rfl, hb⟩; refine ⟨_, rfl, ?_⟩; have n0_ := Aside0.mk (blk_below (g := gb240) (o := .cells #[.int .i64 a0_0, .int .i64 a0_1, .slice A0_2 l0_2.length c0_2] 31 (0, 0)) (bkl BK240) hb); have n1_ := Aside0.mk (below_step (bel1 HB GE240) hb); clear BK240; clear HB; have BK240 := n0_; have HB := n1_; clear n0_ n1_; (try clear hb); (try clear hb2); (try clear hk); (try clear hi)) | ((with_reducible refine gate_dst (N := 10) rfl ?_); refine Kd.R_lit (Kd.int .i64) _ 3 ?hg (N := 10) ?hd (xs := ([] : List Int)) (inner := []) (ok := fun _ => True) (okp := fun _ => True) ?hr ?hp (fun _ hk => hk) trivial (Below.refl _ _) (Nat.le_refl _) (by simp) ?_; (case hd => rfl); (case hg => rfl); (case hr => first | (go_simp; done) | (go_simp; rfl)); (case hp => exact (Reps.none _ _)); intro v250 w17 ho18 hb hg_ hnew_; clear hg_ hnew_; (first | rw [← Ny249.out] at ho18 | (simp only [Int.reduceToNat] at ho18; rw [← Ny249.out] at ho18)); have n0_ := Aside0.mk (Kd.R_lower (Kd.R_newM (M := fun k_ => (w.heap.size ≤ k_)) ho18 (below_size (bel1 HB GE240)) (fun k_ h_ => h_)) (below_size (bel1 HB GE240))); have n1_ := Aside0.mk (blk_below (g := gb240) (o := .cells #[.int .i64 a0_0, .int .i64 a0_1, .slice A0_2 l0_2.length c0_2] 31 (0, 0)) (bkl BK240) hb); have n2_ := Aside0.mk (below_step (bel1 HB GE240) hb); clear BK240; clear HB; have HO251 := n0_; have BK240 := n1_; have HB := n2_; clear n0_ n1_ n2_; clear hb ho18))
  go_ret2
  exact ⟨_, by first | rfl | (simp [errW_none, errW_some] <;> rfl) | (simp [*, errW_none, errW_some] <;> rfl), Kd.R_V (by (with_reducible repeat (first | apply Kd.R_alloc | apply Kd.R_drewN | apply Kd.R_drew)); exact Kd.R_mono HO251.out (fun _ hk => hk.1)), bel1 HB GE240⟩

/-! ### impl_within: function 43 -/
def impl_within.f (a0 : Int) (a1 : Int) (a2 : Int) : Option (Bool) := if a0 ≥ a1 then (some (decide (a0 ≤ a2))) else (some false)
set_option maxHeartbeats 8000000 in
set_option maxRecDepth 100000 in
theorem impl_within.calls (a0 : Int) (a1 : Int) (a2 : Int) (r : Bool) (w : World) (h : impl_within.f a0 a1 a2 = some r) :
  Calls Try.prog 43 #[.int .i64 a0, .int .i64 a1, .int .i64 a2] w fun e w' => e = .returned (.bool r) ∧ Drawn0 w w' := by
 have H : (if a0 ≥ a1 then (some (decide (a0 ≤ a2))) else (some false)) = some r := h
 clear h
 by_cases c4 : a0 ≥ a1
 ·rw [if_pos c4] at H
  have c4b0 : decide (a1 ≤ a0) = true := decide_eq_true c4
  clear c4
  obtain rfl := Option.some.inj H
  go_enter Try.func43, Try.ntmps43
  go_wp2
  go_ret
  exact ⟨by first | rfl | (simp; done) | (simp [*]; done), by repeat (first | exact Drawn0.refl _ | apply Drawn0.step)⟩
 ·rw [if_neg c4] at H
  have c4b0 : decide (a1 ≤ a0) = false := decide_eq_false c4
  clear c4
  obtain rfl := Option.some.inj H
  go_enter Try.func43, Try.ntmps43
  go_wp2
  go_ret
  exact ⟨by first | rfl | (simp; done) | (simp [*]; done), by repeat (first | exact Drawn0.refl _ | apply Drawn0.step)⟩

end Go.Proofs.Ytgeefafkjokmeaa.P
