-- Written by a program of this session over the translation (a variant of the printer, see wip/gen); Lean checks it.
import Derived.Test.YtipahijdcgoemaaPx0
import Derived.Test.YtipahijdcgoemaaPx12
namespace Go.Proofs.Ytipahijdcgoemaa.P
open Go.RowKit Go.Proofs.YtipahijdcgoemaaW.PrintWords Go.Proofs.YtipahijdcgoemaaW.PrintLast Go.Proofs.YtipahijdcgoemaaW.PrintMore
attribute [local go_sem] Go.Proofs.Ytipahijdcgoemaa.V.isSome_setCell max2_int min2_int max_two min_two max_three min_three max_four min_four
set_option linter.unusedVariables false
set_option linter.unusedSimpArgs false
/-! ### spec_l10Shifted: function 45 -/
mutual
def spec_l10Shifted.l0 : Nat → List Int → Int → Int → Int → List Int → Int → List (List Int) → Option (List Int)
 | 0, _, _, _, _, _, _, _ => none
 | k + 1, x5, x6, x215000, x215001, x215002, x216000, x216001 => if x6 < (x216001.length : Int) then (spec_l10Shifted.l1 k x5 x6 0 x215000 x215001 x215002 x216000 x216001) else (some x5)
def spec_l10Shifted.l1 : Nat → List Int → Int → Int → Int → Int → List Int → Int → List (List Int) → Option (List Int)
 | 0, _, _, _, _, _, _, _, _ => none
 | k + 1, x5, x6, x7, x215000, x215001, x215002, x216000, x216001 => if 0 ≤ x6 then (if x6 < (x216001.length : Int) then (if x7 < ((rd_L2 x216001 x6).length : Int) then (spec_l10Shifted.l2 k x5 x6 x7 0 x215000 x215001 x215002 x216000 x216001) else (spec_l10Shifted.l0 k x5 (wrap64 (x6 + 1)) x215000 x215001 x215002 x216000 x216001)) else (none)) else (none)
def spec_l10Shifted.l2 : Nat → List Int → Int → Int → Int → Int → Int → List Int → Int → List (List Int) → Option (List Int)
 | 0, _, _, _, _, _, _, _, _, _ => none
 | k + 1, x5, x6, x7, x8, x215000, x215001, x215002, x216000, x216001 => if x8 < x7 then (if 0 ≤ x6 then (if x6 < (x216001.length : Int) then (if 0 ≤ x8 then (if x8 < ((rd_L2 x216001 x6).length : Int) then (if 0 ≤ (wrap64 ((rd (rd_L2 x216001 x6) x8) - 1)) then (if (wrap64 ((rd (rd_L2 x216001 x6) x8) - 1)) < (x215002.length : Int) then (if 0 ≤ x7 then (if x7 < ((rd_L2 x216001 x6).length : Int) then (if 0 ≤ (wrap64 ((rd (rd_L2 x216001 x6) x7) - 1)) then (if (wrap64 ((rd (rd_L2 x216001 x6) x7) - 1)) < (x215002.length : Int) then (if (rd x215002 (wrap64 ((rd (rd_L2 x216001 x6) x8) - 1))) < (rd x215002 (wrap64 ((rd (rd_L2 x216001 x6) x7) - 1))) then ((spec_l1Put.f k x5 (rd (rd_L2 x216001 x6) x7)).bind fun t228 => (spec_l10Shifted.l2 k t228 x6 x7 (wrap64 (x8 + 1)) x215000 x215001 x215002 x216000 x216001)) else (spec_l10Shifted.l2 k x5 x6 x7 (wrap64 (x8 + 1)) x215000 x215001 x215002 x216000 x216001)) else (none)) else (none)) else (none)) else (none)) else (none)) else (none)) else (none)) else (none)) else (none)) else (none)) else (spec_l10Shifted.l1 k x5 x6 (wrap64 (x7 + 1)) x215000 x215001 x215002 x216000 x216001)
end
def spec_l10Shifted.f (k : Nat) (a0_0 : Int) (a0_1 : Int) (l0_2 : List Int) (a1_0 : Int) (l1_1 : List (List Int)) : Option (List Int) := spec_l10Shifted.l0 k (([] : List Int)) 0 a0_0 a0_1 l0_2 a1_0 l1_1
theorem spec_l10Shifted.mono_l : ∀ k, (∀ y0 y1 y2 y3 y4 y5 y6, LeO (spec_l10Shifted.l0 k y0 y1 y2 y3 y4 y5 y6) (spec_l10Shifted.l0 (k + 1) y0 y1 y2 y3 y4 y5 y6)) ∧ (∀ y0 y1 y2 y3 y4 y5 y6 y7, LeO (spec_l10Shifted.l1 k y0 y1 y2 y3 y4 y5 y6 y7) (spec_l10Shifted.l1 (k + 1) y0 y1 y2 y3 y4 y5 y6 y7)) ∧ (∀ y0 y1 y2 y3 y4 y5 y6 y7 y8, LeO (spec_l10Shifted.l2 k y0 y1 y2 y3 y4 y5 y6 y7 y8) (spec_l10Shifted.l2 (k + 1) y0 y1 y2 y3 y4 y5 y6 y7 y8))
 | 0 => ⟨fun _ _ _ _ _ _ _ r h => by simp [spec_l10Shifted.l0] at h, fun _ _ _ _ _ _ _ _ r h => by simp [spec_l10Shifted.l1] at h, fun _ _ _ _ _ _ _ _ _ r h => by simp [spec_l10Shifted.l2] at h⟩
 | k + 1 => by
  obtain ⟨ih0, ih1, ih2⟩ := spec_l10Shifted.mono_l k
  refine ⟨?_, ?_, ?_⟩
  ·intro y0 y1 y2 y3 y4 y5 y6
   unfold spec_l10Shifted.l0
   repeat' first
   | (with_reducible exact ih0 _ _ _ _ _ _ _)
   | (with_reducible exact ih1 _ _ _ _ _ _ _ _)
   | (with_reducible exact ih2 _ _ _ _ _ _ _ _ _)
   | (with_reducible exact spec_l1Put.mono _ _ _)
   | (with_reducible exact LeO.refl _)
   | (with_reducible exact LeO.none _)
   | (with_reducible refine LeO.ite ?_ ?_)
   | (with_reducible refine LeO.bind ?_ (fun _ => ?_))
   | exact ih0 _ _ _ _ _ _ _
   | exact ih1 _ _ _ _ _ _ _ _
   | exact ih2 _ _ _ _ _ _ _ _ _
   | exact spec_l1Put.mono _ _ _
   | exact LeO.none _
   | refine LeO.ite ?_ ?_
   | refine LeO.bind ?_ (fun _ => ?_)
  ·intro y0 y1 y2 y3 y4 y5 y6 y7
   unfold spec_l10Shifted.l1
   repeat' first
   | (with_reducible exact ih0 _ _ _ _ _ _ _)
   | (with_reducible exact ih1 _ _ _ _ _ _ _ _)
   | (with_reducible exact ih2 _ _ _ _ _ _ _ _ _)
   | (with_reducible exact spec_l1Put.mono _ _ _)
   | (with_reducible exact LeO.refl _)
   | (with_reducible exact LeO.none _)
   | (with_reducible refine LeO.ite ?_ ?_)
   | (with_reducible refine LeO.bind ?_ (fun _ => ?_))
   | exact ih0 _ _ _ _ _ _ _
   | exact ih1 _ _ _ _ _ _ _ _
   | exact ih2 _ _ _ _ _ _ _ _ _
   | exact spec_l1Put.mono _ _ _
   | exact LeO.none _
   | refine LeO.ite ?_ ?_
   | refine LeO.bind ?_ (fun _ => ?_)
  ·intro y0 y1 y2 y3 y4 y5 y6 y7 y8
   unfold spec_l10Shifted.l2
   repeat' first
   | (with_reducible exact ih0 _ _ _ _ _ _ _)
   | (with_reducible exact ih1 _ _ _ _ _ _ _ _)
   | (with_reducible exact ih2 _ _ _ _ _ _ _ _ _)
   | (with_reducible exact spec_l1Put.mono _ _ _)
   | (with_reducible exact LeO.refl _)
   | (with_reducible exact LeO.none _)
   | (with_reducible refine LeO.ite ?_ ?_)
   | (with_reducible refine LeO.bind ?_ (fun _ => ?_))
   | exact ih0 _ _ _ _ _ _ _
   | exact ih1 _ _ _ _ _ _ _ _
   | exact ih2 _ _ _ _ _ _ _ _ _
   | exact spec_l1Put.mono _ _ _
   | exact LeO.none _
   | refine LeO.ite ?_ ?_
   | refine LeO.bind ?_ (fun _ => ?_)
theorem spec_l10Shifted.mono : ∀ a0 a1 a2 a3 a4 k, LeO (spec_l10Shifted.f k a0 a1 a2 a3 a4) (spec_l10Shifted.f (k + 1) a0 a1 a2 a3 a4) := by
 intro a0 a1 a2 a3 a4 k
 obtain ⟨ih0, ih1, ih2⟩ := spec_l10Shifted.mono_l k
 unfold spec_l10Shifted.f
 repeat' first
   | (with_reducible exact ih0 _ _ _ _ _ _ _)
   | (with_reducible exact ih1 _ _ _ _ _ _ _ _)
   | (with_reducible exact ih2 _ _ _ _ _ _ _ _ _)
   | (with_reducible exact spec_l1Put.mono _ _ _)
   | (with_reducible exact LeO.refl _)
   | (with_reducible exact LeO.none _)
   | (with_reducible refine LeO.ite ?_ ?_)
   | (with_reducible refine LeO.bind ?_ (fun _ => ?_))
   | exact ih0 _ _ _ _ _ _ _
   | exact ih1 _ _ _ _ _ _ _ _
   | exact ih2 _ _ _ _ _ _ _ _ _
   | exact spec_l1Put.mono _ _ _
   | exact LeO.none _
   | refine LeO.ite ?_ ?_
   | refine LeO.bind ?_ (fun _ => ?_)
set_option maxHeartbeats 8000000 in
set_option maxRecDepth 100000 in
theorem spec_l10Shifted.calls (k : Nat) (a0_0 : Int) (a0_1 : Int) (A0_2 : Option Addr) (c0_2 : Nat) (l0_2 : List Int) (a1_0 : Int) (A1_1 : Option Addr) (c1_1 : Nat) (l1_1 : List (List Int)) (r : List Int) (w : World) (hr0_2 : Kd.C (Kd.int .i64) w A0_2 l0_2.length l0_2) (hc0_2 : l0_2.length ≤ c0_2) (hr1_1 : Kd.C (Kd.slice 3 (Kd.int .i64)) w A1_1 l1_1.length l1_1) (hc1_1 : l1_1.length ≤ c1_1) (h : spec_l10Shifted.f k a0_0 a0_1 l0_2 a1_0 l1_1 = some r) :
  Calls Try.prog 45 #[.agg #[.int .i64 a0_0, .int .i64 a0_1, .slice A0_2 l0_2.length c0_2], .agg #[.int .i64 a1_0, .slice A1_1 l1_1.length c1_1]] w fun e w' => ∃ v0_ : Value, e = .returned (v0_) ∧ Kd.V (Kd.int .i64) 3 w' w.heap.size (fun k_ => (w.heap.size ≤ k_)) v0_ r ∧ Below w.heap.size w w' := by
 have hu26 := Try.underlying26
 have hu45 := Try.underlying45
 have HR0_2 := Aside0.mk hr0_2
 have HC0_2 := Aside0.mk hc0_2
 clear hr0_2 hc0_2
 have HR1_1 := Aside0.mk hr1_1
 have HC1_1 := Aside0.mk hc1_1
 clear hr1_1 hc1_1
 have HB := Aside0.mk (Below.refl w.heap.size w)
 have H : (spec_l10Shifted.l0 k (([] : List Int)) 0 a0_0 a0_1 l0_2 a1_0 l1_1) = some r := h
 clear h
 obtain ⟨y216, hy216⟩ : ∃ y_ : List Int, y_ = (([] : List Int)) := ⟨_, rfl⟩
 replace H : (spec_l10Shifted.l0 k y216 0 a0_0 a0_1 l0_2 a1_0 l1_1) = some r := by first | (rw [hy216]; with_reducible exact H) | (have H2_ := (Option.bind_some _ _).symm.trans H; rw [hy216]; with_reducible exact H2_) | (have H2_ := (Option.bind_some _ _).symm.trans H; with_reducible exact H2_) | with_reducible exact H | (rw [hy216]; exact H) | exact H
 have Ny216 := Aside0.mk hy216
 clear hy216
 have H' := Aside0.mk H
 clear H
 go_enter Try.func45, Try.ntmps45
 go_wp2_with (first | ((with_reducible refine gate_dst (N := 2) rfl ?_); refine box_event ?hg (N := 2) ?hd (cs := #[.int .i64 a0_0, .int .i64 a0_1, .slice A0_2 l0_2.length c0_2]) (t := 26) ?hr ?_; (case hd => rfl); (case hg => rfl); (case hr => first | (go_simp; done) | (go_simp; rfl)); intro gb214 hg w3 hbox hb; have n0_ := Aside0.mk (below_step (bel HB) hb); have n1_ := Aside0.mk (hbox); have n2_ := Aside0.mk ((by rw [hg]; exact (below_size (bel HB)) : w.heap.size ≤ gb214)); have n3_ := Aside0.mk ((by rw [hg]; exact (below_size (bel HB)) : w.heap.size ≤ gb214)); clear HB; have HB := n0_; have BK214 := n1_; have GW214 := n2_; have GE214 := n3_; clear n0_ n1_ n2_ n3_; clear hb hbox hg) | ((with_reducible refine gate_dst (N := 3) rfl ?_); refine box_event ?hg (N := 3) ?hd (cs := #[.int .i64 a1_0, .slice A1_1 l1_1.length c1_1]) (t := 45) ?hr ?_; (case hd => rfl); (case hg => rfl); (case hr => first | (go_simp; done) | (go_simp; rfl)); intro gb215 hg w4 hbox hb; have n0_ := Aside0.mk (blk_below (g := gb214) (o := .cells #[.int .i64 a0_0, .int .i64 a0_1, .slice A0_2 l0_2.length c0_2] 26 (0, 0)) (bkl BK214) hb); have n1_ := Aside0.mk (below_step (bel1 HB GE214) hb); have n2_ := Aside0.mk (hbox); have n3_ := Aside0.mk ((by rw [hg]; exact (below_size (bel1 HB GE214)) : w.heap.size ≤ gb215)); have n4_ := Aside0.mk ((by rw [hg]; exact (below_size (bel1 HB GE214)) : w.heap.size ≤ gb215)); have n5_ := Aside0.mk ((by rw [hg]; exact Nat.ne_of_lt (blk_lt (g := gb214) (o := .cells #[.int .i64 a0_0, .int .i64 a0_1, .slice A0_2 l0_2.length c0_2] 26 (0, 0)) (bkl BK214)) : gb214 ≠ gb215)); have n6_ := Aside0.mk ((by rw [hg]; exact Nat.ne_of_gt (blk_lt (g := gb214) (o := .cells #[.int .i64 a0_0, .int .i64 a0_1, .slice A0_2 l0_2.length c0_2] 26 (0, 0)) (bkl BK214)) : gb215 ≠ gb214)); clear BK214; clear HB; have BK214 := n0_; have HB := n1_; have BK215 := n2_; have GW215 := n3_; have GE215 := n4_; have NB214_215 := n5_; have NB215_214 := n6_; clear n0_ n1_ n2_ n3_ n4_ n5_ n6_; clear hb hbox hg) | ((with_reducible refine gate_dst (N := 9) rfl ?_); refine Kd.R_lit (Kd.int .i64) _ 3 ?hg (N := 9) ?hd (xs := ([] : List Int)) (inner := []) (ok := fun _ => True) (okp := fun _ => True) ?hr ?hp (fun _ hk => hk) trivial (Below.refl _ _) (Nat.le_refl _) (by simp) ?_; (case hd => rfl); (case hg => rfl); (case hr => first | (go_simp; done) | (go_simp; rfl)); (case hp => exact (Reps.none _ _)); intro v217 w5 ho6 hb hg_ hnew_; clear hg_ hnew_; (first | rw [← Ny216.out] at ho6 | (simp only [Int.reduceToNat] at ho6; rw [← Ny216.out] at ho6)); have n0_ := Aside0.mk (Kd.R_lower (Kd.R_newM (M := fun k_ => (w.heap.size ≤ k_)) ho6 (below_size (bel2 HB GE214 GE215)) (fun k_ h_ => h_)) (below_size (bel2 HB GE214 GE215))); have n1_ := Aside0.mk (blk_below (g := gb214) (o := .cells #[.int .i64 a0_0, .int .i64 a0_1, .slice A0_2 l0_2.length c0_2] 26 (0, 0)) (bkl BK214) hb); have n2_ := Aside0.mk (blk_below (g := gb215) (o := .cells #[.int .i64 a1_0, .slice A1_1 l1_1.length c1_1] 45 (0, 0)) (bkl BK215) hb); have n3_ := Aside0.mk (below_step (bel2 HB GE214 GE215) hb); clear BK214; clear BK215; clear HB; have HO218 := n0_; have BK214 := n1_; have BK215 := n2_; have HB := n3_; clear n0_ n1_ n2_ n3_; clear hb ho6))
 repeat (go_quiet (first | ((with_reducible refine gate_dst (N := 2) rfl ?_); refine box_event ?hg (N := 2) ?hd (cs := #[.int .i64 a0_0, .int .i64 a0_1, .slice A0_2 l0_2.length c0_2]) (t := 26) ?hr ?_; (case hd => rfl); (case hg => rfl); (case hr => first | (go_simp; done) | (go_simp; rfl)); intro gb214 hg w3 hbox hb; have n0_ := Aside0.mk (below_step (bel HB) hb); have n1_ := Aside0.mk (hbox); have n2_ := Aside0.mk ((by rw [hg]; exact (below_size (bel HB)) : w.heap.size ≤ gb214)); have n3_ := Aside0.mk ((by rw [hg]; exact (below_size (bel HB)) : w.heap.size ≤ gb214)); clear HB; have HB := n0_; have BK214 := n1_; have GW214 := n2_; have GE214 := n3_; clear n0_ n1_ n2_ n3_; clear hb hbox hg) | ((with_reducible refine gate_dst (N := 3) rfl ?_); refine box_event ?hg (N := 3) ?hd (cs := #[.int .i64 a1_0, .slice A1_1 l1_1.length c1_1]) (t := 45) ?hr ?_; (case hd => rfl); (case hg => rfl); (case hr => first | (go_simp; done) | (go_simp; rfl)); intro gb215 hg w4 hbox hb; have n0_ := Aside0.mk (blk_below (g := gb214) (o := .cells #[.int .i64 a0_0, .int .i64 a0_1, .slice A0_2 l0_2.length c0_2] 26 (0, 0)) (bkl BK214) hb); have n1_ := Aside0.mk (below_step (bel1 HB GE214) hb); have n2_ := Aside0.mk (hbox); have n3_ := Aside0.mk ((by rw [hg]; exact (below_size (bel1 HB GE214)) : w.heap.size ≤ gb215)); have n4_ := Aside0.mk ((by rw [hg]; exact (below_size (bel1 HB GE214)) : w.heap.size ≤ gb215)); have n5_ := Aside0.mk ((by rw [hg]; exact Nat.ne_of_lt (blk_lt (g := gb214) (o := .cells #[.int .i64 a0_0, .int .i64 a0_1, .slice A0_2 l0_2.length c0_2] 26 (0, 0)) (bkl BK214)) : gb214 ≠ gb215)); have n6_ := Aside0.mk ((by rw [hg]; exact Nat.ne_of_gt (blk_lt (g := gb214) (o := .cells #[.int .i64 a0_0, .int .i64 a0_1, .slice A0_2 l0_2.length c0_2] 26 (0, 0)) (bkl BK214)) : gb215 ≠ gb214)); clear BK214; clear HB; have BK214 := n0_; have HB := n1_; have BK215 := n2_; have GW215 := n3_; have GE215 := n4_; have NB214_215 := n5_; have NB215_214 := n6_; clear n0_ n1_ n2_ n3_ n4_ n5_ n6_; clear hb hbox hg) | ((with_reducible refine gate_dst (N := 9) rfl ?_); refine Kd.R_lit (Kd.int .i64) _ 3 ?hg (N := 9) ?hd (xs := ([] : List Int)) (inner := []) (ok := fun _ => True) (okp := fun _ => True) ?hr ?hp (fun _ hk => hk) trivial (Below.refl _ _) (Nat.le_refl _) (by simp) ?_; (case hd => rfl); (case hg => rfl); (case hr => first | (go_simp; done) | (go_simp; rfl)); (case hp => exact (Reps.none _ _)); intro v217 w5 ho6 hb hg_ hnew_; clear hg_ hnew_; (first | rw [← Ny216.out] at ho6 | (simp only [Int.reduceToNat] at ho6; rw [← Ny216.out] at ho6)); have n0_ := Aside0.mk (Kd.R_lower (Kd.R_newM (M := fun k_ => (w.heap.size ≤ k_)) ho6 (below_size (bel2 HB GE214 GE215)) (fun k_ h_ => h_)) (below_size (bel2 HB GE214 GE215))); have n1_ := Aside0.mk (blk_below (g := gb214) (o := .cells #[.int .i64 a0_0, .int .i64 a0_1, .slice A0_2 l0_2.length c0_2] 26 (0, 0)) (bkl BK214) hb); have n2_ := Aside0.mk (blk_below (g := gb215) (o := .cells #[.int .i64 a1_0, .slice A1_1 l1_1.length c1_1] 45 (0, 0)) (bkl BK215) hb); have n3_ := Aside0.mk (below_step (bel2 HB GE214 GE215) hb); clear BK214; clear BK215; clear HB; have HO218 := n0_; have BK214 := n1_; have BK215 := n2_; have HB := n3_; clear n0_ n1_ n2_ n3_; clear hb ho6)); try go_wp2_with (first | ((with_reducible refine gate_dst (N := 2) rfl ?_); refine box_event ?hg (N := 2) ?hd (cs := #[.int .i64 a0_0, .int .i64 a0_1, .slice A0_2 l0_2.length c0_2]) (t := 26) ?hr ?_; (case hd => rfl); (case hg => rfl); (case hr => first | (go_simp; done) | (go_simp; rfl)); intro gb214 hg w3 hbox hb; have n0_ := Aside0.mk (below_step (bel HB) hb); have n1_ := Aside0.mk (hbox); have n2_ := Aside0.mk ((by rw [hg]; exact (below_size (bel HB)) : w.heap.size ≤ gb214)); have n3_ := Aside0.mk ((by rw [hg]; exact (below_size (bel HB)) : w.heap.size ≤ gb214)); clear HB; have HB := n0_; have BK214 := n1_; have GW214 := n2_; have GE214 := n3_; clear n0_ n1_ n2_ n3_; clear hb hbox hg) | ((with_reducible refine gate_dst (N := 3) rfl ?_); refine box_event ?hg (N := 3) ?hd (cs := #[.int .i64 a1_0, .slice A1_1 l1_1.length c1_1]) (t := 45) ?hr ?_; (case hd => rfl); (case hg => rfl); (case hr => first | (go_simp; done) | (go_simp; rfl)); intro gb215 hg w4 hbox hb; have n0_ := Aside0.mk (blk_below (g := gb214) (o := .cells #[.int .i64 a0_0, .int .i64 a0_1, .slice A0_2 l0_2.length c0_2] 26 (0, 0)) (bkl BK214) hb); have n1_ := Aside0.mk (below_step (bel1 HB GE214) hb); have n2_ := Aside0.mk (hbox); have n3_ := Aside0.mk ((by rw [hg]; exact (below_size (bel1 HB GE214)) : w.heap.size ≤ gb215)); have n4_ := Aside0.mk ((by rw [hg]; exact (below_size (bel1 HB GE214)) : w.heap.size ≤ gb215)); have n5_ := Aside0.mk ((by rw [hg]; exact Nat.ne_of_lt (blk_lt (g := gb214) (o := .cells #[.int .i64 a0_0, .int .i64 a0_1, .slice A0_2 l0_2.length c0_2] 26 (0, 0)) (bkl BK214)) : gb214 ≠ gb215)); have n6_ := Aside0.mk ((by rw [hg]; exact Nat.ne_of_gt (blk_lt (g := gb214) (o := .cells #[.int .i64 a0_0, .int .i64 a0_1, .slice A0_2 l0_2.length c0_2] 26 (0, 0)) (bkl BK214)) : gb215 ≠ gb214)); clear BK214; clear HB; have BK214 := n0_; have HB := n1_; have BK215 := n2_; have GW215 := n3_; have GE215 := n4_; have NB214_215 := n5_; have NB215_214 := n6_; clear n0_ n1_ n2_ n3_ n4_ n5_ n6_; clear hb hbox hg) | ((with_reducible refine gate_dst (N := 9) rfl ?_); refine Kd.R_lit (Kd.int .i64) _ 3 ?hg (N := 9) ?hd (xs := ([] : List Int)) (inner := []) (ok := fun _ => True) (okp := fun _ => True) ?hr ?hp (fun _ hk => hk) trivial (Below.refl _ _) (Nat.le_refl _) (by simp) ?_; (case hd => rfl); (case hg => rfl); (case hr => first | (go_simp; done) | (go_simp; rfl)); (case hp => exact (Reps.none _ _)); intro v217 w5 ho6 hb hg_ hnew_; clear hg_ hnew_; (first | rw [← Ny216.out] at ho6 | (simp only [Int.reduceToNat] at ho6; rw [← Ny216.out] at ho6)); have n0_ := Aside0.mk (Kd.R_lower (Kd.R_newM (M := fun k_ => (w.heap.size ≤ k_)) ho6 (below_size (bel2 HB GE214 GE215)) (fun k_ h_ => h_)) (below_size (bel2 HB GE214 GE215))); have n1_ := Aside0.mk (blk_below (g := gb214) (o := .cells #[.int .i64 a0_0, .int .i64 a0_1, .slice A0_2 l0_2.length c0_2] 26 (0, 0)) (bkl BK214) hb); have n2_ := Aside0.mk (blk_below (g := gb215) (o := .cells #[.int .i64 a1_0, .slice A1_1 l1_1.length c1_1] 45 (0, 0)) (bkl BK215) hb); have n3_ := Aside0.mk (below_step (bel2 HB GE214 GE215) hb); clear BK214; clear BK215; clear HB; have HO218 := n0_; have BK214 := n1_; have BK215 := n2_; have HB := n3_; clear n0_ n1_ n2_ n3_; clear hb ho6)))
 go_loopg [5, 6] k (fun kq v5 v6 w' => ∃ (x5_1 : List Int) (x6_1 : Int), v6 = .int .i64 x6_1 ∧ Aside0 (spec_l10Shifted.l0 kq x5_1 x6_1 a0_0 a0_1 l0_2 a1_0 l1_1 = some r) ∧ Aside0 (kq ≤ k) ∧ Aside0 (Kd.V (Kd.int .i64) 3 w' w.heap.size (fun k_ => (w.heap.size ≤ k_) ∧ k_ ≠ gb214 ∧ k_ ≠ gb215) v5 x5_1) ∧ Aside0 (w'.heap[gb214]? = some (.cells #[.int .i64 a0_0, .int .i64 a0_1, (.slice A0_2 l0_2.length c0_2)] 26 (0, 0))) ∧ Aside0 (w'.heap[gb215]? = some (.cells #[.int .i64 a1_0, (.slice A1_1 l1_1.length c1_1)] 45 (0, 0))) ∧ Aside0 (Below w.heap.size w w'))
 case atStart => exact ⟨(y216), (0), (by first | rfl | (simp; done) | (simp [*]; done)), H', ⟨Nat.le_refl _⟩, ⟨Kd.R_V (by (with_reducible repeat (first | apply Kd.R_alloc | apply Kd.R_drewN | apply Kd.R_drew)); exact Kd.R_mono (Kd.R_types (Kd.R_types HO218.out BK214.out (by decide)) BK215.out (by decide)) (fun _ hk => ⟨hk.1.1.1, ⟨hk.1.2, hk.2⟩⟩))⟩, ⟨bkl BK214⟩, ⟨bkl BK215⟩, ⟨bel2 HB GE214 GE215⟩⟩
 clear H'
 try clear c1
 try clear p2
 try clear c4
 obtain ⟨x5_1, x6_1, rfl, HA, HK1, HO_5, BK214, BK215, HB⟩ := hrel
 cases gk with
 | zero => exact absurd HA.out (by simp [spec_l10Shifted.l0])
 | succ k1 =>
  have H := HA.out
  clear HA
  simp only [spec_l10Shifted.l0] at H
  by_cases c7 : x6_1 < (l1_1.length : Int)
  rotate_left
  ·rw [if_neg c7] at H
   have c7b0 : decide (x6_1 < (l1_1.length : Int)) = false := decide_eq_false c7
   clear c7
   obtain rfl := Option.some.inj H
   have hnb40 := NB215_214.out
   have hnc40 := NB214_215.out
   have hcz41_0 : wr.cell? ⟨gb215, 0, none⟩ = some (.int .i64 a1_0) := (blk_cell BK215.out 0).trans rfl
   have hcz41_1 : wr.cell? ⟨gb215, 1, none⟩ = some (.slice A1_1 l1_1.length c1_1) := (blk_cell BK215.out 1).trans rfl
   have hfz41_0 := blk_frozen BK215.out 0
   have hfz41_1 := blk_frozen BK215.out 1
   go_wp2
   repeat (go_quiet (fail); try go_wp2)
   go_ret
   exact ⟨_, by first | rfl | (simp [errW_none, errW_some] <;> rfl) | (simp [*, errW_none, errW_some] <;> rfl), by (with_reducible repeat (first | apply Kd.V_alloc | apply Kd.V_drewN | apply Kd.V_drew)); exact Kd.V_mono HO_5.out (fun _ hk => hk.1), bel2 HB GE214 GE215⟩
  rw [if_pos c7] at H
  have c7b0 : decide (x6_1 < (l1_1.length : Int)) = true := decide_eq_true c7
  clear c7
  have H' := Aside0.mk H
  clear H
  have hnb8 := NB215_214.out
  have hnc8 := NB214_215.out
  have hcz9_0 : wr.cell? ⟨gb215, 0, none⟩ = some (.int .i64 a1_0) := (blk_cell BK215.out 0).trans rfl
  have hcz9_1 : wr.cell? ⟨gb215, 1, none⟩ = some (.slice A1_1 l1_1.length c1_1) := (blk_cell BK215.out 1).trans rfl
  have hfz9_0 := blk_frozen BK215.out 0
  have hfz9_1 := blk_frozen BK215.out 1
  go_wp2
  repeat (go_quiet (fail); try go_wp2)
  go_loopg [5, 7] k1 (fun kq v5 v7 w' => ∃ (x5_2 : List Int) (x7_2 : Int), v7 = .int .i64 x7_2 ∧ Aside0 (spec_l10Shifted.l1 kq x5_2 x6_1 x7_2 a0_0 a0_1 l0_2 a1_0 l1_1 = some r) ∧ Aside0 (kq ≤ k1) ∧ Aside0 (Kd.V (Kd.int .i64) 3 w' w.heap.size (fun k_ => (w.heap.size ≤ k_) ∧ k_ ≠ gb214 ∧ k_ ≠ gb215) v5 x5_2) ∧ Aside0 (w'.heap[gb214]? = some (.cells #[.int .i64 a0_0, .int .i64 a0_1, (.slice A0_2 l0_2.length c0_2)] 26 (0, 0))) ∧ Aside0 (w'.heap[gb215]? = some (.cells #[.int .i64 a1_0, (.slice A1_1 l1_1.length c1_1)] 45 (0, 0))) ∧ Aside0 (Below w.heap.size w w'))
  case atStart => exact ⟨(x5_1), (0), (by first | rfl | (simp; done) | (simp [*]; done)), H', ⟨Nat.le_refl _⟩, ⟨by (with_reducible repeat (first | apply Kd.V_alloc | apply Kd.V_drewN | apply Kd.V_drew)); exact HO_5.out⟩, ⟨bkl BK214⟩, ⟨bkl BK215⟩, ⟨bel2 HB GE214 GE215⟩⟩
  clear H'
  try clear c1
  try clear p2
  try clear c4
  try clear c7
  try clear c7b0
  try clear c8
  try clear hcz9_0
  try clear hcz9_1
  try clear hfz9_0
  try clear hfz9_1
  try clear p2
  obtain ⟨x5_2, x7_2, rfl, HA, HK2, HO_5, BK214, BK215, HB⟩ := hrel
  cases gk with
  | zero => exact absurd HA.out (by simp [spec_l10Shifted.l1])
  | succ k2 =>
   have H := HA.out
   clear HA
   simp only [spec_l10Shifted.l1] at H
   by_cases c10 : 0 ≤ x6_1
   rotate_left
   ·rw [if_neg c10] at H
    exact absurd H (by simp)
   rw [if_pos c10] at H
   have c10b0 : decide (0 ≤ x6_1) = true := decide_eq_true c10
   clear c10
   by_cases c11 : x6_1 < (l1_1.length : Int)
   rotate_left
   ·rw [if_neg c11] at H
    exact absurd H (by simp)
   rw [if_pos c11] at H
   have c11b0 : decide (x6_1 < (l1_1.length : Int)) = true := decide_eq_true c11
   clear c11
   by_cases c12 : x7_2 < ((rd_L2 l1_1 x6_1).length : Int)
   rotate_left
   ·rw [if_neg c12] at H
    have c12b0 : decide (x7_2 < ((rd_L2 l1_1 x6_1).length : Int)) = false := decide_eq_false c12
    clear c12
    have H' := Aside0.mk H
    clear H
    have hnb38 := NB215_214.out
    have hnc38 := NB214_215.out
    have hcz39_0 : wr.cell? ⟨gb215, 0, none⟩ = some (.int .i64 a1_0) := (blk_cell BK215.out 0).trans rfl
    have hcz39_1 : wr.cell? ⟨gb215, 1, none⟩ = some (.slice A1_1 l1_1.length c1_1) := (blk_cell BK215.out 1).trans rfl
    have hfz39_0 := blk_frozen BK215.out 0
    have hfz39_1 := blk_frozen BK215.out 1
    have p219 : 0 ≤ (x6_1 : Int) := oda
    have q219 : x6_1 < (l1_1.length : Int) := oda
    obtain ⟨ad219, A219_0, c219_0, e219, hx219_0, hl219_0, hi219_0⟩ := at_L2 HR1_1.out x6_1 p219 q219
    cases e219
    replace hx219_0 := cel HB hx219_0
    have HR219_0 := Aside0.mk hi219_0
    have HC219_0 := Aside0.mk hl219_0
    clear hi219_0 hl219_0
    replace p219 := eq_true p219
    replace q219 := eq_true q219
    go_wp2
    repeat (go_quiet (fail); try go_wp2)
    go_roundg k2
    case measure => have := HK1.out; have := HK2.out; omega
    case rel => exact ⟨(x5_2), (wrap64 (x6_1 + 1)), (by first | rfl | (simp; done) | (simp [*]; done)), H', ⟨by have := HK1.out; have := HK2.out; omega⟩, ⟨by (with_reducible repeat (first | apply Kd.V_alloc | apply Kd.V_drewN | apply Kd.V_drew)); exact HO_5.out⟩, ⟨bkl BK214⟩, ⟨bkl BK215⟩, ⟨bel2 HB GE214 GE215⟩⟩
   rw [if_pos c12] at H
   have c12b0 : decide (x7_2 < ((rd_L2 l1_1 x6_1).length : Int)) = true := decide_eq_true c12
   clear c12
   have H' := Aside0.mk H
   clear H
   have hnb13 := NB215_214.out
   have hnc13 := NB214_215.out
   have hcz14_0 : wr.cell? ⟨gb215, 0, none⟩ = some (.int .i64 a1_0) := (blk_cell BK215.out 0).trans rfl
   have hcz14_1 : wr.cell? ⟨gb215, 1, none⟩ = some (.slice A1_1 l1_1.length c1_1) := (blk_cell BK215.out 1).trans rfl
   have hfz14_0 := blk_frozen BK215.out 0
   have hfz14_1 := blk_frozen BK215.out 1
   have p219 : 0 ≤ (x6_1 : Int) := oda
   have q219 : x6_1 < (l1_1.length : Int) := oda
   obtain ⟨ad219, A219_0, c219_0, e219, hx219_0, hl219_0, hi219_0⟩ := at_L2 HR1_1.out x6_1 p219 q219
   cases e219
   replace hx219_0 := cel HB hx219_0
   have HR219_0 := Aside0.mk hi219_0
   have HC219_0 := Aside0.mk hl219_0
   clear hi219_0 hl219_0
   replace p219 := eq_true p219
   replace q219 := eq_true q219
   go_wp2
   repeat (go_quiet (fail); try go_wp2)
   go_loopg [5, 8] k2 (fun kq v5 v8 w' => ∃ (x5_3 : List Int) (x8_3 : Int), v8 = .int .i64 x8_3 ∧ Aside0 (spec_l10Shifted.l2 kq x5_3 x6_1 x7_2 x8_3 a0_0 a0_1 l0_2 a1_0 l1_1 = some r) ∧ Aside0 (kq ≤ k2) ∧ Aside0 (Kd.V (Kd.int .i64) 3 w' w.heap.size (fun k_ => (w.heap.size ≤ k_) ∧ k_ ≠ gb214 ∧ k_ ≠ gb215) v5 x5_3) ∧ Aside0 (w'.heap[gb214]? = some (.cells #[.int .i64 a0_0, .int .i64 a0_1, (.slice A0_2 l0_2.length c0_2)] 26 (0, 0))) ∧ Aside0 (w'.heap[gb215]? = some (.cells #[.int .i64 a1_0, (.slice (some ad219) l1_1.length c1_1)] 45 (0, 0))) ∧ Aside0 (Below w.heap.size w w'))
   case atStart => exact ⟨(x5_2), (0), (by first | rfl | (simp; done) | (simp [*]; done)), H', ⟨Nat.le_refl _⟩, ⟨by (with_reducible repeat (first | apply Kd.V_alloc | apply Kd.V_drewN | apply Kd.V_drew)); exact HO_5.out⟩, ⟨bkl BK214⟩, ⟨bkl BK215⟩, ⟨bel2 HB GE214 GE215⟩⟩
   clear H'
   try clear c1
   try clear c2
   try clear p2
   try clear q2
   try clear hx2
   try clear c4
   try clear c7
   try clear c7b0
   try clear c8
   try clear c10
   try clear c10b0
   try clear c11
   try clear c11b0
   try clear c12
   try clear c12b0
   try clear c13
   try clear hcz14_0
   try clear hcz14_1
   try clear hcz9_0
   try clear hcz9_1
   try clear hfz14_0
   try clear hfz14_1
   try clear hfz9_0
   try clear hfz9_1
   try clear hx219_0
   try clear p2
   try clear p219
   try clear q219
   obtain ⟨x5_3, x8_3, rfl, HA, HK3, HO_5, BK214, BK215, HB⟩ := hrel
   cases gk with
   | zero => exact absurd HA.out (by simp [spec_l10Shifted.l2])
   | succ k3 =>
    have H := HA.out
    clear HA
    simp only [spec_l10Shifted.l2] at H
    by_cases c15 : x8_3 < x7_2
    rotate_left
    ·rw [if_neg c15] at H
     have c15b0 : decide (x8_3 < x7_2) = false := decide_eq_false c15
     clear c15
     have H' := Aside0.mk H
     clear H
     go_wp2
     repeat (go_quiet (fail); try go_wp2)
     go_roundg k3
     case measure => have := HK1.out; have := HK2.out; have := HK3.out; omega
     case rel => exact ⟨(x5_3), (wrap64 (x7_2 + 1)), (by first | rfl | (simp; done) | (simp [*]; done)), H', ⟨by have := HK1.out; have := HK2.out; have := HK3.out; omega⟩, ⟨by (with_reducible repeat (first | apply Kd.V_alloc | apply Kd.V_drewN | apply Kd.V_drew)); exact HO_5.out⟩, ⟨bkl BK214⟩, ⟨bkl BK215⟩, ⟨bel2 HB GE214 GE215⟩⟩
    rw [if_pos c15] at H
    have c15b0 : decide (x8_3 < x7_2) = true := decide_eq_true c15
    clear c15
    by_cases c16 : 0 ≤ x6_1
    rotate_left
    ·rw [if_neg c16] at H
     exact absurd H (by simp)
    rw [if_pos c16] at H
    have c16b0 : decide (0 ≤ x6_1) = true := decide_eq_true c16
    clear c16
    by_cases c17 : x6_1 < (l1_1.length : Int)
    rotate_left
    ·rw [if_neg c17] at H
     exact absurd H (by simp)
    rw [if_pos c17] at H
    have c17b0 : decide (x6_1 < (l1_1.length : Int)) = true := decide_eq_true c17
    clear c17
    by_cases c18 : 0 ≤ x8_3
    rotate_left
    ·rw [if_neg c18] at H
     exact absurd H (by simp)
    rw [if_pos c18] at H
    have c18b0 : decide (0 ≤ x8_3) = true := decide_eq_true c18
    clear c18
    by_cases c19 : x8_3 < ((rd_L2 l1_1 x6_1).length : Int)
    rotate_left
    ·rw [if_neg c19] at H
     exact absurd H (by simp)
    rw [if_pos c19] at H
    have c19b0 : decide (x8_3 < ((rd_L2 l1_1 x6_1).length : Int)) = true := decide_eq_true c19
    clear c19
    obtain ⟨ji20, hji20⟩ : ∃ j_ : Int, (wrap64 ((rd (rd_L2 l1_1 x6_1) x8_3) - 1)) = j_ := ⟨_, rfl⟩
    replace H : (if 0 ≤ (ji20) then (if (ji20) < (l0_2.length : Int) then (if 0 ≤ x7_2 then (if x7_2 < ((rd_L2 l1_1 x6_1).length : Int) then (if 0 ≤ (wrap64 ((rd (rd_L2 l1_1 x6_1) x7_2) - 1)) then (if (wrap64 ((rd (rd_L2 l1_1 x6_1) x7_2) - 1)) < (l0_2.length : Int) then (if (rd l0_2 (ji20)) < (rd l0_2 (wrap64 ((rd (rd_L2 l1_1 x6_1) x7_2) - 1))) then ((spec_l1Put.f k3 x5_3 (rd (rd_L2 l1_1 x6_1) x7_2)).bind fun t228 => (spec_l10Shifted.l2 k3 t228 x6_1 x7_2 (wrap64 (x8_3 + 1)) a0_0 a0_1 l0_2 a1_0 l1_1)) else (spec_l10Shifted.l2 k3 x5_3 x6_1 x7_2 (wrap64 (x8_3 + 1)) a0_0 a0_1 l0_2 a1_0 l1_1)) else (none)) else (none)) else (none)) else (none)) else (none)) else (none)) = some r := by first | (rw [hji20] at H; exact H) | (simp only [hji20] at H ⊢; exact H)
    have hji20w : (IntKind.i64.wrap ((rd (rd_L2 l1_1 x6_1) x8_3) - 1)) = ji20 := (i64_w _).trans hji20
    by_cases c21 : 0 ≤ (ji20)
    rotate_left
    ·rw [if_neg c21] at H
     exact absurd H (by simp)
    rw [if_pos c21] at H
    have c21b0 : decide (0 ≤ (ji20)) = true := decide_eq_true c21
    clear c21
    by_cases c22 : (ji20) < (l0_2.length : Int)
    rotate_left
    ·rw [if_neg c22] at H
     exact absurd H (by simp)
    rw [if_pos c22] at H
    have c22b0 : decide ((ji20) < (l0_2.length : Int)) = true := decide_eq_true c22
    clear c22
    by_cases c23 : 0 ≤ x7_2
    rotate_left
    ·rw [if_neg c23] at H
     exact absurd H (by simp)
    rw [if_pos c23] at H
    have c23b0 : decide (0 ≤ x7_2) = true := decide_eq_true c23
    clear c23
    by_cases c24 : x7_2 < ((rd_L2 l1_1 x6_1).length : Int)
    rotate_left
    ·rw [if_neg c24] at H
     exact absurd H (by simp)
    rw [if_pos c24] at H
    have c24b0 : decide (x7_2 < ((rd_L2 l1_1 x6_1).length : Int)) = true := decide_eq_true c24
    clear c24
    obtain ⟨ji25, hji25⟩ : ∃ j_ : Int, (wrap64 ((rd (rd_L2 l1_1 x6_1) x7_2) - 1)) = j_ := ⟨_, rfl⟩
    replace H : (if 0 ≤ (ji25) then (if (ji25) < (l0_2.length : Int) then (if (rd l0_2 (ji20)) < (rd l0_2 (ji25)) then ((spec_l1Put.f k3 x5_3 (rd (rd_L2 l1_1 x6_1) x7_2)).bind fun t228 => (spec_l10Shifted.l2 k3 t228 x6_1 x7_2 (wrap64 (x8_3 + 1)) a0_0 a0_1 l0_2 a1_0 l1_1)) else (spec_l10Shifted.l2 k3 x5_3 x6_1 x7_2 (wrap64 (x8_3 + 1)) a0_0 a0_1 l0_2 a1_0 l1_1)) else (none)) else (none)) = some r := by first | (rw [hji25] at H; exact H) | (simp only [hji25] at H ⊢; exact H)
    have hji25w : (IntKind.i64.wrap ((rd (rd_L2 l1_1 x6_1) x7_2) - 1)) = ji25 := (i64_w _).trans hji25
    by_cases c26 : 0 ≤ (ji25)
    rotate_left
    ·rw [if_neg c26] at H
     exact absurd H (by simp)
    rw [if_pos c26] at H
    have c26b0 : decide (0 ≤ (ji25)) = true := decide_eq_true c26
    clear c26
    by_cases c27 : (ji25) < (l0_2.length : Int)
    rotate_left
    ·rw [if_neg c27] at H
     exact absurd H (by simp)
    rw [if_pos c27] at H
    have c27b0 : decide ((ji25) < (l0_2.length : Int)) = true := decide_eq_true c27
    clear c27
    by_cases c28 : (rd l0_2 (ji20)) < (rd l0_2 (ji25))
    rotate_left
    ·rw [if_neg c28] at H
     have c28b0 : decide ((rd l0_2 (ji20)) < (rd l0_2 (ji25))) = false := decide_eq_false c28
     clear c28
     have H' := Aside0.mk H
     clear H
     have hnb35 := NB214_215.out
     have hnc35 := NB215_214.out
     have hcz36_0 : wr.cell? ⟨gb214, 0, none⟩ = some (.int .i64 a0_0) := (blk_cell BK214.out 0).trans rfl
     have hcz36_1 : wr.cell? ⟨gb214, 1, none⟩ = some (.int .i64 a0_1) := (blk_cell BK214.out 1).trans rfl
     have hcz36_2 : wr.cell? ⟨gb214, 2, none⟩ = some (.slice A0_2 l0_2.length c0_2) := (blk_cell BK214.out 2).trans rfl
     have hfz36_0 := blk_frozen BK214.out 0
     have hfz36_1 := blk_frozen BK214.out 1
     have hfz36_2 := blk_frozen BK214.out 2
     have hcz37_0 : wr.cell? ⟨gb215, 0, none⟩ = some (.int .i64 a1_0) := (blk_cell BK215.out 0).trans rfl
     have hcz37_1 : wr.cell? ⟨gb215, 1, none⟩ = some (.slice (some ad219) l1_1.length c1_1) := (blk_cell BK215.out 1).trans rfl
     have hfz37_0 := blk_frozen BK215.out 0
     have hfz37_1 := blk_frozen BK215.out 1
     have p220 : 0 ≤ (x6_1 : Int) := oda
     have q220 : x6_1 < (l1_1.length : Int) := oda
     obtain ⟨ad220, A220_0, c220_0, e220, hx220_0, hl220_0, hi220_0⟩ := at_L2 HR1_1.out x6_1 p220 q220
     obtain rfl : ad219 = ad220 := (by injection e220)
     replace hx220_0 := cel HB hx220_0
     have HR220_0 := Aside0.mk hi220_0
     have HC220_0 := Aside0.mk hl220_0
     clear hi220_0 hl220_0
     replace p220 := eq_true p220
     replace q220 := eq_true q220
     have p221 : 0 ≤ (x8_3 : Int) := oda
     have q221 : x8_3 < ((rd_L2 l1_1 x6_1).length : Int) := oda
     obtain ⟨ad221, e221, hx221_0⟩ := Kd.at_int HR220_0.out x8_3 p221 q221
     cases e221
     replace hx221_0 := cel HB hx221_0
     replace p221 := eq_true p221
     replace q221 := eq_true q221
     have p222 : 0 ≤ ((ji20) : Int) := oda
     have q222 : (ji20) < (l0_2.length : Int) := oda
     obtain ⟨ad222, e222, hx222_0⟩ := Kd.at_int HR0_2.out (ji20) p222 q222
     cases e222
     replace hx222_0 := cel HB hx222_0
     replace p222 := eq_true p222
     replace q222 := eq_true q222
     have p223 : 0 ≤ (x6_1 : Int) := oda
     have q223 : x6_1 < (l1_1.length : Int) := oda
     obtain ⟨ad223, A223_0, c223_0, e223, hx223_0, hl223_0, hi223_0⟩ := at_L2 HR1_1.out x6_1 p223 q223
     obtain rfl : ad219 = ad223 := (by injection e223)
     replace hx223_0 := cel HB hx223_0
     have HR223_0 := Aside0.mk hi223_0
     have HC223_0 := Aside0.mk hl223_0
     clear hi223_0 hl223_0
     replace p223 := eq_true p223
     replace q223 := eq_true q223
     have ea_ := Option.some.inj (hx220_0.symm.trans hx223_0)
     injection ea_ with ea_ en_ ec_
     subst ea_
     subst ec_
     clear en_
     have p224 : 0 ≤ (x7_2 : Int) := oda
     have q224 : x7_2 < ((rd_L2 l1_1 x6_1).length : Int) := oda
     obtain ⟨ad224, e224, hx224_0⟩ := Kd.at_int HR223_0.out x7_2 p224 q224
     cases e224
     replace hx224_0 := cel HB hx224_0
     replace p224 := eq_true p224
     replace q224 := eq_true q224
     have p225 : 0 ≤ ((ji25) : Int) := oda
     have q225 : (ji25) < (l0_2.length : Int) := oda
     obtain ⟨ad225, e225, hx225_0⟩ := Kd.at_int HR0_2.out (ji25) p225 q225
     obtain rfl : ad222 = ad225 := (by injection e225)
     replace hx225_0 := cel HB hx225_0
     replace p225 := eq_true p225
     replace q225 := eq_true q225
     go_wp2
     repeat (go_quiet (fail); try go_wp2)
     go_roundg k3
     case measure => have := HK1.out; have := HK2.out; have := HK3.out; omega
     case rel => exact ⟨(x5_3), (wrap64 (x8_3 + 1)), (by first | rfl | (simp; done) | (simp [*]; done)), H', ⟨by have := HK1.out; have := HK2.out; have := HK3.out; omega⟩, ⟨by (with_reducible repeat (first | apply Kd.V_alloc | apply Kd.V_drewN | apply Kd.V_drew)); exact HO_5.out⟩, ⟨bkl BK214⟩, ⟨bkl BK215⟩, ⟨bel2 HB GE214 GE215⟩⟩
    rw [if_pos c28] at H
    have c28b0 : decide ((rd l0_2 (ji20)) < (rd l0_2 (ji25))) = true := decide_eq_true c28
    clear c28
    replace H := Option.bind_eq_some_iff.mp H
    obtain ⟨t228, A290, H⟩ := H
    replace H : (spec_l10Shifted.l2 k3 t228 x6_1 x7_2 (wrap64 (x8_3 + 1)) a0_0 a0_1 l0_2 a1_0 l1_1) = some r := H
    have A29 := Aside0.mk A290
    clear A290
    have H' := Aside0.mk H
    clear H
    have hnb30 := NB214_215.out
    have hnc30 := NB215_214.out
    have hcz31_0 : wr.cell? ⟨gb214, 0, none⟩ = some (.int .i64 a0_0) := (blk_cell BK214.out 0).trans rfl
    have hcz31_1 : wr.cell? ⟨gb214, 1, none⟩ = some (.int .i64 a0_1) := (blk_cell BK214.out 1).trans rfl
    have hcz31_2 : wr.cell? ⟨gb214, 2, none⟩ = some (.slice A0_2 l0_2.length c0_2) := (blk_cell BK214.out 2).trans rfl
    have hfz31_0 := blk_frozen BK214.out 0
    have hfz31_1 := blk_frozen BK214.out 1
    have hfz31_2 := blk_frozen BK214.out 2
    have hcz32_0 : wr.cell? ⟨gb215, 0, none⟩ = some (.int .i64 a1_0) := (blk_cell BK215.out 0).trans rfl
    have hcz32_1 : wr.cell? ⟨gb215, 1, none⟩ = some (.slice (some ad219) l1_1.length c1_1) := (blk_cell BK215.out 1).trans rfl
    have hfz32_0 := blk_frozen BK215.out 0
    have hfz32_1 := blk_frozen BK215.out 1
    have p220 : 0 ≤ (x6_1 : Int) := oda
    have q220 : x6_1 < (l1_1.length : Int) := oda
    obtain ⟨ad220, A220_0, c220_0, e220, hx220_0, hl220_0, hi220_0⟩ := at_L2 HR1_1.out x6_1 p220 q220
    obtain rfl : ad219 = ad220 := (by injection e220)
    replace hx220_0 := cel HB hx220_0
    have HR220_0 := Aside0.mk hi220_0
    have HC220_0 := Aside0.mk hl220_0
    clear hi220_0 hl220_0
    replace p220 := eq_true p220
    replace q220 := eq_true q220
    have p221 : 0 ≤ (x8_3 : Int) := oda
    have q221 : x8_3 < ((rd_L2 l1_1 x6_1).length : Int) := oda
    obtain ⟨ad221, e221, hx221_0⟩ := Kd.at_int HR220_0.out x8_3 p221 q221
    cases e221
    replace hx221_0 := cel HB hx221_0
    replace p221 := eq_true p221
    replace q221 := eq_true q221
    have p222 : 0 ≤ ((ji20) : Int) := oda
    have q222 : (ji20) < (l0_2.length : Int) := oda
    obtain ⟨ad222, e222, hx222_0⟩ := Kd.at_int HR0_2.out (ji20) p222 q222
    cases e222
    replace hx222_0 := cel HB hx222_0
    replace p222 := eq_true p222
    replace q222 := eq_true q222
    have p223 : 0 ≤ (x6_1 : Int) := oda
    have q223 : x6_1 < (l1_1.length : Int) := oda
    obtain ⟨ad223, A223_0, c223_0, e223, hx223_0, hl223_0, hi223_0⟩ := at_L2 HR1_1.out x6_1 p223 q223
    obtain rfl : ad219 = ad223 := (by injection e223)
    replace hx223_0 := cel HB hx223_0
    have HR223_0 := Aside0.mk hi223_0
    have HC223_0 := Aside0.mk hl223_0
    clear hi223_0 hl223_0
    replace p223 := eq_true p223
    replace q223 := eq_true q223
    have ea_ := Option.some.inj (hx220_0.symm.trans hx223_0)
    injection ea_ with ea_ en_ ec_
    subst ea_
    subst ec_
    clear en_
    have p224 : 0 ≤ (x7_2 : Int) := oda
    have q224 : x7_2 < ((rd_L2 l1_1 x6_1).length : Int) := oda
    obtain ⟨ad224, e224, hx224_0⟩ := Kd.at_int HR223_0.out x7_2 p224 q224
    cases e224
    replace hx224_0 := cel HB hx224_0
    replace p224 := eq_true p224
    replace q224 := eq_true q224
    have p225 : 0 ≤ ((ji25) : Int) := oda
    have q225 : (ji25) < (l0_2.length : Int) := oda
    obtain ⟨ad225, e225, hx225_0⟩ := Kd.at_int HR0_2.out (ji25) p225 q225
    obtain rfl : ad222 = ad225 := (by injection e225)
    replace hx225_0 := cel HB hx225_0
    replace p225 := eq_true p225
    replace q225 := eq_true q225
    have p226 : 0 ≤ (x6_1 : Int) := oda
    have q226 : x6_1 < (l1_1.length : Int) := oda
    obtain ⟨ad226, A226_0, c226_0, e226, hx226_0, hl226_0, hi226_0⟩ := at_L2 HR1_1.out x6_1 p226 q226
    obtain rfl : ad219 = ad226 := (by injection e226)
    replace hx226_0 := cel HB hx226_0
    have HR226_0 := Aside0.mk hi226_0
    have HC226_0 := Aside0.mk hl226_0
    clear hi226_0 hl226_0
    replace p226 := eq_true p226
    replace q226 := eq_true q226
    have ea_ := Option.some.inj (hx220_0.symm.trans hx226_0)
    injection ea_ with ea_ en_ ec_
    subst ea_
    subst ec_
    clear en_
    have p227 : 0 ≤ (x7_2 : Int) := oda
    have q227 : x7_2 < ((rd_L2 l1_1 x6_1).length : Int) := oda
    obtain ⟨ad227, e227, hx227_0⟩ := Kd.at_int HR226_0.out x7_2 p227 q227
    cases e227
    replace hx227_0 := cel HB hx227_0
    replace p227 := eq_true p227
    replace q227 := eq_true q227
    obtain ⟨Ao33, co33, eo33⟩ := Kd.V_slice HO_5.out
    subst eo33
    go_wp2_with (first | (go_at_call 32; (with_reducible refine (spec_l1Put.calls k3 (fun k_ => ((w.heap.size ≤ k_) ∧ (k_ ≠ gb214 ∧ k_ ≠ gb215))) _ _ x5_3 (rd (rd_L2 l1_1 x6_1) x7_2) t228 _ ?side1 A29.out).mono ?_); (case side1 => exact HO_5.out); rintro e w34 ⟨v229, rfl, ho0, hb⟩; have n0_ := Aside0.mk (Kd.V_below (vdl HO_5) hb); have n1_ := Aside0.mk (Kd.V_lower (Kd.V_mono (ok' := fun k_ => (w.heap.size ≤ k_) ∧ k_ ≠ gb214 ∧ k_ ≠ gb215) ho0 (fun k_ hk_ => ⟨Or.elim hk_ (fun hs_ => hs_.1) (fun hn_ => (Nat.le_trans (below_size (bel2 HB GE214 GE215)) hn_)), Or.elim hk_ (fun hs_ => hs_.2.1) (fun hn_ => (Kd.freshB (g := gb214) (o := .cells #[.int .i64 a0_0, .int .i64 a0_1, .slice (some ad222) l0_2.length c0_2] 26 (0, 0)) (bkl BK214) k_ hn_)), Or.elim hk_ (fun hs_ => hs_.2.2) (fun hn_ => (Kd.freshB (g := gb215) (o := .cells #[.int .i64 a1_0, .slice (some ad219) l1_1.length c1_1] 45 (0, 0)) (bkl BK215) k_ hn_))⟩)) (below_size (bel2 HB GE214 GE215))); have n2_ := Aside0.mk (blk_below (g := gb214) (o := .cells #[.int .i64 a0_0, .int .i64 a0_1, .slice (some ad222) l0_2.length c0_2] 26 (0, 0)) (bkl BK214) hb); have n3_ := Aside0.mk (blk_below (g := gb215) (o := .cells #[.int .i64 a1_0, .slice (some ad219) l1_1.length c1_1] 45 (0, 0)) (bkl BK215) hb); have n4_ := Aside0.mk (below_step (bel2 HB GE214 GE215) hb); clear HO_5; clear BK214; clear BK215; clear HB; have HO_5 := n0_; have HO230 := n1_; have BK214 := n2_; have BK215 := n3_; have HB := n4_; clear n0_ n1_ n2_ n3_ n4_; (try clear hb); (try clear hb2); (try clear hk); (try clear hi); (try clear ho0)))
    repeat (go_quiet (first | (go_at_call 32; (with_reducible refine (spec_l1Put.calls k3 (fun k_ => ((w.heap.size ≤ k_) ∧ (k_ ≠ gb214 ∧ k_ ≠ gb215))) _ _ x5_3 (rd (rd_L2 l1_1 x6_1) x7_2) t228 _ ?side1 A29.out).mono ?_); (case side1 => exact HO_5.out); rintro e w34 ⟨v229, rfl, ho0, hb⟩; have n0_ := Aside0.mk (Kd.V_below (vdl HO_5) hb); have n1_ := Aside0.mk (Kd.V_lower (Kd.V_mono (ok' := fun k_ => (w.heap.size ≤ k_) ∧ k_ ≠ gb214 ∧ k_ ≠ gb215) ho0 (fun k_ hk_ => ⟨Or.elim hk_ (fun hs_ => hs_.1) (fun hn_ => (Nat.le_trans (below_size (bel2 HB GE214 GE215)) hn_)), Or.elim hk_ (fun hs_ => hs_.2.1) (fun hn_ => (Kd.freshB (g := gb214) (o := .cells #[.int .i64 a0_0, .int .i64 a0_1, .slice (some ad222) l0_2.length c0_2] 26 (0, 0)) (bkl BK214) k_ hn_)), Or.elim hk_ (fun hs_ => hs_.2.2) (fun hn_ => (Kd.freshB (g := gb215) (o := .cells #[.int .i64 a1_0, .slice (some ad219) l1_1.length c1_1] 45 (0, 0)) (bkl BK215) k_ hn_))⟩)) (below_size (bel2 HB GE214 GE215))); have n2_ := Aside0.mk (blk_below (g := gb214) (o := .cells #[.int .i64 a0_0, .int .i64 a0_1, .slice (some ad222) l0_2.length c0_2] 26 (0, 0)) (bkl BK214) hb); have n3_ := Aside0.mk (blk_below (g := gb215) (o := .cells #[.int .i64 a1_0, .slice (some ad219) l1_1.length c1_1] 45 (0, 0)) (bkl BK215) hb); have n4_ := Aside0.mk (below_step (bel2 HB GE214 GE215) hb); clear HO_5; clear BK214; clear BK215; clear HB; have HO_5 := n0_; have HO230 := n1_; have BK214 := n2_; have BK215 := n3_; have HB := n4_; clear n0_ n1_ n2_ n3_ n4_; (try clear hb); (try clear hb2); (try clear hk); (try clear hi); (try clear ho0))); try go_wp2_with (first | (go_at_call 32; (with_reducible refine (spec_l1Put.calls k3 (fun k_ => ((w.heap.size ≤ k_) ∧ (k_ ≠ gb214 ∧ k_ ≠ gb215))) _ _ x5_3 (rd (rd_L2 l1_1 x6_1) x7_2) t228 _ ?side1 A29.out).mono ?_); (case side1 => exact HO_5.out); rintro e w34 ⟨v229, rfl, ho0, hb⟩; have n0_ := Aside0.mk (Kd.V_below (vdl HO_5) hb); have n1_ := Aside0.mk (Kd.V_lower (Kd.V_mono (ok' := fun k_ => (w.heap.size ≤ k_) ∧ k_ ≠ gb214 ∧ k_ ≠ gb215) ho0 (fun k_ hk_ => ⟨Or.elim hk_ (fun hs_ => hs_.1) (fun hn_ => (Nat.le_trans (below_size (bel2 HB GE214 GE215)) hn_)), Or.elim hk_ (fun hs_ => hs_.2.1) (fun hn_ => (Kd.freshB (g := gb214) (o := .cells #[.int .i64 a0_0, .int .i64 a0_1, .slice (some ad222) l0_2.length c0_2] 26 (0, 0)) (bkl BK214) k_ hn_)), Or.elim hk_ (fun hs_ => hs_.2.2) (fun hn_ => (Kd.freshB (g := gb215) (o := .cells #[.int .i64 a1_0, .slice (some ad219) l1_1.length c1_1] 45 (0, 0)) (bkl BK215) k_ hn_))⟩)) (below_size (bel2 HB GE214 GE215))); have n2_ := Aside0.mk (blk_below (g := gb214) (o := .cells #[.int .i64 a0_0, .int .i64 a0_1, .slice (some ad222) l0_2.length c0_2] 26 (0, 0)) (bkl BK214) hb); have n3_ := Aside0.mk (blk_below (g := gb215) (o := .cells #[.int .i64 a1_0, .slice (some ad219) l1_1.length c1_1] 45 (0, 0)) (bkl BK215) hb); have n4_ := Aside0.mk (below_step (bel2 HB GE214 GE215) hb); clear HO_5; clear BK214; clear BK215; clear HB; have HO_5 := n0_; have HO230 := n1_; have BK214 := n2_; have BK215 := n3_; have HB := n4_; clear n0_ n1_ n2_ n3_ n4_; (try clear hb); (try clear hb2); (try clear hk); (try clear hi); (try clear ho0))))
    go_roundg k3
    case measure => have := HK1.out; have := HK2.out; have := HK3.out; omega
    case rel => exact ⟨(t228), (wrap64 (x8_3 + 1)), (by first | rfl | (simp; done) | (simp [*]; done)), H', ⟨by have := HK1.out; have := HK2.out; have := HK3.out; omega⟩, ⟨by (with_reducible repeat (first | apply Kd.V_alloc | apply Kd.V_drewN | apply Kd.V_drew)); exact HO230.out⟩, ⟨bkl BK214⟩, ⟨bkl BK215⟩, ⟨bel2 HB GE214 GE215⟩⟩
/-! ### spec_l10Free: function 50 -/
def spec_l10Free.l0 : Nat → List Int → Int → Int → Int → Int → List Int → Option (Bool)
 | 0, _, _, _, _, _, _ => none
 | k + 1, x1, x2, x7, x232000, x232001, x232002 => if x7 < (x1.length : Int) then (if 0 ≤ x7 then (if 0 ≤ (wrap64 ((rd x1 x7) - 1)) then (if (wrap64 ((rd x1 x7) - 1)) < (x232002.length : Int) then (if (rd x232002 (wrap64 ((rd x1 x7) - 1))) < x2 then (some false) else (spec_l10Free.l0 k x1 x2 (wrap64 (x7 + 1)) x232000 x232001 x232002)) else (none)) else (none)) else (none)) else (some true)
def spec_l10Free.f (k : Nat) (a0_0 : Int) (a0_1 : Int) (l0_2 : List Int) (l1 : List Int) (a2 : Int) : Option (Bool) := spec_l10Free.l0 k l1 a2 0 a0_0 a0_1 l0_2
theorem spec_l10Free.mono_l : ∀ k, (∀ y0 y1 y2 y3 y4 y5, LeO (spec_l10Free.l0 k y0 y1 y2 y3 y4 y5) (spec_l10Free.l0 (k + 1) y0 y1 y2 y3 y4 y5))
 | 0 => fun _ _ _ _ _ _ r h => by simp [spec_l10Free.l0] at h
 | k + 1 => by
  have ih0 := spec_l10Free.mono_l k
  ·intro y0 y1 y2 y3 y4 y5
   unfold spec_l10Free.l0
   repeat' first
   | (with_reducible exact ih0 _ _ _ _ _ _)
   | (with_reducible exact LeO.refl _)
   | (with_reducible exact LeO.none _)
   | (with_reducible refine LeO.ite ?_ ?_)
   | (with_reducible refine LeO.bind ?_ (fun _ => ?_))
   | exact ih0 _ _ _ _ _ _
   | exact LeO.none _
   | refine LeO.ite ?_ ?_
   | refine LeO.bind ?_ (fun _ => ?_)
theorem spec_l10Free.mono : ∀ a0 a1 a2 a3 a4 k, LeO (spec_l10Free.f k a0 a1 a2 a3 a4) (spec_l10Free.f (k + 1) a0 a1 a2 a3 a4) := by
 intro a0 a1 a2 a3 a4 k
 have ih0 := spec_l10Free.mono_l k
 unfold spec_l10Free.f
 repeat' first
   | (with_reducible exact ih0 _ _ _ _ _ _)
   | (with_reducible exact LeO.refl _)
   | (with_reducible exact LeO.none _)
   | (with_reducible refine LeO.ite ?_ ?_)
   | (with_reducible refine LeO.bind ?_ (fun _ => ?_))
   | exact ih0 _ _ _ _ _ _
   | exact LeO.none _
   | refine LeO.ite ?_ ?_
   | refine LeO.bind ?_ (fun _ => ?_)
set_option maxHeartbeats 8000000 in
set_option maxRecDepth 100000 in
theorem spec_l10Free.calls (k : Nat) (a0_0 : Int) (a0_1 : Int) (A0_2 : Option Addr) (c0_2 : Nat) (l0_2 : List Int) (A1 : Option Addr) (c1 : Nat) (l1 : List Int) (a2 : Int) (r : Bool) (w : World) (hr0_2 : Kd.C (Kd.int .i64) w A0_2 l0_2.length l0_2) (hc0_2 : l0_2.length ≤ c0_2) (hr1 : Kd.C (Kd.int .i64) w A1 l1.length l1) (hc1 : l1.length ≤ c1) (h : spec_l10Free.f k a0_0 a0_1 l0_2 l1 a2 = some r) :
  Calls Try.prog 50 #[.agg #[.int .i64 a0_0, .int .i64 a0_1, .slice A0_2 l0_2.length c0_2], .slice A1 l1.length c1, .int .i64 a2] w fun e w' => e = .returned (.bool r) ∧ Below w.heap.size w w' := by
 have hu26 := Try.underlying26
 have HR0_2 := Aside0.mk hr0_2
 have HC0_2 := Aside0.mk hc0_2
 clear hr0_2 hc0_2
 have HR1 := Aside0.mk hr1
 have HC1 := Aside0.mk hc1
 clear hr1 hc1
 have HB := Aside0.mk (Below.refl w.heap.size w)
 have H : (spec_l10Free.l0 k l1 a2 0 a0_0 a0_1 l0_2) = some r := h
 clear h
 have H' := Aside0.mk H
 clear H
 go_enter Try.func50, Try.ntmps50
 go_wp2_with (first | ((with_reducible refine gate_dst (N := 3) rfl ?_); refine box_event ?hg (N := 3) ?hd (cs := #[.int .i64 a0_0, .int .i64 a0_1, .slice A0_2 l0_2.length c0_2]) (t := 26) ?hr ?_; (case hd => rfl); (case hg => rfl); (case hr => first | (go_simp; done) | (go_simp; rfl)); intro gb231 hg w4 hbox hb; have n0_ := Aside0.mk (below_step (bel HB) hb); have n1_ := Aside0.mk (hbox); have n2_ := Aside0.mk ((by rw [hg]; exact (below_size (bel HB)) : w.heap.size ≤ gb231)); have n3_ := Aside0.mk ((by rw [hg]; exact (below_size (bel HB)) : w.heap.size ≤ gb231)); clear HB; have HB := n0_; have BK231 := n1_; have GW231 := n2_; have GE231 := n3_; clear n0_ n1_ n2_ n3_; clear hb hbox hg))
 repeat (go_quiet (first | ((with_reducible refine gate_dst (N := 3) rfl ?_); refine box_event ?hg (N := 3) ?hd (cs := #[.int .i64 a0_0, .int .i64 a0_1, .slice A0_2 l0_2.length c0_2]) (t := 26) ?hr ?_; (case hd => rfl); (case hg => rfl); (case hr => first | (go_simp; done) | (go_simp; rfl)); intro gb231 hg w4 hbox hb; have n0_ := Aside0.mk (below_step (bel HB) hb); have n1_ := Aside0.mk (hbox); have n2_ := Aside0.mk ((by rw [hg]; exact (below_size (bel HB)) : w.heap.size ≤ gb231)); have n3_ := Aside0.mk ((by rw [hg]; exact (below_size (bel HB)) : w.heap.size ≤ gb231)); clear HB; have HB := n0_; have BK231 := n1_; have GW231 := n2_; have GE231 := n3_; clear n0_ n1_ n2_ n3_; clear hb hbox hg)); try go_wp2_with (first | ((with_reducible refine gate_dst (N := 3) rfl ?_); refine box_event ?hg (N := 3) ?hd (cs := #[.int .i64 a0_0, .int .i64 a0_1, .slice A0_2 l0_2.length c0_2]) (t := 26) ?hr ?_; (case hd => rfl); (case hg => rfl); (case hr => first | (go_simp; done) | (go_simp; rfl)); intro gb231 hg w4 hbox hb; have n0_ := Aside0.mk (below_step (bel HB) hb); have n1_ := Aside0.mk (hbox); have n2_ := Aside0.mk ((by rw [hg]; exact (below_size (bel HB)) : w.heap.size ≤ gb231)); have n3_ := Aside0.mk ((by rw [hg]; exact (below_size (bel HB)) : w.heap.size ≤ gb231)); clear HB; have HB := n0_; have BK231 := n1_; have GW231 := n2_; have GE231 := n3_; clear n0_ n1_ n2_ n3_; clear hb hbox hg)))
 go_loopg [7] k (fun kq v7 w' => ∃ (x7_1 : Int), v7 = .int .i64 x7_1 ∧ Aside0 (spec_l10Free.l0 kq l1 a2 x7_1 a0_0 a0_1 l0_2 = some r) ∧ Aside0 (kq ≤ k) ∧ Aside0 (w'.heap[gb231]? = some (.cells #[.int .i64 a0_0, .int .i64 a0_1, (.slice A0_2 l0_2.length c0_2)] 26 (0, 0))) ∧ Aside0 (Below w.heap.size w w'))
 case atStart => exact ⟨(0), (by first | rfl | (simp; done) | (simp [*]; done)), H', ⟨Nat.le_refl _⟩, ⟨bkl BK231⟩, ⟨bel1 HB GE231⟩⟩
 clear H'
 try clear c1
 try clear p2
 obtain ⟨x7_1, rfl, HA, HK1, BK231, HB⟩ := hrel
 cases gk with
 | zero => exact absurd HA.out (by simp [spec_l10Free.l0])
 | succ k1 =>
  have H := HA.out
  clear HA
  simp only [spec_l10Free.l0] at H
  by_cases c5 : x7_1 < (l1.length : Int)
  rotate_left
  ·rw [if_neg c5] at H
   have c5b0 : decide (x7_1 < (l1.length : Int)) = false := decide_eq_false c5
   clear c5
   obtain rfl := Option.some.inj H
   go_wp2
   repeat (go_quiet (fail); try go_wp2)
   go_ret
   exact ⟨by first | rfl | (simp [errW_none, errW_some] <;> rfl) | (simp [*, errW_none, errW_some] <;> rfl), bel1 HB GE231⟩
  rw [if_pos c5] at H
  have c5b0 : decide (x7_1 < (l1.length : Int)) = true := decide_eq_true c5
  clear c5
  by_cases c6 : 0 ≤ x7_1
  rotate_left
  ·rw [if_neg c6] at H
   exact absurd H (by simp)
  rw [if_pos c6] at H
  have c6b0 : decide (0 ≤ x7_1) = true := decide_eq_true c6
  clear c6
  obtain ⟨ji7, hji7⟩ : ∃ j_ : Int, (wrap64 ((rd l1 x7_1) - 1)) = j_ := ⟨_, rfl⟩
  replace H : (if 0 ≤ (ji7) then (if (ji7) < (l0_2.length : Int) then (if (rd l0_2 (ji7)) < a2 then (some false) else (spec_l10Free.l0 k1 l1 a2 (wrap64 (x7_1 + 1)) a0_0 a0_1 l0_2)) else (none)) else (none)) = some r := by first | (rw [hji7] at H; exact H) | (simp only [hji7] at H ⊢; exact H)
  have hji7w : (IntKind.i64.wrap ((rd l1 x7_1) - 1)) = ji7 := (i64_w _).trans hji7
  by_cases c8 : 0 ≤ (ji7)
  rotate_left
  ·rw [if_neg c8] at H
   exact absurd H (by simp)
  rw [if_pos c8] at H
  have c8b0 : decide (0 ≤ (ji7)) = true := decide_eq_true c8
  clear c8
  by_cases c9 : (ji7) < (l0_2.length : Int)
  rotate_left
  ·rw [if_neg c9] at H
   exact absurd H (by simp)
  rw [if_pos c9] at H
  have c9b0 : decide ((ji7) < (l0_2.length : Int)) = true := decide_eq_true c9
  clear c9
  by_cases c10 : (rd l0_2 (ji7)) < a2
  ·rw [if_pos c10] at H
   have c10b0 : decide ((rd l0_2 (ji7)) < a2) = true := decide_eq_true c10
   clear c10
   obtain rfl := Option.some.inj H
   have hcz11_0 : wr.cell? ⟨gb231, 0, none⟩ = some (.int .i64 a0_0) := (blk_cell BK231.out 0).trans rfl
   have hcz11_1 : wr.cell? ⟨gb231, 1, none⟩ = some (.int .i64 a0_1) := (blk_cell BK231.out 1).trans rfl
   have hcz11_2 : wr.cell? ⟨gb231, 2, none⟩ = some (.slice A0_2 l0_2.length c0_2) := (blk_cell BK231.out 2).trans rfl
   have hfz11_0 := blk_frozen BK231.out 0
   have hfz11_1 := blk_frozen BK231.out 1
   have hfz11_2 := blk_frozen BK231.out 2
   have p232 : 0 ≤ (x7_1 : Int) := oda
   have q232 : x7_1 < (l1.length : Int) := oda
   obtain ⟨ad232, e232, hx232_0⟩ := Kd.at_int HR1.out x7_1 p232 q232
   cases e232
   replace hx232_0 := cel HB hx232_0
   replace p232 := eq_true p232
   replace q232 := eq_true q232
   have p233 : 0 ≤ ((ji7) : Int) := oda
   have q233 : (ji7) < (l0_2.length : Int) := oda
   obtain ⟨ad233, e233, hx233_0⟩ := Kd.at_int HR0_2.out (ji7) p233 q233
   cases e233
   replace hx233_0 := cel HB hx233_0
   replace p233 := eq_true p233
   replace q233 := eq_true q233
   go_wp2
   repeat (go_quiet (fail); try go_wp2)
   go_ret
   exact ⟨by first | rfl | (simp [errW_none, errW_some] <;> rfl) | (simp only [← hji7]; first | rfl | (simp [errW_none, errW_some] <;> rfl)) | (simp [*, errW_none, errW_some] <;> rfl), bel1 HB GE231⟩
  rw [if_neg c10] at H
  have c10b0 : decide ((rd l0_2 (ji7)) < a2) = false := decide_eq_false c10
  clear c10
  have H' := Aside0.mk H
  clear H
  have hcz12_0 : wr.cell? ⟨gb231, 0, none⟩ = some (.int .i64 a0_0) := (blk_cell BK231.out 0).trans rfl
  have hcz12_1 : wr.cell? ⟨gb231, 1, none⟩ = some (.int .i64 a0_1) := (blk_cell BK231.out 1).trans rfl
  have hcz12_2 : wr.cell? ⟨gb231, 2, none⟩ = some (.slice A0_2 l0_2.length c0_2) := (blk_cell BK231.out 2).trans rfl
  have hfz12_0 := blk_frozen BK231.out 0
  have hfz12_1 := blk_frozen BK231.out 1
  have hfz12_2 := blk_frozen BK231.out 2
  have p232 : 0 ≤ (x7_1 : Int) := oda
  have q232 : x7_1 < (l1.length : Int) := oda
  obtain ⟨ad232, e232, hx232_0⟩ := Kd.at_int HR1.out x7_1 p232 q232
  cases e232
  replace hx232_0 := cel HB hx232_0
  replace p232 := eq_true p232
  replace q232 := eq_true q232
  have p233 : 0 ≤ ((ji7) : Int) := oda
  have q233 : (ji7) < (l0_2.length : Int) := oda
  obtain ⟨ad233, e233, hx233_0⟩ := Kd.at_int HR0_2.out (ji7) p233 q233
  cases e233
  replace hx233_0 := cel HB hx233_0
  replace p233 := eq_true p233
  replace q233 := eq_true q233
  go_wp2
  repeat (go_quiet (fail); try go_wp2)
  go_roundg k1
  case measure => have := HK1.out; omega
  case rel => exact ⟨(wrap64 (x7_1 + 1)), (by first | rfl | (simp; done) | (simp [*]; done)), H', ⟨by have := HK1.out; omega⟩, ⟨bkl BK231⟩, ⟨bel1 HB GE231⟩⟩
end Go.Proofs.Ytipahijdcgoemaa.P
