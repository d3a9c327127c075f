-- Written by a program of this session over the translation (a variant of the printer, see wip/gen); Lean checks it.
import Derived.Test.YtipahijdcgoemaaPx0
import Derived.Test.YtipahijdcgoemaaPx4
namespace Go.Proofs.Ytipahijdcgoemaa.P
open Go.RowKit Go.Proofs.YtipahijdcgoemaaW.PrintWords Go.Proofs.YtipahijdcgoemaaW.PrintLast Go.Proofs.YtipahijdcgoemaaW.PrintMore
attribute [local go_sem] Go.Proofs.Ytipahijdcgoemaa.V.isSome_setCell max2_int min2_int max_two min_two max_three min_three max_four min_four
set_option linter.unusedVariables false
set_option linter.unusedSimpArgs false
/-! ### spec_l10Shifted: function 45 -/
mutual
def spec_l10Shifted.l0 : Nat → List Int → Int → Int → Int → List Int → Int → List (List Int) → Option (List Int)
 | 0, _, _, _, _, _, _, _ => none
 | k + 1, x5, x6, x186000, x186001, x186002, x187000, x187001 => if x6 < (x187001.length : Int) then (spec_l10Shifted.l1 k x5 x6 0 x186000 x186001 x186002 x187000 x187001) else (some x5)
def spec_l10Shifted.l1 : Nat → List Int → Int → Int → Int → Int → List Int → Int → List (List Int) → Option (List Int)
 | 0, _, _, _, _, _, _, _, _ => none
 | k + 1, x5, x6, x7, x186000, x186001, x186002, x187000, x187001 => if 0 ≤ x6 then (if x6 < (x187001.length : Int) then (if x7 < ((rd_L2 x187001 x6).length : Int) then (spec_l10Shifted.l2 k x5 x6 x7 0 x186000 x186001 x186002 x187000 x187001) else (spec_l10Shifted.l0 k x5 (wrap64 (x6 + 1)) x186000 x186001 x186002 x187000 x187001)) else (none)) else (none)
def spec_l10Shifted.l2 : Nat → List Int → Int → Int → Int → Int → Int → List Int → Int → List (List Int) → Option (List Int)
 | 0, _, _, _, _, _, _, _, _, _ => none
 | k + 1, x5, x6, x7, x8, x186000, x186001, x186002, x187000, x187001 => if x8 < x7 then (if 0 ≤ x6 then (if x6 < (x187001.length : Int) then (if 0 ≤ x8 then (if x8 < ((rd_L2 x187001 x6).length : Int) then (if 0 ≤ (wrap64 ((rd (rd_L2 x187001 x6) x8) - 1)) then (if (wrap64 ((rd (rd_L2 x187001 x6) x8) - 1)) < (x186002.length : Int) then (if 0 ≤ x7 then (if x7 < ((rd_L2 x187001 x6).length : Int) then (if 0 ≤ (wrap64 ((rd (rd_L2 x187001 x6) x7) - 1)) then (if (wrap64 ((rd (rd_L2 x187001 x6) x7) - 1)) < (x186002.length : Int) then (if (rd x186002 (wrap64 ((rd (rd_L2 x187001 x6) x8) - 1))) < (rd x186002 (wrap64 ((rd (rd_L2 x187001 x6) x7) - 1))) then ((spec_l1Put.f k x5 (rd (rd_L2 x187001 x6) x7)).bind fun t199 => (spec_l10Shifted.l2 k t199 x6 x7 (wrap64 (x8 + 1)) x186000 x186001 x186002 x187000 x187001)) else (spec_l10Shifted.l2 k x5 x6 x7 (wrap64 (x8 + 1)) x186000 x186001 x186002 x187000 x187001)) else (none)) else (none)) else (none)) else (none)) else (none)) else (none)) else (none)) else (none)) else (none)) else (none)) else (spec_l10Shifted.l1 k x5 x6 (wrap64 (x7 + 1)) x186000 x186001 x186002 x187000 x187001)
end
def spec_l10Shifted.f (k : Nat) (a0_0 : Int) (a0_1 : Int) (l0_2 : List Int) (a1_0 : Int) (l1_1 : List (List Int)) : Option (List Int) := spec_l10Shifted.l0 k (([] : List Int)) 0 a0_0 a0_1 l0_2 a1_0 l1_1
theorem spec_l10Shifted.mono_l : ∀ k, (∀ y0 y1 y2 y3 y4 y5 y6, LeO (spec_l10Shifted.l0 k y0 y1 y2 y3 y4 y5 y6) (spec_l10Shifted.l0 (k + 1) y0 y1 y2 y3 y4 y5 y6)) ∧ (∀ y0 y1 y2 y3 y4 y5 y6 y7, LeO (spec_l10Shifted.l1 k y0 y1 y2 y3 y4 y5 y6 y7) (spec_l10Shifted.l1 (k + 1) y0 y1 y2 y3 y4 y5 y6 y7)) ∧ (∀ y0 y1 y2 y3 y4 y5 y6 y7 y8, LeO (spec_l10Shifted.l2 k y0 y1 y2 y3 y4 y5 y6 y7 y8) (spec_l10Shifted.l2 (k + 1) y0 y1 y2 y3 y4 y5 y6 y7 y8))
 | 0 => ⟨fun _ _ _ _ _ _ _ r h => by simp [spec_l10Shifted.l0] at h, fun _ _ _ _ _ _ _ _ r h => by simp [spec_l10Shifted.l1] at h, fun _ _ _ _ _ _ _ _ _ r h => by simp [spec_l10Shifted.l2] at h⟩
 | k + 1 => by
  obtain ⟨ih0, ih1, ih2⟩ := spec_l10Shifted.mono_l k
  refine ⟨?_, ?_, ?_⟩
  ·intro y0 y1 y2 y3 y4 y5 y6
   unfold spec_l10Shifted.l0
   repeat' first
   | (with_reducible exact ih0 _ _ _ _ _ _ _)
   | (with_reducible exact ih1 _ _ _ _ _ _ _ _)
   | (with_reducible exact ih2 _ _ _ _ _ _ _ _ _)
   | (with_reducible exact spec_l1Put.mono _ _ _)
   | (with_reducible exact LeO.refl _)
   | (with_reducible exact LeO.none _)
   | (with_reducible refine LeO.ite ?_ ?_)
   | (with_reducible refine LeO.bind ?_ (fun _ => ?_))
   | exact ih0 _ _ _ _ _ _ _
   | exact ih1 _ _ _ _ _ _ _ _
   | exact ih2 _ _ _ _ _ _ _ _ _
   | exact spec_l1Put.mono _ _ _
   | exact LeO.none _
   | refine LeO.ite ?_ ?_
   | refine LeO.bind ?_ (fun _ => ?_)
  ·intro y0 y1 y2 y3 y4 y5 y6 y7
   unfold spec_l10Shifted.l1
   repeat' first
   | (with_reducible exact ih0 _ _ _ _ _ _ _)
   | (with_reducible exact ih1 _ _ _ _ _ _ _ _)
   | (with_reducible exact ih2 _ _ _ _ _ _ _ _ _)
   | (with_reducible exact spec_l1Put.mono _ _ _)
   | (with_reducible exact LeO.refl _)
   | (with_reducible exact LeO.none _)
   | (with_reducible refine LeO.ite ?_ ?_)
   | (with_reducible refine LeO.bind ?_ (fun _ => ?_))
   | exact ih0 _ _ _ _ _ _ _
   | exact ih1 _ _ _ _ _ _ _ _
   | exact ih2 _ _ _ _ _ _ _ _ _
   | exact spec_l1Put.mono _ _ _
   | exact LeO.none _
   | refine LeO.ite ?_ ?_
   | refine LeO.bind ?_ (fun _ => ?_)
  ·intro y0 y1 y2 y3 y4 y5 y6 y7 y8
   unfold spec_l10Shifted.l2
   repeat' first
   | (with_reducible exact ih0 _ _ _ _ _ _ _)
   | (with_reducible exact ih1 _ _ _ _ _ _ _ _)
   | (with_reducible exact ih2 _ _ _ _ _ _ _ _ _)
   | (with_reducible exact spec_l1Put.mono _ _ _)
   | (with_reducible exact LeO.refl _)
   | (with_reducible exact LeO.none _)
   | (with_reducible refine LeO.ite ?_ ?_)
   | (with_reducible refine LeO.bind ?_ (fun _ => ?_))
   | exact ih0 _ _ _ _ _ _ _
   | exact ih1 _ _ _ _ _ _ _ _
   | exact ih2 _ _ _ _ _ _ _ _ _
   | exact spec_l1Put.mono _ _ _
   | exact LeO.none _
   | refine LeO.ite ?_ ?_
   | refine LeO.bind ?_ (fun _ => ?_)
theorem spec_l10Shifted.mono : ∀ a0 a1 a2 a3 a4 k, LeO (spec_l10Shifted.f k a0 a1 a2 a3 a4) (spec_l10Shifted.f (k + 1) a0 a1 a2 a3 a4) := by
 intro a0 a1 a2 a3 a4 k
 obtain ⟨ih0, ih1, ih2⟩ := spec_l10Shifted.mono_l k
 unfold spec_l10Shifted.f
 repeat' first
   | (with_reducible exact ih0 _ _ _ _ _ _ _)
   | (with_reducible exact ih1 _ _ _ _ _ _ _ _)
   | (with_reducible exact ih2 _ _ _ _ _ _ _ _ _)
   | (with_reducible exact spec_l1Put.mono _ _ _)
   | (with_reducible exact LeO.refl _)
   | (with_reducible exact LeO.none _)
   | (with_reducible refine LeO.ite ?_ ?_)
   | (with_reducible refine LeO.bind ?_ (fun _ => ?_))
   | exact ih0 _ _ _ _ _ _ _
   | exact ih1 _ _ _ _ _ _ _ _
   | exact ih2 _ _ _ _ _ _ _ _ _
   | exact spec_l1Put.mono _ _ _
   | exact LeO.none _
   | refine LeO.ite ?_ ?_
   | refine LeO.bind ?_ (fun _ => ?_)
set_option maxHeartbeats 8000000 in
set_option maxRecDepth 100000 in
theorem spec_l10Shifted.calls (k : Nat) (a0_0 : Int) (a0_1 : Int) (A0_2 : Option Addr) (c0_2 : Nat) (l0_2 : List Int) (a1_0 : Int) (A1_1 : Option Addr) (c1_1 : Nat) (l1_1 : List (List Int)) (r : List Int) (w : World) (hr0_2 : Kd.C (Kd.int .i64) w A0_2 l0_2.length l0_2) (hc0_2 : l0_2.length ≤ c0_2) (hr1_1 : Kd.C (Kd.slice 3 (Kd.int .i64)) w A1_1 l1_1.length l1_1) (hc1_1 : l1_1.length ≤ c1_1) (h : spec_l10Shifted.f k a0_0 a0_1 l0_2 a1_0 l1_1 = some r) :
  Calls Try.prog 45 #[.agg #[.int .i64 a0_0, .int .i64 a0_1, .slice A0_2 l0_2.length c0_2], .agg #[.int .i64 a1_0, .slice A1_1 l1_1.length c1_1]] w fun e w' => ∃ v0_ : Value, e = .returned (v0_) ∧ Kd.V (Kd.int .i64) 3 w' w.heap.size (fun k_ => (w.heap.size ≤ k_)) v0_ r ∧ Below w.heap.size w w' := by
 have hu26 := Try.underlying26
 have hu45 := Try.underlying45
 have HR0_2 := Aside0.mk hr0_2
 have HC0_2 := Aside0.mk hc0_2
 clear hr0_2 hc0_2
 have HR1_1 := Aside0.mk hr1_1
 have HC1_1 := Aside0.mk hc1_1
 clear hr1_1 hc1_1
 have HB := Aside0.mk (Below.refl w.heap.size w)
 have H : (spec_l10Shifted.l0 k (([] : List Int)) 0 a0_0 a0_1 l0_2 a1_0 l1_1) = some r := h
 clear h
 obtain ⟨y187, hy187⟩ : ∃ y_ : List Int, y_ = (([] : List Int)) := ⟨_, rfl⟩
 replace H : (spec_l10Shifted.l0 k y187 0 a0_0 a0_1 l0_2 a1_0 l1_1) = some r := by first | (rw [hy187]; with_reducible exact H) | (have H2_ := (Option.bind_some _ _).symm.trans H; rw [hy187]; with_reducible exact H2_) | (have H2_ := (Option.bind_some _ _).symm.trans H; with_reducible exact H2_) | with_reducible exact H | (rw [hy187]; exact H) | exact H
 have Ny187 := Aside0.mk hy187
 clear hy187
 have H' := Aside0.mk H
 clear H
 go_enter Try.func45, Try.ntmps45
 go_wp2_with (first | ((with_reducible refine gate_dst (N := 2) rfl ?_); refine box_event ?hg (N := 2) ?hd (cs := #[.int .i64 a0_0, .int .i64 a0_1, .slice A0_2 l0_2.length c0_2]) (t := 26) ?hr ?_; (case hd => rfl); (case hg => rfl); (case hr => first | (go_simp; done) | (go_simp; rfl)); intro gb185 hg w3 hbox hb; have n0_ := Aside0.mk (below_step (bel HB) hb); have n1_ := Aside0.mk (hbox); have n2_ := Aside0.mk ((by rw [hg]; exact (below_size (bel HB)) : w.heap.size ≤ gb185)); have n3_ := Aside0.mk ((by rw [hg]; exact (below_size (bel HB)) : w.heap.size ≤ gb185)); clear HB; have HB := n0_; have BK185 := n1_; have GW185 := n2_; have GE185 := n3_; clear n0_ n1_ n2_ n3_; clear hb hbox hg) | ((with_reducible refine gate_dst (N := 3) rfl ?_); refine box_event ?hg (N := 3) ?hd (cs := #[.int .i64 a1_0, .slice A1_1 l1_1.length c1_1]) (t := 45) ?hr ?_; (case hd => rfl); (case hg => rfl); (case hr => first | (go_simp; done) | (go_simp; rfl)); intro gb186 hg w4 hbox hb; have n0_ := Aside0.mk (blk_below (g := gb185) (o := .cells #[.int .i64 a0_0, .int .i64 a0_1, .slice A0_2 l0_2.length c0_2] 26 (0, 0)) (bkl BK185) hb); have n1_ := Aside0.mk (below_step (bel1 HB GE185) hb); have n2_ := Aside0.mk (hbox); have n3_ := Aside0.mk ((by rw [hg]; exact (below_size (bel1 HB GE185)) : w.heap.size ≤ gb186)); have n4_ := Aside0.mk ((by rw [hg]; exact (below_size (bel1 HB GE185)) : w.heap.size ≤ gb186)); have n5_ := Aside0.mk ((by rw [hg]; exact Nat.ne_of_lt (blk_lt (g := gb185) (o := .cells #[.int .i64 a0_0, .int .i64 a0_1, .slice A0_2 l0_2.length c0_2] 26 (0, 0)) (bkl BK185)) : gb185 ≠ gb186)); have n6_ := Aside0.mk ((by rw [hg]; exact Nat.ne_of_gt (blk_lt (g := gb185) (o := .cells #[.int .i64 a0_0, .int .i64 a0_1, .slice A0_2 l0_2.length c0_2] 26 (0, 0)) (bkl BK185)) : gb186 ≠ gb185)); clear BK185; clear HB; have BK185 := n0_; have HB := n1_; have BK186 := n2_; have GW186 := n3_; have GE186 := n4_; have NB185_186 := n5_; have NB186_185 := n6_; clear n0_ n1_ n2_ n3_ n4_ n5_ n6_; clear hb hbox hg) | ((with_reducible refine gate_dst (N := 9) rfl ?_); refine Kd.R_lit (Kd.int .i64) _ 3 ?hg (N := 9) ?hd (xs := ([] : List Int)) (inner := []) (ok := fun _ => True) (okp := fun _ => True) ?hr ?hp (fun _ hk => hk) trivial (Below.refl _ _) (Nat.le_refl _) (by simp) ?_; (case hd => rfl); (case hg => rfl); (case hr => first | (go_simp; done) | (go_simp; rfl)); (case hp => exact (Reps.none _ _)); intro v188 w5 ho6 hb hg_ hnew_; clear hg_ hnew_; (first | rw [← Ny187.out] at ho6 | (simp only [Int.reduceToNat] at ho6; rw [← Ny187.out] at ho6)); have n0_ := Aside0.mk (Kd.R_lower (Kd.R_newM (M := fun k_ => (w.heap.size ≤ k_)) ho6 (below_size (bel2 HB GE185 GE186)) (fun k_ h_ => h_)) (below_size (bel2 HB GE185 GE186))); have n1_ := Aside0.mk (blk_below (g := gb185) (o := .cells #[.int .i64 a0_0, .int .i64 a0_1, .slice A0_2 l0_2.length c0_2] 26 (0, 0)) (bkl BK185) hb); have n2_ := Aside0.mk (blk_below (g := gb186) (o := .cells #[.int .i64 a1_0, .slice A1_1 l1_1.length c1_1] 45 (0, 0)) (bkl BK186) hb); have n3_ := Aside0.mk (below_step (bel2 HB GE185 GE186) hb); clear BK185; clear BK186; clear HB; have HO189 := n0_; have BK185 := n1_; have BK186 := n2_; have HB := n3_; clear n0_ n1_ n2_ n3_; clear hb ho6))
 repeat (go_quiet (first | ((with_reducible refine gate_dst (N := 2) rfl ?_); refine box_event ?hg (N := 2) ?hd (cs := #[.int .i64 a0_0, .int .i64 a0_1, .slice A0_2 l0_2.length c0_2]) (t := 26) ?hr ?_; (case hd => rfl); (case hg => rfl); (case hr => first | (go_simp; done) | (go_simp; rfl)); intro gb185 hg w3 hbox hb; have n0_ := Aside0.mk (below_step (bel HB) hb); have n1_ := Aside0.mk (hbox); have n2_ := Aside0.mk ((by rw [hg]; exact (below_size (bel HB)) : w.heap.size ≤ gb185)); have n3_ := Aside0.mk ((by rw [hg]; exact (below_size (bel HB)) : w.heap.size ≤ gb185)); clear HB; have HB := n0_; have BK185 := n1_; have GW185 := n2_; have GE185 := n3_; clear n0_ n1_ n2_ n3_; clear hb hbox hg) | ((with_reducible refine gate_dst (N := 3) rfl ?_); refine box_event ?hg (N := 3) ?hd (cs := #[.int .i64 a1_0, .slice A1_1 l1_1.length c1_1]) (t := 45) ?hr ?_; (case hd => rfl); (case hg => rfl); (case hr => first | (go_simp; done) | (go_simp; rfl)); intro gb186 hg w4 hbox hb; have n0_ := Aside0.mk (blk_below (g := gb185) (o := .cells #[.int .i64 a0_0, .int .i64 a0_1, .slice A0_2 l0_2.length c0_2] 26 (0, 0)) (bkl BK185) hb); have n1_ := Aside0.mk (below_step (bel1 HB GE185) hb); have n2_ := Aside0.mk (hbox); have n3_ := Aside0.mk ((by rw [hg]; exact (below_size (bel1 HB GE185)) : w.heap.size ≤ gb186)); have n4_ := Aside0.mk ((by rw [hg]; exact (below_size (bel1 HB GE185)) : w.heap.size ≤ gb186)); have n5_ := Aside0.mk ((by rw [hg]; exact Nat.ne_of_lt (blk_lt (g := gb185) (o := .cells #[.int .i64 a0_0, .int .i64 a0_1, .slice A0_2 l0_2.length c0_2] 26 (0, 0)) (bkl BK185)) : gb185 ≠ gb186)); have n6_ := Aside0.mk ((by rw [hg]; exact Nat.ne_of_gt (blk_lt (g := gb185) (o := .cells #[.int .i64 a0_0, .int .i64 a0_1, .slice A0_2 l0_2.length c0_2] 26 (0, 0)) (bkl BK185)) : gb186 ≠ gb185)); clear BK185; clear HB; have BK185 := n0_; have HB := n1_; have BK186 := n2_; have GW186 := n3_; have GE186 := n4_; have NB185_186 := n5_; have NB186_185 := n6_; clear n0_ n1_ n2_ n3_ n4_ n5_ n6_; clear hb hbox hg) | ((with_reducible refine gate_dst (N := 9) rfl ?_); refine Kd.R_lit (Kd.int .i64) _ 3 ?hg (N := 9) ?hd (xs := ([] : List Int)) (inner := []) (ok := fun _ => True) (okp := fun _ => True) ?hr ?hp (fun _ hk => hk) trivial (Below.refl _ _) (Nat.le_refl _) (by simp) ?_; (case hd => rfl); (case hg => rfl); (case hr => first | (go_simp; done) | (go_simp; rfl)); (case hp => exact (Reps.none _ _)); intro v188 w5 ho6 hb hg_ hnew_; clear hg_ hnew_; (first | rw [← Ny187.out] at ho6 | (simp only [Int.reduceToNat] at ho6; rw [← Ny187.out] at ho6)); have n0_ := Aside0.mk (Kd.R_lower (Kd.R_newM (M := fun k_ => (w.heap.size ≤ k_)) ho6 (below_size (bel2 HB GE185 GE186)) (fun k_ h_ => h_)) (below_size (bel2 HB GE185 GE186))); have n1_ := Aside0.mk (blk_below (g := gb185) (o := .cells #[.int .i64 a0_0, .int .i64 a0_1, .slice A0_2 l0_2.length c0_2] 26 (0, 0)) (bkl BK185) hb); have n2_ := Aside0.mk (blk_below (g := gb186) (o := .cells #[.int .i64 a1_0, .slice A1_1 l1_1.length c1_1] 45 (0, 0)) (bkl BK186) hb); have n3_ := Aside0.mk (below_step (bel2 HB GE185 GE186) hb); clear BK185; clear BK186; clear HB; have HO189 := n0_; have BK185 := n1_; have BK186 := n2_; have HB := n3_; clear n0_ n1_ n2_ n3_; clear hb ho6)); try go_wp2_with (first | ((with_reducible refine gate_dst (N := 2) rfl ?_); refine box_event ?hg (N := 2) ?hd (cs := #[.int .i64 a0_0, .int .i64 a0_1, .slice A0_2 l0_2.length c0_2]) (t := 26) ?hr ?_; (case hd => rfl); (case hg => rfl); (case hr => first | (go_simp; done) | (go_simp; rfl)); intro gb185 hg w3 hbox hb; have n0_ := Aside0.mk (below_step (bel HB) hb); have n1_ := Aside0.mk (hbox); have n2_ := Aside0.mk ((by rw [hg]; exact (below_size (bel HB)) : w.heap.size ≤ gb185)); have n3_ := Aside0.mk ((by rw [hg]; exact (below_size (bel HB)) : w.heap.size ≤ gb185)); clear HB; have HB := n0_; have BK185 := n1_; have GW185 := n2_; have GE185 := n3_; clear n0_ n1_ n2_ n3_; clear hb hbox hg) | ((with_reducible refine gate_dst (N := 3) rfl ?_); refine box_event ?hg (N := 3) ?hd (cs := #[.int .i64 a1_0, .slice A1_1 l1_1.length c1_1]) (t := 45) ?hr ?_; (case hd => rfl); (case hg => rfl); (case hr => first | (go_simp; done) | (go_simp; rfl)); intro gb186 hg w4 hbox hb; have n0_ := Aside0.mk (blk_below (g := gb185) (o := .cells #[.int .i64 a0_0, .int .i64 a0_1, .slice A0_2 l0_2.length c0_2] 26 (0, 0)) (bkl BK185) hb); have n1_ := Aside0.mk (below_step (bel1 HB GE185) hb); have n2_ := Aside0.mk (hbox); have n3_ := Aside0.mk ((by rw [hg]; exact (below_size (bel1 HB GE185)) : w.heap.size ≤ gb186)); have n4_ := Aside0.mk ((by rw [hg]; exact (below_size (bel1 HB GE185)) : w.heap.size ≤ gb186)); have n5_ := Aside0.mk ((by rw [hg]; exact Nat.ne_of_lt (blk_lt (g := gb185) (o := .cells #[.int .i64 a0_0, .int .i64 a0_1, .slice A0_2 l0_2.length c0_2] 26 (0, 0)) (bkl BK185)) : gb185 ≠ gb186)); have n6_ := Aside0.mk ((by rw [hg]; exact Nat.ne_of_gt (blk_lt (g := gb185) (o := .cells #[.int .i64 a0_0, .int .i64 a0_1, .slice A0_2 l0_2.length c0_2] 26 (0, 0)) (bkl BK185)) : gb186 ≠ gb185)); clear BK185; clear HB; have BK185 := n0_; have HB := n1_; have BK186 := n2_; have GW186 := n3_; have GE186 := n4_; have NB185_186 := n5_; have NB186_185 := n6_; clear n0_ n1_ n2_ n3_ n4_ n5_ n6_; clear hb hbox hg) | ((with_reducible refine gate_dst (N := 9) rfl ?_); refine Kd.R_lit (Kd.int .i64) _ 3 ?hg (N := 9) ?hd (xs := ([] : List Int)) (inner := []) (ok := fun _ => True) (okp := fun _ => True) ?hr ?hp (fun _ hk => hk) trivial (Below.refl _ _) (Nat.le_refl _) (by simp) ?_; (case hd => rfl); (case hg => rfl); (case hr => first | (go_simp; done) | (go_simp; rfl)); (case hp => exact (Reps.none _ _)); intro v188 w5 ho6 hb hg_ hnew_; clear hg_ hnew_; (first | rw [← Ny187.out] at ho6 | (simp only [Int.reduceToNat] at ho6; rw [← Ny187.out] at ho6)); have n0_ := Aside0.mk (Kd.R_lower (Kd.R_newM (M := fun k_ => (w.heap.size ≤ k_)) ho6 (below_size (bel2 HB GE185 GE186)) (fun k_ h_ => h_)) (below_size (bel2 HB GE185 GE186))); have n1_ := Aside0.mk (blk_below (g := gb185) (o := .cells #[.int .i64 a0_0, .int .i64 a0_1, .slice A0_2 l0_2.length c0_2] 26 (0, 0)) (bkl BK185) hb); have n2_ := Aside0.mk (blk_below (g := gb186) (o := .cells #[.int .i64 a1_0, .slice A1_1 l1_1.length c1_1] 45 (0, 0)) (bkl BK186) hb); have n3_ := Aside0.mk (below_step (bel2 HB GE185 GE186) hb); clear BK185; clear BK186; clear HB; have HO189 := n0_; have BK185 := n1_; have BK186 := n2_; have HB := n3_; clear n0_ n1_ n2_ n3_; clear hb ho6)))
 go_loopg [5, 6] k (fun kq v5 v6 w' => ∃ (x5_1 : List Int) (x6_1 : Int), v6 = .int .i64 x6_1 ∧ Aside0 (spec_l10Shifted.l0 kq x5_1 x6_1 a0_0 a0_1 l0_2 a1_0 l1_1 = some r) ∧ Aside0 (kq ≤ k) ∧ Aside0 (Kd.V (Kd.int .i64) 3 w' w.heap.size (fun k_ => (w.heap.size ≤ k_) ∧ k_ ≠ gb185 ∧ k_ ≠ gb186) v5 x5_1) ∧ Aside0 (w'.heap[gb185]? = some (.cells #[.int .i64 a0_0, .int .i64 a0_1, (.slice A0_2 l0_2.length c0_2)] 26 (0, 0))) ∧ Aside0 (w'.heap[gb186]? = some (.cells #[.int .i64 a1_0, (.slice A1_1 l1_1.length c1_1)] 45 (0, 0))) ∧ Aside0 (Below w.heap.size w w'))
 case atStart => exact ⟨(y187), (0), (by first | rfl | (simp; done) | (simp [*]; done)), H', ⟨Nat.le_refl _⟩, ⟨Kd.R_V (by (with_reducible repeat (first | apply Kd.R_alloc | apply Kd.R_drewN | apply Kd.R_drew)); exact Kd.R_mono (Kd.R_types (Kd.R_types HO189.out BK185.out (by decide)) BK186.out (by decide)) (fun _ hk => ⟨hk.1.1.1, ⟨hk.1.2, hk.2⟩⟩))⟩, ⟨bkl BK185⟩, ⟨bkl BK186⟩, ⟨bel2 HB GE185 GE186⟩⟩
 clear H'
 try clear c1
 try clear p2
 try clear c4
 obtain ⟨x5_1, x6_1, rfl, HA, HK1, HO_5, BK185, BK186, HB⟩ := hrel
 cases gk with
 | zero => exact absurd HA.out (by simp [spec_l10Shifted.l0])
 | succ k1 =>
  have H := HA.out
  clear HA
  simp only [spec_l10Shifted.l0] at H
  by_cases c7 : x6_1 < (l1_1.length : Int)
  rotate_left
  ·rw [if_neg c7] at H
   have c7b0 : decide (x6_1 < (l1_1.length : Int)) = false := decide_eq_false c7
   clear c7
   obtain rfl := Option.some.inj H
   have hnb40 := NB186_185.out
   have hnc40 := NB185_186.out
   have hcz41_0 : wr.cell? ⟨gb186, 0, none⟩ = some (.int .i64 a1_0) := (blk_cell BK186.out 0).trans rfl
   have hcz41_1 : wr.cell? ⟨gb186, 1, none⟩ = some (.slice A1_1 l1_1.length c1_1) := (blk_cell BK186.out 1).trans rfl
   have hfz41_0 := blk_frozen BK186.out 0
   have hfz41_1 := blk_frozen BK186.out 1
   go_wp2
   repeat (go_quiet (fail); try go_wp2)
   go_ret
   exact ⟨_, by first | rfl | (simp [errW_none, errW_some] <;> rfl) | (simp [*, errW_none, errW_some] <;> rfl), by (with_reducible repeat (first | apply Kd.V_alloc | apply Kd.V_drewN | apply Kd.V_drew)); exact Kd.V_mono HO_5.out (fun _ hk => hk.1), bel2 HB GE185 GE186⟩
  rw [if_pos c7] at H
  have c7b0 : decide (x6_1 < (l1_1.length : Int)) = true := decide_eq_true c7
  clear c7
  have H' := Aside0.mk H
  clear H
  have hnb8 := NB186_185.out
  have hnc8 := NB185_186.out
  have hcz9_0 : wr.cell? ⟨gb186, 0, none⟩ = some (.int .i64 a1_0) := (blk_cell BK186.out 0).trans rfl
  have hcz9_1 : wr.cell? ⟨gb186, 1, none⟩ = some (.slice A1_1 l1_1.length c1_1) := (blk_cell BK186.out 1).trans rfl
  have hfz9_0 := blk_frozen BK186.out 0
  have hfz9_1 := blk_frozen BK186.out 1
  go_wp2
  repeat (go_quiet (fail); try go_wp2)
  go_loopg [5, 7] k1 (fun kq v5 v7 w' => ∃ (x5_2 : List Int) (x7_2 : Int), v7 = .int .i64 x7_2 ∧ Aside0 (spec_l10Shifted.l1 kq x5_2 x6_1 x7_2 a0_0 a0_1 l0_2 a1_0 l1_1 = some r) ∧ Aside0 (kq ≤ k1) ∧ Aside0 (Kd.V (Kd.int .i64) 3 w' w.heap.size (fun k_ => (w.heap.size ≤ k_) ∧ k_ ≠ gb185 ∧ k_ ≠ gb186) v5 x5_2) ∧ Aside0 (w'.heap[gb185]? = some (.cells #[.int .i64 a0_0, .int .i64 a0_1, (.slice A0_2 l0_2.length c0_2)] 26 (0, 0))) ∧ Aside0 (w'.heap[gb186]? = some (.cells #[.int .i64 a1_0, (.slice A1_1 l1_1.length c1_1)] 45 (0, 0))) ∧ Aside0 (Below w.heap.size w w'))
  case atStart => exact ⟨(x5_1), (0), (by first | rfl | (simp; done) | (simp [*]; done)), H', ⟨Nat.le_refl _⟩, ⟨by (with_reducible repeat (first | apply Kd.V_alloc | apply Kd.V_drewN | apply Kd.V_drew)); exact HO_5.out⟩, ⟨bkl BK185⟩, ⟨bkl BK186⟩, ⟨bel2 HB GE185 GE186⟩⟩
  clear H'
  try clear c1
  try clear p2
  try clear c4
  try clear c7
  try clear c7b0
  try clear c8
  try clear hcz9_0
  try clear hcz9_1
  try clear hfz9_0
  try clear hfz9_1
  try clear p2
  obtain ⟨x5_2, x7_2, rfl, HA, HK2, HO_5, BK185, BK186, HB⟩ := hrel
  cases gk with
  | zero => exact absurd HA.out (by simp [spec_l10Shifted.l1])
  | succ k2 =>
   have H := HA.out
   clear HA
   simp only [spec_l10Shifted.l1] at H
   by_cases c10 : 0 ≤ x6_1
   rotate_left
   ·rw [if_neg c10] at H
    exact absurd H (by simp)
   rw [if_pos c10] at H
   have c10b0 : decide (0 ≤ x6_1) = true := decide_eq_true c10
   clear c10
   by_cases c11 : x6_1 < (l1_1.length : Int)
   rotate_left
   ·rw [if_neg c11] at H
    exact absurd H (by simp)
   rw [if_pos c11] at H
   have c11b0 : decide (x6_1 < (l1_1.length : Int)) = true := decide_eq_true c11
   clear c11
   by_cases c12 : x7_2 < ((rd_L2 l1_1 x6_1).length : Int)
   rotate_left
   ·rw [if_neg c12] at H
    have c12b0 : decide (x7_2 < ((rd_L2 l1_1 x6_1).length : Int)) = false := decide_eq_false c12
    clear c12
    have H' := Aside0.mk H
    clear H
    have hnb38 := NB186_185.out
    have hnc38 := NB185_186.out
    have hcz39_0 : wr.cell? ⟨gb186, 0, none⟩ = some (.int .i64 a1_0) := (blk_cell BK186.out 0).trans rfl
    have hcz39_1 : wr.cell? ⟨gb186, 1, none⟩ = some (.slice A1_1 l1_1.length c1_1) := (blk_cell BK186.out 1).trans rfl
    have hfz39_0 := blk_frozen BK186.out 0
    have hfz39_1 := blk_frozen BK186.out 1
    have p190 : 0 ≤ (x6_1 : Int) := oda
    have q190 : x6_1 < (l1_1.length : Int) := oda
    obtain ⟨ad190, A190_0, c190_0, e190, hx190_0, hl190_0, hi190_0⟩ := at_L2 HR1_1.out x6_1 p190 q190
    cases e190
    replace hx190_0 := cel HB hx190_0
    have HR190_0 := Aside0.mk hi190_0
    have HC190_0 := Aside0.mk hl190_0
    clear hi190_0 hl190_0
    replace p190 := eq_true p190
    replace q190 := eq_true q190
    go_wp2
    repeat (go_quiet (fail); try go_wp2)
    go_roundg k2
    case measure => have := HK1.out; have := HK2.out; omega
    case rel => exact ⟨(x5_2), (wrap64 (x6_1 + 1)), (by first | rfl | (simp; done) | (simp [*]; done)), H', ⟨by have := HK1.out; have := HK2.out; omega⟩, ⟨by (with_reducible repeat (first | apply Kd.V_alloc | apply Kd.V_drewN | apply Kd.V_drew)); exact HO_5.out⟩, ⟨bkl BK185⟩, ⟨bkl BK186⟩, ⟨bel2 HB GE185 GE186⟩⟩
   rw [if_pos c12] at H
   have c12b0 : decide (x7_2 < ((rd_L2 l1_1 x6_1).length : Int)) = true := decide_eq_true c12
   clear c12
   have H' := Aside0.mk H
   clear H
   have hnb13 := NB186_185.out
   have hnc13 := NB185_186.out
   have hcz14_0 : wr.cell? ⟨gb186, 0, none⟩ = some (.int .i64 a1_0) := (blk_cell BK186.out 0).trans rfl
   have hcz14_1 : wr.cell? ⟨gb186, 1, none⟩ = some (.slice A1_1 l1_1.length c1_1) := (blk_cell BK186.out 1).trans rfl
   have hfz14_0 := blk_frozen BK186.out 0
   have hfz14_1 := blk_frozen BK186.out 1
   have p190 : 0 ≤ (x6_1 : Int) := oda
   have q190 : x6_1 < (l1_1.length : Int) := oda
   obtain ⟨ad190, A190_0, c190_0, e190, hx190_0, hl190_0, hi190_0⟩ := at_L2 HR1_1.out x6_1 p190 q190
   cases e190
   replace hx190_0 := cel HB hx190_0
   have HR190_0 := Aside0.mk hi190_0
   have HC190_0 := Aside0.mk hl190_0
   clear hi190_0 hl190_0
   replace p190 := eq_true p190
   replace q190 := eq_true q190
   go_wp2
   repeat (go_quiet (fail); try go_wp2)
   go_loopg [5, 8] k2 (fun kq v5 v8 w' => ∃ (x5_3 : List Int) (x8_3 : Int), v8 = .int .i64 x8_3 ∧ Aside0 (spec_l10Shifted.l2 kq x5_3 x6_1 x7_2 x8_3 a0_0 a0_1 l0_2 a1_0 l1_1 = some r) ∧ Aside0 (kq ≤ k2) ∧ Aside0 (Kd.V (Kd.int .i64) 3 w' w.heap.size (fun k_ => (w.heap.size ≤ k_) ∧ k_ ≠ gb185 ∧ k_ ≠ gb186) v5 x5_3) ∧ Aside0 (w'.heap[gb185]? = some (.cells #[.int .i64 a0_0, .int .i64 a0_1, (.slice A0_2 l0_2.length c0_2)] 26 (0, 0))) ∧ Aside0 (w'.heap[gb186]? = some (.cells #[.int .i64 a1_0, (.slice (some ad190) l1_1.length c1_1)] 45 (0, 0))) ∧ Aside0 (Below w.heap.size w w'))
   case atStart => exact ⟨(x5_2), (0), (by first | rfl | (simp; done) | (simp [*]; done)), H', ⟨Nat.le_refl _⟩, ⟨by (with_reducible repeat (first | apply Kd.V_alloc | apply Kd.V_drewN | apply Kd.V_drew)); exact HO_5.out⟩, ⟨bkl BK185⟩, ⟨bkl BK186⟩, ⟨bel2 HB GE185 GE186⟩⟩
   clear H'
   try clear c1
   try clear p1
   try clear q1
   try clear hx1
   try clear p2
   try clear c4
   try clear c7
   try clear c7b0
   try clear c8
   try clear c10
   try clear c10b0
   try clear c11
   try clear c11b0
   try clear c12
   try clear c12b0
   try clear c13
   try clear hcz14_0
   try clear hcz14_1
   try clear hcz9_0
   try clear hcz9_1
   try clear hfz14_0
   try clear hfz14_1
   try clear hfz9_0
   try clear hfz9_1
   try clear hx190_0
   try clear p190
   try clear p2
   try clear q190
   obtain ⟨x5_3, x8_3, rfl, HA, HK3, HO_5, BK185, BK186, HB⟩ := hrel
   cases gk with
   | zero => exact absurd HA.out (by simp [spec_l10Shifted.l2])
   | succ k3 =>
    have H := HA.out
    clear HA
    simp only [spec_l10Shifted.l2] at H
    by_cases c15 : x8_3 < x7_2
    rotate_left
    ·rw [if_neg c15] at H
     have c15b0 : decide (x8_3 < x7_2) = false := decide_eq_false c15
     clear c15
     have H' := Aside0.mk H
     clear H
     go_wp2
     repeat (go_quiet (fail); try go_wp2)
     go_roundg k3
     case measure => have := HK1.out; have := HK2.out; have := HK3.out; omega
     case rel => exact ⟨(x5_3), (wrap64 (x7_2 + 1)), (by first | rfl | (simp; done) | (simp [*]; done)), H', ⟨by have := HK1.out; have := HK2.out; have := HK3.out; omega⟩, ⟨by (with_reducible repeat (first | apply Kd.V_alloc | apply Kd.V_drewN | apply Kd.V_drew)); exact HO_5.out⟩, ⟨bkl BK185⟩, ⟨bkl BK186⟩, ⟨bel2 HB GE185 GE186⟩⟩
    rw [if_pos c15] at H
    have c15b0 : decide (x8_3 < x7_2) = true := decide_eq_true c15
    clear c15
    by_cases c16 : 0 ≤ x6_1
    rotate_left
    ·rw [if_neg c16] at H
     exact absurd H (by simp)
    rw [if_pos c16] at H
    have c16b0 : decide (0 ≤ x6_1) = true := decide_eq_true c16
    clear c16
    by_cases c17 : x6_1 < (l1_1.length : Int)
    rotate_left
    ·rw [if_neg c17] at H
     exact absurd H (by simp)
    rw [if_pos c17] at H
    have c17b0 : decide (x6_1 < (l1_1.length : Int)) = true := decide_eq_true c17
    clear c17
    by_cases c18 : 0 ≤ x8_3
    rotate_left
    ·rw [if_neg c18] at H
     exact absurd H (by simp)
    rw [if_pos c18] at H
    have c18b0 : decide (0 ≤ x8_3) = true := decide_eq_true c18
    clear c18
    by_cases c19 : x8_3 < ((rd_L2 l1_1 x6_1).length : Int)
    rotate_left
    ·rw [if_neg c19] at H
     exact absurd H (by simp)
    rw [if_pos c19] at H
    have c19b0 : decide (x8_3 < ((rd_L2 l1_1 x6_1).length : Int)) = true := decide_eq_true c19
    clear c19
    obtain ⟨ji20, hji20⟩ : ∃ j_ : Int, (wrap64 ((rd (rd_L2 l1_1 x6_1) x8_3) - 1)) = j_ := ⟨_, rfl⟩
    replace H : (if 0 ≤ (ji20) then (if (ji20) < (l0_2.length : Int) then (if 0 ≤ x7_2 then (if x7_2 < ((rd_L2 l1_1 x6_1).length : Int) then (if 0 ≤ (wrap64 ((rd (rd_L2 l1_1 x6_1) x7_2) - 1)) then (if (wrap64 ((rd (rd_L2 l1_1 x6_1) x7_2) - 1)) < (l0_2.length : Int) then (if (rd l0_2 (ji20)) < (rd l0_2 (wrap64 ((rd (rd_L2 l1_1 x6_1) x7_2) - 1))) then ((spec_l1Put.f k3 x5_3 (rd (rd_L2 l1_1 x6_1) x7_2)).bind fun t199 => (spec_l10Shifted.l2 k3 t199 x6_1 x7_2 (wrap64 (x8_3 + 1)) a0_0 a0_1 l0_2 a1_0 l1_1)) else (spec_l10Shifted.l2 k3 x5_3 x6_1 x7_2 (wrap64 (x8_3 + 1)) a0_0 a0_1 l0_2 a1_0 l1_1)) else (none)) else (none)) else (none)) else (none)) else (none)) else (none)) = some r := by first | (rw [hji20] at H; exact H) | (simp only [hji20] at H ⊢; exact H)
    have hji20w : (IntKind.i64.wrap ((rd (rd_L2 l1_1 x6_1) x8_3) - 1)) = ji20 := (i64_w _).trans hji20
    by_cases c21 : 0 ≤ (ji20)
    rotate_left
    ·rw [if_neg c21] at H
     exact absurd H (by simp)
    rw [if_pos c21] at H
    have c21b0 : decide (0 ≤ (ji20)) = true := decide_eq_true c21
    clear c21
    by_cases c22 : (ji20) < (l0_2.length : Int)
    rotate_left
    ·rw [if_neg c22] at H
     exact absurd H (by simp)
    rw [if_pos c22] at H
    have c22b0 : decide ((ji20) < (l0_2.length : Int)) = true := decide_eq_true c22
    clear c22
    by_cases c23 : 0 ≤ x7_2
    rotate_left
    ·rw [if_neg c23] at H
     exact absurd H (by simp)
    rw [if_pos c23] at H
    have c23b0 : decide (0 ≤ x7_2) = true := decide_eq_true c23
    clear c23
    by_cases c24 : x7_2 < ((rd_L2 l1_1 x6_1).length : Int)
    rotate_left
    ·rw [if_neg c24] at H
     exact absurd H (by simp)
    rw [if_pos c24] at H
    have c24b0 : decide (x7_2 < ((rd_L2 l1_1 x6_1).length : Int)) = true := decide_eq_true c24
    clear c24
    obtain ⟨ji25, hji25⟩ : ∃ j_ : Int, (wrap64 ((rd (rd_L2 l1_1 x6_1) x7_2) - 1)) = j_ := ⟨_, rfl⟩
    replace H : (if 0 ≤ (ji25) then (if (ji25) < (l0_2.length : Int) then (if (rd l0_2 (ji20)) < (rd l0_2 (ji25)) then ((spec_l1Put.f k3 x5_3 (rd (rd_L2 l1_1 x6_1) x7_2)).bind fun t199 => (spec_l10Shifted.l2 k3 t199 x6_1 x7_2 (wrap64 (x8_3 + 1)) a0_0 a0_1 l0_2 a1_0 l1_1)) else (spec_l10Shifted.l2 k3 x5_3 x6_1 x7_2 (wrap64 (x8_3 + 1)) a0_0 a0_1 l0_2 a1_0 l1_1)) else (none)) else (none)) = some r := by first | (rw [hji25] at H; exact H) | (simp only [hji25] at H ⊢; exact H)
    have hji25w : (IntKind.i64.wrap ((rd (rd_L2 l1_1 x6_1) x7_2) - 1)) = ji25 := (i64_w _).trans hji25
    by_cases c26 : 0 ≤ (ji25)
    rotate_left
    ·rw [if_neg c26] at H
     exact absurd H (by simp)
    rw [if_pos c26] at H
    have c26b0 : decide (0 ≤ (ji25)) = true := decide_eq_true c26
    clear c26
    by_cases c27 : (ji25) < (l0_2.length : Int)
    rotate_left
    ·rw [if_neg c27] at H
     exact absurd H (by simp)
    rw [if_pos c27] at H
    have c27b0 : decide ((ji25) < (l0_2.length : Int)) = true := decide_eq_true c27
    clear c27
    by_cases c28 : (rd l0_2 (ji20)) < (rd l0_2 (ji25))
    rotate_left
    ·rw [if_neg c28] at H
     have c28b0 : decide ((rd l0_2 (ji20)) < (rd l0_2 (ji25))) = false := decide_eq_false c28
     clear c28
     have H' := Aside0.mk H
     clear H
     have hnb35 := NB185_186.out
     have hnc35 := NB186_185.out
     have hcz36_0 : wr.cell? ⟨gb185, 0, none⟩ = some (.int .i64 a0_0) := (blk_cell BK185.out 0).trans rfl
     have hcz36_1 : wr.cell? ⟨gb185, 1, none⟩ = some (.int .i64 a0_1) := (blk_cell BK185.out 1).trans rfl
     have hcz36_2 : wr.cell? ⟨gb185, 2, none⟩ = some (.slice A0_2 l0_2.length c0_2) := (blk_cell BK185.out 2).trans rfl
     have hfz36_0 := blk_frozen BK185.out 0
     have hfz36_1 := blk_frozen BK185.out 1
     have hfz36_2 := blk_frozen BK185.out 2
     have hcz37_0 : wr.cell? ⟨gb186, 0, none⟩ = some (.int .i64 a1_0) := (blk_cell BK186.out 0).trans rfl
     have hcz37_1 : wr.cell? ⟨gb186, 1, none⟩ = some (.slice (some ad190) l1_1.length c1_1) := (blk_cell BK186.out 1).trans rfl
     have hfz37_0 := blk_frozen BK186.out 0
     have hfz37_1 := blk_frozen BK186.out 1
     have p191 : 0 ≤ (x6_1 : Int) := oda
     have q191 : x6_1 < (l1_1.length : Int) := oda
     obtain ⟨ad191, A191_0, c191_0, e191, hx191_0, hl191_0, hi191_0⟩ := at_L2 HR1_1.out x6_1 p191 q191
     obtain rfl : ad190 = ad191 := (by injection e191)
     replace hx191_0 := cel HB hx191_0
     have HR191_0 := Aside0.mk hi191_0
     have HC191_0 := Aside0.mk hl191_0
     clear hi191_0 hl191_0
     replace p191 := eq_true p191
     replace q191 := eq_true q191
     have p192 : 0 ≤ (x8_3 : Int) := oda
     have q192 : x8_3 < ((rd_L2 l1_1 x6_1).length : Int) := oda
     obtain ⟨ad192, e192, hx192_0⟩ := Kd.at_int HR191_0.out x8_3 p192 q192
     cases e192
     replace hx192_0 := cel HB hx192_0
     replace p192 := eq_true p192
     replace q192 := eq_true q192
     have p193 : 0 ≤ ((ji20) : Int) := oda
     have q193 : (ji20) < (l0_2.length : Int) := oda
     obtain ⟨ad193, e193, hx193_0⟩ := Kd.at_int HR0_2.out (ji20) p193 q193
     cases e193
     replace hx193_0 := cel HB hx193_0
     replace p193 := eq_true p193
     replace q193 := eq_true q193
     have p194 : 0 ≤ (x6_1 : Int) := oda
     have q194 : x6_1 < (l1_1.length : Int) := oda
     obtain ⟨ad194, A194_0, c194_0, e194, hx194_0, hl194_0, hi194_0⟩ := at_L2 HR1_1.out x6_1 p194 q194
     obtain rfl : ad190 = ad194 := (by injection e194)
     replace hx194_0 := cel HB hx194_0
     have HR194_0 := Aside0.mk hi194_0
     have HC194_0 := Aside0.mk hl194_0
     clear hi194_0 hl194_0
     replace p194 := eq_true p194
     replace q194 := eq_true q194
     have ea_ := Option.some.inj (hx191_0.symm.trans hx194_0)
     injection ea_ with ea_ en_ ec_
     subst ea_
     subst ec_
     clear en_
     have p195 : 0 ≤ (x7_2 : Int) := oda
     have q195 : x7_2 < ((rd_L2 l1_1 x6_1).length : Int) := oda
     obtain ⟨ad195, e195, hx195_0⟩ := Kd.at_int HR194_0.out x7_2 p195 q195
     cases e195
     replace hx195_0 := cel HB hx195_0
     replace p195 := eq_true p195
     replace q195 := eq_true q195
     have p196 : 0 ≤ ((ji25) : Int) := oda
     have q196 : (ji25) < (l0_2.length : Int) := oda
     obtain ⟨ad196, e196, hx196_0⟩ := Kd.at_int HR0_2.out (ji25) p196 q196
     obtain rfl : ad193 = ad196 := (by injection e196)
     replace hx196_0 := cel HB hx196_0
     replace p196 := eq_true p196
     replace q196 := eq_true q196
     go_wp2
     repeat (go_quiet (fail); try go_wp2)
     go_roundg k3
     case measure => have := HK1.out; have := HK2.out; have := HK3.out; omega
     case rel => exact ⟨(x5_3), (wrap64 (x8_3 + 1)), (by first | rfl | (simp; done) | (simp [*]; done)), H', ⟨by have := HK1.out; have := HK2.out; have := HK3.out; omega⟩, ⟨by (with_reducible repeat (first | apply Kd.V_alloc | apply Kd.V_drewN | apply Kd.V_drew)); exact HO_5.out⟩, ⟨bkl BK185⟩, ⟨bkl BK186⟩, ⟨bel2 HB GE185 GE186⟩⟩
    rw [if_pos c28] at H
    have c28b0 : decide ((rd l0_2 (ji20)) < (rd l0_2 (ji25))) = true := decide_eq_true c28
    clear c28
    replace H := Option.bind_eq_some_iff.mp H
    obtain ⟨t199, A290, H⟩ := H
    replace H : (spec_l10Shifted.l2 k3 t199 x6_1 x7_2 (wrap64 (x8_3 + 1)) a0_0 a0_1 l0_2 a1_0 l1_1) = some r := H
    have A29 := Aside0.mk A290
    clear A290
    have H' := Aside0.mk H
    clear H
    have hnb30 := NB185_186.out
    have hnc30 := NB186_185.out
    have hcz31_0 : wr.cell? ⟨gb185, 0, none⟩ = some (.int .i64 a0_0) := (blk_cell BK185.out 0).trans rfl
    have hcz31_1 : wr.cell? ⟨gb185, 1, none⟩ = some (.int .i64 a0_1) := (blk_cell BK185.out 1).trans rfl
    have hcz31_2 : wr.cell? ⟨gb185, 2, none⟩ = some (.slice A0_2 l0_2.length c0_2) := (blk_cell BK185.out 2).trans rfl
    have hfz31_0 := blk_frozen BK185.out 0
    have hfz31_1 := blk_frozen BK185.out 1
    have hfz31_2 := blk_frozen BK185.out 2
    have hcz32_0 : wr.cell? ⟨gb186, 0, none⟩ = some (.int .i64 a1_0) := (blk_cell BK186.out 0).trans rfl
    have hcz32_1 : wr.cell? ⟨gb186, 1, none⟩ = some (.slice (some ad190) l1_1.length c1_1) := (blk_cell BK186.out 1).trans rfl
    have hfz32_0 := blk_frozen BK186.out 0
    have hfz32_1 := blk_frozen BK186.out 1
    have p191 : 0 ≤ (x6_1 : Int) := oda
    have q191 : x6_1 < (l1_1.length : Int) := oda
    obtain ⟨ad191, A191_0, c191_0, e191, hx191_0, hl191_0, hi191_0⟩ := at_L2 HR1_1.out x6_1 p191 q191
    obtain rfl : ad190 = ad191 := (by injection e191)
    replace hx191_0 := cel HB hx191_0
    have HR191_0 := Aside0.mk hi191_0
    have HC191_0 := Aside0.mk hl191_0
    clear hi191_0 hl191_0
    replace p191 := eq_true p191
    replace q191 := eq_true q191
    have p192 : 0 ≤ (x8_3 : Int) := oda
    have q192 : x8_3 < ((rd_L2 l1_1 x6_1).length : Int) := oda
    obtain ⟨ad192, e192, hx192_0⟩ := Kd.at_int HR191_0.out x8_3 p192 q192
    cases e192
    replace hx192_0 := cel HB hx192_0
    replace p192 := eq_true p192
    replace q192 := eq_true q192
    have p193 : 0 ≤ ((ji20) : Int) := oda
    have q193 : (ji20) < (l0_2.length : Int) := oda
    obtain ⟨ad193, e193, hx193_0⟩ := Kd.at_int HR0_2.out (ji20) p193 q193
    cases e193
    replace hx193_0 := cel HB hx193_0
    replace p193 := eq_true p193
    replace q193 := eq_true q193
    have p194 : 0 ≤ (x6_1 : Int) := oda
    have q194 : x6_1 < (l1_1.length : Int) := oda
    obtain ⟨ad194, A194_0, c194_0, e194, hx194_0, hl194_0, hi194_0⟩ := at_L2 HR1_1.out x6_1 p194 q194
    obtain rfl : ad190 = ad194 := (by injection e194)
    replace hx194_0 := cel HB hx194_0
    have HR194_0 := Aside0.mk hi194_0
    have HC194_0 := Aside0.mk hl194_0
    clear hi194_0 hl194_0
    replace p194 := eq_true p194
    replace q194 := eq_true q194
    have ea_ := Option.some.inj (hx191_0.symm.trans hx194_0)
    injection ea_ with ea_ en_ ec_
    subst ea_
    subst ec_
    clear en_
    have p195 : 0 ≤ (x7_2 : Int) := oda
    have q195 : x7_2 < ((rd_L2 l1_1 x6_1).length : Int) := oda
    obtain ⟨ad195, e195, hx195_0⟩ := Kd.at_int HR194_0.out x7_2 p195 q195
    cases e195
    replace hx195_0 := cel HB hx195_0
    replace p195 := eq_true p195
    replace q195 := eq_true q195
    have p196 : 0 ≤ ((ji25) : Int) := oda
    have q196 : (ji25) < (l0_2.length : Int) := oda
    obtain ⟨ad196, e196, hx196_0⟩ := Kd.at_int HR0_2.out (ji25) p196 q196
    obtain rfl : ad193 = ad196 := (by injection e196)
    replace hx196_0 := cel HB hx196_0
    replace p196 := eq_true p196
    replace q196 := eq_true q196
    have p197 : 0 ≤ (x6_1 : Int) := oda
    have q197 : x6_1 < (l1_1.length : Int) := oda
    obtain ⟨ad197, A197_0, c197_0, e197, hx197_0, hl197_0, hi197_0⟩ := at_L2 HR1_1.out x6_1 p197 q197
    obtain rfl : ad190 = ad197 := (by injection e197)
    replace hx197_0 := cel HB hx197_0
    have HR197_0 := Aside0.mk hi197_0
    have HC197_0 := Aside0.mk hl197_0
    clear hi197_0 hl197_0
    replace p197 := eq_true p197
    replace q197 := eq_true q197
    have ea_ := Option.some.inj (hx191_0.symm.trans hx197_0)
    injection ea_ with ea_ en_ ec_
    subst ea_
    subst ec_
    clear en_
    have p198 : 0 ≤ (x7_2 : Int) := oda
    have q198 : x7_2 < ((rd_L2 l1_1 x6_1).length : Int) := oda
    obtain ⟨ad198, e198, hx198_0⟩ := Kd.at_int HR197_0.out x7_2 p198 q198
    cases e198
    replace hx198_0 := cel HB hx198_0
    replace p198 := eq_true p198
    replace q198 := eq_true q198
    obtain ⟨Ao33, co33, eo33⟩ := Kd.V_slice HO_5.out
    subst eo33
    go_wp2_with (first | (go_at_call 32; (with_reducible refine (spec_l1Put.calls k3 (fun k_ => ((w.heap.size ≤ k_) ∧ (k_ ≠ gb185 ∧ k_ ≠ gb186))) _ _ x5_3 (rd (rd_L2 l1_1 x6_1) x7_2) t199 _ ?side1 A29.out).mono ?_); (case side1 => exact HO_5.out); rintro e w34 ⟨v200, rfl, ho0, hb⟩; have n0_ := Aside0.mk (Kd.V_below (vdl HO_5) hb); have n1_ := Aside0.mk (Kd.V_lower (Kd.V_mono (ok' := fun k_ => (w.heap.size ≤ k_) ∧ k_ ≠ gb185 ∧ k_ ≠ gb186) ho0 (fun k_ hk_ => ⟨Or.elim hk_ (fun hs_ => hs_.1) (fun hn_ => (Nat.le_trans (below_size (bel2 HB GE185 GE186)) hn_)), Or.elim hk_ (fun hs_ => hs_.2.1) (fun hn_ => (Kd.freshB (g := gb185) (o := .cells #[.int .i64 a0_0, .int .i64 a0_1, .slice (some ad193) l0_2.length c0_2] 26 (0, 0)) (bkl BK185) k_ hn_)), Or.elim hk_ (fun hs_ => hs_.2.2) (fun hn_ => (Kd.freshB (g := gb186) (o := .cells #[.int .i64 a1_0, .slice (some ad190) l1_1.length c1_1] 45 (0, 0)) (bkl BK186) k_ hn_))⟩)) (below_size (bel2 HB GE185 GE186))); have n2_ := Aside0.mk (blk_below (g := gb185) (o := .cells #[.int .i64 a0_0, .int .i64 a0_1, .slice (some ad193) l0_2.length c0_2] 26 (0, 0)) (bkl BK185) hb); have n3_ := Aside0.mk (blk_below (g := gb186) (o := .cells #[.int .i64 a1_0, .slice (some ad190) l1_1.length c1_1] 45 (0, 0)) (bkl BK186) hb); have n4_ := Aside0.mk (below_step (bel2 HB GE185 GE186) hb); clear HO_5; clear BK185; clear BK186; clear HB; have HO_5 := n0_; have HO201 := n1_; have BK185 := n2_; have BK186 := n3_; have HB := n4_; clear n0_ n1_ n2_ n3_ n4_; (try clear hb); (try clear hb2); (try clear hk); (try clear hi); (try clear ho0)))
    repeat (go_quiet (first | (go_at_call 32; (with_reducible refine (spec_l1Put.calls k3 (fun k_ => ((w.heap.size ≤ k_) ∧ (k_ ≠ gb185 ∧ k_ ≠ gb186))) _ _ x5_3 (rd (rd_L2 l1_1 x6_1) x7_2) t199 _ ?side1 A29.out).mono ?_); (case side1 => exact HO_5.out); rintro e w34 ⟨v200, rfl, ho0, hb⟩; have n0_ := Aside0.mk (Kd.V_below (vdl HO_5) hb); have n1_ := Aside0.mk (Kd.V_lower (Kd.V_mono (ok' := fun k_ => (w.heap.size ≤ k_) ∧ k_ ≠ gb185 ∧ k_ ≠ gb186) ho0 (fun k_ hk_ => ⟨Or.elim hk_ (fun hs_ => hs_.1) (fun hn_ => (Nat.le_trans (below_size (bel2 HB GE185 GE186)) hn_)), Or.elim hk_ (fun hs_ => hs_.2.1) (fun hn_ => (Kd.freshB (g := gb185) (o := .cells #[.int .i64 a0_0, .int .i64 a0_1, .slice (some ad193) l0_2.length c0_2] 26 (0, 0)) (bkl BK185) k_ hn_)), Or.elim hk_ (fun hs_ => hs_.2.2) (fun hn_ => (Kd.freshB (g := gb186) (o := .cells #[.int .i64 a1_0, .slice (some ad190) l1_1.length c1_1] 45 (0, 0)) (bkl BK186) k_ hn_))⟩)) (below_size (bel2 HB GE185 GE186))); have n2_ := Aside0.mk (blk_below (g := gb185) (o := .cells #[.int .i64 a0_0, .int .i64 a0_1, .slice (some ad193) l0_2.length c0_2] 26 (0, 0)) (bkl BK185) hb); have n3_ := Aside0.mk (blk_below (g := gb186) (o := .cells #[.int .i64 a1_0, .slice (some ad190) l1_1.length c1_1] 45 (0, 0)) (bkl BK186) hb); have n4_ := Aside0.mk (below_step (bel2 HB GE185 GE186) hb); clear HO_5; clear BK185; clear BK186; clear HB; have HO_5 := n0_; have HO201 := n1_; have BK185 := n2_; have BK186 := n3_; have HB := n4_; clear n0_ n1_ n2_ n3_ n4_; (try clear hb); (try clear hb2); (try clear hk); (try clear hi); (try clear ho0))); try go_wp2_with (first | (go_at_call 32; (with_reducible refine (spec_l1Put.calls k3 (fun k_ => ((w.heap.size ≤ k_) ∧ (k_ ≠ gb185 ∧ k_ ≠ gb186))) _ _ x5_3 (rd (rd_L2 l1_1 x6_1) x7_2) t199 _ ?side1 A29.out).mono ?_); (case side1 => exact HO_5.out); rintro e w34 ⟨v200, rfl, ho0, hb⟩; have n0_ := Aside0.mk (Kd.V_below (vdl HO_5) hb); have n1_ := Aside0.mk (Kd.V_lower (Kd.V_mono (ok' := fun k_ => (w.heap.size ≤ k_) ∧ k_ ≠ gb185 ∧ k_ ≠ gb186) ho0 (fun k_ hk_ => ⟨Or.elim hk_ (fun hs_ => hs_.1) (fun hn_ => (Nat.le_trans (below_size (bel2 HB GE185 GE186)) hn_)), Or.elim hk_ (fun hs_ => hs_.2.1) (fun hn_ => (Kd.freshB (g := gb185) (o := .cells #[.int .i64 a0_0, .int .i64 a0_1, .slice (some ad193) l0_2.length c0_2] 26 (0, 0)) (bkl BK185) k_ hn_)), Or.elim hk_ (fun hs_ => hs_.2.2) (fun hn_ => (Kd.freshB (g := gb186) (o := .cells #[.int .i64 a1_0, .slice (some ad190) l1_1.length c1_1] 45 (0, 0)) (bkl BK186) k_ hn_))⟩)) (below_size (bel2 HB GE185 GE186))); have n2_ := Aside0.mk (blk_below (g := gb185) (o := .cells #[.int .i64 a0_0, .int .i64 a0_1, .slice (some ad193) l0_2.length c0_2] 26 (0, 0)) (bkl BK185) hb); have n3_ := Aside0.mk (blk_below (g := gb186) (o := .cells #[.int .i64 a1_0, .slice (some ad190) l1_1.length c1_1] 45 (0, 0)) (bkl BK186) hb); have n4_ := Aside0.mk (below_step (bel2 HB GE185 GE186) hb); clear HO_5; clear BK185; clear BK186; clear HB; have HO_5 := n0_; have HO201 := n1_; have BK185 := n2_; have BK186 := n3_; have HB := n4_; clear n0_ n1_ n2_ n3_ n4_; (try clear hb); (try clear hb2); (try clear hk); (try clear hi); (try clear ho0))))
    go_roundg k3
    case measure => have := HK1.out; have := HK2.out; have := HK3.out; omega
    case rel => exact ⟨(t199), (wrap64 (x8_3 + 1)), (by first | rfl | (simp; done) | (simp [*]; done)), H', ⟨by have := HK1.out; have := HK2.out; have := HK3.out; omega⟩, ⟨by (with_reducible repeat (first | apply Kd.V_alloc | apply Kd.V_drewN | apply Kd.V_drew)); exact HO201.out⟩, ⟨bkl BK185⟩, ⟨bkl BK186⟩, ⟨bel2 HB GE185 GE186⟩⟩
/-! ### spec_l10Free: function 50 -/
def spec_l10Free.l0 : Nat → List Int → Int → Int → Int → Int → List Int → Option (Bool)
 | 0, _, _, _, _, _, _ => none
 | k + 1, x1, x2, x7, x203000, x203001, x203002 => if x7 < (x1.length : Int) then (if 0 ≤ x7 then (if 0 ≤ (wrap64 ((rd x1 x7) - 1)) then (if (wrap64 ((rd x1 x7) - 1)) < (x203002.length : Int) then (if (rd x203002 (wrap64 ((rd x1 x7) - 1))) < x2 then (some false) else (spec_l10Free.l0 k x1 x2 (wrap64 (x7 + 1)) x203000 x203001 x203002)) else (none)) else (none)) else (none)) else (some true)
def spec_l10Free.f (k : Nat) (a0_0 : Int) (a0_1 : Int) (l0_2 : List Int) (l1 : List Int) (a2 : Int) : Option (Bool) := spec_l10Free.l0 k l1 a2 0 a0_0 a0_1 l0_2
theorem spec_l10Free.mono_l : ∀ k, (∀ y0 y1 y2 y3 y4 y5, LeO (spec_l10Free.l0 k y0 y1 y2 y3 y4 y5) (spec_l10Free.l0 (k + 1) y0 y1 y2 y3 y4 y5))
 | 0 => fun _ _ _ _ _ _ r h => by simp [spec_l10Free.l0] at h
 | k + 1 => by
  have ih0 := spec_l10Free.mono_l k
  ·intro y0 y1 y2 y3 y4 y5
   unfold spec_l10Free.l0
   repeat' first
   | (with_reducible exact ih0 _ _ _ _ _ _)
   | (with_reducible exact LeO.refl _)
   | (with_reducible exact LeO.none _)
   | (with_reducible refine LeO.ite ?_ ?_)
   | (with_reducible refine LeO.bind ?_ (fun _ => ?_))
   | exact ih0 _ _ _ _ _ _
   | exact LeO.none _
   | refine LeO.ite ?_ ?_
   | refine LeO.bind ?_ (fun _ => ?_)
theorem spec_l10Free.mono : ∀ a0 a1 a2 a3 a4 k, LeO (spec_l10Free.f k a0 a1 a2 a3 a4) (spec_l10Free.f (k + 1) a0 a1 a2 a3 a4) := by
 intro a0 a1 a2 a3 a4 k
 have ih0 := spec_l10Free.mono_l k
 unfold spec_l10Free.f
 repeat' first
   | (with_reducible exact ih0 _ _ _ _ _ _)
   | (with_reducible exact LeO.refl _)
   | (with_reducible exact LeO.none _)
   | (with_reducible refine LeO.ite ?_ ?_)
   | (with_reducible refine LeO.bind ?_ (fun _ => ?_))
   | exact ih0 _ _ _ _ _ _
   | exact LeO.none _
   | refine LeO.ite ?_ ?_
   | refine LeO.bind ?_ (fun _ => ?_)
set_option maxHeartbeats 8000000 in
set_option maxRecDepth 100000 in
theorem spec_l10Free.calls (k : Nat) (a0_0 : Int) (a0_1 : Int) (A0_2 : Option Addr) (c0_2 : Nat) (l0_2 : List Int) (A1 : Option Addr) (c1 : Nat) (l1 : List Int) (a2 : Int) (r : Bool) (w : World) (hr0_2 : Kd.C (Kd.int .i64) w A0_2 l0_2.length l0_2) (hc0_2 : l0_2.length ≤ c0_2) (hr1 : Kd.C (Kd.int .i64) w A1 l1.length l1) (hc1 : l1.length ≤ c1) (h : spec_l10Free.f k a0_0 a0_1 l0_2 l1 a2 = some r) :
  Calls Try.prog 50 #[.agg #[.int .i64 a0_0, .int .i64 a0_1, .slice A0_2 l0_2.length c0_2], .slice A1 l1.length c1, .int .i64 a2] w fun e w' => e = .returned (.bool r) ∧ Below w.heap.size w w' := by
 have hu26 := Try.underlying26
 have HR0_2 := Aside0.mk hr0_2
 have HC0_2 := Aside0.mk hc0_2
 clear hr0_2 hc0_2
 have HR1 := Aside0.mk hr1
 have HC1 := Aside0.mk hc1
 clear hr1 hc1
 have HB := Aside0.mk (Below.refl w.heap.size w)
 have H : (spec_l10Free.l0 k l1 a2 0 a0_0 a0_1 l0_2) = some r := h
 clear h
 have H' := Aside0.mk H
 clear H
 go_enter Try.func50, Try.ntmps50
 go_wp2_with (first | ((with_reducible refine gate_dst (N := 3) rfl ?_); refine box_event ?hg (N := 3) ?hd (cs := #[.int .i64 a0_0, .int .i64 a0_1, .slice A0_2 l0_2.length c0_2]) (t := 26) ?hr ?_; (case hd => rfl); (case hg => rfl); (case hr => first | (go_simp; done) | (go_simp; rfl)); intro gb202 hg w4 hbox hb; have n0_ := Aside0.mk (below_step (bel HB) hb); have n1_ := Aside0.mk (hbox); have n2_ := Aside0.mk ((by rw [hg]; exact (below_size (bel HB)) : w.heap.size ≤ gb202)); have n3_ := Aside0.mk ((by rw [hg]; exact (below_size (bel HB)) : w.heap.size ≤ gb202)); clear HB; have HB := n0_; have BK202 := n1_; have GW202 := n2_; have GE202 := n3_; clear n0_ n1_ n2_ n3_; clear hb hbox hg))
 repeat (go_quiet (first | ((with_reducible refine gate_dst (N := 3) rfl ?_); refine box_event ?hg (N := 3) ?hd (cs := #[.int .i64 a0_0, .int .i64 a0_1, .slice A0_2 l0_2.length c0_2]) (t := 26) ?hr ?_; (case hd => rfl); (case hg => rfl); (case hr => first | (go_simp; done) | (go_simp; rfl)); intro gb202 hg w4 hbox hb; have n0_ := Aside0.mk (below_step (bel HB) hb); have n1_ := Aside0.mk (hbox); have n2_ := Aside0.mk ((by rw [hg]; exact (below_size (bel HB)) : w.heap.size ≤ gb202)); have n3_ := Aside0.mk ((by rw [hg]; exact (below_size (bel HB)) : w.heap.size ≤ gb202)); clear HB; have HB := n0_; have BK202 := n1_; have GW202 := n2_; have GE202 := n3_; clear n0_ n1_ n2_ n3_; clear hb hbox hg)); try go_wp2_with (first | ((with_reducible refine gate_dst (N := 3) rfl ?_); refine box_event ?hg (N := 3) ?hd (cs := #[.int .i64 a0_0, .int .i64 a0_1, .slice A0_2 l0_2.length c0_2]) (t := 26) ?hr ?_; (case hd => rfl); (case hg => rfl); (case hr => first | (go_simp; done) | (go_simp; rfl)); intro gb202 hg w4 hbox hb; have n0_ := Aside0.mk (below_step (bel HB) hb); have n1_ := Aside0.mk (hbox); have n2_ := Aside0.mk ((by rw [hg]; exact (below_size (bel HB)) : w.heap.size ≤ gb202)); have n3_ := Aside0.mk ((by rw [hg]; exact (below_size (bel HB)) : w.heap.size ≤ gb202)); clear HB; have HB := n0_; have BK202 := n1_; have GW202 := n2_; have GE202 := n3_; clear n0_ n1_ n2_ n3_; clear hb hbox hg)))
 go_loopg [7] k (fun kq v7 w' => ∃ (x7_1 : Int), v7 = .int .i64 x7_1 ∧ Aside0 (spec_l10Free.l0 kq l1 a2 x7_1 a0_0 a0_1 l0_2 = some r) ∧ Aside0 (kq ≤ k) ∧ Aside0 (w'.heap[gb202]? = some (.cells #[.int .i64 a0_0, .int .i64 a0_1, (.slice A0_2 l0_2.length c0_2)] 26 (0, 0))) ∧ Aside0 (Below w.heap.size w w'))
 case atStart => exact ⟨(0), (by first | rfl | (simp; done) | (simp [*]; done)), H', ⟨Nat.le_refl _⟩, ⟨bkl BK202⟩, ⟨bel1 HB GE202⟩⟩
 clear H'
 try clear c1
 try clear p2
 obtain ⟨x7_1, rfl, HA, HK1, BK202, HB⟩ := hrel
 cases gk with
 | zero => exact absurd HA.out (by simp [spec_l10Free.l0])
 | succ k1 =>
  have H := HA.out
  clear HA
  simp only [spec_l10Free.l0] at H
  by_cases c5 : x7_1 < (l1.length : Int)
  rotate_left
  ·rw [if_neg c5] at H
   have c5b0 : decide (x7_1 < (l1.length : Int)) = false := decide_eq_false c5
   clear c5
   obtain rfl := Option.some.inj H
   go_wp2
   repeat (go_quiet (fail); try go_wp2)
   go_ret
   exact ⟨by first | rfl | (simp [errW_none, errW_some] <;> rfl) | (simp [*, errW_none, errW_some] <;> rfl), bel1 HB GE202⟩
  rw [if_pos c5] at H
  have c5b0 : decide (x7_1 < (l1.length : Int)) = true := decide_eq_true c5
  clear c5
  by_cases c6 : 0 ≤ x7_1
  rotate_left
  ·rw [if_neg c6] at H
   exact absurd H (by simp)
  rw [if_pos c6] at H
  have c6b0 : decide (0 ≤ x7_1) = true := decide_eq_true c6
  clear c6
  obtain ⟨ji7, hji7⟩ : ∃ j_ : Int, (wrap64 ((rd l1 x7_1) - 1)) = j_ := ⟨_, rfl⟩
  replace H : (if 0 ≤ (ji7) then (if (ji7) < (l0_2.length : Int) then (if (rd l0_2 (ji7)) < a2 then (some false) else (spec_l10Free.l0 k1 l1 a2 (wrap64 (x7_1 + 1)) a0_0 a0_1 l0_2)) else (none)) else (none)) = some r := by first | (rw [hji7] at H; exact H) | (simp only [hji7] at H ⊢; exact H)
  have hji7w : (IntKind.i64.wrap ((rd l1 x7_1) - 1)) = ji7 := (i64_w _).trans hji7
  by_cases c8 : 0 ≤ (ji7)
  rotate_left
  ·rw [if_neg c8] at H
   exact absurd H (by simp)
  rw [if_pos c8] at H
  have c8b0 : decide (0 ≤ (ji7)) = true := decide_eq_true c8
  clear c8
  by_cases c9 : (ji7) < (l0_2.length : Int)
  rotate_left
  ·rw [if_neg c9] at H
   exact absurd H (by simp)
  rw [if_pos c9] at H
  have c9b0 : decide ((ji7) < (l0_2.length : Int)) = true := decide_eq_true c9
  clear c9
  by_cases c10 : (rd l0_2 (ji7)) < a2
  ·rw [if_pos c10] at H
   have c10b0 : decide ((rd l0_2 (ji7)) < a2) = true := decide_eq_true c10
   clear c10
   obtain rfl := Option.some.inj H
   have hcz11_0 : wr.cell? ⟨gb202, 0, none⟩ = some (.int .i64 a0_0) := (blk_cell BK202.out 0).trans rfl
   have hcz11_1 : wr.cell? ⟨gb202, 1, none⟩ = some (.int .i64 a0_1) := (blk_cell BK202.out 1).trans rfl
   have hcz11_2 : wr.cell? ⟨gb202, 2, none⟩ = some (.slice A0_2 l0_2.length c0_2) := (blk_cell BK202.out 2).trans rfl
   have hfz11_0 := blk_frozen BK202.out 0
   have hfz11_1 := blk_frozen BK202.out 1
   have hfz11_2 := blk_frozen BK202.out 2
   have p203 : 0 ≤ (x7_1 : Int) := oda
   have q203 : x7_1 < (l1.length : Int) := oda
   obtain ⟨ad203, e203, hx203_0⟩ := Kd.at_int HR1.out x7_1 p203 q203
   cases e203
   replace hx203_0 := cel HB hx203_0
   replace p203 := eq_true p203
   replace q203 := eq_true q203
   have p204 : 0 ≤ ((ji7) : Int) := oda
   have q204 : (ji7) < (l0_2.length : Int) := oda
   obtain ⟨ad204, e204, hx204_0⟩ := Kd.at_int HR0_2.out (ji7) p204 q204
   cases e204
   replace hx204_0 := cel HB hx204_0
   replace p204 := eq_true p204
   replace q204 := eq_true q204
   go_wp2
   repeat (go_quiet (fail); try go_wp2)
   go_ret
   exact ⟨by first | rfl | (simp [errW_none, errW_some] <;> rfl) | (simp only [← hji7]; first | rfl | (simp [errW_none, errW_some] <;> rfl)) | (simp [*, errW_none, errW_some] <;> rfl), bel1 HB GE202⟩
  rw [if_neg c10] at H
  have c10b0 : decide ((rd l0_2 (ji7)) < a2) = false := decide_eq_false c10
  clear c10
  have H' := Aside0.mk H
  clear H
  have hcz12_0 : wr.cell? ⟨gb202, 0, none⟩ = some (.int .i64 a0_0) := (blk_cell BK202.out 0).trans rfl
  have hcz12_1 : wr.cell? ⟨gb202, 1, none⟩ = some (.int .i64 a0_1) := (blk_cell BK202.out 1).trans rfl
  have hcz12_2 : wr.cell? ⟨gb202, 2, none⟩ = some (.slice A0_2 l0_2.length c0_2) := (blk_cell BK202.out 2).trans rfl
  have hfz12_0 := blk_frozen BK202.out 0
  have hfz12_1 := blk_frozen BK202.out 1
  have hfz12_2 := blk_frozen BK202.out 2
  have p203 : 0 ≤ (x7_1 : Int) := oda
  have q203 : x7_1 < (l1.length : Int) := oda
  obtain ⟨ad203, e203, hx203_0⟩ := Kd.at_int HR1.out x7_1 p203 q203
  cases e203
  replace hx203_0 := cel HB hx203_0
  replace p203 := eq_true p203
  replace q203 := eq_true q203
  have p204 : 0 ≤ ((ji7) : Int) := oda
  have q204 : (ji7) < (l0_2.length : Int) := oda
  obtain ⟨ad204, e204, hx204_0⟩ := Kd.at_int HR0_2.out (ji7) p204 q204
  cases e204
  replace hx204_0 := cel HB hx204_0
  replace p204 := eq_true p204
  replace q204 := eq_true q204
  go_wp2
  repeat (go_quiet (fail); try go_wp2)
  go_roundg k1
  case measure => have := HK1.out; omega
  case rel => exact ⟨(wrap64 (x7_1 + 1)), (by first | rfl | (simp; done) | (simp [*]; done)), H', ⟨by have := HK1.out; omega⟩, ⟨bkl BK202⟩, ⟨bel1 HB GE202⟩⟩
end Go.Proofs.Ytipahijdcgoemaa.P
