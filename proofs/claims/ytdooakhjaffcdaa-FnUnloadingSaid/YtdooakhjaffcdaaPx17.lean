-- Written by a program of this session over the translation (a variant of the printer, see wip/gen); Lean checks it.
import Derived.Test.YtdooakhjaffcdaaPx0
import Derived.Test.YtdooakhjaffcdaaPx10
import Derived.Test.YtdooakhjaffcdaaPx16
namespace Go.Proofs.Ytdooakhjaffcdaa.P
open Go.RowKit Go.Proofs.YtdooakhjaffcdaaW.PrintWords Go.Proofs.YtdooakhjaffcdaaW.PrintLast Go.Proofs.YtdooakhjaffcdaaW.PrintMore
attribute [local go_sem] Go.Proofs.Ytdooakhjaffcdaa.V.isSome_setCell max2_int min2_int max_two min_two max_three min_three max_four min_four
set_option linter.unusedVariables false
set_option linter.unusedSimpArgs false
/-! ### spec_ClearOrder: function 10 -/
mutual
def spec_ClearOrder.l0 : Nat → List Int → Int → List (List Int) → Option (List Int × Bool)
 | 0, _, _, _ => none
 | k + 1, x4, x342000, x342001 => spec_ClearOrder.l1 k x4 (-1) 0 x342000 x342001
def spec_ClearOrder.l1 : Nat → List Int → Int → Int → Int → List (List Int) → Option (List Int × Bool)
 | 0, _, _, _, _, _ => none
 | k + 1, x4, x6, x7, x342000, x342001 => if x7 < (x342001.length : Int) then (if 0 ≤ x7 then (if ((rd_L2 x342001 x7).length : Int) > 0 then (if x6 < 0 then (spec_ClearOrder.l1 k x4 x7 (wrap64 (x7 + 1)) x342000 x342001) else (if 0 ≤ (wrap64 (((rd_L2 x342001 x7).length : Int) - 1)) then (if (wrap64 (((rd_L2 x342001 x7).length : Int) - 1)) < ((rd_L2 x342001 x7).length : Int) then (if 0 ≤ x6 then (if x6 < (x342001.length : Int) then (if 0 ≤ (wrap64 (((rd_L2 x342001 x6).length : Int) - 1)) then (if (wrap64 (((rd_L2 x342001 x6).length : Int) - 1)) < ((rd_L2 x342001 x6).length : Int) then (if (rd (rd_L2 x342001 x7) (wrap64 (((rd_L2 x342001 x7).length : Int) - 1))) < (rd (rd_L2 x342001 x6) (wrap64 (((rd_L2 x342001 x6).length : Int) - 1))) then (spec_ClearOrder.l1 k x4 x7 (wrap64 (x7 + 1)) x342000 x342001) else (spec_ClearOrder.l1 k x4 x6 (wrap64 (x7 + 1)) x342000 x342001)) else (none)) else (none)) else (none)) else (none)) else (none)) else (none))) else (spec_ClearOrder.l1 k x4 x6 (wrap64 (x7 + 1)) x342000 x342001)) else (none)) else (if x6 < 0 then (some (x4, true)) else (if 0 ≤ x6 then (if x6 < (x342001.length : Int) then (if 0 ≤ (wrap64 (((rd_L2 x342001 x6).length : Int) - 1)) then (if (wrap64 (((rd_L2 x342001 x6).length : Int) - 1)) < ((rd_L2 x342001 x6).length : Int) then (if x4.length < 17592186044416 then (if (wrap64 (((rd_L2 x342001 x6).length : Int) - 1)) ≤ ((rd_L2 x342001 x6).length : Int) then (spec_ClearOrder.l0 k (x4 ++ [rd (rd_L2 x342001 x6) (wrap64 (((rd_L2 x342001 x6).length : Int) - 1))]) x342000 (x342001.set (x6 : Int).toNat ((rd_L2 x342001 x6).take ((wrap64 (((rd_L2 x342001 x6).length : Int) - 1)) : Int).toNat))) else (none)) else (none)) else (none)) else (none)) else (none)) else (none)))
end
def spec_ClearOrder.f (k : Nat) (a0_0 : Int) (l0_1 : List (List Int)) : Option (List Int × Bool) := (some (([] : List Int) : List Int)).bind fun y333 => ((spec_l9Good.f k a0_0 l0_1).bind fun t336 => (if t336 = true then ((spec_l9Own.f k a0_0 l0_1).bind fun bt337 => (spec_ClearOrder.l0 k y333 bt337.1 bt337.2)) else (some (y333, false))))
theorem spec_ClearOrder.mono_l : ∀ k, (∀ y0 y1 y2, LeO (spec_ClearOrder.l0 k y0 y1 y2) (spec_ClearOrder.l0 (k + 1) y0 y1 y2)) ∧ (∀ y0 y1 y2 y3 y4, LeO (spec_ClearOrder.l1 k y0 y1 y2 y3 y4) (spec_ClearOrder.l1 (k + 1) y0 y1 y2 y3 y4))
 | 0 => ⟨fun _ _ _ r h => by simp [spec_ClearOrder.l0] at h, fun _ _ _ _ _ r h => by simp [spec_ClearOrder.l1] at h⟩
 | k + 1 => by
  obtain ⟨ih0, ih1⟩ := spec_ClearOrder.mono_l k
  refine ⟨?_, ?_⟩
  ·intro y0 y1 y2
   unfold spec_ClearOrder.l0
   repeat' first
   | (with_reducible exact ih0 _ _ _)
   | (with_reducible exact ih1 _ _ _ _ _)
   | (with_reducible exact spec_l9Good.mono _ _ _)
   | (with_reducible exact spec_l9Own.mono _ _ _)
   | (with_reducible exact LeO.refl _)
   | (with_reducible exact LeO.none _)
   | (with_reducible refine LeO.ite ?_ ?_)
   | (with_reducible refine LeO.bind ?_ (fun _ => ?_))
   | exact ih0 _ _ _
   | exact ih1 _ _ _ _ _
   | exact spec_l9Good.mono _ _ _
   | exact spec_l9Own.mono _ _ _
   | exact LeO.none _
   | refine LeO.ite ?_ ?_
   | refine LeO.bind ?_ (fun _ => ?_)
  ·intro y0 y1 y2 y3 y4
   unfold spec_ClearOrder.l1
   repeat' first
   | (with_reducible exact ih0 _ _ _)
   | (with_reducible exact ih1 _ _ _ _ _)
   | (with_reducible exact spec_l9Good.mono _ _ _)
   | (with_reducible exact spec_l9Own.mono _ _ _)
   | (with_reducible exact LeO.refl _)
   | (with_reducible exact LeO.none _)
   | (with_reducible refine LeO.ite ?_ ?_)
   | (with_reducible refine LeO.bind ?_ (fun _ => ?_))
   | exact ih0 _ _ _
   | exact ih1 _ _ _ _ _
   | exact spec_l9Good.mono _ _ _
   | exact spec_l9Own.mono _ _ _
   | exact LeO.none _
   | refine LeO.ite ?_ ?_
   | refine LeO.bind ?_ (fun _ => ?_)
theorem spec_ClearOrder.mono : ∀ a0 a1 k, LeO (spec_ClearOrder.f k a0 a1) (spec_ClearOrder.f (k + 1) a0 a1) := by
 intro a0 a1 k
 obtain ⟨ih0, ih1⟩ := spec_ClearOrder.mono_l k
 unfold spec_ClearOrder.f
 repeat' first
   | (with_reducible exact ih0 _ _ _)
   | (with_reducible exact ih1 _ _ _ _ _)
   | (with_reducible exact spec_l9Good.mono _ _ _)
   | (with_reducible exact spec_l9Own.mono _ _ _)
   | (with_reducible exact LeO.refl _)
   | (with_reducible exact LeO.none _)
   | (with_reducible refine LeO.ite ?_ ?_)
   | (with_reducible refine LeO.bind ?_ (fun _ => ?_))
   | exact ih0 _ _ _
   | exact ih1 _ _ _ _ _
   | exact spec_l9Good.mono _ _ _
   | exact spec_l9Own.mono _ _ _
   | exact LeO.none _
   | refine LeO.ite ?_ ?_
   | refine LeO.bind ?_ (fun _ => ?_)
def spec_ClearOrder.T10 : Bool × List (List Nat × List Nat) := (true, [([], []), ([0], [0]), ([1], [1]), ([2], [2]), ([3, 2], [2, 3]), ([4, 2, 2], [2, 4]), ([5], [5]), ([6, 5], [5, 6]), ([5], [5]), ([7, 8, 5], [5, 7, 8]), ([9, 5], [5, 9]), ([5], [5]), ([11, 5], [5, 11]), ([10, 12, 5], [5, 10, 12]), ([13, 5], [5, 13]), ([5], [5]), ([15, 5], [5, 15]), ([5], [5]), ([16, 17, 5], [5, 16, 17]), ([18, 5], [5, 18]), ([5], [5]), ([20, 5], [5, 20]), ([5], [5]), ([21, 22, 5], [5, 21, 22]), ([23, 5], [5, 23]), ([24, 5], [5, 24]), ([25, 5], [5, 25]), ([19, 26, 5], [5, 19, 26]), ([27, 5], [5, 27]), ([14, 28, 5], [5, 14, 28]), ([5, 29, 2], [2, 5, 29]), ([2, 30], [2, 30])])
def spec_ClearOrder.B10 : List Nat := [0, 1, 3, 7, 15, 31, 63, 127, 63, 511, 1023, 63, 2111, 8191, 16383, 63, 32831, 63, 229439, 491583, 63, 1048639, 63, 7340095, 15728703, 32505919, 66060351, 134185023, 268402751, 536870911, 1073741823, 2147483647]
theorem spec_ClearOrder.tab10 : rtab .any (opsOf Try.f10 10) = spec_ClearOrder.T10 := by kernel_rfl
theorem spec_ClearOrder.bits10 : waitsOk spec_ClearOrder.T10.2 spec_ClearOrder.B10 = true := by kernel_rfl
def spec_ClearOrder.T16 : Bool × List (List Nat × List Nat) := (true, [([], []), ([0], [0]), ([], []), ([], []), ([3], [3]), ([], []), ([4, 5], [4, 5]), ([6], [6]), ([], []), ([7, 8], [7, 8]), ([1, 2, 0, 1, 2, 3, 4, 5, 6, 7, 8, 9], [1, 2]), ([10, 9, 0, 1, 2, 3, 4, 5, 6, 7, 8, 9], [9, 10])])
def spec_ClearOrder.B16 : List Nat := [0, 1, 0, 0, 8, 0, 56, 120, 0, 504, 1023, 2047]
theorem spec_ClearOrder.tab16 : rtab .any (opsOf Try.f10 16) = spec_ClearOrder.T16 := by kernel_rfl
theorem spec_ClearOrder.bits16 : waitsOk spec_ClearOrder.T16.2 spec_ClearOrder.B16 = true := by kernel_rfl
set_option maxHeartbeats 8000000 in
set_option maxRecDepth 100000 in
theorem spec_ClearOrder.calls (k : Nat) (a0_0 : Int) (A0_1 : Option Addr) (c0_1 : Nat) (l0_1 : List (List Int)) (r1 : List Int) (r2 : Bool) (w : World) (hr0_1 : Kd.C (Kd.slice 3 (Kd.int .i64)) w A0_1 l0_1.length l0_1) (hc0_1 : l0_1.length ≤ c0_1) (h : spec_ClearOrder.f k a0_0 l0_1 = some (r1, r2)) :
  Calls Try.prog 10 #[.agg #[.int .i64 a0_0, .slice A0_1 l0_1.length c0_1]] w fun e w' => ∃ v0_ : Value, e = .returned (.tuple #[v0_, .bool r2]) ∧ Kd.R (Kd.int .i64) 3 w' w.heap.size (fun _ => True) v0_ r1 ∧ Below w.heap.size w w' := by
 have hu26 := Try.underlying26
 have HR0_1 := Aside0.mk hr0_1
 have HC0_1 := Aside0.mk hc0_1
 clear hr0_1 hc0_1
 have HB := Aside0.mk (Below.refl w.heap.size w)
 have H : ((some (([] : List Int) : List Int)).bind fun y333 => ((spec_l9Good.f k a0_0 l0_1).bind fun t336 => (if t336 = true then ((spec_l9Own.f k a0_0 l0_1).bind fun bt337 => (spec_ClearOrder.l0 k y333 bt337.1 bt337.2)) else (some (y333, false))))) = some (r1, r2) := h
 clear h
 obtain ⟨y333, hy333⟩ : ∃ y_ : List Int, y_ = (([] : List Int)) := ⟨_, rfl⟩
 replace H : ((spec_l9Good.f k a0_0 l0_1).bind fun t336 => (if t336 = true then ((spec_l9Own.f k a0_0 l0_1).bind fun bt337 => (spec_ClearOrder.l0 k y333 bt337.1 bt337.2)) else (some (y333, false)))) = some (r1, r2) := by first | (rw [hy333]; with_reducible exact H) | (have H2_ := (Option.bind_some _ _).symm.trans H; rw [hy333]; with_reducible exact H2_) | (have H2_ := (Option.bind_some _ _).symm.trans H; with_reducible exact H2_) | with_reducible exact H | (rw [hy333]; exact H) | exact H
 have Ny333 := Aside0.mk hy333
 clear hy333
 replace H := Option.bind_eq_some_iff.mp H
 obtain ⟨t336, A20, H⟩ := H
 replace H : (if t336 = true then ((spec_l9Own.f k a0_0 l0_1).bind fun bt337 => (spec_ClearOrder.l0 k y333 bt337.1 bt337.2)) else (some (y333, false))) = some (r1, r2) := H
 have A2 := Aside0.mk A20
 clear A20
 by_cases c3 : t336 = true
 rotate_left
 ·replace c3 := Bool.eq_false_iff.mpr c3
  subst c3
  have H1 : (some (y333, false)) = some (r1, r2) := by rw [if_neg (show ¬ (false = true) by decide)] at H; exact H
  clear H
  have H := H1
  clear H1
  simp only [Option.some.injEq, Prod.mk.injEq] at H
  obtain ⟨rfl, rfl⟩ := H
  go_enter Try.func10, Try.ntmps10
  go_wp2_with (first | ((with_reducible refine gate_dst (N := 1) rfl ?_); (try (refine gate_guard (by rfl) ?_; dsimp only)); refine box_event ?hg (N := 1) ?hd (cs := #[.int .i64 a0_0, .slice A0_1 l0_1.length c0_1]) (t := 26) ?hr ?_; (case hd => rfl); (case hg => rfl); (case hr => first | (go_simp; done) | (go_simp; rfl)); intro gb332 hg w65 hbox hb; have n0_ := Aside0.mk (below_step (bel HB) hb); have n1_ := Aside0.mk (hbox); have n2_ := Aside0.mk ((by rw [hg]; exact (below_size (bel HB)) : w.heap.size ≤ gb332)); have n3_ := Aside0.mk ((by rw [hg]; exact (below_size (bel HB)) : w.heap.size ≤ gb332)); clear HB; have HB := n0_; have BK332 := n1_; have GW332 := n2_; have GE332 := n3_; clear n0_ n1_ n2_ n3_; clear hb hbox hg) | ((with_reducible refine gate_dst (N := 10) rfl ?_); (try (refine gate_guard (by rfl) ?_; dsimp only)); refine Kd.R_lit (Kd.int .i64) _ 3 ?hg (N := 10) ?hd (xs := ([] : List Int)) (inner := []) (ok := fun _ => True) (okp := fun _ => True) ?hr ?hp (fun _ hk => hk) trivial (Below.refl _ _) (Nat.le_refl _) (by simp) ?_; (case hd => rfl); (case hg => rfl); (case hr => first | (go_simp; done) | (go_simp; rfl)); (case hp => exact (Reps.none _ _)); intro v334 w66 ho67 hb hg_ hnew_; clear hg_ hnew_; (first | rw [← Ny333.out] at ho67 | (simp only [Int.reduceToNat] at ho67; rw [← Ny333.out] at ho67)); have n0_ := Aside0.mk (Kd.R_lower ho67 (below_size (bel1 HB GE332))); have n1_ := Aside0.mk (blk_below (g := gb332) (o := .cells #[.int .i64 a0_0, .slice A0_1 l0_1.length c0_1] 26 (0, 0)) (bkl BK332) hb); have n2_ := Aside0.mk (below_step (bel1 HB GE332) hb); clear BK332; clear HB; have HO335 := n0_; have BK332 := n1_; have HB := n2_; clear n0_ n1_ n2_; clear hb ho67; have hcz68_0 : w66.cell? ⟨gb332, 0, none⟩ = some (.int .i64 a0_0) := (blk_cell BK332.out 0).trans rfl; have hcz68_1 : w66.cell? ⟨gb332, 1, none⟩ = some (.slice A0_1 l0_1.length c0_1) := (blk_cell BK332.out 1).trans rfl; have hfz68_0 := blk_frozen BK332.out 0; have hfz68_1 := blk_frozen BK332.out 1) | ((with_reducible refine gate_callee (f := 18) rfl ?_); refine goesL_ (some 12) rfl rfl Try.func18 (by kernel_rfl) rfl #[.agg #[.int .i64 a0_0, .slice A0_1 l0_1.length c0_1]] rfl gmp ?_; (with_reducible refine (spec_l9Good.calls k a0_0 _ _ l0_1 false _ ?side1 ?side2 A2.out).mono ?_); (case side1 => exact cdl (Kd.C_below HR0_1.out HB.out)); (case side2 => exact HC0_1.out); rintro e w69 ⟨rfl, hb⟩; refine ⟨_, rfl, ?_⟩; have n0_ := Aside0.mk (Kd.R_below (rdl HO335) hb); have n1_ := Aside0.mk (blk_below (g := gb332) (o := .cells #[.int .i64 a0_0, .slice A0_1 l0_1.length c0_1] 26 (0, 0)) (bkl BK332) hb); have n2_ := Aside0.mk (below_step (bel1 HB GE332) hb); clear HO335; clear BK332; clear HB; have HO335 := n0_; have BK332 := n1_; have HB := n2_; clear n0_ n1_ n2_; (try clear hb); (try clear hb2); (try clear hk); (try clear hi)))
  go_ret2
  exact ⟨_, by first | rfl | (simp [errW_none, errW_some] <;> rfl) | (simp [*, errW_none, errW_some] <;> rfl), rdl HO335, bel1 HB GE332⟩
 subst c3
 have H1 : ((spec_l9Own.f k a0_0 l0_1).bind fun bt337 => (spec_ClearOrder.l0 k y333 bt337.1 bt337.2)) = some (r1, r2) := by rw [if_pos rfl] at H; exact H
 clear H
 have H := H1
 clear H1
 replace H := Option.bind_eq_some_iff.mp H
 obtain ⟨⟨t337, t338⟩, A40, H⟩ := H
 replace H : (spec_ClearOrder.l0 k y333 t337 t338) = some (r1, r2) := H
 have A4 := Aside0.mk A40
 clear A40
 have H' := Aside0.mk H
 clear H
 go_enter Try.func10, Try.ntmps10
 go_wp2_with (first | ((with_reducible refine gate_dst (N := 1) rfl ?_); (try (refine gate_guard (by rfl) ?_; dsimp only)); refine box_event ?hg (N := 1) ?hd (cs := #[.int .i64 a0_0, .slice A0_1 l0_1.length c0_1]) (t := 26) ?hr ?_; (case hd => rfl); (case hg => rfl); (case hr => first | (go_simp; done) | (go_simp; rfl)); intro gb332 hg w5 hbox hb; have n0_ := Aside0.mk (below_step (bel HB) hb); have n1_ := Aside0.mk (hbox); have n2_ := Aside0.mk ((by rw [hg]; exact (below_size (bel HB)) : w.heap.size ≤ gb332)); have n3_ := Aside0.mk ((by rw [hg]; exact (below_size (bel HB)) : w.heap.size ≤ gb332)); clear HB; have HB := n0_; have BK332 := n1_; have GW332 := n2_; have GE332 := n3_; clear n0_ n1_ n2_ n3_; clear hb hbox hg) | ((with_reducible refine gate_dst (N := 10) rfl ?_); (try (refine gate_guard (by rfl) ?_; dsimp only)); refine Kd.R_lit (Kd.int .i64) _ 3 ?hg (N := 10) ?hd (xs := ([] : List Int)) (inner := []) (ok := fun _ => True) (okp := fun _ => True) ?hr ?hp (fun _ hk => hk) trivial (Below.refl _ _) (Nat.le_refl _) (by simp) ?_; (case hd => rfl); (case hg => rfl); (case hr => first | (go_simp; done) | (go_simp; rfl)); (case hp => exact (Reps.none _ _)); intro v334 w6 ho7 hb hg_ hnew_; clear hg_ hnew_; (first | rw [← Ny333.out] at ho7 | (simp only [Int.reduceToNat] at ho7; rw [← Ny333.out] at ho7)); have n0_ := Aside0.mk (Kd.R_lower ho7 (below_size (bel1 HB GE332))); have n1_ := Aside0.mk (blk_below (g := gb332) (o := .cells #[.int .i64 a0_0, .slice A0_1 l0_1.length c0_1] 26 (0, 0)) (bkl BK332) hb); have n2_ := Aside0.mk (below_step (bel1 HB GE332) hb); clear BK332; clear HB; have HO335 := n0_; have BK332 := n1_; have HB := n2_; clear n0_ n1_ n2_; clear hb ho7; have hcz8_0 : w6.cell? ⟨gb332, 0, none⟩ = some (.int .i64 a0_0) := (blk_cell BK332.out 0).trans rfl; have hcz8_1 : w6.cell? ⟨gb332, 1, none⟩ = some (.slice A0_1 l0_1.length c0_1) := (blk_cell BK332.out 1).trans rfl; have hfz8_0 := blk_frozen BK332.out 0; have hfz8_1 := blk_frozen BK332.out 1) | ((with_reducible refine gate_callee (f := 18) rfl ?_); refine goesL_ (some 12) rfl rfl Try.func18 (by kernel_rfl) rfl #[.agg #[.int .i64 a0_0, .slice A0_1 l0_1.length c0_1]] rfl gmp ?_; (with_reducible refine (spec_l9Good.calls k a0_0 _ _ l0_1 true _ ?side1 ?side2 A2.out).mono ?_); (case side1 => exact cdl (Kd.C_below HR0_1.out HB.out)); (case side2 => exact HC0_1.out); rintro e w9 ⟨rfl, hb⟩; refine ⟨_, rfl, ?_⟩; have n0_ := Aside0.mk (Kd.R_below (rdl HO335) hb); have n1_ := Aside0.mk (blk_below (g := gb332) (o := .cells #[.int .i64 a0_0, .slice A0_1 l0_1.length c0_1] 26 (0, 0)) (bkl BK332) hb); have n2_ := Aside0.mk (below_step (bel1 HB GE332) hb); clear HO335; clear BK332; clear HB; have HO335 := n0_; have BK332 := n1_; have HB := n2_; clear n0_ n1_ n2_; (try clear hb); (try clear hb2); (try clear hk); (try clear hi); have hcz10_0 : w9.cell? ⟨gb332, 0, none⟩ = some (.int .i64 a0_0) := (blk_cell BK332.out 0).trans rfl; have hcz10_1 : w9.cell? ⟨gb332, 1, none⟩ = some (.slice A0_1 l0_1.length c0_1) := (blk_cell BK332.out 1).trans rfl; have hfz10_0 := blk_frozen BK332.out 0; have hfz10_1 := blk_frozen BK332.out 1) | ((with_reducible refine gate_callee (f := 23) rfl ?_); refine goesL_ (some 16) rfl rfl Try.func23 (by kernel_rfl) rfl #[.agg #[.int .i64 a0_0, .slice A0_1 l0_1.length c0_1]] rfl gmp ?_; (with_reducible refine (spec_l9Own.calls k a0_0 _ _ l0_1 t337 t338 _ ?side1 ?side2 A4.out).mono ?_); (case side1 => exact cdl (Kd.C_below HR0_1.out HB.out)); (case side2 => exact HC0_1.out); rintro e w11 ⟨v339, rfl, ho0, hb⟩; refine ⟨_, rfl, ?_⟩; have n0_ := Aside0.mk (Kd.R_below (rdl HO335) hb); have n1_ := Aside0.mk (Kd.N_lower (Kd.N_mono (ok' := fun k_ => some k_ ≠ (v334 : Value).ownBlock ∧ k_ ≠ gb332) (Kd.S_N (Kd.S_bound ho0)) (fun k_ hk_ => ⟨(Kd.fresh' (Kd.R_lt (rdl HO335)) k_ hk_.2.1), (Kd.freshB (g := gb332) (o := .cells #[.int .i64 a0_0, .slice A0_1 l0_1.length c0_1] 26 (0, 0)) (bkl BK332) k_ hk_.2.1)⟩)) (below_size (bel1 HB GE332))); have n2_ := Aside0.mk (blk_below (g := gb332) (o := .cells #[.int .i64 a0_0, .slice A0_1 l0_1.length c0_1] 26 (0, 0)) (bkl BK332) hb); have n3_ := Aside0.mk (below_step (bel1 HB GE332) hb); clear HO335; clear BK332; clear HB; have HO335 := n0_; have HO340 := n1_; have BK332 := n2_; have HB := n3_; clear n0_ n1_ n2_ n3_; (try clear hb); (try clear hb2); (try clear hk); (try clear hi); (try clear ho0)) | ((with_reducible refine gate_dst (N := 5) rfl ?_); (try (refine gate_guard (by rfl) ?_; dsimp only)); refine box_event ?hg (N := 5) ?hd (cs := #[.int .i64 0, .slice none 0 0]) (t := 26) ?hr ?_; (case hd => rfl); (case hg => rfl); (case hr => first | (go_simp; done) | (go_simp; rfl)); intro gb341 hg w12 hbox hb; have n0_ := Aside0.mk (Kd.R_below (rdl HO335) hb); have n1_ := Aside0.mk (Kd.N_below (Kd.N_elderB (by (with_reducible repeat (first | apply Kd.N_alloc | apply Kd.N_drewN | apply Kd.N_drew)); exact HO340.out) gb341 (Nat.le_of_eq hg.symm)) hb); have n2_ := Aside0.mk (blk_below (g := gb332) (o := .cells #[.int .i64 a0_0, .slice A0_1 l0_1.length c0_1] 26 (0, 0)) (bkl BK332) hb); have n3_ := Aside0.mk (below_step (bel1 HB GE332) hb); have n4_ := Aside0.mk (hbox); have n5_ := Aside0.mk ((by rw [hg]; exact (below_size (bel1 HB GE332)) : w.heap.size ≤ gb341)); have n6_ := Aside0.mk ((by rw [hg]; exact (below_size (bel1 HB GE332)) : w.heap.size ≤ gb341)); have n7_ := Aside0.mk ((by rw [hg]; exact Nat.ne_of_lt (blk_lt (g := gb332) (o := .cells #[.int .i64 a0_0, .slice A0_1 l0_1.length c0_1] 26 (0, 0)) (bkl BK332)) : gb332 ≠ gb341)); have n8_ := Aside0.mk ((by rw [hg]; exact Nat.ne_of_gt (blk_lt (g := gb332) (o := .cells #[.int .i64 a0_0, .slice A0_1 l0_1.length c0_1] 26 (0, 0)) (bkl BK332)) : gb341 ≠ gb332)); clear HO335; clear HO340; clear BK332; clear HB; have HO335 := n0_; have HO340 := n1_; have BK332 := n2_; have HB := n3_; have BK341 := n4_; have GW341 := n5_; have GE341 := n6_; have NB332_341 := n7_; have NB341_332 := n8_; clear n0_ n1_ n2_ n3_ n4_ n5_ n6_ n7_ n8_; clear hb hbox hg; have hnb13 := NB341_332.out; have hnc13 := NB332_341.out; have hcz14_0 : w12.cell? ⟨gb341, 0, none⟩ = some (.int .i64 0) := (blk_cell BK341.out 0).trans rfl; have hcz14_1 : w12.cell? ⟨gb341, 1, none⟩ = some (.slice none 0 0) := (blk_cell BK341.out 1).trans rfl; have hfz14_0 := blk_frozen BK341.out 0; have hfz14_1 := blk_frozen BK341.out 1; obtain ⟨Ao15, co15, eo15⟩ := Kd.N_slice HO340.out; subst eo15))
 go_loopg [4] k (fun kq v4 w' => ∃ (x4_1 : List Int) (x342001_1 : List (List Int)) (u342001 : Value), Aside0 (spec_ClearOrder.l0 kq x4_1 t337 x342001_1 = some (r1, r2)) ∧ Aside0 (kq ≤ k) ∧ Aside0 (Kd.R (Kd.int .i64) 3 w' w.heap.size (fun _ => True) v4 x4_1) ∧ Aside0 (Kd.N (Kd.slice 3 (Kd.int .i64)) 27 w' w.heap.size (fun k_ => some k_ ≠ (v4 : Value).ownBlock ∧ k_ ≠ gb332 ∧ k_ ≠ gb341) u342001 x342001_1) ∧ Aside0 (w'.heap[gb332]? = some (.cells #[.int .i64 a0_0, (.slice A0_1 l0_1.length c0_1)] 26 (0, 0))) ∧ Aside0 (w'.heap[gb341]? = some (.cells #[.int .i64 t337, u342001] 26 (0, 0))) ∧ Aside0 (Below w.heap.size w w'))
 case atStart => exact ⟨(y333), (t338), (.slice Ao15 t338.length co15), H', ⟨Nat.le_refl _⟩, ⟨by (with_reducible repeat (first | apply Kd.R_alloc | apply Kd.R_drewN | apply Kd.R_drew)); exact Kd.R_mono (Kd.R_far (p := ⟨gb341, 1, none⟩) (Kd.R_far (p := ⟨gb341, 0, none⟩) (Kd.R_types HO335.out BK341.out (by decide)) (fun _ hk => hk.2) (.int .i64 t337)) (fun _ hk => hk.2) (.slice Ao15 t338.length co15)) (fun _ hk => trivial)⟩, ⟨by (with_reducible repeat (first | apply Kd.N_alloc | apply Kd.N_drewN | apply Kd.N_drew)); exact Kd.N_mono (Kd.N_far (p := ⟨gb341, 1, none⟩) (Kd.N_far (p := ⟨gb341, 0, none⟩) (Kd.N_mono HO340.out (fun k_ hk => (⟨hk, hk.2⟩ : _ ∧ k_ ≠ gb341))) (fun _ hk => hk.2) (.int .i64 t337)) (fun _ hk => hk.2) (.slice Ao15 t338.length co15)) (fun _ hk => by first | exact ⟨hk.1.1.1, ⟨hk.1.1.2, hk.1.2⟩⟩ | (simp only [ne_eq] at hk ⊢; grind))⟩, ⟨by (with_reducible repeat (first | refine blk_drewN ?_ _ | refine blk_drew ?_ | refine blk_alloc ?_ _)); refine blk_far ?_ NB332_341.out _; (with_reducible repeat (first | refine blk_drewN ?_ _ | refine blk_drew ?_ | refine blk_alloc ?_ _)); refine blk_far ?_ NB332_341.out _; (with_reducible repeat (first | refine blk_drewN ?_ _ | refine blk_drew ?_ | refine blk_alloc ?_ _)); exact BK332.out⟩, ⟨by (with_reducible repeat (first | refine blk_drewN ?_ _ | refine blk_drew ?_ | refine blk_alloc ?_ _)); refine blk_put (cs := #[.int .i64 t337, .slice none 0 0]) ?_ 1 _ rfl; (with_reducible repeat (first | refine blk_drewN ?_ _ | refine blk_drew ?_ | refine blk_alloc ?_ _)); refine blk_put (cs := #[.int .i64 0, .slice none 0 0]) ?_ 0 _ rfl; (with_reducible repeat (first | refine blk_drewN ?_ _ | refine blk_drew ?_ | refine blk_alloc ?_ _)); exact BK341.out⟩, ⟨bel2 HB GE332 GE341⟩⟩
 clear H'
 try clear c1
 try clear c2
 try clear p2
 try clear c3
 try clear c10
 try clear c13
 try clear hcz10_0
 try clear hcz10_1
 try clear hcz14_0
 try clear hcz14_1
 try clear hcz8_0
 try clear hcz8_1
 try clear hfz10_0
 try clear hfz10_1
 try clear hfz14_0
 try clear hfz14_1
 try clear hfz8_0
 try clear hfz8_1
 obtain ⟨x4_1, x342001_1, u342001, HA, HK1, HO_4, HO_342001, BK332, BK341, HB⟩ := hrel
 cases gk with
 | zero => exact absurd HA.out (by simp [spec_ClearOrder.l0])
 | succ k1 =>
  have H := HA.out
  clear HA
  simp only [spec_ClearOrder.l0] at H
  have H' := Aside0.mk H
  clear H
  go_wp2
  go_loopg [6, 7] k1 (fun kq v6 v7 w' => ∃ (x6_2 : Int) (x7_2 : Int), v6 = .int .i64 x6_2 ∧ v7 = .int .i64 x7_2 ∧ Aside0 (spec_ClearOrder.l1 kq x4_1 x6_2 x7_2 t337 x342001_1 = some (r1, r2)) ∧ Aside0 (kq ≤ k1) ∧ Aside0 (Kd.R (Kd.int .i64) 3 w' w.heap.size (fun _ => True) u4 x4_1) ∧ Aside0 (Kd.N (Kd.slice 3 (Kd.int .i64)) 27 w' w.heap.size (fun k_ => some k_ ≠ (u4 : Value).ownBlock ∧ k_ ≠ gb332 ∧ k_ ≠ gb341) u342001 x342001_1) ∧ Aside0 (w'.heap[gb332]? = some (.cells #[.int .i64 a0_0, (.slice A0_1 l0_1.length c0_1)] 26 (0, 0))) ∧ Aside0 (w'.heap[gb341]? = some (.cells #[.int .i64 t337, u342001] 26 (0, 0))) ∧ Aside0 (Below w.heap.size w w'))
  case atStart => exact ⟨((-1)), (0), (by first | rfl | (simp; done) | (simp [*]; done)), (by first | rfl | (simp; done) | (simp [*]; done)), H', ⟨Nat.le_refl _⟩, ⟨rdl HO_4⟩, ⟨by (with_reducible repeat (first | apply Kd.N_alloc | apply Kd.N_drewN | apply Kd.N_drew)); exact HO_342001.out⟩, ⟨bkl BK332⟩, ⟨bkl BK341⟩, ⟨bel2 HB GE332 GE341⟩⟩
  clear H'
  try clear c1
  try clear c2
  try clear p2
  try clear c3
  try clear c10
  try clear c13
  try clear hcz10_0
  try clear hcz10_1
  try clear hcz14_0
  try clear hcz14_1
  try clear hcz8_0
  try clear hcz8_1
  try clear hfz10_0
  try clear hfz10_1
  try clear hfz14_0
  try clear hfz14_1
  try clear hfz8_0
  try clear hfz8_1
  try clear p2
  obtain ⟨x6_2, x7_2, rfl, rfl, HA, HK2, HO_4, HO_342001, BK332, BK341, HB⟩ := hrel
  cases gk with
  | zero => exact absurd HA.out (by simp [spec_ClearOrder.l1])
  | succ k2 =>
   have H := HA.out
   clear HA
   simp only [spec_ClearOrder.l1] at H
   by_cases c16 : x7_2 < (x342001_1.length : Int)
   rotate_left
   ·rw [if_neg c16] at H
    have c16b0 : decide (x7_2 < (x342001_1.length : Int)) = false := decide_eq_false c16
    clear c16
    by_cases c45 : x6_2 < 0
    ·rw [if_pos c45] at H
     have c45b0 : decide (x6_2 < 0) = true := decide_eq_true c45
     clear c45
     simp only [Option.some.injEq, Prod.mk.injEq] at H
     obtain ⟨rfl, rfl⟩ := H
     have hnb46 := NB341_332.out
     have hnc46 := NB332_341.out
     have hcz47_0 : wr.cell? ⟨gb341, 0, none⟩ = some (.int .i64 t337) := (blk_cell BK341.out 0).trans rfl
     have hcz47_1 : wr.cell? ⟨gb341, 1, none⟩ = some (u342001) := (blk_cell BK341.out 1).trans rfl
     have hfz47_0 := blk_frozen BK341.out 0
     have hfz47_1 := blk_frozen BK341.out 1
     obtain ⟨Ao48, co48, eo48⟩ := Kd.N_slice HO_342001.out
     subst eo48
     go_wp2
     go_ret2
     exact ⟨_, by first | rfl | (simp [errW_none, errW_some] <;> rfl) | (simp [*, errW_none, errW_some] <;> rfl), rdl HO_4, bel2 HB GE332 GE341⟩
    rw [if_neg c45] at H
    have c45b0 : decide (x6_2 < 0) = false := decide_eq_false c45
    clear c45
    by_cases c49 : 0 ≤ x6_2
    rotate_left
    ·rw [if_neg c49] at H
     exact absurd H (by simp)
    rw [if_pos c49] at H
    have c49b0 : decide (0 ≤ x6_2) = true := decide_eq_true c49
    clear c49
    by_cases c50 : x6_2 < (x342001_1.length : Int)
    rotate_left
    ·rw [if_neg c50] at H
     exact absurd H (by simp)
    rw [if_pos c50] at H
    have c50b0 : decide (x6_2 < (x342001_1.length : Int)) = true := decide_eq_true c50
    clear c50
    obtain ⟨ji51, hji51⟩ : ∃ j_ : Int, (wrap64 (((rd_L2 x342001_1 x6_2).length : Int) - 1)) = j_ := ⟨_, rfl⟩
    replace H : (if 0 ≤ (ji51) then (if (ji51) < ((rd_L2 x342001_1 x6_2).length : Int) then (if x4_1.length < 17592186044416 then (if (ji51) ≤ ((rd_L2 x342001_1 x6_2).length : Int) then (spec_ClearOrder.l0 k2 (x4_1 ++ [rd (rd_L2 x342001_1 x6_2) (ji51)]) t337 (x342001_1.set (x6_2 : Int).toNat ((rd_L2 x342001_1 x6_2).take ((ji51) : Int).toNat))) else (none)) else (none)) else (none)) else (none)) = some (r1, r2) := by first | (rw [hji51] at H; exact H) | (simp only [hji51] at H ⊢; exact H)
    have hji51w : (IntKind.i64.wrap (((rd_L2 x342001_1 x6_2).length : Int) - 1)) = ji51 := (i64_w _).trans hji51
    by_cases c52 : 0 ≤ (ji51)
    rotate_left
    ·rw [if_neg c52] at H
     exact absurd H (by simp)
    rw [if_pos c52] at H
    have c52b0 : decide (0 ≤ (ji51)) = true := decide_eq_true c52
    clear c52
    by_cases c53 : (ji51) < ((rd_L2 x342001_1 x6_2).length : Int)
    rotate_left
    ·rw [if_neg c53] at H
     exact absurd H (by simp)
    rw [if_pos c53] at H
    have c53b0 : decide ((ji51) < ((rd_L2 x342001_1 x6_2).length : Int)) = true := decide_eq_true c53
    clear c53
    by_cases c54 : x4_1.length < 17592186044416
    rotate_left
    ·rw [if_neg c54] at H
     exact absurd H (by simp)
    rw [if_pos c54] at H
    have LMc54 := Aside0.mk c54
    clear c54
    obtain ⟨y351, hy351⟩ : ∃ y_ : List Int, y_ = (x4_1 ++ [rd (rd_L2 x342001_1 x6_2) (ji51)]) := ⟨_, rfl⟩
    replace H : (if (ji51) ≤ ((rd_L2 x342001_1 x6_2).length : Int) then (spec_ClearOrder.l0 k2 y351 t337 (x342001_1.set (x6_2 : Int).toNat ((rd_L2 x342001_1 x6_2).take ((ji51) : Int).toNat))) else (none)) = some (r1, r2) := by first | (rw [hy351]; with_reducible exact H) | (have H2_ := (Option.bind_some _ _).symm.trans H; rw [hy351]; with_reducible exact H2_) | (have H2_ := (Option.bind_some _ _).symm.trans H; with_reducible exact H2_) | with_reducible exact H | (rw [hy351]; exact H) | exact H
    have Ny351 := Aside0.mk hy351
    clear hy351
    have c55b0 := eq_true (oda : 0 ≤ (ji51))
    by_cases c56 : (ji51) ≤ ((rd_L2 x342001_1 x6_2).length : Int)
    rotate_left
    ·rw [if_neg c56] at H
     exact absurd H (by simp)
    rw [if_pos c56] at H
    have c56b0 := eq_true c56
    have c56b1 : decide ((ji51) ≤ ((rd_L2 x342001_1 x6_2).length : Int)) = true := decide_eq_true c56
    clear c56
    obtain ⟨y355, hy355⟩ : ∃ y_ : List Int, y_ = ((rd_L2 x342001_1 x6_2).take ((ji51) : Int).toNat) := ⟨_, rfl⟩
    replace H : (spec_ClearOrder.l0 k2 y351 t337 (x342001_1.set (x6_2 : Int).toNat y355)) = some (r1, r2) := by first | (rw [hy355]; with_reducible exact H) | (have H2_ := (Option.bind_some _ _).symm.trans H; rw [hy355]; with_reducible exact H2_) | (have H2_ := (Option.bind_some _ _).symm.trans H; with_reducible exact H2_) | with_reducible exact H | (rw [hy355]; exact H) | exact H
    have Ny355 := Aside0.mk hy355
    clear hy355
    obtain ⟨y360, hy360⟩ : ∃ y_ : List (List Int), y_ = (x342001_1.set (x6_2 : Int).toNat y355) := ⟨_, rfl⟩
    replace H : (spec_ClearOrder.l0 k2 y351 t337 y360) = some (r1, r2) := by first | (rw [hy360]; with_reducible exact H) | (have H2_ := (Option.bind_some _ _).symm.trans H; rw [hy360]; with_reducible exact H2_) | (have H2_ := (Option.bind_some _ _).symm.trans H; with_reducible exact H2_) | with_reducible exact H | (rw [hy360]; exact H) | exact H
    have Ny360 := Aside0.mk hy360
    clear hy360
    have H' := Aside0.mk H
    clear H
    have hnb58 := NB341_332.out
    have hnc58 := NB332_341.out
    have hcz59_0 : wr.cell? ⟨gb341, 0, none⟩ = some (.int .i64 t337) := (blk_cell BK341.out 0).trans rfl
    have hcz59_1 : wr.cell? ⟨gb341, 1, none⟩ = some (u342001) := (blk_cell BK341.out 1).trans rfl
    have hfz59_0 := blk_frozen BK341.out 0
    have hfz59_1 := blk_frozen BK341.out 1
    obtain ⟨Ao60, co60, eo60⟩ := Kd.N_slice HO_342001.out
    subst eo60
    have p348 : 0 ≤ (x6_2 : Int) := oda
    have q348 : x6_2 < (x342001_1.length : Int) := oda
    obtain ⟨ad348, A348_0, c348_0, e348, hx348_0, hl348_0, hi348_0⟩ := at_L2 (Kd.N_reads' HO_342001.out).2.2 x6_2 p348 q348
    cases e348
    obtain ⟨ce348, hce348, hMe348, hcc348⟩ := Kd.N_get HO_342001.out [] x6_2 p348 (by first | exact q348 | exact oda | (have e_ := (Kd.N_reads' HO_342001.out).1; omega))
    obtain ⟨ua348_0, uc348_0, rfl, ul348_0, ge348_0⟩ := Kd.FK_slice_open hMe348
    have hv348_0 := hcc348 0 _ rfl
    rw [Nat.add_zero, show ((Kd.slice 3 (Kd.int .i64))).sz = 1 from rfl, Nat.mul_one] at hv348_0
    replace hv348_0 := Option.some.inj (hv348_0.symm.trans hx348_0)
    injection hv348_0 with hva_ hvn_ hvc_
    rw [hva_] at ge348_0
    rw [hvc_] at ul348_0
    have HL348_0 := Aside0.mk (show Kd.V (Kd.int .i64) 3 _ w.heap.size _ _ (rd_L2 x342001_1 x6_2) from Kd.V_mk ul348_0 ge348_0)
    clear hva_ hvn_ hvc_ ge348_0 ul348_0 hcc348 hce348
    have HR348_0 := Aside0.mk hi348_0
    have HC348_0 := Aside0.mk hl348_0
    clear hi348_0 hl348_0
    replace p348 := eq_true p348
    replace q348 := eq_true q348
    have p349 : 0 ≤ (x6_2 : Int) := oda
    have q349 : x6_2 < (x342001_1.length : Int) := oda
    obtain ⟨ad349, A349_0, c349_0, e349, hx349_0, hl349_0, hi349_0⟩ := at_L2 (Kd.N_reads' HO_342001.out).2.2 x6_2 p349 q349
    obtain rfl : ad348 = ad349 := (by injection e349)
    obtain ⟨ce349, hce349, hMe349, hcc349⟩ := Kd.N_get HO_342001.out [] x6_2 p349 (by first | exact q349 | exact oda | (have e_ := (Kd.N_reads' HO_342001.out).1; omega))
    obtain ⟨ua349_0, uc349_0, rfl, ul349_0, ge349_0⟩ := Kd.FK_slice_open hMe349
    have hv349_0 := hcc349 0 _ rfl
    rw [Nat.add_zero, show ((Kd.slice 3 (Kd.int .i64))).sz = 1 from rfl, Nat.mul_one] at hv349_0
    replace hv349_0 := Option.some.inj (hv349_0.symm.trans hx349_0)
    injection hv349_0 with hva_ hvn_ hvc_
    rw [hva_] at ge349_0
    rw [hvc_] at ul349_0
    have HL349_0 := Aside0.mk (show Kd.V (Kd.int .i64) 3 _ w.heap.size _ _ (rd_L2 x342001_1 x6_2) from Kd.V_mk ul349_0 ge349_0)
    clear hva_ hvn_ hvc_ ge349_0 ul349_0 hcc349 hce349
    have HR349_0 := Aside0.mk hi349_0
    have HC349_0 := Aside0.mk hl349_0
    clear hi349_0 hl349_0
    replace p349 := eq_true p349
    replace q349 := eq_true q349
    have ea_ := Option.some.inj (hx348_0.symm.trans hx349_0)
    injection ea_ with ea_ en_ ec_
    subst ea_
    subst ec_
    clear en_
    have p350 : 0 ≤ ((ji51) : Int) := oda
    have q350 : (ji51) < ((rd_L2 x342001_1 x6_2).length : Int) := oda
    obtain ⟨ad350, e350, hx350_0⟩ := Kd.at_int (cdl HR349_0.out) (ji51) p350 q350
    cases e350
    replace p350 := eq_true p350
    replace q350 := eq_true q350
    try go_wp2_with (first | ((with_reducible refine gate_builtin (b := .append) (xs := #[.tmp 73, .tmp 82]) rfl ?_); (try (refine gate_guard (by rfl) ?_; dsimp only)); at_builtin; refine Kd.R_append (Kd.int .i64) (w0 := w) w.heap.size rfl (.tmp 73) (.tmp 82) 27 3 (.int .i64 0) 8 rfl Try.underlying27 info3 rfl (by decide) (by omega) u4 x4_1 (rd (rd_L2 x342001_1 x6_2) (ji51)) [.int .i64 (rd (rd_L2 x342001_1 x6_2) (ji51))] (fun _ => True) (fun _ => False) rfl rfl ?aP (fun _ hk => hk.elim) ?aF ?aO ?aB ?aS ?aL ?_; (case aP => exact rfl); (case aB => exact (bel2 HB GE332 GE341)); (case aF => exact (fun _ _ => trivial)); (case aO => exact (rdl HO_4)); (case aS => exact (below_size (bel2 HB GE332 GE341))); (case aL => have := LMc54.out; omega); intro v352 w61 ho hb hg hat; rw [← Ny351.out] at ho; have n0_ := Aside0.mk (Kd.N_afterv (ok := (fun k_ => k_ ≠ gb332 ∧ k_ ≠ gb341)) (by (with_reducible repeat (first | apply Kd.N_alloc | apply Kd.N_drewN | apply Kd.N_drew)); exact Kd.N_mono HO_342001.out (fun _ hk => by first | exact ⟨⟨hk.2.1, hk.2.2⟩, hk.1⟩ | (simp only [ne_eq] at hk ⊢; grind))) hg hat); have n1_ := Aside0.mk (blk_grown (g := gb332) (o := .cells #[.int .i64 a0_0, .slice A0_1 l0_1.length c0_1] 26 (0, 0)) (bkl BK332) hg (Kd.R_ne HO_4.out BK332.out (by decide))); have n2_ := Aside0.mk (blk_grown (g := gb341) (o := .cells #[.int .i64 t337, .slice (some ad348) x342001_1.length co60] 26 (0, 0)) (bkl BK341) hg (Kd.R_ne HO_4.out BK341.out (by decide))); have n3_ := Aside0.mk (Kd.V_afterv (ok := (fun k_ => some k_ ≠ (.slice (some ad348) x342001_1.length co60 : Value).ownBlock ∧ k_ ≠ gb332 ∧ k_ ≠ gb341)) (by (with_reducible repeat (first | apply Kd.V_alloc | apply Kd.V_drewN | apply Kd.V_drew)); exact Kd.V_mono HL348_0.out (fun _ hk => by first | exact ⟨⟨hk.2, ⟨hk.1.2.1, hk.1.2.2⟩⟩, hk.1.1⟩ | (simp only [ne_eq] at hk ⊢; grind))) hg hat); have n4_ := Aside0.mk (Kd.V_afterv (ok := (fun k_ => some k_ ≠ (.slice (some ad348) x342001_1.length co60 : Value).ownBlock ∧ k_ ≠ gb332 ∧ k_ ≠ gb341)) (by (with_reducible repeat (first | apply Kd.V_alloc | apply Kd.V_drewN | apply Kd.V_drew)); exact Kd.V_mono HL349_0.out (fun _ hk => by first | exact ⟨⟨hk.2, ⟨hk.1.2.1, hk.1.2.2⟩⟩, hk.1.1⟩ | (simp only [ne_eq] at hk ⊢; grind))) hg hat); have n5_ := Aside0.mk (hb); have n6_ := Aside0.mk (ho); clear HO_342001; clear BK332; clear BK341; clear HL348_0; clear HL349_0; clear HB; clear HO_4; have HO_342001 := n0_; have BK332 := n1_; have BK341 := n2_; have HL348_0 := n3_; have HL349_0 := n4_; have HB := n5_; have HO353 := n6_; clear n0_ n1_ n2_ n3_ n4_ n5_ n6_; clear ho hb hg hat))
    have n0_ := Aside0.mk (Kd.N_drew HO_342001.out)
    have n1_ := Aside0.mk (Kd.V_drew HL348_0.out)
    have n2_ := Aside0.mk (Kd.V_drew HL349_0.out)
    have n3_ := Aside0.mk (Kd.R_drew HO353.out)
    have n4_ := Aside0.mk (blk_drew BK332.out)
    have n5_ := Aside0.mk (blk_drew BK341.out)
    have n6_ := Aside0.mk (below_drew1 HB.out)
    clear HO_342001 HL348_0 HL349_0 HO353 BK332 BK341 HB
    have HO_342001 := n0_
    have HL348_0 := n1_
    have HL349_0 := n2_
    have HO353 := n3_
    have BK332 := n4_
    have BK341 := n5_
    have HB := n6_
    clear n0_ n1_ n2_ n3_ n4_ n5_ n6_
    have p354 : 0 ≤ (x6_2 : Int) := oda
    have q354 : x6_2 < (x342001_1.length : Int) := oda
    obtain ⟨ad354, A354_0, c354_0, e354, hx354_0, hl354_0, hi354_0⟩ := at_L2 (Kd.N_reads' HO_342001.out).2.2 x6_2 p354 q354
    obtain rfl : ad348 = ad354 := (by injection e354)
    obtain ⟨ce354, hce354, hMe354, hcc354⟩ := Kd.N_get HO_342001.out [] x6_2 p354 (by first | exact q354 | exact oda | (have e_ := (Kd.N_reads' HO_342001.out).1; omega))
    obtain ⟨ua354_0, uc354_0, rfl, ul354_0, ge354_0⟩ := Kd.FK_slice_open hMe354
    have hv354_0 := hcc354 0 _ rfl
    rw [Nat.add_zero, show ((Kd.slice 3 (Kd.int .i64))).sz = 1 from rfl, Nat.mul_one] at hv354_0
    replace hv354_0 := Option.some.inj (hv354_0.symm.trans hx354_0)
    injection hv354_0 with hva_ hvn_ hvc_
    rw [hva_] at ge354_0
    rw [hvc_] at ul354_0
    have HL354_0 := Aside0.mk (show Kd.V (Kd.int .i64) 3 _ w.heap.size _ _ (rd_L2 x342001_1 x6_2) from Kd.V_mk ul354_0 ge354_0)
    clear hva_ hvn_ hvc_ ge354_0 ul354_0 hcc354 hce354
    have HR354_0 := Aside0.mk hi354_0
    have HC354_0 := Aside0.mk hl354_0
    clear hi354_0 hl354_0
    replace p354 := eq_true p354
    replace q354 := eq_true q354
    have q63 : ((ji51) : Int) ≤ (((rd_L2 x342001_1 x6_2).length : Int) : Int) := oda
    obtain ⟨i063, hi063, _, hsz63, _⟩ := info_parts info3
    have hroom63 : (rd_L2 x342001_1 x6_2).length ≤ c354_0 := HC354_0.out
    have hC63 : Kd.F (Kd.int .i64) _ _ A354_0 (rd_L2 x342001_1 x6_2).length (rd_L2 x342001_1 x6_2) := (Kd.V_at (base := w.heap.size) HL354_0.out).2.2
    have hcut63 := cut_to (P := Try.prog) 27 3 .i64 Try.underlying27 hi063 A354_0 (rd_L2 x342001_1 x6_2).length c354_0 (ji51) (oda) q63 hroom63
    have hr63 := Kd.F_take (m := ((ji51) : Int).toNat) hC63 (by omega)
    have hy63 : y355.length = ((ji51) : Int).toNat := (by rw [Ny355.out, List.length_take]; omega)
    rw [← Ny355.out] at hr63
    rw [← hy63] at hcut63
    have HO359 := Aside0.mk (show Kd.V (Kd.int .i64) 3 _ w.heap.size _ (.slice A354_0 y355.length c354_0) y355 from Kd.V_mk (by omega) hr63)
    have HC359 := Aside0.mk (show y355.length ≤ c354_0 from by omega)
    clear hr63 hC63 hroom63 hi063 hsz63
    have KY63 := Aside0.mk hy63
    clear hy63
    replace q63 := eq_true q63
    have p57 : 0 ≤ (x6_2 : Int) := oda
    have q57 : (x6_2 : Int) < ((x342001_1.length : Int) : Int) := oda
    obtain ⟨go57, co57, eo57, gb57, gl57, cl57, HG57⟩ := Kd.N_form HO_342001.out (by omega)
    (first | cases eo57 | (injection eo57 with ea_ en_ ec_; (first | subst ea_ | (injection ea_ with ea_; subst ea_)); subst ec_; clear en_))
    have GB57 := Aside0.mk gb57
    have GG57 := Aside0.mk HG57
    clear gb57 gl57 HG57
    (first | simp only [add_plain] at hx348_0 | skip)
    (first | simp only [add_plain] at hx349_0 | skip)
    (first | simp only [add_plain] at hx354_0 | skip)
    obtain ⟨ce57, hcl57, hM57, hcc57, hfr57⟩ := Kd.N_elem HO_342001.out [] (x6_2 : Int) p57 q57
    obtain ⟨ua57_0, uc57_0, rfl, ul57_0, ge57_0⟩ := Kd.FK_slice_open hM57
    have hx57_0 := hcc57 0 _ rfl
    have hf57_0 := hfr57 0
    (try simp only [show ((Kd.slice 3 (Kd.int .i64))).sz = 1 from rfl, Nat.mul_one, Nat.add_zero] at hx57_0)
    (try simp only [show ((Kd.slice 3 (Kd.int .i64))).sz = 1 from rfl, Nat.mul_one, Nat.add_zero] at hf57_0)
    clear hcl57 hcc57 hfr57; (try clear hM57)
    replace p57 := eq_true p57
    replace q57 := eq_true q57
    have HX64 := Aside0.mk (show Kd.N (Kd.slice 3 (Kd.int .i64)) 27 _ w.heap.size (fun k_ => some k_ ≠ (v352 : Value).ownBlock ∧ k_ ≠ gb332 ∧ k_ ≠ gb341) (.slice (some ⟨go57, 0, none⟩) x342001_1.length co60) x342001_1 from (Kd.N_mono (HO_342001.out) (fun k_ hk => ⟨hk.2, ⟨hk.1.1, hk.1.2⟩⟩)))
    obtain ⟨ce64, hcl64, hM64, hcc64, hfr64⟩ := Kd.N_elem HX64.out [] (x6_2 : Int) (oda) (by have h_ : (x6_2 : Int) < ((x342001_1.length : Int) : Int) := oda; first | exact h_ | (have e_ := (Kd.N_reads' HO_342001.out).1; omega) | simpa using h_)
    obtain ⟨ua64_0, uc64_0, rfl, ul64_0, ge64_0⟩ := Kd.FK_slice_open hM64
    have HP64 := (Kd.N_seg HX64.out (x6_2 : Int) (oda) (by have h_ : (x6_2 : Int) < ((x342001_1.length : Int) : Int) := oda; first | exact h_ | (have e_ := (Kd.N_reads' HO_342001.out).1; omega) | simpa using h_) (seg := [.slice A354_0 y355.length c354_0]) (j := 0) hcl64 hcc64 (show 1 ≤ 1 from by decide) (x' := y355) (Kd.FK_slice_mk (Kd.V_reads' (Kd.V_mono (ok' := (fun k_ => ((fun k_ => some k_ ≠ (v352 : Value).ownBlock ∧ k_ ≠ gb332 ∧ k_ ≠ gb341)) k_ ∧ k_ ≠ go57)) (HO359.out) (fun k_ hk => ⟨⟨hk.1.2, ⟨hk.1.1.1, hk.1.1.2⟩⟩, fun e_ => (hk.2) (by rw [e_]; rfl)⟩))).2.1 (Kd.V_F (Kd.V_mono (ok' := (fun k_ => ((fun k_ => some k_ ≠ (v352 : Value).ownBlock ∧ k_ ≠ gb332 ∧ k_ ≠ gb341)) k_ ∧ k_ ≠ go57)) (HO359.out) (fun k_ hk => ⟨⟨hk.1.2, ⟨hk.1.1.1, hk.1.1.2⟩⟩, fun e_ => (hk.2) (by rw [e_]; rfl)⟩)))) (fun _ hk => hk)).1
    (try simp only [show ((Kd.slice 3 (Kd.int .i64))).sz = 1 from rfl, Nat.mul_one, Nat.add_zero] at HP64)
    rw [← Ny360.out] at HP64
    have HQ64 := Aside0.mk HP64
    clear hcl64 hcc64 hfr64 HP64; (try clear hM64)
    refine start_ (n := 12) (S := fun w' => w'.cell? ⟨gb341, 0, none⟩ = some (.int .i64 t337) ∧ w'.cell? ⟨gb341, 1, none⟩ = some (.slice (some ⟨go57, 0, none⟩) x342001_1.length co60) ∧ w'.cell? ⟨go57, (x6_2).toNat, none⟩ = some (.slice A354_0 (rd_L2 x342001_1 x6_2).length c354_0)) (ds := [11]) #[false, false, false, false, false, false, false, false, false, false, false, false] (by kernel_rfl) rfl rfl ⟨(blk_cell BK341.out 0).trans rfl, (blk_cell BK341.out 1).trans rfl, hx354_0⟩ (fun hHeld => ?_); refine with_tabW spec_ClearOrder.tab16 spec_ClearOrder.bits16 (fun HT_ HW_ => ?_)
    generalize w61.drew = w62 at HO_342001 HL348_0 HL349_0 HO353 BK332 BK341 HB GG57 HL354_0 HO359 HQ64 HR354_0 hf57_0 hx348_0 hx349_0 hx354_0 hx57_0 hHeld ⊢
    refine pure_ (i := 0) (N := some 84) (v := ?_) (a' := ?_) #[true, false, false, false, false, false, false, false, false, false, false, false] rfl rfl (any_of HT_.out (by kernel_rfl)) (fun _ _ _ h => h) (Or.inl ⟨by rfl, ?_⟩) ?_ ?_
    rotate_left
    ·intro w'
     go_simp
     with_reducible rfl
    rotate_left
    ·simp only [putS]
     rfl
    refine pure_ (i := 2) (N := some 86) (v := ?_) (a' := ?_) #[true, false, true, false, false, false, false, false, false, false, false, false] rfl rfl (any_of HT_.out (by kernel_rfl)) (fun _ _ _ h => h) (Or.inl ⟨by rfl, ?_⟩) ?_ ?_
    rotate_left
    ·intro w'
     go_simp
     with_reducible rfl
    rotate_left
    ·simp only [putS]
     rfl
    refine pure_ (i := 3) (N := some 87) (v := ?_) (a' := ?_) #[true, false, true, true, false, false, false, false, false, false, false, false] rfl rfl (any_of HT_.out (by kernel_rfl)) (fun _ _ _ h => h) (Or.inl ⟨by rfl, ?_⟩) ?_ ?_
    rotate_left
    ·intro w'
     go_simp
     with_reducible rfl
    rotate_left
    ·simp only [putS]
     rfl
    refine pure_ (i := 5) (N := some 89) (v := ?_) (a' := ?_) #[true, false, true, true, false, true, false, false, false, false, false, false] rfl rfl (any_of HT_.out (by kernel_rfl)) (fun _ _ _ h => h) (Or.inl ⟨by rfl, ?_⟩) ?_ ?_
    rotate_left
    ·intro w'
     go_simp
     with_reducible rfl
    rotate_left
    ·simp only [putS]
     rfl
    refine pure_ (i := 8) (N := some 92) (v := ?_) (a' := ?_) #[true, false, true, true, false, true, false, false, true, false, false, false] rfl rfl (any_of HT_.out (by kernel_rfl)) (fun _ _ _ h => h) (Or.inl ⟨by rfl, ?_⟩) ?_ ?_
    rotate_left
    ·intro w'
     go_simp
     with_reducible rfl
    rotate_left
    ·simp only [putS]
     rfl
    refine take_ (i := 1) (N := some 85) (v := ?_) (a' := ?_) #[true, true, true, true, false, true, false, false, true, false, false, false] rfl rfl (take_ofW HT_.out HW_.out (by kernel_rfl)) (fun _ _ _ h => h) (Or.inl ⟨by rfl, ?_⟩) hHeld ?_ ?_
    rotate_left
    ·rintro w' ⟨s0, s1, s2⟩
     go_simp
     with_reducible rfl
    rotate_left
    ·simp only [putS]
     rfl
    refine take_ (i := 4) (N := some 88) (v := ?_) (a' := ?_) #[true, true, true, true, true, true, false, false, true, false, false, false] rfl rfl (take_ofW HT_.out HW_.out (by kernel_rfl)) (fun _ _ _ h => h) (Or.inl ⟨by rfl, ?_⟩) hHeld ?_ ?_
    rotate_left
    ·rintro w' ⟨s0, s1, s2⟩
     go_simp
     with_reducible rfl
    rotate_left
    ·simp only [putS]
     rfl
    refine pure_ (i := 6) (N := some 90) (v := ?_) (a' := ?_) #[true, true, true, true, true, true, true, false, true, false, false, false] rfl rfl (any_of HT_.out (by kernel_rfl)) (fun _ _ _ h => h) (Or.inl ⟨by rfl, ?_⟩) ?_ ?_
    rotate_left
    ·intro w'
     go_simp
     with_reducible rfl
    rotate_left
    ·simp only [putS]
     rfl
    refine take_ (i := 7) (N := some 91) (v := ?_) (a' := ?_) #[true, true, true, true, true, true, true, true, true, false, false, false] rfl rfl (take_ofW HT_.out HW_.out (by kernel_rfl)) (fun _ _ _ h => h) (Or.inl ⟨by rfl, ?_⟩) hHeld ?_ ?_
    rotate_left
    ·rintro w' ⟨s0, s1, s2⟩
     go_simp
     with_reducible rfl
    rotate_left
    ·simp only [putS]
     rfl
    refine pure_ (i := 9) (N := some 93) (v := ?_) (a' := ?_) #[true, true, true, true, true, true, true, true, true, true, false, false] rfl rfl (any_of HT_.out (by kernel_rfl)) (fun _ _ _ h => h) (Or.inl ⟨by rfl, ?_⟩) ?_ ?_
    rotate_left
    ·intro w'
     go_simp
     with_reducible rfl
    rotate_left
    ·simp only [putS]
     rfl
    refine pure_ (i := 10) (N := some 94) (v := ?_) (a' := ?_) #[true, true, true, true, true, true, true, true, true, true, true, false] rfl rfl (any_of HT_.out (by kernel_rfl)) (fun _ _ _ h => h) (Or.inl ⟨by rfl, ?_⟩) ?_ ?_
    rotate_left
    ·intro w'
     go_simp
     with_reducible rfl
    rotate_left
    ·simp only [putS]
     rfl
    refine last_ (i := 11) (N := none) #[true, true, true, true, true, true, true, true, true, true, true, true] rfl rfl (one_of HT_.out (by kernel_rfl)) (by decide) (fun K hK => ?_)
    refine skip_ (w1 := ?_) (by rfl) rfl ?_ ?_
    rotate_left
    ·go_simp
     rfl
    refine hK.out _ _ ?_
    clear hK K
    refine done_ (done_of HT_.out (by kernel_rfl)) ?_
    try go_wp2
    go_roundg k2
    case measure => have := HK1.out; have := HK2.out; omega
    case rel => exact ⟨(y351), (y360), (.slice (some ⟨go57, 0, none⟩) x342001_1.length co60), H', ⟨by have := HK1.out; have := HK2.out; omega⟩, ⟨by (with_reducible repeat (first | apply Kd.R_alloc | apply Kd.R_drewN | apply Kd.R_drew)); exact Kd.R_mono (Kd.R_far (p := ⟨go57, (x6_2 : Int).toNat, none⟩) (Kd.R_types HO353.out GG57.out (by decide)) (fun _ hk => hk.2) (.slice A354_0 y355.length c354_0)) (fun _ hk => trivial)⟩, ⟨by (with_reducible repeat (first | apply Kd.N_alloc | apply Kd.N_drewN | apply Kd.N_drew)); exact HQ64.out⟩, ⟨by (with_reducible repeat (first | refine blk_drewN ?_ _ | refine blk_drew ?_ | refine blk_alloc ?_ _)); refine blk_far ?_ (by have h_ := Kd.N_away HO_342001.out (fun _ hk => hk.1.1); intro e_; exact h_ (by rw [e_]; rfl)) _; (with_reducible repeat (first | refine blk_drewN ?_ _ | refine blk_drew ?_ | refine blk_alloc ?_ _)); exact BK332.out⟩, ⟨by (with_reducible repeat (first | refine blk_drewN ?_ _ | refine blk_drew ?_ | refine blk_alloc ?_ _)); refine blk_far ?_ (by have h_ := Kd.N_away HO_342001.out (fun _ hk => hk.1.2); intro e_; exact h_ (by rw [e_]; rfl)) _; (with_reducible repeat (first | refine blk_drewN ?_ _ | refine blk_drew ?_ | refine blk_alloc ?_ _)); exact BK341.out⟩, ⟨bel3 HB GB57 GE332 GE341⟩⟩
   rw [if_pos c16] at H
   have c16b0 : decide (x7_2 < (x342001_1.length : Int)) = true := decide_eq_true c16
   clear c16
   by_cases c17 : 0 ≤ x7_2
   rotate_left
   ·rw [if_neg c17] at H
    exact absurd H (by simp)
   rw [if_pos c17] at H
   have c17b0 : decide (0 ≤ x7_2) = true := decide_eq_true c17
   clear c17
   by_cases c18 : ((rd_L2 x342001_1 x7_2).length : Int) > 0
   rotate_left
   ·rw [if_neg c18] at H
    have c18b0 : decide (0 < ((rd_L2 x342001_1 x7_2).length : Int)) = false := decide_eq_false c18
    have c18b1 : decide (0 < (rd_L2 x342001_1 x7_2).length) = false := decide_eq_false (by omega)
    clear c18
    have H' := Aside0.mk H
    clear H
    have hnb41 := NB341_332.out
    have hnc41 := NB332_341.out
    have hcz42_0 : wr.cell? ⟨gb341, 0, none⟩ = some (.int .i64 t337) := (blk_cell BK341.out 0).trans rfl
    have hcz42_1 : wr.cell? ⟨gb341, 1, none⟩ = some (u342001) := (blk_cell BK341.out 1).trans rfl
    have hfz42_0 := blk_frozen BK341.out 0
    have hfz42_1 := blk_frozen BK341.out 1
    obtain ⟨Ao43, co43, eo43⟩ := Kd.N_slice HO_342001.out
    subst eo43
    have p342 : 0 ≤ (x7_2 : Int) := oda
    have q342 : x7_2 < (x342001_1.length : Int) := oda
    obtain ⟨ad342, A342_0, c342_0, e342, hx342_0, hl342_0, hi342_0⟩ := at_L2 (Kd.N_reads' HO_342001.out).2.2 x7_2 p342 q342
    cases e342
    obtain ⟨ce342, hce342, hMe342, hcc342⟩ := Kd.N_get HO_342001.out [] x7_2 p342 (by first | exact q342 | exact oda | (have e_ := (Kd.N_reads' HO_342001.out).1; omega))
    obtain ⟨ua342_0, uc342_0, rfl, ul342_0, ge342_0⟩ := Kd.FK_slice_open hMe342
    have hv342_0 := hcc342 0 _ rfl
    rw [Nat.add_zero, show ((Kd.slice 3 (Kd.int .i64))).sz = 1 from rfl, Nat.mul_one] at hv342_0
    replace hv342_0 := Option.some.inj (hv342_0.symm.trans hx342_0)
    injection hv342_0 with hva_ hvn_ hvc_
    rw [hva_] at ge342_0
    rw [hvc_] at ul342_0
    have HL342_0 := Aside0.mk (show Kd.V (Kd.int .i64) 3 _ w.heap.size _ _ (rd_L2 x342001_1 x7_2) from Kd.V_mk ul342_0 ge342_0)
    clear hva_ hvn_ hvc_ ge342_0 ul342_0 hcc342 hce342
    have HR342_0 := Aside0.mk hi342_0
    have HC342_0 := Aside0.mk hl342_0
    clear hi342_0 hl342_0
    replace p342 := eq_true p342
    replace q342 := eq_true q342
    try go_wp2
    have n0_ := Aside0.mk (Kd.R_drew HO_4.out)
    have n1_ := Aside0.mk (Kd.N_drew HO_342001.out)
    have n2_ := Aside0.mk (Kd.V_drew HL342_0.out)
    have n3_ := Aside0.mk (blk_drew BK332.out)
    have n4_ := Aside0.mk (blk_drew BK341.out)
    have n5_ := Aside0.mk (Kd.C_drew HR342_0.out)
    have n6_ := Aside0.mk (below_drew1 HB.out)
    clear HO_4 HO_342001 HL342_0 BK332 BK341 HR342_0 HB
    have HO_4 := n0_
    have HO_342001 := n1_
    have HL342_0 := n2_
    have BK332 := n3_
    have BK341 := n4_
    have HR342_0 := n5_
    have HB := n6_
    clear n0_ n1_ n2_ n3_ n4_ n5_ n6_
    refine start_ (n := 32) (S := fun w' => True) (ds := []) #[false, false, false, false, false, false, false, false, false, false, false, false, false, false, false, false, false, false, false, false, false, false, false, false, false, false, false, false, false, false, false, false] (by kernel_rfl) rfl rfl trivial (fun hHeld => ?_); refine with_tabW spec_ClearOrder.tab10 spec_ClearOrder.bits10 (fun HT_ HW_ => ?_)
    generalize wr.drew = w44 at HO_4 HO_342001 HL342_0 BK332 BK341 HR342_0 HB hHeld ⊢
    refine pure_ (i := 0) (N := some 30) (v := ?_) (a' := ?_) #[true, false, false, false, false, false, false, false, false, false, false, false, false, false, false, false, false, false, false, false, false, false, false, false, false, false, false, false, false, false, false, false] rfl rfl (any_of HT_.out (by kernel_rfl)) (fun _ _ _ h => h) (Or.inl ⟨by rfl, ?_⟩) ?_ ?_
    rotate_left
    ·intro w'
     go_simp
     with_reducible rfl
    rotate_left
    ·simp only [putS]
     rfl
    refine pure_ (i := 1) (N := some 31) (v := ?_) (a' := ?_) #[true, true, false, false, false, false, false, false, false, false, false, false, false, false, false, false, false, false, false, false, false, false, false, false, false, false, false, false, false, false, false, false] rfl rfl (any_of HT_.out (by kernel_rfl)) (fun _ _ _ h => h) (Or.inl ⟨by rfl, ?_⟩) ?_ ?_
    rotate_left
    ·intro w'
     go_simp
     with_reducible rfl
    rotate_left
    ·simp only [putS]
     rfl
    refine pure_ (i := 2) (N := some 32) (v := ?_) (a' := ?_) #[true, true, true, false, false, false, false, false, false, false, false, false, false, false, false, false, false, false, false, false, false, false, false, false, false, false, false, false, false, false, false, false] rfl rfl (any_of HT_.out (by kernel_rfl)) (fun _ _ _ h => h) (Or.inl ⟨by rfl, ?_⟩) ?_ ?_
    rotate_left
    ·intro w'
     go_simp
     with_reducible rfl
    rotate_left
    ·simp only [putS]
     rfl
    refine pure_ (i := 3) (N := some 33) (v := undef) (a' := ?_) #[true, true, true, true, false, false, false, false, false, false, false, false, false, false, false, false, false, false, false, false, false, false, false, false, false, false, false, false, false, false, false, false] rfl rfl (any_of HT_.out (by kernel_rfl)) (fun _ _ _ h => h) (Or.inr ⟨by rfl, rfl⟩) ?_ ?_
    rotate_left
    ·simp only [putS]
     rfl
    refine pure_ (i := 4) (N := some 34) (v := undef) (a' := ?_) #[true, true, true, true, true, false, false, false, false, false, false, false, false, false, false, false, false, false, false, false, false, false, false, false, false, false, false, false, false, false, false, false] rfl rfl (any_of HT_.out (by kernel_rfl)) (fun _ _ _ h => h) (Or.inr ⟨by rfl, rfl⟩) ?_ ?_
    rotate_left
    ·simp only [putS]
     rfl
    refine pure_ (i := 5) (N := some 35) (v := undef) (a' := ?_) #[true, true, true, true, true, true, false, false, false, false, false, false, false, false, false, false, false, false, false, false, false, false, false, false, false, false, false, false, false, false, false, false] rfl rfl (any_of HT_.out (by kernel_rfl)) (fun _ _ _ h => h) (Or.inr ⟨by rfl, rfl⟩) ?_ ?_
    rotate_left
    ·simp only [putS]
     rfl
    refine pure_ (i := 6) (N := some 36) (v := undef) (a' := ?_) #[true, true, true, true, true, true, true, false, false, false, false, false, false, false, false, false, false, false, false, false, false, false, false, false, false, false, false, false, false, false, false, false] rfl rfl (any_of HT_.out (by kernel_rfl)) (fun _ _ _ h => h) (Or.inr ⟨by rfl, rfl⟩) ?_ ?_
    rotate_left
    ·simp only [putS]
     rfl
    refine pure_ (i := 7) (N := some 37) (v := undef) (a' := ?_) #[true, true, true, true, true, true, true, true, false, false, false, false, false, false, false, false, false, false, false, false, false, false, false, false, false, false, false, false, false, false, false, false] rfl rfl (any_of HT_.out (by kernel_rfl)) (fun _ _ _ h => h) (Or.inr ⟨by rfl, rfl⟩) ?_ ?_
    rotate_left
    ·simp only [putS]
     rfl
    refine pure_ (i := 8) (N := some 38) (v := undef) (a' := ?_) #[true, true, true, true, true, true, true, true, true, false, false, false, false, false, false, false, false, false, false, false, false, false, false, false, false, false, false, false, false, false, false, false] rfl rfl (any_of HT_.out (by kernel_rfl)) (fun _ _ _ h => h) (Or.inr ⟨by rfl, rfl⟩) ?_ ?_
    rotate_left
    ·simp only [putS]
     rfl
    refine pure_ (i := 9) (N := some 39) (v := undef) (a' := ?_) #[true, true, true, true, true, true, true, true, true, true, false, false, false, false, false, false, false, false, false, false, false, false, false, false, false, false, false, false, false, false, false, false] rfl rfl (any_of HT_.out (by kernel_rfl)) (fun _ _ _ h => h) (Or.inr ⟨by rfl, rfl⟩) ?_ ?_
    rotate_left
    ·simp only [putS]
     rfl
    refine pure_ (i := 10) (N := some 40) (v := undef) (a' := ?_) #[true, true, true, true, true, true, true, true, true, true, true, false, false, false, false, false, false, false, false, false, false, false, false, false, false, false, false, false, false, false, false, false] rfl rfl (any_of HT_.out (by kernel_rfl)) (fun _ _ _ h => h) (Or.inr ⟨by rfl, rfl⟩) ?_ ?_
    rotate_left
    ·simp only [putS]
     rfl
    refine pure_ (i := 11) (N := some 41) (v := undef) (a' := ?_) #[true, true, true, true, true, true, true, true, true, true, true, true, false, false, false, false, false, false, false, false, false, false, false, false, false, false, false, false, false, false, false, false] rfl rfl (any_of HT_.out (by kernel_rfl)) (fun _ _ _ h => h) (Or.inr ⟨by rfl, rfl⟩) ?_ ?_
    rotate_left
    ·simp only [putS]
     rfl
    refine pure_ (i := 12) (N := some 42) (v := undef) (a' := ?_) #[true, true, true, true, true, true, true, true, true, true, true, true, true, false, false, false, false, false, false, false, false, false, false, false, false, false, false, false, false, false, false, false] rfl rfl (any_of HT_.out (by kernel_rfl)) (fun _ _ _ h => h) (Or.inr ⟨by rfl, rfl⟩) ?_ ?_
    rotate_left
    ·simp only [putS]
     rfl
    refine pure_ (i := 13) (N := some 43) (v := undef) (a' := ?_) #[true, true, true, true, true, true, true, true, true, true, true, true, true, true, false, false, false, false, false, false, false, false, false, false, false, false, false, false, false, false, false, false] rfl rfl (any_of HT_.out (by kernel_rfl)) (fun _ _ _ h => h) (Or.inr ⟨by rfl, rfl⟩) ?_ ?_
    rotate_left
    ·simp only [putS]
     rfl
    refine pure_ (i := 14) (N := some 44) (v := undef) (a' := ?_) #[true, true, true, true, true, true, true, true, true, true, true, true, true, true, true, false, false, false, false, false, false, false, false, false, false, false, false, false, false, false, false, false] rfl rfl (any_of HT_.out (by kernel_rfl)) (fun _ _ _ h => h) (Or.inr ⟨by rfl, rfl⟩) ?_ ?_
    rotate_left
    ·simp only [putS]
     rfl
    refine pure_ (i := 15) (N := some 45) (v := undef) (a' := ?_) #[true, true, true, true, true, true, true, true, true, true, true, true, true, true, true, true, false, false, false, false, false, false, false, false, false, false, false, false, false, false, false, false] rfl rfl (any_of HT_.out (by kernel_rfl)) (fun _ _ _ h => h) (Or.inr ⟨by rfl, rfl⟩) ?_ ?_
    rotate_left
    ·simp only [putS]
     rfl
    refine pure_ (i := 16) (N := some 46) (v := undef) (a' := ?_) #[true, true, true, true, true, true, true, true, true, true, true, true, true, true, true, true, true, false, false, false, false, false, false, false, false, false, false, false, false, false, false, false] rfl rfl (any_of HT_.out (by kernel_rfl)) (fun _ _ _ h => h) (Or.inr ⟨by rfl, rfl⟩) ?_ ?_
    rotate_left
    ·simp only [putS]
     rfl
    refine pure_ (i := 17) (N := some 47) (v := undef) (a' := ?_) #[true, true, true, true, true, true, true, true, true, true, true, true, true, true, true, true, true, true, false, false, false, false, false, false, false, false, false, false, false, false, false, false] rfl rfl (any_of HT_.out (by kernel_rfl)) (fun _ _ _ h => h) (Or.inr ⟨by rfl, rfl⟩) ?_ ?_
    rotate_left
    ·simp only [putS]
     rfl
    refine pure_ (i := 18) (N := some 48) (v := undef) (a' := ?_) #[true, true, true, true, true, true, true, true, true, true, true, true, true, true, true, true, true, true, true, false, false, false, false, false, false, false, false, false, false, false, false, false] rfl rfl (any_of HT_.out (by kernel_rfl)) (fun _ _ _ h => h) (Or.inr ⟨by rfl, rfl⟩) ?_ ?_
    rotate_left
    ·simp only [putS]
     rfl
    refine pure_ (i := 19) (N := some 49) (v := undef) (a' := ?_) #[true, true, true, true, true, true, true, true, true, true, true, true, true, true, true, true, true, true, true, true, false, false, false, false, false, false, false, false, false, false, false, false] rfl rfl (any_of HT_.out (by kernel_rfl)) (fun _ _ _ h => h) (Or.inr ⟨by rfl, rfl⟩) ?_ ?_
    rotate_left
    ·simp only [putS]
     rfl
    refine pure_ (i := 20) (N := some 50) (v := undef) (a' := ?_) #[true, true, true, true, true, true, true, true, true, true, true, true, true, true, true, true, true, true, true, true, true, false, false, false, false, false, false, false, false, false, false, false] rfl rfl (any_of HT_.out (by kernel_rfl)) (fun _ _ _ h => h) (Or.inr ⟨by rfl, rfl⟩) ?_ ?_
    rotate_left
    ·simp only [putS]
     rfl
    refine pure_ (i := 21) (N := some 51) (v := undef) (a' := ?_) #[true, true, true, true, true, true, true, true, true, true, true, true, true, true, true, true, true, true, true, true, true, true, false, false, false, false, false, false, false, false, false, false] rfl rfl (any_of HT_.out (by kernel_rfl)) (fun _ _ _ h => h) (Or.inr ⟨by rfl, rfl⟩) ?_ ?_
    rotate_left
    ·simp only [putS]
     rfl
    refine pure_ (i := 22) (N := some 52) (v := undef) (a' := ?_) #[true, true, true, true, true, true, true, true, true, true, true, true, true, true, true, true, true, true, true, true, true, true, true, false, false, false, false, false, false, false, false, false] rfl rfl (any_of HT_.out (by kernel_rfl)) (fun _ _ _ h => h) (Or.inr ⟨by rfl, rfl⟩) ?_ ?_
    rotate_left
    ·simp only [putS]
     rfl
    refine pure_ (i := 23) (N := some 53) (v := undef) (a' := ?_) #[true, true, true, true, true, true, true, true, true, true, true, true, true, true, true, true, true, true, true, true, true, true, true, true, false, false, false, false, false, false, false, false] rfl rfl (any_of HT_.out (by kernel_rfl)) (fun _ _ _ h => h) (Or.inr ⟨by rfl, rfl⟩) ?_ ?_
    rotate_left
    ·simp only [putS]
     rfl
    refine pure_ (i := 24) (N := some 54) (v := undef) (a' := ?_) #[true, true, true, true, true, true, true, true, true, true, true, true, true, true, true, true, true, true, true, true, true, true, true, true, true, false, false, false, false, false, false, false] rfl rfl (any_of HT_.out (by kernel_rfl)) (fun _ _ _ h => h) (Or.inr ⟨by rfl, rfl⟩) ?_ ?_
    rotate_left
    ·simp only [putS]
     rfl
    refine pure_ (i := 25) (N := some 55) (v := undef) (a' := ?_) #[true, true, true, true, true, true, true, true, true, true, true, true, true, true, true, true, true, true, true, true, true, true, true, true, true, true, false, false, false, false, false, false] rfl rfl (any_of HT_.out (by kernel_rfl)) (fun _ _ _ h => h) (Or.inr ⟨by rfl, rfl⟩) ?_ ?_
    rotate_left
    ·simp only [putS]
     rfl
    refine pure_ (i := 26) (N := some 56) (v := undef) (a' := ?_) #[true, true, true, true, true, true, true, true, true, true, true, true, true, true, true, true, true, true, true, true, true, true, true, true, true, true, true, false, false, false, false, false] rfl rfl (any_of HT_.out (by kernel_rfl)) (fun _ _ _ h => h) (Or.inr ⟨by rfl, rfl⟩) ?_ ?_
    rotate_left
    ·simp only [putS]
     rfl
    refine pure_ (i := 27) (N := some 57) (v := undef) (a' := ?_) #[true, true, true, true, true, true, true, true, true, true, true, true, true, true, true, true, true, true, true, true, true, true, true, true, true, true, true, true, false, false, false, false] rfl rfl (any_of HT_.out (by kernel_rfl)) (fun _ _ _ h => h) (Or.inr ⟨by rfl, rfl⟩) ?_ ?_
    rotate_left
    ·simp only [putS]
     rfl
    refine pure_ (i := 28) (N := some 58) (v := undef) (a' := ?_) #[true, true, true, true, true, true, true, true, true, true, true, true, true, true, true, true, true, true, true, true, true, true, true, true, true, true, true, true, true, false, false, false] rfl rfl (any_of HT_.out (by kernel_rfl)) (fun _ _ _ h => h) (Or.inr ⟨by rfl, rfl⟩) ?_ ?_
    rotate_left
    ·simp only [putS]
     rfl
    refine pure_ (i := 29) (N := some 59) (v := undef) (a' := ?_) #[true, true, true, true, true, true, true, true, true, true, true, true, true, true, true, true, true, true, true, true, true, true, true, true, true, true, true, true, true, true, false, false] rfl rfl (any_of HT_.out (by kernel_rfl)) (fun _ _ _ h => h) (Or.inr ⟨by rfl, rfl⟩) ?_ ?_
    rotate_left
    ·simp only [putS]
     rfl
    refine pure_ (i := 30) (N := some 60) (v := undef) (a' := ?_) #[true, true, true, true, true, true, true, true, true, true, true, true, true, true, true, true, true, true, true, true, true, true, true, true, true, true, true, true, true, true, true, false] rfl rfl (any_of HT_.out (by kernel_rfl)) (fun _ _ _ h => h) (Or.inr ⟨by rfl, rfl⟩) ?_ ?_
    rotate_left
    ·simp only [putS]
     rfl
    refine pure_ (i := 31) (N := some 61) (v := ?_) (a' := ?_) #[true, true, true, true, true, true, true, true, true, true, true, true, true, true, true, true, true, true, true, true, true, true, true, true, true, true, true, true, true, true, true, true] rfl rfl (any_of HT_.out (by kernel_rfl)) (fun _ _ _ h => h) (Or.inl ⟨by rfl, ?_⟩) ?_ ?_
    rotate_left
    ·intro w'
     go_simp
     with_reducible rfl
    rotate_left
    ·simp only [putS]
     rfl
    refine done_ (done_of HT_.out (by kernel_rfl)) ?_
    try go_wp2
    go_roundg k2
    case measure => have := HK1.out; have := HK2.out; omega
    case rel => exact ⟨(x6_2), (wrap64 (x7_2 + 1)), (by first | rfl | (simp; done) | (simp [*]; done)), (by first | rfl | (simp; done) | (simp [*]; done)), H', ⟨by have := HK1.out; have := HK2.out; omega⟩, ⟨rdl HO_4⟩, ⟨by (with_reducible repeat (first | apply Kd.N_alloc | apply Kd.N_drewN | apply Kd.N_drew)); exact HO_342001.out⟩, ⟨bkl BK332⟩, ⟨bkl BK341⟩, ⟨bel2 HB GE332 GE341⟩⟩
   rw [if_pos c18] at H
   have c18b0 : decide (0 < ((rd_L2 x342001_1 x7_2).length : Int)) = true := decide_eq_true c18
   have c18b1 : decide (0 < (rd_L2 x342001_1 x7_2).length) = true := decide_eq_true (by omega)
   clear c18
   by_cases c19 : x6_2 < 0
   ·rw [if_pos c19] at H
    have c19b0 : decide (x6_2 < 0) = true := decide_eq_true c19
    clear c19
    have H' := Aside0.mk H
    clear H
    have hnb20 := NB341_332.out
    have hnc20 := NB332_341.out
    have hcz21_0 : wr.cell? ⟨gb341, 0, none⟩ = some (.int .i64 t337) := (blk_cell BK341.out 0).trans rfl
    have hcz21_1 : wr.cell? ⟨gb341, 1, none⟩ = some (u342001) := (blk_cell BK341.out 1).trans rfl
    have hfz21_0 := blk_frozen BK341.out 0
    have hfz21_1 := blk_frozen BK341.out 1
    obtain ⟨Ao22, co22, eo22⟩ := Kd.N_slice HO_342001.out
    subst eo22
    have p342 : 0 ≤ (x7_2 : Int) := oda
    have q342 : x7_2 < (x342001_1.length : Int) := oda
    obtain ⟨ad342, A342_0, c342_0, e342, hx342_0, hl342_0, hi342_0⟩ := at_L2 (Kd.N_reads' HO_342001.out).2.2 x7_2 p342 q342
    cases e342
    obtain ⟨ce342, hce342, hMe342, hcc342⟩ := Kd.N_get HO_342001.out [] x7_2 p342 (by first | exact q342 | exact oda | (have e_ := (Kd.N_reads' HO_342001.out).1; omega))
    obtain ⟨ua342_0, uc342_0, rfl, ul342_0, ge342_0⟩ := Kd.FK_slice_open hMe342
    have hv342_0 := hcc342 0 _ rfl
    rw [Nat.add_zero, show ((Kd.slice 3 (Kd.int .i64))).sz = 1 from rfl, Nat.mul_one] at hv342_0
    replace hv342_0 := Option.some.inj (hv342_0.symm.trans hx342_0)
    injection hv342_0 with hva_ hvn_ hvc_
    rw [hva_] at ge342_0
    rw [hvc_] at ul342_0
    have HL342_0 := Aside0.mk (show Kd.V (Kd.int .i64) 3 _ w.heap.size _ _ (rd_L2 x342001_1 x7_2) from Kd.V_mk ul342_0 ge342_0)
    clear hva_ hvn_ hvc_ ge342_0 ul342_0 hcc342 hce342
    have HR342_0 := Aside0.mk hi342_0
    have HC342_0 := Aside0.mk hl342_0
    clear hi342_0 hl342_0
    replace p342 := eq_true p342
    replace q342 := eq_true q342
    try go_wp2
    have n0_ := Aside0.mk (Kd.R_drew HO_4.out)
    have n1_ := Aside0.mk (Kd.N_drew HO_342001.out)
    have n2_ := Aside0.mk (Kd.V_drew HL342_0.out)
    have n3_ := Aside0.mk (blk_drew BK332.out)
    have n4_ := Aside0.mk (blk_drew BK341.out)
    have n5_ := Aside0.mk (Kd.C_drew HR342_0.out)
    have n6_ := Aside0.mk (below_drew1 HB.out)
    clear HO_4 HO_342001 HL342_0 BK332 BK341 HR342_0 HB
    have HO_4 := n0_
    have HO_342001 := n1_
    have HL342_0 := n2_
    have BK332 := n3_
    have BK341 := n4_
    have HR342_0 := n5_
    have HB := n6_
    clear n0_ n1_ n2_ n3_ n4_ n5_ n6_
    refine start_ (n := 32) (S := fun w' => True) (ds := []) #[false, false, false, false, false, false, false, false, false, false, false, false, false, false, false, false, false, false, false, false, false, false, false, false, false, false, false, false, false, false, false, false] (by kernel_rfl) rfl rfl trivial (fun hHeld => ?_); refine with_tabW spec_ClearOrder.tab10 spec_ClearOrder.bits10 (fun HT_ HW_ => ?_)
    generalize wr.drew = w23 at HO_4 HO_342001 HL342_0 BK332 BK341 HR342_0 HB hHeld ⊢
    refine pure_ (i := 0) (N := some 30) (v := ?_) (a' := ?_) #[true, false, false, false, false, false, false, false, false, false, false, false, false, false, false, false, false, false, false, false, false, false, false, false, false, false, false, false, false, false, false, false] rfl rfl (any_of HT_.out (by kernel_rfl)) (fun _ _ _ h => h) (Or.inl ⟨by rfl, ?_⟩) ?_ ?_
    rotate_left
    ·intro w'
     go_simp
     with_reducible rfl
    rotate_left
    ·simp only [putS]
     rfl
    refine pure_ (i := 1) (N := some 31) (v := ?_) (a' := ?_) #[true, true, false, false, false, false, false, false, false, false, false, false, false, false, false, false, false, false, false, false, false, false, false, false, false, false, false, false, false, false, false, false] rfl rfl (any_of HT_.out (by kernel_rfl)) (fun _ _ _ h => h) (Or.inl ⟨by rfl, ?_⟩) ?_ ?_
    rotate_left
    ·intro w'
     go_simp
     with_reducible rfl
    rotate_left
    ·simp only [putS]
     rfl
    refine pure_ (i := 2) (N := some 32) (v := ?_) (a' := ?_) #[true, true, true, false, false, false, false, false, false, false, false, false, false, false, false, false, false, false, false, false, false, false, false, false, false, false, false, false, false, false, false, false] rfl rfl (any_of HT_.out (by kernel_rfl)) (fun _ _ _ h => h) (Or.inl ⟨by rfl, ?_⟩) ?_ ?_
    rotate_left
    ·intro w'
     go_simp
     with_reducible rfl
    rotate_left
    ·simp only [putS]
     rfl
    refine pure_ (i := 3) (N := some 33) (v := ?_) (a' := ?_) #[true, true, true, true, false, false, false, false, false, false, false, false, false, false, false, false, false, false, false, false, false, false, false, false, false, false, false, false, false, false, false, false] rfl rfl (any_of HT_.out (by kernel_rfl)) (fun _ _ _ h => h) (Or.inl ⟨by rfl, ?_⟩) ?_ ?_
    rotate_left
    ·intro w'
     go_simp
     with_reducible rfl
    rotate_left
    ·simp only [putS]
     rfl
    refine pure_ (i := 4) (N := some 34) (v := ?_) (a' := ?_) #[true, true, true, true, true, false, false, false, false, false, false, false, false, false, false, false, false, false, false, false, false, false, false, false, false, false, false, false, false, false, false, false] rfl rfl (any_of HT_.out (by kernel_rfl)) (fun _ _ _ h => h) (Or.inl ⟨by rfl, ?_⟩) ?_ ?_
    rotate_left
    ·intro w'
     go_simp
     with_reducible rfl
    rotate_left
    ·simp only [putS]
     rfl
    refine pure_ (i := 5) (N := some 35) (v := ?_) (a' := ?_) #[true, true, true, true, true, true, false, false, false, false, false, false, false, false, false, false, false, false, false, false, false, false, false, false, false, false, false, false, false, false, false, false] rfl rfl (any_of HT_.out (by kernel_rfl)) (fun _ _ _ h => h) (Or.inl ⟨by rfl, ?_⟩) ?_ ?_
    rotate_left
    ·intro w'
     go_simp
     with_reducible rfl
    rotate_left
    ·simp only [putS]
     rfl
    refine pure_ (i := 6) (N := some 36) (v := undef) (a' := ?_) #[true, true, true, true, true, true, true, false, false, false, false, false, false, false, false, false, false, false, false, false, false, false, false, false, false, false, false, false, false, false, false, false] rfl rfl (any_of HT_.out (by kernel_rfl)) (fun _ _ _ h => h) (Or.inr ⟨by rfl, rfl⟩) ?_ ?_
    rotate_left
    ·simp only [putS]
     rfl
    refine pure_ (i := 7) (N := some 37) (v := undef) (a' := ?_) #[true, true, true, true, true, true, true, true, false, false, false, false, false, false, false, false, false, false, false, false, false, false, false, false, false, false, false, false, false, false, false, false] rfl rfl (any_of HT_.out (by kernel_rfl)) (fun _ _ _ h => h) (Or.inr ⟨by rfl, rfl⟩) ?_ ?_
    rotate_left
    ·simp only [putS]
     rfl
    refine pure_ (i := 8) (N := some 38) (v := undef) (a' := ?_) #[true, true, true, true, true, true, true, true, true, false, false, false, false, false, false, false, false, false, false, false, false, false, false, false, false, false, false, false, false, false, false, false] rfl rfl (any_of HT_.out (by kernel_rfl)) (fun _ _ _ h => h) (Or.inr ⟨by rfl, rfl⟩) ?_ ?_
    rotate_left
    ·simp only [putS]
     rfl
    refine pure_ (i := 9) (N := some 39) (v := undef) (a' := ?_) #[true, true, true, true, true, true, true, true, true, true, false, false, false, false, false, false, false, false, false, false, false, false, false, false, false, false, false, false, false, false, false, false] rfl rfl (any_of HT_.out (by kernel_rfl)) (fun _ _ _ h => h) (Or.inr ⟨by rfl, rfl⟩) ?_ ?_
    rotate_left
    ·simp only [putS]
     rfl
    refine pure_ (i := 10) (N := some 40) (v := undef) (a' := ?_) #[true, true, true, true, true, true, true, true, true, true, true, false, false, false, false, false, false, false, false, false, false, false, false, false, false, false, false, false, false, false, false, false] rfl rfl (any_of HT_.out (by kernel_rfl)) (fun _ _ _ h => h) (Or.inr ⟨by rfl, rfl⟩) ?_ ?_
    rotate_left
    ·simp only [putS]
     rfl
    refine pure_ (i := 11) (N := some 41) (v := undef) (a' := ?_) #[true, true, true, true, true, true, true, true, true, true, true, true, false, false, false, false, false, false, false, false, false, false, false, false, false, false, false, false, false, false, false, false] rfl rfl (any_of HT_.out (by kernel_rfl)) (fun _ _ _ h => h) (Or.inr ⟨by rfl, rfl⟩) ?_ ?_
    rotate_left
    ·simp only [putS]
     rfl
    refine pure_ (i := 12) (N := some 42) (v := undef) (a' := ?_) #[true, true, true, true, true, true, true, true, true, true, true, true, true, false, false, false, false, false, false, false, false, false, false, false, false, false, false, false, false, false, false, false] rfl rfl (any_of HT_.out (by kernel_rfl)) (fun _ _ _ h => h) (Or.inr ⟨by rfl, rfl⟩) ?_ ?_
    rotate_left
    ·simp only [putS]
     rfl
    refine pure_ (i := 13) (N := some 43) (v := undef) (a' := ?_) #[true, true, true, true, true, true, true, true, true, true, true, true, true, true, false, false, false, false, false, false, false, false, false, false, false, false, false, false, false, false, false, false] rfl rfl (any_of HT_.out (by kernel_rfl)) (fun _ _ _ h => h) (Or.inr ⟨by rfl, rfl⟩) ?_ ?_
    rotate_left
    ·simp only [putS]
     rfl
    refine pure_ (i := 14) (N := some 44) (v := undef) (a' := ?_) #[true, true, true, true, true, true, true, true, true, true, true, true, true, true, true, false, false, false, false, false, false, false, false, false, false, false, false, false, false, false, false, false] rfl rfl (any_of HT_.out (by kernel_rfl)) (fun _ _ _ h => h) (Or.inr ⟨by rfl, rfl⟩) ?_ ?_
    rotate_left
    ·simp only [putS]
     rfl
    refine pure_ (i := 15) (N := some 45) (v := undef) (a' := ?_) #[true, true, true, true, true, true, true, true, true, true, true, true, true, true, true, true, false, false, false, false, false, false, false, false, false, false, false, false, false, false, false, false] rfl rfl (any_of HT_.out (by kernel_rfl)) (fun _ _ _ h => h) (Or.inr ⟨by rfl, rfl⟩) ?_ ?_
    rotate_left
    ·simp only [putS]
     rfl
    refine pure_ (i := 16) (N := some 46) (v := undef) (a' := ?_) #[true, true, true, true, true, true, true, true, true, true, true, true, true, true, true, true, true, false, false, false, false, false, false, false, false, false, false, false, false, false, false, false] rfl rfl (any_of HT_.out (by kernel_rfl)) (fun _ _ _ h => h) (Or.inr ⟨by rfl, rfl⟩) ?_ ?_
    rotate_left
    ·simp only [putS]
     rfl
    refine pure_ (i := 17) (N := some 47) (v := undef) (a' := ?_) #[true, true, true, true, true, true, true, true, true, true, true, true, true, true, true, true, true, true, false, false, false, false, false, false, false, false, false, false, false, false, false, false] rfl rfl (any_of HT_.out (by kernel_rfl)) (fun _ _ _ h => h) (Or.inr ⟨by rfl, rfl⟩) ?_ ?_
    rotate_left
    ·simp only [putS]
     rfl
    refine pure_ (i := 18) (N := some 48) (v := undef) (a' := ?_) #[true, true, true, true, true, true, true, true, true, true, true, true, true, true, true, true, true, true, true, false, false, false, false, false, false, false, false, false, false, false, false, false] rfl rfl (any_of HT_.out (by kernel_rfl)) (fun _ _ _ h => h) (Or.inr ⟨by rfl, rfl⟩) ?_ ?_
    rotate_left
    ·simp only [putS]
     rfl
    refine pure_ (i := 19) (N := some 49) (v := undef) (a' := ?_) #[true, true, true, true, true, true, true, true, true, true, true, true, true, true, true, true, true, true, true, true, false, false, false, false, false, false, false, false, false, false, false, false] rfl rfl (any_of HT_.out (by kernel_rfl)) (fun _ _ _ h => h) (Or.inr ⟨by rfl, rfl⟩) ?_ ?_
    rotate_left
    ·simp only [putS]
     rfl
    refine pure_ (i := 20) (N := some 50) (v := undef) (a' := ?_) #[true, true, true, true, true, true, true, true, true, true, true, true, true, true, true, true, true, true, true, true, true, false, false, false, false, false, false, false, false, false, false, false] rfl rfl (any_of HT_.out (by kernel_rfl)) (fun _ _ _ h => h) (Or.inr ⟨by rfl, rfl⟩) ?_ ?_
    rotate_left
    ·simp only [putS]
     rfl
    refine pure_ (i := 21) (N := some 51) (v := undef) (a' := ?_) #[true, true, true, true, true, true, true, true, true, true, true, true, true, true, true, true, true, true, true, true, true, true, false, false, false, false, false, false, false, false, false, false] rfl rfl (any_of HT_.out (by kernel_rfl)) (fun _ _ _ h => h) (Or.inr ⟨by rfl, rfl⟩) ?_ ?_
    rotate_left
    ·simp only [putS]
     rfl
    refine pure_ (i := 22) (N := some 52) (v := undef) (a' := ?_) #[true, true, true, true, true, true, true, true, true, true, true, true, true, true, true, true, true, true, true, true, true, true, true, false, false, false, false, false, false, false, false, false] rfl rfl (any_of HT_.out (by kernel_rfl)) (fun _ _ _ h => h) (Or.inr ⟨by rfl, rfl⟩) ?_ ?_
    rotate_left
    ·simp only [putS]
     rfl
    refine pure_ (i := 23) (N := some 53) (v := undef) (a' := ?_) #[true, true, true, true, true, true, true, true, true, true, true, true, true, true, true, true, true, true, true, true, true, true, true, true, false, false, false, false, false, false, false, false] rfl rfl (any_of HT_.out (by kernel_rfl)) (fun _ _ _ h => h) (Or.inr ⟨by rfl, rfl⟩) ?_ ?_
    rotate_left
    ·simp only [putS]
     rfl
    refine pure_ (i := 24) (N := some 54) (v := undef) (a' := ?_) #[true, true, true, true, true, true, true, true, true, true, true, true, true, true, true, true, true, true, true, true, true, true, true, true, true, false, false, false, false, false, false, false] rfl rfl (any_of HT_.out (by kernel_rfl)) (fun _ _ _ h => h) (Or.inr ⟨by rfl, rfl⟩) ?_ ?_
    rotate_left
    ·simp only [putS]
     rfl
    refine pure_ (i := 25) (N := some 55) (v := undef) (a' := ?_) #[true, true, true, true, true, true, true, true, true, true, true, true, true, true, true, true, true, true, true, true, true, true, true, true, true, true, false, false, false, false, false, false] rfl rfl (any_of HT_.out (by kernel_rfl)) (fun _ _ _ h => h) (Or.inr ⟨by rfl, rfl⟩) ?_ ?_
    rotate_left
    ·simp only [putS]
     rfl
    refine pure_ (i := 26) (N := some 56) (v := undef) (a' := ?_) #[true, true, true, true, true, true, true, true, true, true, true, true, true, true, true, true, true, true, true, true, true, true, true, true, true, true, true, false, false, false, false, false] rfl rfl (any_of HT_.out (by kernel_rfl)) (fun _ _ _ h => h) (Or.inr ⟨by rfl, rfl⟩) ?_ ?_
    rotate_left
    ·simp only [putS]
     rfl
    refine pure_ (i := 27) (N := some 57) (v := undef) (a' := ?_) #[true, true, true, true, true, true, true, true, true, true, true, true, true, true, true, true, true, true, true, true, true, true, true, true, true, true, true, true, false, false, false, false] rfl rfl (any_of HT_.out (by kernel_rfl)) (fun _ _ _ h => h) (Or.inr ⟨by rfl, rfl⟩) ?_ ?_
    rotate_left
    ·simp only [putS]
     rfl
    refine pure_ (i := 28) (N := some 58) (v := undef) (a' := ?_) #[true, true, true, true, true, true, true, true, true, true, true, true, true, true, true, true, true, true, true, true, true, true, true, true, true, true, true, true, true, false, false, false] rfl rfl (any_of HT_.out (by kernel_rfl)) (fun _ _ _ h => h) (Or.inr ⟨by rfl, rfl⟩) ?_ ?_
    rotate_left
    ·simp only [putS]
     rfl
    refine pure_ (i := 29) (N := some 59) (v := undef) (a' := ?_) #[true, true, true, true, true, true, true, true, true, true, true, true, true, true, true, true, true, true, true, true, true, true, true, true, true, true, true, true, true, true, false, false] rfl rfl (any_of HT_.out (by kernel_rfl)) (fun _ _ _ h => h) (Or.inr ⟨by rfl, rfl⟩) ?_ ?_
    rotate_left
    ·simp only [putS]
     rfl
    refine pure_ (i := 30) (N := some 60) (v := ?_) (a' := ?_) #[true, true, true, true, true, true, true, true, true, true, true, true, true, true, true, true, true, true, true, true, true, true, true, true, true, true, true, true, true, true, true, false] rfl rfl (any_of HT_.out (by kernel_rfl)) (fun _ _ _ h => h) (Or.inl ⟨by rfl, ?_⟩) ?_ ?_
    rotate_left
    ·intro w'
     go_simp
     with_reducible rfl
    rotate_left
    ·simp only [putS]
     rfl
    refine pure_ (i := 31) (N := some 61) (v := ?_) (a' := ?_) #[true, true, true, true, true, true, true, true, true, true, true, true, true, true, true, true, true, true, true, true, true, true, true, true, true, true, true, true, true, true, true, true] rfl rfl (any_of HT_.out (by kernel_rfl)) (fun _ _ _ h => h) (Or.inl ⟨by rfl, ?_⟩) ?_ ?_
    rotate_left
    ·intro w'
     go_simp
     with_reducible rfl
    rotate_left
    ·simp only [putS]
     rfl
    refine done_ (done_of HT_.out (by kernel_rfl)) ?_
    try go_wp2
    go_roundg k2
    case measure => have := HK1.out; have := HK2.out; omega
    case rel => exact ⟨(x7_2), (wrap64 (x7_2 + 1)), (by first | rfl | (simp; done) | (simp [*]; done)), (by first | rfl | (simp; done) | (simp [*]; done)), H', ⟨by have := HK1.out; have := HK2.out; omega⟩, ⟨rdl HO_4⟩, ⟨by (with_reducible repeat (first | apply Kd.N_alloc | apply Kd.N_drewN | apply Kd.N_drew)); exact HO_342001.out⟩, ⟨bkl BK332⟩, ⟨bkl BK341⟩, ⟨bel2 HB GE332 GE341⟩⟩
   rw [if_neg c19] at H
   have c19b0 : decide (x6_2 < 0) = false := decide_eq_false c19
   clear c19
   obtain ⟨ji24, hji24⟩ : ∃ j_ : Int, (wrap64 (((rd_L2 x342001_1 x7_2).length : Int) - 1)) = j_ := ⟨_, rfl⟩
   replace H : (if 0 ≤ (ji24) then (if (ji24) < ((rd_L2 x342001_1 x7_2).length : Int) then (if 0 ≤ x6_2 then (if x6_2 < (x342001_1.length : Int) then (if 0 ≤ (wrap64 (((rd_L2 x342001_1 x6_2).length : Int) - 1)) then (if (wrap64 (((rd_L2 x342001_1 x6_2).length : Int) - 1)) < ((rd_L2 x342001_1 x6_2).length : Int) then (if (rd (rd_L2 x342001_1 x7_2) (ji24)) < (rd (rd_L2 x342001_1 x6_2) (wrap64 (((rd_L2 x342001_1 x6_2).length : Int) - 1))) then (spec_ClearOrder.l1 k2 x4_1 x7_2 (wrap64 (x7_2 + 1)) t337 x342001_1) else (spec_ClearOrder.l1 k2 x4_1 x6_2 (wrap64 (x7_2 + 1)) t337 x342001_1)) else (none)) else (none)) else (none)) else (none)) else (none)) else (none)) = some (r1, r2) := by first | (rw [hji24] at H; exact H) | (simp only [hji24] at H ⊢; exact H)
   have hji24w : (IntKind.i64.wrap (((rd_L2 x342001_1 x7_2).length : Int) - 1)) = ji24 := (i64_w _).trans hji24
   by_cases c25 : 0 ≤ (ji24)
   rotate_left
   ·rw [if_neg c25] at H
    exact absurd H (by simp)
   rw [if_pos c25] at H
   have c25b0 : decide (0 ≤ (ji24)) = true := decide_eq_true c25
   clear c25
   by_cases c26 : (ji24) < ((rd_L2 x342001_1 x7_2).length : Int)
   rotate_left
   ·rw [if_neg c26] at H
    exact absurd H (by simp)
   rw [if_pos c26] at H
   have c26b0 : decide ((ji24) < ((rd_L2 x342001_1 x7_2).length : Int)) = true := decide_eq_true c26
   clear c26
   by_cases c27 : 0 ≤ x6_2
   rotate_left
   ·rw [if_neg c27] at H
    exact absurd H (by simp)
   rw [if_pos c27] at H
   have c27b0 : decide (0 ≤ x6_2) = true := decide_eq_true c27
   clear c27
   by_cases c28 : x6_2 < (x342001_1.length : Int)
   rotate_left
   ·rw [if_neg c28] at H
    exact absurd H (by simp)
   rw [if_pos c28] at H
   have c28b0 : decide (x6_2 < (x342001_1.length : Int)) = true := decide_eq_true c28
   clear c28
   obtain ⟨ji29, hji29⟩ : ∃ j_ : Int, (wrap64 (((rd_L2 x342001_1 x6_2).length : Int) - 1)) = j_ := ⟨_, rfl⟩
   replace H : (if 0 ≤ (ji29) then (if (ji29) < ((rd_L2 x342001_1 x6_2).length : Int) then (if (rd (rd_L2 x342001_1 x7_2) (ji24)) < (rd (rd_L2 x342001_1 x6_2) (ji29)) then (spec_ClearOrder.l1 k2 x4_1 x7_2 (wrap64 (x7_2 + 1)) t337 x342001_1) else (spec_ClearOrder.l1 k2 x4_1 x6_2 (wrap64 (x7_2 + 1)) t337 x342001_1)) else (none)) else (none)) = some (r1, r2) := by first | (rw [hji29] at H; exact H) | (simp only [hji29] at H ⊢; exact H)
   have hji29w : (IntKind.i64.wrap (((rd_L2 x342001_1 x6_2).length : Int) - 1)) = ji29 := (i64_w _).trans hji29
   by_cases c30 : 0 ≤ (ji29)
   rotate_left
   ·rw [if_neg c30] at H
    exact absurd H (by simp)
   rw [if_pos c30] at H
   have c30b0 : decide (0 ≤ (ji29)) = true := decide_eq_true c30
   clear c30
   by_cases c31 : (ji29) < ((rd_L2 x342001_1 x6_2).length : Int)
   rotate_left
   ·rw [if_neg c31] at H
    exact absurd H (by simp)
   rw [if_pos c31] at H
   have c31b0 : decide ((ji29) < ((rd_L2 x342001_1 x6_2).length : Int)) = true := decide_eq_true c31
   clear c31
   by_cases c32 : (rd (rd_L2 x342001_1 x7_2) (ji24)) < (rd (rd_L2 x342001_1 x6_2) (ji29))
   ·rw [if_pos c32] at H
    have c32b0 : decide ((rd (rd_L2 x342001_1 x7_2) (ji24)) < (rd (rd_L2 x342001_1 x6_2) (ji29))) = true := decide_eq_true c32
    clear c32
    have H' := Aside0.mk H
    clear H
    have hnb33 := NB341_332.out
    have hnc33 := NB332_341.out
    have hcz34_0 : wr.cell? ⟨gb341, 0, none⟩ = some (.int .i64 t337) := (blk_cell BK341.out 0).trans rfl
    have hcz34_1 : wr.cell? ⟨gb341, 1, none⟩ = some (u342001) := (blk_cell BK341.out 1).trans rfl
    have hfz34_0 := blk_frozen BK341.out 0
    have hfz34_1 := blk_frozen BK341.out 1
    obtain ⟨Ao35, co35, eo35⟩ := Kd.N_slice HO_342001.out
    subst eo35
    have p342 : 0 ≤ (x7_2 : Int) := oda
    have q342 : x7_2 < (x342001_1.length : Int) := oda
    obtain ⟨ad342, A342_0, c342_0, e342, hx342_0, hl342_0, hi342_0⟩ := at_L2 (Kd.N_reads' HO_342001.out).2.2 x7_2 p342 q342
    cases e342
    obtain ⟨ce342, hce342, hMe342, hcc342⟩ := Kd.N_get HO_342001.out [] x7_2 p342 (by first | exact q342 | exact oda | (have e_ := (Kd.N_reads' HO_342001.out).1; omega))
    obtain ⟨ua342_0, uc342_0, rfl, ul342_0, ge342_0⟩ := Kd.FK_slice_open hMe342
    have hv342_0 := hcc342 0 _ rfl
    rw [Nat.add_zero, show ((Kd.slice 3 (Kd.int .i64))).sz = 1 from rfl, Nat.mul_one] at hv342_0
    replace hv342_0 := Option.some.inj (hv342_0.symm.trans hx342_0)
    injection hv342_0 with hva_ hvn_ hvc_
    rw [hva_] at ge342_0
    rw [hvc_] at ul342_0
    have HL342_0 := Aside0.mk (show Kd.V (Kd.int .i64) 3 _ w.heap.size _ _ (rd_L2 x342001_1 x7_2) from Kd.V_mk ul342_0 ge342_0)
    clear hva_ hvn_ hvc_ ge342_0 ul342_0 hcc342 hce342
    have HR342_0 := Aside0.mk hi342_0
    have HC342_0 := Aside0.mk hl342_0
    clear hi342_0 hl342_0
    replace p342 := eq_true p342
    replace q342 := eq_true q342
    try go_wp2
    have n0_ := Aside0.mk (Kd.R_drew HO_4.out)
    have n1_ := Aside0.mk (Kd.N_drew HO_342001.out)
    have n2_ := Aside0.mk (Kd.V_drew HL342_0.out)
    have n3_ := Aside0.mk (blk_drew BK332.out)
    have n4_ := Aside0.mk (blk_drew BK341.out)
    have n5_ := Aside0.mk (Kd.C_drew HR342_0.out)
    have n6_ := Aside0.mk (below_drew1 HB.out)
    clear HO_4 HO_342001 HL342_0 BK332 BK341 HR342_0 HB
    have HO_4 := n0_
    have HO_342001 := n1_
    have HL342_0 := n2_
    have BK332 := n3_
    have BK341 := n4_
    have HR342_0 := n5_
    have HB := n6_
    clear n0_ n1_ n2_ n3_ n4_ n5_ n6_
    have p343 : 0 ≤ (x7_2 : Int) := oda
    have q343 : x7_2 < (x342001_1.length : Int) := oda
    obtain ⟨ad343, A343_0, c343_0, e343, hx343_0, hl343_0, hi343_0⟩ := at_L2 (Kd.N_reads' HO_342001.out).2.2 x7_2 p343 q343
    obtain rfl : ad342 = ad343 := (by injection e343)
    obtain ⟨ce343, hce343, hMe343, hcc343⟩ := Kd.N_get HO_342001.out [] x7_2 p343 (by first | exact q343 | exact oda | (have e_ := (Kd.N_reads' HO_342001.out).1; omega))
    obtain ⟨ua343_0, uc343_0, rfl, ul343_0, ge343_0⟩ := Kd.FK_slice_open hMe343
    have hv343_0 := hcc343 0 _ rfl
    rw [Nat.add_zero, show ((Kd.slice 3 (Kd.int .i64))).sz = 1 from rfl, Nat.mul_one] at hv343_0
    replace hv343_0 := Option.some.inj (hv343_0.symm.trans hx343_0)
    injection hv343_0 with hva_ hvn_ hvc_
    rw [hva_] at ge343_0
    rw [hvc_] at ul343_0
    have HL343_0 := Aside0.mk (show Kd.V (Kd.int .i64) 3 _ w.heap.size _ _ (rd_L2 x342001_1 x7_2) from Kd.V_mk ul343_0 ge343_0)
    clear hva_ hvn_ hvc_ ge343_0 ul343_0 hcc343 hce343
    have HR343_0 := Aside0.mk hi343_0
    have HC343_0 := Aside0.mk hl343_0
    clear hi343_0 hl343_0
    replace p343 := eq_true p343
    replace q343 := eq_true q343
    have p344 : 0 ≤ ((ji24) : Int) := oda
    have q344 : (ji24) < ((rd_L2 x342001_1 x7_2).length : Int) := oda
    obtain ⟨ad344, e344, hx344_0⟩ := Kd.at_int (cdl HR343_0.out) (ji24) p344 q344
    cases e344
    replace p344 := eq_true p344
    replace q344 := eq_true q344
    have p345 : 0 ≤ (x6_2 : Int) := oda
    have q345 : x6_2 < (x342001_1.length : Int) := oda
    obtain ⟨ad345, A345_0, c345_0, e345, hx345_0, hl345_0, hi345_0⟩ := at_L2 (Kd.N_reads' HO_342001.out).2.2 x6_2 p345 q345
    obtain rfl : ad342 = ad345 := (by injection e345)
    obtain ⟨ce345, hce345, hMe345, hcc345⟩ := Kd.N_get HO_342001.out [] x6_2 p345 (by first | exact q345 | exact oda | (have e_ := (Kd.N_reads' HO_342001.out).1; omega))
    obtain ⟨ua345_0, uc345_0, rfl, ul345_0, ge345_0⟩ := Kd.FK_slice_open hMe345
    have hv345_0 := hcc345 0 _ rfl
    rw [Nat.add_zero, show ((Kd.slice 3 (Kd.int .i64))).sz = 1 from rfl, Nat.mul_one] at hv345_0
    replace hv345_0 := Option.some.inj (hv345_0.symm.trans hx345_0)
    injection hv345_0 with hva_ hvn_ hvc_
    rw [hva_] at ge345_0
    rw [hvc_] at ul345_0
    have HL345_0 := Aside0.mk (show Kd.V (Kd.int .i64) 3 _ w.heap.size _ _ (rd_L2 x342001_1 x6_2) from Kd.V_mk ul345_0 ge345_0)
    clear hva_ hvn_ hvc_ ge345_0 ul345_0 hcc345 hce345
    have HR345_0 := Aside0.mk hi345_0
    have HC345_0 := Aside0.mk hl345_0
    clear hi345_0 hl345_0
    replace p345 := eq_true p345
    replace q345 := eq_true q345
    have p346 : 0 ≤ (x6_2 : Int) := oda
    have q346 : x6_2 < (x342001_1.length : Int) := oda
    obtain ⟨ad346, A346_0, c346_0, e346, hx346_0, hl346_0, hi346_0⟩ := at_L2 (Kd.N_reads' HO_342001.out).2.2 x6_2 p346 q346
    obtain rfl : ad342 = ad346 := (by injection e346)
    obtain ⟨ce346, hce346, hMe346, hcc346⟩ := Kd.N_get HO_342001.out [] x6_2 p346 (by first | exact q346 | exact oda | (have e_ := (Kd.N_reads' HO_342001.out).1; omega))
    obtain ⟨ua346_0, uc346_0, rfl, ul346_0, ge346_0⟩ := Kd.FK_slice_open hMe346
    have hv346_0 := hcc346 0 _ rfl
    rw [Nat.add_zero, show ((Kd.slice 3 (Kd.int .i64))).sz = 1 from rfl, Nat.mul_one] at hv346_0
    replace hv346_0 := Option.some.inj (hv346_0.symm.trans hx346_0)
    injection hv346_0 with hva_ hvn_ hvc_
    rw [hva_] at ge346_0
    rw [hvc_] at ul346_0
    have HL346_0 := Aside0.mk (show Kd.V (Kd.int .i64) 3 _ w.heap.size _ _ (rd_L2 x342001_1 x6_2) from Kd.V_mk ul346_0 ge346_0)
    clear hva_ hvn_ hvc_ ge346_0 ul346_0 hcc346 hce346
    have HR346_0 := Aside0.mk hi346_0
    have HC346_0 := Aside0.mk hl346_0
    clear hi346_0 hl346_0
    replace p346 := eq_true p346
    replace q346 := eq_true q346
    have ea_ := Option.some.inj (hx345_0.symm.trans hx346_0)
    injection ea_ with ea_ en_ ec_
    subst ea_
    subst ec_
    clear en_
    have p347 : 0 ≤ ((ji29) : Int) := oda
    have q347 : (ji29) < ((rd_L2 x342001_1 x6_2).length : Int) := oda
    obtain ⟨ad347, e347, hx347_0⟩ := Kd.at_int (cdl HR345_0.out) (ji29) p347 q347
    cases e347
    replace p347 := eq_true p347
    replace q347 := eq_true q347
    refine start_ (n := 32) (S := fun w' => w'.cell? ⟨gb341, 0, none⟩ = some (.int .i64 t337) ∧ w'.cell? ⟨gb341, 1, none⟩ = some (.slice (some ad342) x342001_1.length co35) ∧ w'.cell? (ad342.add (x7_2).toNat) = some (.slice (some ad344) (rd_L2 x342001_1 x7_2).length c343_0) ∧ w'.cell? (ad344.add ((ji24)).toNat) = some (.int .i64 (rd (rd_L2 x342001_1 x7_2) (ji24))) ∧ w'.cell? (ad342.add (x6_2).toNat) = some (.slice (some ad347) (rd_L2 x342001_1 x6_2).length c345_0) ∧ w'.cell? (ad342.add (x6_2).toNat) = some (.slice (some ad347) (rd_L2 x342001_1 x6_2).length c345_0) ∧ w'.cell? (ad347.add ((ji29)).toNat) = some (.int .i64 (rd (rd_L2 x342001_1 x6_2) (ji29)))) (ds := []) #[false, false, false, false, false, false, false, false, false, false, false, false, false, false, false, false, false, false, false, false, false, false, false, false, false, false, false, false, false, false, false, false] (by kernel_rfl) rfl rfl ⟨(blk_cell BK341.out 0).trans rfl, (blk_cell BK341.out 1).trans rfl, hx343_0, hx344_0, hx345_0, hx346_0, hx347_0⟩ (fun hHeld => ?_); refine with_tabW spec_ClearOrder.tab10 spec_ClearOrder.bits10 (fun HT_ HW_ => ?_)
    generalize wr.drew = w36 at HO_4 HO_342001 HL342_0 BK332 BK341 HR342_0 HB HL343_0 HL345_0 HL346_0 HR343_0 HR345_0 HR346_0 hx343_0 hx344_0 hx345_0 hx346_0 hx347_0 hHeld ⊢
    refine pure_ (i := 0) (N := some 30) (v := ?_) (a' := ?_) #[true, false, false, false, false, false, false, false, false, false, false, false, false, false, false, false, false, false, false, false, false, false, false, false, false, false, false, false, false, false, false, false] rfl rfl (any_of HT_.out (by kernel_rfl)) (fun _ _ _ h => h) (Or.inl ⟨by rfl, ?_⟩) ?_ ?_
    rotate_left
    ·intro w'
     go_simp
     with_reducible rfl
    rotate_left
    ·simp only [putS]
     rfl
    refine pure_ (i := 1) (N := some 31) (v := ?_) (a' := ?_) #[true, true, false, false, false, false, false, false, false, false, false, false, false, false, false, false, false, false, false, false, false, false, false, false, false, false, false, false, false, false, false, false] rfl rfl (any_of HT_.out (by kernel_rfl)) (fun _ _ _ h => h) (Or.inl ⟨by rfl, ?_⟩) ?_ ?_
    rotate_left
    ·intro w'
     go_simp
     with_reducible rfl
    rotate_left
    ·simp only [putS]
     rfl
    refine pure_ (i := 2) (N := some 32) (v := ?_) (a' := ?_) #[true, true, true, false, false, false, false, false, false, false, false, false, false, false, false, false, false, false, false, false, false, false, false, false, false, false, false, false, false, false, false, false] rfl rfl (any_of HT_.out (by kernel_rfl)) (fun _ _ _ h => h) (Or.inl ⟨by rfl, ?_⟩) ?_ ?_
    rotate_left
    ·intro w'
     go_simp
     with_reducible rfl
    rotate_left
    ·simp only [putS]
     rfl
    refine pure_ (i := 3) (N := some 33) (v := ?_) (a' := ?_) #[true, true, true, true, false, false, false, false, false, false, false, false, false, false, false, false, false, false, false, false, false, false, false, false, false, false, false, false, false, false, false, false] rfl rfl (any_of HT_.out (by kernel_rfl)) (fun _ _ _ h => h) (Or.inl ⟨by rfl, ?_⟩) ?_ ?_
    rotate_left
    ·intro w'
     go_simp
     with_reducible rfl
    rotate_left
    ·simp only [putS]
     rfl
    refine pure_ (i := 4) (N := some 34) (v := ?_) (a' := ?_) #[true, true, true, true, true, false, false, false, false, false, false, false, false, false, false, false, false, false, false, false, false, false, false, false, false, false, false, false, false, false, false, false] rfl rfl (any_of HT_.out (by kernel_rfl)) (fun _ _ _ h => h) (Or.inl ⟨by rfl, ?_⟩) ?_ ?_
    rotate_left
    ·intro w'
     go_simp
     with_reducible rfl
    rotate_left
    ·simp only [putS]
     rfl
    refine pure_ (i := 5) (N := some 35) (v := ?_) (a' := ?_) #[true, true, true, true, true, true, false, false, false, false, false, false, false, false, false, false, false, false, false, false, false, false, false, false, false, false, false, false, false, false, false, false] rfl rfl (any_of HT_.out (by kernel_rfl)) (fun _ _ _ h => h) (Or.inl ⟨by rfl, ?_⟩) ?_ ?_
    rotate_left
    ·intro w'
     go_simp
     with_reducible rfl
    rotate_left
    ·simp only [putS]
     rfl
    refine pure_ (i := 6) (N := some 36) (v := ?_) (a' := ?_) #[true, true, true, true, true, true, true, false, false, false, false, false, false, false, false, false, false, false, false, false, false, false, false, false, false, false, false, false, false, false, false, false] rfl rfl (any_of HT_.out (by kernel_rfl)) (fun _ _ _ h => h) (Or.inl ⟨by rfl, ?_⟩) ?_ ?_
    rotate_left
    ·intro w'
     go_simp
     with_reducible rfl
    rotate_left
    ·simp only [putS]
     rfl
    refine pure_ (i := 8) (N := some 38) (v := ?_) (a' := ?_) #[true, true, true, true, true, true, true, false, true, false, false, false, false, false, false, false, false, false, false, false, false, false, false, false, false, false, false, false, false, false, false, false] rfl rfl (any_of HT_.out (by kernel_rfl)) (fun _ _ _ h => h) (Or.inl ⟨by rfl, ?_⟩) ?_ ?_
    rotate_left
    ·intro w'
     go_simp
     with_reducible rfl
    rotate_left
    ·simp only [putS]
     rfl
    refine pure_ (i := 11) (N := some 41) (v := ?_) (a' := ?_) #[true, true, true, true, true, true, true, false, true, false, false, true, false, false, false, false, false, false, false, false, false, false, false, false, false, false, false, false, false, false, false, false] rfl rfl (any_of HT_.out (by kernel_rfl)) (fun _ _ _ h => h) (Or.inl ⟨by rfl, ?_⟩) ?_ ?_
    rotate_left
    ·intro w'
     go_simp
     with_reducible rfl
    rotate_left
    ·simp only [putS]
     rfl
    refine pure_ (i := 12) (N := some 42) (v := ?_) (a' := ?_) #[true, true, true, true, true, true, true, false, true, false, false, true, true, false, false, false, false, false, false, false, false, false, false, false, false, false, false, false, false, false, false, false] rfl rfl (any_of HT_.out (by kernel_rfl)) (fun _ _ _ h => h) (Or.inl ⟨by rfl, ?_⟩) ?_ ?_
    rotate_left
    ·intro w'
     go_simp
     with_reducible rfl
    rotate_left
    ·simp only [putS]
     rfl
    refine pure_ (i := 15) (N := some 45) (v := ?_) (a' := ?_) #[true, true, true, true, true, true, true, false, true, false, false, true, true, false, false, true, false, false, false, false, false, false, false, false, false, false, false, false, false, false, false, false] rfl rfl (any_of HT_.out (by kernel_rfl)) (fun _ _ _ h => h) (Or.inl ⟨by rfl, ?_⟩) ?_ ?_
    rotate_left
    ·intro w'
     go_simp
     with_reducible rfl
    rotate_left
    ·simp only [putS]
     rfl
    refine pure_ (i := 17) (N := some 47) (v := ?_) (a' := ?_) #[true, true, true, true, true, true, true, false, true, false, false, true, true, false, false, true, false, true, false, false, false, false, false, false, false, false, false, false, false, false, false, false] rfl rfl (any_of HT_.out (by kernel_rfl)) (fun _ _ _ h => h) (Or.inl ⟨by rfl, ?_⟩) ?_ ?_
    rotate_left
    ·intro w'
     go_simp
     with_reducible rfl
    rotate_left
    ·simp only [putS]
     rfl
    refine pure_ (i := 20) (N := some 50) (v := ?_) (a' := ?_) #[true, true, true, true, true, true, true, false, true, false, false, true, true, false, false, true, false, true, false, false, true, false, false, false, false, false, false, false, false, false, false, false] rfl rfl (any_of HT_.out (by kernel_rfl)) (fun _ _ _ h => h) (Or.inl ⟨by rfl, ?_⟩) ?_ ?_
    rotate_left
    ·intro w'
     go_simp
     with_reducible rfl
    rotate_left
    ·simp only [putS]
     rfl
    refine pure_ (i := 22) (N := some 52) (v := ?_) (a' := ?_) #[true, true, true, true, true, true, true, false, true, false, false, true, true, false, false, true, false, true, false, false, true, false, true, false, false, false, false, false, false, false, false, false] rfl rfl (any_of HT_.out (by kernel_rfl)) (fun _ _ _ h => h) (Or.inl ⟨by rfl, ?_⟩) ?_ ?_
    rotate_left
    ·intro w'
     go_simp
     with_reducible rfl
    rotate_left
    ·simp only [putS]
     rfl
    refine take_ (i := 7) (N := some 37) (v := ?_) (a' := ?_) #[true, true, true, true, true, true, true, true, true, false, false, true, true, false, false, true, false, true, false, false, true, false, true, false, false, false, false, false, false, false, false, false] rfl rfl (take_ofW HT_.out HW_.out (by kernel_rfl)) (fun _ _ _ h => h) (Or.inl ⟨by rfl, ?_⟩) hHeld ?_ ?_
    rotate_left
    ·rintro w' ⟨s0, s1, s2, s3, s4, s5, s6⟩
     go_simp
     with_reducible rfl
    rotate_left
    ·simp only [putS]
     rfl
    refine pure_ (i := 9) (N := some 39) (v := ?_) (a' := ?_) #[true, true, true, true, true, true, true, true, true, true, false, true, true, false, false, true, false, true, false, false, true, false, true, false, false, false, false, false, false, false, false, false] rfl rfl (any_of HT_.out (by kernel_rfl)) (fun _ _ _ h => h) (Or.inl ⟨by rfl, ?_⟩) ?_ ?_
    rotate_left
    ·intro w'
     go_simp
     with_reducible rfl
    rotate_left
    ·simp only [putS]
     rfl
    refine take_ (i := 10) (N := some 40) (v := ?_) (a' := ?_) #[true, true, true, true, true, true, true, true, true, true, true, true, true, false, false, true, false, true, false, false, true, false, true, false, false, false, false, false, false, false, false, false] rfl rfl (take_ofW HT_.out HW_.out (by kernel_rfl)) (fun _ _ _ h => h) (Or.inl ⟨by rfl, ?_⟩) hHeld ?_ ?_
    rotate_left
    ·rintro w' ⟨s0, s1, s2, s3, s4, s5, s6⟩
     go_simp
     with_reducible rfl
    rotate_left
    ·simp only [putS]
     rfl
    refine pure_ (i := 13) (N := some 43) (v := ?_) (a' := ?_) #[true, true, true, true, true, true, true, true, true, true, true, true, true, true, false, true, false, true, false, false, true, false, true, false, false, false, false, false, false, false, false, false] rfl rfl (any_of HT_.out (by kernel_rfl)) (fun _ _ _ h => h) (Or.inl ⟨by rfl, ?_⟩) ?_ ?_
    rotate_left
    ·intro w'
     go_simp
     with_reducible rfl
    rotate_left
    ·simp only [putS]
     rfl
    refine take_ (i := 14) (N := some 44) (v := ?_) (a' := ?_) #[true, true, true, true, true, true, true, true, true, true, true, true, true, true, true, true, false, true, false, false, true, false, true, false, false, false, false, false, false, false, false, false] rfl rfl (take_ofW HT_.out HW_.out (by kernel_rfl)) (fun _ _ _ h => h) (Or.inl ⟨by rfl, ?_⟩) hHeld ?_ ?_
    rotate_left
    ·rintro w' ⟨s0, s1, s2, s3, s4, s5, s6⟩
     go_simp
     with_reducible rfl
    rotate_left
    ·simp only [putS]
     rfl
    refine take_ (i := 16) (N := some 46) (v := ?_) (a' := ?_) #[true, true, true, true, true, true, true, true, true, true, true, true, true, true, true, true, true, true, false, false, true, false, true, false, false, false, false, false, false, false, false, false] rfl rfl (take_ofW HT_.out HW_.out (by kernel_rfl)) (fun _ _ _ h => h) (Or.inl ⟨by rfl, ?_⟩) hHeld ?_ ?_
    rotate_left
    ·rintro w' ⟨s0, s1, s2, s3, s4, s5, s6⟩
     go_simp
     with_reducible rfl
    rotate_left
    ·simp only [putS]
     rfl
    refine pure_ (i := 18) (N := some 48) (v := ?_) (a' := ?_) #[true, true, true, true, true, true, true, true, true, true, true, true, true, true, true, true, true, true, true, false, true, false, true, false, false, false, false, false, false, false, false, false] rfl rfl (any_of HT_.out (by kernel_rfl)) (fun _ _ _ h => h) (Or.inl ⟨by rfl, ?_⟩) ?_ ?_
    rotate_left
    ·intro w'
     go_simp
     with_reducible rfl
    rotate_left
    ·simp only [putS]
     rfl
    refine take_ (i := 19) (N := some 49) (v := ?_) (a' := ?_) #[true, true, true, true, true, true, true, true, true, true, true, true, true, true, true, true, true, true, true, true, true, false, true, false, false, false, false, false, false, false, false, false] rfl rfl (take_ofW HT_.out HW_.out (by kernel_rfl)) (fun _ _ _ h => h) (Or.inl ⟨by rfl, ?_⟩) hHeld ?_ ?_
    rotate_left
    ·rintro w' ⟨s0, s1, s2, s3, s4, s5, s6⟩
     go_simp
     with_reducible rfl
    rotate_left
    ·simp only [putS]
     rfl
    refine take_ (i := 21) (N := some 51) (v := ?_) (a' := ?_) #[true, true, true, true, true, true, true, true, true, true, true, true, true, true, true, true, true, true, true, true, true, true, true, false, false, false, false, false, false, false, false, false] rfl rfl (take_ofW HT_.out HW_.out (by kernel_rfl)) (fun _ _ _ h => h) (Or.inl ⟨by rfl, ?_⟩) hHeld ?_ ?_
    rotate_left
    ·rintro w' ⟨s0, s1, s2, s3, s4, s5, s6⟩
     go_simp
     with_reducible rfl
    rotate_left
    ·simp only [putS]
     rfl
    refine pure_ (i := 23) (N := some 53) (v := ?_) (a' := ?_) #[true, true, true, true, true, true, true, true, true, true, true, true, true, true, true, true, true, true, true, true, true, true, true, true, false, false, false, false, false, false, false, false] rfl rfl (any_of HT_.out (by kernel_rfl)) (fun _ _ _ h => h) (Or.inl ⟨by rfl, ?_⟩) ?_ ?_
    rotate_left
    ·intro w'
     go_simp
     with_reducible rfl
    rotate_left
    ·simp only [putS]
     rfl
    refine take_ (i := 24) (N := some 54) (v := ?_) (a' := ?_) #[true, true, true, true, true, true, true, true, true, true, true, true, true, true, true, true, true, true, true, true, true, true, true, true, true, false, false, false, false, false, false, false] rfl rfl (take_ofW HT_.out HW_.out (by kernel_rfl)) (fun _ _ _ h => h) (Or.inl ⟨by rfl, ?_⟩) hHeld ?_ ?_
    rotate_left
    ·rintro w' ⟨s0, s1, s2, s3, s4, s5, s6⟩
     go_simp
     with_reducible rfl
    rotate_left
    ·simp only [putS]
     rfl
    refine pure_ (i := 25) (N := some 55) (v := ?_) (a' := ?_) #[true, true, true, true, true, true, true, true, true, true, true, true, true, true, true, true, true, true, true, true, true, true, true, true, true, true, false, false, false, false, false, false] rfl rfl (any_of HT_.out (by kernel_rfl)) (fun _ _ _ h => h) (Or.inl ⟨by rfl, ?_⟩) ?_ ?_
    rotate_left
    ·intro w'
     go_simp
     with_reducible rfl
    rotate_left
    ·simp only [putS]
     rfl
    refine pure_ (i := 26) (N := some 56) (v := ?_) (a' := ?_) #[true, true, true, true, true, true, true, true, true, true, true, true, true, true, true, true, true, true, true, true, true, true, true, true, true, true, true, false, false, false, false, false] rfl rfl (any_of HT_.out (by kernel_rfl)) (fun _ _ _ h => h) (Or.inl ⟨by rfl, ?_⟩) ?_ ?_
    rotate_left
    ·intro w'
     go_simp
     with_reducible rfl
    rotate_left
    ·simp only [putS]
     rfl
    refine pure_ (i := 27) (N := some 57) (v := ?_) (a' := ?_) #[true, true, true, true, true, true, true, true, true, true, true, true, true, true, true, true, true, true, true, true, true, true, true, true, true, true, true, true, false, false, false, false] rfl rfl (any_of HT_.out (by kernel_rfl)) (fun _ _ _ h => h) (Or.inl ⟨by rfl, ?_⟩) ?_ ?_
    rotate_left
    ·intro w'
     go_simp
     with_reducible rfl
    rotate_left
    ·simp only [putS]
     rfl
    refine take_ (i := 28) (N := some 58) (v := ?_) (a' := ?_) #[true, true, true, true, true, true, true, true, true, true, true, true, true, true, true, true, true, true, true, true, true, true, true, true, true, true, true, true, true, false, false, false] rfl rfl (take_ofW HT_.out HW_.out (by kernel_rfl)) (fun _ _ _ h => h) (Or.inl ⟨by rfl, ?_⟩) hHeld ?_ ?_
    rotate_left
    ·rintro w' ⟨s0, s1, s2, s3, s4, s5, s6⟩
     go_simp
     with_reducible rfl
    rotate_left
    ·simp only [putS]
     rfl
    refine pure_ (i := 29) (N := some 59) (v := ?_) (a' := ?_) #[true, true, true, true, true, true, true, true, true, true, true, true, true, true, true, true, true, true, true, true, true, true, true, true, true, true, true, true, true, true, false, false] rfl rfl (any_of HT_.out (by kernel_rfl)) (fun _ _ _ h => h) (Or.inl ⟨by rfl, ?_⟩) ?_ ?_
    rotate_left
    ·intro w'
     go_simp
     with_reducible rfl
    rotate_left
    ·simp only [putS]
     rfl
    refine pure_ (i := 30) (N := some 60) (v := ?_) (a' := ?_) #[true, true, true, true, true, true, true, true, true, true, true, true, true, true, true, true, true, true, true, true, true, true, true, true, true, true, true, true, true, true, true, false] rfl rfl (any_of HT_.out (by kernel_rfl)) (fun _ _ _ h => h) (Or.inl ⟨by rfl, ?_⟩) ?_ ?_
    rotate_left
    ·intro w'
     go_simp
     with_reducible rfl
    rotate_left
    ·simp only [putS]
     rfl
    refine pure_ (i := 31) (N := some 61) (v := ?_) (a' := ?_) #[true, true, true, true, true, true, true, true, true, true, true, true, true, true, true, true, true, true, true, true, true, true, true, true, true, true, true, true, true, true, true, true] rfl rfl (any_of HT_.out (by kernel_rfl)) (fun _ _ _ h => h) (Or.inl ⟨by rfl, ?_⟩) ?_ ?_
    rotate_left
    ·intro w'
     go_simp
     with_reducible rfl
    rotate_left
    ·simp only [putS]
     rfl
    refine done_ (done_of HT_.out (by kernel_rfl)) ?_
    try go_wp2
    go_roundg k2
    case measure => have := HK1.out; have := HK2.out; omega
    case rel => exact ⟨(x7_2), (wrap64 (x7_2 + 1)), (by first | rfl | (simp; done) | (simp [*]; done)), (by first | rfl | (simp; done) | (simp [*]; done)), H', ⟨by have := HK1.out; have := HK2.out; omega⟩, ⟨rdl HO_4⟩, ⟨by (with_reducible repeat (first | apply Kd.N_alloc | apply Kd.N_drewN | apply Kd.N_drew)); exact HO_342001.out⟩, ⟨bkl BK332⟩, ⟨bkl BK341⟩, ⟨bel2 HB GE332 GE341⟩⟩
   rw [if_neg c32] at H
   have c32b0 : decide ((rd (rd_L2 x342001_1 x7_2) (ji24)) < (rd (rd_L2 x342001_1 x6_2) (ji29))) = false := decide_eq_false c32
   clear c32
   have H' := Aside0.mk H
   clear H
   have hnb37 := NB341_332.out
   have hnc37 := NB332_341.out
   have hcz38_0 : wr.cell? ⟨gb341, 0, none⟩ = some (.int .i64 t337) := (blk_cell BK341.out 0).trans rfl
   have hcz38_1 : wr.cell? ⟨gb341, 1, none⟩ = some (u342001) := (blk_cell BK341.out 1).trans rfl
   have hfz38_0 := blk_frozen BK341.out 0
   have hfz38_1 := blk_frozen BK341.out 1
   obtain ⟨Ao39, co39, eo39⟩ := Kd.N_slice HO_342001.out
   subst eo39
   have p342 : 0 ≤ (x7_2 : Int) := oda
   have q342 : x7_2 < (x342001_1.length : Int) := oda
   obtain ⟨ad342, A342_0, c342_0, e342, hx342_0, hl342_0, hi342_0⟩ := at_L2 (Kd.N_reads' HO_342001.out).2.2 x7_2 p342 q342
   cases e342
   obtain ⟨ce342, hce342, hMe342, hcc342⟩ := Kd.N_get HO_342001.out [] x7_2 p342 (by first | exact q342 | exact oda | (have e_ := (Kd.N_reads' HO_342001.out).1; omega))
   obtain ⟨ua342_0, uc342_0, rfl, ul342_0, ge342_0⟩ := Kd.FK_slice_open hMe342
   have hv342_0 := hcc342 0 _ rfl
   rw [Nat.add_zero, show ((Kd.slice 3 (Kd.int .i64))).sz = 1 from rfl, Nat.mul_one] at hv342_0
   replace hv342_0 := Option.some.inj (hv342_0.symm.trans hx342_0)
   injection hv342_0 with hva_ hvn_ hvc_
   rw [hva_] at ge342_0
   rw [hvc_] at ul342_0
   have HL342_0 := Aside0.mk (show Kd.V (Kd.int .i64) 3 _ w.heap.size _ _ (rd_L2 x342001_1 x7_2) from Kd.V_mk ul342_0 ge342_0)
   clear hva_ hvn_ hvc_ ge342_0 ul342_0 hcc342 hce342
   have HR342_0 := Aside0.mk hi342_0
   have HC342_0 := Aside0.mk hl342_0
   clear hi342_0 hl342_0
   replace p342 := eq_true p342
   replace q342 := eq_true q342
   try go_wp2
   have n0_ := Aside0.mk (Kd.R_drew HO_4.out)
   have n1_ := Aside0.mk (Kd.N_drew HO_342001.out)
   have n2_ := Aside0.mk (Kd.V_drew HL342_0.out)
   have n3_ := Aside0.mk (blk_drew BK332.out)
   have n4_ := Aside0.mk (blk_drew BK341.out)
   have n5_ := Aside0.mk (Kd.C_drew HR342_0.out)
   have n6_ := Aside0.mk (below_drew1 HB.out)
   clear HO_4 HO_342001 HL342_0 BK332 BK341 HR342_0 HB
   have HO_4 := n0_
   have HO_342001 := n1_
   have HL342_0 := n2_
   have BK332 := n3_
   have BK341 := n4_
   have HR342_0 := n5_
   have HB := n6_
   clear n0_ n1_ n2_ n3_ n4_ n5_ n6_
   have p343 : 0 ≤ (x7_2 : Int) := oda
   have q343 : x7_2 < (x342001_1.length : Int) := oda
   obtain ⟨ad343, A343_0, c343_0, e343, hx343_0, hl343_0, hi343_0⟩ := at_L2 (Kd.N_reads' HO_342001.out).2.2 x7_2 p343 q343
   obtain rfl : ad342 = ad343 := (by injection e343)
   obtain ⟨ce343, hce343, hMe343, hcc343⟩ := Kd.N_get HO_342001.out [] x7_2 p343 (by first | exact q343 | exact oda | (have e_ := (Kd.N_reads' HO_342001.out).1; omega))
   obtain ⟨ua343_0, uc343_0, rfl, ul343_0, ge343_0⟩ := Kd.FK_slice_open hMe343
   have hv343_0 := hcc343 0 _ rfl
   rw [Nat.add_zero, show ((Kd.slice 3 (Kd.int .i64))).sz = 1 from rfl, Nat.mul_one] at hv343_0
   replace hv343_0 := Option.some.inj (hv343_0.symm.trans hx343_0)
   injection hv343_0 with hva_ hvn_ hvc_
   rw [hva_] at ge343_0
   rw [hvc_] at ul343_0
   have HL343_0 := Aside0.mk (show Kd.V (Kd.int .i64) 3 _ w.heap.size _ _ (rd_L2 x342001_1 x7_2) from Kd.V_mk ul343_0 ge343_0)
   clear hva_ hvn_ hvc_ ge343_0 ul343_0 hcc343 hce343
   have HR343_0 := Aside0.mk hi343_0
   have HC343_0 := Aside0.mk hl343_0
   clear hi343_0 hl343_0
   replace p343 := eq_true p343
   replace q343 := eq_true q343
   have p344 : 0 ≤ ((ji24) : Int) := oda
   have q344 : (ji24) < ((rd_L2 x342001_1 x7_2).length : Int) := oda
   obtain ⟨ad344, e344, hx344_0⟩ := Kd.at_int (cdl HR343_0.out) (ji24) p344 q344
   cases e344
   replace p344 := eq_true p344
   replace q344 := eq_true q344
   have p345 : 0 ≤ (x6_2 : Int) := oda
   have q345 : x6_2 < (x342001_1.length : Int) := oda
   obtain ⟨ad345, A345_0, c345_0, e345, hx345_0, hl345_0, hi345_0⟩ := at_L2 (Kd.N_reads' HO_342001.out).2.2 x6_2 p345 q345
   obtain rfl : ad342 = ad345 := (by injection e345)
   obtain ⟨ce345, hce345, hMe345, hcc345⟩ := Kd.N_get HO_342001.out [] x6_2 p345 (by first | exact q345 | exact oda | (have e_ := (Kd.N_reads' HO_342001.out).1; omega))
   obtain ⟨ua345_0, uc345_0, rfl, ul345_0, ge345_0⟩ := Kd.FK_slice_open hMe345
   have hv345_0 := hcc345 0 _ rfl
   rw [Nat.add_zero, show ((Kd.slice 3 (Kd.int .i64))).sz = 1 from rfl, Nat.mul_one] at hv345_0
   replace hv345_0 := Option.some.inj (hv345_0.symm.trans hx345_0)
   injection hv345_0 with hva_ hvn_ hvc_
   rw [hva_] at ge345_0
   rw [hvc_] at ul345_0
   have HL345_0 := Aside0.mk (show Kd.V (Kd.int .i64) 3 _ w.heap.size _ _ (rd_L2 x342001_1 x6_2) from Kd.V_mk ul345_0 ge345_0)
   clear hva_ hvn_ hvc_ ge345_0 ul345_0 hcc345 hce345
   have HR345_0 := Aside0.mk hi345_0
   have HC345_0 := Aside0.mk hl345_0
   clear hi345_0 hl345_0
   replace p345 := eq_true p345
   replace q345 := eq_true q345
   have p346 : 0 ≤ (x6_2 : Int) := oda
   have q346 : x6_2 < (x342001_1.length : Int) := oda
   obtain ⟨ad346, A346_0, c346_0, e346, hx346_0, hl346_0, hi346_0⟩ := at_L2 (Kd.N_reads' HO_342001.out).2.2 x6_2 p346 q346
   obtain rfl : ad342 = ad346 := (by injection e346)
   obtain ⟨ce346, hce346, hMe346, hcc346⟩ := Kd.N_get HO_342001.out [] x6_2 p346 (by first | exact q346 | exact oda | (have e_ := (Kd.N_reads' HO_342001.out).1; omega))
   obtain ⟨ua346_0, uc346_0, rfl, ul346_0, ge346_0⟩ := Kd.FK_slice_open hMe346
   have hv346_0 := hcc346 0 _ rfl
   rw [Nat.add_zero, show ((Kd.slice 3 (Kd.int .i64))).sz = 1 from rfl, Nat.mul_one] at hv346_0
   replace hv346_0 := Option.some.inj (hv346_0.symm.trans hx346_0)
   injection hv346_0 with hva_ hvn_ hvc_
   rw [hva_] at ge346_0
   rw [hvc_] at ul346_0
   have HL346_0 := Aside0.mk (show Kd.V (Kd.int .i64) 3 _ w.heap.size _ _ (rd_L2 x342001_1 x6_2) from Kd.V_mk ul346_0 ge346_0)
   clear hva_ hvn_ hvc_ ge346_0 ul346_0 hcc346 hce346
   have HR346_0 := Aside0.mk hi346_0
   have HC346_0 := Aside0.mk hl346_0
   clear hi346_0 hl346_0
   replace p346 := eq_true p346
   replace q346 := eq_true q346
   have ea_ := Option.some.inj (hx345_0.symm.trans hx346_0)
   injection ea_ with ea_ en_ ec_
   subst ea_
   subst ec_
   clear en_
   have p347 : 0 ≤ ((ji29) : Int) := oda
   have q347 : (ji29) < ((rd_L2 x342001_1 x6_2).length : Int) := oda
   obtain ⟨ad347, e347, hx347_0⟩ := Kd.at_int (cdl HR345_0.out) (ji29) p347 q347
   cases e347
   replace p347 := eq_true p347
   replace q347 := eq_true q347
   refine start_ (n := 32) (S := fun w' => w'.cell? ⟨gb341, 0, none⟩ = some (.int .i64 t337) ∧ w'.cell? ⟨gb341, 1, none⟩ = some (.slice (some ad342) x342001_1.length co39) ∧ w'.cell? (ad342.add (x7_2).toNat) = some (.slice (some ad344) (rd_L2 x342001_1 x7_2).length c343_0) ∧ w'.cell? (ad344.add ((ji24)).toNat) = some (.int .i64 (rd (rd_L2 x342001_1 x7_2) (ji24))) ∧ w'.cell? (ad342.add (x6_2).toNat) = some (.slice (some ad347) (rd_L2 x342001_1 x6_2).length c345_0) ∧ w'.cell? (ad342.add (x6_2).toNat) = some (.slice (some ad347) (rd_L2 x342001_1 x6_2).length c345_0) ∧ w'.cell? (ad347.add ((ji29)).toNat) = some (.int .i64 (rd (rd_L2 x342001_1 x6_2) (ji29)))) (ds := []) #[false, false, false, false, false, false, false, false, false, false, false, false, false, false, false, false, false, false, false, false, false, false, false, false, false, false, false, false, false, false, false, false] (by kernel_rfl) rfl rfl ⟨(blk_cell BK341.out 0).trans rfl, (blk_cell BK341.out 1).trans rfl, hx343_0, hx344_0, hx345_0, hx346_0, hx347_0⟩ (fun hHeld => ?_); refine with_tabW spec_ClearOrder.tab10 spec_ClearOrder.bits10 (fun HT_ HW_ => ?_)
   generalize wr.drew = w40 at HO_4 HO_342001 HL342_0 BK332 BK341 HR342_0 HB HL343_0 HL345_0 HL346_0 HR343_0 HR345_0 HR346_0 hx343_0 hx344_0 hx345_0 hx346_0 hx347_0 hHeld ⊢
   refine pure_ (i := 0) (N := some 30) (v := ?_) (a' := ?_) #[true, false, false, false, false, false, false, false, false, false, false, false, false, false, false, false, false, false, false, false, false, false, false, false, false, false, false, false, false, false, false, false] rfl rfl (any_of HT_.out (by kernel_rfl)) (fun _ _ _ h => h) (Or.inl ⟨by rfl, ?_⟩) ?_ ?_
   rotate_left
   ·intro w'
    go_simp
    with_reducible rfl
   rotate_left
   ·simp only [putS]
    rfl
   refine pure_ (i := 1) (N := some 31) (v := ?_) (a' := ?_) #[true, true, false, false, false, false, false, false, false, false, false, false, false, false, false, false, false, false, false, false, false, false, false, false, false, false, false, false, false, false, false, false] rfl rfl (any_of HT_.out (by kernel_rfl)) (fun _ _ _ h => h) (Or.inl ⟨by rfl, ?_⟩) ?_ ?_
   rotate_left
   ·intro w'
    go_simp
    with_reducible rfl
   rotate_left
   ·simp only [putS]
    rfl
   refine pure_ (i := 2) (N := some 32) (v := ?_) (a' := ?_) #[true, true, true, false, false, false, false, false, false, false, false, false, false, false, false, false, false, false, false, false, false, false, false, false, false, false, false, false, false, false, false, false] rfl rfl (any_of HT_.out (by kernel_rfl)) (fun _ _ _ h => h) (Or.inl ⟨by rfl, ?_⟩) ?_ ?_
   rotate_left
   ·intro w'
    go_simp
    with_reducible rfl
   rotate_left
   ·simp only [putS]
    rfl
   refine pure_ (i := 3) (N := some 33) (v := ?_) (a' := ?_) #[true, true, true, true, false, false, false, false, false, false, false, false, false, false, false, false, false, false, false, false, false, false, false, false, false, false, false, false, false, false, false, false] rfl rfl (any_of HT_.out (by kernel_rfl)) (fun _ _ _ h => h) (Or.inl ⟨by rfl, ?_⟩) ?_ ?_
   rotate_left
   ·intro w'
    go_simp
    with_reducible rfl
   rotate_left
   ·simp only [putS]
    rfl
   refine pure_ (i := 4) (N := some 34) (v := ?_) (a' := ?_) #[true, true, true, true, true, false, false, false, false, false, false, false, false, false, false, false, false, false, false, false, false, false, false, false, false, false, false, false, false, false, false, false] rfl rfl (any_of HT_.out (by kernel_rfl)) (fun _ _ _ h => h) (Or.inl ⟨by rfl, ?_⟩) ?_ ?_
   rotate_left
   ·intro w'
    go_simp
    with_reducible rfl
   rotate_left
   ·simp only [putS]
    rfl
   refine pure_ (i := 5) (N := some 35) (v := ?_) (a' := ?_) #[true, true, true, true, true, true, false, false, false, false, false, false, false, false, false, false, false, false, false, false, false, false, false, false, false, false, false, false, false, false, false, false] rfl rfl (any_of HT_.out (by kernel_rfl)) (fun _ _ _ h => h) (Or.inl ⟨by rfl, ?_⟩) ?_ ?_
   rotate_left
   ·intro w'
    go_simp
    with_reducible rfl
   rotate_left
   ·simp only [putS]
    rfl
   refine pure_ (i := 6) (N := some 36) (v := ?_) (a' := ?_) #[true, true, true, true, true, true, true, false, false, false, false, false, false, false, false, false, false, false, false, false, false, false, false, false, false, false, false, false, false, false, false, false] rfl rfl (any_of HT_.out (by kernel_rfl)) (fun _ _ _ h => h) (Or.inl ⟨by rfl, ?_⟩) ?_ ?_
   rotate_left
   ·intro w'
    go_simp
    with_reducible rfl
   rotate_left
   ·simp only [putS]
    rfl
   refine pure_ (i := 8) (N := some 38) (v := ?_) (a' := ?_) #[true, true, true, true, true, true, true, false, true, false, false, false, false, false, false, false, false, false, false, false, false, false, false, false, false, false, false, false, false, false, false, false] rfl rfl (any_of HT_.out (by kernel_rfl)) (fun _ _ _ h => h) (Or.inl ⟨by rfl, ?_⟩) ?_ ?_
   rotate_left
   ·intro w'
    go_simp
    with_reducible rfl
   rotate_left
   ·simp only [putS]
    rfl
   refine pure_ (i := 11) (N := some 41) (v := ?_) (a' := ?_) #[true, true, true, true, true, true, true, false, true, false, false, true, false, false, false, false, false, false, false, false, false, false, false, false, false, false, false, false, false, false, false, false] rfl rfl (any_of HT_.out (by kernel_rfl)) (fun _ _ _ h => h) (Or.inl ⟨by rfl, ?_⟩) ?_ ?_
   rotate_left
   ·intro w'
    go_simp
    with_reducible rfl
   rotate_left
   ·simp only [putS]
    rfl
   refine pure_ (i := 12) (N := some 42) (v := ?_) (a' := ?_) #[true, true, true, true, true, true, true, false, true, false, false, true, true, false, false, false, false, false, false, false, false, false, false, false, false, false, false, false, false, false, false, false] rfl rfl (any_of HT_.out (by kernel_rfl)) (fun _ _ _ h => h) (Or.inl ⟨by rfl, ?_⟩) ?_ ?_
   rotate_left
   ·intro w'
    go_simp
    with_reducible rfl
   rotate_left
   ·simp only [putS]
    rfl
   refine pure_ (i := 15) (N := some 45) (v := ?_) (a' := ?_) #[true, true, true, true, true, true, true, false, true, false, false, true, true, false, false, true, false, false, false, false, false, false, false, false, false, false, false, false, false, false, false, false] rfl rfl (any_of HT_.out (by kernel_rfl)) (fun _ _ _ h => h) (Or.inl ⟨by rfl, ?_⟩) ?_ ?_
   rotate_left
   ·intro w'
    go_simp
    with_reducible rfl
   rotate_left
   ·simp only [putS]
    rfl
   refine pure_ (i := 17) (N := some 47) (v := ?_) (a' := ?_) #[true, true, true, true, true, true, true, false, true, false, false, true, true, false, false, true, false, true, false, false, false, false, false, false, false, false, false, false, false, false, false, false] rfl rfl (any_of HT_.out (by kernel_rfl)) (fun _ _ _ h => h) (Or.inl ⟨by rfl, ?_⟩) ?_ ?_
   rotate_left
   ·intro w'
    go_simp
    with_reducible rfl
   rotate_left
   ·simp only [putS]
    rfl
   refine pure_ (i := 20) (N := some 50) (v := ?_) (a' := ?_) #[true, true, true, true, true, true, true, false, true, false, false, true, true, false, false, true, false, true, false, false, true, false, false, false, false, false, false, false, false, false, false, false] rfl rfl (any_of HT_.out (by kernel_rfl)) (fun _ _ _ h => h) (Or.inl ⟨by rfl, ?_⟩) ?_ ?_
   rotate_left
   ·intro w'
    go_simp
    with_reducible rfl
   rotate_left
   ·simp only [putS]
    rfl
   refine pure_ (i := 22) (N := some 52) (v := ?_) (a' := ?_) #[true, true, true, true, true, true, true, false, true, false, false, true, true, false, false, true, false, true, false, false, true, false, true, false, false, false, false, false, false, false, false, false] rfl rfl (any_of HT_.out (by kernel_rfl)) (fun _ _ _ h => h) (Or.inl ⟨by rfl, ?_⟩) ?_ ?_
   rotate_left
   ·intro w'
    go_simp
    with_reducible rfl
   rotate_left
   ·simp only [putS]
    rfl
   refine take_ (i := 7) (N := some 37) (v := ?_) (a' := ?_) #[true, true, true, true, true, true, true, true, true, false, false, true, true, false, false, true, false, true, false, false, true, false, true, false, false, false, false, false, false, false, false, false] rfl rfl (take_ofW HT_.out HW_.out (by kernel_rfl)) (fun _ _ _ h => h) (Or.inl ⟨by rfl, ?_⟩) hHeld ?_ ?_
   rotate_left
   ·rintro w' ⟨s0, s1, s2, s3, s4, s5, s6⟩
    go_simp
    with_reducible rfl
   rotate_left
   ·simp only [putS]
    rfl
   refine pure_ (i := 9) (N := some 39) (v := ?_) (a' := ?_) #[true, true, true, true, true, true, true, true, true, true, false, true, true, false, false, true, false, true, false, false, true, false, true, false, false, false, false, false, false, false, false, false] rfl rfl (any_of HT_.out (by kernel_rfl)) (fun _ _ _ h => h) (Or.inl ⟨by rfl, ?_⟩) ?_ ?_
   rotate_left
   ·intro w'
    go_simp
    with_reducible rfl
   rotate_left
   ·simp only [putS]
    rfl
   refine take_ (i := 10) (N := some 40) (v := ?_) (a' := ?_) #[true, true, true, true, true, true, true, true, true, true, true, true, true, false, false, true, false, true, false, false, true, false, true, false, false, false, false, false, false, false, false, false] rfl rfl (take_ofW HT_.out HW_.out (by kernel_rfl)) (fun _ _ _ h => h) (Or.inl ⟨by rfl, ?_⟩) hHeld ?_ ?_
   rotate_left
   ·rintro w' ⟨s0, s1, s2, s3, s4, s5, s6⟩
    go_simp
    with_reducible rfl
   rotate_left
   ·simp only [putS]
    rfl
   refine pure_ (i := 13) (N := some 43) (v := ?_) (a' := ?_) #[true, true, true, true, true, true, true, true, true, true, true, true, true, true, false, true, false, true, false, false, true, false, true, false, false, false, false, false, false, false, false, false] rfl rfl (any_of HT_.out (by kernel_rfl)) (fun _ _ _ h => h) (Or.inl ⟨by rfl, ?_⟩) ?_ ?_
   rotate_left
   ·intro w'
    go_simp
    with_reducible rfl
   rotate_left
   ·simp only [putS]
    rfl
   refine take_ (i := 14) (N := some 44) (v := ?_) (a' := ?_) #[true, true, true, true, true, true, true, true, true, true, true, true, true, true, true, true, false, true, false, false, true, false, true, false, false, false, false, false, false, false, false, false] rfl rfl (take_ofW HT_.out HW_.out (by kernel_rfl)) (fun _ _ _ h => h) (Or.inl ⟨by rfl, ?_⟩) hHeld ?_ ?_
   rotate_left
   ·rintro w' ⟨s0, s1, s2, s3, s4, s5, s6⟩
    go_simp
    with_reducible rfl
   rotate_left
   ·simp only [putS]
    rfl
   refine take_ (i := 16) (N := some 46) (v := ?_) (a' := ?_) #[true, true, true, true, true, true, true, true, true, true, true, true, true, true, true, true, true, true, false, false, true, false, true, false, false, false, false, false, false, false, false, false] rfl rfl (take_ofW HT_.out HW_.out (by kernel_rfl)) (fun _ _ _ h => h) (Or.inl ⟨by rfl, ?_⟩) hHeld ?_ ?_
   rotate_left
   ·rintro w' ⟨s0, s1, s2, s3, s4, s5, s6⟩
    go_simp
    with_reducible rfl
   rotate_left
   ·simp only [putS]
    rfl
   refine pure_ (i := 18) (N := some 48) (v := ?_) (a' := ?_) #[true, true, true, true, true, true, true, true, true, true, true, true, true, true, true, true, true, true, true, false, true, false, true, false, false, false, false, false, false, false, false, false] rfl rfl (any_of HT_.out (by kernel_rfl)) (fun _ _ _ h => h) (Or.inl ⟨by rfl, ?_⟩) ?_ ?_
   rotate_left
   ·intro w'
    go_simp
    with_reducible rfl
   rotate_left
   ·simp only [putS]
    rfl
   refine take_ (i := 19) (N := some 49) (v := ?_) (a' := ?_) #[true, true, true, true, true, true, true, true, true, true, true, true, true, true, true, true, true, true, true, true, true, false, true, false, false, false, false, false, false, false, false, false] rfl rfl (take_ofW HT_.out HW_.out (by kernel_rfl)) (fun _ _ _ h => h) (Or.inl ⟨by rfl, ?_⟩) hHeld ?_ ?_
   rotate_left
   ·rintro w' ⟨s0, s1, s2, s3, s4, s5, s6⟩
    go_simp
    with_reducible rfl
   rotate_left
   ·simp only [putS]
    rfl
   refine take_ (i := 21) (N := some 51) (v := ?_) (a' := ?_) #[true, true, true, true, true, true, true, true, true, true, true, true, true, true, true, true, true, true, true, true, true, true, true, false, false, false, false, false, false, false, false, false] rfl rfl (take_ofW HT_.out HW_.out (by kernel_rfl)) (fun _ _ _ h => h) (Or.inl ⟨by rfl, ?_⟩) hHeld ?_ ?_
   rotate_left
   ·rintro w' ⟨s0, s1, s2, s3, s4, s5, s6⟩
    go_simp
    with_reducible rfl
   rotate_left
   ·simp only [putS]
    rfl
   refine pure_ (i := 23) (N := some 53) (v := ?_) (a' := ?_) #[true, true, true, true, true, true, true, true, true, true, true, true, true, true, true, true, true, true, true, true, true, true, true, true, false, false, false, false, false, false, false, false] rfl rfl (any_of HT_.out (by kernel_rfl)) (fun _ _ _ h => h) (Or.inl ⟨by rfl, ?_⟩) ?_ ?_
   rotate_left
   ·intro w'
    go_simp
    with_reducible rfl
   rotate_left
   ·simp only [putS]
    rfl
   refine take_ (i := 24) (N := some 54) (v := ?_) (a' := ?_) #[true, true, true, true, true, true, true, true, true, true, true, true, true, true, true, true, true, true, true, true, true, true, true, true, true, false, false, false, false, false, false, false] rfl rfl (take_ofW HT_.out HW_.out (by kernel_rfl)) (fun _ _ _ h => h) (Or.inl ⟨by rfl, ?_⟩) hHeld ?_ ?_
   rotate_left
   ·rintro w' ⟨s0, s1, s2, s3, s4, s5, s6⟩
    go_simp
    with_reducible rfl
   rotate_left
   ·simp only [putS]
    rfl
   refine pure_ (i := 25) (N := some 55) (v := ?_) (a' := ?_) #[true, true, true, true, true, true, true, true, true, true, true, true, true, true, true, true, true, true, true, true, true, true, true, true, true, true, false, false, false, false, false, false] rfl rfl (any_of HT_.out (by kernel_rfl)) (fun _ _ _ h => h) (Or.inl ⟨by rfl, ?_⟩) ?_ ?_
   rotate_left
   ·intro w'
    go_simp
    with_reducible rfl
   rotate_left
   ·simp only [putS]
    rfl
   refine pure_ (i := 26) (N := some 56) (v := ?_) (a' := ?_) #[true, true, true, true, true, true, true, true, true, true, true, true, true, true, true, true, true, true, true, true, true, true, true, true, true, true, true, false, false, false, false, false] rfl rfl (any_of HT_.out (by kernel_rfl)) (fun _ _ _ h => h) (Or.inl ⟨by rfl, ?_⟩) ?_ ?_
   rotate_left
   ·intro w'
    go_simp
    with_reducible rfl
   rotate_left
   ·simp only [putS]
    rfl
   refine pure_ (i := 27) (N := some 57) (v := ?_) (a' := ?_) #[true, true, true, true, true, true, true, true, true, true, true, true, true, true, true, true, true, true, true, true, true, true, true, true, true, true, true, true, false, false, false, false] rfl rfl (any_of HT_.out (by kernel_rfl)) (fun _ _ _ h => h) (Or.inl ⟨by rfl, ?_⟩) ?_ ?_
   rotate_left
   ·intro w'
    go_simp
    with_reducible rfl
   rotate_left
   ·simp only [putS]
    rfl
   refine take_ (i := 28) (N := some 58) (v := ?_) (a' := ?_) #[true, true, true, true, true, true, true, true, true, true, true, true, true, true, true, true, true, true, true, true, true, true, true, true, true, true, true, true, true, false, false, false] rfl rfl (take_ofW HT_.out HW_.out (by kernel_rfl)) (fun _ _ _ h => h) (Or.inl ⟨by rfl, ?_⟩) hHeld ?_ ?_
   rotate_left
   ·rintro w' ⟨s0, s1, s2, s3, s4, s5, s6⟩
    go_simp
    with_reducible rfl
   rotate_left
   ·simp only [putS]
    rfl
   refine pure_ (i := 29) (N := some 59) (v := ?_) (a' := ?_) #[true, true, true, true, true, true, true, true, true, true, true, true, true, true, true, true, true, true, true, true, true, true, true, true, true, true, true, true, true, true, false, false] rfl rfl (any_of HT_.out (by kernel_rfl)) (fun _ _ _ h => h) (Or.inl ⟨by rfl, ?_⟩) ?_ ?_
   rotate_left
   ·intro w'
    go_simp
    with_reducible rfl
   rotate_left
   ·simp only [putS]
    rfl
   refine pure_ (i := 30) (N := some 60) (v := ?_) (a' := ?_) #[true, true, true, true, true, true, true, true, true, true, true, true, true, true, true, true, true, true, true, true, true, true, true, true, true, true, true, true, true, true, true, false] rfl rfl (any_of HT_.out (by kernel_rfl)) (fun _ _ _ h => h) (Or.inl ⟨by rfl, ?_⟩) ?_ ?_
   rotate_left
   ·intro w'
    go_simp
    with_reducible rfl
   rotate_left
   ·simp only [putS]
    rfl
   refine pure_ (i := 31) (N := some 61) (v := ?_) (a' := ?_) #[true, true, true, true, true, true, true, true, true, true, true, true, true, true, true, true, true, true, true, true, true, true, true, true, true, true, true, true, true, true, true, true] rfl rfl (any_of HT_.out (by kernel_rfl)) (fun _ _ _ h => h) (Or.inl ⟨by rfl, ?_⟩) ?_ ?_
   rotate_left
   ·intro w'
    go_simp
    with_reducible rfl
   rotate_left
   ·simp only [putS]
    rfl
   refine done_ (done_of HT_.out (by kernel_rfl)) ?_
   try go_wp2
   go_roundg k2
   case measure => have := HK1.out; have := HK2.out; omega
   case rel => exact ⟨(x6_2), (wrap64 (x7_2 + 1)), (by first | rfl | (simp; done) | (simp [*]; done)), (by first | rfl | (simp; done) | (simp [*]; done)), H', ⟨by have := HK1.out; have := HK2.out; omega⟩, ⟨rdl HO_4⟩, ⟨by (with_reducible repeat (first | apply Kd.N_alloc | apply Kd.N_drewN | apply Kd.N_drew)); exact HO_342001.out⟩, ⟨bkl BK332⟩, ⟨bkl BK341⟩, ⟨bel2 HB GE332 GE341⟩⟩
end Go.Proofs.Ytdooakhjaffcdaa.P
