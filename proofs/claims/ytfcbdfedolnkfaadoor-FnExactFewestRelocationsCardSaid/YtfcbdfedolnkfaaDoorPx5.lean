-- Written by a program of this session over the translation (a variant of the printer, see wip/gen); Lean checks it.
import Derived.Test.YtfcbdfedolnkfaaDoorPx0
import Derived.Test.YtfcbdfedolnkfaaDoorPx1
import Derived.Test.YtfcbdfedolnkfaaDoorPx3
import Derived.Test.YtfcbdfedolnkfaaDoorPx4
namespace Go.Proofs.YtfcbdfedolnkfaaDoor.P
open Go.RowKit Go.Proofs.YtfcbdfedolnkfaaDoorW.PrintWords Go.Proofs.YtfcbdfedolnkfaaDoorW.PrintLast Go.Proofs.YtfcbdfedolnkfaaDoorW.PrintMore
attribute [local go_sem] Go.Proofs.YtfcbdfedolnkfaaDoor.V.isSome_setCell max2_int min2_int max_two min_two max_three min_three max_four min_four   -- for this text's walks alone
set_option linter.unusedVariables false
set_option linter.unusedSimpArgs false

/-! ### spec_l6Step: function 45 -/
def spec_l6Step.j0 : Nat → Int → Int → Bool → List (List Int) → Int → Int → Option ((List (List Int)) × Bool)
 | 0, _, _, _, _, _, _ => none
 | k + 1, x6, x7, x28, x160000, x161000, x161001 => if x28 = true then (some (x160000, false)) else (if x161001 = (-1) then ((spec_l5Own.f k x160000).bind fun t165 => (if 0 ≤ x6 then (if x6 < (t165.length : Int) then (if 0 ≤ x7 then (if x7 ≤ ((rd_L1 t165 x6).length : Int) then (some ((t165.set (x6 : Int).toNat ((rd_L1 t165 x6).take (x7 : Int).toNat)), true)) else (none)) else (none)) else (none)) else (none))) else ((spec_l1In.f x161001 0 (wrap64 ((x160000.length : Int) - 1))).bind fun t176 => (if t176 = true then (if x161001 = x6 then (some (x160000, false)) else (if 0 ≤ x161001 then (if x161001 < (x160000.length : Int) then (if ((rd_L1 x160000 x161001).length : Int) = 4 then (some (x160000, false)) else ((spec_l5Move.f k x160000 x6 x161001).bind fun t178 => (some (t178, true)))) else (none)) else (none))) else (some (x160000, false)))))
def spec_l6Step.f (k : Nat) (l0_0 : List (List Int)) (a1_0 : Int) (a1_1 : Int) : Option ((List (List Int)) × Bool) := (spec_l5Find.f k l0_0 a1_0).bind fun bt162 => (if bt162.1 < 0 then (spec_l6Step.j0 k bt162.1 bt162.2 true l0_0 a1_0 a1_1) else (if 0 ≤ bt162.1 then (if bt162.1 < (l0_0.length : Int) then (spec_l6Step.j0 k bt162.1 bt162.2 (bt162.2 != (wrap64 (((rd_L1 l0_0 bt162.1).length : Int) - 1))) l0_0 a1_0 a1_1) else (none)) else (none)))
theorem spec_l6Step.mono_l : ∀ k, (∀ y0 y1 y2 y3 y4 y5, LeO (spec_l6Step.j0 k y0 y1 y2 y3 y4 y5) (spec_l6Step.j0 (k + 1) y0 y1 y2 y3 y4 y5))
 | 0 => fun _ _ _ _ _ _ r h => by simp [spec_l6Step.j0] at h
 | k + 1 => by
  have ih0 := spec_l6Step.mono_l k
  ·intro y0 y1 y2 y3 y4 y5
   unfold spec_l6Step.j0
   repeat' first
   | (with_reducible exact ih0 _ _ _ _ _ _)
   | (with_reducible exact spec_l5Find.mono _ _ _)
   | (with_reducible exact spec_l5Move.mono _ _ _ _)
   | (with_reducible exact spec_l5Own.mono _ _)
   | (with_reducible exact LeO.refl _)
   | (with_reducible exact LeO.none _)
   | (with_reducible refine LeO.ite ?_ ?_)
   | (with_reducible refine LeO.bind ?_ (fun _ => ?_))
   | exact ih0 _ _ _ _ _ _
   | exact spec_l5Find.mono _ _ _
   | exact spec_l5Move.mono _ _ _ _
   | exact spec_l5Own.mono _ _
   | exact LeO.none _
   | refine LeO.ite ?_ ?_
   | refine LeO.bind ?_ (fun _ => ?_)
theorem spec_l6Step.mono : ∀ a0 a1 a2 k, LeO (spec_l6Step.f k a0 a1 a2) (spec_l6Step.f (k + 1) a0 a1 a2) := by
 intro a0 a1 a2 k
 have ih0 := spec_l6Step.mono_l k
 unfold spec_l6Step.f
 repeat' first
   | (with_reducible exact ih0 _ _ _ _ _ _)
   | (with_reducible exact spec_l5Find.mono _ _ _)
   | (with_reducible exact spec_l5Move.mono _ _ _ _)
   | (with_reducible exact spec_l5Own.mono _ _)
   | (with_reducible exact LeO.refl _)
   | (with_reducible exact LeO.none _)
   | (with_reducible refine LeO.ite ?_ ?_)
   | (with_reducible refine LeO.bind ?_ (fun _ => ?_))
   | exact ih0 _ _ _ _ _ _
   | exact spec_l5Find.mono _ _ _
   | exact spec_l5Move.mono _ _ _ _
   | exact spec_l5Own.mono _ _
   | exact LeO.none _
   | refine LeO.ite ?_ ?_
   | refine LeO.bind ?_ (fun _ => ?_)
def spec_l6Step.T6 : Bool × List (List Nat × List Nat) := (true, [([], []), ([0], [0]), ([], []), ([], []), ([3], [3]), ([], []), ([4, 5], [4, 5]), ([6], [6]), ([], []), ([7, 8], [7, 8]), ([1, 2, 0, 1, 2, 3, 4, 5, 6, 7, 8, 9], [1, 2]), ([10, 9, 0, 1, 2, 3, 4, 5, 6, 7, 8, 9], [9, 10])])
def spec_l6Step.B6 : List Nat := [0, 1, 0, 0, 8, 0, 56, 120, 0, 504, 1023, 2047]
theorem spec_l6Step.tab6 : rtab .any (opsOf Tryd.f45 6) = spec_l6Step.T6 := by kernel_rfl
theorem spec_l6Step.bits6 : waitsOk spec_l6Step.T6.2 spec_l6Step.B6 = true := by kernel_rfl
set_option maxHeartbeats 8000000 in
set_option maxRecDepth 100000 in
theorem spec_l6Step.calls (k : Nat) (P0_0_ : Nat → Prop) (A0_0 : Option Addr) (c0_0 : Nat) (l0_0 : List (List Int)) (a1_0 : Int) (a1_1 : Int) (r1 : List (List Int)) (r2 : Bool) (w : World) (hs0_0 : Kd.V (Kd.slice 3 (Kd.int .i64)) 25 w w.heap.size (fun k_ => P0_0_ k_) (.slice A0_0 l0_0.length c0_0) l0_0) (h : spec_l6Step.f k l0_0 a1_0 a1_1 = some (r1, r2)) :
  Calls Tryd.prog 45 #[.agg #[.slice A0_0 l0_0.length c0_0], .agg #[.int .i64 a1_0, .int .i64 a1_1]] w fun e w' => ∃ v0_ : Value, e = .returned (.tuple #[.agg #[v0_], .bool r2]) ∧ Kd.V (Kd.slice 3 (Kd.int .i64)) 25 w' w.heap.size (fun k_ => (P0_0_ k_ ∨ w.heap.size ≤ k_)) v0_ r1 ∧ Below w.heap.size w w' := by
 have hu30 := Tryd.underlying30
 have hu47 := Tryd.underlying47
 have HO0_0 := Aside0.mk (show Kd.V (Kd.slice 3 (Kd.int .i64)) 25 w w.heap.size (fun k_ => (P0_0_ k_ ∨ w.heap.size ≤ k_)) (.slice A0_0 l0_0.length c0_0) l0_0 from Kd.V_mono hs0_0 (fun k_ hk => .inl hk))
 have HB := Aside0.mk (Below.refl w.heap.size w)
 have H : ((spec_l5Find.f k l0_0 a1_0).bind fun bt162 => (if bt162.1 < 0 then (spec_l6Step.j0 k bt162.1 bt162.2 true l0_0 a1_0 a1_1) else (if 0 ≤ bt162.1 then (if bt162.1 < (l0_0.length : Int) then (spec_l6Step.j0 k bt162.1 bt162.2 (bt162.2 != (wrap64 (((rd_L1 l0_0 bt162.1).length : Int) - 1))) l0_0 a1_0 a1_1) else (none)) else (none)))) = some (r1, r2) := h
 clear h
 replace H := Option.bind_eq_some_iff.mp H
 obtain ⟨⟨t162, t163⟩, A30, H⟩ := H
 replace H : (if t162 < 0 then (spec_l6Step.j0 k t162 t163 true l0_0 a1_0 a1_1) else (if 0 ≤ t162 then (if t162 < (l0_0.length : Int) then (spec_l6Step.j0 k t162 t163 (t163 != (wrap64 (((rd_L1 l0_0 t162).length : Int) - 1))) l0_0 a1_0 a1_1) else (none)) else (none))) = some (r1, r2) := H
 have A3 := Aside0.mk A30
 clear A30
 have HC4 := Aside0.mk H
 clear H
 go_enter Tryd.func45, Tryd.ntmps45
 go_upto_region 2 with (first | ((with_reducible refine gate_dst (N := 2) rfl ?_); (try (refine gate_guard (by rfl) ?_; dsimp only)); refine box_event ?hg (N := 2) ?hd (cs := #[.slice A0_0 l0_0.length c0_0]) (t := 30) ?hr ?_; (case hd => rfl); (case hg => rfl); (case hr => first | (go_simp; done) | (go_simp; rfl)); intro gb159 hg w5 hbox hb; have n0_ := Aside0.mk (Kd.V_below (Kd.V_elderB (by (with_reducible repeat (first | apply Kd.V_alloc | apply Kd.V_drewN | apply Kd.V_drew)); exact HO0_0.out) gb159 (Nat.le_of_eq hg.symm)) hb); have n1_ := Aside0.mk (below_step (bel HB) hb); have n2_ := Aside0.mk (hbox); have n3_ := Aside0.mk ((by rw [hg]; exact (below_size (bel HB)) : w.heap.size ≤ gb159)); have n4_ := Aside0.mk ((by rw [hg]; exact (below_size (bel HB)) : w.heap.size ≤ gb159)); clear HO0_0; clear HB; have HO0_0 := n0_; have HB := n1_; have BK159 := n2_; have GW159 := n3_; have GE159 := n4_; clear n0_ n1_ n2_ n3_ n4_; clear hb hbox hg) | ((with_reducible refine gate_dst (N := 3) rfl ?_); (try (refine gate_guard (by rfl) ?_; dsimp only)); refine box_event ?hg (N := 3) ?hd (cs := #[.int .i64 a1_0, .int .i64 a1_1]) (t := 47) ?hr ?_; (case hd => rfl); (case hg => rfl); (case hr => first | (go_simp; done) | (go_simp; rfl)); intro gb160 hg w6 hbox hb; have n0_ := Aside0.mk (Kd.V_below (Kd.V_elderB (by (with_reducible repeat (first | apply Kd.V_alloc | apply Kd.V_drewN | apply Kd.V_drew)); exact HO0_0.out) gb160 (Nat.le_of_eq hg.symm)) hb); have n1_ := Aside0.mk (blk_below (g := gb159) (o := .cells #[.slice A0_0 l0_0.length c0_0] 30 (0, 0)) (bkl BK159) hb); have n2_ := Aside0.mk (below_step (bel1 HB GE159) hb); have n3_ := Aside0.mk (hbox); have n4_ := Aside0.mk ((by rw [hg]; exact (below_size (bel1 HB GE159)) : w.heap.size ≤ gb160)); have n5_ := Aside0.mk ((by rw [hg]; exact (below_size (bel1 HB GE159)) : w.heap.size ≤ gb160)); have n6_ := Aside0.mk ((by rw [hg]; exact Nat.ne_of_lt (blk_lt (g := gb159) (o := .cells #[.slice A0_0 l0_0.length c0_0] 30 (0, 0)) (bkl BK159)) : gb159 ≠ gb160)); have n7_ := Aside0.mk ((by rw [hg]; exact Nat.ne_of_gt (blk_lt (g := gb159) (o := .cells #[.slice A0_0 l0_0.length c0_0] 30 (0, 0)) (bkl BK159)) : gb160 ≠ gb159)); clear HO0_0; clear BK159; clear HB; have HO0_0 := n0_; have BK159 := n1_; have HB := n2_; have BK160 := n3_; have GW160 := n4_; have GE160 := n5_; have NB159_160 := n6_; have NB160_159 := n7_; clear n0_ n1_ n2_ n3_ n4_ n5_ n6_ n7_; clear hb hbox hg) | ((with_reducible refine gate_dst (N := 4) rfl ?_); (try (refine gate_guard (by rfl) ?_; dsimp only)); refine box_event ?hg (N := 4) ?hd (cs := #[.slice none 0 0]) (t := 30) ?hr ?_; (case hd => rfl); (case hg => rfl); (case hr => first | (go_simp; done) | (go_simp; rfl)); intro gb161 hg w7 hbox hb; have n0_ := Aside0.mk (Kd.V_below (Kd.V_elderB (by (with_reducible repeat (first | apply Kd.V_alloc | apply Kd.V_drewN | apply Kd.V_drew)); exact HO0_0.out) gb161 (Nat.le_of_eq hg.symm)) hb); have n1_ := Aside0.mk (blk_below (g := gb159) (o := .cells #[.slice A0_0 l0_0.length c0_0] 30 (0, 0)) (bkl BK159) hb); have n2_ := Aside0.mk (blk_below (g := gb160) (o := .cells #[.int .i64 a1_0, .int .i64 a1_1] 47 (0, 0)) (bkl BK160) hb); have n3_ := Aside0.mk (below_step (bel2 HB GE159 GE160) hb); have n4_ := Aside0.mk (hbox); have n5_ := Aside0.mk ((by rw [hg]; exact (below_size (bel2 HB GE159 GE160)) : w.heap.size ≤ gb161)); have n6_ := Aside0.mk ((by rw [hg]; exact (below_size (bel2 HB GE159 GE160)) : w.heap.size ≤ gb161)); have n7_ := Aside0.mk ((by rw [hg]; exact Nat.ne_of_lt (blk_lt (g := gb159) (o := .cells #[.slice A0_0 l0_0.length c0_0] 30 (0, 0)) (bkl BK159)) : gb159 ≠ gb161)); have n8_ := Aside0.mk ((by rw [hg]; exact Nat.ne_of_gt (blk_lt (g := gb159) (o := .cells #[.slice A0_0 l0_0.length c0_0] 30 (0, 0)) (bkl BK159)) : gb161 ≠ gb159)); have n9_ := Aside0.mk ((by rw [hg]; exact Nat.ne_of_lt (blk_lt (g := gb160) (o := .cells #[.int .i64 a1_0, .int .i64 a1_1] 47 (0, 0)) (bkl BK160)) : gb160 ≠ gb161)); have n10_ := Aside0.mk ((by rw [hg]; exact Nat.ne_of_gt (blk_lt (g := gb160) (o := .cells #[.int .i64 a1_0, .int .i64 a1_1] 47 (0, 0)) (bkl BK160)) : gb161 ≠ gb160)); clear HO0_0; clear BK159; clear BK160; clear HB; have HO0_0 := n0_; have BK159 := n1_; have BK160 := n2_; have HB := n3_; have BK161 := n4_; have GW161 := n5_; have GE161 := n6_; have NB159_161 := n7_; have NB161_159 := n8_; have NB160_161 := n9_; have NB161_160 := n10_; clear n0_ n1_ n2_ n3_ n4_ n5_ n6_ n7_ n8_ n9_ n10_; clear hb hbox hg; have hnb8 := NB159_160.out; have hnc8 := NB160_159.out; have hnb9 := NB159_161.out; have hnc9 := NB161_159.out; have hcz10_0 : w7.cell? ⟨gb159, 0, none⟩ = some (.slice A0_0 l0_0.length c0_0) := (blk_cell BK159.out 0).trans rfl; have hfz10_0 := blk_frozen BK159.out 0; have hnb11 := NB160_161.out; have hnc11 := NB161_160.out; have hcz12_0 : w7.cell? ⟨gb160, 0, none⟩ = some (.int .i64 a1_0) := (blk_cell BK160.out 0).trans rfl; have hcz12_1 : w7.cell? ⟨gb160, 1, none⟩ = some (.int .i64 a1_1) := (blk_cell BK160.out 1).trans rfl; have hfz12_0 := blk_frozen BK160.out 0; have hfz12_1 := blk_frozen BK160.out 1) | ((with_reducible refine gate_callee (f := 43) rfl ?_); refine goesL_ (some 13) rfl rfl Tryd.func43 (by kernel_rfl) rfl #[.agg #[.slice A0_0 l0_0.length c0_0], .int .i64 a1_0] rfl gmp ?_; (with_reducible refine (spec_l5Find.calls k _ _ l0_0 a1_0 t162 t163 _ ?side1 ?side2 A3.out).mono ?_); (case side1 => repeat (first | exact (Kd.V_reads' HO0_0.out).2.2 | (with_reducible refine Kd.C_alloc ?_ _) | (with_reducible refine Kd.C_drewN ?_ _) | (with_reducible refine Kd.C_drew ?_))); (case side2 => exact (Kd.V_reads' HO0_0.out).2.1); rintro e w13 ⟨rfl, hb⟩; refine ⟨_, rfl, ?_⟩; have n0_ := Aside0.mk (Kd.V_below (by (with_reducible repeat (first | apply Kd.V_alloc | apply Kd.V_drewN | apply Kd.V_drew)); exact HO0_0.out) hb); have n1_ := Aside0.mk (blk_below (g := gb159) (o := .cells #[.slice A0_0 l0_0.length c0_0] 30 (0, 0)) (bkl BK159) hb); have n2_ := Aside0.mk (blk_below (g := gb160) (o := .cells #[.int .i64 a1_0, .int .i64 a1_1] 47 (0, 0)) (bkl BK160) hb); have n3_ := Aside0.mk (blk_below (g := gb161) (o := .cells #[.slice none 0 0] 30 (0, 0)) (bkl BK161) hb); have n4_ := Aside0.mk (below_step (bel3 HB GE159 GE160 GE161) hb); clear HO0_0; clear BK159; clear BK160; clear BK161; clear HB; have HO0_0 := n0_; have BK159 := n1_; have BK160 := n2_; have BK161 := n3_; have HB := n4_; clear n0_ n1_ n2_ n3_ n4_; (try clear hb); (try clear hb2); (try clear hk); (try clear hi)))
 (try simp only [Act.put, List.setIfInBounds_toArray, List.set_cons_zero, List.set_cons_succ])
 go_cut [28] (fun v28 wc => ∃ (kq : Nat) (x28_3 : Bool), v28 = .bool x28_3 ∧ Aside0 (spec_l6Step.j0 kq t162 t163 x28_3 l0_0 a1_0 a1_1 = some (r1, r2)) ∧ Aside0 (kq ≤ k) ∧ Aside0 (Kd.V (Kd.slice 3 (Kd.int .i64)) 25 wc w.heap.size (fun k_ => (P0_0_ k_ ∨ w.heap.size ≤ k_) ∧ k_ ≠ gb159 ∧ k_ ≠ gb160 ∧ k_ ≠ gb161) (.slice A0_0 l0_0.length c0_0) l0_0) ∧ Aside0 (wc.heap[gb159]? = some (.cells #[(.slice A0_0 l0_0.length c0_0)] 30 (0, 0))) ∧ Aside0 (wc.heap[gb160]? = some (.cells #[.int .i64 a1_0, .int .i64 a1_1] 47 (0, 0))) ∧ Aside0 (wc.heap[gb161]? = some (.cells #[(.slice none 0 0)] 30 (0, 0))) ∧ Aside0 (Below w.heap.size w wc))
 case first =>
  have H := HC4.out
  clear HC4
  by_cases c14 : t162 < 0
  ·rw [if_pos c14] at H
   have c14b0 : decide (t162 < 0) = true := decide_eq_true c14
   clear c14
   (first | rw [c14b0] | (simp only [i64_w, i32_w]; rw [c14b0]) | skip)
   have H' := Aside0.mk H
   clear H
   go_wp2
   go_meet
   case rel => exact ⟨_, (true), (by first | rfl | (simp; done) | (simp [*]; done)), H', ⟨by first | omega | exact Nat.le_refl _⟩, ⟨by (with_reducible repeat (first | apply Kd.V_alloc | apply Kd.V_drewN | apply Kd.V_drew)); exact Kd.V_mono HO0_0.out (fun _ hk => ⟨hk.1.1.1, ⟨hk.1.1.2, ⟨hk.1.2, hk.2⟩⟩⟩)⟩, ⟨bkl BK159⟩, ⟨bkl BK160⟩, ⟨bkl BK161⟩, ⟨bel3 HB GE159 GE160 GE161⟩⟩
  ·rw [if_neg c14] at H
   have c14b0 : decide (t162 < 0) = false := decide_eq_false c14
   clear c14
   (first | rw [c14b0] | (simp only [i64_w, i32_w]; rw [c14b0]) | skip)
   by_cases c15 : 0 ≤ t162
   ·rw [if_pos c15] at H
    have c15b0 : decide (0 ≤ t162) = true := decide_eq_true c15
    clear c15
    by_cases c16 : t162 < (l0_0.length : Int)
    ·rw [if_pos c16] at H
     have c16b0 : decide (t162 < (l0_0.length : Int)) = true := decide_eq_true c16
     clear c16
     have H' := Aside0.mk H
     clear H
     have hnb17 := NB159_160.out
     have hnc17 := NB160_159.out
     have hnb18 := NB159_161.out
     have hnc18 := NB161_159.out
     have hcz19_0 : w13.cell? ⟨gb159, 0, none⟩ = some (.slice A0_0 l0_0.length c0_0) := (blk_cell BK159.out 0).trans rfl
     have hfz19_0 := blk_frozen BK159.out 0
     have p164 : 0 ≤ (t162 : Int) := oda
     have q164 : t162 < (l0_0.length : Int) := oda
     obtain ⟨ad164, A164_0, c164_0, e164, hx164_0, hl164_0, hi164_0⟩ := at_L1 (Kd.V_reads' HO0_0.out).2.2 t162 p164 q164
     cases e164
     obtain ⟨ce164, hce164, hMe164, hcc164⟩ := Kd.V_get HO0_0.out [] t162 p164 (by first | exact q164 | exact oda | (have e_ := (Kd.V_reads' HO0_0.out).1; omega))
     obtain ⟨ua164_0, uc164_0, rfl, ul164_0, ge164_0⟩ := Kd.FK_slice_open hMe164
     have hv164_0 := hcc164 0 _ rfl
     rw [Nat.add_zero, show ((Kd.slice 3 (Kd.int .i64))).sz = 1 from rfl, Nat.mul_one] at hv164_0
     replace hv164_0 := Option.some.inj (hv164_0.symm.trans hx164_0)
     injection hv164_0 with hva_ hvn_ hvc_
     rw [hva_] at ge164_0
     rw [hvc_] at ul164_0
     have HL164_0 := Aside0.mk (show Kd.V (Kd.int .i64) 3 _ w.heap.size _ _ (rd_L1 l0_0 t162) from Kd.V_mk ul164_0 ge164_0)
     clear hva_ hvn_ hvc_ ge164_0 ul164_0
     clear hcc164 hce164
     have HR164_0 := Aside0.mk hi164_0
     have HC164_0 := Aside0.mk hl164_0
     clear hi164_0 hl164_0
     replace p164 := eq_true p164
     replace q164 := eq_true q164
     go_wp2
     go_meet
     case rel => exact ⟨_, ((t163 != (wrap64 (((rd_L1 l0_0 t162).length : Int) - 1)))), (by first | rfl | (simp; done) | (simp [*]; done)), H', ⟨by first | omega | exact Nat.le_refl _⟩, ⟨by (with_reducible repeat (first | apply Kd.V_alloc | apply Kd.V_drewN | apply Kd.V_drew)); exact Kd.V_mono HO0_0.out (fun _ hk => ⟨hk.1.1.1, ⟨hk.1.1.2, ⟨hk.1.2, hk.2⟩⟩⟩)⟩, ⟨bkl BK159⟩, ⟨bkl BK160⟩, ⟨bkl BK161⟩, ⟨bel3 HB GE159 GE160 GE161⟩⟩
    ·rw [if_neg c16] at H
     exact absurd H (by simp)
   ·rw [if_neg c15] at H
    exact absurd H (by simp)
 case rest =>
  clear HC4
  try clear c1
  try clear p1
  try clear q1
  try clear hx1
  try clear p2
  try clear c4
  try clear p6
  try clear c8
  try clear c9
  try clear c11
  try clear c14
  try clear c14b0
  try clear c15
  try clear c15b0
  try clear c16
  try clear c16b0
  try clear p16
  try clear q16
  try clear hx16
  try clear c17
  try clear c18
  try clear hcz10_0
  try clear hcz12_0
  try clear hcz12_1
  try clear hcz19_0
  try clear hfz10_0
  try clear hfz12_0
  try clear hfz12_1
  try clear hfz19_0
  try clear hx164_0
  try clear p164
  try clear q164
  obtain ⟨kq, x28_3, rfl, HA, HJ3, HO_160000, BK159, BK160, BK161, HB⟩ := hcut
  cases kq with
  | zero => exact absurd HA.out (by simp [spec_l6Step.j0])
  | succ kj3 =>
   have H := HA.out
   clear HA
   simp only [spec_l6Step.j0] at H
   by_cases c20 : x28_3 = true
   ·subst c20
    have H1 : (some (l0_0, false)) = some (r1, r2) := by rw [if_pos rfl] at H; exact H
    clear H
    have H := H1
    clear H1
    simp only [Option.some.injEq, Prod.mk.injEq] at H
    obtain ⟨rfl, rfl⟩ := H
    have hnb21 := NB159_160.out
    have hnc21 := NB160_159.out
    have hnb22 := NB159_161.out
    have hnc22 := NB161_159.out
    have hcz23_0 : wc.cell? ⟨gb159, 0, none⟩ = some (.slice A0_0 l0_0.length c0_0) := (blk_cell BK159.out 0).trans rfl
    have hfz23_0 := blk_frozen BK159.out 0
    have hnb24 := NB161_160.out
    have hnc24 := NB160_161.out
    have hcz25_0 : wc.cell? ⟨gb161, 0, none⟩ = some (.slice none 0 0) := (blk_cell BK161.out 0).trans rfl
    have hfz25_0 := blk_frozen BK161.out 0
    go_wp2
    refine bodyPost_ret (results_ct rfl _ _ gb161 30 #[.slice A0_0 l0_0.length c0_0] (0, 0) _ rfl (by (with_reducible repeat (first | refine blk_drewN ?_ _ | refine blk_drew ?_ | refine blk_alloc ?_ _)); refine blk_put (cs := #[.slice none 0 0]) ?_ 0 _ rfl; (with_reducible repeat (first | refine blk_drewN ?_ _ | refine blk_drew ?_ | refine blk_alloc ?_ _)); exact BK161.out) Tryd.underlying30 rfl (by kernel_rfl)) rfl ?_
    exact ⟨_, by first | rfl | (simp [errW_none, errW_some] <;> rfl) | (simp [*, errW_none, errW_some] <;> rfl), by (with_reducible repeat (first | apply Kd.V_alloc | apply Kd.V_drewN | apply Kd.V_drew)); exact Kd.V_mono (Kd.V_far (p := ⟨gb161, 0, none⟩) (Kd.V_mono HO_160000.out (fun k_ hk => (⟨hk, hk.2.2.2⟩ : _ ∧ k_ ≠ gb161))) (fun _ hk => hk.2) (.slice A0_0 l0_0.length c0_0)) (fun _ hk => hk.1.1), bel3 HB GE159 GE160 GE161⟩
   ·replace c20 := Bool.eq_false_iff.mpr c20
    subst c20
    have H1 : (if a1_1 = (-1) then ((spec_l5Own.f kj3 l0_0).bind fun t165 => (if 0 ≤ t162 then (if t162 < (t165.length : Int) then (if 0 ≤ t163 then (if t163 ≤ ((rd_L1 t165 t162).length : Int) then (some ((t165.set (t162 : Int).toNat ((rd_L1 t165 t162).take (t163 : Int).toNat)), true)) else (none)) else (none)) else (none)) else (none))) else ((spec_l1In.f a1_1 0 (wrap64 ((l0_0.length : Int) - 1))).bind fun t176 => (if t176 = true then (if a1_1 = t162 then (some (l0_0, false)) else (if 0 ≤ a1_1 then (if a1_1 < (l0_0.length : Int) then (if ((rd_L1 l0_0 a1_1).length : Int) = 4 then (some (l0_0, false)) else ((spec_l5Move.f kj3 l0_0 t162 a1_1).bind fun t178 => (some (t178, true)))) else (none)) else (none))) else (some (l0_0, false))))) = some (r1, r2) := by rw [if_neg (show ¬ (false = true) by decide)] at H; exact H
    clear H
    have H := H1
    clear H1
    by_cases c26 : a1_1 = (-1)
    ·rw [if_pos c26] at H
     have c26b0 : (a1_1 == (-1)) = true := beq_iff_eq.mpr c26
     have c26b1 : (a1_1 != (-1)) = false := bne_eq_false_iff_eq.mpr c26
     clear c26
     replace H := Option.bind_eq_some_iff.mp H
     obtain ⟨t165, A270, H⟩ := H
     replace H : (if 0 ≤ t162 then (if t162 < (t165.length : Int) then (if 0 ≤ t163 then (if t163 ≤ ((rd_L1 t165 t162).length : Int) then (some ((t165.set (t162 : Int).toNat ((rd_L1 t165 t162).take (t163 : Int).toNat)), true)) else (none)) else (none)) else (none)) else (none)) = some (r1, r2) := H
     have A27 := Aside0.mk A270
     clear A270
     by_cases c28 : 0 ≤ t162
     ·rw [if_pos c28] at H
      have c28b0 : decide (0 ≤ t162) = true := decide_eq_true c28
      clear c28
      by_cases c29 : t162 < (t165.length : Int)
      ·rw [if_pos c29] at H
       have c29b0 : decide (t162 < (t165.length : Int)) = true := decide_eq_true c29
       clear c29
       by_cases c30 : 0 ≤ t163
       ·rw [if_pos c30] at H
        have c30b0 := eq_true c30
        have c30b1 : decide (0 ≤ t163) = true := decide_eq_true c30
        clear c30
        by_cases c31 : t163 ≤ ((rd_L1 t165 t162).length : Int)
        ·rw [if_pos c31] at H
         have c31b0 := eq_true c31
         have c31b1 : decide (t163 ≤ ((rd_L1 t165 t162).length : Int)) = true := decide_eq_true c31
         clear c31
         obtain ⟨y170, hy170⟩ : ∃ y_ : List Int, y_ = ((rd_L1 t165 t162).take (t163 : Int).toNat) := ⟨_, rfl⟩
         replace H : (some ((t165.set (t162 : Int).toNat y170), true)) = some (r1, r2) := by first | (rw [hy170]; with_reducible exact H) | (have H2_ := (Option.bind_some _ _).symm.trans H; rw [hy170]; with_reducible exact H2_) | (have H2_ := (Option.bind_some _ _).symm.trans H; with_reducible exact H2_) | with_reducible exact H | (rw [hy170]; exact H) | exact H
         have Ny170 := Aside0.mk hy170
         clear hy170
         obtain ⟨y175, hy175⟩ : ∃ y_ : List (List Int), y_ = (t165.set (t162 : Int).toNat y170) := ⟨_, rfl⟩
         replace H : (some (y175, true)) = some (r1, r2) := by first | (rw [hy175]; with_reducible exact H) | (have H2_ := (Option.bind_some _ _).symm.trans H; rw [hy175]; with_reducible exact H2_) | (have H2_ := (Option.bind_some _ _).symm.trans H; with_reducible exact H2_) | with_reducible exact H | (rw [hy175]; exact H) | exact H
         have Ny175 := Aside0.mk hy175
         clear hy175
         simp only [Option.some.injEq, Prod.mk.injEq] at H
         obtain ⟨rfl, rfl⟩ := H
         have hnb33 := NB160_159.out
         have hnc33 := NB159_160.out
         have hnb34 := NB160_161.out
         have hnc34 := NB161_160.out
         have hcz35_0 : wc.cell? ⟨gb160, 0, none⟩ = some (.int .i64 a1_0) := (blk_cell BK160.out 0).trans rfl
         have hcz35_1 : wc.cell? ⟨gb160, 1, none⟩ = some (.int .i64 a1_1) := (blk_cell BK160.out 1).trans rfl
         have hfz35_0 := blk_frozen BK160.out 0
         have hfz35_1 := blk_frozen BK160.out 1
         have hnb36 := NB159_161.out
         have hnc36 := NB161_159.out
         have hcz37_0 : wc.cell? ⟨gb159, 0, none⟩ = some (.slice A0_0 l0_0.length c0_0) := (blk_cell BK159.out 0).trans rfl
         have hfz37_0 := blk_frozen BK159.out 0
         try go_wp2_with (first | ((with_reducible refine gate_callee (f := 52) rfl ?_); refine goesL_ (some 34) rfl rfl Tryd.func52 (by kernel_rfl) rfl #[.agg #[.slice A0_0 l0_0.length c0_0]] rfl gmp ?_; (with_reducible refine (spec_l5Own.calls kj3 _ _ l0_0 t165 _ ?side1 ?side2 A27.out).mono ?_); (case side1 => repeat (first | exact (Kd.V_reads' HO_160000.out).2.2 | (with_reducible refine Kd.C_alloc ?_ _) | (with_reducible refine Kd.C_drewN ?_ _) | (with_reducible refine Kd.C_drew ?_))); (case side2 => exact (Kd.V_reads' HO_160000.out).2.1); rintro e w38 ⟨v166, rfl, ho0, hb⟩; refine ⟨_, rfl, ?_⟩; have n0_ := Aside0.mk (Kd.V_elder' (by (with_reducible repeat (first | apply Kd.V_alloc | apply Kd.V_drewN | apply Kd.V_drew)); exact HO_160000.out) (Kd.S_base ho0) hb); have n1_ := Aside0.mk (Kd.N_lower (Kd.N_mono (ok' := fun k_ => (P0_0_ k_ ∨ w.heap.size ≤ k_) ∧ k_ ≠ gb159 ∧ k_ ≠ gb160 ∧ k_ ≠ gb161) (Kd.S_N (Kd.S_bound ho0)) (fun k_ hk_ => ⟨(.inr (Nat.le_trans (below_size (bel3 HB GE159 GE160 GE161)) hk_.2.1)), (Kd.freshB (g := gb159) (o := .cells #[.slice A0_0 l0_0.length c0_0] 30 (0, 0)) (bkl BK159) k_ hk_.2.1), (Kd.freshB (g := gb160) (o := .cells #[.int .i64 a1_0, .int .i64 a1_1] 47 (0, 0)) (bkl BK160) k_ hk_.2.1), (Kd.freshB (g := gb161) (o := .cells #[.slice none 0 0] 30 (0, 0)) (bkl BK161) k_ hk_.2.1)⟩)) (below_size (bel3 HB GE159 GE160 GE161))); have n2_ := Aside0.mk (blk_below (g := gb159) (o := .cells #[.slice A0_0 l0_0.length c0_0] 30 (0, 0)) (bkl BK159) hb); have n3_ := Aside0.mk (blk_below (g := gb160) (o := .cells #[.int .i64 a1_0, .int .i64 a1_1] 47 (0, 0)) (bkl BK160) hb); have n4_ := Aside0.mk (blk_below (g := gb161) (o := .cells #[.slice none 0 0] 30 (0, 0)) (bkl BK161) hb); have n5_ := Aside0.mk (below_step (bel3 HB GE159 GE160 GE161) hb); clear HO_160000; clear BK159; clear BK160; clear BK161; clear HB; have HO_160000 := n0_; have HO167 := n1_; have BK159 := n2_; have BK160 := n3_; have BK161 := n4_; have HB := n5_; clear n0_ n1_ n2_ n3_ n4_ n5_; (try clear hb); (try clear hb2); (try clear hk); (try clear hi); (try clear ho0)) | ((with_reducible refine gate_dst (N := 8) rfl ?_); (try (refine gate_guard (by rfl) ?_; dsimp only)); refine box_event ?hg (N := 8) ?hd (cs := #[.slice none 0 0]) (t := 30) ?hr ?_; (case hd => rfl); (case hg => rfl); (case hr => first | (go_simp; done) | (go_simp; rfl)); intro gb168 hg w39 hbox hb; have n0_ := Aside0.mk (Kd.V_below (Kd.V_elderB (by (with_reducible repeat (first | apply Kd.V_alloc | apply Kd.V_drewN | apply Kd.V_drew)); exact HO_160000.out) gb168 (Nat.le_of_eq hg.symm)) hb); have n1_ := Aside0.mk (Kd.N_below (Kd.N_elderB (by (with_reducible repeat (first | apply Kd.N_alloc | apply Kd.N_drewN | apply Kd.N_drew)); exact HO167.out) gb168 (Nat.le_of_eq hg.symm)) hb); have n2_ := Aside0.mk (blk_below (g := gb159) (o := .cells #[.slice A0_0 l0_0.length c0_0] 30 (0, 0)) (bkl BK159) hb); have n3_ := Aside0.mk (blk_below (g := gb160) (o := .cells #[.int .i64 a1_0, .int .i64 a1_1] 47 (0, 0)) (bkl BK160) hb); have n4_ := Aside0.mk (blk_below (g := gb161) (o := .cells #[.slice none 0 0] 30 (0, 0)) (bkl BK161) hb); have n5_ := Aside0.mk (below_step (bel3 HB GE159 GE160 GE161) hb); have n6_ := Aside0.mk (hbox); have n7_ := Aside0.mk ((by rw [hg]; exact (below_size (bel3 HB GE159 GE160 GE161)) : w.heap.size ≤ gb168)); have n8_ := Aside0.mk ((by rw [hg]; exact (below_size (bel3 HB GE159 GE160 GE161)) : w.heap.size ≤ gb168)); have n9_ := Aside0.mk ((by rw [hg]; exact Nat.ne_of_lt (blk_lt (g := gb159) (o := .cells #[.slice A0_0 l0_0.length c0_0] 30 (0, 0)) (bkl BK159)) : gb159 ≠ gb168)); have n10_ := Aside0.mk ((by rw [hg]; exact Nat.ne_of_gt (blk_lt (g := gb159) (o := .cells #[.slice A0_0 l0_0.length c0_0] 30 (0, 0)) (bkl BK159)) : gb168 ≠ gb159)); have n11_ := Aside0.mk ((by rw [hg]; exact Nat.ne_of_lt (blk_lt (g := gb160) (o := .cells #[.int .i64 a1_0, .int .i64 a1_1] 47 (0, 0)) (bkl BK160)) : gb160 ≠ gb168)); have n12_ := Aside0.mk ((by rw [hg]; exact Nat.ne_of_gt (blk_lt (g := gb160) (o := .cells #[.int .i64 a1_0, .int .i64 a1_1] 47 (0, 0)) (bkl BK160)) : gb168 ≠ gb160)); have n13_ := Aside0.mk ((by rw [hg]; exact Nat.ne_of_lt (blk_lt (g := gb161) (o := .cells #[.slice none 0 0] 30 (0, 0)) (bkl BK161)) : gb161 ≠ gb168)); have n14_ := Aside0.mk ((by rw [hg]; exact Nat.ne_of_gt (blk_lt (g := gb161) (o := .cells #[.slice none 0 0] 30 (0, 0)) (bkl BK161)) : gb168 ≠ gb161)); clear HO_160000; clear HO167; clear BK159; clear BK160; clear BK161; clear HB; have HO_160000 := n0_; have HO167 := n1_; have BK159 := n2_; have BK160 := n3_; have BK161 := n4_; have HB := n5_; have BK168 := n6_; have GW168 := n7_; have GE168 := n8_; have NB159_168 := n9_; have NB168_159 := n10_; have NB160_168 := n11_; have NB168_160 := n12_; have NB161_168 := n13_; have NB168_161 := n14_; clear n0_ n1_ n2_ n3_ n4_ n5_ n6_ n7_ n8_ n9_ n10_ n11_ n12_ n13_ n14_; clear hb hbox hg; obtain ⟨Ao40, co40, eo40⟩ := Kd.N_slice HO167.out; subst eo40; have hnb41 := NB168_159.out; have hnc41 := NB159_168.out; have hnb42 := NB168_160.out; have hnc42 := NB160_168.out; have hnb43 := NB168_161.out; have hnc43 := NB161_168.out; have hcz44_0 : w39.cell? ⟨gb168, 0, none⟩ = some (.slice none 0 0) := (blk_cell BK168.out 0).trans rfl; have hfz44_0 := blk_frozen BK168.out 0))
         have n0_ : Aside0 (Kd.V (Kd.slice 3 (Kd.int .i64)) 25 (w39.setCell ⟨gb168, 0, none⟩ (.slice Ao40 t165.length co40)) w.heap.size (fun k_ => (P0_0_ k_ ∨ w.heap.size ≤ k_) ∧ some k_ ≠ (.slice Ao40 t165.length co40 : Value).ownBlock ∧ k_ ≠ gb159 ∧ k_ ≠ gb160 ∧ k_ ≠ gb161 ∧ k_ ≠ gb168) (.slice A0_0 l0_0.length c0_0) l0_0) := ⟨by (with_reducible repeat (first | apply Kd.V_alloc | apply Kd.V_drewN | apply Kd.V_drew)); exact Kd.V_mono (Kd.V_far (p := ⟨gb168, 0, none⟩) (Kd.V_mono HO_160000.out (fun k_ hk => (⟨hk, hk.2⟩ : _ ∧ k_ ≠ gb168))) (fun _ hk => hk.2) (.slice Ao40 t165.length co40)) (fun _ hk => ⟨hk.1.1.1.1, ⟨hk.1.1.2, ⟨hk.1.1.1.2.1, ⟨hk.1.1.1.2.2.1, ⟨hk.1.1.1.2.2.2, hk.1.2⟩⟩⟩⟩⟩)⟩
         have n1_ : Aside0 (Kd.N (Kd.slice 3 (Kd.int .i64)) 25 (w39.setCell ⟨gb168, 0, none⟩ (.slice Ao40 t165.length co40)) w.heap.size (fun k_ => (P0_0_ k_ ∨ w.heap.size ≤ k_) ∧ k_ ≠ gb159 ∧ k_ ≠ gb160 ∧ k_ ≠ gb161 ∧ k_ ≠ gb168) (.slice Ao40 t165.length co40) t165) := ⟨by (with_reducible repeat (first | apply Kd.N_alloc | apply Kd.N_drewN | apply Kd.N_drew)); exact Kd.N_mono (Kd.N_far (p := ⟨gb168, 0, none⟩) (Kd.N_mono HO167.out (fun k_ hk => (⟨hk, hk.2⟩ : _ ∧ k_ ≠ gb168))) (fun _ hk => hk.2) (.slice Ao40 t165.length co40)) (fun _ hk => ⟨hk.1.1.1, ⟨hk.1.1.2.1, ⟨hk.1.1.2.2.1, ⟨hk.1.1.2.2.2, hk.1.2⟩⟩⟩⟩)⟩
         have n2_ : Aside0 ((w39.setCell ⟨gb168, 0, none⟩ (.slice Ao40 t165.length co40)).heap[gb159]? = some (.cells #[.slice A0_0 l0_0.length c0_0] 30 (0, 0))) := ⟨by (with_reducible repeat (first | refine blk_drewN ?_ _ | refine blk_drew ?_ | refine blk_alloc ?_ _)); refine blk_far ?_ NB159_168.out _; (with_reducible repeat (first | refine blk_drewN ?_ _ | refine blk_drew ?_ | refine blk_alloc ?_ _)); exact BK159.out⟩
         have n3_ : Aside0 ((w39.setCell ⟨gb168, 0, none⟩ (.slice Ao40 t165.length co40)).heap[gb160]? = some (.cells #[.int .i64 a1_0, .int .i64 a1_1] 47 (0, 0))) := ⟨by (with_reducible repeat (first | refine blk_drewN ?_ _ | refine blk_drew ?_ | refine blk_alloc ?_ _)); refine blk_far ?_ NB160_168.out _; (with_reducible repeat (first | refine blk_drewN ?_ _ | refine blk_drew ?_ | refine blk_alloc ?_ _)); exact BK160.out⟩
         have n4_ : Aside0 ((w39.setCell ⟨gb168, 0, none⟩ (.slice Ao40 t165.length co40)).heap[gb161]? = some (.cells #[.slice none 0 0] 30 (0, 0))) := ⟨by (with_reducible repeat (first | refine blk_drewN ?_ _ | refine blk_drew ?_ | refine blk_alloc ?_ _)); refine blk_far ?_ NB161_168.out _; (with_reducible repeat (first | refine blk_drewN ?_ _ | refine blk_drew ?_ | refine blk_alloc ?_ _)); exact BK161.out⟩
         have n5_ : Aside0 ((w39.setCell ⟨gb168, 0, none⟩ (.slice Ao40 t165.length co40)).heap[gb168]? = some (.cells #[.slice Ao40 t165.length co40] 30 (0, 0))) := ⟨by (with_reducible repeat (first | refine blk_drewN ?_ _ | refine blk_drew ?_ | refine blk_alloc ?_ _)); refine blk_put (cs := #[.slice none 0 0]) ?_ 0 _ rfl; (with_reducible repeat (first | refine blk_drewN ?_ _ | refine blk_drew ?_ | refine blk_alloc ?_ _)); exact BK168.out⟩
         have n6_ : Aside0 (Below w.heap.size w (w39.setCell ⟨gb168, 0, none⟩ (.slice Ao40 t165.length co40))) := ⟨by repeat (first | (with_reducible first | exact HB.out | apply below_alloc | apply pw_below_drewN | apply below_drew1 | refine below_set ?_ GE159.out | refine below_set ?_ GE160.out | refine below_set ?_ GE161.out | refine below_set ?_ GE168.out) | exact HB.out)⟩
         (try clear HO_160000)
         (try clear HO167)
         (try clear BK159)
         (try clear BK160)
         (try clear BK161)
         (try clear BK168)
         (try clear HB)
         generalize (w39.setCell ⟨gb168, 0, none⟩ (.slice Ao40 t165.length co40)) = w45 at n0_ n1_ n2_ n3_ n4_ n5_ n6_ ⊢
         have HO_160000 := n0_
         have HO167 := n1_
         have BK159 := n2_
         have BK160 := n3_
         have BK161 := n4_
         have BK168 := n5_
         have HB := n6_
         clear n0_ n1_ n2_ n3_ n4_ n5_ n6_
         have n0_ := Aside0.mk (Kd.V_drew HO_160000.out)
         have n1_ := Aside0.mk (Kd.N_drew HO167.out)
         have n2_ := Aside0.mk (blk_drew BK159.out)
         have n3_ := Aside0.mk (blk_drew BK160.out)
         have n4_ := Aside0.mk (blk_drew BK161.out)
         have n5_ := Aside0.mk (blk_drew BK168.out)
         have n6_ := Aside0.mk (below_drew1 HB.out)
         clear HO_160000
         clear HO167
         clear BK159
         clear BK160
         clear BK161
         clear BK168
         clear HB
         have HO_160000 := n0_
         have HO167 := n1_
         have BK159 := n2_
         have BK160 := n3_
         have BK161 := n4_
         have BK168 := n5_
         have HB := n6_
         clear n0_ n1_ n2_ n3_ n4_ n5_ n6_
         have p169 : 0 ≤ (t162 : Int) := oda
         have q169 : t162 < (t165.length : Int) := oda
         obtain ⟨ad169, A169_0, c169_0, e169, hx169_0, hl169_0, hi169_0⟩ := at_L1 (Kd.N_reads' HO167.out).2.2 t162 p169 q169
         cases e169
         obtain ⟨ce169, hce169, hMe169, hcc169⟩ := Kd.N_get HO167.out [] t162 p169 (by first | exact q169 | exact oda | (have e_ := (Kd.N_reads' HO167.out).1; omega))
         obtain ⟨ua169_0, uc169_0, rfl, ul169_0, ge169_0⟩ := Kd.FK_slice_open hMe169
         have hv169_0 := hcc169 0 _ rfl
         rw [Nat.add_zero, show ((Kd.slice 3 (Kd.int .i64))).sz = 1 from rfl, Nat.mul_one] at hv169_0
         replace hv169_0 := Option.some.inj (hv169_0.symm.trans hx169_0)
         injection hv169_0 with hva_ hvn_ hvc_
         rw [hva_] at ge169_0
         rw [hvc_] at ul169_0
         have HL169_0 := Aside0.mk (show Kd.V (Kd.int .i64) 3 _ w.heap.size _ _ (rd_L1 t165 t162) from Kd.V_mk ul169_0 ge169_0)
         clear hva_ hvn_ hvc_ ge169_0 ul169_0
         clear hcc169 hce169
         have HR169_0 := Aside0.mk hi169_0
         have HC169_0 := Aside0.mk hl169_0
         clear hi169_0 hl169_0
         replace p169 := eq_true p169
         replace q169 := eq_true q169
         have q47 : (t163 : Int) ≤ (((rd_L1 t165 t162).length : Int) : Int) := oda
         obtain ⟨i047, hi047, _, hsz47, _⟩ := info_parts info3
         have hroom47 : (rd_L1 t165 t162).length ≤ c169_0 := HC169_0.out
         have hC47 : Kd.F (Kd.int .i64) _ _ A169_0 (rd_L1 t165 t162).length (rd_L1 t165 t162) := (Kd.V_at (base := w.heap.size) HL169_0.out).2.2
         have hcut47 := cut_to (P := Tryd.prog) 25 3 .i64 Tryd.underlying25 hi047 A169_0 (rd_L1 t165 t162).length c169_0 t163 (oda) q47 hroom47
         have hr47 := Kd.F_take (m := (t163 : Int).toNat) hC47 (by omega)
         have hy47 : y170.length = (t163 : Int).toNat := (by rw [Ny170.out, List.length_take]; omega)
         rw [← Ny170.out] at hr47
         rw [← hy47] at hcut47
         have HO174 := Aside0.mk (show Kd.V (Kd.int .i64) 3 _ w.heap.size _ (.slice A169_0 y170.length c169_0) y170 from Kd.V_mk (by omega) hr47)
         have HC174 := Aside0.mk (show y170.length ≤ c169_0 from by omega)
         clear hr47 hC47 hroom47 hi047 hsz47
         have KY47 := Aside0.mk hy47
         clear hy47
         replace q47 := eq_true q47
         have p32 : 0 ≤ (t162 : Int) := oda
         have q32 : (t162 : Int) < ((t165.length : Int) : Int) := oda
         obtain ⟨go32, co32, eo32, gb32, gl32, cl32, HG32⟩ := Kd.N_form HO167.out (by omega)
         (first | cases eo32 | (injection eo32 with ea_ en_ ec_; (first | subst ea_ | (injection ea_ with ea_; subst ea_)); subst ec_; clear en_))
         have GB32 := Aside0.mk gb32
         have GG32 := Aside0.mk HG32
         clear gb32 gl32 HG32
         (first | simp only [add_plain] at hx169_0 | skip)
         obtain ⟨ce32, hcl32, hM32, hcc32, hfr32⟩ := Kd.N_elem HO167.out [] (t162 : Int) p32 q32
         obtain ⟨ua32_0, uc32_0, rfl, ul32_0, ge32_0⟩ := Kd.FK_slice_open hM32
         have hx32_0 := hcc32 0 _ rfl
         have hf32_0 := hfr32 0
         (try simp only [show ((Kd.slice 3 (Kd.int .i64))).sz = 1 from rfl, Nat.mul_one, Nat.add_zero] at hx32_0)
         (try simp only [show ((Kd.slice 3 (Kd.int .i64))).sz = 1 from rfl, Nat.mul_one, Nat.add_zero] at hf32_0)
         clear hcl32 hcc32 hfr32; (try clear hM32)
         replace p32 := eq_true p32
         replace q32 := eq_true q32
         have HX48 := Aside0.mk (show Kd.N (Kd.slice 3 (Kd.int .i64)) 25 _ w.heap.size (fun k_ => (P0_0_ k_ ∨ w.heap.size ≤ k_) ∧ k_ ≠ gb159 ∧ k_ ≠ gb160 ∧ k_ ≠ gb161 ∧ k_ ≠ gb168) (.slice (some ⟨go32, 0, none⟩) t165.length co40) t165 from (Kd.N_mono (HO167.out) (fun k_ hk => ⟨hk.1, ⟨hk.2.1, ⟨hk.2.2.1, ⟨hk.2.2.2.1, hk.2.2.2.2⟩⟩⟩⟩)))
         obtain ⟨ce48, hcl48, hM48, hcc48, hfr48⟩ := Kd.N_elem HX48.out [] (t162 : Int) (oda) (by have h_ : (t162 : Int) < ((t165.length : Int) : Int) := oda; first | exact h_ | (have e_ := (Kd.N_reads' HO167.out).1; omega) | simpa using h_)
         obtain ⟨ua48_0, uc48_0, rfl, ul48_0, ge48_0⟩ := Kd.FK_slice_open hM48
         have HP48 := (Kd.N_seg HX48.out (t162 : Int) (oda) (by have h_ : (t162 : Int) < ((t165.length : Int) : Int) := oda; first | exact h_ | (have e_ := (Kd.N_reads' HO167.out).1; omega) | simpa using h_) (seg := [.slice A169_0 y170.length c169_0]) (j := 0) hcl48 hcc48 (show 1 ≤ 1 from by decide) (x' := y170) (Kd.FK_slice_mk (Kd.V_reads' (Kd.V_mono (ok' := (fun k_ => ((fun k_ => (P0_0_ k_ ∨ w.heap.size ≤ k_) ∧ k_ ≠ gb159 ∧ k_ ≠ gb160 ∧ k_ ≠ gb161 ∧ k_ ≠ gb168)) k_ ∧ k_ ≠ go32)) (HO174.out) (fun k_ hk => ⟨⟨hk.1.1, ⟨hk.1.2.1, ⟨hk.1.2.2.1, ⟨hk.1.2.2.2.1, hk.1.2.2.2.2⟩⟩⟩⟩, fun e_ => (hk.2) (by rw [e_]; rfl)⟩))).2.1 (Kd.V_F (Kd.V_mono (ok' := (fun k_ => ((fun k_ => (P0_0_ k_ ∨ w.heap.size ≤ k_) ∧ k_ ≠ gb159 ∧ k_ ≠ gb160 ∧ k_ ≠ gb161 ∧ k_ ≠ gb168)) k_ ∧ k_ ≠ go32)) (HO174.out) (fun k_ hk => ⟨⟨hk.1.1, ⟨hk.1.2.1, ⟨hk.1.2.2.1, ⟨hk.1.2.2.2.1, hk.1.2.2.2.2⟩⟩⟩⟩, fun e_ => (hk.2) (by rw [e_]; rfl)⟩)))) (fun _ hk => hk)).1
         (try simp only [show ((Kd.slice 3 (Kd.int .i64))).sz = 1 from rfl, Nat.mul_one, Nat.add_zero] at HP48)
         rw [← Ny175.out] at HP48
         have HQ48 := Aside0.mk HP48
         clear hcl48 hcc48 hfr48 HP48; (try clear hM48)
         refine start_ (n := 12) (S := fun w' => w'.cell? ⟨gb168, 0, none⟩ = some (.slice (some ⟨go32, 0, none⟩) t165.length co40) ∧ w'.cell? ⟨go32, (t162).toNat, none⟩ = some (.slice A169_0 (rd_L1 t165 t162).length c169_0)) (ds := [11]) #[false, false, false, false, false, false, false, false, false, false, false, false] (by kernel_rfl) rfl rfl ⟨(blk_cell BK168.out 0).trans rfl, hx169_0⟩ (fun hHeld => ?_); refine with_tabW spec_l6Step.tab6 spec_l6Step.bits6 (fun HT_ HW_ => ?_)
         generalize w45.drew = w46 at HO_160000 HO167 BK159 BK160 BK161 BK168 HB GG32 HL169_0 HO174 HQ48 HR169_0 hf32_0 hx169_0 hx32_0 hHeld ⊢
         refine pure_ (i := 0) (N := some 35) (v := ?_) (a' := ?_) #[true, false, false, false, false, false, false, false, false, false, false, false] rfl rfl (any_of HT_.out (by kernel_rfl)) (fun _ _ _ h => h) (Or.inl ⟨by rfl, ?_⟩) ?_ ?_
         rotate_left
         ·intro w'
          go_simp
          with_reducible rfl
         rotate_left
         ·simp only [Act.put, List.setIfInBounds_toArray, List.set_cons_zero, List.set_cons_succ, i64_w, i32_w]
          rfl
         refine pure_ (i := 2) (N := some 37) (v := ?_) (a' := ?_) #[true, false, true, false, false, false, false, false, false, false, false, false] rfl rfl (any_of HT_.out (by kernel_rfl)) (fun _ _ _ h => h) (Or.inl ⟨by rfl, ?_⟩) ?_ ?_
         rotate_left
         ·intro w'
          go_simp
          with_reducible rfl
         rotate_left
         ·simp only [Act.put, List.setIfInBounds_toArray, List.set_cons_zero, List.set_cons_succ, i64_w, i32_w]
          rfl
         refine pure_ (i := 3) (N := some 38) (v := ?_) (a' := ?_) #[true, false, true, true, false, false, false, false, false, false, false, false] rfl rfl (any_of HT_.out (by kernel_rfl)) (fun _ _ _ h => h) (Or.inl ⟨by rfl, ?_⟩) ?_ ?_
         rotate_left
         ·intro w'
          go_simp
          with_reducible rfl
         rotate_left
         ·simp only [Act.put, List.setIfInBounds_toArray, List.set_cons_zero, List.set_cons_succ, i64_w, i32_w]
          rfl
         refine pure_ (i := 5) (N := some 40) (v := ?_) (a' := ?_) #[true, false, true, true, false, true, false, false, false, false, false, false] rfl rfl (any_of HT_.out (by kernel_rfl)) (fun _ _ _ h => h) (Or.inl ⟨by rfl, ?_⟩) ?_ ?_
         rotate_left
         ·intro w'
          go_simp
          with_reducible rfl
         rotate_left
         ·simp only [Act.put, List.setIfInBounds_toArray, List.set_cons_zero, List.set_cons_succ, i64_w, i32_w]
          rfl
         refine pure_ (i := 8) (N := some 43) (v := ?_) (a' := ?_) #[true, false, true, true, false, true, false, false, true, false, false, false] rfl rfl (any_of HT_.out (by kernel_rfl)) (fun _ _ _ h => h) (Or.inl ⟨by rfl, ?_⟩) ?_ ?_
         rotate_left
         ·intro w'
          go_simp
          with_reducible rfl
         rotate_left
         ·simp only [Act.put, List.setIfInBounds_toArray, List.set_cons_zero, List.set_cons_succ, i64_w, i32_w]
          rfl
         refine take_ (i := 1) (N := some 36) (v := ?_) (a' := ?_) #[true, true, true, true, false, true, false, false, true, false, false, false] rfl rfl (take_ofW HT_.out HW_.out (by kernel_rfl)) (fun _ _ _ h => h) (Or.inl ⟨by rfl, ?_⟩) hHeld ?_ ?_
         rotate_left
         ·rintro w' ⟨s0, s1⟩
          go_simp
          with_reducible rfl
         rotate_left
         ·simp only [Act.put, List.setIfInBounds_toArray, List.set_cons_zero, List.set_cons_succ, i64_w, i32_w]
          rfl
         refine take_ (i := 4) (N := some 39) (v := ?_) (a' := ?_) #[true, true, true, true, true, true, false, false, true, false, false, false] rfl rfl (take_ofW HT_.out HW_.out (by kernel_rfl)) (fun _ _ _ h => h) (Or.inl ⟨by rfl, ?_⟩) hHeld ?_ ?_
         rotate_left
         ·rintro w' ⟨s0, s1⟩
          go_simp
          with_reducible rfl
         rotate_left
         ·simp only [Act.put, List.setIfInBounds_toArray, List.set_cons_zero, List.set_cons_succ, i64_w, i32_w]
          rfl
         refine pure_ (i := 6) (N := some 41) (v := ?_) (a' := ?_) #[true, true, true, true, true, true, true, false, true, false, false, false] rfl rfl (any_of HT_.out (by kernel_rfl)) (fun _ _ _ h => h) (Or.inl ⟨by rfl, ?_⟩) ?_ ?_
         rotate_left
         ·intro w'
          go_simp
          with_reducible rfl
         rotate_left
         ·simp only [Act.put, List.setIfInBounds_toArray, List.set_cons_zero, List.set_cons_succ, i64_w, i32_w]
          rfl
         refine take_ (i := 7) (N := some 42) (v := ?_) (a' := ?_) #[true, true, true, true, true, true, true, true, true, false, false, false] rfl rfl (take_ofW HT_.out HW_.out (by kernel_rfl)) (fun _ _ _ h => h) (Or.inl ⟨by rfl, ?_⟩) hHeld ?_ ?_
         rotate_left
         ·rintro w' ⟨s0, s1⟩
          go_simp
          with_reducible rfl
         rotate_left
         ·simp only [Act.put, List.setIfInBounds_toArray, List.set_cons_zero, List.set_cons_succ, i64_w, i32_w]
          rfl
         refine pure_ (i := 9) (N := some 44) (v := ?_) (a' := ?_) #[true, true, true, true, true, true, true, true, true, true, false, false] rfl rfl (any_of HT_.out (by kernel_rfl)) (fun _ _ _ h => h) (Or.inl ⟨by rfl, ?_⟩) ?_ ?_
         rotate_left
         ·intro w'
          go_simp
          with_reducible rfl
         rotate_left
         ·simp only [Act.put, List.setIfInBounds_toArray, List.set_cons_zero, List.set_cons_succ, i64_w, i32_w]
          rfl
         refine pure_ (i := 10) (N := some 45) (v := ?_) (a' := ?_) #[true, true, true, true, true, true, true, true, true, true, true, false] rfl rfl (any_of HT_.out (by kernel_rfl)) (fun _ _ _ h => h) (Or.inl ⟨by rfl, ?_⟩) ?_ ?_
         rotate_left
         ·intro w'
          go_simp
          with_reducible rfl
         rotate_left
         ·simp only [Act.put, List.setIfInBounds_toArray, List.set_cons_zero, List.set_cons_succ, i64_w, i32_w]
          rfl
         refine last_ (i := 11) (N := none) #[true, true, true, true, true, true, true, true, true, true, true, true] rfl rfl (one_of HT_.out (by kernel_rfl)) (by decide) (fun K hK => ?_)
         refine skip_ (w1 := ?_) (by rfl) rfl ?_ ?_
         rotate_left
         ·go_simp
          rfl
         refine hK.out _ _ ?_
         clear hK K
         refine done_ (done_of HT_.out (by kernel_rfl)) ?_
         have n0_ : Aside0 (Kd.V (Kd.slice 3 (Kd.int .i64)) 25 (w46.setCell ⟨go32, (t162 : Int).toNat, none⟩ (.slice A169_0 y170.length c169_0)) w.heap.size (fun k_ => (P0_0_ k_ ∨ w.heap.size ≤ k_) ∧ some k_ ≠ (.slice (some ⟨go32, 0, none⟩) t165.length co40 : Value).ownBlock ∧ k_ ≠ gb159 ∧ k_ ≠ gb160 ∧ k_ ≠ gb161 ∧ k_ ≠ gb168) (.slice A0_0 l0_0.length c0_0) l0_0) := ⟨by (with_reducible repeat (first | apply Kd.V_alloc | apply Kd.V_drewN | apply Kd.V_drew)); exact Kd.V_mono (Kd.V_far (p := ⟨go32, (t162 : Int).toNat, none⟩) (Kd.V_mono HO_160000.out (fun k_ hk => (⟨hk, fun e_ => hk.2.1 (by rw [e_]; rfl)⟩ : _ ∧ k_ ≠ go32))) (fun _ hk => hk.2) (.slice A169_0 y170.length c169_0)) (fun _ hk => ⟨hk.1.1, ⟨hk.1.2.1, ⟨hk.1.2.2.1, ⟨hk.1.2.2.2.1, ⟨hk.1.2.2.2.2.1, hk.1.2.2.2.2.2⟩⟩⟩⟩⟩)⟩
         have n1_ : Aside0 (Kd.N (Kd.slice 3 (Kd.int .i64)) 25 (w46.setCell ⟨go32, (t162 : Int).toNat, none⟩ (.slice A169_0 y170.length c169_0)) w.heap.size (fun k_ => (P0_0_ k_ ∨ w.heap.size ≤ k_) ∧ k_ ≠ gb159 ∧ k_ ≠ gb160 ∧ k_ ≠ gb161 ∧ k_ ≠ gb168) (.slice (some ⟨go32, 0, none⟩) t165.length co40) y175) := ⟨by (with_reducible repeat (first | apply Kd.N_alloc | apply Kd.N_drewN | apply Kd.N_drew)); exact HQ48.out⟩
         have n2_ : Aside0 (Kd.V (Kd.int .i64) 3 (w46.setCell ⟨go32, (t162 : Int).toNat, none⟩ (.slice A169_0 y170.length c169_0)) w.heap.size (fun k_ => (P0_0_ k_ ∨ w.heap.size ≤ k_) ∧ some k_ ≠ (.slice (some ⟨go32, 0, none⟩) t165.length co40 : Value).ownBlock ∧ k_ ≠ gb159 ∧ k_ ≠ gb160 ∧ k_ ≠ gb161 ∧ k_ ≠ gb168) (.slice A169_0 (rd_L1 t165 t162).length c169_0) (rd_L1 t165 t162)) := ⟨by (with_reducible repeat (first | apply Kd.V_alloc | apply Kd.V_drewN | apply Kd.V_drew)); exact Kd.V_mono (Kd.V_far (p := ⟨go32, (t162 : Int).toNat, none⟩) (Kd.V_mono HL169_0.out (fun k_ hk => (⟨hk, fun e_ => hk.2 (by rw [e_]; rfl)⟩ : _ ∧ k_ ≠ go32))) (fun _ hk => hk.2) (.slice A169_0 y170.length c169_0)) (fun _ hk => ⟨hk.1.1.1, ⟨hk.1.2, ⟨hk.1.1.2.1, ⟨hk.1.1.2.2.1, ⟨hk.1.1.2.2.2.1, hk.1.1.2.2.2.2⟩⟩⟩⟩⟩)⟩
         have n3_ : Aside0 (Kd.V (Kd.int .i64) 3 (w46.setCell ⟨go32, (t162 : Int).toNat, none⟩ (.slice A169_0 y170.length c169_0)) w.heap.size (fun k_ => (P0_0_ k_ ∨ w.heap.size ≤ k_) ∧ some k_ ≠ (.slice (some ⟨go32, 0, none⟩) t165.length co40 : Value).ownBlock ∧ k_ ≠ gb159 ∧ k_ ≠ gb160 ∧ k_ ≠ gb161 ∧ k_ ≠ gb168) (.slice A169_0 y170.length c169_0) y170) := ⟨by (with_reducible repeat (first | apply Kd.V_alloc | apply Kd.V_drewN | apply Kd.V_drew)); exact Kd.V_mono (Kd.V_far (p := ⟨go32, (t162 : Int).toNat, none⟩) (Kd.V_mono HO174.out (fun k_ hk => (⟨hk, fun e_ => hk.2 (by rw [e_]; rfl)⟩ : _ ∧ k_ ≠ go32))) (fun _ hk => hk.2) (.slice A169_0 y170.length c169_0)) (fun _ hk => ⟨hk.1.1.1, ⟨hk.1.2, ⟨hk.1.1.2.1, ⟨hk.1.1.2.2.1, ⟨hk.1.1.2.2.2.1, hk.1.1.2.2.2.2⟩⟩⟩⟩⟩)⟩
         have n4_ : Aside0 ((w46.setCell ⟨go32, (t162 : Int).toNat, none⟩ (.slice A169_0 y170.length c169_0)).heap[gb159]? = some (.cells #[.slice A0_0 l0_0.length c0_0] 30 (0, 0))) := ⟨by (with_reducible repeat (first | refine blk_drewN ?_ _ | refine blk_drew ?_ | refine blk_alloc ?_ _)); refine blk_far ?_ (by have h_ := Kd.N_away HO167.out (fun _ hk => hk.2.1); intro e_; exact h_ (by rw [e_]; rfl)) _; (with_reducible repeat (first | refine blk_drewN ?_ _ | refine blk_drew ?_ | refine blk_alloc ?_ _)); exact BK159.out⟩
         have n5_ : Aside0 ((w46.setCell ⟨go32, (t162 : Int).toNat, none⟩ (.slice A169_0 y170.length c169_0)).heap[gb160]? = some (.cells #[.int .i64 a1_0, .int .i64 a1_1] 47 (0, 0))) := ⟨by (with_reducible repeat (first | refine blk_drewN ?_ _ | refine blk_drew ?_ | refine blk_alloc ?_ _)); refine blk_far ?_ (by have h_ := Kd.N_away HO167.out (fun _ hk => hk.2.2.1); intro e_; exact h_ (by rw [e_]; rfl)) _; (with_reducible repeat (first | refine blk_drewN ?_ _ | refine blk_drew ?_ | refine blk_alloc ?_ _)); exact BK160.out⟩
         have n6_ : Aside0 ((w46.setCell ⟨go32, (t162 : Int).toNat, none⟩ (.slice A169_0 y170.length c169_0)).heap[gb161]? = some (.cells #[.slice none 0 0] 30 (0, 0))) := ⟨by (with_reducible repeat (first | refine blk_drewN ?_ _ | refine blk_drew ?_ | refine blk_alloc ?_ _)); refine blk_far ?_ (by have h_ := Kd.N_away HO167.out (fun _ hk => hk.2.2.2.1); intro e_; exact h_ (by rw [e_]; rfl)) _; (with_reducible repeat (first | refine blk_drewN ?_ _ | refine blk_drew ?_ | refine blk_alloc ?_ _)); exact BK161.out⟩
         have n7_ : Aside0 ((w46.setCell ⟨go32, (t162 : Int).toNat, none⟩ (.slice A169_0 y170.length c169_0)).heap[gb168]? = some (.cells #[.slice (some ⟨go32, 0, none⟩) t165.length co40] 30 (0, 0))) := ⟨by (with_reducible repeat (first | refine blk_drewN ?_ _ | refine blk_drew ?_ | refine blk_alloc ?_ _)); refine blk_far ?_ (by have h_ := Kd.N_away HO167.out (fun _ hk => hk.2.2.2.2); intro e_; exact h_ (by rw [e_]; rfl)) _; (with_reducible repeat (first | refine blk_drewN ?_ _ | refine blk_drew ?_ | refine blk_alloc ?_ _)); exact BK168.out⟩
         have n8_ : Aside0 (Below w.heap.size w (w46.setCell ⟨go32, (t162 : Int).toNat, none⟩ (.slice A169_0 y170.length c169_0))) := ⟨by repeat (first | (with_reducible first | exact HB.out | apply below_alloc | apply pw_below_drewN | apply below_drew1 | refine below_set ?_ GB32.out | refine below_set ?_ GE159.out | refine below_set ?_ GE160.out | refine below_set ?_ GE161.out | refine below_set ?_ GE168.out) | exact HB.out)⟩
         (try clear HO_160000)
         (try clear HO167)
         (try clear HL169_0)
         (try clear HO174)
         (try clear BK159)
         (try clear BK160)
         (try clear BK161)
         (try clear BK168)
         (try clear HB)
         generalize (w46.setCell ⟨go32, (t162 : Int).toNat, none⟩ (.slice A169_0 y170.length c169_0)) = w49 at n0_ n1_ n2_ n3_ n4_ n5_ n6_ n7_ n8_ ⊢
         have HO_160000 := n0_
         have HO167 := n1_
         have HL169_0 := n2_
         have HO174 := n3_
         have BK159 := n4_
         have BK160 := n5_
         have BK161 := n6_
         have BK168 := n7_
         have HB := n8_
         clear n0_ n1_ n2_ n3_ n4_ n5_ n6_ n7_ n8_
         have hcz50_0 : w49.cell? ⟨gb168, 0, none⟩ = some (.slice (some ⟨go32, 0, none⟩) t165.length co40) := (blk_cell BK168.out 0).trans rfl
         have hfz50_0 := blk_frozen BK168.out 0
         have hcz51_0 : w49.cell? ⟨gb161, 0, none⟩ = some (.slice none 0 0) := (blk_cell BK161.out 0).trans rfl
         have hfz51_0 := blk_frozen BK161.out 0
         try go_wp2
         refine bodyPost_ret (results_ct rfl _ _ gb161 30 #[.slice (some ⟨go32, 0, none⟩) t165.length co40] (0, 0) _ rfl (by (with_reducible repeat (first | refine blk_drewN ?_ _ | refine blk_drew ?_ | refine blk_alloc ?_ _)); refine blk_put (cs := #[.slice none 0 0]) ?_ 0 _ rfl; (with_reducible repeat (first | refine blk_drewN ?_ _ | refine blk_drew ?_ | refine blk_alloc ?_ _)); exact BK161.out) Tryd.underlying30 rfl (by kernel_rfl)) rfl ?_
         exact ⟨_, by first | rfl | (simp [errW_none, errW_some] <;> rfl) | (simp [*, errW_none, errW_some] <;> rfl), Kd.N_V (by (with_reducible repeat (first | apply Kd.N_alloc | apply Kd.N_drewN | apply Kd.N_drew)); exact Kd.N_mono (Kd.N_far (p := ⟨gb161, 0, none⟩) (Kd.N_mono HO167.out (fun k_ hk => (⟨hk, hk.2.2.2.1⟩ : _ ∧ k_ ≠ gb161))) (fun _ hk => hk.2) (.slice (some ⟨go32, 0, none⟩) t165.length co40)) (fun _ hk => hk.1.1)), by repeat (first | (with_reducible first | exact HB.out | apply below_alloc | apply pw_below_drewN | apply below_drew1 | refine below_set ?_ GE159.out | refine below_set ?_ GE160.out | refine below_set ?_ GE161.out | refine below_set ?_ GE168.out) | exact HB.out)⟩
        ·rw [if_neg c31] at H
         exact absurd H (by simp)
       ·rw [if_neg c30] at H
        exact absurd H (by simp)
      ·rw [if_neg c29] at H
       exact absurd H (by simp)
     ·rw [if_neg c28] at H
      exact absurd H (by simp)
    ·rw [if_neg c26] at H
     have c26b0 : (a1_1 == (-1)) = false := beq_eq_false_iff_ne.mpr c26
     have c26b1 : (a1_1 != (-1)) = true := bne_iff_ne.mpr c26
     replace H := Option.bind_eq_some_iff.mp H
     obtain ⟨t176, A520, H⟩ := H
     replace H : (if t176 = true then (if a1_1 = t162 then (some (l0_0, false)) else (if 0 ≤ a1_1 then (if a1_1 < (l0_0.length : Int) then (if ((rd_L1 l0_0 a1_1).length : Int) = 4 then (some (l0_0, false)) else ((spec_l5Move.f kj3 l0_0 t162 a1_1).bind fun t178 => (some (t178, true)))) else (none)) else (none))) else (some (l0_0, false))) = some (r1, r2) := H
     have A52 := Aside0.mk A520
     clear A520
     by_cases c53 : t176 = true
     ·subst c53
      have H1 : (if a1_1 = t162 then (some (l0_0, false)) else (if 0 ≤ a1_1 then (if a1_1 < (l0_0.length : Int) then (if ((rd_L1 l0_0 a1_1).length : Int) = 4 then (some (l0_0, false)) else ((spec_l5Move.f kj3 l0_0 t162 a1_1).bind fun t178 => (some (t178, true)))) else (none)) else (none))) = some (r1, r2) := by rw [if_pos rfl] at H; exact H
      clear H
      have H := H1
      clear H1
      by_cases c54 : a1_1 = t162
      ·rw [if_pos c54] at H
       have c54b0 : (a1_1 == t162) = true := beq_iff_eq.mpr c54
       have c54b1 : (a1_1 != t162) = false := bne_eq_false_iff_eq.mpr c54
       clear c54
       simp only [Option.some.injEq, Prod.mk.injEq] at H
       obtain ⟨rfl, rfl⟩ := H
       have hnb55 := NB160_159.out
       have hnc55 := NB159_160.out
       have hnb56 := NB160_161.out
       have hnc56 := NB161_160.out
       have hcz57_0 : wc.cell? ⟨gb160, 0, none⟩ = some (.int .i64 a1_0) := (blk_cell BK160.out 0).trans rfl
       have hcz57_1 : wc.cell? ⟨gb160, 1, none⟩ = some (.int .i64 a1_1) := (blk_cell BK160.out 1).trans rfl
       have hfz57_0 := blk_frozen BK160.out 0
       have hfz57_1 := blk_frozen BK160.out 1
       have hnb58 := NB159_161.out
       have hnc58 := NB161_159.out
       have hcz59_0 : wc.cell? ⟨gb159, 0, none⟩ = some (.slice A0_0 l0_0.length c0_0) := (blk_cell BK159.out 0).trans rfl
       have hfz59_0 := blk_frozen BK159.out 0
       go_wp2_with (first | ((with_reducible refine gate_callee (f := 41) rfl ?_); refine goesL_ (some 53) rfl rfl Tryd.func41 (by kernel_rfl) rfl #[.int .i64 a1_1, .int .i64 0, .int .i64 (wrap64 ((l0_0.length : Int) - 1))] rfl gmp ?_; (with_reducible refine (spec_l1In.calls a1_1 0 (wrap64 ((l0_0.length : Int) - 1)) true _ A52.out).mono ?_); rintro e w' ⟨rfl, ⟨nd, rfl⟩⟩; refine ⟨_, rfl, ?_⟩; (try (rw [drewN_self wc]; generalize hq_ : World.drewN wc _ = wc; have n0_ : Aside0 (Kd.V (Kd.slice 3 (Kd.int .i64)) 25 wc w.heap.size (fun k_ => (((P0_0_ k_ ∨ w.heap.size ≤ k_)) ∧ (k_ ≠ gb159 ∧ (k_ ≠ gb160 ∧ k_ ≠ gb161)))) (.slice A0_0 l0_0.length c0_0) l0_0) := ⟨by rw [← hq_]; exact (by (with_reducible repeat (first | apply Kd.V_alloc | apply Kd.V_drewN | apply Kd.V_drew)); exact HO_160000.out)⟩; have n1_ : Aside0 (wc.heap[gb159]? = some (.cells #[.slice A0_0 l0_0.length c0_0] 30 (0, 0))) := ⟨by rw [← hq_]; exact (bkl BK159)⟩; have n2_ : Aside0 (wc.heap[gb160]? = some (.cells #[.int .i64 a1_0, .int .i64 a1_1] 47 (0, 0))) := ⟨by rw [← hq_]; exact (bkl BK160)⟩; have n3_ : Aside0 (wc.heap[gb161]? = some (.cells #[.slice none 0 0] 30 (0, 0))) := ⟨by rw [← hq_]; exact (bkl BK161)⟩; have n4_ : Aside0 (Below w.heap.size w wc) := ⟨by rw [← hq_]; exact (bel3 HB GE159 GE160 GE161)⟩; clear HO_160000 BK159 BK160 BK161 HB hq_; have HO_160000 := n0_; have BK159 := n1_; have BK160 := n2_; have BK161 := n3_; have HB := n4_; clear n0_ n1_ n2_ n3_ n4_)); have hq0_ : wc.cell? ⟨gb159, 0, none⟩ = some (.slice A0_0 l0_0.length c0_0) := (blk_cell BK159.out 0).trans rfl; have hq1_ : wc.cell? ⟨gb160, 1, none⟩ = some (.int .i64 a1_1) := (blk_cell BK160.out 1).trans rfl; have hcz60_0 : wc.cell? ⟨gb161, 0, none⟩ = some (.slice none 0 0) := (blk_cell BK161.out 0).trans rfl; have hfz60_0 := blk_frozen BK161.out 0))
       refine bodyPost_ret (results_ct rfl _ _ gb161 30 #[.slice A0_0 l0_0.length c0_0] (0, 0) _ rfl (by (with_reducible repeat (first | refine blk_drewN ?_ _ | refine blk_drew ?_ | refine blk_alloc ?_ _)); refine blk_put (cs := #[.slice none 0 0]) ?_ 0 _ rfl; (with_reducible repeat (first | refine blk_drewN ?_ _ | refine blk_drew ?_ | refine blk_alloc ?_ _)); exact BK161.out) Tryd.underlying30 rfl (by kernel_rfl)) rfl ?_
       exact ⟨_, by first | rfl | (simp [errW_none, errW_some] <;> rfl) | (simp [*, errW_none, errW_some] <;> rfl), by (with_reducible repeat (first | apply Kd.V_alloc | apply Kd.V_drewN | apply Kd.V_drew)); exact Kd.V_mono (Kd.V_far (p := ⟨gb161, 0, none⟩) (Kd.V_mono HO_160000.out (fun k_ hk => (⟨hk, hk.2.2.2⟩ : _ ∧ k_ ≠ gb161))) (fun _ hk => hk.2) (.slice A0_0 l0_0.length c0_0)) (fun _ hk => hk.1.1), bel3 HB GE159 GE160 GE161⟩
      ·rw [if_neg c54] at H
       have c54b0 : (a1_1 == t162) = false := beq_eq_false_iff_ne.mpr c54
       have c54b1 : (a1_1 != t162) = true := bne_iff_ne.mpr c54
       by_cases c61 : 0 ≤ a1_1
       ·rw [if_pos c61] at H
        have c61b0 : decide (0 ≤ a1_1) = true := decide_eq_true c61
        clear c61
        by_cases c62 : a1_1 < (l0_0.length : Int)
        ·rw [if_pos c62] at H
         have c62b0 : decide (a1_1 < (l0_0.length : Int)) = true := decide_eq_true c62
         clear c62
         by_cases c63 : ((rd_L1 l0_0 a1_1).length : Int) = 4
         ·rw [if_pos c63] at H
          have c63b0 : (((rd_L1 l0_0 a1_1).length : Int) == 4) = true := beq_iff_eq.mpr c63
          have c63b1 : (((rd_L1 l0_0 a1_1).length : Int) != 4) = false := bne_eq_false_iff_eq.mpr c63
          clear c63
          simp only [Option.some.injEq, Prod.mk.injEq] at H
          obtain ⟨rfl, rfl⟩ := H
          have hnb64 := NB160_159.out
          have hnc64 := NB159_160.out
          have hnb65 := NB160_161.out
          have hnc65 := NB161_160.out
          have hcz66_0 : wc.cell? ⟨gb160, 0, none⟩ = some (.int .i64 a1_0) := (blk_cell BK160.out 0).trans rfl
          have hcz66_1 : wc.cell? ⟨gb160, 1, none⟩ = some (.int .i64 a1_1) := (blk_cell BK160.out 1).trans rfl
          have hfz66_0 := blk_frozen BK160.out 0
          have hfz66_1 := blk_frozen BK160.out 1
          have hnb67 := NB159_161.out
          have hnc67 := NB161_159.out
          have hcz68_0 : wc.cell? ⟨gb159, 0, none⟩ = some (.slice A0_0 l0_0.length c0_0) := (blk_cell BK159.out 0).trans rfl
          have hfz68_0 := blk_frozen BK159.out 0
          go_wp2_with (first | ((with_reducible refine gate_callee (f := 41) rfl ?_); refine goesL_ (some 53) rfl rfl Tryd.func41 (by kernel_rfl) rfl #[.int .i64 a1_1, .int .i64 0, .int .i64 (wrap64 ((l0_0.length : Int) - 1))] rfl gmp ?_; (with_reducible refine (spec_l1In.calls a1_1 0 (wrap64 ((l0_0.length : Int) - 1)) true _ A52.out).mono ?_); rintro e w' ⟨rfl, ⟨nd, rfl⟩⟩; refine ⟨_, rfl, ?_⟩; (try (rw [drewN_self wc]; generalize hq_ : World.drewN wc _ = wc; have n0_ : Aside0 (Kd.V (Kd.slice 3 (Kd.int .i64)) 25 wc w.heap.size (fun k_ => (((P0_0_ k_ ∨ w.heap.size ≤ k_)) ∧ (k_ ≠ gb159 ∧ (k_ ≠ gb160 ∧ k_ ≠ gb161)))) (.slice A0_0 l0_0.length c0_0) l0_0) := ⟨by rw [← hq_]; exact (by (with_reducible repeat (first | apply Kd.V_alloc | apply Kd.V_drewN | apply Kd.V_drew)); exact HO_160000.out)⟩; have n1_ : Aside0 (wc.heap[gb159]? = some (.cells #[.slice A0_0 l0_0.length c0_0] 30 (0, 0))) := ⟨by rw [← hq_]; exact (bkl BK159)⟩; have n2_ : Aside0 (wc.heap[gb160]? = some (.cells #[.int .i64 a1_0, .int .i64 a1_1] 47 (0, 0))) := ⟨by rw [← hq_]; exact (bkl BK160)⟩; have n3_ : Aside0 (wc.heap[gb161]? = some (.cells #[.slice none 0 0] 30 (0, 0))) := ⟨by rw [← hq_]; exact (bkl BK161)⟩; have n4_ : Aside0 (Below w.heap.size w wc) := ⟨by rw [← hq_]; exact (bel3 HB GE159 GE160 GE161)⟩; clear HO_160000 BK159 BK160 BK161 HB hq_; have HO_160000 := n0_; have BK159 := n1_; have BK160 := n2_; have BK161 := n3_; have HB := n4_; clear n0_ n1_ n2_ n3_ n4_)); have hq0_ : wc.cell? ⟨gb159, 0, none⟩ = some (.slice A0_0 l0_0.length c0_0) := (blk_cell BK159.out 0).trans rfl; have hq1_ : wc.cell? ⟨gb160, 1, none⟩ = some (.int .i64 a1_1) := (blk_cell BK160.out 1).trans rfl; have p177 : 0 ≤ (a1_1 : Int) := oda; have q177 : a1_1 < (l0_0.length : Int) := oda; obtain ⟨ad177, A177_0, c177_0, e177, hx177_0, hl177_0, hi177_0⟩ := at_L1 (Kd.V_reads' HO_160000.out).2.2 a1_1 p177 q177; cases e177; obtain ⟨ce177, hce177, hMe177, hcc177⟩ := Kd.V_get HO_160000.out [] a1_1 p177 (by first | exact q177 | exact oda | (have e_ := (Kd.V_reads' HO_160000.out).1; omega)); obtain ⟨ua177_0, uc177_0, rfl, ul177_0, ge177_0⟩ := Kd.FK_slice_open hMe177; have hv177_0 := hcc177 0 _ rfl; rw [Nat.add_zero, show ((Kd.slice 3 (Kd.int .i64))).sz = 1 from rfl, Nat.mul_one] at hv177_0; replace hv177_0 := Option.some.inj (hv177_0.symm.trans hx177_0); injection hv177_0 with hva_ hvn_ hvc_; rw [hva_] at ge177_0; rw [hvc_] at ul177_0; have HL177_0 := Aside0.mk (show Kd.V (Kd.int .i64) 3 _ w.heap.size _ _ (rd_L1 l0_0 a1_1) from Kd.V_mk ul177_0 ge177_0); clear hva_ hvn_ hvc_ ge177_0 ul177_0; clear hcc177 hce177; have HR177_0 := Aside0.mk hi177_0; have HC177_0 := Aside0.mk hl177_0; clear hi177_0 hl177_0; replace p177 := eq_true p177; replace q177 := eq_true q177; have hcz69_0 : wc.cell? ⟨gb161, 0, none⟩ = some (.slice none 0 0) := (blk_cell BK161.out 0).trans rfl; have hfz69_0 := blk_frozen BK161.out 0))
          refine bodyPost_ret (results_ct rfl _ _ gb161 30 #[.slice (some ad177) l0_0.length c0_0] (0, 0) _ rfl (by (with_reducible repeat (first | refine blk_drewN ?_ _ | refine blk_drew ?_ | refine blk_alloc ?_ _)); refine blk_put (cs := #[.slice none 0 0]) ?_ 0 _ rfl; (with_reducible repeat (first | refine blk_drewN ?_ _ | refine blk_drew ?_ | refine blk_alloc ?_ _)); exact BK161.out) Tryd.underlying30 rfl (by kernel_rfl)) rfl ?_
          exact ⟨_, by first | rfl | (simp [errW_none, errW_some] <;> rfl) | (simp [*, errW_none, errW_some] <;> rfl), by (with_reducible repeat (first | apply Kd.V_alloc | apply Kd.V_drewN | apply Kd.V_drew)); exact Kd.V_mono (Kd.V_far (p := ⟨gb161, 0, none⟩) (Kd.V_mono HO_160000.out (fun k_ hk => (⟨hk, hk.2.2.2⟩ : _ ∧ k_ ≠ gb161))) (fun _ hk => hk.2) (.slice (some ad177) l0_0.length c0_0)) (fun _ hk => hk.1.1), bel3 HB GE159 GE160 GE161⟩
         ·rw [if_neg c63] at H
          have c63b0 : (((rd_L1 l0_0 a1_1).length : Int) == 4) = false := beq_eq_false_iff_ne.mpr c63
          have c63b1 : (((rd_L1 l0_0 a1_1).length : Int) != 4) = true := bne_iff_ne.mpr c63
          replace H := Option.bind_eq_some_iff.mp H
          obtain ⟨t178, A700, H⟩ := H
          replace H : (some (t178, true)) = some (r1, r2) := H
          have A70 := Aside0.mk A700
          clear A700
          simp only [Option.some.injEq, Prod.mk.injEq] at H
          obtain ⟨rfl, rfl⟩ := H
          have hnb71 := NB160_159.out
          have hnc71 := NB159_160.out
          have hnb72 := NB160_161.out
          have hnc72 := NB161_160.out
          have hcz73_0 : wc.cell? ⟨gb160, 0, none⟩ = some (.int .i64 a1_0) := (blk_cell BK160.out 0).trans rfl
          have hcz73_1 : wc.cell? ⟨gb160, 1, none⟩ = some (.int .i64 a1_1) := (blk_cell BK160.out 1).trans rfl
          have hfz73_0 := blk_frozen BK160.out 0
          have hfz73_1 := blk_frozen BK160.out 1
          have hnb74 := NB159_161.out
          have hnc74 := NB161_159.out
          have hcz75_0 : wc.cell? ⟨gb159, 0, none⟩ = some (.slice A0_0 l0_0.length c0_0) := (blk_cell BK159.out 0).trans rfl
          have hfz75_0 := blk_frozen BK159.out 0
          go_wp2_with (first | ((with_reducible refine gate_callee (f := 41) rfl ?_); refine goesL_ (some 53) rfl rfl Tryd.func41 (by kernel_rfl) rfl #[.int .i64 a1_1, .int .i64 0, .int .i64 (wrap64 ((l0_0.length : Int) - 1))] rfl gmp ?_; (with_reducible refine (spec_l1In.calls a1_1 0 (wrap64 ((l0_0.length : Int) - 1)) true _ A52.out).mono ?_); rintro e w' ⟨rfl, ⟨nd, rfl⟩⟩; refine ⟨_, rfl, ?_⟩; (try (rw [drewN_self wc]; generalize hq_ : World.drewN wc _ = wc; have n0_ : Aside0 (Kd.V (Kd.slice 3 (Kd.int .i64)) 25 wc w.heap.size (fun k_ => (((P0_0_ k_ ∨ w.heap.size ≤ k_)) ∧ (k_ ≠ gb159 ∧ (k_ ≠ gb160 ∧ k_ ≠ gb161)))) (.slice A0_0 l0_0.length c0_0) l0_0) := ⟨by rw [← hq_]; exact (by (with_reducible repeat (first | apply Kd.V_alloc | apply Kd.V_drewN | apply Kd.V_drew)); exact HO_160000.out)⟩; have n1_ : Aside0 (wc.heap[gb159]? = some (.cells #[.slice A0_0 l0_0.length c0_0] 30 (0, 0))) := ⟨by rw [← hq_]; exact (bkl BK159)⟩; have n2_ : Aside0 (wc.heap[gb160]? = some (.cells #[.int .i64 a1_0, .int .i64 a1_1] 47 (0, 0))) := ⟨by rw [← hq_]; exact (bkl BK160)⟩; have n3_ : Aside0 (wc.heap[gb161]? = some (.cells #[.slice none 0 0] 30 (0, 0))) := ⟨by rw [← hq_]; exact (bkl BK161)⟩; have n4_ : Aside0 (Below w.heap.size w wc) := ⟨by rw [← hq_]; exact (bel3 HB GE159 GE160 GE161)⟩; clear HO_160000 BK159 BK160 BK161 HB hq_; have HO_160000 := n0_; have BK159 := n1_; have BK160 := n2_; have BK161 := n3_; have HB := n4_; clear n0_ n1_ n2_ n3_ n4_)); have hq0_ : wc.cell? ⟨gb159, 0, none⟩ = some (.slice A0_0 l0_0.length c0_0) := (blk_cell BK159.out 0).trans rfl; have hq1_ : wc.cell? ⟨gb160, 1, none⟩ = some (.int .i64 a1_1) := (blk_cell BK160.out 1).trans rfl; have p177 : 0 ≤ (a1_1 : Int) := oda; have q177 : a1_1 < (l0_0.length : Int) := oda; obtain ⟨ad177, A177_0, c177_0, e177, hx177_0, hl177_0, hi177_0⟩ := at_L1 (Kd.V_reads' HO_160000.out).2.2 a1_1 p177 q177; cases e177; obtain ⟨ce177, hce177, hMe177, hcc177⟩ := Kd.V_get HO_160000.out [] a1_1 p177 (by first | exact q177 | exact oda | (have e_ := (Kd.V_reads' HO_160000.out).1; omega)); obtain ⟨ua177_0, uc177_0, rfl, ul177_0, ge177_0⟩ := Kd.FK_slice_open hMe177; have hv177_0 := hcc177 0 _ rfl; rw [Nat.add_zero, show ((Kd.slice 3 (Kd.int .i64))).sz = 1 from rfl, Nat.mul_one] at hv177_0; replace hv177_0 := Option.some.inj (hv177_0.symm.trans hx177_0); injection hv177_0 with hva_ hvn_ hvc_; rw [hva_] at ge177_0; rw [hvc_] at ul177_0; have HL177_0 := Aside0.mk (show Kd.V (Kd.int .i64) 3 _ w.heap.size _ _ (rd_L1 l0_0 a1_1) from Kd.V_mk ul177_0 ge177_0); clear hva_ hvn_ hvc_ ge177_0 ul177_0; clear hcc177 hce177; have HR177_0 := Aside0.mk hi177_0; have HC177_0 := Aside0.mk hl177_0; clear hi177_0 hl177_0; replace p177 := eq_true p177; replace q177 := eq_true q177) | ((with_reducible refine gate_callee (f := 53) rfl ?_); refine goesL_ (some 76) rfl rfl Tryd.func53 (by kernel_rfl) rfl #[.agg #[.slice (some ad177) l0_0.length c0_0], .int .i64 t162, .int .i64 a1_1] rfl gmp ?_; (with_reducible refine (spec_l5Move.calls kj3 _ _ l0_0 t162 a1_1 t178 _ ?side1 ?side2 A70.out).mono ?_); (case side1 => repeat (first | exact (Kd.V_reads' HO_160000.out).2.2 | (with_reducible refine Kd.C_alloc ?_ _) | (with_reducible refine Kd.C_drewN ?_ _) | (with_reducible refine Kd.C_drew ?_))); (case side2 => exact (Kd.V_reads' HO_160000.out).2.1); rintro e w76 ⟨v179, rfl, ho0, hb⟩; refine ⟨_, rfl, ?_⟩; have n0_ := Aside0.mk (Kd.V_elder' (by (with_reducible repeat (first | apply Kd.V_alloc | apply Kd.V_drewN | apply Kd.V_drew)); exact HO_160000.out) (Kd.S_base ho0) hb); have n1_ := Aside0.mk (Kd.V_elder' (by (with_reducible repeat (first | apply Kd.V_alloc | apply Kd.V_drewN | apply Kd.V_drew)); exact HL177_0.out) (Kd.S_base ho0) hb); have n2_ := Aside0.mk (Kd.N_lower (Kd.N_mono (ok' := fun k_ => (P0_0_ k_ ∨ w.heap.size ≤ k_) ∧ k_ ≠ gb159 ∧ k_ ≠ gb160 ∧ k_ ≠ gb161) (Kd.S_N (Kd.S_bound ho0)) (fun k_ hk_ => ⟨(.inr (Nat.le_trans (below_size (bel3 HB GE159 GE160 GE161)) hk_.2.1)), (Kd.freshB (g := gb159) (o := .cells #[.slice (some ad177) l0_0.length c0_0] 30 (0, 0)) (bkl BK159) k_ hk_.2.1), (Kd.freshB (g := gb160) (o := .cells #[.int .i64 a1_0, .int .i64 a1_1] 47 (0, 0)) (bkl BK160) k_ hk_.2.1), (Kd.freshB (g := gb161) (o := .cells #[.slice none 0 0] 30 (0, 0)) (bkl BK161) k_ hk_.2.1)⟩)) (below_size (bel3 HB GE159 GE160 GE161))); have n3_ := Aside0.mk (blk_below (g := gb159) (o := .cells #[.slice (some ad177) l0_0.length c0_0] 30 (0, 0)) (bkl BK159) hb); have n4_ := Aside0.mk (blk_below (g := gb160) (o := .cells #[.int .i64 a1_0, .int .i64 a1_1] 47 (0, 0)) (bkl BK160) hb); have n5_ := Aside0.mk (blk_below (g := gb161) (o := .cells #[.slice none 0 0] 30 (0, 0)) (bkl BK161) hb); have n6_ := Aside0.mk (Kd.C_below (by repeat (first | (with_reducible exact HR177_0.out) | (with_reducible refine Kd.C_alloc ?_ _) | (with_reducible refine Kd.C_drewN ?_ _) | (with_reducible refine Kd.C_drew ?_) | exact HR177_0.out)) hb); have n7_ := Aside0.mk (below_step (bel3 HB GE159 GE160 GE161) hb); clear HO_160000; clear HL177_0; clear BK159; clear BK160; clear BK161; clear HR177_0; clear HB; have HO_160000 := n0_; have HL177_0 := n1_; have HO180 := n2_; have BK159 := n3_; have BK160 := n4_; have BK161 := n5_; have HR177_0 := n6_; have HB := n7_; clear n0_ n1_ n2_ n3_ n4_ n5_ n6_ n7_; (try clear hb); (try clear hb2); (try clear hk); (try clear hi); (try clear ho0); obtain ⟨Ao77, co77, eo77⟩ := Kd.N_slice HO180.out; subst eo77; have hcz78_0 : w76.cell? ⟨gb161, 0, none⟩ = some (.slice none 0 0) := (blk_cell BK161.out 0).trans rfl; have hfz78_0 := blk_frozen BK161.out 0))
          refine bodyPost_ret (results_ct rfl _ _ gb161 30 #[.slice Ao77 t178.length co77] (0, 0) _ rfl (by (with_reducible repeat (first | refine blk_drewN ?_ _ | refine blk_drew ?_ | refine blk_alloc ?_ _)); refine blk_put (cs := #[.slice none 0 0]) ?_ 0 _ rfl; (with_reducible repeat (first | refine blk_drewN ?_ _ | refine blk_drew ?_ | refine blk_alloc ?_ _)); exact BK161.out) Tryd.underlying30 rfl (by kernel_rfl)) rfl ?_
          exact ⟨_, by first | rfl | (simp [errW_none, errW_some] <;> rfl) | (simp [*, errW_none, errW_some] <;> rfl), Kd.N_V (by (with_reducible repeat (first | apply Kd.N_alloc | apply Kd.N_drewN | apply Kd.N_drew)); exact Kd.N_mono (Kd.N_far (p := ⟨gb161, 0, none⟩) (Kd.N_mono HO180.out (fun k_ hk => (⟨hk, hk.2.2.2⟩ : _ ∧ k_ ≠ gb161))) (fun _ hk => hk.2) (.slice Ao77 t178.length co77)) (fun _ hk => hk.1.1)), bel3 HB GE159 GE160 GE161⟩
        ·rw [if_neg c62] at H
         exact absurd H (by simp)
       ·rw [if_neg c61] at H
        exact absurd H (by simp)
     ·replace c53 := Bool.eq_false_iff.mpr c53
      subst c53
      have H1 : (some (l0_0, false)) = some (r1, r2) := by rw [if_neg (show ¬ (false = true) by decide)] at H; exact H
      clear H
      have H := H1
      clear H1
      simp only [Option.some.injEq, Prod.mk.injEq] at H
      obtain ⟨rfl, rfl⟩ := H
      have hnb79 := NB160_159.out
      have hnc79 := NB159_160.out
      have hnb80 := NB160_161.out
      have hnc80 := NB161_160.out
      have hcz81_0 : wc.cell? ⟨gb160, 0, none⟩ = some (.int .i64 a1_0) := (blk_cell BK160.out 0).trans rfl
      have hcz81_1 : wc.cell? ⟨gb160, 1, none⟩ = some (.int .i64 a1_1) := (blk_cell BK160.out 1).trans rfl
      have hfz81_0 := blk_frozen BK160.out 0
      have hfz81_1 := blk_frozen BK160.out 1
      have hnb82 := NB159_161.out
      have hnc82 := NB161_159.out
      have hcz83_0 : wc.cell? ⟨gb159, 0, none⟩ = some (.slice A0_0 l0_0.length c0_0) := (blk_cell BK159.out 0).trans rfl
      have hfz83_0 := blk_frozen BK159.out 0
      go_wp2_with (first | ((with_reducible refine gate_callee (f := 41) rfl ?_); refine goesL_ (some 53) rfl rfl Tryd.func41 (by kernel_rfl) rfl #[.int .i64 a1_1, .int .i64 0, .int .i64 (wrap64 ((l0_0.length : Int) - 1))] rfl gmp ?_; (with_reducible refine (spec_l1In.calls a1_1 0 (wrap64 ((l0_0.length : Int) - 1)) false _ A52.out).mono ?_); rintro e w' ⟨rfl, ⟨nd, rfl⟩⟩; refine ⟨_, rfl, ?_⟩; (try (rw [drewN_self wc]; generalize hq_ : World.drewN wc _ = wc; have n0_ : Aside0 (Kd.V (Kd.slice 3 (Kd.int .i64)) 25 wc w.heap.size (fun k_ => (((P0_0_ k_ ∨ w.heap.size ≤ k_)) ∧ (k_ ≠ gb159 ∧ (k_ ≠ gb160 ∧ k_ ≠ gb161)))) (.slice A0_0 l0_0.length c0_0) l0_0) := ⟨by rw [← hq_]; exact (by (with_reducible repeat (first | apply Kd.V_alloc | apply Kd.V_drewN | apply Kd.V_drew)); exact HO_160000.out)⟩; have n1_ : Aside0 (wc.heap[gb159]? = some (.cells #[.slice A0_0 l0_0.length c0_0] 30 (0, 0))) := ⟨by rw [← hq_]; exact (bkl BK159)⟩; have n2_ : Aside0 (wc.heap[gb160]? = some (.cells #[.int .i64 a1_0, .int .i64 a1_1] 47 (0, 0))) := ⟨by rw [← hq_]; exact (bkl BK160)⟩; have n3_ : Aside0 (wc.heap[gb161]? = some (.cells #[.slice none 0 0] 30 (0, 0))) := ⟨by rw [← hq_]; exact (bkl BK161)⟩; have n4_ : Aside0 (Below w.heap.size w wc) := ⟨by rw [← hq_]; exact (bel3 HB GE159 GE160 GE161)⟩; clear HO_160000 BK159 BK160 BK161 HB hq_; have HO_160000 := n0_; have BK159 := n1_; have BK160 := n2_; have BK161 := n3_; have HB := n4_; clear n0_ n1_ n2_ n3_ n4_)); have hq0_ : wc.cell? ⟨gb159, 0, none⟩ = some (.slice A0_0 l0_0.length c0_0) := (blk_cell BK159.out 0).trans rfl; have hq1_ : wc.cell? ⟨gb160, 1, none⟩ = some (.int .i64 a1_1) := (blk_cell BK160.out 1).trans rfl; have hcz84_0 : wc.cell? ⟨gb161, 0, none⟩ = some (.slice none 0 0) := (blk_cell BK161.out 0).trans rfl; have hfz84_0 := blk_frozen BK161.out 0))
      refine bodyPost_ret (results_ct rfl _ _ gb161 30 #[.slice A0_0 l0_0.length c0_0] (0, 0) _ rfl (by (with_reducible repeat (first | refine blk_drewN ?_ _ | refine blk_drew ?_ | refine blk_alloc ?_ _)); refine blk_put (cs := #[.slice none 0 0]) ?_ 0 _ rfl; (with_reducible repeat (first | refine blk_drewN ?_ _ | refine blk_drew ?_ | refine blk_alloc ?_ _)); exact BK161.out) Tryd.underlying30 rfl (by kernel_rfl)) rfl ?_
      exact ⟨_, by first | rfl | (simp [errW_none, errW_some] <;> rfl) | (simp [*, errW_none, errW_some] <;> rfl), by (with_reducible repeat (first | apply Kd.V_alloc | apply Kd.V_drewN | apply Kd.V_drew)); exact Kd.V_mono (Kd.V_far (p := ⟨gb161, 0, none⟩) (Kd.V_mono HO_160000.out (fun k_ hk => (⟨hk, hk.2.2.2⟩ : _ ∧ k_ ≠ gb161))) (fun _ hk => hk.2) (.slice A0_0 l0_0.length c0_0)) (fun _ hk => hk.1.1), bel3 HB GE159 GE160 GE161⟩

end Go.Proofs.YtfcbdfedolnkfaaDoor.P
