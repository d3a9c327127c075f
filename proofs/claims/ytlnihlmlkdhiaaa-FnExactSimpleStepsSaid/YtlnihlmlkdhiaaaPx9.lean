-- Written by a program of this session over the translation (a variant of the printer, see wip/gen); Lean checks it.
import Derived.Test.YtlnihlmlkdhiaaaPx0
import Derived.Test.YtlnihlmlkdhiaaaPx5
import Derived.Test.YtlnihlmlkdhiaaaPx7
import Derived.Test.YtlnihlmlkdhiaaaPx8
namespace Go.Proofs.Ytlnihlmlkdhiaaa.P
open Go.RowKit Go.Proofs.YtlnihlmlkdhiaaaW.PrintWords Go.Proofs.YtlnihlmlkdhiaaaW.PrintLast Go.Proofs.YtlnihlmlkdhiaaaW.PrintMore
attribute [local go_sem] Go.Proofs.Ytlnihlmlkdhiaaa.V.isSome_setCell max2_int min2_int max_two min_two max_three min_three max_four min_four   -- for this text's walks alone
set_option linter.unusedVariables false
set_option linter.unusedSimpArgs false

/-! ### spec_l6Step: function 45 -/
def spec_l6Step.j0 : Nat → Int → Int → Bool → List (List Int) → Int → Int → Option ((List (List Int)) × Bool)
 | 0, _, _, _, _, _, _ => none
 | k + 1, x6, x7, x28, x186000, x187000, x187001 => if x28 = true then (some (x186000, false)) else (if x187001 = (-1) then ((spec_l5Own.f k x186000).bind fun t191 => (if 0 ≤ x6 then (if x6 < (t191.length : Int) then (if 0 ≤ x7 then (if x7 ≤ ((rd_L1 t191 x6).length : Int) then (some ((t191.set (x6 : Int).toNat ((rd_L1 t191 x6).take (x7 : Int).toNat)), true)) else (none)) else (none)) else (none)) else (none))) else ((spec_l1In.f x187001 0 (wrap64 ((x186000.length : Int) - 1))).bind fun t202 => (if t202 = true then (if x187001 = x6 then (some (x186000, false)) else (if 0 ≤ x187001 then (if x187001 < (x186000.length : Int) then (if ((rd_L1 x186000 x187001).length : Int) = 4 then (some (x186000, false)) else ((spec_l5Move.f k x186000 x6 x187001).bind fun t204 => (some (t204, true)))) else (none)) else (none))) else (some (x186000, false)))))
def spec_l6Step.f (k : Nat) (l0_0 : List (List Int)) (a1_0 : Int) (a1_1 : Int) : Option ((List (List Int)) × Bool) := (spec_l5Find.f k l0_0 a1_0).bind fun bt188 => (if bt188.1 < 0 then (spec_l6Step.j0 k bt188.1 bt188.2 true l0_0 a1_0 a1_1) else (if 0 ≤ bt188.1 then (if bt188.1 < (l0_0.length : Int) then (spec_l6Step.j0 k bt188.1 bt188.2 (bt188.2 != (wrap64 (((rd_L1 l0_0 bt188.1).length : Int) - 1))) l0_0 a1_0 a1_1) else (none)) else (none)))
theorem spec_l6Step.mono_l : ∀ k, (∀ y0 y1 y2 y3 y4 y5, LeO (spec_l6Step.j0 k y0 y1 y2 y3 y4 y5) (spec_l6Step.j0 (k + 1) y0 y1 y2 y3 y4 y5))
 | 0 => fun _ _ _ _ _ _ r h => by simp [spec_l6Step.j0] at h
 | k + 1 => by
  have ih0 := spec_l6Step.mono_l k
  ·intro y0 y1 y2 y3 y4 y5
   unfold spec_l6Step.j0
   repeat' first
   | (with_reducible exact ih0 _ _ _ _ _ _)
   | (with_reducible exact spec_l5Find.mono _ _ _)
   | (with_reducible exact spec_l5Move.mono _ _ _ _)
   | (with_reducible exact spec_l5Own.mono _ _)
   | (with_reducible exact LeO.refl _)
   | (with_reducible exact LeO.none _)
   | (with_reducible refine LeO.ite ?_ ?_)
   | (with_reducible refine LeO.bind ?_ (fun _ => ?_))
   | exact ih0 _ _ _ _ _ _
   | exact spec_l5Find.mono _ _ _
   | exact spec_l5Move.mono _ _ _ _
   | exact spec_l5Own.mono _ _
   | exact LeO.none _
   | refine LeO.ite ?_ ?_
   | refine LeO.bind ?_ (fun _ => ?_)
theorem spec_l6Step.mono : ∀ a0 a1 a2 k, LeO (spec_l6Step.f k a0 a1 a2) (spec_l6Step.f (k + 1) a0 a1 a2) := by
 intro a0 a1 a2 k
 have ih0 := spec_l6Step.mono_l k
 unfold spec_l6Step.f
 repeat' first
   | (with_reducible exact ih0 _ _ _ _ _ _)
   | (with_reducible exact spec_l5Find.mono _ _ _)
   | (with_reducible exact spec_l5Move.mono _ _ _ _)
   | (with_reducible exact spec_l5Own.mono _ _)
   | (with_reducible exact LeO.refl _)
   | (with_reducible exact LeO.none _)
   | (with_reducible refine LeO.ite ?_ ?_)
   | (with_reducible refine LeO.bind ?_ (fun _ => ?_))
   | exact ih0 _ _ _ _ _ _
   | exact spec_l5Find.mono _ _ _
   | exact spec_l5Move.mono _ _ _ _
   | exact spec_l5Own.mono _ _
   | exact LeO.none _
   | refine LeO.ite ?_ ?_
   | refine LeO.bind ?_ (fun _ => ?_)
def spec_l6Step.T6 : Bool × List (List Nat × List Nat) := (true, [([], []), ([0], [0]), ([], []), ([], []), ([3], [3]), ([], []), ([4, 5], [4, 5]), ([6], [6]), ([], []), ([7, 8], [7, 8]), ([1, 2, 0, 1, 2, 3, 4, 5, 6, 7, 8, 9], [1, 2]), ([10, 9, 0, 1, 2, 3, 4, 5, 6, 7, 8, 9], [9, 10])])
def spec_l6Step.B6 : List Nat := [0, 1, 0, 0, 8, 0, 56, 120, 0, 504, 1023, 2047]
theorem spec_l6Step.tab6 : rtab .any (opsOf Try.f45 6) = spec_l6Step.T6 := by kernel_rfl
theorem spec_l6Step.bits6 : waitsOk spec_l6Step.T6.2 spec_l6Step.B6 = true := by kernel_rfl
set_option maxHeartbeats 8000000 in
set_option maxRecDepth 100000 in
theorem spec_l6Step.calls (k : Nat) (P0_0_ : Nat → Prop) (A0_0 : Option Addr) (c0_0 : Nat) (l0_0 : List (List Int)) (a1_0 : Int) (a1_1 : Int) (r1 : List (List Int)) (r2 : Bool) (w : World) (hs0_0 : Kd.V (Kd.slice 3 (Kd.int .i64)) 29 w w.heap.size (fun k_ => P0_0_ k_) (.slice A0_0 l0_0.length c0_0) l0_0) (h : spec_l6Step.f k l0_0 a1_0 a1_1 = some (r1, r2)) :
  Calls Try.prog 45 #[.agg #[.slice A0_0 l0_0.length c0_0], .agg #[.int .i64 a1_0, .int .i64 a1_1]] w fun e w' => ∃ v0_ : Value, e = .returned (.tuple #[.agg #[v0_], .bool r2]) ∧ Kd.V (Kd.slice 3 (Kd.int .i64)) 29 w' w.heap.size (fun k_ => (P0_0_ k_ ∨ w.heap.size ≤ k_)) v0_ r1 ∧ Below w.heap.size w w' := by
 have hu28 := Try.underlying28
 have hu51 := Try.underlying51
 have HO0_0 := Aside0.mk (show Kd.V (Kd.slice 3 (Kd.int .i64)) 29 w w.heap.size (fun k_ => (P0_0_ k_ ∨ w.heap.size ≤ k_)) (.slice A0_0 l0_0.length c0_0) l0_0 from Kd.V_mono hs0_0 (fun k_ hk => .inl hk))
 have HB := Aside0.mk (Below.refl w.heap.size w)
 have H : ((spec_l5Find.f k l0_0 a1_0).bind fun bt188 => (if bt188.1 < 0 then (spec_l6Step.j0 k bt188.1 bt188.2 true l0_0 a1_0 a1_1) else (if 0 ≤ bt188.1 then (if bt188.1 < (l0_0.length : Int) then (spec_l6Step.j0 k bt188.1 bt188.2 (bt188.2 != (wrap64 (((rd_L1 l0_0 bt188.1).length : Int) - 1))) l0_0 a1_0 a1_1) else (none)) else (none)))) = some (r1, r2) := h
 clear h
 replace H := Option.bind_eq_some_iff.mp H
 obtain ⟨⟨t188, t189⟩, A30, H⟩ := H
 replace H : (if t188 < 0 then (spec_l6Step.j0 k t188 t189 true l0_0 a1_0 a1_1) else (if 0 ≤ t188 then (if t188 < (l0_0.length : Int) then (spec_l6Step.j0 k t188 t189 (t189 != (wrap64 (((rd_L1 l0_0 t188).length : Int) - 1))) l0_0 a1_0 a1_1) else (none)) else (none))) = some (r1, r2) := H
 have A3 := Aside0.mk A30
 clear A30
 have HC4 := Aside0.mk H
 clear H
 go_enter Try.func45, Try.ntmps45
 go_upto_region 2 with (first | ((with_reducible refine gate_dst (N := 2) rfl ?_); (try (refine gate_guard (by rfl) ?_; dsimp only)); refine box_event ?hg (N := 2) ?hd (cs := #[.slice A0_0 l0_0.length c0_0]) (t := 28) ?hr ?_; (case hd => rfl); (case hg => rfl); (case hr => first | (go_simp; done) | (go_simp; rfl)); intro gb185 hg w5 hbox hb; have n0_ := Aside0.mk (Kd.V_below (Kd.V_elderB (by (with_reducible repeat (first | apply Kd.V_alloc | apply Kd.V_drewN | apply Kd.V_drew)); exact HO0_0.out) gb185 (Nat.le_of_eq hg.symm)) hb); have n1_ := Aside0.mk (below_step (bel HB) hb); have n2_ := Aside0.mk (hbox); have n3_ := Aside0.mk ((by rw [hg]; exact (below_size (bel HB)) : w.heap.size ≤ gb185)); have n4_ := Aside0.mk ((by rw [hg]; exact (below_size (bel HB)) : w.heap.size ≤ gb185)); clear HO0_0; clear HB; have HO0_0 := n0_; have HB := n1_; have BK185 := n2_; have GW185 := n3_; have GE185 := n4_; clear n0_ n1_ n2_ n3_ n4_; clear hb hbox hg) | ((with_reducible refine gate_dst (N := 3) rfl ?_); (try (refine gate_guard (by rfl) ?_; dsimp only)); refine box_event ?hg (N := 3) ?hd (cs := #[.int .i64 a1_0, .int .i64 a1_1]) (t := 51) ?hr ?_; (case hd => rfl); (case hg => rfl); (case hr => first | (go_simp; done) | (go_simp; rfl)); intro gb186 hg w6 hbox hb; have n0_ := Aside0.mk (Kd.V_below (Kd.V_elderB (by (with_reducible repeat (first | apply Kd.V_alloc | apply Kd.V_drewN | apply Kd.V_drew)); exact HO0_0.out) gb186 (Nat.le_of_eq hg.symm)) hb); have n1_ := Aside0.mk (blk_below (g := gb185) (o := .cells #[.slice A0_0 l0_0.length c0_0] 28 (0, 0)) (bkl BK185) hb); have n2_ := Aside0.mk (below_step (bel1 HB GE185) hb); have n3_ := Aside0.mk (hbox); have n4_ := Aside0.mk ((by rw [hg]; exact (below_size (bel1 HB GE185)) : w.heap.size ≤ gb186)); have n5_ := Aside0.mk ((by rw [hg]; exact (below_size (bel1 HB GE185)) : w.heap.size ≤ gb186)); have n6_ := Aside0.mk ((by rw [hg]; exact Nat.ne_of_lt (blk_lt (g := gb185) (o := .cells #[.slice A0_0 l0_0.length c0_0] 28 (0, 0)) (bkl BK185)) : gb185 ≠ gb186)); have n7_ := Aside0.mk ((by rw [hg]; exact Nat.ne_of_gt (blk_lt (g := gb185) (o := .cells #[.slice A0_0 l0_0.length c0_0] 28 (0, 0)) (bkl BK185)) : gb186 ≠ gb185)); clear HO0_0; clear BK185; clear HB; have HO0_0 := n0_; have BK185 := n1_; have HB := n2_; have BK186 := n3_; have GW186 := n4_; have GE186 := n5_; have NB185_186 := n6_; have NB186_185 := n7_; clear n0_ n1_ n2_ n3_ n4_ n5_ n6_ n7_; clear hb hbox hg) | ((with_reducible refine gate_dst (N := 4) rfl ?_); (try (refine gate_guard (by rfl) ?_; dsimp only)); refine box_event ?hg (N := 4) ?hd (cs := #[.slice none 0 0]) (t := 28) ?hr ?_; (case hd => rfl); (case hg => rfl); (case hr => first | (go_simp; done) | (go_simp; rfl)); intro gb187 hg w7 hbox hb; have n0_ := Aside0.mk (Kd.V_below (Kd.V_elderB (by (with_reducible repeat (first | apply Kd.V_alloc | apply Kd.V_drewN | apply Kd.V_drew)); exact HO0_0.out) gb187 (Nat.le_of_eq hg.symm)) hb); have n1_ := Aside0.mk (blk_below (g := gb185) (o := .cells #[.slice A0_0 l0_0.length c0_0] 28 (0, 0)) (bkl BK185) hb); have n2_ := Aside0.mk (blk_below (g := gb186) (o := .cells #[.int .i64 a1_0, .int .i64 a1_1] 51 (0, 0)) (bkl BK186) hb); have n3_ := Aside0.mk (below_step (bel2 HB GE185 GE186) hb); have n4_ := Aside0.mk (hbox); have n5_ := Aside0.mk ((by rw [hg]; exact (below_size (bel2 HB GE185 GE186)) : w.heap.size ≤ gb187)); have n6_ := Aside0.mk ((by rw [hg]; exact (below_size (bel2 HB GE185 GE186)) : w.heap.size ≤ gb187)); have n7_ := Aside0.mk ((by rw [hg]; exact Nat.ne_of_lt (blk_lt (g := gb185) (o := .cells #[.slice A0_0 l0_0.length c0_0] 28 (0, 0)) (bkl BK185)) : gb185 ≠ gb187)); have n8_ := Aside0.mk ((by rw [hg]; exact Nat.ne_of_gt (blk_lt (g := gb185) (o := .cells #[.slice A0_0 l0_0.length c0_0] 28 (0, 0)) (bkl BK185)) : gb187 ≠ gb185)); have n9_ := Aside0.mk ((by rw [hg]; exact Nat.ne_of_lt (blk_lt (g := gb186) (o := .cells #[.int .i64 a1_0, .int .i64 a1_1] 51 (0, 0)) (bkl BK186)) : gb186 ≠ gb187)); have n10_ := Aside0.mk ((by rw [hg]; exact Nat.ne_of_gt (blk_lt (g := gb186) (o := .cells #[.int .i64 a1_0, .int .i64 a1_1] 51 (0, 0)) (bkl BK186)) : gb187 ≠ gb186)); clear HO0_0; clear BK185; clear BK186; clear HB; have HO0_0 := n0_; have BK185 := n1_; have BK186 := n2_; have HB := n3_; have BK187 := n4_; have GW187 := n5_; have GE187 := n6_; have NB185_187 := n7_; have NB187_185 := n8_; have NB186_187 := n9_; have NB187_186 := n10_; clear n0_ n1_ n2_ n3_ n4_ n5_ n6_ n7_ n8_ n9_ n10_; clear hb hbox hg; have hnb8 := NB185_186.out; have hnc8 := NB186_185.out; have hnb9 := NB185_187.out; have hnc9 := NB187_185.out; have hcz10_0 : w7.cell? ⟨gb185, 0, none⟩ = some (.slice A0_0 l0_0.length c0_0) := (blk_cell BK185.out 0).trans rfl; have hfz10_0 := blk_frozen BK185.out 0; have hnb11 := NB186_187.out; have hnc11 := NB187_186.out; have hcz12_0 : w7.cell? ⟨gb186, 0, none⟩ = some (.int .i64 a1_0) := (blk_cell BK186.out 0).trans rfl; have hcz12_1 : w7.cell? ⟨gb186, 1, none⟩ = some (.int .i64 a1_1) := (blk_cell BK186.out 1).trans rfl; have hfz12_0 := blk_frozen BK186.out 0; have hfz12_1 := blk_frozen BK186.out 1) | ((with_reducible refine gate_callee (f := 50) rfl ?_); refine goesL_ (some 13) rfl rfl Try.func50 (by kernel_rfl) rfl #[.agg #[.slice A0_0 l0_0.length c0_0], .int .i64 a1_0] rfl gmp ?_; (with_reducible refine (spec_l5Find.calls k _ _ l0_0 a1_0 t188 t189 _ ?side1 ?side2 A3.out).mono ?_); (case side1 => repeat (first | exact (Kd.V_reads' HO0_0.out).2.2 | (with_reducible refine Kd.C_alloc ?_ _) | (with_reducible refine Kd.C_drewN ?_ _) | (with_reducible refine Kd.C_drew ?_))); (case side2 => exact (Kd.V_reads' HO0_0.out).2.1); rintro e w13 ⟨rfl, hb⟩; refine ⟨_, rfl, ?_⟩; have n0_ := Aside0.mk (Kd.V_below (by (with_reducible repeat (first | apply Kd.V_alloc | apply Kd.V_drewN | apply Kd.V_drew)); exact HO0_0.out) hb); have n1_ := Aside0.mk (blk_below (g := gb185) (o := .cells #[.slice A0_0 l0_0.length c0_0] 28 (0, 0)) (bkl BK185) hb); have n2_ := Aside0.mk (blk_below (g := gb186) (o := .cells #[.int .i64 a1_0, .int .i64 a1_1] 51 (0, 0)) (bkl BK186) hb); have n3_ := Aside0.mk (blk_below (g := gb187) (o := .cells #[.slice none 0 0] 28 (0, 0)) (bkl BK187) hb); have n4_ := Aside0.mk (below_step (bel3 HB GE185 GE186 GE187) hb); clear HO0_0; clear BK185; clear BK186; clear BK187; clear HB; have HO0_0 := n0_; have BK185 := n1_; have BK186 := n2_; have BK187 := n3_; have HB := n4_; clear n0_ n1_ n2_ n3_ n4_; (try clear hb); (try clear hb2); (try clear hk); (try clear hi)))
 (try simp only [Act.put, List.setIfInBounds_toArray, List.set_cons_zero, List.set_cons_succ])
 go_cut [28] (fun v28 wc => ∃ (kq : Nat) (x28_3 : Bool), v28 = .bool x28_3 ∧ Aside0 (spec_l6Step.j0 kq t188 t189 x28_3 l0_0 a1_0 a1_1 = some (r1, r2)) ∧ Aside0 (kq ≤ k) ∧ Aside0 (Kd.V (Kd.slice 3 (Kd.int .i64)) 29 wc w.heap.size (fun k_ => (P0_0_ k_ ∨ w.heap.size ≤ k_) ∧ k_ ≠ gb185 ∧ k_ ≠ gb186 ∧ k_ ≠ gb187) (.slice A0_0 l0_0.length c0_0) l0_0) ∧ Aside0 (wc.heap[gb185]? = some (.cells #[(.slice A0_0 l0_0.length c0_0)] 28 (0, 0))) ∧ Aside0 (wc.heap[gb186]? = some (.cells #[.int .i64 a1_0, .int .i64 a1_1] 51 (0, 0))) ∧ Aside0 (wc.heap[gb187]? = some (.cells #[(.slice none 0 0)] 28 (0, 0))) ∧ Aside0 (Below w.heap.size w wc))
 case first =>
  have H := HC4.out
  clear HC4
  by_cases c14 : t188 < 0
  ·rw [if_pos c14] at H
   have c14b0 : decide (t188 < 0) = true := decide_eq_true c14
   clear c14
   (first | rw [c14b0] | (simp only [i64_w, i32_w]; rw [c14b0]) | skip)
   have H' := Aside0.mk H
   clear H
   go_wp2
   go_meet
   case rel => exact ⟨_, (true), (by first | rfl | (simp; done) | (simp [*]; done)), H', ⟨by first | omega | exact Nat.le_refl _⟩, ⟨by (with_reducible repeat (first | apply Kd.V_alloc | apply Kd.V_drewN | apply Kd.V_drew)); exact Kd.V_mono HO0_0.out (fun _ hk => ⟨hk.1.1.1, ⟨hk.1.1.2, ⟨hk.1.2, hk.2⟩⟩⟩)⟩, ⟨bkl BK185⟩, ⟨bkl BK186⟩, ⟨bkl BK187⟩, ⟨bel3 HB GE185 GE186 GE187⟩⟩
  ·rw [if_neg c14] at H
   have c14b0 : decide (t188 < 0) = false := decide_eq_false c14
   clear c14
   (first | rw [c14b0] | (simp only [i64_w, i32_w]; rw [c14b0]) | skip)
   by_cases c15 : 0 ≤ t188
   ·rw [if_pos c15] at H
    have c15b0 : decide (0 ≤ t188) = true := decide_eq_true c15
    clear c15
    by_cases c16 : t188 < (l0_0.length : Int)
    ·rw [if_pos c16] at H
     have c16b0 : decide (t188 < (l0_0.length : Int)) = true := decide_eq_true c16
     clear c16
     have H' := Aside0.mk H
     clear H
     have hnb17 := NB185_186.out
     have hnc17 := NB186_185.out
     have hnb18 := NB185_187.out
     have hnc18 := NB187_185.out
     have hcz19_0 : w13.cell? ⟨gb185, 0, none⟩ = some (.slice A0_0 l0_0.length c0_0) := (blk_cell BK185.out 0).trans rfl
     have hfz19_0 := blk_frozen BK185.out 0
     have p190 : 0 ≤ (t188 : Int) := oda
     have q190 : t188 < (l0_0.length : Int) := oda
     obtain ⟨ad190, A190_0, c190_0, e190, hx190_0, hl190_0, hi190_0⟩ := at_L1 (Kd.V_reads' HO0_0.out).2.2 t188 p190 q190
     cases e190
     obtain ⟨ce190, hce190, hMe190, hcc190⟩ := Kd.V_get HO0_0.out [] t188 p190 (by first | exact q190 | exact oda | (have e_ := (Kd.V_reads' HO0_0.out).1; omega))
     obtain ⟨ua190_0, uc190_0, rfl, ul190_0, ge190_0⟩ := Kd.FK_slice_open hMe190
     have hv190_0 := hcc190 0 _ rfl
     rw [Nat.add_zero, show ((Kd.slice 3 (Kd.int .i64))).sz = 1 from rfl, Nat.mul_one] at hv190_0
     replace hv190_0 := Option.some.inj (hv190_0.symm.trans hx190_0)
     injection hv190_0 with hva_ hvn_ hvc_
     rw [hva_] at ge190_0
     rw [hvc_] at ul190_0
     have HL190_0 := Aside0.mk (show Kd.V (Kd.int .i64) 3 _ w.heap.size _ _ (rd_L1 l0_0 t188) from Kd.V_mk ul190_0 ge190_0)
     clear hva_ hvn_ hvc_ ge190_0 ul190_0
     clear hcc190 hce190
     have HR190_0 := Aside0.mk hi190_0
     have HC190_0 := Aside0.mk hl190_0
     clear hi190_0 hl190_0
     replace p190 := eq_true p190
     replace q190 := eq_true q190
     go_wp2
     go_meet
     case rel => exact ⟨_, ((t189 != (wrap64 (((rd_L1 l0_0 t188).length : Int) - 1)))), (by first | rfl | (simp; done) | (simp [*]; done)), H', ⟨by first | omega | exact Nat.le_refl _⟩, ⟨by (with_reducible repeat (first | apply Kd.V_alloc | apply Kd.V_drewN | apply Kd.V_drew)); exact Kd.V_mono HO0_0.out (fun _ hk => ⟨hk.1.1.1, ⟨hk.1.1.2, ⟨hk.1.2, hk.2⟩⟩⟩)⟩, ⟨bkl BK185⟩, ⟨bkl BK186⟩, ⟨bkl BK187⟩, ⟨bel3 HB GE185 GE186 GE187⟩⟩
    ·rw [if_neg c16] at H
     exact absurd H (by simp)
   ·rw [if_neg c15] at H
    exact absurd H (by simp)
 case rest =>
  clear HC4
  try clear c1
  try clear p1
  try clear q1
  try clear hx1
  try clear p2
  try clear c4
  try clear c5
  try clear p6
  try clear c8
  try clear c9
  try clear c11
  try clear c14
  try clear c14b0
  try clear c15
  try clear c15b0
  try clear c16
  try clear c16b0
  try clear c17
  try clear c18
  try clear c19
  try clear p19
  try clear q19
  try clear hx19
  try clear hcz10_0
  try clear hcz12_0
  try clear hcz12_1
  try clear hcz19_0
  try clear hfz10_0
  try clear hfz12_0
  try clear hfz12_1
  try clear hfz19_0
  try clear hx190_0
  try clear p190
  try clear q190
  obtain ⟨kq, x28_3, rfl, HA, HJ3, HO_186000, BK185, BK186, BK187, HB⟩ := hcut
  cases kq with
  | zero => exact absurd HA.out (by simp [spec_l6Step.j0])
  | succ kj3 =>
   have H := HA.out
   clear HA
   simp only [spec_l6Step.j0] at H
   by_cases c20 : x28_3 = true
   ·subst c20
    have H1 : (some (l0_0, false)) = some (r1, r2) := by rw [if_pos rfl] at H; exact H
    clear H
    have H := H1
    clear H1
    simp only [Option.some.injEq, Prod.mk.injEq] at H
    obtain ⟨rfl, rfl⟩ := H
    have hnb21 := NB185_186.out
    have hnc21 := NB186_185.out
    have hnb22 := NB185_187.out
    have hnc22 := NB187_185.out
    have hcz23_0 : wc.cell? ⟨gb185, 0, none⟩ = some (.slice A0_0 l0_0.length c0_0) := (blk_cell BK185.out 0).trans rfl
    have hfz23_0 := blk_frozen BK185.out 0
    have hnb24 := NB187_186.out
    have hnc24 := NB186_187.out
    have hcz25_0 : wc.cell? ⟨gb187, 0, none⟩ = some (.slice none 0 0) := (blk_cell BK187.out 0).trans rfl
    have hfz25_0 := blk_frozen BK187.out 0
    go_wp2
    refine bodyPost_ret (results_ct rfl _ _ gb187 28 #[.slice A0_0 l0_0.length c0_0] (0, 0) _ rfl (by (with_reducible repeat (first | refine blk_drewN ?_ _ | refine blk_drew ?_ | refine blk_alloc ?_ _)); refine blk_put (cs := #[.slice none 0 0]) ?_ 0 _ rfl; (with_reducible repeat (first | refine blk_drewN ?_ _ | refine blk_drew ?_ | refine blk_alloc ?_ _)); exact BK187.out) Try.underlying28 rfl (by kernel_rfl)) rfl ?_
    exact ⟨_, by first | rfl | (simp [errW_none, errW_some] <;> rfl) | (simp [*, errW_none, errW_some] <;> rfl), by (with_reducible repeat (first | apply Kd.V_alloc | apply Kd.V_drewN | apply Kd.V_drew)); exact Kd.V_mono (Kd.V_far (p := ⟨gb187, 0, none⟩) (Kd.V_mono HO_186000.out (fun k_ hk => (⟨hk, hk.2.2.2⟩ : _ ∧ k_ ≠ gb187))) (fun _ hk => hk.2) (.slice A0_0 l0_0.length c0_0)) (fun _ hk => hk.1.1), bel3 HB GE185 GE186 GE187⟩
   ·replace c20 := Bool.eq_false_iff.mpr c20
    subst c20
    have H1 : (if a1_1 = (-1) then ((spec_l5Own.f kj3 l0_0).bind fun t191 => (if 0 ≤ t188 then (if t188 < (t191.length : Int) then (if 0 ≤ t189 then (if t189 ≤ ((rd_L1 t191 t188).length : Int) then (some ((t191.set (t188 : Int).toNat ((rd_L1 t191 t188).take (t189 : Int).toNat)), true)) else (none)) else (none)) else (none)) else (none))) else ((spec_l1In.f a1_1 0 (wrap64 ((l0_0.length : Int) - 1))).bind fun t202 => (if t202 = true then (if a1_1 = t188 then (some (l0_0, false)) else (if 0 ≤ a1_1 then (if a1_1 < (l0_0.length : Int) then (if ((rd_L1 l0_0 a1_1).length : Int) = 4 then (some (l0_0, false)) else ((spec_l5Move.f kj3 l0_0 t188 a1_1).bind fun t204 => (some (t204, true)))) else (none)) else (none))) else (some (l0_0, false))))) = some (r1, r2) := by rw [if_neg (show ¬ (false = true) by decide)] at H; exact H
    clear H
    have H := H1
    clear H1
    by_cases c26 : a1_1 = (-1)
    ·rw [if_pos c26] at H
     have c26b0 : (a1_1 == (-1)) = true := beq_iff_eq.mpr c26
     have c26b1 : (a1_1 != (-1)) = false := bne_eq_false_iff_eq.mpr c26
     clear c26
     replace H := Option.bind_eq_some_iff.mp H
     obtain ⟨t191, A270, H⟩ := H
     replace H : (if 0 ≤ t188 then (if t188 < (t191.length : Int) then (if 0 ≤ t189 then (if t189 ≤ ((rd_L1 t191 t188).length : Int) then (some ((t191.set (t188 : Int).toNat ((rd_L1 t191 t188).take (t189 : Int).toNat)), true)) else (none)) else (none)) else (none)) else (none)) = some (r1, r2) := H
     have A27 := Aside0.mk A270
     clear A270
     by_cases c28 : 0 ≤ t188
     ·rw [if_pos c28] at H
      have c28b0 : decide (0 ≤ t188) = true := decide_eq_true c28
      clear c28
      by_cases c29 : t188 < (t191.length : Int)
      ·rw [if_pos c29] at H
       have c29b0 : decide (t188 < (t191.length : Int)) = true := decide_eq_true c29
       clear c29
       by_cases c30 : 0 ≤ t189
       ·rw [if_pos c30] at H
        have c30b0 := eq_true c30
        have c30b1 : decide (0 ≤ t189) = true := decide_eq_true c30
        clear c30
        by_cases c31 : t189 ≤ ((rd_L1 t191 t188).length : Int)
        ·rw [if_pos c31] at H
         have c31b0 := eq_true c31
         have c31b1 : decide (t189 ≤ ((rd_L1 t191 t188).length : Int)) = true := decide_eq_true c31
         clear c31
         obtain ⟨y196, hy196⟩ : ∃ y_ : List Int, y_ = ((rd_L1 t191 t188).take (t189 : Int).toNat) := ⟨_, rfl⟩
         replace H : (some ((t191.set (t188 : Int).toNat y196), true)) = some (r1, r2) := by first | (rw [hy196]; with_reducible exact H) | (have H2_ := (Option.bind_some _ _).symm.trans H; rw [hy196]; with_reducible exact H2_) | (have H2_ := (Option.bind_some _ _).symm.trans H; with_reducible exact H2_) | with_reducible exact H | (rw [hy196]; exact H) | exact H
         have Ny196 := Aside0.mk hy196
         clear hy196
         obtain ⟨y201, hy201⟩ : ∃ y_ : List (List Int), y_ = (t191.set (t188 : Int).toNat y196) := ⟨_, rfl⟩
         replace H : (some (y201, true)) = some (r1, r2) := by first | (rw [hy201]; with_reducible exact H) | (have H2_ := (Option.bind_some _ _).symm.trans H; rw [hy201]; with_reducible exact H2_) | (have H2_ := (Option.bind_some _ _).symm.trans H; with_reducible exact H2_) | with_reducible exact H | (rw [hy201]; exact H) | exact H
         have Ny201 := Aside0.mk hy201
         clear hy201
         simp only [Option.some.injEq, Prod.mk.injEq] at H
         obtain ⟨rfl, rfl⟩ := H
         have hnb33 := NB186_185.out
         have hnc33 := NB185_186.out
         have hnb34 := NB186_187.out
         have hnc34 := NB187_186.out
         have hcz35_0 : wc.cell? ⟨gb186, 0, none⟩ = some (.int .i64 a1_0) := (blk_cell BK186.out 0).trans rfl
         have hcz35_1 : wc.cell? ⟨gb186, 1, none⟩ = some (.int .i64 a1_1) := (blk_cell BK186.out 1).trans rfl
         have hfz35_0 := blk_frozen BK186.out 0
         have hfz35_1 := blk_frozen BK186.out 1
         have hnb36 := NB185_187.out
         have hnc36 := NB187_185.out
         have hcz37_0 : wc.cell? ⟨gb185, 0, none⟩ = some (.slice A0_0 l0_0.length c0_0) := (blk_cell BK185.out 0).trans rfl
         have hfz37_0 := blk_frozen BK185.out 0
         try go_wp2_with (first | ((with_reducible refine gate_callee (f := 26) rfl ?_); refine goesL_ (some 34) rfl rfl Try.func26 (by kernel_rfl) rfl #[.agg #[.slice A0_0 l0_0.length c0_0]] rfl gmp ?_; (with_reducible refine (spec_l5Own.calls kj3 _ _ l0_0 t191 _ ?side1 ?side2 A27.out).mono ?_); (case side1 => repeat (first | exact (Kd.V_reads' HO_186000.out).2.2 | (with_reducible refine Kd.C_alloc ?_ _) | (with_reducible refine Kd.C_drewN ?_ _) | (with_reducible refine Kd.C_drew ?_))); (case side2 => exact (Kd.V_reads' HO_186000.out).2.1); rintro e w38 ⟨v192, rfl, ho0, hb⟩; refine ⟨_, rfl, ?_⟩; have n0_ := Aside0.mk (Kd.V_elder' (by (with_reducible repeat (first | apply Kd.V_alloc | apply Kd.V_drewN | apply Kd.V_drew)); exact HO_186000.out) (Kd.S_base ho0) hb); have n1_ := Aside0.mk (Kd.N_lower (Kd.N_mono (ok' := fun k_ => (P0_0_ k_ ∨ w.heap.size ≤ k_) ∧ k_ ≠ gb185 ∧ k_ ≠ gb186 ∧ k_ ≠ gb187) (Kd.S_N (Kd.S_bound ho0)) (fun k_ hk_ => ⟨(.inr (Nat.le_trans (below_size (bel3 HB GE185 GE186 GE187)) hk_.2.1)), (Kd.freshB (g := gb185) (o := .cells #[.slice A0_0 l0_0.length c0_0] 28 (0, 0)) (bkl BK185) k_ hk_.2.1), (Kd.freshB (g := gb186) (o := .cells #[.int .i64 a1_0, .int .i64 a1_1] 51 (0, 0)) (bkl BK186) k_ hk_.2.1), (Kd.freshB (g := gb187) (o := .cells #[.slice none 0 0] 28 (0, 0)) (bkl BK187) k_ hk_.2.1)⟩)) (below_size (bel3 HB GE185 GE186 GE187))); have n2_ := Aside0.mk (blk_below (g := gb185) (o := .cells #[.slice A0_0 l0_0.length c0_0] 28 (0, 0)) (bkl BK185) hb); have n3_ := Aside0.mk (blk_below (g := gb186) (o := .cells #[.int .i64 a1_0, .int .i64 a1_1] 51 (0, 0)) (bkl BK186) hb); have n4_ := Aside0.mk (blk_below (g := gb187) (o := .cells #[.slice none 0 0] 28 (0, 0)) (bkl BK187) hb); have n5_ := Aside0.mk (below_step (bel3 HB GE185 GE186 GE187) hb); clear HO_186000; clear BK185; clear BK186; clear BK187; clear HB; have HO_186000 := n0_; have HO193 := n1_; have BK185 := n2_; have BK186 := n3_; have BK187 := n4_; have HB := n5_; clear n0_ n1_ n2_ n3_ n4_ n5_; (try clear hb); (try clear hb2); (try clear hk); (try clear hi); (try clear ho0)) | ((with_reducible refine gate_dst (N := 8) rfl ?_); (try (refine gate_guard (by rfl) ?_; dsimp only)); refine box_event ?hg (N := 8) ?hd (cs := #[.slice none 0 0]) (t := 28) ?hr ?_; (case hd => rfl); (case hg => rfl); (case hr => first | (go_simp; done) | (go_simp; rfl)); intro gb194 hg w39 hbox hb; have n0_ := Aside0.mk (Kd.V_below (Kd.V_elderB (by (with_reducible repeat (first | apply Kd.V_alloc | apply Kd.V_drewN | apply Kd.V_drew)); exact HO_186000.out) gb194 (Nat.le_of_eq hg.symm)) hb); have n1_ := Aside0.mk (Kd.N_below (Kd.N_elderB (by (with_reducible repeat (first | apply Kd.N_alloc | apply Kd.N_drewN | apply Kd.N_drew)); exact HO193.out) gb194 (Nat.le_of_eq hg.symm)) hb); have n2_ := Aside0.mk (blk_below (g := gb185) (o := .cells #[.slice A0_0 l0_0.length c0_0] 28 (0, 0)) (bkl BK185) hb); have n3_ := Aside0.mk (blk_below (g := gb186) (o := .cells #[.int .i64 a1_0, .int .i64 a1_1] 51 (0, 0)) (bkl BK186) hb); have n4_ := Aside0.mk (blk_below (g := gb187) (o := .cells #[.slice none 0 0] 28 (0, 0)) (bkl BK187) hb); have n5_ := Aside0.mk (below_step (bel3 HB GE185 GE186 GE187) hb); have n6_ := Aside0.mk (hbox); have n7_ := Aside0.mk ((by rw [hg]; exact (below_size (bel3 HB GE185 GE186 GE187)) : w.heap.size ≤ gb194)); have n8_ := Aside0.mk ((by rw [hg]; exact (below_size (bel3 HB GE185 GE186 GE187)) : w.heap.size ≤ gb194)); have n9_ := Aside0.mk ((by rw [hg]; exact Nat.ne_of_lt (blk_lt (g := gb185) (o := .cells #[.slice A0_0 l0_0.length c0_0] 28 (0, 0)) (bkl BK185)) : gb185 ≠ gb194)); have n10_ := Aside0.mk ((by rw [hg]; exact Nat.ne_of_gt (blk_lt (g := gb185) (o := .cells #[.slice A0_0 l0_0.length c0_0] 28 (0, 0)) (bkl BK185)) : gb194 ≠ gb185)); have n11_ := Aside0.mk ((by rw [hg]; exact Nat.ne_of_lt (blk_lt (g := gb186) (o := .cells #[.int .i64 a1_0, .int .i64 a1_1] 51 (0, 0)) (bkl BK186)) : gb186 ≠ gb194)); have n12_ := Aside0.mk ((by rw [hg]; exact Nat.ne_of_gt (blk_lt (g := gb186) (o := .cells #[.int .i64 a1_0, .int .i64 a1_1] 51 (0, 0)) (bkl BK186)) : gb194 ≠ gb186)); have n13_ := Aside0.mk ((by rw [hg]; exact Nat.ne_of_lt (blk_lt (g := gb187) (o := .cells #[.slice none 0 0] 28 (0, 0)) (bkl BK187)) : gb187 ≠ gb194)); have n14_ := Aside0.mk ((by rw [hg]; exact Nat.ne_of_gt (blk_lt (g := gb187) (o := .cells #[.slice none 0 0] 28 (0, 0)) (bkl BK187)) : gb194 ≠ gb187)); clear HO_186000; clear HO193; clear BK185; clear BK186; clear BK187; clear HB; have HO_186000 := n0_; have HO193 := n1_; have BK185 := n2_; have BK186 := n3_; have BK187 := n4_; have HB := n5_; have BK194 := n6_; have GW194 := n7_; have GE194 := n8_; have NB185_194 := n9_; have NB194_185 := n10_; have NB186_194 := n11_; have NB194_186 := n12_; have NB187_194 := n13_; have NB194_187 := n14_; clear n0_ n1_ n2_ n3_ n4_ n5_ n6_ n7_ n8_ n9_ n10_ n11_ n12_ n13_ n14_; clear hb hbox hg; obtain ⟨Ao40, co40, eo40⟩ := Kd.N_slice HO193.out; subst eo40; have hnb41 := NB194_185.out; have hnc41 := NB185_194.out; have hnb42 := NB194_186.out; have hnc42 := NB186_194.out; have hnb43 := NB194_187.out; have hnc43 := NB187_194.out; have hcz44_0 : w39.cell? ⟨gb194, 0, none⟩ = some (.slice none 0 0) := (blk_cell BK194.out 0).trans rfl; have hfz44_0 := blk_frozen BK194.out 0))
         have n0_ : Aside0 (Kd.V (Kd.slice 3 (Kd.int .i64)) 29 (w39.setCell ⟨gb194, 0, none⟩ (.slice Ao40 t191.length co40)) w.heap.size (fun k_ => (P0_0_ k_ ∨ w.heap.size ≤ k_) ∧ some k_ ≠ (.slice Ao40 t191.length co40 : Value).ownBlock ∧ k_ ≠ gb185 ∧ k_ ≠ gb186 ∧ k_ ≠ gb187 ∧ k_ ≠ gb194) (.slice A0_0 l0_0.length c0_0) l0_0) := ⟨by (with_reducible repeat (first | apply Kd.V_alloc | apply Kd.V_drewN | apply Kd.V_drew)); exact Kd.V_mono (Kd.V_far (p := ⟨gb194, 0, none⟩) (Kd.V_mono HO_186000.out (fun k_ hk => (⟨hk, hk.2⟩ : _ ∧ k_ ≠ gb194))) (fun _ hk => hk.2) (.slice Ao40 t191.length co40)) (fun _ hk => ⟨hk.1.1.1.1, ⟨hk.1.1.2, ⟨hk.1.1.1.2.1, ⟨hk.1.1.1.2.2.1, ⟨hk.1.1.1.2.2.2, hk.1.2⟩⟩⟩⟩⟩)⟩
         have n1_ : Aside0 (Kd.N (Kd.slice 3 (Kd.int .i64)) 29 (w39.setCell ⟨gb194, 0, none⟩ (.slice Ao40 t191.length co40)) w.heap.size (fun k_ => (P0_0_ k_ ∨ w.heap.size ≤ k_) ∧ k_ ≠ gb185 ∧ k_ ≠ gb186 ∧ k_ ≠ gb187 ∧ k_ ≠ gb194) (.slice Ao40 t191.length co40) t191) := ⟨by (with_reducible repeat (first | apply Kd.N_alloc | apply Kd.N_drewN | apply Kd.N_drew)); exact Kd.N_mono (Kd.N_far (p := ⟨gb194, 0, none⟩) (Kd.N_mono HO193.out (fun k_ hk => (⟨hk, hk.2⟩ : _ ∧ k_ ≠ gb194))) (fun _ hk => hk.2) (.slice Ao40 t191.length co40)) (fun _ hk => ⟨hk.1.1.1, ⟨hk.1.1.2.1, ⟨hk.1.1.2.2.1, ⟨hk.1.1.2.2.2, hk.1.2⟩⟩⟩⟩)⟩
         have n2_ : Aside0 ((w39.setCell ⟨gb194, 0, none⟩ (.slice Ao40 t191.length co40)).heap[gb185]? = some (.cells #[.slice A0_0 l0_0.length c0_0] 28 (0, 0))) := ⟨by (with_reducible repeat (first | refine blk_drewN ?_ _ | refine blk_drew ?_ | refine blk_alloc ?_ _)); refine blk_far ?_ NB185_194.out _; (with_reducible repeat (first | refine blk_drewN ?_ _ | refine blk_drew ?_ | refine blk_alloc ?_ _)); exact BK185.out⟩
         have n3_ : Aside0 ((w39.setCell ⟨gb194, 0, none⟩ (.slice Ao40 t191.length co40)).heap[gb186]? = some (.cells #[.int .i64 a1_0, .int .i64 a1_1] 51 (0, 0))) := ⟨by (with_reducible repeat (first | refine blk_drewN ?_ _ | refine blk_drew ?_ | refine blk_alloc ?_ _)); refine blk_far ?_ NB186_194.out _; (with_reducible repeat (first | refine blk_drewN ?_ _ | refine blk_drew ?_ | refine blk_alloc ?_ _)); exact BK186.out⟩
         have n4_ : Aside0 ((w39.setCell ⟨gb194, 0, none⟩ (.slice Ao40 t191.length co40)).heap[gb187]? = some (.cells #[.slice none 0 0] 28 (0, 0))) := ⟨by (with_reducible repeat (first | refine blk_drewN ?_ _ | refine blk_drew ?_ | refine blk_alloc ?_ _)); refine blk_far ?_ NB187_194.out _; (with_reducible repeat (first | refine blk_drewN ?_ _ | refine blk_drew ?_ | refine blk_alloc ?_ _)); exact BK187.out⟩
         have n5_ : Aside0 ((w39.setCell ⟨gb194, 0, none⟩ (.slice Ao40 t191.length co40)).heap[gb194]? = some (.cells #[.slice Ao40 t191.length co40] 28 (0, 0))) := ⟨by (with_reducible repeat (first | refine blk_drewN ?_ _ | refine blk_drew ?_ | refine blk_alloc ?_ _)); refine blk_put (cs := #[.slice none 0 0]) ?_ 0 _ rfl; (with_reducible repeat (first | refine blk_drewN ?_ _ | refine blk_drew ?_ | refine blk_alloc ?_ _)); exact BK194.out⟩
         have n6_ : Aside0 (Below w.heap.size w (w39.setCell ⟨gb194, 0, none⟩ (.slice Ao40 t191.length co40))) := ⟨by repeat (first | (with_reducible first | exact HB.out | apply below_alloc | apply pw_below_drewN | apply below_drew1 | refine below_set ?_ GE185.out | refine below_set ?_ GE186.out | refine below_set ?_ GE187.out | refine below_set ?_ GE194.out) | exact HB.out)⟩
         (try clear HO_186000)
         (try clear HO193)
         (try clear BK185)
         (try clear BK186)
         (try clear BK187)
         (try clear BK194)
         (try clear HB)
         generalize (w39.setCell ⟨gb194, 0, none⟩ (.slice Ao40 t191.length co40)) = w45 at n0_ n1_ n2_ n3_ n4_ n5_ n6_ ⊢
         have HO_186000 := n0_
         have HO193 := n1_
         have BK185 := n2_
         have BK186 := n3_
         have BK187 := n4_
         have BK194 := n5_
         have HB := n6_
         clear n0_ n1_ n2_ n3_ n4_ n5_ n6_
         have n0_ := Aside0.mk (Kd.V_drew HO_186000.out)
         have n1_ := Aside0.mk (Kd.N_drew HO193.out)
         have n2_ := Aside0.mk (blk_drew BK185.out)
         have n3_ := Aside0.mk (blk_drew BK186.out)
         have n4_ := Aside0.mk (blk_drew BK187.out)
         have n5_ := Aside0.mk (blk_drew BK194.out)
         have n6_ := Aside0.mk (below_drew1 HB.out)
         clear HO_186000
         clear HO193
         clear BK185
         clear BK186
         clear BK187
         clear BK194
         clear HB
         have HO_186000 := n0_
         have HO193 := n1_
         have BK185 := n2_
         have BK186 := n3_
         have BK187 := n4_
         have BK194 := n5_
         have HB := n6_
         clear n0_ n1_ n2_ n3_ n4_ n5_ n6_
         have p195 : 0 ≤ (t188 : Int) := oda
         have q195 : t188 < (t191.length : Int) := oda
         obtain ⟨ad195, A195_0, c195_0, e195, hx195_0, hl195_0, hi195_0⟩ := at_L1 (Kd.N_reads' HO193.out).2.2 t188 p195 q195
         cases e195
         obtain ⟨ce195, hce195, hMe195, hcc195⟩ := Kd.N_get HO193.out [] t188 p195 (by first | exact q195 | exact oda | (have e_ := (Kd.N_reads' HO193.out).1; omega))
         obtain ⟨ua195_0, uc195_0, rfl, ul195_0, ge195_0⟩ := Kd.FK_slice_open hMe195
         have hv195_0 := hcc195 0 _ rfl
         rw [Nat.add_zero, show ((Kd.slice 3 (Kd.int .i64))).sz = 1 from rfl, Nat.mul_one] at hv195_0
         replace hv195_0 := Option.some.inj (hv195_0.symm.trans hx195_0)
         injection hv195_0 with hva_ hvn_ hvc_
         rw [hva_] at ge195_0
         rw [hvc_] at ul195_0
         have HL195_0 := Aside0.mk (show Kd.V (Kd.int .i64) 3 _ w.heap.size _ _ (rd_L1 t191 t188) from Kd.V_mk ul195_0 ge195_0)
         clear hva_ hvn_ hvc_ ge195_0 ul195_0
         clear hcc195 hce195
         have HR195_0 := Aside0.mk hi195_0
         have HC195_0 := Aside0.mk hl195_0
         clear hi195_0 hl195_0
         replace p195 := eq_true p195
         replace q195 := eq_true q195
         have q47 : (t189 : Int) ≤ (((rd_L1 t191 t188).length : Int) : Int) := oda
         obtain ⟨i047, hi047, _, hsz47, _⟩ := info_parts info3
         have hroom47 : (rd_L1 t191 t188).length ≤ c195_0 := HC195_0.out
         have hC47 : Kd.F (Kd.int .i64) _ _ A195_0 (rd_L1 t191 t188).length (rd_L1 t191 t188) := (Kd.V_at (base := w.heap.size) HL195_0.out).2.2
         have hcut47 := cut_to (P := Try.prog) 29 3 .i64 Try.underlying29 hi047 A195_0 (rd_L1 t191 t188).length c195_0 t189 (oda) q47 hroom47
         have hr47 := Kd.F_take (m := (t189 : Int).toNat) hC47 (by omega)
         have hy47 : y196.length = (t189 : Int).toNat := (by rw [Ny196.out, List.length_take]; omega)
         rw [← Ny196.out] at hr47
         rw [← hy47] at hcut47
         have HO200 := Aside0.mk (show Kd.V (Kd.int .i64) 3 _ w.heap.size _ (.slice A195_0 y196.length c195_0) y196 from Kd.V_mk (by omega) hr47)
         have HC200 := Aside0.mk (show y196.length ≤ c195_0 from by omega)
         clear hr47 hC47 hroom47 hi047 hsz47
         have KY47 := Aside0.mk hy47
         clear hy47
         replace q47 := eq_true q47
         have p32 : 0 ≤ (t188 : Int) := oda
         have q32 : (t188 : Int) < ((t191.length : Int) : Int) := oda
         obtain ⟨go32, co32, eo32, gb32, gl32, cl32, HG32⟩ := Kd.N_form HO193.out (by omega)
         (first | cases eo32 | (injection eo32 with ea_ en_ ec_; (first | subst ea_ | (injection ea_ with ea_; subst ea_)); subst ec_; clear en_))
         have GB32 := Aside0.mk gb32
         have GG32 := Aside0.mk HG32
         clear gb32 gl32 HG32
         (first | simp only [add_plain] at hx195_0 | skip)
         obtain ⟨ce32, hcl32, hM32, hcc32, hfr32⟩ := Kd.N_elem HO193.out [] (t188 : Int) p32 q32
         obtain ⟨ua32_0, uc32_0, rfl, ul32_0, ge32_0⟩ := Kd.FK_slice_open hM32
         have hx32_0 := hcc32 0 _ rfl
         have hf32_0 := hfr32 0
         (try simp only [show ((Kd.slice 3 (Kd.int .i64))).sz = 1 from rfl, Nat.mul_one, Nat.add_zero] at hx32_0)
         (try simp only [show ((Kd.slice 3 (Kd.int .i64))).sz = 1 from rfl, Nat.mul_one, Nat.add_zero] at hf32_0)
         clear hcl32 hcc32 hfr32; (try clear hM32)
         replace p32 := eq_true p32
         replace q32 := eq_true q32
         have HX48 := Aside0.mk (show Kd.N (Kd.slice 3 (Kd.int .i64)) 29 _ w.heap.size (fun k_ => (P0_0_ k_ ∨ w.heap.size ≤ k_) ∧ k_ ≠ gb185 ∧ k_ ≠ gb186 ∧ k_ ≠ gb187 ∧ k_ ≠ gb194) (.slice (some ⟨go32, 0, none⟩) t191.length co40) t191 from (Kd.N_mono (HO193.out) (fun k_ hk => ⟨hk.1, ⟨hk.2.1, ⟨hk.2.2.1, ⟨hk.2.2.2.1, hk.2.2.2.2⟩⟩⟩⟩)))
         obtain ⟨ce48, hcl48, hM48, hcc48, hfr48⟩ := Kd.N_elem HX48.out [] (t188 : Int) (oda) (by have h_ : (t188 : Int) < ((t191.length : Int) : Int) := oda; first | exact h_ | (have e_ := (Kd.N_reads' HO193.out).1; omega) | simpa using h_)
         obtain ⟨ua48_0, uc48_0, rfl, ul48_0, ge48_0⟩ := Kd.FK_slice_open hM48
         have HP48 := (Kd.N_seg HX48.out (t188 : Int) (oda) (by have h_ : (t188 : Int) < ((t191.length : Int) : Int) := oda; first | exact h_ | (have e_ := (Kd.N_reads' HO193.out).1; omega) | simpa using h_) (seg := [.slice A195_0 y196.length c195_0]) (j := 0) hcl48 hcc48 (show 1 ≤ 1 from by decide) (x' := y196) (Kd.FK_slice_mk (Kd.V_reads' (Kd.V_mono (ok' := (fun k_ => ((fun k_ => (P0_0_ k_ ∨ w.heap.size ≤ k_) ∧ k_ ≠ gb185 ∧ k_ ≠ gb186 ∧ k_ ≠ gb187 ∧ k_ ≠ gb194)) k_ ∧ k_ ≠ go32)) (HO200.out) (fun k_ hk => ⟨⟨hk.1.1, ⟨hk.1.2.1, ⟨hk.1.2.2.1, ⟨hk.1.2.2.2.1, hk.1.2.2.2.2⟩⟩⟩⟩, fun e_ => (hk.2) (by rw [e_]; rfl)⟩))).2.1 (Kd.V_F (Kd.V_mono (ok' := (fun k_ => ((fun k_ => (P0_0_ k_ ∨ w.heap.size ≤ k_) ∧ k_ ≠ gb185 ∧ k_ ≠ gb186 ∧ k_ ≠ gb187 ∧ k_ ≠ gb194)) k_ ∧ k_ ≠ go32)) (HO200.out) (fun k_ hk => ⟨⟨hk.1.1, ⟨hk.1.2.1, ⟨hk.1.2.2.1, ⟨hk.1.2.2.2.1, hk.1.2.2.2.2⟩⟩⟩⟩, fun e_ => (hk.2) (by rw [e_]; rfl)⟩)))) (fun _ hk => hk)).1
         (try simp only [show ((Kd.slice 3 (Kd.int .i64))).sz = 1 from rfl, Nat.mul_one, Nat.add_zero] at HP48)
         rw [← Ny201.out] at HP48
         have HQ48 := Aside0.mk HP48
         clear hcl48 hcc48 hfr48 HP48; (try clear hM48)
         refine start_ (n := 12) (S := fun w' => w'.cell? ⟨gb194, 0, none⟩ = some (.slice (some ⟨go32, 0, none⟩) t191.length co40) ∧ w'.cell? ⟨go32, (t188).toNat, none⟩ = some (.slice A195_0 (rd_L1 t191 t188).length c195_0)) (ds := [11]) #[false, false, false, false, false, false, false, false, false, false, false, false] (by kernel_rfl) rfl rfl ⟨(blk_cell BK194.out 0).trans rfl, hx195_0⟩ (fun hHeld => ?_); refine with_tabW spec_l6Step.tab6 spec_l6Step.bits6 (fun HT_ HW_ => ?_)
         generalize w45.drew = w46 at HO_186000 HO193 BK185 BK186 BK187 BK194 HB GG32 HL195_0 HO200 HQ48 HR195_0 hf32_0 hx195_0 hx32_0 hHeld ⊢
         refine pure_ (i := 0) (N := some 35) (v := ?_) (a' := ?_) #[true, false, false, false, false, false, false, false, false, false, false, false] rfl rfl (any_of HT_.out (by kernel_rfl)) (fun _ _ _ h => h) (Or.inl ⟨by rfl, ?_⟩) ?_ ?_
         rotate_left
         ·intro w'
          go_simp
          with_reducible rfl
         rotate_left
         ·simp only [Act.put, List.setIfInBounds_toArray, List.set_cons_zero, List.set_cons_succ, i64_w, i32_w]
          rfl
         refine pure_ (i := 2) (N := some 37) (v := ?_) (a' := ?_) #[true, false, true, false, false, false, false, false, false, false, false, false] rfl rfl (any_of HT_.out (by kernel_rfl)) (fun _ _ _ h => h) (Or.inl ⟨by rfl, ?_⟩) ?_ ?_
         rotate_left
         ·intro w'
          go_simp
          with_reducible rfl
         rotate_left
         ·simp only [Act.put, List.setIfInBounds_toArray, List.set_cons_zero, List.set_cons_succ, i64_w, i32_w]
          rfl
         refine pure_ (i := 3) (N := some 38) (v := ?_) (a' := ?_) #[true, false, true, true, false, false, false, false, false, false, false, false] rfl rfl (any_of HT_.out (by kernel_rfl)) (fun _ _ _ h => h) (Or.inl ⟨by rfl, ?_⟩) ?_ ?_
         rotate_left
         ·intro w'
          go_simp
          with_reducible rfl
         rotate_left
         ·simp only [Act.put, List.setIfInBounds_toArray, List.set_cons_zero, List.set_cons_succ, i64_w, i32_w]
          rfl
         refine pure_ (i := 5) (N := some 40) (v := ?_) (a' := ?_) #[true, false, true, true, false, true, false, false, false, false, false, false] rfl rfl (any_of HT_.out (by kernel_rfl)) (fun _ _ _ h => h) (Or.inl ⟨by rfl, ?_⟩) ?_ ?_
         rotate_left
         ·intro w'
          go_simp
          with_reducible rfl
         rotate_left
         ·simp only [Act.put, List.setIfInBounds_toArray, List.set_cons_zero, List.set_cons_succ, i64_w, i32_w]
          rfl
         refine pure_ (i := 8) (N := some 43) (v := ?_) (a' := ?_) #[true, false, true, true, false, true, false, false, true, false, false, false] rfl rfl (any_of HT_.out (by kernel_rfl)) (fun _ _ _ h => h) (Or.inl ⟨by rfl, ?_⟩) ?_ ?_
         rotate_left
         ·intro w'
          go_simp
          with_reducible rfl
         rotate_left
         ·simp only [Act.put, List.setIfInBounds_toArray, List.set_cons_zero, List.set_cons_succ, i64_w, i32_w]
          rfl
         refine take_ (i := 1) (N := some 36) (v := ?_) (a' := ?_) #[true, true, true, true, false, true, false, false, true, false, false, false] rfl rfl (take_ofW HT_.out HW_.out (by kernel_rfl)) (fun _ _ _ h => h) (Or.inl ⟨by rfl, ?_⟩) hHeld ?_ ?_
         rotate_left
         ·rintro w' ⟨s0, s1⟩
          go_simp
          with_reducible rfl
         rotate_left
         ·simp only [Act.put, List.setIfInBounds_toArray, List.set_cons_zero, List.set_cons_succ, i64_w, i32_w]
          rfl
         refine take_ (i := 4) (N := some 39) (v := ?_) (a' := ?_) #[true, true, true, true, true, true, false, false, true, false, false, false] rfl rfl (take_ofW HT_.out HW_.out (by kernel_rfl)) (fun _ _ _ h => h) (Or.inl ⟨by rfl, ?_⟩) hHeld ?_ ?_
         rotate_left
         ·rintro w' ⟨s0, s1⟩
          go_simp
          with_reducible rfl
         rotate_left
         ·simp only [Act.put, List.setIfInBounds_toArray, List.set_cons_zero, List.set_cons_succ, i64_w, i32_w]
          rfl
         refine pure_ (i := 6) (N := some 41) (v := ?_) (a' := ?_) #[true, true, true, true, true, true, true, false, true, false, false, false] rfl rfl (any_of HT_.out (by kernel_rfl)) (fun _ _ _ h => h) (Or.inl ⟨by rfl, ?_⟩) ?_ ?_
         rotate_left
         ·intro w'
          go_simp
          with_reducible rfl
         rotate_left
         ·simp only [Act.put, List.setIfInBounds_toArray, List.set_cons_zero, List.set_cons_succ, i64_w, i32_w]
          rfl
         refine take_ (i := 7) (N := some 42) (v := ?_) (a' := ?_) #[true, true, true, true, true, true, true, true, true, false, false, false] rfl rfl (take_ofW HT_.out HW_.out (by kernel_rfl)) (fun _ _ _ h => h) (Or.inl ⟨by rfl, ?_⟩) hHeld ?_ ?_
         rotate_left
         ·rintro w' ⟨s0, s1⟩
          go_simp
          with_reducible rfl
         rotate_left
         ·simp only [Act.put, List.setIfInBounds_toArray, List.set_cons_zero, List.set_cons_succ, i64_w, i32_w]
          rfl
         refine pure_ (i := 9) (N := some 44) (v := ?_) (a' := ?_) #[true, true, true, true, true, true, true, true, true, true, false, false] rfl rfl (any_of HT_.out (by kernel_rfl)) (fun _ _ _ h => h) (Or.inl ⟨by rfl, ?_⟩) ?_ ?_
         rotate_left
         ·intro w'
          go_simp
          with_reducible rfl
         rotate_left
         ·simp only [Act.put, List.setIfInBounds_toArray, List.set_cons_zero, List.set_cons_succ, i64_w, i32_w]
          rfl
         refine pure_ (i := 10) (N := some 45) (v := ?_) (a' := ?_) #[true, true, true, true, true, true, true, true, true, true, true, false] rfl rfl (any_of HT_.out (by kernel_rfl)) (fun _ _ _ h => h) (Or.inl ⟨by rfl, ?_⟩) ?_ ?_
         rotate_left
         ·intro w'
          go_simp
          with_reducible rfl
         rotate_left
         ·simp only [Act.put, List.setIfInBounds_toArray, List.set_cons_zero, List.set_cons_succ, i64_w, i32_w]
          rfl
         refine last_ (i := 11) (N := none) #[true, true, true, true, true, true, true, true, true, true, true, true] rfl rfl (one_of HT_.out (by kernel_rfl)) (by decide) (fun K hK => ?_)
         refine skip_ (w1 := ?_) (by rfl) rfl ?_ ?_
         rotate_left
         ·go_simp
          rfl
         refine hK.out _ _ ?_
         clear hK K
         refine done_ (done_of HT_.out (by kernel_rfl)) ?_
         have n0_ : Aside0 (Kd.V (Kd.slice 3 (Kd.int .i64)) 29 (w46.setCell ⟨go32, (t188 : Int).toNat, none⟩ (.slice A195_0 y196.length c195_0)) w.heap.size (fun k_ => (P0_0_ k_ ∨ w.heap.size ≤ k_) ∧ some k_ ≠ (.slice (some ⟨go32, 0, none⟩) t191.length co40 : Value).ownBlock ∧ k_ ≠ gb185 ∧ k_ ≠ gb186 ∧ k_ ≠ gb187 ∧ k_ ≠ gb194) (.slice A0_0 l0_0.length c0_0) l0_0) := ⟨by (with_reducible repeat (first | apply Kd.V_alloc | apply Kd.V_drewN | apply Kd.V_drew)); exact Kd.V_mono (Kd.V_far (p := ⟨go32, (t188 : Int).toNat, none⟩) (Kd.V_mono HO_186000.out (fun k_ hk => (⟨hk, fun e_ => hk.2.1 (by rw [e_]; rfl)⟩ : _ ∧ k_ ≠ go32))) (fun _ hk => hk.2) (.slice A195_0 y196.length c195_0)) (fun _ hk => ⟨hk.1.1, ⟨hk.1.2.1, ⟨hk.1.2.2.1, ⟨hk.1.2.2.2.1, ⟨hk.1.2.2.2.2.1, hk.1.2.2.2.2.2⟩⟩⟩⟩⟩)⟩
         have n1_ : Aside0 (Kd.N (Kd.slice 3 (Kd.int .i64)) 29 (w46.setCell ⟨go32, (t188 : Int).toNat, none⟩ (.slice A195_0 y196.length c195_0)) w.heap.size (fun k_ => (P0_0_ k_ ∨ w.heap.size ≤ k_) ∧ k_ ≠ gb185 ∧ k_ ≠ gb186 ∧ k_ ≠ gb187 ∧ k_ ≠ gb194) (.slice (some ⟨go32, 0, none⟩) t191.length co40) y201) := ⟨by (with_reducible repeat (first | apply Kd.N_alloc | apply Kd.N_drewN | apply Kd.N_drew)); exact HQ48.out⟩
         have n2_ : Aside0 (Kd.V (Kd.int .i64) 3 (w46.setCell ⟨go32, (t188 : Int).toNat, none⟩ (.slice A195_0 y196.length c195_0)) w.heap.size (fun k_ => (P0_0_ k_ ∨ w.heap.size ≤ k_) ∧ some k_ ≠ (.slice (some ⟨go32, 0, none⟩) t191.length co40 : Value).ownBlock ∧ k_ ≠ gb185 ∧ k_ ≠ gb186 ∧ k_ ≠ gb187 ∧ k_ ≠ gb194) (.slice A195_0 (rd_L1 t191 t188).length c195_0) (rd_L1 t191 t188)) := ⟨by (with_reducible repeat (first | apply Kd.V_alloc | apply Kd.V_drewN | apply Kd.V_drew)); exact Kd.V_mono (Kd.V_far (p := ⟨go32, (t188 : Int).toNat, none⟩) (Kd.V_mono HL195_0.out (fun k_ hk => (⟨hk, fun e_ => hk.2 (by rw [e_]; rfl)⟩ : _ ∧ k_ ≠ go32))) (fun _ hk => hk.2) (.slice A195_0 y196.length c195_0)) (fun _ hk => ⟨hk.1.1.1, ⟨hk.1.2, ⟨hk.1.1.2.1, ⟨hk.1.1.2.2.1, ⟨hk.1.1.2.2.2.1, hk.1.1.2.2.2.2⟩⟩⟩⟩⟩)⟩
         have n3_ : Aside0 (Kd.V (Kd.int .i64) 3 (w46.setCell ⟨go32, (t188 : Int).toNat, none⟩ (.slice A195_0 y196.length c195_0)) w.heap.size (fun k_ => (P0_0_ k_ ∨ w.heap.size ≤ k_) ∧ some k_ ≠ (.slice (some ⟨go32, 0, none⟩) t191.length co40 : Value).ownBlock ∧ k_ ≠ gb185 ∧ k_ ≠ gb186 ∧ k_ ≠ gb187 ∧ k_ ≠ gb194) (.slice A195_0 y196.length c195_0) y196) := ⟨by (with_reducible repeat (first | apply Kd.V_alloc | apply Kd.V_drewN | apply Kd.V_drew)); exact Kd.V_mono (Kd.V_far (p := ⟨go32, (t188 : Int).toNat, none⟩) (Kd.V_mono HO200.out (fun k_ hk => (⟨hk, fun e_ => hk.2 (by rw [e_]; rfl)⟩ : _ ∧ k_ ≠ go32))) (fun _ hk => hk.2) (.slice A195_0 y196.length c195_0)) (fun _ hk => ⟨hk.1.1.1, ⟨hk.1.2, ⟨hk.1.1.2.1, ⟨hk.1.1.2.2.1, ⟨hk.1.1.2.2.2.1, hk.1.1.2.2.2.2⟩⟩⟩⟩⟩)⟩
         have n4_ : Aside0 ((w46.setCell ⟨go32, (t188 : Int).toNat, none⟩ (.slice A195_0 y196.length c195_0)).heap[gb185]? = some (.cells #[.slice A0_0 l0_0.length c0_0] 28 (0, 0))) := ⟨by (with_reducible repeat (first | refine blk_drewN ?_ _ | refine blk_drew ?_ | refine blk_alloc ?_ _)); refine blk_far ?_ (by have h_ := Kd.N_away HO193.out (fun _ hk => hk.2.1); intro e_; exact h_ (by rw [e_]; rfl)) _; (with_reducible repeat (first | refine blk_drewN ?_ _ | refine blk_drew ?_ | refine blk_alloc ?_ _)); exact BK185.out⟩
         have n5_ : Aside0 ((w46.setCell ⟨go32, (t188 : Int).toNat, none⟩ (.slice A195_0 y196.length c195_0)).heap[gb186]? = some (.cells #[.int .i64 a1_0, .int .i64 a1_1] 51 (0, 0))) := ⟨by (with_reducible repeat (first | refine blk_drewN ?_ _ | refine blk_drew ?_ | refine blk_alloc ?_ _)); refine blk_far ?_ (by have h_ := Kd.N_away HO193.out (fun _ hk => hk.2.2.1); intro e_; exact h_ (by rw [e_]; rfl)) _; (with_reducible repeat (first | refine blk_drewN ?_ _ | refine blk_drew ?_ | refine blk_alloc ?_ _)); exact BK186.out⟩
         have n6_ : Aside0 ((w46.setCell ⟨go32, (t188 : Int).toNat, none⟩ (.slice A195_0 y196.length c195_0)).heap[gb187]? = some (.cells #[.slice none 0 0] 28 (0, 0))) := ⟨by (with_reducible repeat (first | refine blk_drewN ?_ _ | refine blk_drew ?_ | refine blk_alloc ?_ _)); refine blk_far ?_ (by have h_ := Kd.N_away HO193.out (fun _ hk => hk.2.2.2.1); intro e_; exact h_ (by rw [e_]; rfl)) _; (with_reducible repeat (first | refine blk_drewN ?_ _ | refine blk_drew ?_ | refine blk_alloc ?_ _)); exact BK187.out⟩
         have n7_ : Aside0 ((w46.setCell ⟨go32, (t188 : Int).toNat, none⟩ (.slice A195_0 y196.length c195_0)).heap[gb194]? = some (.cells #[.slice (some ⟨go32, 0, none⟩) t191.length co40] 28 (0, 0))) := ⟨by (with_reducible repeat (first | refine blk_drewN ?_ _ | refine blk_drew ?_ | refine blk_alloc ?_ _)); refine blk_far ?_ (by have h_ := Kd.N_away HO193.out (fun _ hk => hk.2.2.2.2); intro e_; exact h_ (by rw [e_]; rfl)) _; (with_reducible repeat (first | refine blk_drewN ?_ _ | refine blk_drew ?_ | refine blk_alloc ?_ _)); exact BK194.out⟩
         have n8_ : Aside0 (Below w.heap.size w (w46.setCell ⟨go32, (t188 : Int).toNat, none⟩ (.slice A195_0 y196.length c195_0))) := ⟨by repeat (first | (with_reducible first | exact HB.out | apply below_alloc | apply pw_below_drewN | apply below_drew1 | refine below_set ?_ GB32.out | refine below_set ?_ GE185.out | refine below_set ?_ GE186.out | refine below_set ?_ GE187.out | refine below_set ?_ GE194.out) | exact HB.out)⟩
         (try clear HO_186000)
         (try clear HO193)
         (try clear HL195_0)
         (try clear HO200)
         (try clear BK185)
         (try clear BK186)
         (try clear BK187)
         (try clear BK194)
         (try clear HB)
         generalize (w46.setCell ⟨go32, (t188 : Int).toNat, none⟩ (.slice A195_0 y196.length c195_0)) = w49 at n0_ n1_ n2_ n3_ n4_ n5_ n6_ n7_ n8_ ⊢
         have HO_186000 := n0_
         have HO193 := n1_
         have HL195_0 := n2_
         have HO200 := n3_
         have BK185 := n4_
         have BK186 := n5_
         have BK187 := n6_
         have BK194 := n7_
         have HB := n8_
         clear n0_ n1_ n2_ n3_ n4_ n5_ n6_ n7_ n8_
         have hcz50_0 : w49.cell? ⟨gb194, 0, none⟩ = some (.slice (some ⟨go32, 0, none⟩) t191.length co40) := (blk_cell BK194.out 0).trans rfl
         have hfz50_0 := blk_frozen BK194.out 0
         have hcz51_0 : w49.cell? ⟨gb187, 0, none⟩ = some (.slice none 0 0) := (blk_cell BK187.out 0).trans rfl
         have hfz51_0 := blk_frozen BK187.out 0
         try go_wp2
         refine bodyPost_ret (results_ct rfl _ _ gb187 28 #[.slice (some ⟨go32, 0, none⟩) t191.length co40] (0, 0) _ rfl (by (with_reducible repeat (first | refine blk_drewN ?_ _ | refine blk_drew ?_ | refine blk_alloc ?_ _)); refine blk_put (cs := #[.slice none 0 0]) ?_ 0 _ rfl; (with_reducible repeat (first | refine blk_drewN ?_ _ | refine blk_drew ?_ | refine blk_alloc ?_ _)); exact BK187.out) Try.underlying28 rfl (by kernel_rfl)) rfl ?_
         exact ⟨_, by first | rfl | (simp [errW_none, errW_some] <;> rfl) | (simp [*, errW_none, errW_some] <;> rfl), Kd.N_V (by (with_reducible repeat (first | apply Kd.N_alloc | apply Kd.N_drewN | apply Kd.N_drew)); exact Kd.N_mono (Kd.N_far (p := ⟨gb187, 0, none⟩) (Kd.N_mono HO193.out (fun k_ hk => (⟨hk, hk.2.2.2.1⟩ : _ ∧ k_ ≠ gb187))) (fun _ hk => hk.2) (.slice (some ⟨go32, 0, none⟩) t191.length co40)) (fun _ hk => hk.1.1)), by repeat (first | (with_reducible first | exact HB.out | apply below_alloc | apply pw_below_drewN | apply below_drew1 | refine below_set ?_ GE185.out | refine below_set ?_ GE186.out | refine below_set ?_ GE187.out | refine below_set ?_ GE194.out) | exact HB.out)⟩
        ·rw [if_neg c31] at H
         exact absurd H (by simp)
       ·rw [if_neg c30] at H
        exact absurd H (by simp)
      ·rw [if_neg c29] at H
       exact absurd H (by simp)
     ·rw [if_neg c28] at H
      exact absurd H (by simp)
    ·rw [if_neg c26] at H
     have c26b0 : (a1_1 == (-1)) = false := beq_eq_false_iff_ne.mpr c26
     have c26b1 : (a1_1 != (-1)) = true := bne_iff_ne.mpr c26
     replace H := Option.bind_eq_some_iff.mp H
     obtain ⟨t202, A520, H⟩ := H
     replace H : (if t202 = true then (if a1_1 = t188 then (some (l0_0, false)) else (if 0 ≤ a1_1 then (if a1_1 < (l0_0.length : Int) then (if ((rd_L1 l0_0 a1_1).length : Int) = 4 then (some (l0_0, false)) else ((spec_l5Move.f kj3 l0_0 t188 a1_1).bind fun t204 => (some (t204, true)))) else (none)) else (none))) else (some (l0_0, false))) = some (r1, r2) := H
     have A52 := Aside0.mk A520
     clear A520
     by_cases c53 : t202 = true
     ·subst c53
      have H1 : (if a1_1 = t188 then (some (l0_0, false)) else (if 0 ≤ a1_1 then (if a1_1 < (l0_0.length : Int) then (if ((rd_L1 l0_0 a1_1).length : Int) = 4 then (some (l0_0, false)) else ((spec_l5Move.f kj3 l0_0 t188 a1_1).bind fun t204 => (some (t204, true)))) else (none)) else (none))) = some (r1, r2) := by rw [if_pos rfl] at H; exact H
      clear H
      have H := H1
      clear H1
      by_cases c54 : a1_1 = t188
      ·rw [if_pos c54] at H
       have c54b0 : (a1_1 == t188) = true := beq_iff_eq.mpr c54
       have c54b1 : (a1_1 != t188) = false := bne_eq_false_iff_eq.mpr c54
       clear c54
       simp only [Option.some.injEq, Prod.mk.injEq] at H
       obtain ⟨rfl, rfl⟩ := H
       have hnb55 := NB186_185.out
       have hnc55 := NB185_186.out
       have hnb56 := NB186_187.out
       have hnc56 := NB187_186.out
       have hcz57_0 : wc.cell? ⟨gb186, 0, none⟩ = some (.int .i64 a1_0) := (blk_cell BK186.out 0).trans rfl
       have hcz57_1 : wc.cell? ⟨gb186, 1, none⟩ = some (.int .i64 a1_1) := (blk_cell BK186.out 1).trans rfl
       have hfz57_0 := blk_frozen BK186.out 0
       have hfz57_1 := blk_frozen BK186.out 1
       have hnb58 := NB185_187.out
       have hnc58 := NB187_185.out
       have hcz59_0 : wc.cell? ⟨gb185, 0, none⟩ = some (.slice A0_0 l0_0.length c0_0) := (blk_cell BK185.out 0).trans rfl
       have hfz59_0 := blk_frozen BK185.out 0
       go_wp2_with (first | ((with_reducible refine gate_callee (f := 43) rfl ?_); refine goesL_ (some 53) rfl rfl Try.func43 (by kernel_rfl) rfl #[.int .i64 a1_1, .int .i64 0, .int .i64 (wrap64 ((l0_0.length : Int) - 1))] rfl gmp ?_; (with_reducible refine (spec_l1In.calls a1_1 0 (wrap64 ((l0_0.length : Int) - 1)) true _ A52.out).mono ?_); rintro e w' ⟨rfl, ⟨nd, rfl⟩⟩; refine ⟨_, rfl, ?_⟩; (try (rw [drewN_self wc]; generalize hq_ : World.drewN wc _ = wc; have n0_ : Aside0 (Kd.V (Kd.slice 3 (Kd.int .i64)) 29 wc w.heap.size (fun k_ => (P0_0_ k_ ∨ w.heap.size ≤ k_) ∧ k_ ≠ gb185 ∧ k_ ≠ gb186 ∧ k_ ≠ gb187) (.slice A0_0 l0_0.length c0_0) l0_0) := ⟨by rw [← hq_]; exact (by (with_reducible repeat (first | apply Kd.V_alloc | apply Kd.V_drewN | apply Kd.V_drew)); exact HO_186000.out)⟩; have n1_ : Aside0 (wc.heap[gb185]? = some (.cells #[.slice A0_0 l0_0.length c0_0] 28 (0, 0))) := ⟨by rw [← hq_]; exact (bkl BK185)⟩; have n2_ : Aside0 (wc.heap[gb186]? = some (.cells #[.int .i64 a1_0, .int .i64 a1_1] 51 (0, 0))) := ⟨by rw [← hq_]; exact (bkl BK186)⟩; have n3_ : Aside0 (wc.heap[gb187]? = some (.cells #[.slice none 0 0] 28 (0, 0))) := ⟨by rw [← hq_]; exact (bkl BK187)⟩; have n4_ : Aside0 (Below w.heap.size w wc) := ⟨by rw [← hq_]; exact (bel3 HB GE185 GE186 GE187)⟩; clear HO_186000 BK185 BK186 BK187 HB hq_; have HO_186000 := n0_; have BK185 := n1_; have BK186 := n2_; have BK187 := n3_; have HB := n4_; clear n0_ n1_ n2_ n3_ n4_)); have hq0_ : wc.cell? ⟨gb185, 0, none⟩ = some (.slice A0_0 l0_0.length c0_0) := (blk_cell BK185.out 0).trans rfl; have hq1_ : wc.cell? ⟨gb186, 1, none⟩ = some (.int .i64 a1_1) := (blk_cell BK186.out 1).trans rfl; have hcz60_0 : wc.cell? ⟨gb187, 0, none⟩ = some (.slice none 0 0) := (blk_cell BK187.out 0).trans rfl; have hfz60_0 := blk_frozen BK187.out 0))
       refine bodyPost_ret (results_ct rfl _ _ gb187 28 #[.slice A0_0 l0_0.length c0_0] (0, 0) _ rfl (by (with_reducible repeat (first | refine blk_drewN ?_ _ | refine blk_drew ?_ | refine blk_alloc ?_ _)); refine blk_put (cs := #[.slice none 0 0]) ?_ 0 _ rfl; (with_reducible repeat (first | refine blk_drewN ?_ _ | refine blk_drew ?_ | refine blk_alloc ?_ _)); exact BK187.out) Try.underlying28 rfl (by kernel_rfl)) rfl ?_
       exact ⟨_, by first | rfl | (simp [errW_none, errW_some] <;> rfl) | (simp [*, errW_none, errW_some] <;> rfl), by (with_reducible repeat (first | apply Kd.V_alloc | apply Kd.V_drewN | apply Kd.V_drew)); exact Kd.V_mono (Kd.V_far (p := ⟨gb187, 0, none⟩) (Kd.V_mono HO_186000.out (fun k_ hk => (⟨hk, hk.2.2.2⟩ : _ ∧ k_ ≠ gb187))) (fun _ hk => hk.2) (.slice A0_0 l0_0.length c0_0)) (fun _ hk => hk.1.1), bel3 HB GE185 GE186 GE187⟩
      ·rw [if_neg c54] at H
       have c54b0 : (a1_1 == t188) = false := beq_eq_false_iff_ne.mpr c54
       have c54b1 : (a1_1 != t188) = true := bne_iff_ne.mpr c54
       by_cases c61 : 0 ≤ a1_1
       ·rw [if_pos c61] at H
        have c61b0 : decide (0 ≤ a1_1) = true := decide_eq_true c61
        clear c61
        by_cases c62 : a1_1 < (l0_0.length : Int)
        ·rw [if_pos c62] at H
         have c62b0 : decide (a1_1 < (l0_0.length : Int)) = true := decide_eq_true c62
         clear c62
         by_cases c63 : ((rd_L1 l0_0 a1_1).length : Int) = 4
         ·rw [if_pos c63] at H
          have c63b0 : (((rd_L1 l0_0 a1_1).length : Int) == 4) = true := beq_iff_eq.mpr c63
          have c63b1 : (((rd_L1 l0_0 a1_1).length : Int) != 4) = false := bne_eq_false_iff_eq.mpr c63
          clear c63
          simp only [Option.some.injEq, Prod.mk.injEq] at H
          obtain ⟨rfl, rfl⟩ := H
          have hnb64 := NB186_185.out
          have hnc64 := NB185_186.out
          have hnb65 := NB186_187.out
          have hnc65 := NB187_186.out
          have hcz66_0 : wc.cell? ⟨gb186, 0, none⟩ = some (.int .i64 a1_0) := (blk_cell BK186.out 0).trans rfl
          have hcz66_1 : wc.cell? ⟨gb186, 1, none⟩ = some (.int .i64 a1_1) := (blk_cell BK186.out 1).trans rfl
          have hfz66_0 := blk_frozen BK186.out 0
          have hfz66_1 := blk_frozen BK186.out 1
          have hnb67 := NB185_187.out
          have hnc67 := NB187_185.out
          have hcz68_0 : wc.cell? ⟨gb185, 0, none⟩ = some (.slice A0_0 l0_0.length c0_0) := (blk_cell BK185.out 0).trans rfl
          have hfz68_0 := blk_frozen BK185.out 0
          go_wp2_with (first | ((with_reducible refine gate_callee (f := 43) rfl ?_); refine goesL_ (some 53) rfl rfl Try.func43 (by kernel_rfl) rfl #[.int .i64 a1_1, .int .i64 0, .int .i64 (wrap64 ((l0_0.length : Int) - 1))] rfl gmp ?_; (with_reducible refine (spec_l1In.calls a1_1 0 (wrap64 ((l0_0.length : Int) - 1)) true _ A52.out).mono ?_); rintro e w' ⟨rfl, ⟨nd, rfl⟩⟩; refine ⟨_, rfl, ?_⟩; (try (rw [drewN_self wc]; generalize hq_ : World.drewN wc _ = wc; have n0_ : Aside0 (Kd.V (Kd.slice 3 (Kd.int .i64)) 29 wc w.heap.size (fun k_ => (P0_0_ k_ ∨ w.heap.size ≤ k_) ∧ k_ ≠ gb185 ∧ k_ ≠ gb186 ∧ k_ ≠ gb187) (.slice A0_0 l0_0.length c0_0) l0_0) := ⟨by rw [← hq_]; exact (by (with_reducible repeat (first | apply Kd.V_alloc | apply Kd.V_drewN | apply Kd.V_drew)); exact HO_186000.out)⟩; have n1_ : Aside0 (wc.heap[gb185]? = some (.cells #[.slice A0_0 l0_0.length c0_0] 28 (0, 0))) := ⟨by rw [← hq_]; exact (bkl BK185)⟩; have n2_ : Aside0 (wc.heap[gb186]? = some (.cells #[.int .i64 a1_0, .int .i64 a1_1] 51 (0, 0))) := ⟨by rw [← hq_]; exact (bkl BK186)⟩; have n3_ : Aside0 (wc.heap[gb187]? = some (.cells #[.slice none 0 0] 28 (0, 0))) := ⟨by rw [← hq_]; exact (bkl BK187)⟩; have n4_ : Aside0 (Below w.heap.size w wc) := ⟨by rw [← hq_]; exact (bel3 HB GE185 GE186 GE187)⟩; clear HO_186000 BK185 BK186 BK187 HB hq_; have HO_186000 := n0_; have BK185 := n1_; have BK186 := n2_; have BK187 := n3_; have HB := n4_; clear n0_ n1_ n2_ n3_ n4_)); have hq0_ : wc.cell? ⟨gb185, 0, none⟩ = some (.slice A0_0 l0_0.length c0_0) := (blk_cell BK185.out 0).trans rfl; have hq1_ : wc.cell? ⟨gb186, 1, none⟩ = some (.int .i64 a1_1) := (blk_cell BK186.out 1).trans rfl; have p203 : 0 ≤ (a1_1 : Int) := oda; have q203 : a1_1 < (l0_0.length : Int) := oda; obtain ⟨ad203, A203_0, c203_0, e203, hx203_0, hl203_0, hi203_0⟩ := at_L1 (Kd.V_reads' HO_186000.out).2.2 a1_1 p203 q203; cases e203; obtain ⟨ce203, hce203, hMe203, hcc203⟩ := Kd.V_get HO_186000.out [] a1_1 p203 (by first | exact q203 | exact oda | (have e_ := (Kd.V_reads' HO_186000.out).1; omega)); obtain ⟨ua203_0, uc203_0, rfl, ul203_0, ge203_0⟩ := Kd.FK_slice_open hMe203; have hv203_0 := hcc203 0 _ rfl; rw [Nat.add_zero, show ((Kd.slice 3 (Kd.int .i64))).sz = 1 from rfl, Nat.mul_one] at hv203_0; replace hv203_0 := Option.some.inj (hv203_0.symm.trans hx203_0); injection hv203_0 with hva_ hvn_ hvc_; rw [hva_] at ge203_0; rw [hvc_] at ul203_0; have HL203_0 := Aside0.mk (show Kd.V (Kd.int .i64) 3 _ w.heap.size _ _ (rd_L1 l0_0 a1_1) from Kd.V_mk ul203_0 ge203_0); clear hva_ hvn_ hvc_ ge203_0 ul203_0; clear hcc203 hce203; have HR203_0 := Aside0.mk hi203_0; have HC203_0 := Aside0.mk hl203_0; clear hi203_0 hl203_0; replace p203 := eq_true p203; replace q203 := eq_true q203; have hcz69_0 : wc.cell? ⟨gb187, 0, none⟩ = some (.slice none 0 0) := (blk_cell BK187.out 0).trans rfl; have hfz69_0 := blk_frozen BK187.out 0))
          refine bodyPost_ret (results_ct rfl _ _ gb187 28 #[.slice (some ad203) l0_0.length c0_0] (0, 0) _ rfl (by (with_reducible repeat (first | refine blk_drewN ?_ _ | refine blk_drew ?_ | refine blk_alloc ?_ _)); refine blk_put (cs := #[.slice none 0 0]) ?_ 0 _ rfl; (with_reducible repeat (first | refine blk_drewN ?_ _ | refine blk_drew ?_ | refine blk_alloc ?_ _)); exact BK187.out) Try.underlying28 rfl (by kernel_rfl)) rfl ?_
          exact ⟨_, by first | rfl | (simp [errW_none, errW_some] <;> rfl) | (simp [*, errW_none, errW_some] <;> rfl), by (with_reducible repeat (first | apply Kd.V_alloc | apply Kd.V_drewN | apply Kd.V_drew)); exact Kd.V_mono (Kd.V_far (p := ⟨gb187, 0, none⟩) (Kd.V_mono HO_186000.out (fun k_ hk => (⟨hk, hk.2.2.2⟩ : _ ∧ k_ ≠ gb187))) (fun _ hk => hk.2) (.slice (some ad203) l0_0.length c0_0)) (fun _ hk => hk.1.1), bel3 HB GE185 GE186 GE187⟩
         ·rw [if_neg c63] at H
          have c63b0 : (((rd_L1 l0_0 a1_1).length : Int) == 4) = false := beq_eq_false_iff_ne.mpr c63
          have c63b1 : (((rd_L1 l0_0 a1_1).length : Int) != 4) = true := bne_iff_ne.mpr c63
          replace H := Option.bind_eq_some_iff.mp H
          obtain ⟨t204, A700, H⟩ := H
          replace H : (some (t204, true)) = some (r1, r2) := H
          have A70 := Aside0.mk A700
          clear A700
          simp only [Option.some.injEq, Prod.mk.injEq] at H
          obtain ⟨rfl, rfl⟩ := H
          have hnb71 := NB186_185.out
          have hnc71 := NB185_186.out
          have hnb72 := NB186_187.out
          have hnc72 := NB187_186.out
          have hcz73_0 : wc.cell? ⟨gb186, 0, none⟩ = some (.int .i64 a1_0) := (blk_cell BK186.out 0).trans rfl
          have hcz73_1 : wc.cell? ⟨gb186, 1, none⟩ = some (.int .i64 a1_1) := (blk_cell BK186.out 1).trans rfl
          have hfz73_0 := blk_frozen BK186.out 0
          have hfz73_1 := blk_frozen BK186.out 1
          have hnb74 := NB185_187.out
          have hnc74 := NB187_185.out
          have hcz75_0 : wc.cell? ⟨gb185, 0, none⟩ = some (.slice A0_0 l0_0.length c0_0) := (blk_cell BK185.out 0).trans rfl
          have hfz75_0 := blk_frozen BK185.out 0
          go_wp2_with (first | ((with_reducible refine gate_callee (f := 43) rfl ?_); refine goesL_ (some 53) rfl rfl Try.func43 (by kernel_rfl) rfl #[.int .i64 a1_1, .int .i64 0, .int .i64 (wrap64 ((l0_0.length : Int) - 1))] rfl gmp ?_; (with_reducible refine (spec_l1In.calls a1_1 0 (wrap64 ((l0_0.length : Int) - 1)) true _ A52.out).mono ?_); rintro e w' ⟨rfl, ⟨nd, rfl⟩⟩; refine ⟨_, rfl, ?_⟩; (try (rw [drewN_self wc]; generalize hq_ : World.drewN wc _ = wc; have n0_ : Aside0 (Kd.V (Kd.slice 3 (Kd.int .i64)) 29 wc w.heap.size (fun k_ => (P0_0_ k_ ∨ w.heap.size ≤ k_) ∧ k_ ≠ gb185 ∧ k_ ≠ gb186 ∧ k_ ≠ gb187) (.slice A0_0 l0_0.length c0_0) l0_0) := ⟨by rw [← hq_]; exact (by (with_reducible repeat (first | apply Kd.V_alloc | apply Kd.V_drewN | apply Kd.V_drew)); exact HO_186000.out)⟩; have n1_ : Aside0 (wc.heap[gb185]? = some (.cells #[.slice A0_0 l0_0.length c0_0] 28 (0, 0))) := ⟨by rw [← hq_]; exact (bkl BK185)⟩; have n2_ : Aside0 (wc.heap[gb186]? = some (.cells #[.int .i64 a1_0, .int .i64 a1_1] 51 (0, 0))) := ⟨by rw [← hq_]; exact (bkl BK186)⟩; have n3_ : Aside0 (wc.heap[gb187]? = some (.cells #[.slice none 0 0] 28 (0, 0))) := ⟨by rw [← hq_]; exact (bkl BK187)⟩; have n4_ : Aside0 (Below w.heap.size w wc) := ⟨by rw [← hq_]; exact (bel3 HB GE185 GE186 GE187)⟩; clear HO_186000 BK185 BK186 BK187 HB hq_; have HO_186000 := n0_; have BK185 := n1_; have BK186 := n2_; have BK187 := n3_; have HB := n4_; clear n0_ n1_ n2_ n3_ n4_)); have hq0_ : wc.cell? ⟨gb185, 0, none⟩ = some (.slice A0_0 l0_0.length c0_0) := (blk_cell BK185.out 0).trans rfl; have hq1_ : wc.cell? ⟨gb186, 1, none⟩ = some (.int .i64 a1_1) := (blk_cell BK186.out 1).trans rfl; have p203 : 0 ≤ (a1_1 : Int) := oda; have q203 : a1_1 < (l0_0.length : Int) := oda; obtain ⟨ad203, A203_0, c203_0, e203, hx203_0, hl203_0, hi203_0⟩ := at_L1 (Kd.V_reads' HO_186000.out).2.2 a1_1 p203 q203; cases e203; obtain ⟨ce203, hce203, hMe203, hcc203⟩ := Kd.V_get HO_186000.out [] a1_1 p203 (by first | exact q203 | exact oda | (have e_ := (Kd.V_reads' HO_186000.out).1; omega)); obtain ⟨ua203_0, uc203_0, rfl, ul203_0, ge203_0⟩ := Kd.FK_slice_open hMe203; have hv203_0 := hcc203 0 _ rfl; rw [Nat.add_zero, show ((Kd.slice 3 (Kd.int .i64))).sz = 1 from rfl, Nat.mul_one] at hv203_0; replace hv203_0 := Option.some.inj (hv203_0.symm.trans hx203_0); injection hv203_0 with hva_ hvn_ hvc_; rw [hva_] at ge203_0; rw [hvc_] at ul203_0; have HL203_0 := Aside0.mk (show Kd.V (Kd.int .i64) 3 _ w.heap.size _ _ (rd_L1 l0_0 a1_1) from Kd.V_mk ul203_0 ge203_0); clear hva_ hvn_ hvc_ ge203_0 ul203_0; clear hcc203 hce203; have HR203_0 := Aside0.mk hi203_0; have HC203_0 := Aside0.mk hl203_0; clear hi203_0 hl203_0; replace p203 := eq_true p203; replace q203 := eq_true q203) | ((with_reducible refine gate_callee (f := 53) rfl ?_); refine goesL_ (some 76) rfl rfl Try.func53 (by kernel_rfl) rfl #[.agg #[.slice (some ad203) l0_0.length c0_0], .int .i64 t188, .int .i64 a1_1] rfl gmp ?_; (with_reducible refine (spec_l5Move.calls kj3 _ _ l0_0 t188 a1_1 t204 _ ?side1 ?side2 A70.out).mono ?_); (case side1 => repeat (first | exact (Kd.V_reads' HO_186000.out).2.2 | (with_reducible refine Kd.C_alloc ?_ _) | (with_reducible refine Kd.C_drewN ?_ _) | (with_reducible refine Kd.C_drew ?_))); (case side2 => exact (Kd.V_reads' HO_186000.out).2.1); rintro e w76 ⟨v205, rfl, ho0, hb⟩; refine ⟨_, rfl, ?_⟩; have n0_ := Aside0.mk (Kd.V_elder' (by (with_reducible repeat (first | apply Kd.V_alloc | apply Kd.V_drewN | apply Kd.V_drew)); exact HO_186000.out) (Kd.S_base ho0) hb); have n1_ := Aside0.mk (Kd.V_elder' (by (with_reducible repeat (first | apply Kd.V_alloc | apply Kd.V_drewN | apply Kd.V_drew)); exact HL203_0.out) (Kd.S_base ho0) hb); have n2_ := Aside0.mk (Kd.N_lower (Kd.N_mono (ok' := fun k_ => (P0_0_ k_ ∨ w.heap.size ≤ k_) ∧ k_ ≠ gb185 ∧ k_ ≠ gb186 ∧ k_ ≠ gb187) (Kd.S_N (Kd.S_bound ho0)) (fun k_ hk_ => ⟨(.inr (Nat.le_trans (below_size (bel3 HB GE185 GE186 GE187)) hk_.2.1)), (Kd.freshB (g := gb185) (o := .cells #[.slice (some ad203) l0_0.length c0_0] 28 (0, 0)) (bkl BK185) k_ hk_.2.1), (Kd.freshB (g := gb186) (o := .cells #[.int .i64 a1_0, .int .i64 a1_1] 51 (0, 0)) (bkl BK186) k_ hk_.2.1), (Kd.freshB (g := gb187) (o := .cells #[.slice none 0 0] 28 (0, 0)) (bkl BK187) k_ hk_.2.1)⟩)) (below_size (bel3 HB GE185 GE186 GE187))); have n3_ := Aside0.mk (blk_below (g := gb185) (o := .cells #[.slice (some ad203) l0_0.length c0_0] 28 (0, 0)) (bkl BK185) hb); have n4_ := Aside0.mk (blk_below (g := gb186) (o := .cells #[.int .i64 a1_0, .int .i64 a1_1] 51 (0, 0)) (bkl BK186) hb); have n5_ := Aside0.mk (blk_below (g := gb187) (o := .cells #[.slice none 0 0] 28 (0, 0)) (bkl BK187) hb); have n6_ := Aside0.mk (Kd.C_below (by repeat (first | (with_reducible exact HR203_0.out) | (with_reducible refine Kd.C_alloc ?_ _) | (with_reducible refine Kd.C_drewN ?_ _) | (with_reducible refine Kd.C_drew ?_) | exact HR203_0.out)) hb); have n7_ := Aside0.mk (below_step (bel3 HB GE185 GE186 GE187) hb); clear HO_186000; clear HL203_0; clear BK185; clear BK186; clear BK187; clear HR203_0; clear HB; have HO_186000 := n0_; have HL203_0 := n1_; have HO206 := n2_; have BK185 := n3_; have BK186 := n4_; have BK187 := n5_; have HR203_0 := n6_; have HB := n7_; clear n0_ n1_ n2_ n3_ n4_ n5_ n6_ n7_; (try clear hb); (try clear hb2); (try clear hk); (try clear hi); (try clear ho0); obtain ⟨Ao77, co77, eo77⟩ := Kd.N_slice HO206.out; subst eo77; have hcz78_0 : w76.cell? ⟨gb187, 0, none⟩ = some (.slice none 0 0) := (blk_cell BK187.out 0).trans rfl; have hfz78_0 := blk_frozen BK187.out 0))
          refine bodyPost_ret (results_ct rfl _ _ gb187 28 #[.slice Ao77 t204.length co77] (0, 0) _ rfl (by (with_reducible repeat (first | refine blk_drewN ?_ _ | refine blk_drew ?_ | refine blk_alloc ?_ _)); refine blk_put (cs := #[.slice none 0 0]) ?_ 0 _ rfl; (with_reducible repeat (first | refine blk_drewN ?_ _ | refine blk_drew ?_ | refine blk_alloc ?_ _)); exact BK187.out) Try.underlying28 rfl (by kernel_rfl)) rfl ?_
          exact ⟨_, by first | rfl | (simp [errW_none, errW_some] <;> rfl) | (simp [*, errW_none, errW_some] <;> rfl), Kd.N_V (by (with_reducible repeat (first | apply Kd.N_alloc | apply Kd.N_drewN | apply Kd.N_drew)); exact Kd.N_mono (Kd.N_far (p := ⟨gb187, 0, none⟩) (Kd.N_mono HO206.out (fun k_ hk => (⟨hk, hk.2.2.2⟩ : _ ∧ k_ ≠ gb187))) (fun _ hk => hk.2) (.slice Ao77 t204.length co77)) (fun _ hk => hk.1.1)), bel3 HB GE185 GE186 GE187⟩
        ·rw [if_neg c62] at H
         exact absurd H (by simp)
       ·rw [if_neg c61] at H
        exact absurd H (by simp)
     ·replace c53 := Bool.eq_false_iff.mpr c53
      subst c53
      have H1 : (some (l0_0, false)) = some (r1, r2) := by rw [if_neg (show ¬ (false = true) by decide)] at H; exact H
      clear H
      have H := H1
      clear H1
      simp only [Option.some.injEq, Prod.mk.injEq] at H
      obtain ⟨rfl, rfl⟩ := H
      have hnb79 := NB186_185.out
      have hnc79 := NB185_186.out
      have hnb80 := NB186_187.out
      have hnc80 := NB187_186.out
      have hcz81_0 : wc.cell? ⟨gb186, 0, none⟩ = some (.int .i64 a1_0) := (blk_cell BK186.out 0).trans rfl
      have hcz81_1 : wc.cell? ⟨gb186, 1, none⟩ = some (.int .i64 a1_1) := (blk_cell BK186.out 1).trans rfl
      have hfz81_0 := blk_frozen BK186.out 0
      have hfz81_1 := blk_frozen BK186.out 1
      have hnb82 := NB185_187.out
      have hnc82 := NB187_185.out
      have hcz83_0 : wc.cell? ⟨gb185, 0, none⟩ = some (.slice A0_0 l0_0.length c0_0) := (blk_cell BK185.out 0).trans rfl
      have hfz83_0 := blk_frozen BK185.out 0
      go_wp2_with (first | ((with_reducible refine gate_callee (f := 43) rfl ?_); refine goesL_ (some 53) rfl rfl Try.func43 (by kernel_rfl) rfl #[.int .i64 a1_1, .int .i64 0, .int .i64 (wrap64 ((l0_0.length : Int) - 1))] rfl gmp ?_; (with_reducible refine (spec_l1In.calls a1_1 0 (wrap64 ((l0_0.length : Int) - 1)) false _ A52.out).mono ?_); rintro e w' ⟨rfl, ⟨nd, rfl⟩⟩; refine ⟨_, rfl, ?_⟩; (try (rw [drewN_self wc]; generalize hq_ : World.drewN wc _ = wc; have n0_ : Aside0 (Kd.V (Kd.slice 3 (Kd.int .i64)) 29 wc w.heap.size (fun k_ => (P0_0_ k_ ∨ w.heap.size ≤ k_) ∧ k_ ≠ gb185 ∧ k_ ≠ gb186 ∧ k_ ≠ gb187) (.slice A0_0 l0_0.length c0_0) l0_0) := ⟨by rw [← hq_]; exact (by (with_reducible repeat (first | apply Kd.V_alloc | apply Kd.V_drewN | apply Kd.V_drew)); exact HO_186000.out)⟩; have n1_ : Aside0 (wc.heap[gb185]? = some (.cells #[.slice A0_0 l0_0.length c0_0] 28 (0, 0))) := ⟨by rw [← hq_]; exact (bkl BK185)⟩; have n2_ : Aside0 (wc.heap[gb186]? = some (.cells #[.int .i64 a1_0, .int .i64 a1_1] 51 (0, 0))) := ⟨by rw [← hq_]; exact (bkl BK186)⟩; have n3_ : Aside0 (wc.heap[gb187]? = some (.cells #[.slice none 0 0] 28 (0, 0))) := ⟨by rw [← hq_]; exact (bkl BK187)⟩; have n4_ : Aside0 (Below w.heap.size w wc) := ⟨by rw [← hq_]; exact (bel3 HB GE185 GE186 GE187)⟩; clear HO_186000 BK185 BK186 BK187 HB hq_; have HO_186000 := n0_; have BK185 := n1_; have BK186 := n2_; have BK187 := n3_; have HB := n4_; clear n0_ n1_ n2_ n3_ n4_)); have hq0_ : wc.cell? ⟨gb185, 0, none⟩ = some (.slice A0_0 l0_0.length c0_0) := (blk_cell BK185.out 0).trans rfl; have hq1_ : wc.cell? ⟨gb186, 1, none⟩ = some (.int .i64 a1_1) := (blk_cell BK186.out 1).trans rfl; have hcz84_0 : wc.cell? ⟨gb187, 0, none⟩ = some (.slice none 0 0) := (blk_cell BK187.out 0).trans rfl; have hfz84_0 := blk_frozen BK187.out 0))
      refine bodyPost_ret (results_ct rfl _ _ gb187 28 #[.slice A0_0 l0_0.length c0_0] (0, 0) _ rfl (by (with_reducible repeat (first | refine blk_drewN ?_ _ | refine blk_drew ?_ | refine blk_alloc ?_ _)); refine blk_put (cs := #[.slice none 0 0]) ?_ 0 _ rfl; (with_reducible repeat (first | refine blk_drewN ?_ _ | refine blk_drew ?_ | refine blk_alloc ?_ _)); exact BK187.out) Try.underlying28 rfl (by kernel_rfl)) rfl ?_
      exact ⟨_, by first | rfl | (simp [errW_none, errW_some] <;> rfl) | (simp [*, errW_none, errW_some] <;> rfl), by (with_reducible repeat (first | apply Kd.V_alloc | apply Kd.V_drewN | apply Kd.V_drew)); exact Kd.V_mono (Kd.V_far (p := ⟨gb187, 0, none⟩) (Kd.V_mono HO_186000.out (fun k_ hk => (⟨hk, hk.2.2.2⟩ : _ ∧ k_ ≠ gb187))) (fun _ hk => hk.2) (.slice A0_0 l0_0.length c0_0)) (fun _ hk => hk.1.1), bel3 HB GE185 GE186 GE187⟩

end Go.Proofs.Ytlnihlmlkdhiaaa.P
