-- Written by a program of this session over the translation (a variant of the printer, see wip/gen); Lean checks it.
import Derived.Test.YtemildnlfjijmaaVC
import Derived.Test.YtemildnlfjijmaaPx0
namespace Go.Proofs.Ytemildnlfjijmaa.P
open Go.RowKit Go.Proofs.YtemildnlfjijmaaW.PrintWords Go.Proofs.YtemildnlfjijmaaW.PrintLast Go.Proofs.YtemildnlfjijmaaW.PrintMore
attribute [local go_sem] Go.Proofs.Ytemildnlfjijmaa.V.isSome_setCell max2_int min2_int max_two min_two max_three min_three max_four min_four
set_option linter.unusedVariables false
set_option linter.unusedSimpArgs false
/-! ### spec_l7At: function 27 -/
def spec_l7At.l0 : Nat → List (S71) → Int → Int → Int → List (S73) → Int → List (List Int) → ByteArray → Int → Int → Int → Int → Option ((List (S73)))
 | 0, _, _, _, _, _, _, _, _, _, _, _, _ => none
 | k + 1, x1, x2, x3, x4, x11, x13, x518000, x525000, x525001, x525002, x525003, x525004 => if x13 ≤ 4 then (if x13 = 1 then (if x4 > 0 then (if 0 ≤ x3 then (if x3 < (x518000.length : Int) then (if 0 ≤ (wrap64 (x4 - 1)) then (if (wrap64 (x4 - 1)) < ((rd_L4 x518000 x3).length : Int) then (if 0 ≤ (wrap64 ((rd (rd_L4 x518000 x3) (wrap64 (x4 - 1))) - 1)) then (if (wrap64 ((rd (rd_L4 x518000 x3) (wrap64 (x4 - 1))) - 1)) < (x1.length : Int) then (if x525002 > ((rd_T71 x1 (wrap64 ((rd (rd_L4 x518000 x3) (wrap64 (x4 - 1))) - 1))).f2) then (if x11.length < 5864062014805 then (spec_l7At.l0 k x1 x2 x3 x4 (x11 ++ [(⟨x13, x3, x4⟩ : S73)]) (wrap64 (x13 + 1)) x518000 x525000 x525001 x525002 x525003 x525004) else (none)) else (spec_l7At.l0 k x1 x2 x3 x4 x11 (wrap64 (x13 + 1)) x518000 x525000 x525001 x525002 x525003 x525004)) else (none)) else (none)) else (none)) else (none)) else (none)) else (none)) else (spec_l7At.l0 k x1 x2 x3 x4 x11 (wrap64 (x13 + 1)) x518000 x525000 x525001 x525002 x525003 x525004)) else (if x13 = 2 then (if x4 > 0 then (if 0 ≤ x3 then (if x3 < (x518000.length : Int) then (if 0 ≤ (wrap64 (x4 - 1)) then (if (wrap64 (x4 - 1)) < ((rd_L4 x518000 x3).length : Int) then (if 0 ≤ (wrap64 ((rd (rd_L4 x518000 x3) (wrap64 (x4 - 1))) - 1)) then (if (wrap64 ((rd (rd_L4 x518000 x3) (wrap64 (x4 - 1))) - 1)) < (x1.length : Int) then (if x525001 = ((rd_T71 x1 (wrap64 ((rd (rd_L4 x518000 x3) (wrap64 (x4 - 1))) - 1))).f1) then (spec_l7At.l0 k x1 x2 x3 x4 x11 (wrap64 (x13 + 1)) x518000 x525000 x525001 x525002 x525003 x525004) else (if x11.length < 5864062014805 then (spec_l7At.l0 k x1 x2 x3 x4 (x11 ++ [(⟨x13, x3, x4⟩ : S73)]) (wrap64 (x13 + 1)) x518000 x525000 x525001 x525002 x525003 x525004) else (none))) else (none)) else (none)) else (none)) else (none)) else (none)) else (none)) else (spec_l7At.l0 k x1 x2 x3 x4 x11 (wrap64 (x13 + 1)) x518000 x525000 x525001 x525002 x525003 x525004)) else (if x13 = 3 then (if x4 > 0 then (if x525003 = 3 then (if x11.length < 5864062014805 then (spec_l7At.l0 k x1 x2 x3 x4 (x11 ++ [(⟨x13, x3, x4⟩ : S73)]) (wrap64 (x13 + 1)) x518000 x525000 x525001 x525002 x525003 x525004) else (none)) else (spec_l7At.l0 k x1 x2 x3 x4 x11 (wrap64 (x13 + 1)) x518000 x525000 x525001 x525002 x525003 x525004)) else (spec_l7At.l0 k x1 x2 x3 x4 x11 (wrap64 (x13 + 1)) x518000 x525000 x525001 x525002 x525003 x525004)) else (if x525003 = 2 then (if x3 ≥ x2 then (if x11.length < 5864062014805 then (spec_l7At.l0 k x1 x2 x3 x4 (x11 ++ [(⟨x13, x3, x4⟩ : S73)]) (wrap64 (x13 + 1)) x518000 x525000 x525001 x525002 x525003 x525004) else (none)) else (spec_l7At.l0 k x1 x2 x3 x4 x11 (wrap64 (x13 + 1)) x518000 x525000 x525001 x525002 x525003 x525004)) else (spec_l7At.l0 k x1 x2 x3 x4 x11 (wrap64 (x13 + 1)) x518000 x525000 x525001 x525002 x525003 x525004))))) else (some x11)
def spec_l7At.f (k : Nat) (l0_0 : List (List Int)) (l1 : List (S71)) (a2 : Int) (a3 : Int) (a4 : Int) : Option ((List (S73))) := if 0 ≤ a3 then (if a3 < (l0_0.length : Int) then (if 0 ≤ a4 then (if a4 < ((rd_L4 l0_0 a3).length : Int) then (if 0 ≤ (wrap64 ((rd (rd_L4 l0_0 a3) a4) - 1)) then (if (wrap64 ((rd (rd_L4 l0_0 a3) a4) - 1)) < (l1.length : Int) then (spec_l7At.l0 k l1 a2 a3 a4 (([] : List (S73))) 1 l0_0 ((rd_T71 l1 (wrap64 ((rd (rd_L4 l0_0 a3) a4) - 1))).f0) ((rd_T71 l1 (wrap64 ((rd (rd_L4 l0_0 a3) a4) - 1))).f1) ((rd_T71 l1 (wrap64 ((rd (rd_L4 l0_0 a3) a4) - 1))).f2) ((rd_T71 l1 (wrap64 ((rd (rd_L4 l0_0 a3) a4) - 1))).f3) ((rd_T71 l1 (wrap64 ((rd (rd_L4 l0_0 a3) a4) - 1))).f4)) else (none)) else (none)) else (none)) else (none)) else (none)) else (none)
set_option maxHeartbeats 8000000 in
set_option maxRecDepth 100000 in
theorem spec_l7At.calls (k : Nat) (A0_0 : Option Addr) (c0_0 : Nat) (l0_0 : List (List Int)) (A1 : Option Addr) (c1 : Nat) (l1 : List (S71)) (a2 : Int) (a3 : Int) (a4 : Int) (r : List (S73)) (w : World) (hr0_0 : Kd.C (Kd.slice 3 (Kd.int .i64)) w A0_0 l0_0.length l0_0) (hc0_0 : l0_0.length ≤ c0_0) (hr1 : Kd.C k71 w A1 l1.length l1) (hc1 : l1.length ≤ c1) (h : spec_l7At.f k l0_0 l1 a2 a3 a4 = some r) :
  Calls Try.prog 27 #[.agg #[.slice A0_0 l0_0.length c0_0], .slice A1 l1.length c1, .int .i64 a2, .int .i64 a3, .int .i64 a4] w fun e w' => ∃ v0_ : Value, e = .returned (v0_) ∧ Kd.R k73 73 w' w.heap.size (fun _ => True) v0_ r ∧ Below w.heap.size w w' := by
 have hu26 := Try.underlying26
 have hu71 := Try.underlying71
 have hu73 := Try.underlying73
 have HR0_0 := Aside0.mk hr0_0
 have HC0_0 := Aside0.mk hc0_0
 clear hr0_0 hc0_0
 have HR1 := Aside0.mk hr1
 have HC1 := Aside0.mk hc1
 clear hr1 hc1
 have HB := Aside0.mk (Below.refl w.heap.size w)
 have H : (if 0 ≤ a3 then (if a3 < (l0_0.length : Int) then (if 0 ≤ a4 then (if a4 < ((rd_L4 l0_0 a3).length : Int) then (if 0 ≤ (wrap64 ((rd (rd_L4 l0_0 a3) a4) - 1)) then (if (wrap64 ((rd (rd_L4 l0_0 a3) a4) - 1)) < (l1.length : Int) then (spec_l7At.l0 k l1 a2 a3 a4 (([] : List (S73))) 1 l0_0 ((rd_T71 l1 (wrap64 ((rd (rd_L4 l0_0 a3) a4) - 1))).f0) ((rd_T71 l1 (wrap64 ((rd (rd_L4 l0_0 a3) a4) - 1))).f1) ((rd_T71 l1 (wrap64 ((rd (rd_L4 l0_0 a3) a4) - 1))).f2) ((rd_T71 l1 (wrap64 ((rd (rd_L4 l0_0 a3) a4) - 1))).f3) ((rd_T71 l1 (wrap64 ((rd (rd_L4 l0_0 a3) a4) - 1))).f4)) else (none)) else (none)) else (none)) else (none)) else (none)) else (none)) = some r := h
 clear h
 obtain ⟨y518, hy518⟩ : ∃ y_ : List (S73), y_ = (([] : List (S73))) := ⟨_, rfl⟩
 replace H : (if 0 ≤ a3 then (if a3 < (l0_0.length : Int) then (if 0 ≤ a4 then (if a4 < ((rd_L4 l0_0 a3).length : Int) then (if 0 ≤ (wrap64 ((rd (rd_L4 l0_0 a3) a4) - 1)) then (if (wrap64 ((rd (rd_L4 l0_0 a3) a4) - 1)) < (l1.length : Int) then (spec_l7At.l0 k l1 a2 a3 a4 y518 1 l0_0 ((rd_T71 l1 (wrap64 ((rd (rd_L4 l0_0 a3) a4) - 1))).f0) ((rd_T71 l1 (wrap64 ((rd (rd_L4 l0_0 a3) a4) - 1))).f1) ((rd_T71 l1 (wrap64 ((rd (rd_L4 l0_0 a3) a4) - 1))).f2) ((rd_T71 l1 (wrap64 ((rd (rd_L4 l0_0 a3) a4) - 1))).f3) ((rd_T71 l1 (wrap64 ((rd (rd_L4 l0_0 a3) a4) - 1))).f4)) else (none)) else (none)) else (none)) else (none)) else (none)) else (none)) = some r := by (rw [hy518]; with_reducible exact H) 
 have Ny518 := Aside0.mk hy518
 clear hy518
 by_cases c6 : 0 ≤ a3
 rotate_left
 ·rw [if_neg c6] at H
  exact absurd H (by simp)
 rw [if_pos c6] at H
 have c6b0 : decide (0 ≤ a3) = true := decide_eq_true c6
 clear c6
 by_cases c7 : a3 < (l0_0.length : Int)
 rotate_left
 ·rw [if_neg c7] at H
  exact absurd H (by simp)
 rw [if_pos c7] at H
 have c7b0 : decide (a3 < (l0_0.length : Int)) = true := decide_eq_true c7
 clear c7
 by_cases c8 : 0 ≤ a4
 rotate_left
 ·rw [if_neg c8] at H
  exact absurd H (by simp)
 rw [if_pos c8] at H
 have c8b0 : decide (0 ≤ a4) = true := decide_eq_true c8
 clear c8
 by_cases c9 : a4 < ((rd_L4 l0_0 a3).length : Int)
 rotate_left
 ·rw [if_neg c9] at H
  exact absurd H (by simp)
 rw [if_pos c9] at H
 have c9b0 : decide (a4 < ((rd_L4 l0_0 a3).length : Int)) = true := decide_eq_true c9
 clear c9
 obtain ⟨ji10, hji10⟩ : ∃ j_ : Int, (wrap64 ((rd (rd_L4 l0_0 a3) a4) - 1)) = j_ := ⟨_, rfl⟩
 replace H : (if 0 ≤ (ji10) then (if (ji10) < (l1.length : Int) then (spec_l7At.l0 k l1 a2 a3 a4 y518 1 l0_0 ((rd_T71 l1 (ji10)).f0) ((rd_T71 l1 (ji10)).f1) ((rd_T71 l1 (ji10)).f2) ((rd_T71 l1 (ji10)).f3) ((rd_T71 l1 (ji10)).f4)) else (none)) else (none)) = some r := by (rw [hji10] at H; exact H) 
 have hji10w : (IntKind.i64.wrap ((rd (rd_L4 l0_0 a3) a4) - 1)) = ji10 := (i64_w _).trans hji10
 by_cases c11 : 0 ≤ (ji10)
 rotate_left
 ·rw [if_neg c11] at H
  exact absurd H (by simp)
 rw [if_pos c11] at H
 have c11b0 : decide (0 ≤ (ji10)) = true := decide_eq_true c11
 clear c11
 by_cases c12 : (ji10) < (l1.length : Int)
 rotate_left
 ·rw [if_neg c12] at H
  exact absurd H (by simp)
 rw [if_pos c12] at H
 have c12b0 : decide ((ji10) < (l1.length : Int)) = true := decide_eq_true c12
 clear c12
 have H' := Aside0.mk H
 clear H
 go_enter Try.func27, Try.ntmps27
 go_wp2_with (first | ((with_reducible refine gate_dst (N := 5) rfl ?_); refine box_event ?hg (N := 5) ?hd (cs := #[.slice A0_0 l0_0.length c0_0]) (t := 26) ?hr ?_; (case hd | hg => rfl); (case hr => go_simp); intro gb517 hg w13 hbox hb; have BK517 := Aside0.mk (hbox); have GW517 := gsb (w := w) hg (bel HB); have GE517 := gsb (w := w) hg (bel HB); replace HB := Aside0.mk (below_step (bel HB) hb); clear hb hbox hg) | ((with_reducible refine gate_dst (N := 15) rfl ?_); refine Kd.R_lit k73 _ 73 ?hg (N := 15) ?hd (xs := ([] : List (S73))) (inner := []) (ok := fun _ => True) (okp := fun _ => True) ?hr ?hp (fun _ hk => hk) trivial (Below.refl _ _) (Nat.le_refl _) (by simp) ?_; (case hd | hg => rfl); (case hr => go_simp); (case hp => exact (Reps.none _ _)); intro v519 w14 ho15 hb hg_ hnew_; clear hg_ hnew_; (rw [← Ny518.out] at ho15 ); have HO520 := Aside0.mk (Kd.R_lower ho15 (below_size (bel1 HB GE517))); replace BK517 := bkb BK517 hb; replace HB := Aside0.mk (below_step (bel1 HB GE517) hb); clear hb ho15; have hcz16_0 := bc BK517 0; have hfz16_0 := blk_frozen BK517.out 0; have p521 : 0 ≤ (a3 : Int) := oda; have q521 : a3 < (l0_0.length : Int) := oda; obtain ⟨ad521, A521_0, c521_0, e521, hx521_0, hl521_0, hi521_0⟩ := at_L4 HR0_0.out a3 p521 q521; cases e521; replace hx521_0 := cel HB hx521_0; have HR521_0 := Aside0.mk hi521_0; have HC521_0 := Aside0.mk hl521_0; clear hi521_0 hl521_0; replace p521 := eq_true p521; replace q521 := eq_true q521; have p522 : 0 ≤ (a4 : Int) := oda; have q522 : a4 < ((rd_L4 l0_0 a3).length : Int) := oda; obtain ⟨ad522, e522, hx522_0⟩ := Kd.at_int HR521_0.out a4 p522 q522; cases e522; replace hx522_0 := cel HB hx522_0; replace p522 := eq_true p522; replace q522 := eq_true q522; have p523 : 0 ≤ ((ji10) : Int) := oda; have q523 : (ji10) < (l1.length : Int) := oda; obtain ⟨ad523, e523, hx523_0, hx523_1, hx523_2, hx523_3, hx523_4⟩ := at_T71 HR1.out (ji10) p523 q523; cases e523; replace hx523_0 := cel HB hx523_0; replace hx523_1 := cel HB hx523_1; replace hx523_2 := cel HB hx523_2; replace hx523_3 := cel HB hx523_3; replace hx523_4 := cel HB hx523_4; replace p523 := eq_true p523; replace q523 := eq_true q523) | ((with_reducible refine gate_dst (N := 12) rfl ?_); refine box_event ?hg (N := 12) ?hd (cs := #[.string (⟨#[]⟩ : ByteArray), .int .i64 0, .int .i64 0, .int .i64 0, .int .i64 0]) (t := 71) ?hr ?_; (case hd | hg => rfl); (case hr => go_simp); intro gb524 hg w17 hbox hb; replace HO520 := Aside0.mk (Kd.R_below (rdl HO520) hb); have BK524 := Aside0.mk (hbox); have GW524 := gsb (w := w) hg (bel1 HB GE517); have GE524 := gsb (w := w) hg (bel1 HB GE517); replace HB := Aside0.mk (below_step (bel1 HB GE517) hb); have NB517_524 := nbl hg BK517; have NB524_517 := nbr hg BK517; replace BK517 := bkb BK517 hb; clear hb hbox hg; have hnb18 := NB524_517.out; have hnc18 := NB517_524.out; have hcz19_0 := bc BK524 0; have hcz19_1 := bc BK524 1; have hcz19_2 := bc BK524 2; have hcz19_3 := bc BK524 3; have hcz19_4 := bc BK524 4; have hfz19_0 := blk_frozen BK524.out 0; have hfz19_1 := blk_frozen BK524.out 1; have hfz19_2 := blk_frozen BK524.out 2; have hfz19_3 := blk_frozen BK524.out 3; have hfz19_4 := blk_frozen BK524.out 4))
 repeat (go_quiet (first | ((with_reducible refine gate_dst (N := 5) rfl ?_); refine box_event ?hg (N := 5) ?hd (cs := #[.slice A0_0 l0_0.length c0_0]) (t := 26) ?hr ?_; (case hd => rfl); (case hg => rfl); (case hr => first | (go_simp; done) | (go_simp; rfl)); intro gb517 hg w13 hbox hb; have BK517 := Aside0.mk (hbox); have GW517 := gsb (w := w) hg (bel HB); have GE517 := gsb (w := w) hg (bel HB); replace HB := Aside0.mk (below_step (bel HB) hb); clear hb hbox hg) | ((with_reducible refine gate_dst (N := 15) rfl ?_); refine Kd.R_lit k73 _ 73 ?hg (N := 15) ?hd (xs := ([] : List (S73))) (inner := []) (ok := fun _ => True) (okp := fun _ => True) ?hr ?hp (fun _ hk => hk) trivial (Below.refl _ _) (Nat.le_refl _) (by simp) ?_; (case hd => rfl); (case hg => rfl); (case hr => first | (go_simp; done) | (go_simp; rfl)); (case hp => exact (Reps.none _ _)); intro v519 w14 ho15 hb hg_ hnew_; clear hg_ hnew_; (first | rw [← Ny518.out] at ho15 | (simp only [Int.reduceToNat] at ho15; rw [← Ny518.out] at ho15)); have HO520 := Aside0.mk (Kd.R_lower ho15 (below_size (bel1 HB GE517))); replace BK517 := bkb BK517 hb; replace HB := Aside0.mk (below_step (bel1 HB GE517) hb); clear hb ho15; have hcz16_0 := bc BK517 0; have hfz16_0 := blk_frozen BK517.out 0; have p521 : 0 ≤ (a3 : Int) := oda; have q521 : a3 < (l0_0.length : Int) := oda; obtain ⟨ad521, A521_0, c521_0, e521, hx521_0, hl521_0, hi521_0⟩ := at_L4 HR0_0.out a3 p521 q521; cases e521; replace hx521_0 := cel HB hx521_0; have HR521_0 := Aside0.mk hi521_0; have HC521_0 := Aside0.mk hl521_0; clear hi521_0 hl521_0; replace p521 := eq_true p521; replace q521 := eq_true q521; have p522 : 0 ≤ (a4 : Int) := oda; have q522 : a4 < ((rd_L4 l0_0 a3).length : Int) := oda; obtain ⟨ad522, e522, hx522_0⟩ := Kd.at_int HR521_0.out a4 p522 q522; cases e522; replace hx522_0 := cel HB hx522_0; replace p522 := eq_true p522; replace q522 := eq_true q522; have p523 : 0 ≤ ((ji10) : Int) := oda; have q523 : (ji10) < (l1.length : Int) := oda; obtain ⟨ad523, e523, hx523_0, hx523_1, hx523_2, hx523_3, hx523_4⟩ := at_T71 HR1.out (ji10) p523 q523; cases e523; replace hx523_0 := cel HB hx523_0; replace hx523_1 := cel HB hx523_1; replace hx523_2 := cel HB hx523_2; replace hx523_3 := cel HB hx523_3; replace hx523_4 := cel HB hx523_4; replace p523 := eq_true p523; replace q523 := eq_true q523) | ((with_reducible refine gate_dst (N := 12) rfl ?_); refine box_event ?hg (N := 12) ?hd (cs := #[.string (⟨#[]⟩ : ByteArray), .int .i64 0, .int .i64 0, .int .i64 0, .int .i64 0]) (t := 71) ?hr ?_; (case hd => rfl); (case hg => rfl); (case hr => first | (go_simp; done) | (go_simp; rfl)); intro gb524 hg w17 hbox hb; replace HO520 := Aside0.mk (Kd.R_below (rdl HO520) hb); have BK524 := Aside0.mk (hbox); have GW524 := gsb (w := w) hg (bel1 HB GE517); have GE524 := gsb (w := w) hg (bel1 HB GE517); replace HB := Aside0.mk (below_step (bel1 HB GE517) hb); have NB517_524 := nbl hg BK517; have NB524_517 := nbr hg BK517; replace BK517 := bkb BK517 hb; clear hb hbox hg; have hnb18 := NB524_517.out; have hnc18 := NB517_524.out; have hcz19_0 := bc BK524 0; have hcz19_1 := bc BK524 1; have hcz19_2 := bc BK524 2; have hcz19_3 := bc BK524 3; have hcz19_4 := bc BK524 4; have hfz19_0 := blk_frozen BK524.out 0; have hfz19_1 := blk_frozen BK524.out 1; have hfz19_2 := blk_frozen BK524.out 2; have hfz19_3 := blk_frozen BK524.out 3; have hfz19_4 := blk_frozen BK524.out 4)))
 go_loopg [11, 13] k (fun kq v11 v13 w' => ∃ (x11_1 : List (S73)) (x13_1 : Int), v13 = .int .i64 x13_1 ∧ Aside0 (spec_l7At.l0 kq l1 a2 a3 a4 x11_1 x13_1 l0_0 ((rd_T71 l1 (ji10)).f0) ((rd_T71 l1 (ji10)).f1) ((rd_T71 l1 (ji10)).f2) ((rd_T71 l1 (ji10)).f3) ((rd_T71 l1 (ji10)).f4) = some r) ∧ Aside0 (kq ≤ k) ∧ Aside0 (Kd.R k73 73 w' w.heap.size (fun _ => True) v11 x11_1) ∧ Aside0 (w'.heap[gb517]? = some (.cells #[(.slice (some ad521) l0_0.length c0_0)] 26 (0, 0))) ∧ Aside0 (w'.heap[gb524]? = some (.cells #[.string ((rd_T71 l1 (ji10)).f0), .int .i64 ((rd_T71 l1 (ji10)).f1), .int .i64 ((rd_T71 l1 (ji10)).f2), .int .i64 ((rd_T71 l1 (ji10)).f3), .int .i64 ((rd_T71 l1 (ji10)).f4)] 71 (0, 0))) ∧ Aside0 (Below w.heap.size w w'))
 case atStart => exact ⟨(y518), (1), (by rfl ), H', ⟨Nat.le_refl _⟩, ⟨by exact Kd.R_mono (Kd.R_far (p := ⟨gb524, 4, none⟩) (Kd.R_far (p := ⟨gb524, 3, none⟩) (Kd.R_far (p := ⟨gb524, 2, none⟩) (Kd.R_far (p := ⟨gb524, 1, none⟩) (Kd.R_far (p := ⟨gb524, 0, none⟩) (Kd.R_types HO520.out BK524.out (by decide)) (fun _ hk => hk.2) (.string ((rd_T71 l1 (ji10)).f0))) (fun _ hk => hk.2) (.int .i64 ((rd_T71 l1 (ji10)).f1))) (fun _ hk => hk.2) (.int .i64 ((rd_T71 l1 (ji10)).f2))) (fun _ hk => hk.2) (.int .i64 ((rd_T71 l1 (ji10)).f3))) (fun _ hk => hk.2) (.int .i64 ((rd_T71 l1 (ji10)).f4))) (fun _ hk => trivial)⟩, ⟨by refine blk_far ?_ NB517_524.out _; refine blk_far ?_ NB517_524.out _; refine blk_far ?_ NB517_524.out _; refine blk_far ?_ NB517_524.out _; refine blk_far ?_ NB517_524.out _; exact BK517.out⟩, ⟨by refine blk_put (cs := #[.string ((rd_T71 l1 (ji10)).f0), .int .i64 ((rd_T71 l1 (ji10)).f1), .int .i64 ((rd_T71 l1 (ji10)).f2), .int .i64 ((rd_T71 l1 (ji10)).f3), .int .i64 0]) ?_ 4 _ rfl; refine blk_put (cs := #[.string ((rd_T71 l1 (ji10)).f0), .int .i64 ((rd_T71 l1 (ji10)).f1), .int .i64 ((rd_T71 l1 (ji10)).f2), .int .i64 0, .int .i64 0]) ?_ 3 _ rfl; refine blk_put (cs := #[.string ((rd_T71 l1 (ji10)).f0), .int .i64 ((rd_T71 l1 (ji10)).f1), .int .i64 0, .int .i64 0, .int .i64 0]) ?_ 2 _ rfl; refine blk_put (cs := #[.string ((rd_T71 l1 (ji10)).f0), .int .i64 0, .int .i64 0, .int .i64 0, .int .i64 0]) ?_ 1 _ rfl; refine blk_put (cs := #[.string (⟨#[]⟩ : ByteArray), .int .i64 0, .int .i64 0, .int .i64 0, .int .i64 0]) ?_ 0 _ rfl; exact BK524.out⟩, ⟨bel2 HB GE517 GE524⟩⟩
 clear H'
 try clear c6b0
 try clear c7b0
 try clear c8b0
 try clear c9b0
 try clear c11b0
 try clear c12b0
 try clear hcz16_0
 try clear hcz19_0
 try clear hcz19_1
 try clear hcz19_2
 try clear hcz19_3
 try clear hcz19_4
 try clear hfz16_0
 try clear hfz19_0
 try clear hfz19_1
 try clear hfz19_2
 try clear hfz19_3
 try clear hfz19_4
 try clear hx521_0
 try clear hx522_0
 try clear hx523_0
 try clear hx523_1
 try clear hx523_2
 try clear hx523_3
 try clear hx523_4
 try clear p521
 try clear p522
 try clear p523
 try clear q521
 try clear q522
 try clear q523
 obtain ⟨x11_1, x13_1, rfl, HA, HK1, HO_11, BK517, BK524, HB⟩ := hrel
 cases gk with
 | zero => exact absurd HA.out (by simp [spec_l7At.l0])
 | succ k1 =>
  have H := HA.out
  clear HA
  simp only [spec_l7At.l0] at H
  by_cases c20 : x13_1 ≤ 4
  rotate_left
  ·rw [if_neg c20] at H
   have c20b0 : decide (x13_1 ≤ 4) = false := decide_eq_false c20
   clear c20
   obtain rfl := Option.some.inj H
   go_wp2
   repeat (go_quiet (fail))
   go_ret
   exact ⟨_, by rfl , rdl HO_11, bel2 HB GE517 GE524⟩
  rw [if_pos c20] at H
  have c20b0 : decide (x13_1 ≤ 4) = true := decide_eq_true c20
  clear c20
  by_cases c21 : x13_1 = 1
  ·rw [if_pos c21] at H
   have c21b0 : (x13_1 == 1) = true := beq_iff_eq.mpr c21
   have c21b1 : (x13_1 != 1) = false := bne_eq_false_iff_eq.mpr c21
   clear c21
   by_cases c22 : a4 > 0
   rotate_left
   ·rw [if_neg c22] at H
    have c22b0 : decide (0 < a4) = false := decide_eq_false c22
    clear c22
    have H' := Aside0.mk H
    clear H
    go_wp2
    repeat (go_quiet (fail); try go_wp2)
    go_roundg k1
    case measure => have := HK1.out; omega
    case rel => exact ⟨(x11_1), (wrap64 (x13_1 + 1)), (by rfl ), H', ⟨by have := HK1.out; omega⟩, ⟨rdl HO_11⟩, ⟨bkl BK517⟩, ⟨bkl BK524⟩, ⟨bel2 HB GE517 GE524⟩⟩
   rw [if_pos c22] at H
   have c22b0 : decide (0 < a4) = true := decide_eq_true c22
   clear c22
   by_cases c23 : 0 ≤ a3
   rotate_left
   ·rw [if_neg c23] at H
    exact absurd H (by simp)
   rw [if_pos c23] at H
   have c23b0 : decide (0 ≤ a3) = true := decide_eq_true c23
   clear c23
   by_cases c24 : a3 < (l0_0.length : Int)
   rotate_left
   ·rw [if_neg c24] at H
    exact absurd H (by simp)
   rw [if_pos c24] at H
   have c24b0 : decide (a3 < (l0_0.length : Int)) = true := decide_eq_true c24
   clear c24
   obtain ⟨ji25, hji25⟩ : ∃ j_ : Int, (wrap64 (a4 - 1)) = j_ := ⟨_, rfl⟩
   replace H : (if 0 ≤ (ji25) then (if (ji25) < ((rd_L4 l0_0 a3).length : Int) then (if 0 ≤ (wrap64 ((rd (rd_L4 l0_0 a3) (ji25)) - 1)) then (if (wrap64 ((rd (rd_L4 l0_0 a3) (ji25)) - 1)) < (l1.length : Int) then (if ((rd_T71 l1 (ji10)).f2) > ((rd_T71 l1 (wrap64 ((rd (rd_L4 l0_0 a3) (ji25)) - 1))).f2) then (if x11_1.length < 5864062014805 then (spec_l7At.l0 k1 l1 a2 a3 a4 (x11_1 ++ [(⟨x13_1, a3, a4⟩ : S73)]) (wrap64 (x13_1 + 1)) l0_0 ((rd_T71 l1 (ji10)).f0) ((rd_T71 l1 (ji10)).f1) ((rd_T71 l1 (ji10)).f2) ((rd_T71 l1 (ji10)).f3) ((rd_T71 l1 (ji10)).f4)) else (none)) else (spec_l7At.l0 k1 l1 a2 a3 a4 x11_1 (wrap64 (x13_1 + 1)) l0_0 ((rd_T71 l1 (ji10)).f0) ((rd_T71 l1 (ji10)).f1) ((rd_T71 l1 (ji10)).f2) ((rd_T71 l1 (ji10)).f3) ((rd_T71 l1 (ji10)).f4))) else (none)) else (none)) else (none)) else (none)) = some r := by (rw [hji25] at H; exact H) 
   have hji25w : (IntKind.i64.wrap (a4 - 1)) = ji25 := (i64_w _).trans hji25
   by_cases c26 : 0 ≤ (ji25)
   rotate_left
   ·rw [if_neg c26] at H
    exact absurd H (by simp)
   rw [if_pos c26] at H
   have c26b0 : decide (0 ≤ (ji25)) = true := decide_eq_true c26
   clear c26
   by_cases c27 : (ji25) < ((rd_L4 l0_0 a3).length : Int)
   rotate_left
   ·rw [if_neg c27] at H
    exact absurd H (by simp)
   rw [if_pos c27] at H
   have c27b0 : decide ((ji25) < ((rd_L4 l0_0 a3).length : Int)) = true := decide_eq_true c27
   clear c27
   obtain ⟨ji28, hji28⟩ : ∃ j_ : Int, (wrap64 ((rd (rd_L4 l0_0 a3) (ji25)) - 1)) = j_ := ⟨_, rfl⟩
   replace H : (if 0 ≤ (ji28) then (if (ji28) < (l1.length : Int) then (if ((rd_T71 l1 (ji10)).f2) > ((rd_T71 l1 (ji28)).f2) then (if x11_1.length < 5864062014805 then (spec_l7At.l0 k1 l1 a2 a3 a4 (x11_1 ++ [(⟨x13_1, a3, a4⟩ : S73)]) (wrap64 (x13_1 + 1)) l0_0 ((rd_T71 l1 (ji10)).f0) ((rd_T71 l1 (ji10)).f1) ((rd_T71 l1 (ji10)).f2) ((rd_T71 l1 (ji10)).f3) ((rd_T71 l1 (ji10)).f4)) else (none)) else (spec_l7At.l0 k1 l1 a2 a3 a4 x11_1 (wrap64 (x13_1 + 1)) l0_0 ((rd_T71 l1 (ji10)).f0) ((rd_T71 l1 (ji10)).f1) ((rd_T71 l1 (ji10)).f2) ((rd_T71 l1 (ji10)).f3) ((rd_T71 l1 (ji10)).f4))) else (none)) else (none)) = some r := by (rw [hji28] at H; exact H) 
   have hji28w : (IntKind.i64.wrap ((rd (rd_L4 l0_0 a3) (ji25)) - 1)) = ji28 := (i64_w _).trans hji28
   by_cases c29 : 0 ≤ (ji28)
   rotate_left
   ·rw [if_neg c29] at H
    exact absurd H (by simp)
   rw [if_pos c29] at H
   have c29b0 : decide (0 ≤ (ji28)) = true := decide_eq_true c29
   clear c29
   by_cases c30 : (ji28) < (l1.length : Int)
   rotate_left
   ·rw [if_neg c30] at H
    exact absurd H (by simp)
   rw [if_pos c30] at H
   have c30b0 : decide ((ji28) < (l1.length : Int)) = true := decide_eq_true c30
   clear c30
   by_cases c31 : ((rd_T71 l1 (ji10)).f2) > ((rd_T71 l1 (ji28)).f2)
   rotate_left
   ·rw [if_neg c31] at H
    have c31b0 : decide (((rd_T71 l1 (ji28)).f2) < ((rd_T71 l1 (ji10)).f2)) = false := decide_eq_false c31
    clear c31
    have H' := Aside0.mk H
    clear H
    have hnb37 := NB524_517.out
    have hnc37 := NB517_524.out
    have hcz38_0 : wr.cell? ⟨gb524, 0, none⟩ = some (.string ((rd_T71 l1 (ji10)).f0)) := (blk_cell BK524.out 0).trans rfl
    have hcz38_1 : wr.cell? ⟨gb524, 1, none⟩ = some (.int .i64 ((rd_T71 l1 (ji10)).f1)) := (blk_cell BK524.out 1).trans rfl
    have hcz38_2 : wr.cell? ⟨gb524, 2, none⟩ = some (.int .i64 ((rd_T71 l1 (ji10)).f2)) := (blk_cell BK524.out 2).trans rfl
    have hcz38_3 : wr.cell? ⟨gb524, 3, none⟩ = some (.int .i64 ((rd_T71 l1 (ji10)).f3)) := (blk_cell BK524.out 3).trans rfl
    have hcz38_4 : wr.cell? ⟨gb524, 4, none⟩ = some (.int .i64 ((rd_T71 l1 (ji10)).f4)) := (blk_cell BK524.out 4).trans rfl
    have hfz38_0 := blk_frozen BK524.out 0
    have hfz38_1 := blk_frozen BK524.out 1
    have hfz38_2 := blk_frozen BK524.out 2
    have hfz38_3 := blk_frozen BK524.out 3
    have hfz38_4 := blk_frozen BK524.out 4
    have hcz39_0 := bc BK517 0
    have hfz39_0 := blk_frozen BK517.out 0
    have p525 : 0 ≤ (a3 : Int) := oda
    have q525 : a3 < (l0_0.length : Int) := oda
    obtain ⟨ad525, A525_0, c525_0, e525, hx525_0, hl525_0, hi525_0⟩ := at_L4 HR0_0.out a3 p525 q525
    obtain rfl : ad521 = ad525 := (by injection e525)
    replace hx525_0 := cel HB hx525_0
    have HR525_0 := Aside0.mk hi525_0
    have HC525_0 := Aside0.mk hl525_0
    clear hi525_0 hl525_0
    replace p525 := eq_true p525
    replace q525 := eq_true q525
    have p526 : 0 ≤ ((ji25) : Int) := oda
    have q526 : (ji25) < ((rd_L4 l0_0 a3).length : Int) := oda
    obtain ⟨ad526, e526, hx526_0⟩ := Kd.at_int HR525_0.out (ji25) p526 q526
    cases e526
    replace hx526_0 := cel HB hx526_0
    replace p526 := eq_true p526
    replace q526 := eq_true q526
    have p527 : 0 ≤ ((ji28) : Int) := oda
    have q527 : (ji28) < (l1.length : Int) := oda
    obtain ⟨ad527, e527, hx527_0, hx527_1, hx527_2, hx527_3, hx527_4⟩ := at_T71 HR1.out (ji28) p527 q527
    obtain rfl : ad523 = ad527 := (by injection e527)
    replace hx527_0 := cel HB hx527_0
    replace hx527_1 := cel HB hx527_1
    replace hx527_2 := cel HB hx527_2
    replace hx527_3 := cel HB hx527_3
    replace hx527_4 := cel HB hx527_4
    replace p527 := eq_true p527
    replace q527 := eq_true q527
    go_wp2
    repeat (go_quiet (fail); try go_wp2)
    go_roundg k1
    case measure => have := HK1.out; omega
    case rel => exact ⟨(x11_1), (wrap64 (x13_1 + 1)), (by rfl ), H', ⟨by have := HK1.out; omega⟩, ⟨rdl HO_11⟩, ⟨bkl BK517⟩, ⟨bkl BK524⟩, ⟨bel2 HB GE517 GE524⟩⟩
   rw [if_pos c31] at H
   have c31b0 : decide (((rd_T71 l1 (ji28)).f2) < ((rd_T71 l1 (ji10)).f2)) = true := decide_eq_true c31
   clear c31
   by_cases c32 : x11_1.length < 5864062014805
   rotate_left
   ·rw [if_neg c32] at H
    exact absurd H (by simp)
   rw [if_pos c32] at H
   have LMc32 := Aside0.mk c32
   clear c32
   obtain ⟨y528, hy528⟩ : ∃ y_ : List (S73), y_ = (x11_1 ++ [(⟨x13_1, a3, a4⟩ : S73)]) := ⟨_, rfl⟩
   replace H : (spec_l7At.l0 k1 l1 a2 a3 a4 y528 (wrap64 (x13_1 + 1)) l0_0 ((rd_T71 l1 (ji10)).f0) ((rd_T71 l1 (ji10)).f1) ((rd_T71 l1 (ji10)).f2) ((rd_T71 l1 (ji10)).f3) ((rd_T71 l1 (ji10)).f4)) = some r := by (rw [hy528]; with_reducible exact H) 
   have Ny528 := Aside0.mk hy528
   clear hy528
   have H' := Aside0.mk H
   clear H
   have hnb33 := NB524_517.out
   have hnc33 := NB517_524.out
   have hcz34_0 : wr.cell? ⟨gb524, 0, none⟩ = some (.string ((rd_T71 l1 (ji10)).f0)) := (blk_cell BK524.out 0).trans rfl
   have hcz34_1 : wr.cell? ⟨gb524, 1, none⟩ = some (.int .i64 ((rd_T71 l1 (ji10)).f1)) := (blk_cell BK524.out 1).trans rfl
   have hcz34_2 : wr.cell? ⟨gb524, 2, none⟩ = some (.int .i64 ((rd_T71 l1 (ji10)).f2)) := (blk_cell BK524.out 2).trans rfl
   have hcz34_3 : wr.cell? ⟨gb524, 3, none⟩ = some (.int .i64 ((rd_T71 l1 (ji10)).f3)) := (blk_cell BK524.out 3).trans rfl
   have hcz34_4 : wr.cell? ⟨gb524, 4, none⟩ = some (.int .i64 ((rd_T71 l1 (ji10)).f4)) := (blk_cell BK524.out 4).trans rfl
   have hfz34_0 := blk_frozen BK524.out 0
   have hfz34_1 := blk_frozen BK524.out 1
   have hfz34_2 := blk_frozen BK524.out 2
   have hfz34_3 := blk_frozen BK524.out 3
   have hfz34_4 := blk_frozen BK524.out 4
   have hcz35_0 := bc BK517 0
   have hfz35_0 := blk_frozen BK517.out 0
   have p525 : 0 ≤ (a3 : Int) := oda
   have q525 : a3 < (l0_0.length : Int) := oda
   obtain ⟨ad525, A525_0, c525_0, e525, hx525_0, hl525_0, hi525_0⟩ := at_L4 HR0_0.out a3 p525 q525
   obtain rfl : ad521 = ad525 := (by injection e525)
   replace hx525_0 := cel HB hx525_0
   have HR525_0 := Aside0.mk hi525_0
   have HC525_0 := Aside0.mk hl525_0
   clear hi525_0 hl525_0
   replace p525 := eq_true p525
   replace q525 := eq_true q525
   have p526 : 0 ≤ ((ji25) : Int) := oda
   have q526 : (ji25) < ((rd_L4 l0_0 a3).length : Int) := oda
   obtain ⟨ad526, e526, hx526_0⟩ := Kd.at_int HR525_0.out (ji25) p526 q526
   cases e526
   replace hx526_0 := cel HB hx526_0
   replace p526 := eq_true p526
   replace q526 := eq_true q526
   have p527 : 0 ≤ ((ji28) : Int) := oda
   have q527 : (ji28) < (l1.length : Int) := oda
   obtain ⟨ad527, e527, hx527_0, hx527_1, hx527_2, hx527_3, hx527_4⟩ := at_T71 HR1.out (ji28) p527 q527
   obtain rfl : ad523 = ad527 := (by injection e527)
   replace hx527_0 := cel HB hx527_0
   replace hx527_1 := cel HB hx527_1
   replace hx527_2 := cel HB hx527_2
   replace hx527_3 := cel HB hx527_3
   replace hx527_4 := cel HB hx527_4
   replace p527 := eq_true p527
   replace q527 := eq_true q527
   go_wp2_with (fail)
   repeat (go_quiet (first | ((with_reducible refine gate_builtin (b := .append) (xs := #[.tmp 97, .tmp 102]) rfl ?_); at_builtin; refine Kd.R_append k73 (w0 := w) w.heap.size rfl (.tmp 97) (.tmp 102) 34 73 (.agg #[(.int .i64 0), (.int .i64 0), (.int .i64 0)]) 24 rfl Try.underlying34 info73 rfl (by decide) (by omega) u11 x11_1 (⟨x13_1, a3, a4⟩ : S73) [.int .i64 x13_1, .int .i64 a3, .int .i64 a4] (fun _ => True) (fun _ => False) rfl rfl ?aP (fun _ hk => hk.elim) ?aF ?aO ?aB ?aS ?aL ?_; (case aP => exact k73_mkM _ _ _ (⟨x13_1, a3, a4⟩ : S73)); (case aB => exact (bel2 HB GE517 GE524)); (case aF => exact (fun _ _ => trivial)); (case aO => exact (rdl HO_11)); (case aS => exact (below_size (bel2 HB GE517 GE524))); (case aL => have := LMc32.out; omega); intro v529 w36 ho hb hg hat; rw [← Ny528.out] at ho; replace BK517 := Aside0.mk (blk_grown (g := gb517) (o := .cells #[.slice (some ad521) l0_0.length c0_0] 26 (0, 0)) (bkl BK517) hg (Kd.R_ne HO_11.out BK517.out (by decide))); replace BK524 := Aside0.mk (blk_grown (g := gb524) (o := .cells #[.string ((rd_T71 l1 (ji10)).f0), .int .i64 ((rd_T71 l1 (ji10)).f1), .int .i64 ((rd_T71 l1 (ji10)).f2), .int .i64 ((rd_T71 l1 (ji10)).f3), .int .i64 ((rd_T71 l1 (ji10)).f4)] 71 (0, 0)) (bkl BK524) hg (Kd.R_ne HO_11.out BK524.out (by decide))); replace HB := Aside0.mk (hb); have HO530 := Aside0.mk (ho); clear HO_11; clear ho hb hg hat)); try go_wp2_with (first | ((with_reducible refine gate_builtin (b := .append) (xs := #[.tmp 97, .tmp 102]) rfl ?_); at_builtin; refine Kd.R_append k73 (w0 := w) w.heap.size rfl (.tmp 97) (.tmp 102) 34 73 (.agg #[(.int .i64 0), (.int .i64 0), (.int .i64 0)]) 24 rfl Try.underlying34 info73 rfl (by decide) (by omega) u11 x11_1 (⟨x13_1, a3, a4⟩ : S73) [.int .i64 x13_1, .int .i64 a3, .int .i64 a4] (fun _ => True) (fun _ => False) rfl rfl ?aP (fun _ hk => hk.elim) ?aF ?aO ?aB ?aS ?aL ?_; (case aP => exact k73_mkM _ _ _ (⟨x13_1, a3, a4⟩ : S73)); (case aB => exact (bel2 HB GE517 GE524)); (case aF => exact (fun _ _ => trivial)); (case aO => exact (rdl HO_11)); (case aS => exact (below_size (bel2 HB GE517 GE524))); (case aL => have := LMc32.out; omega); intro v529 w36 ho hb hg hat; rw [← Ny528.out] at ho; replace BK517 := Aside0.mk (blk_grown (g := gb517) (o := .cells #[.slice (some ad521) l0_0.length c0_0] 26 (0, 0)) (bkl BK517) hg (Kd.R_ne HO_11.out BK517.out (by decide))); replace BK524 := Aside0.mk (blk_grown (g := gb524) (o := .cells #[.string ((rd_T71 l1 (ji10)).f0), .int .i64 ((rd_T71 l1 (ji10)).f1), .int .i64 ((rd_T71 l1 (ji10)).f2), .int .i64 ((rd_T71 l1 (ji10)).f3), .int .i64 ((rd_T71 l1 (ji10)).f4)] 71 (0, 0)) (bkl BK524) hg (Kd.R_ne HO_11.out BK524.out (by decide))); replace HB := Aside0.mk (hb); have HO530 := Aside0.mk (ho); clear HO_11; clear ho hb hg hat)))
   go_roundg k1
   case measure => have := HK1.out; omega
   case rel => exact ⟨(y528), (wrap64 (x13_1 + 1)), (by rfl ), H', ⟨by have := HK1.out; omega⟩, ⟨rdl HO530⟩, ⟨bkl BK517⟩, ⟨bkl BK524⟩, ⟨bel2 HB GE517 GE524⟩⟩
  rw [if_neg c21] at H
  have c21b0 : (x13_1 == 1) = false := beq_eq_false_iff_ne.mpr c21
  have c21b1 : (x13_1 != 1) = true := bne_iff_ne.mpr c21
  by_cases c40 : x13_1 = 2
  ·rw [if_pos c40] at H
   have c40b0 : (x13_1 == 2) = true := beq_iff_eq.mpr c40
   have c40b1 : (x13_1 != 2) = false := bne_eq_false_iff_eq.mpr c40
   clear c40
   by_cases c41 : a4 > 0
   rotate_left
   ·rw [if_neg c41] at H
    have c41b0 : decide (0 < a4) = false := decide_eq_false c41
    clear c41
    have H' := Aside0.mk H
    clear H
    go_wp2
    repeat (go_quiet (fail); try go_wp2)
    go_roundg k1
    case measure => have := HK1.out; omega
    case rel => exact ⟨(x11_1), (wrap64 (x13_1 + 1)), (by rfl ), H', ⟨by have := HK1.out; omega⟩, ⟨rdl HO_11⟩, ⟨bkl BK517⟩, ⟨bkl BK524⟩, ⟨bel2 HB GE517 GE524⟩⟩
   rw [if_pos c41] at H
   have c41b0 : decide (0 < a4) = true := decide_eq_true c41
   clear c41
   by_cases c42 : 0 ≤ a3
   rotate_left
   ·rw [if_neg c42] at H
    exact absurd H (by simp)
   rw [if_pos c42] at H
   have c42b0 : decide (0 ≤ a3) = true := decide_eq_true c42
   clear c42
   by_cases c43 : a3 < (l0_0.length : Int)
   rotate_left
   ·rw [if_neg c43] at H
    exact absurd H (by simp)
   rw [if_pos c43] at H
   have c43b0 : decide (a3 < (l0_0.length : Int)) = true := decide_eq_true c43
   clear c43
   obtain ⟨ji44, hji44⟩ : ∃ j_ : Int, (wrap64 (a4 - 1)) = j_ := ⟨_, rfl⟩
   replace H : (if 0 ≤ (ji44) then (if (ji44) < ((rd_L4 l0_0 a3).length : Int) then (if 0 ≤ (wrap64 ((rd (rd_L4 l0_0 a3) (ji44)) - 1)) then (if (wrap64 ((rd (rd_L4 l0_0 a3) (ji44)) - 1)) < (l1.length : Int) then (if ((rd_T71 l1 (ji10)).f1) = ((rd_T71 l1 (wrap64 ((rd (rd_L4 l0_0 a3) (ji44)) - 1))).f1) then (spec_l7At.l0 k1 l1 a2 a3 a4 x11_1 (wrap64 (x13_1 + 1)) l0_0 ((rd_T71 l1 (ji10)).f0) ((rd_T71 l1 (ji10)).f1) ((rd_T71 l1 (ji10)).f2) ((rd_T71 l1 (ji10)).f3) ((rd_T71 l1 (ji10)).f4)) else (if x11_1.length < 5864062014805 then (spec_l7At.l0 k1 l1 a2 a3 a4 (x11_1 ++ [(⟨x13_1, a3, a4⟩ : S73)]) (wrap64 (x13_1 + 1)) l0_0 ((rd_T71 l1 (ji10)).f0) ((rd_T71 l1 (ji10)).f1) ((rd_T71 l1 (ji10)).f2) ((rd_T71 l1 (ji10)).f3) ((rd_T71 l1 (ji10)).f4)) else (none))) else (none)) else (none)) else (none)) else (none)) = some r := by (rw [hji44] at H; exact H) 
   have hji44w : (IntKind.i64.wrap (a4 - 1)) = ji44 := (i64_w _).trans hji44
   by_cases c45 : 0 ≤ (ji44)
   rotate_left
   ·rw [if_neg c45] at H
    exact absurd H (by simp)
   rw [if_pos c45] at H
   have c45b0 : decide (0 ≤ (ji44)) = true := decide_eq_true c45
   clear c45
   by_cases c46 : (ji44) < ((rd_L4 l0_0 a3).length : Int)
   rotate_left
   ·rw [if_neg c46] at H
    exact absurd H (by simp)
   rw [if_pos c46] at H
   have c46b0 : decide ((ji44) < ((rd_L4 l0_0 a3).length : Int)) = true := decide_eq_true c46
   clear c46
   obtain ⟨ji47, hji47⟩ : ∃ j_ : Int, (wrap64 ((rd (rd_L4 l0_0 a3) (ji44)) - 1)) = j_ := ⟨_, rfl⟩
   replace H : (if 0 ≤ (ji47) then (if (ji47) < (l1.length : Int) then (if ((rd_T71 l1 (ji10)).f1) = ((rd_T71 l1 (ji47)).f1) then (spec_l7At.l0 k1 l1 a2 a3 a4 x11_1 (wrap64 (x13_1 + 1)) l0_0 ((rd_T71 l1 (ji10)).f0) ((rd_T71 l1 (ji10)).f1) ((rd_T71 l1 (ji10)).f2) ((rd_T71 l1 (ji10)).f3) ((rd_T71 l1 (ji10)).f4)) else (if x11_1.length < 5864062014805 then (spec_l7At.l0 k1 l1 a2 a3 a4 (x11_1 ++ [(⟨x13_1, a3, a4⟩ : S73)]) (wrap64 (x13_1 + 1)) l0_0 ((rd_T71 l1 (ji10)).f0) ((rd_T71 l1 (ji10)).f1) ((rd_T71 l1 (ji10)).f2) ((rd_T71 l1 (ji10)).f3) ((rd_T71 l1 (ji10)).f4)) else (none))) else (none)) else (none)) = some r := by (rw [hji47] at H; exact H) 
   have hji47w : (IntKind.i64.wrap ((rd (rd_L4 l0_0 a3) (ji44)) - 1)) = ji47 := (i64_w _).trans hji47
   by_cases c48 : 0 ≤ (ji47)
   rotate_left
   ·rw [if_neg c48] at H
    exact absurd H (by simp)
   rw [if_pos c48] at H
   have c48b0 : decide (0 ≤ (ji47)) = true := decide_eq_true c48
   clear c48
   by_cases c49 : (ji47) < (l1.length : Int)
   rotate_left
   ·rw [if_neg c49] at H
    exact absurd H (by simp)
   rw [if_pos c49] at H
   have c49b0 : decide ((ji47) < (l1.length : Int)) = true := decide_eq_true c49
   clear c49
   by_cases c50 : ((rd_T71 l1 (ji10)).f1) = ((rd_T71 l1 (ji47)).f1)
   ·rw [if_pos c50] at H
    have c50b0 : (((rd_T71 l1 (ji10)).f1) == ((rd_T71 l1 (ji47)).f1)) = true := beq_iff_eq.mpr c50
    have c50b1 : (((rd_T71 l1 (ji10)).f1) != ((rd_T71 l1 (ji47)).f1)) = false := bne_eq_false_iff_eq.mpr c50
    clear c50
    have H' := Aside0.mk H
    clear H
    have hnb51 := NB524_517.out
    have hnc51 := NB517_524.out
    have hcz52_0 : wr.cell? ⟨gb524, 0, none⟩ = some (.string ((rd_T71 l1 (ji10)).f0)) := (blk_cell BK524.out 0).trans rfl
    have hcz52_1 : wr.cell? ⟨gb524, 1, none⟩ = some (.int .i64 ((rd_T71 l1 (ji10)).f1)) := (blk_cell BK524.out 1).trans rfl
    have hcz52_2 : wr.cell? ⟨gb524, 2, none⟩ = some (.int .i64 ((rd_T71 l1 (ji10)).f2)) := (blk_cell BK524.out 2).trans rfl
    have hcz52_3 : wr.cell? ⟨gb524, 3, none⟩ = some (.int .i64 ((rd_T71 l1 (ji10)).f3)) := (blk_cell BK524.out 3).trans rfl
    have hcz52_4 : wr.cell? ⟨gb524, 4, none⟩ = some (.int .i64 ((rd_T71 l1 (ji10)).f4)) := (blk_cell BK524.out 4).trans rfl
    have hfz52_0 := blk_frozen BK524.out 0
    have hfz52_1 := blk_frozen BK524.out 1
    have hfz52_2 := blk_frozen BK524.out 2
    have hfz52_3 := blk_frozen BK524.out 3
    have hfz52_4 := blk_frozen BK524.out 4
    have hcz53_0 := bc BK517 0
    have hfz53_0 := blk_frozen BK517.out 0
    have p531 : 0 ≤ (a3 : Int) := oda
    have q531 : a3 < (l0_0.length : Int) := oda
    obtain ⟨ad531, A531_0, c531_0, e531, hx531_0, hl531_0, hi531_0⟩ := at_L4 HR0_0.out a3 p531 q531
    obtain rfl : ad521 = ad531 := (by injection e531)
    replace hx531_0 := cel HB hx531_0
    have HR531_0 := Aside0.mk hi531_0
    have HC531_0 := Aside0.mk hl531_0
    clear hi531_0 hl531_0
    replace p531 := eq_true p531
    replace q531 := eq_true q531
    have p532 : 0 ≤ ((ji44) : Int) := oda
    have q532 : (ji44) < ((rd_L4 l0_0 a3).length : Int) := oda
    obtain ⟨ad532, e532, hx532_0⟩ := Kd.at_int HR531_0.out (ji44) p532 q532
    cases e532
    replace hx532_0 := cel HB hx532_0
    replace p532 := eq_true p532
    replace q532 := eq_true q532
    have p533 : 0 ≤ ((ji47) : Int) := oda
    have q533 : (ji47) < (l1.length : Int) := oda
    obtain ⟨ad533, e533, hx533_0, hx533_1, hx533_2, hx533_3, hx533_4⟩ := at_T71 HR1.out (ji47) p533 q533
    obtain rfl : ad523 = ad533 := (by injection e533)
    replace hx533_0 := cel HB hx533_0
    replace hx533_1 := cel HB hx533_1
    replace hx533_2 := cel HB hx533_2
    replace hx533_3 := cel HB hx533_3
    replace hx533_4 := cel HB hx533_4
    replace p533 := eq_true p533
    replace q533 := eq_true q533
    go_wp2
    repeat (go_quiet (fail); try go_wp2)
    go_roundg k1
    case measure => have := HK1.out; omega
    case rel => exact ⟨(x11_1), (wrap64 (x13_1 + 1)), (by rfl ), H', ⟨by have := HK1.out; omega⟩, ⟨rdl HO_11⟩, ⟨bkl BK517⟩, ⟨bkl BK524⟩, ⟨bel2 HB GE517 GE524⟩⟩
   rw [if_neg c50] at H
   have c50b0 : (((rd_T71 l1 (ji10)).f1) == ((rd_T71 l1 (ji47)).f1)) = false := beq_eq_false_iff_ne.mpr c50
   have c50b1 : (((rd_T71 l1 (ji10)).f1) != ((rd_T71 l1 (ji47)).f1)) = true := bne_iff_ne.mpr c50
   by_cases c54 : x11_1.length < 5864062014805
   rotate_left
   ·rw [if_neg c54] at H
    exact absurd H (by simp)
   rw [if_pos c54] at H
   have LMc54 := Aside0.mk c54
   clear c54
   obtain ⟨y534, hy534⟩ : ∃ y_ : List (S73), y_ = (x11_1 ++ [(⟨x13_1, a3, a4⟩ : S73)]) := ⟨_, rfl⟩
   replace H : (spec_l7At.l0 k1 l1 a2 a3 a4 y534 (wrap64 (x13_1 + 1)) l0_0 ((rd_T71 l1 (ji10)).f0) ((rd_T71 l1 (ji10)).f1) ((rd_T71 l1 (ji10)).f2) ((rd_T71 l1 (ji10)).f3) ((rd_T71 l1 (ji10)).f4)) = some r := by (rw [hy534]; with_reducible exact H) 
   have Ny534 := Aside0.mk hy534
   clear hy534
   have H' := Aside0.mk H
   clear H
   have hnb55 := NB524_517.out
   have hnc55 := NB517_524.out
   have hcz56_0 : wr.cell? ⟨gb524, 0, none⟩ = some (.string ((rd_T71 l1 (ji10)).f0)) := (blk_cell BK524.out 0).trans rfl
   have hcz56_1 : wr.cell? ⟨gb524, 1, none⟩ = some (.int .i64 ((rd_T71 l1 (ji10)).f1)) := (blk_cell BK524.out 1).trans rfl
   have hcz56_2 : wr.cell? ⟨gb524, 2, none⟩ = some (.int .i64 ((rd_T71 l1 (ji10)).f2)) := (blk_cell BK524.out 2).trans rfl
   have hcz56_3 : wr.cell? ⟨gb524, 3, none⟩ = some (.int .i64 ((rd_T71 l1 (ji10)).f3)) := (blk_cell BK524.out 3).trans rfl
   have hcz56_4 : wr.cell? ⟨gb524, 4, none⟩ = some (.int .i64 ((rd_T71 l1 (ji10)).f4)) := (blk_cell BK524.out 4).trans rfl
   have hfz56_0 := blk_frozen BK524.out 0
   have hfz56_1 := blk_frozen BK524.out 1
   have hfz56_2 := blk_frozen BK524.out 2
   have hfz56_3 := blk_frozen BK524.out 3
   have hfz56_4 := blk_frozen BK524.out 4
   have hcz57_0 := bc BK517 0
   have hfz57_0 := blk_frozen BK517.out 0
   have p531 : 0 ≤ (a3 : Int) := oda
   have q531 : a3 < (l0_0.length : Int) := oda
   obtain ⟨ad531, A531_0, c531_0, e531, hx531_0, hl531_0, hi531_0⟩ := at_L4 HR0_0.out a3 p531 q531
   obtain rfl : ad521 = ad531 := (by injection e531)
   replace hx531_0 := cel HB hx531_0
   have HR531_0 := Aside0.mk hi531_0
   have HC531_0 := Aside0.mk hl531_0
   clear hi531_0 hl531_0
   replace p531 := eq_true p531
   replace q531 := eq_true q531
   have p532 : 0 ≤ ((ji44) : Int) := oda
   have q532 : (ji44) < ((rd_L4 l0_0 a3).length : Int) := oda
   obtain ⟨ad532, e532, hx532_0⟩ := Kd.at_int HR531_0.out (ji44) p532 q532
   cases e532
   replace hx532_0 := cel HB hx532_0
   replace p532 := eq_true p532
   replace q532 := eq_true q532
   have p533 : 0 ≤ ((ji47) : Int) := oda
   have q533 : (ji47) < (l1.length : Int) := oda
   obtain ⟨ad533, e533, hx533_0, hx533_1, hx533_2, hx533_3, hx533_4⟩ := at_T71 HR1.out (ji47) p533 q533
   obtain rfl : ad523 = ad533 := (by injection e533)
   replace hx533_0 := cel HB hx533_0
   replace hx533_1 := cel HB hx533_1
   replace hx533_2 := cel HB hx533_2
   replace hx533_3 := cel HB hx533_3
   replace hx533_4 := cel HB hx533_4
   replace p533 := eq_true p533
   replace q533 := eq_true q533
   go_wp2_with (fail)
   repeat (go_quiet (first | ((with_reducible refine gate_builtin (b := .append) (xs := #[.tmp 97, .tmp 102]) rfl ?_); at_builtin; refine Kd.R_append k73 (w0 := w) w.heap.size rfl (.tmp 97) (.tmp 102) 34 73 (.agg #[(.int .i64 0), (.int .i64 0), (.int .i64 0)]) 24 rfl Try.underlying34 info73 rfl (by decide) (by omega) u11 x11_1 (⟨x13_1, a3, a4⟩ : S73) [.int .i64 x13_1, .int .i64 a3, .int .i64 a4] (fun _ => True) (fun _ => False) rfl rfl ?aP (fun _ hk => hk.elim) ?aF ?aO ?aB ?aS ?aL ?_; (case aP => exact k73_mkM _ _ _ (⟨x13_1, a3, a4⟩ : S73)); (case aB => exact (bel2 HB GE517 GE524)); (case aF => exact (fun _ _ => trivial)); (case aO => exact (rdl HO_11)); (case aS => exact (below_size (bel2 HB GE517 GE524))); (case aL => have := LMc54.out; omega); intro v535 w58 ho hb hg hat; rw [← Ny534.out] at ho; replace BK517 := Aside0.mk (blk_grown (g := gb517) (o := .cells #[.slice (some ad521) l0_0.length c0_0] 26 (0, 0)) (bkl BK517) hg (Kd.R_ne HO_11.out BK517.out (by decide))); replace BK524 := Aside0.mk (blk_grown (g := gb524) (o := .cells #[.string ((rd_T71 l1 (ji10)).f0), .int .i64 ((rd_T71 l1 (ji10)).f1), .int .i64 ((rd_T71 l1 (ji10)).f2), .int .i64 ((rd_T71 l1 (ji10)).f3), .int .i64 ((rd_T71 l1 (ji10)).f4)] 71 (0, 0)) (bkl BK524) hg (Kd.R_ne HO_11.out BK524.out (by decide))); replace HB := Aside0.mk (hb); have HO536 := Aside0.mk (ho); clear HO_11; clear ho hb hg hat)); try go_wp2_with (first | ((with_reducible refine gate_builtin (b := .append) (xs := #[.tmp 97, .tmp 102]) rfl ?_); at_builtin; refine Kd.R_append k73 (w0 := w) w.heap.size rfl (.tmp 97) (.tmp 102) 34 73 (.agg #[(.int .i64 0), (.int .i64 0), (.int .i64 0)]) 24 rfl Try.underlying34 info73 rfl (by decide) (by omega) u11 x11_1 (⟨x13_1, a3, a4⟩ : S73) [.int .i64 x13_1, .int .i64 a3, .int .i64 a4] (fun _ => True) (fun _ => False) rfl rfl ?aP (fun _ hk => hk.elim) ?aF ?aO ?aB ?aS ?aL ?_; (case aP => exact k73_mkM _ _ _ (⟨x13_1, a3, a4⟩ : S73)); (case aB => exact (bel2 HB GE517 GE524)); (case aF => exact (fun _ _ => trivial)); (case aO => exact (rdl HO_11)); (case aS => exact (below_size (bel2 HB GE517 GE524))); (case aL => have := LMc54.out; omega); intro v535 w58 ho hb hg hat; rw [← Ny534.out] at ho; replace BK517 := Aside0.mk (blk_grown (g := gb517) (o := .cells #[.slice (some ad521) l0_0.length c0_0] 26 (0, 0)) (bkl BK517) hg (Kd.R_ne HO_11.out BK517.out (by decide))); replace BK524 := Aside0.mk (blk_grown (g := gb524) (o := .cells #[.string ((rd_T71 l1 (ji10)).f0), .int .i64 ((rd_T71 l1 (ji10)).f1), .int .i64 ((rd_T71 l1 (ji10)).f2), .int .i64 ((rd_T71 l1 (ji10)).f3), .int .i64 ((rd_T71 l1 (ji10)).f4)] 71 (0, 0)) (bkl BK524) hg (Kd.R_ne HO_11.out BK524.out (by decide))); replace HB := Aside0.mk (hb); have HO536 := Aside0.mk (ho); clear HO_11; clear ho hb hg hat)))
   go_roundg k1
   case measure => have := HK1.out; omega
   case rel => exact ⟨(y534), (wrap64 (x13_1 + 1)), (by rfl ), H', ⟨by have := HK1.out; omega⟩, ⟨rdl HO536⟩, ⟨bkl BK517⟩, ⟨bkl BK524⟩, ⟨bel2 HB GE517 GE524⟩⟩
  rw [if_neg c40] at H
  have c40b0 : (x13_1 == 2) = false := beq_eq_false_iff_ne.mpr c40
  have c40b1 : (x13_1 != 2) = true := bne_iff_ne.mpr c40
  by_cases c59 : x13_1 = 3
  ·rw [if_pos c59] at H
   have c59b0 : (x13_1 == 3) = true := beq_iff_eq.mpr c59
   have c59b1 : (x13_1 != 3) = false := bne_eq_false_iff_eq.mpr c59
   clear c59
   by_cases c60 : a4 > 0
   rotate_left
   ·rw [if_neg c60] at H
    have c60b0 : decide (0 < a4) = false := decide_eq_false c60
    clear c60
    have H' := Aside0.mk H
    clear H
    go_wp2
    repeat (go_quiet (fail))
    go_roundg k1
    case measure => have := HK1.out; omega
    case rel => exact ⟨(x11_1), (wrap64 (x13_1 + 1)), (by rfl ), H', ⟨by have := HK1.out; omega⟩, ⟨rdl HO_11⟩, ⟨bkl BK517⟩, ⟨bkl BK524⟩, ⟨bel2 HB GE517 GE524⟩⟩
   rw [if_pos c60] at H
   have c60b0 : decide (0 < a4) = true := decide_eq_true c60
   clear c60
   by_cases c61 : ((rd_T71 l1 (ji10)).f3) = 3
   rotate_left
   ·rw [if_neg c61] at H
    have c61b0 : (((rd_T71 l1 (ji10)).f3) == 3) = false := beq_eq_false_iff_ne.mpr c61
    have c61b1 : (((rd_T71 l1 (ji10)).f3) != 3) = true := bne_iff_ne.mpr c61
    have H' := Aside0.mk H
    clear H
    have hnb66 := NB524_517.out
    have hnc66 := NB517_524.out
    have hcz67_0 : wr.cell? ⟨gb524, 0, none⟩ = some (.string ((rd_T71 l1 (ji10)).f0)) := (blk_cell BK524.out 0).trans rfl
    have hcz67_1 : wr.cell? ⟨gb524, 1, none⟩ = some (.int .i64 ((rd_T71 l1 (ji10)).f1)) := (blk_cell BK524.out 1).trans rfl
    have hcz67_2 : wr.cell? ⟨gb524, 2, none⟩ = some (.int .i64 ((rd_T71 l1 (ji10)).f2)) := (blk_cell BK524.out 2).trans rfl
    have hcz67_3 : wr.cell? ⟨gb524, 3, none⟩ = some (.int .i64 ((rd_T71 l1 (ji10)).f3)) := (blk_cell BK524.out 3).trans rfl
    have hcz67_4 : wr.cell? ⟨gb524, 4, none⟩ = some (.int .i64 ((rd_T71 l1 (ji10)).f4)) := (blk_cell BK524.out 4).trans rfl
    have hfz67_0 := blk_frozen BK524.out 0
    have hfz67_1 := blk_frozen BK524.out 1
    have hfz67_2 := blk_frozen BK524.out 2
    have hfz67_3 := blk_frozen BK524.out 3
    have hfz67_4 := blk_frozen BK524.out 4
    go_wp2
    repeat (go_quiet (fail))
    go_roundg k1
    case measure => have := HK1.out; omega
    case rel => exact ⟨(x11_1), (wrap64 (x13_1 + 1)), (by rfl ), H', ⟨by have := HK1.out; omega⟩, ⟨rdl HO_11⟩, ⟨bkl BK517⟩, ⟨bkl BK524⟩, ⟨bel2 HB GE517 GE524⟩⟩
   rw [if_pos c61] at H
   have c61b0 : (((rd_T71 l1 (ji10)).f3) == 3) = true := beq_iff_eq.mpr c61
   have c61b1 : (((rd_T71 l1 (ji10)).f3) != 3) = false := bne_eq_false_iff_eq.mpr c61
   clear c61
   by_cases c62 : x11_1.length < 5864062014805
   rotate_left
   ·rw [if_neg c62] at H
    exact absurd H (by simp)
   rw [if_pos c62] at H
   have LMc62 := Aside0.mk c62
   clear c62
   obtain ⟨y537, hy537⟩ : ∃ y_ : List (S73), y_ = (x11_1 ++ [(⟨x13_1, a3, a4⟩ : S73)]) := ⟨_, rfl⟩
   replace H : (spec_l7At.l0 k1 l1 a2 a3 a4 y537 (wrap64 (x13_1 + 1)) l0_0 ((rd_T71 l1 (ji10)).f0) ((rd_T71 l1 (ji10)).f1) ((rd_T71 l1 (ji10)).f2) ((rd_T71 l1 (ji10)).f3) ((rd_T71 l1 (ji10)).f4)) = some r := by (rw [hy537]; with_reducible exact H) 
   have Ny537 := Aside0.mk hy537
   clear hy537
   have H' := Aside0.mk H
   clear H
   have hnb63 := NB524_517.out
   have hnc63 := NB517_524.out
   have hcz64_0 : wr.cell? ⟨gb524, 0, none⟩ = some (.string ((rd_T71 l1 (ji10)).f0)) := (blk_cell BK524.out 0).trans rfl
   have hcz64_1 : wr.cell? ⟨gb524, 1, none⟩ = some (.int .i64 ((rd_T71 l1 (ji10)).f1)) := (blk_cell BK524.out 1).trans rfl
   have hcz64_2 : wr.cell? ⟨gb524, 2, none⟩ = some (.int .i64 ((rd_T71 l1 (ji10)).f2)) := (blk_cell BK524.out 2).trans rfl
   have hcz64_3 : wr.cell? ⟨gb524, 3, none⟩ = some (.int .i64 ((rd_T71 l1 (ji10)).f3)) := (blk_cell BK524.out 3).trans rfl
   have hcz64_4 : wr.cell? ⟨gb524, 4, none⟩ = some (.int .i64 ((rd_T71 l1 (ji10)).f4)) := (blk_cell BK524.out 4).trans rfl
   have hfz64_0 := blk_frozen BK524.out 0
   have hfz64_1 := blk_frozen BK524.out 1
   have hfz64_2 := blk_frozen BK524.out 2
   have hfz64_3 := blk_frozen BK524.out 3
   have hfz64_4 := blk_frozen BK524.out 4
   go_wp2_with (first | ((with_reducible refine gate_builtin (b := .append) (xs := #[.tmp 97, .tmp 102]) rfl ?_); at_builtin; refine Kd.R_append k73 (w0 := w) w.heap.size rfl (.tmp 97) (.tmp 102) 34 73 (.agg #[(.int .i64 0), (.int .i64 0), (.int .i64 0)]) 24 rfl Try.underlying34 info73 rfl (by decide) (by omega) u11 x11_1 (⟨x13_1, a3, a4⟩ : S73) [.int .i64 x13_1, .int .i64 a3, .int .i64 a4] (fun _ => True) (fun _ => False) rfl rfl ?aP (fun _ hk => hk.elim) ?aF ?aO ?aB ?aS ?aL ?_; (case aP => exact k73_mkM _ _ _ (⟨x13_1, a3, a4⟩ : S73)); (case aB => exact (bel2 HB GE517 GE524)); (case aF => exact (fun _ _ => trivial)); (case aO => exact (rdl HO_11)); (case aS => exact (below_size (bel2 HB GE517 GE524))); (case aL => have := LMc62.out; omega); intro v538 w65 ho hb hg hat; rw [← Ny537.out] at ho; replace BK517 := Aside0.mk (blk_grown (g := gb517) (o := .cells #[.slice (some ad521) l0_0.length c0_0] 26 (0, 0)) (bkl BK517) hg (Kd.R_ne HO_11.out BK517.out (by decide))); replace BK524 := Aside0.mk (blk_grown (g := gb524) (o := .cells #[.string ((rd_T71 l1 (ji10)).f0), .int .i64 ((rd_T71 l1 (ji10)).f1), .int .i64 ((rd_T71 l1 (ji10)).f2), .int .i64 ((rd_T71 l1 (ji10)).f3), .int .i64 ((rd_T71 l1 (ji10)).f4)] 71 (0, 0)) (bkl BK524) hg (Kd.R_ne HO_11.out BK524.out (by decide))); replace HB := Aside0.mk (hb); have HO539 := Aside0.mk (ho); clear HO_11; clear ho hb hg hat))
   repeat (go_quiet (first | ((with_reducible refine gate_builtin (b := .append) (xs := #[.tmp 97, .tmp 102]) rfl ?_); at_builtin; refine Kd.R_append k73 (w0 := w) w.heap.size rfl (.tmp 97) (.tmp 102) 34 73 (.agg #[(.int .i64 0), (.int .i64 0), (.int .i64 0)]) 24 rfl Try.underlying34 info73 rfl (by decide) (by omega) u11 x11_1 (⟨x13_1, a3, a4⟩ : S73) [.int .i64 x13_1, .int .i64 a3, .int .i64 a4] (fun _ => True) (fun _ => False) rfl rfl ?aP (fun _ hk => hk.elim) ?aF ?aO ?aB ?aS ?aL ?_; (case aP => exact k73_mkM _ _ _ (⟨x13_1, a3, a4⟩ : S73)); (case aB => exact (bel2 HB GE517 GE524)); (case aF => exact (fun _ _ => trivial)); (case aO => exact (rdl HO_11)); (case aS => exact (below_size (bel2 HB GE517 GE524))); (case aL => have := LMc62.out; omega); intro v538 w65 ho hb hg hat; rw [← Ny537.out] at ho; replace BK517 := Aside0.mk (blk_grown (g := gb517) (o := .cells #[.slice (some ad521) l0_0.length c0_0] 26 (0, 0)) (bkl BK517) hg (Kd.R_ne HO_11.out BK517.out (by decide))); replace BK524 := Aside0.mk (blk_grown (g := gb524) (o := .cells #[.string ((rd_T71 l1 (ji10)).f0), .int .i64 ((rd_T71 l1 (ji10)).f1), .int .i64 ((rd_T71 l1 (ji10)).f2), .int .i64 ((rd_T71 l1 (ji10)).f3), .int .i64 ((rd_T71 l1 (ji10)).f4)] 71 (0, 0)) (bkl BK524) hg (Kd.R_ne HO_11.out BK524.out (by decide))); replace HB := Aside0.mk (hb); have HO539 := Aside0.mk (ho); clear HO_11; clear ho hb hg hat)))
   go_roundg k1
   case measure => have := HK1.out; omega
   case rel => exact ⟨(y537), (wrap64 (x13_1 + 1)), (by rfl ), H', ⟨by have := HK1.out; omega⟩, ⟨rdl HO539⟩, ⟨bkl BK517⟩, ⟨bkl BK524⟩, ⟨bel2 HB GE517 GE524⟩⟩
  rw [if_neg c59] at H
  have c59b0 : (x13_1 == 3) = false := beq_eq_false_iff_ne.mpr c59
  have c59b1 : (x13_1 != 3) = true := bne_iff_ne.mpr c59
  by_cases c68 : ((rd_T71 l1 (ji10)).f3) = 2
  rotate_left
  ·rw [if_neg c68] at H
   have c68b0 : (((rd_T71 l1 (ji10)).f3) == 2) = false := beq_eq_false_iff_ne.mpr c68
   have c68b1 : (((rd_T71 l1 (ji10)).f3) != 2) = true := bne_iff_ne.mpr c68
   have H' := Aside0.mk H
   clear H
   have hnb76 := NB524_517.out
   have hnc76 := NB517_524.out
   have hcz77_0 : wr.cell? ⟨gb524, 0, none⟩ = some (.string ((rd_T71 l1 (ji10)).f0)) := (blk_cell BK524.out 0).trans rfl
   have hcz77_1 : wr.cell? ⟨gb524, 1, none⟩ = some (.int .i64 ((rd_T71 l1 (ji10)).f1)) := (blk_cell BK524.out 1).trans rfl
   have hcz77_2 : wr.cell? ⟨gb524, 2, none⟩ = some (.int .i64 ((rd_T71 l1 (ji10)).f2)) := (blk_cell BK524.out 2).trans rfl
   have hcz77_3 : wr.cell? ⟨gb524, 3, none⟩ = some (.int .i64 ((rd_T71 l1 (ji10)).f3)) := (blk_cell BK524.out 3).trans rfl
   have hcz77_4 : wr.cell? ⟨gb524, 4, none⟩ = some (.int .i64 ((rd_T71 l1 (ji10)).f4)) := (blk_cell BK524.out 4).trans rfl
   have hfz77_0 := blk_frozen BK524.out 0
   have hfz77_1 := blk_frozen BK524.out 1
   have hfz77_2 := blk_frozen BK524.out 2
   have hfz77_3 := blk_frozen BK524.out 3
   have hfz77_4 := blk_frozen BK524.out 4
   go_wp2
   repeat (go_quiet (fail))
   go_roundg k1
   case measure => have := HK1.out; omega
   case rel => exact ⟨(x11_1), (wrap64 (x13_1 + 1)), (by rfl ), H', ⟨by have := HK1.out; omega⟩, ⟨rdl HO_11⟩, ⟨bkl BK517⟩, ⟨bkl BK524⟩, ⟨bel2 HB GE517 GE524⟩⟩
  rw [if_pos c68] at H
  have c68b0 : (((rd_T71 l1 (ji10)).f3) == 2) = true := beq_iff_eq.mpr c68
  have c68b1 : (((rd_T71 l1 (ji10)).f3) != 2) = false := bne_eq_false_iff_eq.mpr c68
  clear c68
  by_cases c69 : a3 ≥ a2
  rotate_left
  ·rw [if_neg c69] at H
   have c69b0 : decide (a2 ≤ a3) = false := decide_eq_false c69
   clear c69
   have H' := Aside0.mk H
   clear H
   have hnb74 := NB524_517.out
   have hnc74 := NB517_524.out
   have hcz75_0 : wr.cell? ⟨gb524, 0, none⟩ = some (.string ((rd_T71 l1 (ji10)).f0)) := (blk_cell BK524.out 0).trans rfl
   have hcz75_1 : wr.cell? ⟨gb524, 1, none⟩ = some (.int .i64 ((rd_T71 l1 (ji10)).f1)) := (blk_cell BK524.out 1).trans rfl
   have hcz75_2 : wr.cell? ⟨gb524, 2, none⟩ = some (.int .i64 ((rd_T71 l1 (ji10)).f2)) := (blk_cell BK524.out 2).trans rfl
   have hcz75_3 : wr.cell? ⟨gb524, 3, none⟩ = some (.int .i64 ((rd_T71 l1 (ji10)).f3)) := (blk_cell BK524.out 3).trans rfl
   have hcz75_4 : wr.cell? ⟨gb524, 4, none⟩ = some (.int .i64 ((rd_T71 l1 (ji10)).f4)) := (blk_cell BK524.out 4).trans rfl
   have hfz75_0 := blk_frozen BK524.out 0
   have hfz75_1 := blk_frozen BK524.out 1
   have hfz75_2 := blk_frozen BK524.out 2
   have hfz75_3 := blk_frozen BK524.out 3
   have hfz75_4 := blk_frozen BK524.out 4
   go_wp2
   repeat (go_quiet (fail))
   go_roundg k1
   case measure => have := HK1.out; omega
   case rel => exact ⟨(x11_1), (wrap64 (x13_1 + 1)), (by rfl ), H', ⟨by have := HK1.out; omega⟩, ⟨rdl HO_11⟩, ⟨bkl BK517⟩, ⟨bkl BK524⟩, ⟨bel2 HB GE517 GE524⟩⟩
  rw [if_pos c69] at H
  have c69b0 : decide (a2 ≤ a3) = true := decide_eq_true c69
  clear c69
  by_cases c70 : x11_1.length < 5864062014805
  rotate_left
  ·rw [if_neg c70] at H
   exact absurd H (by simp)
  rw [if_pos c70] at H
  have LMc70 := Aside0.mk c70
  clear c70
  obtain ⟨y540, hy540⟩ : ∃ y_ : List (S73), y_ = (x11_1 ++ [(⟨x13_1, a3, a4⟩ : S73)]) := ⟨_, rfl⟩
  replace H : (spec_l7At.l0 k1 l1 a2 a3 a4 y540 (wrap64 (x13_1 + 1)) l0_0 ((rd_T71 l1 (ji10)).f0) ((rd_T71 l1 (ji10)).f1) ((rd_T71 l1 (ji10)).f2) ((rd_T71 l1 (ji10)).f3) ((rd_T71 l1 (ji10)).f4)) = some r := by (rw [hy540]; with_reducible exact H) 
  have Ny540 := Aside0.mk hy540
  clear hy540
  have H' := Aside0.mk H
  clear H
  have hnb71 := NB524_517.out
  have hnc71 := NB517_524.out
  have hcz72_0 : wr.cell? ⟨gb524, 0, none⟩ = some (.string ((rd_T71 l1 (ji10)).f0)) := (blk_cell BK524.out 0).trans rfl
  have hcz72_1 : wr.cell? ⟨gb524, 1, none⟩ = some (.int .i64 ((rd_T71 l1 (ji10)).f1)) := (blk_cell BK524.out 1).trans rfl
  have hcz72_2 : wr.cell? ⟨gb524, 2, none⟩ = some (.int .i64 ((rd_T71 l1 (ji10)).f2)) := (blk_cell BK524.out 2).trans rfl
  have hcz72_3 : wr.cell? ⟨gb524, 3, none⟩ = some (.int .i64 ((rd_T71 l1 (ji10)).f3)) := (blk_cell BK524.out 3).trans rfl
  have hcz72_4 : wr.cell? ⟨gb524, 4, none⟩ = some (.int .i64 ((rd_T71 l1 (ji10)).f4)) := (blk_cell BK524.out 4).trans rfl
  have hfz72_0 := blk_frozen BK524.out 0
  have hfz72_1 := blk_frozen BK524.out 1
  have hfz72_2 := blk_frozen BK524.out 2
  have hfz72_3 := blk_frozen BK524.out 3
  have hfz72_4 := blk_frozen BK524.out 4
  go_wp2_with (first | ((with_reducible refine gate_builtin (b := .append) (xs := #[.tmp 97, .tmp 102]) rfl ?_); at_builtin; refine Kd.R_append k73 (w0 := w) w.heap.size rfl (.tmp 97) (.tmp 102) 34 73 (.agg #[(.int .i64 0), (.int .i64 0), (.int .i64 0)]) 24 rfl Try.underlying34 info73 rfl (by decide) (by omega) u11 x11_1 (⟨x13_1, a3, a4⟩ : S73) [.int .i64 x13_1, .int .i64 a3, .int .i64 a4] (fun _ => True) (fun _ => False) rfl rfl ?aP (fun _ hk => hk.elim) ?aF ?aO ?aB ?aS ?aL ?_; (case aP => exact k73_mkM _ _ _ (⟨x13_1, a3, a4⟩ : S73)); (case aB => exact (bel2 HB GE517 GE524)); (case aF => exact (fun _ _ => trivial)); (case aO => exact (rdl HO_11)); (case aS => exact (below_size (bel2 HB GE517 GE524))); (case aL => have := LMc70.out; omega); intro v541 w73 ho hb hg hat; rw [← Ny540.out] at ho; replace BK517 := Aside0.mk (blk_grown (g := gb517) (o := .cells #[.slice (some ad521) l0_0.length c0_0] 26 (0, 0)) (bkl BK517) hg (Kd.R_ne HO_11.out BK517.out (by decide))); replace BK524 := Aside0.mk (blk_grown (g := gb524) (o := .cells #[.string ((rd_T71 l1 (ji10)).f0), .int .i64 ((rd_T71 l1 (ji10)).f1), .int .i64 ((rd_T71 l1 (ji10)).f2), .int .i64 ((rd_T71 l1 (ji10)).f3), .int .i64 ((rd_T71 l1 (ji10)).f4)] 71 (0, 0)) (bkl BK524) hg (Kd.R_ne HO_11.out BK524.out (by decide))); replace HB := Aside0.mk (hb); have HO542 := Aside0.mk (ho); clear HO_11; clear ho hb hg hat))
  repeat (go_quiet (first | ((with_reducible refine gate_builtin (b := .append) (xs := #[.tmp 97, .tmp 102]) rfl ?_); at_builtin; refine Kd.R_append k73 (w0 := w) w.heap.size rfl (.tmp 97) (.tmp 102) 34 73 (.agg #[(.int .i64 0), (.int .i64 0), (.int .i64 0)]) 24 rfl Try.underlying34 info73 rfl (by decide) (by omega) u11 x11_1 (⟨x13_1, a3, a4⟩ : S73) [.int .i64 x13_1, .int .i64 a3, .int .i64 a4] (fun _ => True) (fun _ => False) rfl rfl ?aP (fun _ hk => hk.elim) ?aF ?aO ?aB ?aS ?aL ?_; (case aP => exact k73_mkM _ _ _ (⟨x13_1, a3, a4⟩ : S73)); (case aB => exact (bel2 HB GE517 GE524)); (case aF => exact (fun _ _ => trivial)); (case aO => exact (rdl HO_11)); (case aS => exact (below_size (bel2 HB GE517 GE524))); (case aL => have := LMc70.out; omega); intro v541 w73 ho hb hg hat; rw [← Ny540.out] at ho; replace BK517 := Aside0.mk (blk_grown (g := gb517) (o := .cells #[.slice (some ad521) l0_0.length c0_0] 26 (0, 0)) (bkl BK517) hg (Kd.R_ne HO_11.out BK517.out (by decide))); replace BK524 := Aside0.mk (blk_grown (g := gb524) (o := .cells #[.string ((rd_T71 l1 (ji10)).f0), .int .i64 ((rd_T71 l1 (ji10)).f1), .int .i64 ((rd_T71 l1 (ji10)).f2), .int .i64 ((rd_T71 l1 (ji10)).f3), .int .i64 ((rd_T71 l1 (ji10)).f4)] 71 (0, 0)) (bkl BK524) hg (Kd.R_ne HO_11.out BK524.out (by decide))); replace HB := Aside0.mk (hb); have HO542 := Aside0.mk (ho); clear HO_11; clear ho hb hg hat)))
  go_roundg k1
  case measure => have := HK1.out; omega
  case rel => exact ⟨(y540), (wrap64 (x13_1 + 1)), (by rfl ), H', ⟨by have := HK1.out; omega⟩, ⟨rdl HO542⟩, ⟨bkl BK517⟩, ⟨bkl BK524⟩, ⟨bel2 HB GE517 GE524⟩⟩
end Go.Proofs.Ytemildnlfjijmaa.P
