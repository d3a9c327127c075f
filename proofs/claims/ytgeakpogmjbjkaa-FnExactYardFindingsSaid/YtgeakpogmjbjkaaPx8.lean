-- Written by a program of this session over the translation (a variant of the printer, see wip/gen); Lean checks it.
import Derived.Test.YtgeakpogmjbjkaaPx0
import Derived.Test.YtgeakpogmjbjkaaPx7
namespace Go.Proofs.Ytgeakpogmjbjkaa.P
open Go.RowKit Go.Proofs.YtgeakpogmjbjkaaW.PrintWords Go.Proofs.YtgeakpogmjbjkaaW.PrintLast Go.Proofs.YtgeakpogmjbjkaaW.PrintMore
attribute [local go_sem] Go.Proofs.Ytgeakpogmjbjkaa.V.isSome_setCell max2_int min2_int max_two min_two max_three min_three max_four min_four   -- for this text's walks alone
set_option linter.unusedVariables false
set_option linter.unusedSimpArgs false

/-! ### spec_l7At: function 46 -/
def spec_l7At.l0 : Nat → List (S61) → Int → Int → Int → List (S59) → Int → List (List Int) → ByteArray → Int → Int → Int → Int → Option ((List (S59)))
 | 0, _, _, _, _, _, _, _, _, _, _, _, _ => none
 | k + 1, x1, x2, x3, x4, x11, x13, x199000, x206000, x206001, x206002, x206003, x206004 => if x13 ≤ 4 then (if x13 = 1 then (if x4 > 0 then (if 0 ≤ x3 then (if x3 < (x199000.length : Int) then (if 0 ≤ (wrap64 (x4 - 1)) then (if (wrap64 (x4 - 1)) < ((rd_L1 x199000 x3).length : Int) then (if 0 ≤ (wrap64 ((rd (rd_L1 x199000 x3) (wrap64 (x4 - 1))) - 1)) then (if (wrap64 ((rd (rd_L1 x199000 x3) (wrap64 (x4 - 1))) - 1)) < (x1.length : Int) then (if x206002 > ((rd_T61 x1 (wrap64 ((rd (rd_L1 x199000 x3) (wrap64 (x4 - 1))) - 1))).f2) then (if x11.length < 5864062014805 then (spec_l7At.l0 k x1 x2 x3 x4 (x11 ++ [(⟨x13, x3, x4⟩ : S59)]) (wrap64 (x13 + 1)) x199000 x206000 x206001 x206002 x206003 x206004) else (none)) else (spec_l7At.l0 k x1 x2 x3 x4 x11 (wrap64 (x13 + 1)) x199000 x206000 x206001 x206002 x206003 x206004)) else (none)) else (none)) else (none)) else (none)) else (none)) else (none)) else (spec_l7At.l0 k x1 x2 x3 x4 x11 (wrap64 (x13 + 1)) x199000 x206000 x206001 x206002 x206003 x206004)) else (if x13 = 2 then (if x4 > 0 then (if 0 ≤ x3 then (if x3 < (x199000.length : Int) then (if 0 ≤ (wrap64 (x4 - 1)) then (if (wrap64 (x4 - 1)) < ((rd_L1 x199000 x3).length : Int) then (if 0 ≤ (wrap64 ((rd (rd_L1 x199000 x3) (wrap64 (x4 - 1))) - 1)) then (if (wrap64 ((rd (rd_L1 x199000 x3) (wrap64 (x4 - 1))) - 1)) < (x1.length : Int) then (if x206001 = ((rd_T61 x1 (wrap64 ((rd (rd_L1 x199000 x3) (wrap64 (x4 - 1))) - 1))).f1) then (spec_l7At.l0 k x1 x2 x3 x4 x11 (wrap64 (x13 + 1)) x199000 x206000 x206001 x206002 x206003 x206004) else (if x11.length < 5864062014805 then (spec_l7At.l0 k x1 x2 x3 x4 (x11 ++ [(⟨x13, x3, x4⟩ : S59)]) (wrap64 (x13 + 1)) x199000 x206000 x206001 x206002 x206003 x206004) else (none))) else (none)) else (none)) else (none)) else (none)) else (none)) else (none)) else (spec_l7At.l0 k x1 x2 x3 x4 x11 (wrap64 (x13 + 1)) x199000 x206000 x206001 x206002 x206003 x206004)) else (if x13 = 3 then (if x4 > 0 then (if x206003 = 3 then (if x11.length < 5864062014805 then (spec_l7At.l0 k x1 x2 x3 x4 (x11 ++ [(⟨x13, x3, x4⟩ : S59)]) (wrap64 (x13 + 1)) x199000 x206000 x206001 x206002 x206003 x206004) else (none)) else (spec_l7At.l0 k x1 x2 x3 x4 x11 (wrap64 (x13 + 1)) x199000 x206000 x206001 x206002 x206003 x206004)) else (spec_l7At.l0 k x1 x2 x3 x4 x11 (wrap64 (x13 + 1)) x199000 x206000 x206001 x206002 x206003 x206004)) else (if x206003 = 2 then (if x3 ≥ x2 then (if x11.length < 5864062014805 then (spec_l7At.l0 k x1 x2 x3 x4 (x11 ++ [(⟨x13, x3, x4⟩ : S59)]) (wrap64 (x13 + 1)) x199000 x206000 x206001 x206002 x206003 x206004) else (none)) else (spec_l7At.l0 k x1 x2 x3 x4 x11 (wrap64 (x13 + 1)) x199000 x206000 x206001 x206002 x206003 x206004)) else (spec_l7At.l0 k x1 x2 x3 x4 x11 (wrap64 (x13 + 1)) x199000 x206000 x206001 x206002 x206003 x206004))))) else (some x11)
def spec_l7At.f (k : Nat) (l0_0 : List (List Int)) (l1 : List (S61)) (a2 : Int) (a3 : Int) (a4 : Int) : Option ((List (S59))) := if 0 ≤ a3 then (if a3 < (l0_0.length : Int) then (if 0 ≤ a4 then (if a4 < ((rd_L1 l0_0 a3).length : Int) then (if 0 ≤ (wrap64 ((rd (rd_L1 l0_0 a3) a4) - 1)) then (if (wrap64 ((rd (rd_L1 l0_0 a3) a4) - 1)) < (l1.length : Int) then (spec_l7At.l0 k l1 a2 a3 a4 (([] : List (S59))) 1 l0_0 ((rd_T61 l1 (wrap64 ((rd (rd_L1 l0_0 a3) a4) - 1))).f0) ((rd_T61 l1 (wrap64 ((rd (rd_L1 l0_0 a3) a4) - 1))).f1) ((rd_T61 l1 (wrap64 ((rd (rd_L1 l0_0 a3) a4) - 1))).f2) ((rd_T61 l1 (wrap64 ((rd (rd_L1 l0_0 a3) a4) - 1))).f3) ((rd_T61 l1 (wrap64 ((rd (rd_L1 l0_0 a3) a4) - 1))).f4)) else (none)) else (none)) else (none)) else (none)) else (none)) else (none)
theorem spec_l7At.mono_l : ∀ k, (∀ y0 y1 y2 y3 y4 y5 y6 y7 y8 y9 y10 y11, LeO (spec_l7At.l0 k y0 y1 y2 y3 y4 y5 y6 y7 y8 y9 y10 y11) (spec_l7At.l0 (k + 1) y0 y1 y2 y3 y4 y5 y6 y7 y8 y9 y10 y11))
 | 0 => fun _ _ _ _ _ _ _ _ _ _ _ _ r h => by simp [spec_l7At.l0] at h
 | k + 1 => by
  have ih0 := spec_l7At.mono_l k
  ·intro y0 y1 y2 y3 y4 y5 y6 y7 y8 y9 y10 y11
   unfold spec_l7At.l0
   repeat' first
   | (with_reducible exact ih0 _ _ _ _ _ _ _ _ _ _ _ _)
   | (with_reducible exact LeO.refl _)
   | (with_reducible exact LeO.none _)
   | (with_reducible refine LeO.ite ?_ ?_)
   | (with_reducible refine LeO.bind ?_ (fun _ => ?_))
   | exact ih0 _ _ _ _ _ _ _ _ _ _ _ _
   | exact LeO.none _
   | refine LeO.ite ?_ ?_
   | refine LeO.bind ?_ (fun _ => ?_)
theorem spec_l7At.mono : ∀ a0 a1 a2 a3 a4 k, LeO (spec_l7At.f k a0 a1 a2 a3 a4) (spec_l7At.f (k + 1) a0 a1 a2 a3 a4) := by
 intro a0 a1 a2 a3 a4 k
 have ih0 := spec_l7At.mono_l k
 unfold spec_l7At.f
 repeat' first
   | (with_reducible exact ih0 _ _ _ _ _ _ _ _ _ _ _ _)
   | (with_reducible exact LeO.refl _)
   | (with_reducible exact LeO.none _)
   | (with_reducible refine LeO.ite ?_ ?_)
   | (with_reducible refine LeO.bind ?_ (fun _ => ?_))
   | exact ih0 _ _ _ _ _ _ _ _ _ _ _ _
   | exact LeO.none _
   | refine LeO.ite ?_ ?_
   | refine LeO.bind ?_ (fun _ => ?_)
set_option maxHeartbeats 8000000 in
set_option maxRecDepth 100000 in
theorem spec_l7At.calls (k : Nat) (A0_0 : Option Addr) (c0_0 : Nat) (l0_0 : List (List Int)) (A1 : Option Addr) (c1 : Nat) (l1 : List (S61)) (a2 : Int) (a3 : Int) (a4 : Int) (r : List (S59)) (w : World) (hr0_0 : Kd.C (Kd.slice 3 (Kd.int .i64)) w A0_0 l0_0.length l0_0) (hc0_0 : l0_0.length ≤ c0_0) (hr1 : Kd.C k61 w A1 l1.length l1) (hc1 : l1.length ≤ c1) (h : spec_l7At.f k l0_0 l1 a2 a3 a4 = some r) :
  Calls Try.prog 46 #[.agg #[.slice A0_0 l0_0.length c0_0], .slice A1 l1.length c1, .int .i64 a2, .int .i64 a3, .int .i64 a4] w fun e w' => ∃ v0_ : Value, e = .returned (v0_) ∧ Kd.R k59 59 w' w.heap.size (fun _ => True) v0_ r ∧ Below w.heap.size w w' := by
 have hu31 := Try.underlying31
 have hu61 := Try.underlying61
 have hu59 := Try.underlying59
 have HR0_0 := Aside0.mk hr0_0
 have HC0_0 := Aside0.mk hc0_0
 clear hr0_0 hc0_0
 have HR1 := Aside0.mk hr1
 have HC1 := Aside0.mk hc1
 clear hr1 hc1
 have HB := Aside0.mk (Below.refl w.heap.size w)
 have H : (if 0 ≤ a3 then (if a3 < (l0_0.length : Int) then (if 0 ≤ a4 then (if a4 < ((rd_L1 l0_0 a3).length : Int) then (if 0 ≤ (wrap64 ((rd (rd_L1 l0_0 a3) a4) - 1)) then (if (wrap64 ((rd (rd_L1 l0_0 a3) a4) - 1)) < (l1.length : Int) then (spec_l7At.l0 k l1 a2 a3 a4 (([] : List (S59))) 1 l0_0 ((rd_T61 l1 (wrap64 ((rd (rd_L1 l0_0 a3) a4) - 1))).f0) ((rd_T61 l1 (wrap64 ((rd (rd_L1 l0_0 a3) a4) - 1))).f1) ((rd_T61 l1 (wrap64 ((rd (rd_L1 l0_0 a3) a4) - 1))).f2) ((rd_T61 l1 (wrap64 ((rd (rd_L1 l0_0 a3) a4) - 1))).f3) ((rd_T61 l1 (wrap64 ((rd (rd_L1 l0_0 a3) a4) - 1))).f4)) else (none)) else (none)) else (none)) else (none)) else (none)) else (none)) = some r := h
 clear h
 obtain ⟨y199, hy199⟩ : ∃ y_ : List (S59), y_ = (([] : List (S59))) := ⟨_, rfl⟩
 replace H : (if 0 ≤ a3 then (if a3 < (l0_0.length : Int) then (if 0 ≤ a4 then (if a4 < ((rd_L1 l0_0 a3).length : Int) then (if 0 ≤ (wrap64 ((rd (rd_L1 l0_0 a3) a4) - 1)) then (if (wrap64 ((rd (rd_L1 l0_0 a3) a4) - 1)) < (l1.length : Int) then (spec_l7At.l0 k l1 a2 a3 a4 y199 1 l0_0 ((rd_T61 l1 (wrap64 ((rd (rd_L1 l0_0 a3) a4) - 1))).f0) ((rd_T61 l1 (wrap64 ((rd (rd_L1 l0_0 a3) a4) - 1))).f1) ((rd_T61 l1 (wrap64 ((rd (rd_L1 l0_0 a3) a4) - 1))).f2) ((rd_T61 l1 (wrap64 ((rd (rd_L1 l0_0 a3) a4) - 1))).f3) ((rd_T61 l1 (wrap64 ((rd (rd_L1 l0_0 a3) a4) - 1))).f4)) else (none)) else (none)) else (none)) else (none)) else (none)) else (none)) = some r := by first | (rw [hy199]; with_reducible exact H) | (have H2_ := (Option.bind_some _ _).symm.trans H; rw [hy199]; with_reducible exact H2_) | (have H2_ := (Option.bind_some _ _).symm.trans H; with_reducible exact H2_) | with_reducible exact H | (rw [hy199]; exact H) | exact H
 have Ny199 := Aside0.mk hy199
 clear hy199
 by_cases c6 : 0 ≤ a3
 ·rw [if_pos c6] at H
  have c6b0 : decide (0 ≤ a3) = true := decide_eq_true c6
  clear c6
  by_cases c7 : a3 < (l0_0.length : Int)
  ·rw [if_pos c7] at H
   have c7b0 : decide (a3 < (l0_0.length : Int)) = true := decide_eq_true c7
   clear c7
   by_cases c8 : 0 ≤ a4
   ·rw [if_pos c8] at H
    have c8b0 : decide (0 ≤ a4) = true := decide_eq_true c8
    clear c8
    by_cases c9 : a4 < ((rd_L1 l0_0 a3).length : Int)
    ·rw [if_pos c9] at H
     have c9b0 : decide (a4 < ((rd_L1 l0_0 a3).length : Int)) = true := decide_eq_true c9
     clear c9
     obtain ⟨ji10, hji10⟩ : ∃ j_ : Int, (wrap64 ((rd (rd_L1 l0_0 a3) a4) - 1)) = j_ := ⟨_, rfl⟩
     replace H : (if 0 ≤ (ji10) then (if (ji10) < (l1.length : Int) then (spec_l7At.l0 k l1 a2 a3 a4 y199 1 l0_0 ((rd_T61 l1 (ji10)).f0) ((rd_T61 l1 (ji10)).f1) ((rd_T61 l1 (ji10)).f2) ((rd_T61 l1 (ji10)).f3) ((rd_T61 l1 (ji10)).f4)) else (none)) else (none)) = some r := by first | (rw [hji10] at H; exact H) | (simp only [hji10] at H ⊢; exact H)
     have hji10w : (IntKind.i64.wrap ((rd (rd_L1 l0_0 a3) a4) - 1)) = ji10 := (i64_w _).trans hji10
     by_cases c11 : 0 ≤ (ji10)
     ·rw [if_pos c11] at H
      have c11b0 : decide (0 ≤ (ji10)) = true := decide_eq_true c11
      clear c11
      by_cases c12 : (ji10) < (l1.length : Int)
      ·rw [if_pos c12] at H
       have c12b0 : decide ((ji10) < (l1.length : Int)) = true := decide_eq_true c12
       clear c12
       have H' := Aside0.mk H
       clear H
       go_enter Try.func46, Try.ntmps46
       go_wp2_with (first | ((with_reducible refine gate_dst (N := 5) rfl ?_); refine box_event ?hg (N := 5) ?hd (cs := #[.slice A0_0 l0_0.length c0_0]) (t := 31) ?hr ?_; (case hd => rfl); (case hg => rfl); (case hr => first | (go_simp; done) | (go_simp; rfl)); intro gb198 hg w13 hbox hb; have n0_ := Aside0.mk (below_step (bel HB) hb); have n1_ := Aside0.mk (hbox); have n2_ := Aside0.mk ((by rw [hg]; exact (below_size (bel HB)) : w.heap.size ≤ gb198)); have n3_ := Aside0.mk ((by rw [hg]; exact (below_size (bel HB)) : w.heap.size ≤ gb198)); clear HB; have HB := n0_; have BK198 := n1_; have GW198 := n2_; have GE198 := n3_; clear n0_ n1_ n2_ n3_; clear hb hbox hg) | ((with_reducible refine gate_dst (N := 15) rfl ?_); refine Kd.R_lit k59 _ 59 ?hg (N := 15) ?hd (xs := ([] : List (S59))) (inner := []) (ok := fun _ => True) (okp := fun _ => True) ?hr ?hp (fun _ hk => hk) trivial (Below.refl _ _) (Nat.le_refl _) (by simp) ?_; (case hd => rfl); (case hg => rfl); (case hr => first | (go_simp; done) | (go_simp; rfl)); (case hp => exact (Reps.none _ _)); intro v200 w14 ho15 hb hg_ hnew_; clear hg_ hnew_; (first | rw [← Ny199.out] at ho15 | (simp only [Int.reduceToNat] at ho15; rw [← Ny199.out] at ho15)); have n0_ := Aside0.mk (Kd.R_lower ho15 (below_size (bel1 HB GE198))); have n1_ := Aside0.mk (blk_below (g := gb198) (o := .cells #[.slice A0_0 l0_0.length c0_0] 31 (0, 0)) (bkl BK198) hb); have n2_ := Aside0.mk (below_step (bel1 HB GE198) hb); clear BK198; clear HB; have HO201 := n0_; have BK198 := n1_; have HB := n2_; clear n0_ n1_ n2_; clear hb ho15; have hcz16_0 : w14.cell? ⟨gb198, 0, none⟩ = some (.slice A0_0 l0_0.length c0_0) := (blk_cell BK198.out 0).trans rfl; have hfz16_0 := blk_frozen BK198.out 0; have p202 : 0 ≤ (a3 : Int) := oda; have q202 : a3 < (l0_0.length : Int) := oda; obtain ⟨ad202, A202_0, c202_0, e202, hx202_0, hl202_0, hi202_0⟩ := at_L1 HR0_0.out a3 p202 q202; cases e202; replace hx202_0 := cel HB hx202_0; have HR202_0 := Aside0.mk hi202_0; have HC202_0 := Aside0.mk hl202_0; clear hi202_0 hl202_0; replace p202 := eq_true p202; replace q202 := eq_true q202; have p203 : 0 ≤ (a4 : Int) := oda; have q203 : a4 < ((rd_L1 l0_0 a3).length : Int) := oda; obtain ⟨ad203, e203, hx203_0⟩ := Kd.at_int HR202_0.out a4 p203 q203; cases e203; replace hx203_0 := cel HB hx203_0; replace p203 := eq_true p203; replace q203 := eq_true q203; have p204 : 0 ≤ ((ji10) : Int) := oda; have q204 : (ji10) < (l1.length : Int) := oda; obtain ⟨ad204, e204, hx204_0, hx204_1, hx204_2, hx204_3, hx204_4⟩ := at_T61 HR1.out (ji10) p204 q204; cases e204; replace hx204_0 := cel HB hx204_0; replace hx204_1 := cel HB hx204_1; replace hx204_2 := cel HB hx204_2; replace hx204_3 := cel HB hx204_3; replace hx204_4 := cel HB hx204_4; replace p204 := eq_true p204; replace q204 := eq_true q204) | ((with_reducible refine gate_dst (N := 12) rfl ?_); refine box_event ?hg (N := 12) ?hd (cs := #[.string (⟨#[]⟩ : ByteArray), .int .i64 0, .int .i64 0, .int .i64 0, .int .i64 0]) (t := 61) ?hr ?_; (case hd => rfl); (case hg => rfl); (case hr => first | (go_simp; done) | (go_simp; rfl)); intro gb205 hg w17 hbox hb; have n0_ := Aside0.mk (Kd.R_below (rdl HO201) hb); have n1_ := Aside0.mk (blk_below (g := gb198) (o := .cells #[.slice (some ad202) l0_0.length c0_0] 31 (0, 0)) (bkl BK198) hb); have n2_ := Aside0.mk (below_step (bel1 HB GE198) hb); have n3_ := Aside0.mk (hbox); have n4_ := Aside0.mk ((by rw [hg]; exact (below_size (bel1 HB GE198)) : w.heap.size ≤ gb205)); have n5_ := Aside0.mk ((by rw [hg]; exact (below_size (bel1 HB GE198)) : w.heap.size ≤ gb205)); have n6_ := Aside0.mk ((by rw [hg]; exact Nat.ne_of_lt (blk_lt (g := gb198) (o := .cells #[.slice (some ad202) l0_0.length c0_0] 31 (0, 0)) (bkl BK198)) : gb198 ≠ gb205)); have n7_ := Aside0.mk ((by rw [hg]; exact Nat.ne_of_gt (blk_lt (g := gb198) (o := .cells #[.slice (some ad202) l0_0.length c0_0] 31 (0, 0)) (bkl BK198)) : gb205 ≠ gb198)); clear HO201; clear BK198; clear HB; have HO201 := n0_; have BK198 := n1_; have HB := n2_; have BK205 := n3_; have GW205 := n4_; have GE205 := n5_; have NB198_205 := n6_; have NB205_198 := n7_; clear n0_ n1_ n2_ n3_ n4_ n5_ n6_ n7_; clear hb hbox hg; have hnb18 := NB205_198.out; have hnc18 := NB198_205.out; have hcz19_0 : w17.cell? ⟨gb205, 0, none⟩ = some (.string (⟨#[]⟩ : ByteArray)) := (blk_cell BK205.out 0).trans rfl; have hcz19_1 : w17.cell? ⟨gb205, 1, none⟩ = some (.int .i64 0) := (blk_cell BK205.out 1).trans rfl; have hcz19_2 : w17.cell? ⟨gb205, 2, none⟩ = some (.int .i64 0) := (blk_cell BK205.out 2).trans rfl; have hcz19_3 : w17.cell? ⟨gb205, 3, none⟩ = some (.int .i64 0) := (blk_cell BK205.out 3).trans rfl; have hcz19_4 : w17.cell? ⟨gb205, 4, none⟩ = some (.int .i64 0) := (blk_cell BK205.out 4).trans rfl; have hfz19_0 := blk_frozen BK205.out 0; have hfz19_1 := blk_frozen BK205.out 1; have hfz19_2 := blk_frozen BK205.out 2; have hfz19_3 := blk_frozen BK205.out 3; have hfz19_4 := blk_frozen BK205.out 4))
       repeat (go_quiet (first | ((with_reducible refine gate_dst (N := 5) rfl ?_); refine box_event ?hg (N := 5) ?hd (cs := #[.slice A0_0 l0_0.length c0_0]) (t := 31) ?hr ?_; (case hd => rfl); (case hg => rfl); (case hr => first | (go_simp; done) | (go_simp; rfl)); intro gb198 hg w13 hbox hb; have n0_ := Aside0.mk (below_step (bel HB) hb); have n1_ := Aside0.mk (hbox); have n2_ := Aside0.mk ((by rw [hg]; exact (below_size (bel HB)) : w.heap.size ≤ gb198)); have n3_ := Aside0.mk ((by rw [hg]; exact (below_size (bel HB)) : w.heap.size ≤ gb198)); clear HB; have HB := n0_; have BK198 := n1_; have GW198 := n2_; have GE198 := n3_; clear n0_ n1_ n2_ n3_; clear hb hbox hg) | ((with_reducible refine gate_dst (N := 15) rfl ?_); refine Kd.R_lit k59 _ 59 ?hg (N := 15) ?hd (xs := ([] : List (S59))) (inner := []) (ok := fun _ => True) (okp := fun _ => True) ?hr ?hp (fun _ hk => hk) trivial (Below.refl _ _) (Nat.le_refl _) (by simp) ?_; (case hd => rfl); (case hg => rfl); (case hr => first | (go_simp; done) | (go_simp; rfl)); (case hp => exact (Reps.none _ _)); intro v200 w14 ho15 hb hg_ hnew_; clear hg_ hnew_; (first | rw [← Ny199.out] at ho15 | (simp only [Int.reduceToNat] at ho15; rw [← Ny199.out] at ho15)); have n0_ := Aside0.mk (Kd.R_lower ho15 (below_size (bel1 HB GE198))); have n1_ := Aside0.mk (blk_below (g := gb198) (o := .cells #[.slice A0_0 l0_0.length c0_0] 31 (0, 0)) (bkl BK198) hb); have n2_ := Aside0.mk (below_step (bel1 HB GE198) hb); clear BK198; clear HB; have HO201 := n0_; have BK198 := n1_; have HB := n2_; clear n0_ n1_ n2_; clear hb ho15; have hcz16_0 : w14.cell? ⟨gb198, 0, none⟩ = some (.slice A0_0 l0_0.length c0_0) := (blk_cell BK198.out 0).trans rfl; have hfz16_0 := blk_frozen BK198.out 0; have p202 : 0 ≤ (a3 : Int) := oda; have q202 : a3 < (l0_0.length : Int) := oda; obtain ⟨ad202, A202_0, c202_0, e202, hx202_0, hl202_0, hi202_0⟩ := at_L1 HR0_0.out a3 p202 q202; cases e202; replace hx202_0 := cel HB hx202_0; have HR202_0 := Aside0.mk hi202_0; have HC202_0 := Aside0.mk hl202_0; clear hi202_0 hl202_0; replace p202 := eq_true p202; replace q202 := eq_true q202; have p203 : 0 ≤ (a4 : Int) := oda; have q203 : a4 < ((rd_L1 l0_0 a3).length : Int) := oda; obtain ⟨ad203, e203, hx203_0⟩ := Kd.at_int HR202_0.out a4 p203 q203; cases e203; replace hx203_0 := cel HB hx203_0; replace p203 := eq_true p203; replace q203 := eq_true q203; have p204 : 0 ≤ ((ji10) : Int) := oda; have q204 : (ji10) < (l1.length : Int) := oda; obtain ⟨ad204, e204, hx204_0, hx204_1, hx204_2, hx204_3, hx204_4⟩ := at_T61 HR1.out (ji10) p204 q204; cases e204; replace hx204_0 := cel HB hx204_0; replace hx204_1 := cel HB hx204_1; replace hx204_2 := cel HB hx204_2; replace hx204_3 := cel HB hx204_3; replace hx204_4 := cel HB hx204_4; replace p204 := eq_true p204; replace q204 := eq_true q204) | ((with_reducible refine gate_dst (N := 12) rfl ?_); refine box_event ?hg (N := 12) ?hd (cs := #[.string (⟨#[]⟩ : ByteArray), .int .i64 0, .int .i64 0, .int .i64 0, .int .i64 0]) (t := 61) ?hr ?_; (case hd => rfl); (case hg => rfl); (case hr => first | (go_simp; done) | (go_simp; rfl)); intro gb205 hg w17 hbox hb; have n0_ := Aside0.mk (Kd.R_below (rdl HO201) hb); have n1_ := Aside0.mk (blk_below (g := gb198) (o := .cells #[.slice (some ad202) l0_0.length c0_0] 31 (0, 0)) (bkl BK198) hb); have n2_ := Aside0.mk (below_step (bel1 HB GE198) hb); have n3_ := Aside0.mk (hbox); have n4_ := Aside0.mk ((by rw [hg]; exact (below_size (bel1 HB GE198)) : w.heap.size ≤ gb205)); have n5_ := Aside0.mk ((by rw [hg]; exact (below_size (bel1 HB GE198)) : w.heap.size ≤ gb205)); have n6_ := Aside0.mk ((by rw [hg]; exact Nat.ne_of_lt (blk_lt (g := gb198) (o := .cells #[.slice (some ad202) l0_0.length c0_0] 31 (0, 0)) (bkl BK198)) : gb198 ≠ gb205)); have n7_ := Aside0.mk ((by rw [hg]; exact Nat.ne_of_gt (blk_lt (g := gb198) (o := .cells #[.slice (some ad202) l0_0.length c0_0] 31 (0, 0)) (bkl BK198)) : gb205 ≠ gb198)); clear HO201; clear BK198; clear HB; have HO201 := n0_; have BK198 := n1_; have HB := n2_; have BK205 := n3_; have GW205 := n4_; have GE205 := n5_; have NB198_205 := n6_; have NB205_198 := n7_; clear n0_ n1_ n2_ n3_ n4_ n5_ n6_ n7_; clear hb hbox hg; have hnb18 := NB205_198.out; have hnc18 := NB198_205.out; have hcz19_0 : w17.cell? ⟨gb205, 0, none⟩ = some (.string (⟨#[]⟩ : ByteArray)) := (blk_cell BK205.out 0).trans rfl; have hcz19_1 : w17.cell? ⟨gb205, 1, none⟩ = some (.int .i64 0) := (blk_cell BK205.out 1).trans rfl; have hcz19_2 : w17.cell? ⟨gb205, 2, none⟩ = some (.int .i64 0) := (blk_cell BK205.out 2).trans rfl; have hcz19_3 : w17.cell? ⟨gb205, 3, none⟩ = some (.int .i64 0) := (blk_cell BK205.out 3).trans rfl; have hcz19_4 : w17.cell? ⟨gb205, 4, none⟩ = some (.int .i64 0) := (blk_cell BK205.out 4).trans rfl; have hfz19_0 := blk_frozen BK205.out 0; have hfz19_1 := blk_frozen BK205.out 1; have hfz19_2 := blk_frozen BK205.out 2; have hfz19_3 := blk_frozen BK205.out 3; have hfz19_4 := blk_frozen BK205.out 4)); try go_wp2_with (first | ((with_reducible refine gate_dst (N := 5) rfl ?_); refine box_event ?hg (N := 5) ?hd (cs := #[.slice A0_0 l0_0.length c0_0]) (t := 31) ?hr ?_; (case hd => rfl); (case hg => rfl); (case hr => first | (go_simp; done) | (go_simp; rfl)); intro gb198 hg w13 hbox hb; have n0_ := Aside0.mk (below_step (bel HB) hb); have n1_ := Aside0.mk (hbox); have n2_ := Aside0.mk ((by rw [hg]; exact (below_size (bel HB)) : w.heap.size ≤ gb198)); have n3_ := Aside0.mk ((by rw [hg]; exact (below_size (bel HB)) : w.heap.size ≤ gb198)); clear HB; have HB := n0_; have BK198 := n1_; have GW198 := n2_; have GE198 := n3_; clear n0_ n1_ n2_ n3_; clear hb hbox hg) | ((with_reducible refine gate_dst (N := 15) rfl ?_); refine Kd.R_lit k59 _ 59 ?hg (N := 15) ?hd (xs := ([] : List (S59))) (inner := []) (ok := fun _ => True) (okp := fun _ => True) ?hr ?hp (fun _ hk => hk) trivial (Below.refl _ _) (Nat.le_refl _) (by simp) ?_; (case hd => rfl); (case hg => rfl); (case hr => first | (go_simp; done) | (go_simp; rfl)); (case hp => exact (Reps.none _ _)); intro v200 w14 ho15 hb hg_ hnew_; clear hg_ hnew_; (first | rw [← Ny199.out] at ho15 | (simp only [Int.reduceToNat] at ho15; rw [← Ny199.out] at ho15)); have n0_ := Aside0.mk (Kd.R_lower ho15 (below_size (bel1 HB GE198))); have n1_ := Aside0.mk (blk_below (g := gb198) (o := .cells #[.slice A0_0 l0_0.length c0_0] 31 (0, 0)) (bkl BK198) hb); have n2_ := Aside0.mk (below_step (bel1 HB GE198) hb); clear BK198; clear HB; have HO201 := n0_; have BK198 := n1_; have HB := n2_; clear n0_ n1_ n2_; clear hb ho15; have hcz16_0 : w14.cell? ⟨gb198, 0, none⟩ = some (.slice A0_0 l0_0.length c0_0) := (blk_cell BK198.out 0).trans rfl; have hfz16_0 := blk_frozen BK198.out 0; have p202 : 0 ≤ (a3 : Int) := oda; have q202 : a3 < (l0_0.length : Int) := oda; obtain ⟨ad202, A202_0, c202_0, e202, hx202_0, hl202_0, hi202_0⟩ := at_L1 HR0_0.out a3 p202 q202; cases e202; replace hx202_0 := cel HB hx202_0; have HR202_0 := Aside0.mk hi202_0; have HC202_0 := Aside0.mk hl202_0; clear hi202_0 hl202_0; replace p202 := eq_true p202; replace q202 := eq_true q202; have p203 : 0 ≤ (a4 : Int) := oda; have q203 : a4 < ((rd_L1 l0_0 a3).length : Int) := oda; obtain ⟨ad203, e203, hx203_0⟩ := Kd.at_int HR202_0.out a4 p203 q203; cases e203; replace hx203_0 := cel HB hx203_0; replace p203 := eq_true p203; replace q203 := eq_true q203; have p204 : 0 ≤ ((ji10) : Int) := oda; have q204 : (ji10) < (l1.length : Int) := oda; obtain ⟨ad204, e204, hx204_0, hx204_1, hx204_2, hx204_3, hx204_4⟩ := at_T61 HR1.out (ji10) p204 q204; cases e204; replace hx204_0 := cel HB hx204_0; replace hx204_1 := cel HB hx204_1; replace hx204_2 := cel HB hx204_2; replace hx204_3 := cel HB hx204_3; replace hx204_4 := cel HB hx204_4; replace p204 := eq_true p204; replace q204 := eq_true q204) | ((with_reducible refine gate_dst (N := 12) rfl ?_); refine box_event ?hg (N := 12) ?hd (cs := #[.string (⟨#[]⟩ : ByteArray), .int .i64 0, .int .i64 0, .int .i64 0, .int .i64 0]) (t := 61) ?hr ?_; (case hd => rfl); (case hg => rfl); (case hr => first | (go_simp; done) | (go_simp; rfl)); intro gb205 hg w17 hbox hb; have n0_ := Aside0.mk (Kd.R_below (rdl HO201) hb); have n1_ := Aside0.mk (blk_below (g := gb198) (o := .cells #[.slice (some ad202) l0_0.length c0_0] 31 (0, 0)) (bkl BK198) hb); have n2_ := Aside0.mk (below_step (bel1 HB GE198) hb); have n3_ := Aside0.mk (hbox); have n4_ := Aside0.mk ((by rw [hg]; exact (below_size (bel1 HB GE198)) : w.heap.size ≤ gb205)); have n5_ := Aside0.mk ((by rw [hg]; exact (below_size (bel1 HB GE198)) : w.heap.size ≤ gb205)); have n6_ := Aside0.mk ((by rw [hg]; exact Nat.ne_of_lt (blk_lt (g := gb198) (o := .cells #[.slice (some ad202) l0_0.length c0_0] 31 (0, 0)) (bkl BK198)) : gb198 ≠ gb205)); have n7_ := Aside0.mk ((by rw [hg]; exact Nat.ne_of_gt (blk_lt (g := gb198) (o := .cells #[.slice (some ad202) l0_0.length c0_0] 31 (0, 0)) (bkl BK198)) : gb205 ≠ gb198)); clear HO201; clear BK198; clear HB; have HO201 := n0_; have BK198 := n1_; have HB := n2_; have BK205 := n3_; have GW205 := n4_; have GE205 := n5_; have NB198_205 := n6_; have NB205_198 := n7_; clear n0_ n1_ n2_ n3_ n4_ n5_ n6_ n7_; clear hb hbox hg; have hnb18 := NB205_198.out; have hnc18 := NB198_205.out; have hcz19_0 : w17.cell? ⟨gb205, 0, none⟩ = some (.string (⟨#[]⟩ : ByteArray)) := (blk_cell BK205.out 0).trans rfl; have hcz19_1 : w17.cell? ⟨gb205, 1, none⟩ = some (.int .i64 0) := (blk_cell BK205.out 1).trans rfl; have hcz19_2 : w17.cell? ⟨gb205, 2, none⟩ = some (.int .i64 0) := (blk_cell BK205.out 2).trans rfl; have hcz19_3 : w17.cell? ⟨gb205, 3, none⟩ = some (.int .i64 0) := (blk_cell BK205.out 3).trans rfl; have hcz19_4 : w17.cell? ⟨gb205, 4, none⟩ = some (.int .i64 0) := (blk_cell BK205.out 4).trans rfl; have hfz19_0 := blk_frozen BK205.out 0; have hfz19_1 := blk_frozen BK205.out 1; have hfz19_2 := blk_frozen BK205.out 2; have hfz19_3 := blk_frozen BK205.out 3; have hfz19_4 := blk_frozen BK205.out 4)))
       go_loopg [11, 13] k (fun kq v11 v13 w' => ∃ (x11_1 : List (S59)) (x13_1 : Int), v13 = .int .i64 x13_1 ∧ Aside0 (spec_l7At.l0 kq l1 a2 a3 a4 x11_1 x13_1 l0_0 ((rd_T61 l1 (ji10)).f0) ((rd_T61 l1 (ji10)).f1) ((rd_T61 l1 (ji10)).f2) ((rd_T61 l1 (ji10)).f3) ((rd_T61 l1 (ji10)).f4) = some r) ∧ Aside0 (kq ≤ k) ∧ Aside0 (Kd.R k59 59 w' w.heap.size (fun _ => True) v11 x11_1) ∧ Aside0 (w'.heap[gb198]? = some (.cells #[(.slice (some ad202) l0_0.length c0_0)] 31 (0, 0))) ∧ Aside0 (w'.heap[gb205]? = some (.cells #[.string ((rd_T61 l1 (ji10)).f0), .int .i64 ((rd_T61 l1 (ji10)).f1), .int .i64 ((rd_T61 l1 (ji10)).f2), .int .i64 ((rd_T61 l1 (ji10)).f3), .int .i64 ((rd_T61 l1 (ji10)).f4)] 61 (0, 0))) ∧ Aside0 (Below w.heap.size w w'))
       case atStart => exact ⟨(y199), (1), (by first | rfl | (simp; done) | (simp [*]; done)), H', ⟨Nat.le_refl _⟩, ⟨by (with_reducible repeat (first | apply Kd.R_alloc | apply Kd.R_drewN | apply Kd.R_drew)); exact Kd.R_mono (Kd.R_far (p := ⟨gb205, 4, none⟩) (Kd.R_far (p := ⟨gb205, 3, none⟩) (Kd.R_far (p := ⟨gb205, 2, none⟩) (Kd.R_far (p := ⟨gb205, 1, none⟩) (Kd.R_far (p := ⟨gb205, 0, none⟩) (Kd.R_types HO201.out BK205.out (by decide)) (fun _ hk => hk.2) (.string ((rd_T61 l1 (ji10)).f0))) (fun _ hk => hk.2) (.int .i64 ((rd_T61 l1 (ji10)).f1))) (fun _ hk => hk.2) (.int .i64 ((rd_T61 l1 (ji10)).f2))) (fun _ hk => hk.2) (.int .i64 ((rd_T61 l1 (ji10)).f3))) (fun _ hk => hk.2) (.int .i64 ((rd_T61 l1 (ji10)).f4))) (fun _ hk => trivial)⟩, ⟨by (with_reducible repeat (first | refine blk_drewN ?_ _ | refine blk_drew ?_ | refine blk_alloc ?_ _)); refine blk_far ?_ NB198_205.out _; (with_reducible repeat (first | refine blk_drewN ?_ _ | refine blk_drew ?_ | refine blk_alloc ?_ _)); refine blk_far ?_ NB198_205.out _; (with_reducible repeat (first | refine blk_drewN ?_ _ | refine blk_drew ?_ | refine blk_alloc ?_ _)); refine blk_far ?_ NB198_205.out _; (with_reducible repeat (first | refine blk_drewN ?_ _ | refine blk_drew ?_ | refine blk_alloc ?_ _)); refine blk_far ?_ NB198_205.out _; (with_reducible repeat (first | refine blk_drewN ?_ _ | refine blk_drew ?_ | refine blk_alloc ?_ _)); refine blk_far ?_ NB198_205.out _; (with_reducible repeat (first | refine blk_drewN ?_ _ | refine blk_drew ?_ | refine blk_alloc ?_ _)); exact BK198.out⟩, ⟨by (with_reducible repeat (first | refine blk_drewN ?_ _ | refine blk_drew ?_ | refine blk_alloc ?_ _)); refine blk_put (cs := #[.string ((rd_T61 l1 (ji10)).f0), .int .i64 ((rd_T61 l1 (ji10)).f1), .int .i64 ((rd_T61 l1 (ji10)).f2), .int .i64 ((rd_T61 l1 (ji10)).f3), .int .i64 0]) ?_ 4 _ rfl; (with_reducible repeat (first | refine blk_drewN ?_ _ | refine blk_drew ?_ | refine blk_alloc ?_ _)); refine blk_put (cs := #[.string ((rd_T61 l1 (ji10)).f0), .int .i64 ((rd_T61 l1 (ji10)).f1), .int .i64 ((rd_T61 l1 (ji10)).f2), .int .i64 0, .int .i64 0]) ?_ 3 _ rfl; (with_reducible repeat (first | refine blk_drewN ?_ _ | refine blk_drew ?_ | refine blk_alloc ?_ _)); refine blk_put (cs := #[.string ((rd_T61 l1 (ji10)).f0), .int .i64 ((rd_T61 l1 (ji10)).f1), .int .i64 0, .int .i64 0, .int .i64 0]) ?_ 2 _ rfl; (with_reducible repeat (first | refine blk_drewN ?_ _ | refine blk_drew ?_ | refine blk_alloc ?_ _)); refine blk_put (cs := #[.string ((rd_T61 l1 (ji10)).f0), .int .i64 0, .int .i64 0, .int .i64 0, .int .i64 0]) ?_ 1 _ rfl; (with_reducible repeat (first | refine blk_drewN ?_ _ | refine blk_drew ?_ | refine blk_alloc ?_ _)); refine blk_put (cs := #[.string (⟨#[]⟩ : ByteArray), .int .i64 0, .int .i64 0, .int .i64 0, .int .i64 0]) ?_ 0 _ rfl; (with_reducible repeat (first | refine blk_drewN ?_ _ | refine blk_drew ?_ | refine blk_alloc ?_ _)); exact BK205.out⟩, ⟨bel2 HB GE198 GE205⟩⟩
       case round =>
        clear H'
        try clear c1
        try clear c2
        try clear p2
        try clear q2
        try clear hx2
        try clear c4
        try clear c6
        try clear c6b0
        try clear p6
        try clear c7
        try clear c7b0
        try clear c8
        try clear c8b0
        try clear c9
        try clear c9b0
        try clear c11
        try clear c11b0
        try clear c12
        try clear c12b0
        try clear c18
        try clear hcz16_0
        try clear hcz19_0
        try clear hcz19_1
        try clear hcz19_2
        try clear hcz19_3
        try clear hcz19_4
        try clear hfz16_0
        try clear hfz19_0
        try clear hfz19_1
        try clear hfz19_2
        try clear hfz19_3
        try clear hfz19_4
        try clear hx202_0
        try clear hx203_0
        try clear hx204_0
        try clear hx204_1
        try clear hx204_2
        try clear hx204_3
        try clear hx204_4
        try clear p202
        try clear p203
        try clear p204
        try clear q202
        try clear q203
        try clear q204
        obtain ⟨x11_1, x13_1, rfl, HA, HK1, HO_11, BK198, BK205, HB⟩ := hrel
        cases gk with
        | zero => exact absurd HA.out (by simp [spec_l7At.l0])
        | succ k1 =>
         have H := HA.out
         clear HA
         simp only [spec_l7At.l0] at H
         by_cases c20 : x13_1 ≤ 4
         ·rw [if_pos c20] at H
          have c20b0 : decide (x13_1 ≤ 4) = true := decide_eq_true c20
          clear c20
          by_cases c21 : x13_1 = 1
          ·rw [if_pos c21] at H
           have c21b0 : (x13_1 == 1) = true := beq_iff_eq.mpr c21
           have c21b1 : (x13_1 != 1) = false := bne_eq_false_iff_eq.mpr c21
           clear c21
           by_cases c22 : a4 > 0
           ·rw [if_pos c22] at H
            have c22b0 : decide (0 < a4) = true := decide_eq_true c22
            clear c22
            by_cases c23 : 0 ≤ a3
            ·rw [if_pos c23] at H
             have c23b0 : decide (0 ≤ a3) = true := decide_eq_true c23
             clear c23
             by_cases c24 : a3 < (l0_0.length : Int)
             ·rw [if_pos c24] at H
              have c24b0 : decide (a3 < (l0_0.length : Int)) = true := decide_eq_true c24
              clear c24
              obtain ⟨ji25, hji25⟩ : ∃ j_ : Int, (wrap64 (a4 - 1)) = j_ := ⟨_, rfl⟩
              replace H : (if 0 ≤ (ji25) then (if (ji25) < ((rd_L1 l0_0 a3).length : Int) then (if 0 ≤ (wrap64 ((rd (rd_L1 l0_0 a3) (ji25)) - 1)) then (if (wrap64 ((rd (rd_L1 l0_0 a3) (ji25)) - 1)) < (l1.length : Int) then (if ((rd_T61 l1 (ji10)).f2) > ((rd_T61 l1 (wrap64 ((rd (rd_L1 l0_0 a3) (ji25)) - 1))).f2) then (if x11_1.length < 5864062014805 then (spec_l7At.l0 k1 l1 a2 a3 a4 (x11_1 ++ [(⟨x13_1, a3, a4⟩ : S59)]) (wrap64 (x13_1 + 1)) l0_0 ((rd_T61 l1 (ji10)).f0) ((rd_T61 l1 (ji10)).f1) ((rd_T61 l1 (ji10)).f2) ((rd_T61 l1 (ji10)).f3) ((rd_T61 l1 (ji10)).f4)) else (none)) else (spec_l7At.l0 k1 l1 a2 a3 a4 x11_1 (wrap64 (x13_1 + 1)) l0_0 ((rd_T61 l1 (ji10)).f0) ((rd_T61 l1 (ji10)).f1) ((rd_T61 l1 (ji10)).f2) ((rd_T61 l1 (ji10)).f3) ((rd_T61 l1 (ji10)).f4))) else (none)) else (none)) else (none)) else (none)) = some r := by first | (rw [hji25] at H; exact H) | (simp only [hji25] at H ⊢; exact H)
              have hji25w : (IntKind.i64.wrap (a4 - 1)) = ji25 := (i64_w _).trans hji25
              by_cases c26 : 0 ≤ (ji25)
              ·rw [if_pos c26] at H
               have c26b0 : decide (0 ≤ (ji25)) = true := decide_eq_true c26
               clear c26
               by_cases c27 : (ji25) < ((rd_L1 l0_0 a3).length : Int)
               ·rw [if_pos c27] at H
                have c27b0 : decide ((ji25) < ((rd_L1 l0_0 a3).length : Int)) = true := decide_eq_true c27
                clear c27
                obtain ⟨ji28, hji28⟩ : ∃ j_ : Int, (wrap64 ((rd (rd_L1 l0_0 a3) (ji25)) - 1)) = j_ := ⟨_, rfl⟩
                replace H : (if 0 ≤ (ji28) then (if (ji28) < (l1.length : Int) then (if ((rd_T61 l1 (ji10)).f2) > ((rd_T61 l1 (ji28)).f2) then (if x11_1.length < 5864062014805 then (spec_l7At.l0 k1 l1 a2 a3 a4 (x11_1 ++ [(⟨x13_1, a3, a4⟩ : S59)]) (wrap64 (x13_1 + 1)) l0_0 ((rd_T61 l1 (ji10)).f0) ((rd_T61 l1 (ji10)).f1) ((rd_T61 l1 (ji10)).f2) ((rd_T61 l1 (ji10)).f3) ((rd_T61 l1 (ji10)).f4)) else (none)) else (spec_l7At.l0 k1 l1 a2 a3 a4 x11_1 (wrap64 (x13_1 + 1)) l0_0 ((rd_T61 l1 (ji10)).f0) ((rd_T61 l1 (ji10)).f1) ((rd_T61 l1 (ji10)).f2) ((rd_T61 l1 (ji10)).f3) ((rd_T61 l1 (ji10)).f4))) else (none)) else (none)) = some r := by first | (rw [hji28] at H; exact H) | (simp only [hji28] at H ⊢; exact H)
                have hji28w : (IntKind.i64.wrap ((rd (rd_L1 l0_0 a3) (ji25)) - 1)) = ji28 := (i64_w _).trans hji28
                by_cases c29 : 0 ≤ (ji28)
                ·rw [if_pos c29] at H
                 have c29b0 : decide (0 ≤ (ji28)) = true := decide_eq_true c29
                 clear c29
                 by_cases c30 : (ji28) < (l1.length : Int)
                 ·rw [if_pos c30] at H
                  have c30b0 : decide ((ji28) < (l1.length : Int)) = true := decide_eq_true c30
                  clear c30
                  by_cases c31 : ((rd_T61 l1 (ji10)).f2) > ((rd_T61 l1 (ji28)).f2)
                  ·rw [if_pos c31] at H
                   have c31b0 : decide (((rd_T61 l1 (ji28)).f2) < ((rd_T61 l1 (ji10)).f2)) = true := decide_eq_true c31
                   clear c31
                   by_cases c32 : x11_1.length < 5864062014805
                   ·rw [if_pos c32] at H
                    have LMc32 := Aside0.mk c32
                    clear c32
                    obtain ⟨y209, hy209⟩ : ∃ y_ : List (S59), y_ = (x11_1 ++ [(⟨x13_1, a3, a4⟩ : S59)]) := ⟨_, rfl⟩
                    replace H : (spec_l7At.l0 k1 l1 a2 a3 a4 y209 (wrap64 (x13_1 + 1)) l0_0 ((rd_T61 l1 (ji10)).f0) ((rd_T61 l1 (ji10)).f1) ((rd_T61 l1 (ji10)).f2) ((rd_T61 l1 (ji10)).f3) ((rd_T61 l1 (ji10)).f4)) = some r := by first | (rw [hy209]; with_reducible exact H) | (have H2_ := (Option.bind_some _ _).symm.trans H; rw [hy209]; with_reducible exact H2_) | (have H2_ := (Option.bind_some _ _).symm.trans H; with_reducible exact H2_) | with_reducible exact H | (rw [hy209]; exact H) | exact H
                    have Ny209 := Aside0.mk hy209
                    clear hy209
                    have H' := Aside0.mk H
                    clear H
                    have hnb33 := NB205_198.out
                    have hnc33 := NB198_205.out
                    have hcz34_0 : wr.cell? ⟨gb205, 0, none⟩ = some (.string ((rd_T61 l1 (ji10)).f0)) := (blk_cell BK205.out 0).trans rfl
                    have hcz34_1 : wr.cell? ⟨gb205, 1, none⟩ = some (.int .i64 ((rd_T61 l1 (ji10)).f1)) := (blk_cell BK205.out 1).trans rfl
                    have hcz34_2 : wr.cell? ⟨gb205, 2, none⟩ = some (.int .i64 ((rd_T61 l1 (ji10)).f2)) := (blk_cell BK205.out 2).trans rfl
                    have hcz34_3 : wr.cell? ⟨gb205, 3, none⟩ = some (.int .i64 ((rd_T61 l1 (ji10)).f3)) := (blk_cell BK205.out 3).trans rfl
                    have hcz34_4 : wr.cell? ⟨gb205, 4, none⟩ = some (.int .i64 ((rd_T61 l1 (ji10)).f4)) := (blk_cell BK205.out 4).trans rfl
                    have hfz34_0 := blk_frozen BK205.out 0
                    have hfz34_1 := blk_frozen BK205.out 1
                    have hfz34_2 := blk_frozen BK205.out 2
                    have hfz34_3 := blk_frozen BK205.out 3
                    have hfz34_4 := blk_frozen BK205.out 4
                    have hcz35_0 : wr.cell? ⟨gb198, 0, none⟩ = some (.slice (some ad202) l0_0.length c0_0) := (blk_cell BK198.out 0).trans rfl
                    have hfz35_0 := blk_frozen BK198.out 0
                    have p206 : 0 ≤ (a3 : Int) := oda
                    have q206 : a3 < (l0_0.length : Int) := oda
                    obtain ⟨ad206, A206_0, c206_0, e206, hx206_0, hl206_0, hi206_0⟩ := at_L1 HR0_0.out a3 p206 q206
                    obtain rfl : ad202 = ad206 := (by injection e206)
                    replace hx206_0 := cel HB hx206_0
                    have HR206_0 := Aside0.mk hi206_0
                    have HC206_0 := Aside0.mk hl206_0
                    clear hi206_0 hl206_0
                    replace p206 := eq_true p206
                    replace q206 := eq_true q206
                    have p207 : 0 ≤ ((ji25) : Int) := oda
                    have q207 : (ji25) < ((rd_L1 l0_0 a3).length : Int) := oda
                    obtain ⟨ad207, e207, hx207_0⟩ := Kd.at_int HR206_0.out (ji25) p207 q207
                    cases e207
                    replace hx207_0 := cel HB hx207_0
                    replace p207 := eq_true p207
                    replace q207 := eq_true q207
                    have p208 : 0 ≤ ((ji28) : Int) := oda
                    have q208 : (ji28) < (l1.length : Int) := oda
                    obtain ⟨ad208, e208, hx208_0, hx208_1, hx208_2, hx208_3, hx208_4⟩ := at_T61 HR1.out (ji28) p208 q208
                    obtain rfl : ad204 = ad208 := (by injection e208)
                    replace hx208_0 := cel HB hx208_0
                    replace hx208_1 := cel HB hx208_1
                    replace hx208_2 := cel HB hx208_2
                    replace hx208_3 := cel HB hx208_3
                    replace hx208_4 := cel HB hx208_4
                    replace p208 := eq_true p208
                    replace q208 := eq_true q208
                    go_wp2_with (first | ((with_reducible refine gate_builtin (b := .append) (xs := #[.tmp 97, .tmp 102]) rfl ?_); at_builtin; refine Kd.R_append k59 (w0 := w) w.heap.size rfl (.tmp 97) (.tmp 102) 42 59 (.agg #[(.int .i64 0), (.int .i64 0), (.int .i64 0)]) 24 rfl Try.underlying42 info59 rfl (by decide) (by omega) u11 x11_1 (⟨x13_1, a3, a4⟩ : S59) [.int .i64 x13_1, .int .i64 a3, .int .i64 a4] (fun _ => True) (fun _ => False) rfl rfl ?aP (fun _ hk => hk.elim) ?aF ?aO ?aB ?aS ?aL ?_; (case aP => exact k59_mkM _ _ _ (⟨x13_1, a3, a4⟩ : S59)); (case aB => exact (bel2 HB GE198 GE205)); (case aF => exact (fun _ _ => trivial)); (case aO => exact (rdl HO_11)); (case aS => exact (below_size (bel2 HB GE198 GE205))); (case aL => have := LMc32.out; omega); intro v210 w36 ho hb hg hat; rw [← Ny209.out] at ho; have n0_ := Aside0.mk (blk_grown (g := gb198) (o := .cells #[.slice (some ad202) l0_0.length c0_0] 31 (0, 0)) (bkl BK198) hg (Kd.R_ne HO_11.out BK198.out (by decide))); have n1_ := Aside0.mk (blk_grown (g := gb205) (o := .cells #[.string ((rd_T61 l1 (ji10)).f0), .int .i64 ((rd_T61 l1 (ji10)).f1), .int .i64 ((rd_T61 l1 (ji10)).f2), .int .i64 ((rd_T61 l1 (ji10)).f3), .int .i64 ((rd_T61 l1 (ji10)).f4)] 61 (0, 0)) (bkl BK205) hg (Kd.R_ne HO_11.out BK205.out (by decide))); have n2_ := Aside0.mk (hb); have n3_ := Aside0.mk (ho); clear BK198; clear BK205; clear HB; clear HO_11; have BK198 := n0_; have BK205 := n1_; have HB := n2_; have HO211 := n3_; clear n0_ n1_ n2_ n3_; clear ho hb hg hat))
                    repeat (go_quiet (first | ((with_reducible refine gate_builtin (b := .append) (xs := #[.tmp 97, .tmp 102]) rfl ?_); at_builtin; refine Kd.R_append k59 (w0 := w) w.heap.size rfl (.tmp 97) (.tmp 102) 42 59 (.agg #[(.int .i64 0), (.int .i64 0), (.int .i64 0)]) 24 rfl Try.underlying42 info59 rfl (by decide) (by omega) u11 x11_1 (⟨x13_1, a3, a4⟩ : S59) [.int .i64 x13_1, .int .i64 a3, .int .i64 a4] (fun _ => True) (fun _ => False) rfl rfl ?aP (fun _ hk => hk.elim) ?aF ?aO ?aB ?aS ?aL ?_; (case aP => exact k59_mkM _ _ _ (⟨x13_1, a3, a4⟩ : S59)); (case aB => exact (bel2 HB GE198 GE205)); (case aF => exact (fun _ _ => trivial)); (case aO => exact (rdl HO_11)); (case aS => exact (below_size (bel2 HB GE198 GE205))); (case aL => have := LMc32.out; omega); intro v210 w36 ho hb hg hat; rw [← Ny209.out] at ho; have n0_ := Aside0.mk (blk_grown (g := gb198) (o := .cells #[.slice (some ad202) l0_0.length c0_0] 31 (0, 0)) (bkl BK198) hg (Kd.R_ne HO_11.out BK198.out (by decide))); have n1_ := Aside0.mk (blk_grown (g := gb205) (o := .cells #[.string ((rd_T61 l1 (ji10)).f0), .int .i64 ((rd_T61 l1 (ji10)).f1), .int .i64 ((rd_T61 l1 (ji10)).f2), .int .i64 ((rd_T61 l1 (ji10)).f3), .int .i64 ((rd_T61 l1 (ji10)).f4)] 61 (0, 0)) (bkl BK205) hg (Kd.R_ne HO_11.out BK205.out (by decide))); have n2_ := Aside0.mk (hb); have n3_ := Aside0.mk (ho); clear BK198; clear BK205; clear HB; clear HO_11; have BK198 := n0_; have BK205 := n1_; have HB := n2_; have HO211 := n3_; clear n0_ n1_ n2_ n3_; clear ho hb hg hat)); try go_wp2_with (first | ((with_reducible refine gate_builtin (b := .append) (xs := #[.tmp 97, .tmp 102]) rfl ?_); at_builtin; refine Kd.R_append k59 (w0 := w) w.heap.size rfl (.tmp 97) (.tmp 102) 42 59 (.agg #[(.int .i64 0), (.int .i64 0), (.int .i64 0)]) 24 rfl Try.underlying42 info59 rfl (by decide) (by omega) u11 x11_1 (⟨x13_1, a3, a4⟩ : S59) [.int .i64 x13_1, .int .i64 a3, .int .i64 a4] (fun _ => True) (fun _ => False) rfl rfl ?aP (fun _ hk => hk.elim) ?aF ?aO ?aB ?aS ?aL ?_; (case aP => exact k59_mkM _ _ _ (⟨x13_1, a3, a4⟩ : S59)); (case aB => exact (bel2 HB GE198 GE205)); (case aF => exact (fun _ _ => trivial)); (case aO => exact (rdl HO_11)); (case aS => exact (below_size (bel2 HB GE198 GE205))); (case aL => have := LMc32.out; omega); intro v210 w36 ho hb hg hat; rw [← Ny209.out] at ho; have n0_ := Aside0.mk (blk_grown (g := gb198) (o := .cells #[.slice (some ad202) l0_0.length c0_0] 31 (0, 0)) (bkl BK198) hg (Kd.R_ne HO_11.out BK198.out (by decide))); have n1_ := Aside0.mk (blk_grown (g := gb205) (o := .cells #[.string ((rd_T61 l1 (ji10)).f0), .int .i64 ((rd_T61 l1 (ji10)).f1), .int .i64 ((rd_T61 l1 (ji10)).f2), .int .i64 ((rd_T61 l1 (ji10)).f3), .int .i64 ((rd_T61 l1 (ji10)).f4)] 61 (0, 0)) (bkl BK205) hg (Kd.R_ne HO_11.out BK205.out (by decide))); have n2_ := Aside0.mk (hb); have n3_ := Aside0.mk (ho); clear BK198; clear BK205; clear HB; clear HO_11; have BK198 := n0_; have BK205 := n1_; have HB := n2_; have HO211 := n3_; clear n0_ n1_ n2_ n3_; clear ho hb hg hat)))
                    go_roundg k1
                    case measure => have := HK1.out; omega
                    case rel => exact ⟨(y209), (wrap64 (x13_1 + 1)), (by first | rfl | (simp; done) | (simp [*]; done)), H', ⟨by have := HK1.out; omega⟩, ⟨rdl HO211⟩, ⟨bkl BK198⟩, ⟨bkl BK205⟩, ⟨bel2 HB GE198 GE205⟩⟩
                   ·rw [if_neg c32] at H
                    exact absurd H (by simp)
                  ·rw [if_neg c31] at H
                   have c31b0 : decide (((rd_T61 l1 (ji28)).f2) < ((rd_T61 l1 (ji10)).f2)) = false := decide_eq_false c31
                   clear c31
                   have H' := Aside0.mk H
                   clear H
                   have hnb37 := NB205_198.out
                   have hnc37 := NB198_205.out
                   have hcz38_0 : wr.cell? ⟨gb205, 0, none⟩ = some (.string ((rd_T61 l1 (ji10)).f0)) := (blk_cell BK205.out 0).trans rfl
                   have hcz38_1 : wr.cell? ⟨gb205, 1, none⟩ = some (.int .i64 ((rd_T61 l1 (ji10)).f1)) := (blk_cell BK205.out 1).trans rfl
                   have hcz38_2 : wr.cell? ⟨gb205, 2, none⟩ = some (.int .i64 ((rd_T61 l1 (ji10)).f2)) := (blk_cell BK205.out 2).trans rfl
                   have hcz38_3 : wr.cell? ⟨gb205, 3, none⟩ = some (.int .i64 ((rd_T61 l1 (ji10)).f3)) := (blk_cell BK205.out 3).trans rfl
                   have hcz38_4 : wr.cell? ⟨gb205, 4, none⟩ = some (.int .i64 ((rd_T61 l1 (ji10)).f4)) := (blk_cell BK205.out 4).trans rfl
                   have hfz38_0 := blk_frozen BK205.out 0
                   have hfz38_1 := blk_frozen BK205.out 1
                   have hfz38_2 := blk_frozen BK205.out 2
                   have hfz38_3 := blk_frozen BK205.out 3
                   have hfz38_4 := blk_frozen BK205.out 4
                   have hcz39_0 : wr.cell? ⟨gb198, 0, none⟩ = some (.slice (some ad202) l0_0.length c0_0) := (blk_cell BK198.out 0).trans rfl
                   have hfz39_0 := blk_frozen BK198.out 0
                   have p206 : 0 ≤ (a3 : Int) := oda
                   have q206 : a3 < (l0_0.length : Int) := oda
                   obtain ⟨ad206, A206_0, c206_0, e206, hx206_0, hl206_0, hi206_0⟩ := at_L1 HR0_0.out a3 p206 q206
                   obtain rfl : ad202 = ad206 := (by injection e206)
                   replace hx206_0 := cel HB hx206_0
                   have HR206_0 := Aside0.mk hi206_0
                   have HC206_0 := Aside0.mk hl206_0
                   clear hi206_0 hl206_0
                   replace p206 := eq_true p206
                   replace q206 := eq_true q206
                   have p207 : 0 ≤ ((ji25) : Int) := oda
                   have q207 : (ji25) < ((rd_L1 l0_0 a3).length : Int) := oda
                   obtain ⟨ad207, e207, hx207_0⟩ := Kd.at_int HR206_0.out (ji25) p207 q207
                   cases e207
                   replace hx207_0 := cel HB hx207_0
                   replace p207 := eq_true p207
                   replace q207 := eq_true q207
                   have p208 : 0 ≤ ((ji28) : Int) := oda
                   have q208 : (ji28) < (l1.length : Int) := oda
                   obtain ⟨ad208, e208, hx208_0, hx208_1, hx208_2, hx208_3, hx208_4⟩ := at_T61 HR1.out (ji28) p208 q208
                   obtain rfl : ad204 = ad208 := (by injection e208)
                   replace hx208_0 := cel HB hx208_0
                   replace hx208_1 := cel HB hx208_1
                   replace hx208_2 := cel HB hx208_2
                   replace hx208_3 := cel HB hx208_3
                   replace hx208_4 := cel HB hx208_4
                   replace p208 := eq_true p208
                   replace q208 := eq_true q208
                   go_wp2
                   repeat (go_quiet (fail); try go_wp2)
                   go_roundg k1
                   case measure => have := HK1.out; omega
                   case rel => exact ⟨(x11_1), (wrap64 (x13_1 + 1)), (by first | rfl | (simp; done) | (simp [*]; done)), H', ⟨by have := HK1.out; omega⟩, ⟨rdl HO_11⟩, ⟨bkl BK198⟩, ⟨bkl BK205⟩, ⟨bel2 HB GE198 GE205⟩⟩
                 ·rw [if_neg c30] at H
                  exact absurd H (by simp)
                ·rw [if_neg c29] at H
                 exact absurd H (by simp)
               ·rw [if_neg c27] at H
                exact absurd H (by simp)
              ·rw [if_neg c26] at H
               exact absurd H (by simp)
             ·rw [if_neg c24] at H
              exact absurd H (by simp)
            ·rw [if_neg c23] at H
             exact absurd H (by simp)
           ·rw [if_neg c22] at H
            have c22b0 : decide (0 < a4) = false := decide_eq_false c22
            clear c22
            have H' := Aside0.mk H
            clear H
            go_wp2
            repeat (go_quiet (fail); try go_wp2)
            go_roundg k1
            case measure => have := HK1.out; omega
            case rel => exact ⟨(x11_1), (wrap64 (x13_1 + 1)), (by first | rfl | (simp; done) | (simp [*]; done)), H', ⟨by have := HK1.out; omega⟩, ⟨rdl HO_11⟩, ⟨bkl BK198⟩, ⟨bkl BK205⟩, ⟨bel2 HB GE198 GE205⟩⟩
          ·rw [if_neg c21] at H
           have c21b0 : (x13_1 == 1) = false := beq_eq_false_iff_ne.mpr c21
           have c21b1 : (x13_1 != 1) = true := bne_iff_ne.mpr c21
           by_cases c40 : x13_1 = 2
           ·rw [if_pos c40] at H
            have c40b0 : (x13_1 == 2) = true := beq_iff_eq.mpr c40
            have c40b1 : (x13_1 != 2) = false := bne_eq_false_iff_eq.mpr c40
            clear c40
            by_cases c41 : a4 > 0
            ·rw [if_pos c41] at H
             have c41b0 : decide (0 < a4) = true := decide_eq_true c41
             clear c41
             by_cases c42 : 0 ≤ a3
             ·rw [if_pos c42] at H
              have c42b0 : decide (0 ≤ a3) = true := decide_eq_true c42
              clear c42
              by_cases c43 : a3 < (l0_0.length : Int)
              ·rw [if_pos c43] at H
               have c43b0 : decide (a3 < (l0_0.length : Int)) = true := decide_eq_true c43
               clear c43
               obtain ⟨ji44, hji44⟩ : ∃ j_ : Int, (wrap64 (a4 - 1)) = j_ := ⟨_, rfl⟩
               replace H : (if 0 ≤ (ji44) then (if (ji44) < ((rd_L1 l0_0 a3).length : Int) then (if 0 ≤ (wrap64 ((rd (rd_L1 l0_0 a3) (ji44)) - 1)) then (if (wrap64 ((rd (rd_L1 l0_0 a3) (ji44)) - 1)) < (l1.length : Int) then (if ((rd_T61 l1 (ji10)).f1) = ((rd_T61 l1 (wrap64 ((rd (rd_L1 l0_0 a3) (ji44)) - 1))).f1) then (spec_l7At.l0 k1 l1 a2 a3 a4 x11_1 (wrap64 (x13_1 + 1)) l0_0 ((rd_T61 l1 (ji10)).f0) ((rd_T61 l1 (ji10)).f1) ((rd_T61 l1 (ji10)).f2) ((rd_T61 l1 (ji10)).f3) ((rd_T61 l1 (ji10)).f4)) else (if x11_1.length < 5864062014805 then (spec_l7At.l0 k1 l1 a2 a3 a4 (x11_1 ++ [(⟨x13_1, a3, a4⟩ : S59)]) (wrap64 (x13_1 + 1)) l0_0 ((rd_T61 l1 (ji10)).f0) ((rd_T61 l1 (ji10)).f1) ((rd_T61 l1 (ji10)).f2) ((rd_T61 l1 (ji10)).f3) ((rd_T61 l1 (ji10)).f4)) else (none))) else (none)) else (none)) else (none)) else (none)) = some r := by first | (rw [hji44] at H; exact H) | (simp only [hji44] at H ⊢; exact H)
               have hji44w : (IntKind.i64.wrap (a4 - 1)) = ji44 := (i64_w _).trans hji44
               by_cases c45 : 0 ≤ (ji44)
               ·rw [if_pos c45] at H
                have c45b0 : decide (0 ≤ (ji44)) = true := decide_eq_true c45
                clear c45
                by_cases c46 : (ji44) < ((rd_L1 l0_0 a3).length : Int)
                ·rw [if_pos c46] at H
                 have c46b0 : decide ((ji44) < ((rd_L1 l0_0 a3).length : Int)) = true := decide_eq_true c46
                 clear c46
                 obtain ⟨ji47, hji47⟩ : ∃ j_ : Int, (wrap64 ((rd (rd_L1 l0_0 a3) (ji44)) - 1)) = j_ := ⟨_, rfl⟩
                 replace H : (if 0 ≤ (ji47) then (if (ji47) < (l1.length : Int) then (if ((rd_T61 l1 (ji10)).f1) = ((rd_T61 l1 (ji47)).f1) then (spec_l7At.l0 k1 l1 a2 a3 a4 x11_1 (wrap64 (x13_1 + 1)) l0_0 ((rd_T61 l1 (ji10)).f0) ((rd_T61 l1 (ji10)).f1) ((rd_T61 l1 (ji10)).f2) ((rd_T61 l1 (ji10)).f3) ((rd_T61 l1 (ji10)).f4)) else (if x11_1.length < 5864062014805 then (spec_l7At.l0 k1 l1 a2 a3 a4 (x11_1 ++ [(⟨x13_1, a3, a4⟩ : S59)]) (wrap64 (x13_1 + 1)) l0_0 ((rd_T61 l1 (ji10)).f0) ((rd_T61 l1 (ji10)).f1) ((rd_T61 l1 (ji10)).f2) ((rd_T61 l1 (ji10)).f3) ((rd_T61 l1 (ji10)).f4)) else (none))) else (none)) else (none)) = some r := by first | (rw [hji47] at H; exact H) | (simp only [hji47] at H ⊢; exact H)
                 have hji47w : (IntKind.i64.wrap ((rd (rd_L1 l0_0 a3) (ji44)) - 1)) = ji47 := (i64_w _).trans hji47
                 by_cases c48 : 0 ≤ (ji47)
                 ·rw [if_pos c48] at H
                  have c48b0 : decide (0 ≤ (ji47)) = true := decide_eq_true c48
                  clear c48
                  by_cases c49 : (ji47) < (l1.length : Int)
                  ·rw [if_pos c49] at H
                   have c49b0 : decide ((ji47) < (l1.length : Int)) = true := decide_eq_true c49
                   clear c49
                   by_cases c50 : ((rd_T61 l1 (ji10)).f1) = ((rd_T61 l1 (ji47)).f1)
                   ·rw [if_pos c50] at H
                    have c50b0 : (((rd_T61 l1 (ji10)).f1) == ((rd_T61 l1 (ji47)).f1)) = true := beq_iff_eq.mpr c50
                    have c50b1 : (((rd_T61 l1 (ji10)).f1) != ((rd_T61 l1 (ji47)).f1)) = false := bne_eq_false_iff_eq.mpr c50
                    clear c50
                    have H' := Aside0.mk H
                    clear H
                    have hnb51 := NB205_198.out
                    have hnc51 := NB198_205.out
                    have hcz52_0 : wr.cell? ⟨gb205, 0, none⟩ = some (.string ((rd_T61 l1 (ji10)).f0)) := (blk_cell BK205.out 0).trans rfl
                    have hcz52_1 : wr.cell? ⟨gb205, 1, none⟩ = some (.int .i64 ((rd_T61 l1 (ji10)).f1)) := (blk_cell BK205.out 1).trans rfl
                    have hcz52_2 : wr.cell? ⟨gb205, 2, none⟩ = some (.int .i64 ((rd_T61 l1 (ji10)).f2)) := (blk_cell BK205.out 2).trans rfl
                    have hcz52_3 : wr.cell? ⟨gb205, 3, none⟩ = some (.int .i64 ((rd_T61 l1 (ji10)).f3)) := (blk_cell BK205.out 3).trans rfl
                    have hcz52_4 : wr.cell? ⟨gb205, 4, none⟩ = some (.int .i64 ((rd_T61 l1 (ji10)).f4)) := (blk_cell BK205.out 4).trans rfl
                    have hfz52_0 := blk_frozen BK205.out 0
                    have hfz52_1 := blk_frozen BK205.out 1
                    have hfz52_2 := blk_frozen BK205.out 2
                    have hfz52_3 := blk_frozen BK205.out 3
                    have hfz52_4 := blk_frozen BK205.out 4
                    have hcz53_0 : wr.cell? ⟨gb198, 0, none⟩ = some (.slice (some ad202) l0_0.length c0_0) := (blk_cell BK198.out 0).trans rfl
                    have hfz53_0 := blk_frozen BK198.out 0
                    have p212 : 0 ≤ (a3 : Int) := oda
                    have q212 : a3 < (l0_0.length : Int) := oda
                    obtain ⟨ad212, A212_0, c212_0, e212, hx212_0, hl212_0, hi212_0⟩ := at_L1 HR0_0.out a3 p212 q212
                    obtain rfl : ad202 = ad212 := (by injection e212)
                    replace hx212_0 := cel HB hx212_0
                    have HR212_0 := Aside0.mk hi212_0
                    have HC212_0 := Aside0.mk hl212_0
                    clear hi212_0 hl212_0
                    replace p212 := eq_true p212
                    replace q212 := eq_true q212
                    have p213 : 0 ≤ ((ji44) : Int) := oda
                    have q213 : (ji44) < ((rd_L1 l0_0 a3).length : Int) := oda
                    obtain ⟨ad213, e213, hx213_0⟩ := Kd.at_int HR212_0.out (ji44) p213 q213
                    cases e213
                    replace hx213_0 := cel HB hx213_0
                    replace p213 := eq_true p213
                    replace q213 := eq_true q213
                    have p214 : 0 ≤ ((ji47) : Int) := oda
                    have q214 : (ji47) < (l1.length : Int) := oda
                    obtain ⟨ad214, e214, hx214_0, hx214_1, hx214_2, hx214_3, hx214_4⟩ := at_T61 HR1.out (ji47) p214 q214
                    obtain rfl : ad204 = ad214 := (by injection e214)
                    replace hx214_0 := cel HB hx214_0
                    replace hx214_1 := cel HB hx214_1
                    replace hx214_2 := cel HB hx214_2
                    replace hx214_3 := cel HB hx214_3
                    replace hx214_4 := cel HB hx214_4
                    replace p214 := eq_true p214
                    replace q214 := eq_true q214
                    go_wp2
                    repeat (go_quiet (fail); try go_wp2)
                    go_roundg k1
                    case measure => have := HK1.out; omega
                    case rel => exact ⟨(x11_1), (wrap64 (x13_1 + 1)), (by first | rfl | (simp; done) | (simp [*]; done)), H', ⟨by have := HK1.out; omega⟩, ⟨rdl HO_11⟩, ⟨bkl BK198⟩, ⟨bkl BK205⟩, ⟨bel2 HB GE198 GE205⟩⟩
                   ·rw [if_neg c50] at H
                    have c50b0 : (((rd_T61 l1 (ji10)).f1) == ((rd_T61 l1 (ji47)).f1)) = false := beq_eq_false_iff_ne.mpr c50
                    have c50b1 : (((rd_T61 l1 (ji10)).f1) != ((rd_T61 l1 (ji47)).f1)) = true := bne_iff_ne.mpr c50
                    by_cases c54 : x11_1.length < 5864062014805
                    ·rw [if_pos c54] at H
                     have LMc54 := Aside0.mk c54
                     clear c54
                     obtain ⟨y215, hy215⟩ : ∃ y_ : List (S59), y_ = (x11_1 ++ [(⟨x13_1, a3, a4⟩ : S59)]) := ⟨_, rfl⟩
                     replace H : (spec_l7At.l0 k1 l1 a2 a3 a4 y215 (wrap64 (x13_1 + 1)) l0_0 ((rd_T61 l1 (ji10)).f0) ((rd_T61 l1 (ji10)).f1) ((rd_T61 l1 (ji10)).f2) ((rd_T61 l1 (ji10)).f3) ((rd_T61 l1 (ji10)).f4)) = some r := by first | (rw [hy215]; with_reducible exact H) | (have H2_ := (Option.bind_some _ _).symm.trans H; rw [hy215]; with_reducible exact H2_) | (have H2_ := (Option.bind_some _ _).symm.trans H; with_reducible exact H2_) | with_reducible exact H | (rw [hy215]; exact H) | exact H
                     have Ny215 := Aside0.mk hy215
                     clear hy215
                     have H' := Aside0.mk H
                     clear H
                     have hnb55 := NB205_198.out
                     have hnc55 := NB198_205.out
                     have hcz56_0 : wr.cell? ⟨gb205, 0, none⟩ = some (.string ((rd_T61 l1 (ji10)).f0)) := (blk_cell BK205.out 0).trans rfl
                     have hcz56_1 : wr.cell? ⟨gb205, 1, none⟩ = some (.int .i64 ((rd_T61 l1 (ji10)).f1)) := (blk_cell BK205.out 1).trans rfl
                     have hcz56_2 : wr.cell? ⟨gb205, 2, none⟩ = some (.int .i64 ((rd_T61 l1 (ji10)).f2)) := (blk_cell BK205.out 2).trans rfl
                     have hcz56_3 : wr.cell? ⟨gb205, 3, none⟩ = some (.int .i64 ((rd_T61 l1 (ji10)).f3)) := (blk_cell BK205.out 3).trans rfl
                     have hcz56_4 : wr.cell? ⟨gb205, 4, none⟩ = some (.int .i64 ((rd_T61 l1 (ji10)).f4)) := (blk_cell BK205.out 4).trans rfl
                     have hfz56_0 := blk_frozen BK205.out 0
                     have hfz56_1 := blk_frozen BK205.out 1
                     have hfz56_2 := blk_frozen BK205.out 2
                     have hfz56_3 := blk_frozen BK205.out 3
                     have hfz56_4 := blk_frozen BK205.out 4
                     have hcz57_0 : wr.cell? ⟨gb198, 0, none⟩ = some (.slice (some ad202) l0_0.length c0_0) := (blk_cell BK198.out 0).trans rfl
                     have hfz57_0 := blk_frozen BK198.out 0
                     have p212 : 0 ≤ (a3 : Int) := oda
                     have q212 : a3 < (l0_0.length : Int) := oda
                     obtain ⟨ad212, A212_0, c212_0, e212, hx212_0, hl212_0, hi212_0⟩ := at_L1 HR0_0.out a3 p212 q212
                     obtain rfl : ad202 = ad212 := (by injection e212)
                     replace hx212_0 := cel HB hx212_0
                     have HR212_0 := Aside0.mk hi212_0
                     have HC212_0 := Aside0.mk hl212_0
                     clear hi212_0 hl212_0
                     replace p212 := eq_true p212
                     replace q212 := eq_true q212
                     have p213 : 0 ≤ ((ji44) : Int) := oda
                     have q213 : (ji44) < ((rd_L1 l0_0 a3).length : Int) := oda
                     obtain ⟨ad213, e213, hx213_0⟩ := Kd.at_int HR212_0.out (ji44) p213 q213
                     cases e213
                     replace hx213_0 := cel HB hx213_0
                     replace p213 := eq_true p213
                     replace q213 := eq_true q213
                     have p214 : 0 ≤ ((ji47) : Int) := oda
                     have q214 : (ji47) < (l1.length : Int) := oda
                     obtain ⟨ad214, e214, hx214_0, hx214_1, hx214_2, hx214_3, hx214_4⟩ := at_T61 HR1.out (ji47) p214 q214
                     obtain rfl : ad204 = ad214 := (by injection e214)
                     replace hx214_0 := cel HB hx214_0
                     replace hx214_1 := cel HB hx214_1
                     replace hx214_2 := cel HB hx214_2
                     replace hx214_3 := cel HB hx214_3
                     replace hx214_4 := cel HB hx214_4
                     replace p214 := eq_true p214
                     replace q214 := eq_true q214
                     go_wp2_with (first | ((with_reducible refine gate_builtin (b := .append) (xs := #[.tmp 97, .tmp 102]) rfl ?_); at_builtin; refine Kd.R_append k59 (w0 := w) w.heap.size rfl (.tmp 97) (.tmp 102) 42 59 (.agg #[(.int .i64 0), (.int .i64 0), (.int .i64 0)]) 24 rfl Try.underlying42 info59 rfl (by decide) (by omega) u11 x11_1 (⟨x13_1, a3, a4⟩ : S59) [.int .i64 x13_1, .int .i64 a3, .int .i64 a4] (fun _ => True) (fun _ => False) rfl rfl ?aP (fun _ hk => hk.elim) ?aF ?aO ?aB ?aS ?aL ?_; (case aP => exact k59_mkM _ _ _ (⟨x13_1, a3, a4⟩ : S59)); (case aB => exact (bel2 HB GE198 GE205)); (case aF => exact (fun _ _ => trivial)); (case aO => exact (rdl HO_11)); (case aS => exact (below_size (bel2 HB GE198 GE205))); (case aL => have := LMc54.out; omega); intro v216 w58 ho hb hg hat; rw [← Ny215.out] at ho; have n0_ := Aside0.mk (blk_grown (g := gb198) (o := .cells #[.slice (some ad202) l0_0.length c0_0] 31 (0, 0)) (bkl BK198) hg (Kd.R_ne HO_11.out BK198.out (by decide))); have n1_ := Aside0.mk (blk_grown (g := gb205) (o := .cells #[.string ((rd_T61 l1 (ji10)).f0), .int .i64 ((rd_T61 l1 (ji10)).f1), .int .i64 ((rd_T61 l1 (ji10)).f2), .int .i64 ((rd_T61 l1 (ji10)).f3), .int .i64 ((rd_T61 l1 (ji10)).f4)] 61 (0, 0)) (bkl BK205) hg (Kd.R_ne HO_11.out BK205.out (by decide))); have n2_ := Aside0.mk (hb); have n3_ := Aside0.mk (ho); clear BK198; clear BK205; clear HB; clear HO_11; have BK198 := n0_; have BK205 := n1_; have HB := n2_; have HO217 := n3_; clear n0_ n1_ n2_ n3_; clear ho hb hg hat))
                     repeat (go_quiet (first | ((with_reducible refine gate_builtin (b := .append) (xs := #[.tmp 97, .tmp 102]) rfl ?_); at_builtin; refine Kd.R_append k59 (w0 := w) w.heap.size rfl (.tmp 97) (.tmp 102) 42 59 (.agg #[(.int .i64 0), (.int .i64 0), (.int .i64 0)]) 24 rfl Try.underlying42 info59 rfl (by decide) (by omega) u11 x11_1 (⟨x13_1, a3, a4⟩ : S59) [.int .i64 x13_1, .int .i64 a3, .int .i64 a4] (fun _ => True) (fun _ => False) rfl rfl ?aP (fun _ hk => hk.elim) ?aF ?aO ?aB ?aS ?aL ?_; (case aP => exact k59_mkM _ _ _ (⟨x13_1, a3, a4⟩ : S59)); (case aB => exact (bel2 HB GE198 GE205)); (case aF => exact (fun _ _ => trivial)); (case aO => exact (rdl HO_11)); (case aS => exact (below_size (bel2 HB GE198 GE205))); (case aL => have := LMc54.out; omega); intro v216 w58 ho hb hg hat; rw [← Ny215.out] at ho; have n0_ := Aside0.mk (blk_grown (g := gb198) (o := .cells #[.slice (some ad202) l0_0.length c0_0] 31 (0, 0)) (bkl BK198) hg (Kd.R_ne HO_11.out BK198.out (by decide))); have n1_ := Aside0.mk (blk_grown (g := gb205) (o := .cells #[.string ((rd_T61 l1 (ji10)).f0), .int .i64 ((rd_T61 l1 (ji10)).f1), .int .i64 ((rd_T61 l1 (ji10)).f2), .int .i64 ((rd_T61 l1 (ji10)).f3), .int .i64 ((rd_T61 l1 (ji10)).f4)] 61 (0, 0)) (bkl BK205) hg (Kd.R_ne HO_11.out BK205.out (by decide))); have n2_ := Aside0.mk (hb); have n3_ := Aside0.mk (ho); clear BK198; clear BK205; clear HB; clear HO_11; have BK198 := n0_; have BK205 := n1_; have HB := n2_; have HO217 := n3_; clear n0_ n1_ n2_ n3_; clear ho hb hg hat)); try go_wp2_with (first | ((with_reducible refine gate_builtin (b := .append) (xs := #[.tmp 97, .tmp 102]) rfl ?_); at_builtin; refine Kd.R_append k59 (w0 := w) w.heap.size rfl (.tmp 97) (.tmp 102) 42 59 (.agg #[(.int .i64 0), (.int .i64 0), (.int .i64 0)]) 24 rfl Try.underlying42 info59 rfl (by decide) (by omega) u11 x11_1 (⟨x13_1, a3, a4⟩ : S59) [.int .i64 x13_1, .int .i64 a3, .int .i64 a4] (fun _ => True) (fun _ => False) rfl rfl ?aP (fun _ hk => hk.elim) ?aF ?aO ?aB ?aS ?aL ?_; (case aP => exact k59_mkM _ _ _ (⟨x13_1, a3, a4⟩ : S59)); (case aB => exact (bel2 HB GE198 GE205)); (case aF => exact (fun _ _ => trivial)); (case aO => exact (rdl HO_11)); (case aS => exact (below_size (bel2 HB GE198 GE205))); (case aL => have := LMc54.out; omega); intro v216 w58 ho hb hg hat; rw [← Ny215.out] at ho; have n0_ := Aside0.mk (blk_grown (g := gb198) (o := .cells #[.slice (some ad202) l0_0.length c0_0] 31 (0, 0)) (bkl BK198) hg (Kd.R_ne HO_11.out BK198.out (by decide))); have n1_ := Aside0.mk (blk_grown (g := gb205) (o := .cells #[.string ((rd_T61 l1 (ji10)).f0), .int .i64 ((rd_T61 l1 (ji10)).f1), .int .i64 ((rd_T61 l1 (ji10)).f2), .int .i64 ((rd_T61 l1 (ji10)).f3), .int .i64 ((rd_T61 l1 (ji10)).f4)] 61 (0, 0)) (bkl BK205) hg (Kd.R_ne HO_11.out BK205.out (by decide))); have n2_ := Aside0.mk (hb); have n3_ := Aside0.mk (ho); clear BK198; clear BK205; clear HB; clear HO_11; have BK198 := n0_; have BK205 := n1_; have HB := n2_; have HO217 := n3_; clear n0_ n1_ n2_ n3_; clear ho hb hg hat)))
                     go_roundg k1
                     case measure => have := HK1.out; omega
                     case rel => exact ⟨(y215), (wrap64 (x13_1 + 1)), (by first | rfl | (simp; done) | (simp [*]; done)), H', ⟨by have := HK1.out; omega⟩, ⟨rdl HO217⟩, ⟨bkl BK198⟩, ⟨bkl BK205⟩, ⟨bel2 HB GE198 GE205⟩⟩
                    ·rw [if_neg c54] at H
                     exact absurd H (by simp)
                  ·rw [if_neg c49] at H
                   exact absurd H (by simp)
                 ·rw [if_neg c48] at H
                  exact absurd H (by simp)
                ·rw [if_neg c46] at H
                 exact absurd H (by simp)
               ·rw [if_neg c45] at H
                exact absurd H (by simp)
              ·rw [if_neg c43] at H
               exact absurd H (by simp)
             ·rw [if_neg c42] at H
              exact absurd H (by simp)
            ·rw [if_neg c41] at H
             have c41b0 : decide (0 < a4) = false := decide_eq_false c41
             clear c41
             have H' := Aside0.mk H
             clear H
             go_wp2
             repeat (go_quiet (fail); try go_wp2)
             go_roundg k1
             case measure => have := HK1.out; omega
             case rel => exact ⟨(x11_1), (wrap64 (x13_1 + 1)), (by first | rfl | (simp; done) | (simp [*]; done)), H', ⟨by have := HK1.out; omega⟩, ⟨rdl HO_11⟩, ⟨bkl BK198⟩, ⟨bkl BK205⟩, ⟨bel2 HB GE198 GE205⟩⟩
           ·rw [if_neg c40] at H
            have c40b0 : (x13_1 == 2) = false := beq_eq_false_iff_ne.mpr c40
            have c40b1 : (x13_1 != 2) = true := bne_iff_ne.mpr c40
            by_cases c59 : x13_1 = 3
            ·rw [if_pos c59] at H
             have c59b0 : (x13_1 == 3) = true := beq_iff_eq.mpr c59
             have c59b1 : (x13_1 != 3) = false := bne_eq_false_iff_eq.mpr c59
             clear c59
             by_cases c60 : a4 > 0
             ·rw [if_pos c60] at H
              have c60b0 : decide (0 < a4) = true := decide_eq_true c60
              clear c60
              by_cases c61 : ((rd_T61 l1 (ji10)).f3) = 3
              ·rw [if_pos c61] at H
               have c61b0 : (((rd_T61 l1 (ji10)).f3) == 3) = true := beq_iff_eq.mpr c61
               have c61b1 : (((rd_T61 l1 (ji10)).f3) != 3) = false := bne_eq_false_iff_eq.mpr c61
               clear c61
               by_cases c62 : x11_1.length < 5864062014805
               ·rw [if_pos c62] at H
                have LMc62 := Aside0.mk c62
                clear c62
                obtain ⟨y218, hy218⟩ : ∃ y_ : List (S59), y_ = (x11_1 ++ [(⟨x13_1, a3, a4⟩ : S59)]) := ⟨_, rfl⟩
                replace H : (spec_l7At.l0 k1 l1 a2 a3 a4 y218 (wrap64 (x13_1 + 1)) l0_0 ((rd_T61 l1 (ji10)).f0) ((rd_T61 l1 (ji10)).f1) ((rd_T61 l1 (ji10)).f2) ((rd_T61 l1 (ji10)).f3) ((rd_T61 l1 (ji10)).f4)) = some r := by first | (rw [hy218]; with_reducible exact H) | (have H2_ := (Option.bind_some _ _).symm.trans H; rw [hy218]; with_reducible exact H2_) | (have H2_ := (Option.bind_some _ _).symm.trans H; with_reducible exact H2_) | with_reducible exact H | (rw [hy218]; exact H) | exact H
                have Ny218 := Aside0.mk hy218
                clear hy218
                have H' := Aside0.mk H
                clear H
                have hnb63 := NB205_198.out
                have hnc63 := NB198_205.out
                have hcz64_0 : wr.cell? ⟨gb205, 0, none⟩ = some (.string ((rd_T61 l1 (ji10)).f0)) := (blk_cell BK205.out 0).trans rfl
                have hcz64_1 : wr.cell? ⟨gb205, 1, none⟩ = some (.int .i64 ((rd_T61 l1 (ji10)).f1)) := (blk_cell BK205.out 1).trans rfl
                have hcz64_2 : wr.cell? ⟨gb205, 2, none⟩ = some (.int .i64 ((rd_T61 l1 (ji10)).f2)) := (blk_cell BK205.out 2).trans rfl
                have hcz64_3 : wr.cell? ⟨gb205, 3, none⟩ = some (.int .i64 ((rd_T61 l1 (ji10)).f3)) := (blk_cell BK205.out 3).trans rfl
                have hcz64_4 : wr.cell? ⟨gb205, 4, none⟩ = some (.int .i64 ((rd_T61 l1 (ji10)).f4)) := (blk_cell BK205.out 4).trans rfl
                have hfz64_0 := blk_frozen BK205.out 0
                have hfz64_1 := blk_frozen BK205.out 1
                have hfz64_2 := blk_frozen BK205.out 2
                have hfz64_3 := blk_frozen BK205.out 3
                have hfz64_4 := blk_frozen BK205.out 4
                go_wp2_with (first | ((with_reducible refine gate_builtin (b := .append) (xs := #[.tmp 97, .tmp 102]) rfl ?_); at_builtin; refine Kd.R_append k59 (w0 := w) w.heap.size rfl (.tmp 97) (.tmp 102) 42 59 (.agg #[(.int .i64 0), (.int .i64 0), (.int .i64 0)]) 24 rfl Try.underlying42 info59 rfl (by decide) (by omega) u11 x11_1 (⟨x13_1, a3, a4⟩ : S59) [.int .i64 x13_1, .int .i64 a3, .int .i64 a4] (fun _ => True) (fun _ => False) rfl rfl ?aP (fun _ hk => hk.elim) ?aF ?aO ?aB ?aS ?aL ?_; (case aP => exact k59_mkM _ _ _ (⟨x13_1, a3, a4⟩ : S59)); (case aB => exact (bel2 HB GE198 GE205)); (case aF => exact (fun _ _ => trivial)); (case aO => exact (rdl HO_11)); (case aS => exact (below_size (bel2 HB GE198 GE205))); (case aL => have := LMc62.out; omega); intro v219 w65 ho hb hg hat; rw [← Ny218.out] at ho; have n0_ := Aside0.mk (blk_grown (g := gb198) (o := .cells #[.slice (some ad202) l0_0.length c0_0] 31 (0, 0)) (bkl BK198) hg (Kd.R_ne HO_11.out BK198.out (by decide))); have n1_ := Aside0.mk (blk_grown (g := gb205) (o := .cells #[.string ((rd_T61 l1 (ji10)).f0), .int .i64 ((rd_T61 l1 (ji10)).f1), .int .i64 ((rd_T61 l1 (ji10)).f2), .int .i64 ((rd_T61 l1 (ji10)).f3), .int .i64 ((rd_T61 l1 (ji10)).f4)] 61 (0, 0)) (bkl BK205) hg (Kd.R_ne HO_11.out BK205.out (by decide))); have n2_ := Aside0.mk (hb); have n3_ := Aside0.mk (ho); clear BK198; clear BK205; clear HB; clear HO_11; have BK198 := n0_; have BK205 := n1_; have HB := n2_; have HO220 := n3_; clear n0_ n1_ n2_ n3_; clear ho hb hg hat))
                repeat (go_quiet (first | ((with_reducible refine gate_builtin (b := .append) (xs := #[.tmp 97, .tmp 102]) rfl ?_); at_builtin; refine Kd.R_append k59 (w0 := w) w.heap.size rfl (.tmp 97) (.tmp 102) 42 59 (.agg #[(.int .i64 0), (.int .i64 0), (.int .i64 0)]) 24 rfl Try.underlying42 info59 rfl (by decide) (by omega) u11 x11_1 (⟨x13_1, a3, a4⟩ : S59) [.int .i64 x13_1, .int .i64 a3, .int .i64 a4] (fun _ => True) (fun _ => False) rfl rfl ?aP (fun _ hk => hk.elim) ?aF ?aO ?aB ?aS ?aL ?_; (case aP => exact k59_mkM _ _ _ (⟨x13_1, a3, a4⟩ : S59)); (case aB => exact (bel2 HB GE198 GE205)); (case aF => exact (fun _ _ => trivial)); (case aO => exact (rdl HO_11)); (case aS => exact (below_size (bel2 HB GE198 GE205))); (case aL => have := LMc62.out; omega); intro v219 w65 ho hb hg hat; rw [← Ny218.out] at ho; have n0_ := Aside0.mk (blk_grown (g := gb198) (o := .cells #[.slice (some ad202) l0_0.length c0_0] 31 (0, 0)) (bkl BK198) hg (Kd.R_ne HO_11.out BK198.out (by decide))); have n1_ := Aside0.mk (blk_grown (g := gb205) (o := .cells #[.string ((rd_T61 l1 (ji10)).f0), .int .i64 ((rd_T61 l1 (ji10)).f1), .int .i64 ((rd_T61 l1 (ji10)).f2), .int .i64 ((rd_T61 l1 (ji10)).f3), .int .i64 ((rd_T61 l1 (ji10)).f4)] 61 (0, 0)) (bkl BK205) hg (Kd.R_ne HO_11.out BK205.out (by decide))); have n2_ := Aside0.mk (hb); have n3_ := Aside0.mk (ho); clear BK198; clear BK205; clear HB; clear HO_11; have BK198 := n0_; have BK205 := n1_; have HB := n2_; have HO220 := n3_; clear n0_ n1_ n2_ n3_; clear ho hb hg hat)); try go_wp2_with (first | ((with_reducible refine gate_builtin (b := .append) (xs := #[.tmp 97, .tmp 102]) rfl ?_); at_builtin; refine Kd.R_append k59 (w0 := w) w.heap.size rfl (.tmp 97) (.tmp 102) 42 59 (.agg #[(.int .i64 0), (.int .i64 0), (.int .i64 0)]) 24 rfl Try.underlying42 info59 rfl (by decide) (by omega) u11 x11_1 (⟨x13_1, a3, a4⟩ : S59) [.int .i64 x13_1, .int .i64 a3, .int .i64 a4] (fun _ => True) (fun _ => False) rfl rfl ?aP (fun _ hk => hk.elim) ?aF ?aO ?aB ?aS ?aL ?_; (case aP => exact k59_mkM _ _ _ (⟨x13_1, a3, a4⟩ : S59)); (case aB => exact (bel2 HB GE198 GE205)); (case aF => exact (fun _ _ => trivial)); (case aO => exact (rdl HO_11)); (case aS => exact (below_size (bel2 HB GE198 GE205))); (case aL => have := LMc62.out; omega); intro v219 w65 ho hb hg hat; rw [← Ny218.out] at ho; have n0_ := Aside0.mk (blk_grown (g := gb198) (o := .cells #[.slice (some ad202) l0_0.length c0_0] 31 (0, 0)) (bkl BK198) hg (Kd.R_ne HO_11.out BK198.out (by decide))); have n1_ := Aside0.mk (blk_grown (g := gb205) (o := .cells #[.string ((rd_T61 l1 (ji10)).f0), .int .i64 ((rd_T61 l1 (ji10)).f1), .int .i64 ((rd_T61 l1 (ji10)).f2), .int .i64 ((rd_T61 l1 (ji10)).f3), .int .i64 ((rd_T61 l1 (ji10)).f4)] 61 (0, 0)) (bkl BK205) hg (Kd.R_ne HO_11.out BK205.out (by decide))); have n2_ := Aside0.mk (hb); have n3_ := Aside0.mk (ho); clear BK198; clear BK205; clear HB; clear HO_11; have BK198 := n0_; have BK205 := n1_; have HB := n2_; have HO220 := n3_; clear n0_ n1_ n2_ n3_; clear ho hb hg hat)))
                go_roundg k1
                case measure => have := HK1.out; omega
                case rel => exact ⟨(y218), (wrap64 (x13_1 + 1)), (by first | rfl | (simp; done) | (simp [*]; done)), H', ⟨by have := HK1.out; omega⟩, ⟨rdl HO220⟩, ⟨bkl BK198⟩, ⟨bkl BK205⟩, ⟨bel2 HB GE198 GE205⟩⟩
               ·rw [if_neg c62] at H
                exact absurd H (by simp)
              ·rw [if_neg c61] at H
               have c61b0 : (((rd_T61 l1 (ji10)).f3) == 3) = false := beq_eq_false_iff_ne.mpr c61
               have c61b1 : (((rd_T61 l1 (ji10)).f3) != 3) = true := bne_iff_ne.mpr c61
               have H' := Aside0.mk H
               clear H
               have hnb66 := NB205_198.out
               have hnc66 := NB198_205.out
               have hcz67_0 : wr.cell? ⟨gb205, 0, none⟩ = some (.string ((rd_T61 l1 (ji10)).f0)) := (blk_cell BK205.out 0).trans rfl
               have hcz67_1 : wr.cell? ⟨gb205, 1, none⟩ = some (.int .i64 ((rd_T61 l1 (ji10)).f1)) := (blk_cell BK205.out 1).trans rfl
               have hcz67_2 : wr.cell? ⟨gb205, 2, none⟩ = some (.int .i64 ((rd_T61 l1 (ji10)).f2)) := (blk_cell BK205.out 2).trans rfl
               have hcz67_3 : wr.cell? ⟨gb205, 3, none⟩ = some (.int .i64 ((rd_T61 l1 (ji10)).f3)) := (blk_cell BK205.out 3).trans rfl
               have hcz67_4 : wr.cell? ⟨gb205, 4, none⟩ = some (.int .i64 ((rd_T61 l1 (ji10)).f4)) := (blk_cell BK205.out 4).trans rfl
               have hfz67_0 := blk_frozen BK205.out 0
               have hfz67_1 := blk_frozen BK205.out 1
               have hfz67_2 := blk_frozen BK205.out 2
               have hfz67_3 := blk_frozen BK205.out 3
               have hfz67_4 := blk_frozen BK205.out 4
               go_wp2
               repeat (go_quiet (fail); try go_wp2)
               go_roundg k1
               case measure => have := HK1.out; omega
               case rel => exact ⟨(x11_1), (wrap64 (x13_1 + 1)), (by first | rfl | (simp; done) | (simp [*]; done)), H', ⟨by have := HK1.out; omega⟩, ⟨rdl HO_11⟩, ⟨bkl BK198⟩, ⟨bkl BK205⟩, ⟨bel2 HB GE198 GE205⟩⟩
             ·rw [if_neg c60] at H
              have c60b0 : decide (0 < a4) = false := decide_eq_false c60
              clear c60
              have H' := Aside0.mk H
              clear H
              go_wp2
              repeat (go_quiet (fail); try go_wp2)
              go_roundg k1
              case measure => have := HK1.out; omega
              case rel => exact ⟨(x11_1), (wrap64 (x13_1 + 1)), (by first | rfl | (simp; done) | (simp [*]; done)), H', ⟨by have := HK1.out; omega⟩, ⟨rdl HO_11⟩, ⟨bkl BK198⟩, ⟨bkl BK205⟩, ⟨bel2 HB GE198 GE205⟩⟩
            ·rw [if_neg c59] at H
             have c59b0 : (x13_1 == 3) = false := beq_eq_false_iff_ne.mpr c59
             have c59b1 : (x13_1 != 3) = true := bne_iff_ne.mpr c59
             by_cases c68 : ((rd_T61 l1 (ji10)).f3) = 2
             ·rw [if_pos c68] at H
              have c68b0 : (((rd_T61 l1 (ji10)).f3) == 2) = true := beq_iff_eq.mpr c68
              have c68b1 : (((rd_T61 l1 (ji10)).f3) != 2) = false := bne_eq_false_iff_eq.mpr c68
              clear c68
              by_cases c69 : a3 ≥ a2
              ·rw [if_pos c69] at H
               have c69b0 : decide (a2 ≤ a3) = true := decide_eq_true c69
               clear c69
               by_cases c70 : x11_1.length < 5864062014805
               ·rw [if_pos c70] at H
                have LMc70 := Aside0.mk c70
                clear c70
                obtain ⟨y221, hy221⟩ : ∃ y_ : List (S59), y_ = (x11_1 ++ [(⟨x13_1, a3, a4⟩ : S59)]) := ⟨_, rfl⟩
                replace H : (spec_l7At.l0 k1 l1 a2 a3 a4 y221 (wrap64 (x13_1 + 1)) l0_0 ((rd_T61 l1 (ji10)).f0) ((rd_T61 l1 (ji10)).f1) ((rd_T61 l1 (ji10)).f2) ((rd_T61 l1 (ji10)).f3) ((rd_T61 l1 (ji10)).f4)) = some r := by first | (rw [hy221]; with_reducible exact H) | (have H2_ := (Option.bind_some _ _).symm.trans H; rw [hy221]; with_reducible exact H2_) | (have H2_ := (Option.bind_some _ _).symm.trans H; with_reducible exact H2_) | with_reducible exact H | (rw [hy221]; exact H) | exact H
                have Ny221 := Aside0.mk hy221
                clear hy221
                have H' := Aside0.mk H
                clear H
                have hnb71 := NB205_198.out
                have hnc71 := NB198_205.out
                have hcz72_0 : wr.cell? ⟨gb205, 0, none⟩ = some (.string ((rd_T61 l1 (ji10)).f0)) := (blk_cell BK205.out 0).trans rfl
                have hcz72_1 : wr.cell? ⟨gb205, 1, none⟩ = some (.int .i64 ((rd_T61 l1 (ji10)).f1)) := (blk_cell BK205.out 1).trans rfl
                have hcz72_2 : wr.cell? ⟨gb205, 2, none⟩ = some (.int .i64 ((rd_T61 l1 (ji10)).f2)) := (blk_cell BK205.out 2).trans rfl
                have hcz72_3 : wr.cell? ⟨gb205, 3, none⟩ = some (.int .i64 ((rd_T61 l1 (ji10)).f3)) := (blk_cell BK205.out 3).trans rfl
                have hcz72_4 : wr.cell? ⟨gb205, 4, none⟩ = some (.int .i64 ((rd_T61 l1 (ji10)).f4)) := (blk_cell BK205.out 4).trans rfl
                have hfz72_0 := blk_frozen BK205.out 0
                have hfz72_1 := blk_frozen BK205.out 1
                have hfz72_2 := blk_frozen BK205.out 2
                have hfz72_3 := blk_frozen BK205.out 3
                have hfz72_4 := blk_frozen BK205.out 4
                go_wp2_with (first | ((with_reducible refine gate_builtin (b := .append) (xs := #[.tmp 97, .tmp 102]) rfl ?_); at_builtin; refine Kd.R_append k59 (w0 := w) w.heap.size rfl (.tmp 97) (.tmp 102) 42 59 (.agg #[(.int .i64 0), (.int .i64 0), (.int .i64 0)]) 24 rfl Try.underlying42 info59 rfl (by decide) (by omega) u11 x11_1 (⟨x13_1, a3, a4⟩ : S59) [.int .i64 x13_1, .int .i64 a3, .int .i64 a4] (fun _ => True) (fun _ => False) rfl rfl ?aP (fun _ hk => hk.elim) ?aF ?aO ?aB ?aS ?aL ?_; (case aP => exact k59_mkM _ _ _ (⟨x13_1, a3, a4⟩ : S59)); (case aB => exact (bel2 HB GE198 GE205)); (case aF => exact (fun _ _ => trivial)); (case aO => exact (rdl HO_11)); (case aS => exact (below_size (bel2 HB GE198 GE205))); (case aL => have := LMc70.out; omega); intro v222 w73 ho hb hg hat; rw [← Ny221.out] at ho; have n0_ := Aside0.mk (blk_grown (g := gb198) (o := .cells #[.slice (some ad202) l0_0.length c0_0] 31 (0, 0)) (bkl BK198) hg (Kd.R_ne HO_11.out BK198.out (by decide))); have n1_ := Aside0.mk (blk_grown (g := gb205) (o := .cells #[.string ((rd_T61 l1 (ji10)).f0), .int .i64 ((rd_T61 l1 (ji10)).f1), .int .i64 ((rd_T61 l1 (ji10)).f2), .int .i64 ((rd_T61 l1 (ji10)).f3), .int .i64 ((rd_T61 l1 (ji10)).f4)] 61 (0, 0)) (bkl BK205) hg (Kd.R_ne HO_11.out BK205.out (by decide))); have n2_ := Aside0.mk (hb); have n3_ := Aside0.mk (ho); clear BK198; clear BK205; clear HB; clear HO_11; have BK198 := n0_; have BK205 := n1_; have HB := n2_; have HO223 := n3_; clear n0_ n1_ n2_ n3_; clear ho hb hg hat))
                repeat (go_quiet (first | ((with_reducible refine gate_builtin (b := .append) (xs := #[.tmp 97, .tmp 102]) rfl ?_); at_builtin; refine Kd.R_append k59 (w0 := w) w.heap.size rfl (.tmp 97) (.tmp 102) 42 59 (.agg #[(.int .i64 0), (.int .i64 0), (.int .i64 0)]) 24 rfl Try.underlying42 info59 rfl (by decide) (by omega) u11 x11_1 (⟨x13_1, a3, a4⟩ : S59) [.int .i64 x13_1, .int .i64 a3, .int .i64 a4] (fun _ => True) (fun _ => False) rfl rfl ?aP (fun _ hk => hk.elim) ?aF ?aO ?aB ?aS ?aL ?_; (case aP => exact k59_mkM _ _ _ (⟨x13_1, a3, a4⟩ : S59)); (case aB => exact (bel2 HB GE198 GE205)); (case aF => exact (fun _ _ => trivial)); (case aO => exact (rdl HO_11)); (case aS => exact (below_size (bel2 HB GE198 GE205))); (case aL => have := LMc70.out; omega); intro v222 w73 ho hb hg hat; rw [← Ny221.out] at ho; have n0_ := Aside0.mk (blk_grown (g := gb198) (o := .cells #[.slice (some ad202) l0_0.length c0_0] 31 (0, 0)) (bkl BK198) hg (Kd.R_ne HO_11.out BK198.out (by decide))); have n1_ := Aside0.mk (blk_grown (g := gb205) (o := .cells #[.string ((rd_T61 l1 (ji10)).f0), .int .i64 ((rd_T61 l1 (ji10)).f1), .int .i64 ((rd_T61 l1 (ji10)).f2), .int .i64 ((rd_T61 l1 (ji10)).f3), .int .i64 ((rd_T61 l1 (ji10)).f4)] 61 (0, 0)) (bkl BK205) hg (Kd.R_ne HO_11.out BK205.out (by decide))); have n2_ := Aside0.mk (hb); have n3_ := Aside0.mk (ho); clear BK198; clear BK205; clear HB; clear HO_11; have BK198 := n0_; have BK205 := n1_; have HB := n2_; have HO223 := n3_; clear n0_ n1_ n2_ n3_; clear ho hb hg hat)); try go_wp2_with (first | ((with_reducible refine gate_builtin (b := .append) (xs := #[.tmp 97, .tmp 102]) rfl ?_); at_builtin; refine Kd.R_append k59 (w0 := w) w.heap.size rfl (.tmp 97) (.tmp 102) 42 59 (.agg #[(.int .i64 0), (.int .i64 0), (.int .i64 0)]) 24 rfl Try.underlying42 info59 rfl (by decide) (by omega) u11 x11_1 (⟨x13_1, a3, a4⟩ : S59) [.int .i64 x13_1, .int .i64 a3, .int .i64 a4] (fun _ => True) (fun _ => False) rfl rfl ?aP (fun _ hk => hk.elim) ?aF ?aO ?aB ?aS ?aL ?_; (case aP => exact k59_mkM _ _ _ (⟨x13_1, a3, a4⟩ : S59)); (case aB => exact (bel2 HB GE198 GE205)); (case aF => exact (fun _ _ => trivial)); (case aO => exact (rdl HO_11)); (case aS => exact (below_size (bel2 HB GE198 GE205))); (case aL => have := LMc70.out; omega); intro v222 w73 ho hb hg hat; rw [← Ny221.out] at ho; have n0_ := Aside0.mk (blk_grown (g := gb198) (o := .cells #[.slice (some ad202) l0_0.length c0_0] 31 (0, 0)) (bkl BK198) hg (Kd.R_ne HO_11.out BK198.out (by decide))); have n1_ := Aside0.mk (blk_grown (g := gb205) (o := .cells #[.string ((rd_T61 l1 (ji10)).f0), .int .i64 ((rd_T61 l1 (ji10)).f1), .int .i64 ((rd_T61 l1 (ji10)).f2), .int .i64 ((rd_T61 l1 (ji10)).f3), .int .i64 ((rd_T61 l1 (ji10)).f4)] 61 (0, 0)) (bkl BK205) hg (Kd.R_ne HO_11.out BK205.out (by decide))); have n2_ := Aside0.mk (hb); have n3_ := Aside0.mk (ho); clear BK198; clear BK205; clear HB; clear HO_11; have BK198 := n0_; have BK205 := n1_; have HB := n2_; have HO223 := n3_; clear n0_ n1_ n2_ n3_; clear ho hb hg hat)))
                go_roundg k1
                case measure => have := HK1.out; omega
                case rel => exact ⟨(y221), (wrap64 (x13_1 + 1)), (by first | rfl | (simp; done) | (simp [*]; done)), H', ⟨by have := HK1.out; omega⟩, ⟨rdl HO223⟩, ⟨bkl BK198⟩, ⟨bkl BK205⟩, ⟨bel2 HB GE198 GE205⟩⟩
               ·rw [if_neg c70] at H
                exact absurd H (by simp)
              ·rw [if_neg c69] at H
               have c69b0 : decide (a2 ≤ a3) = false := decide_eq_false c69
               clear c69
               have H' := Aside0.mk H
               clear H
               have hnb74 := NB205_198.out
               have hnc74 := NB198_205.out
               have hcz75_0 : wr.cell? ⟨gb205, 0, none⟩ = some (.string ((rd_T61 l1 (ji10)).f0)) := (blk_cell BK205.out 0).trans rfl
               have hcz75_1 : wr.cell? ⟨gb205, 1, none⟩ = some (.int .i64 ((rd_T61 l1 (ji10)).f1)) := (blk_cell BK205.out 1).trans rfl
               have hcz75_2 : wr.cell? ⟨gb205, 2, none⟩ = some (.int .i64 ((rd_T61 l1 (ji10)).f2)) := (blk_cell BK205.out 2).trans rfl
               have hcz75_3 : wr.cell? ⟨gb205, 3, none⟩ = some (.int .i64 ((rd_T61 l1 (ji10)).f3)) := (blk_cell BK205.out 3).trans rfl
               have hcz75_4 : wr.cell? ⟨gb205, 4, none⟩ = some (.int .i64 ((rd_T61 l1 (ji10)).f4)) := (blk_cell BK205.out 4).trans rfl
               have hfz75_0 := blk_frozen BK205.out 0
               have hfz75_1 := blk_frozen BK205.out 1
               have hfz75_2 := blk_frozen BK205.out 2
               have hfz75_3 := blk_frozen BK205.out 3
               have hfz75_4 := blk_frozen BK205.out 4
               go_wp2
               repeat (go_quiet (fail); try go_wp2)
               go_roundg k1
               case measure => have := HK1.out; omega
               case rel => exact ⟨(x11_1), (wrap64 (x13_1 + 1)), (by first | rfl | (simp; done) | (simp [*]; done)), H', ⟨by have := HK1.out; omega⟩, ⟨rdl HO_11⟩, ⟨bkl BK198⟩, ⟨bkl BK205⟩, ⟨bel2 HB GE198 GE205⟩⟩
             ·rw [if_neg c68] at H
              have c68b0 : (((rd_T61 l1 (ji10)).f3) == 2) = false := beq_eq_false_iff_ne.mpr c68
              have c68b1 : (((rd_T61 l1 (ji10)).f3) != 2) = true := bne_iff_ne.mpr c68
              have H' := Aside0.mk H
              clear H
              have hnb76 := NB205_198.out
              have hnc76 := NB198_205.out
              have hcz77_0 : wr.cell? ⟨gb205, 0, none⟩ = some (.string ((rd_T61 l1 (ji10)).f0)) := (blk_cell BK205.out 0).trans rfl
              have hcz77_1 : wr.cell? ⟨gb205, 1, none⟩ = some (.int .i64 ((rd_T61 l1 (ji10)).f1)) := (blk_cell BK205.out 1).trans rfl
              have hcz77_2 : wr.cell? ⟨gb205, 2, none⟩ = some (.int .i64 ((rd_T61 l1 (ji10)).f2)) := (blk_cell BK205.out 2).trans rfl
              have hcz77_3 : wr.cell? ⟨gb205, 3, none⟩ = some (.int .i64 ((rd_T61 l1 (ji10)).f3)) := (blk_cell BK205.out 3).trans rfl
              have hcz77_4 : wr.cell? ⟨gb205, 4, none⟩ = some (.int .i64 ((rd_T61 l1 (ji10)).f4)) := (blk_cell BK205.out 4).trans rfl
              have hfz77_0 := blk_frozen BK205.out 0
              have hfz77_1 := blk_frozen BK205.out 1
              have hfz77_2 := blk_frozen BK205.out 2
              have hfz77_3 := blk_frozen BK205.out 3
              have hfz77_4 := blk_frozen BK205.out 4
              go_wp2
              repeat (go_quiet (fail); try go_wp2)
              go_roundg k1
              case measure => have := HK1.out; omega
              case rel => exact ⟨(x11_1), (wrap64 (x13_1 + 1)), (by first | rfl | (simp; done) | (simp [*]; done)), H', ⟨by have := HK1.out; omega⟩, ⟨rdl HO_11⟩, ⟨bkl BK198⟩, ⟨bkl BK205⟩, ⟨bel2 HB GE198 GE205⟩⟩
         ·rw [if_neg c20] at H
          have c20b0 : decide (x13_1 ≤ 4) = false := decide_eq_false c20
          clear c20
          obtain rfl := Option.some.inj H
          go_wp2
          repeat (go_quiet (fail); try go_wp2)
          go_ret
          exact ⟨_, by first | rfl | (simp [errW_none, errW_some] <;> rfl) | (simp only [← hji10]; first | rfl | (simp [errW_none, errW_some] <;> rfl)) | (simp [*, errW_none, errW_some] <;> rfl), rdl HO_11, bel2 HB GE198 GE205⟩
      ·rw [if_neg c12] at H
       exact absurd H (by simp)
     ·rw [if_neg c11] at H
      exact absurd H (by simp)
    ·rw [if_neg c9] at H
     exact absurd H (by simp)
   ·rw [if_neg c8] at H
    exact absurd H (by simp)
  ·rw [if_neg c7] at H
   exact absurd H (by simp)
 ·rw [if_neg c6] at H
  exact absurd H (by simp)

/-! ### spec_l7Findings: function 35 -/
mutual
def spec_l7Findings.l0 : Nat → List (S61) → Int → List (S59) → Int → List (List Int) → Option ((List (S59)))
 | 0, _, _, _, _, _ => none
 | k + 1, x1, x2, x7, x8, x225000 => if x8 < (x225000.length : Int) then (spec_l7Findings.l1 k x1 x2 x7 x8 0 x225000) else (some x7)
def spec_l7Findings.l1 : Nat → List (S61) → Int → List (S59) → Int → Int → List (List Int) → Option ((List (S59)))
 | 0, _, _, _, _, _, _ => none
 | k + 1, x1, x2, x7, x8, x9, x225000 => if 0 ≤ x8 then (if x8 < (x225000.length : Int) then (if x9 < ((rd_L1 x225000 x8).length : Int) then ((spec_l7At.f k x225000 x1 x2 x8 x9).bind fun t229 => (if x7.length + t229.length < 5864062014805 then (spec_l7Findings.l1 k x1 x2 (x7 ++ t229) x8 (wrap64 (x9 + 1)) x225000) else (none))) else (spec_l7Findings.l0 k x1 x2 x7 (wrap64 (x8 + 1)) x225000)) else (none)) else (none)
end
def spec_l7Findings.f (k : Nat) (l0_0 : List (List Int)) (l1 : List (S61)) (a2 : Int) : Option ((List (S59))) := spec_l7Findings.l0 k l1 a2 (([] : List (S59))) 0 l0_0
theorem spec_l7Findings.mono_l : ∀ k, (∀ y0 y1 y2 y3 y4, LeO (spec_l7Findings.l0 k y0 y1 y2 y3 y4) (spec_l7Findings.l0 (k + 1) y0 y1 y2 y3 y4)) ∧ (∀ y0 y1 y2 y3 y4 y5, LeO (spec_l7Findings.l1 k y0 y1 y2 y3 y4 y5) (spec_l7Findings.l1 (k + 1) y0 y1 y2 y3 y4 y5))
 | 0 => ⟨fun _ _ _ _ _ r h => by simp [spec_l7Findings.l0] at h, fun _ _ _ _ _ _ r h => by simp [spec_l7Findings.l1] at h⟩
 | k + 1 => by
  obtain ⟨ih0, ih1⟩ := spec_l7Findings.mono_l k
  refine ⟨?_, ?_⟩
  ·intro y0 y1 y2 y3 y4
   unfold spec_l7Findings.l0
   repeat' first
   | (with_reducible exact ih0 _ _ _ _ _)
   | (with_reducible exact ih1 _ _ _ _ _ _)
   | (with_reducible exact spec_l7At.mono _ _ _ _ _ _)
   | (with_reducible exact LeO.refl _)
   | (with_reducible exact LeO.none _)
   | (with_reducible refine LeO.ite ?_ ?_)
   | (with_reducible refine LeO.bind ?_ (fun _ => ?_))
   | exact ih0 _ _ _ _ _
   | exact ih1 _ _ _ _ _ _
   | exact spec_l7At.mono _ _ _ _ _ _
   | exact LeO.none _
   | refine LeO.ite ?_ ?_
   | refine LeO.bind ?_ (fun _ => ?_)
  ·intro y0 y1 y2 y3 y4 y5
   unfold spec_l7Findings.l1
   repeat' first
   | (with_reducible exact ih0 _ _ _ _ _)
   | (with_reducible exact ih1 _ _ _ _ _ _)
   | (with_reducible exact spec_l7At.mono _ _ _ _ _ _)
   | (with_reducible exact LeO.refl _)
   | (with_reducible exact LeO.none _)
   | (with_reducible refine LeO.ite ?_ ?_)
   | (with_reducible refine LeO.bind ?_ (fun _ => ?_))
   | exact ih0 _ _ _ _ _
   | exact ih1 _ _ _ _ _ _
   | exact spec_l7At.mono _ _ _ _ _ _
   | exact LeO.none _
   | refine LeO.ite ?_ ?_
   | refine LeO.bind ?_ (fun _ => ?_)
theorem spec_l7Findings.mono : ∀ a0 a1 a2 k, LeO (spec_l7Findings.f k a0 a1 a2) (spec_l7Findings.f (k + 1) a0 a1 a2) := by
 intro a0 a1 a2 k
 obtain ⟨ih0, ih1⟩ := spec_l7Findings.mono_l k
 unfold spec_l7Findings.f
 repeat' first
   | (with_reducible exact ih0 _ _ _ _ _)
   | (with_reducible exact ih1 _ _ _ _ _ _)
   | (with_reducible exact spec_l7At.mono _ _ _ _ _ _)
   | (with_reducible exact LeO.refl _)
   | (with_reducible exact LeO.none _)
   | (with_reducible refine LeO.ite ?_ ?_)
   | (with_reducible refine LeO.bind ?_ (fun _ => ?_))
   | exact ih0 _ _ _ _ _
   | exact ih1 _ _ _ _ _ _
   | exact spec_l7At.mono _ _ _ _ _ _
   | exact LeO.none _
   | refine LeO.ite ?_ ?_
   | refine LeO.bind ?_ (fun _ => ?_)
set_option maxHeartbeats 8000000 in
set_option maxRecDepth 100000 in
theorem spec_l7Findings.calls (k : Nat) (A0_0 : Option Addr) (c0_0 : Nat) (l0_0 : List (List Int)) (A1 : Option Addr) (c1 : Nat) (l1 : List (S61)) (a2 : Int) (r : List (S59)) (w : World) (hr0_0 : Kd.C (Kd.slice 3 (Kd.int .i64)) w A0_0 l0_0.length l0_0) (hc0_0 : l0_0.length ≤ c0_0) (hr1 : Kd.C k61 w A1 l1.length l1) (hc1 : l1.length ≤ c1) (h : spec_l7Findings.f k l0_0 l1 a2 = some r) :
  Calls Try.prog 35 #[.agg #[.slice A0_0 l0_0.length c0_0], .slice A1 l1.length c1, .int .i64 a2] w fun e w' => ∃ v0_ : Value, e = .returned (v0_) ∧ Kd.R k59 59 w' w.heap.size (fun _ => True) v0_ r ∧ Below w.heap.size w w' := by
 have hu31 := Try.underlying31
 have HR0_0 := Aside0.mk hr0_0
 have HC0_0 := Aside0.mk hc0_0
 clear hr0_0 hc0_0
 have HR1 := Aside0.mk hr1
 have HC1 := Aside0.mk hc1
 clear hr1 hc1
 have HB := Aside0.mk (Below.refl w.heap.size w)
 have H : (spec_l7Findings.l0 k l1 a2 (([] : List (S59))) 0 l0_0) = some r := h
 clear h
 obtain ⟨y225, hy225⟩ : ∃ y_ : List (S59), y_ = (([] : List (S59))) := ⟨_, rfl⟩
 replace H : (spec_l7Findings.l0 k l1 a2 y225 0 l0_0) = some r := by first | (rw [hy225]; with_reducible exact H) | (have H2_ := (Option.bind_some _ _).symm.trans H; rw [hy225]; with_reducible exact H2_) | (have H2_ := (Option.bind_some _ _).symm.trans H; with_reducible exact H2_) | with_reducible exact H | (rw [hy225]; exact H) | exact H
 have Ny225 := Aside0.mk hy225
 clear hy225
 have H' := Aside0.mk H
 clear H
 go_enter Try.func35, Try.ntmps35
 go_wp2_with (first | ((with_reducible refine gate_dst (N := 3) rfl ?_); refine box_event ?hg (N := 3) ?hd (cs := #[.slice A0_0 l0_0.length c0_0]) (t := 31) ?hr ?_; (case hd => rfl); (case hg => rfl); (case hr => first | (go_simp; done) | (go_simp; rfl)); intro gb224 hg w4 hbox hb; have n0_ := Aside0.mk (below_step (bel HB) hb); have n1_ := Aside0.mk (hbox); have n2_ := Aside0.mk ((by rw [hg]; exact (below_size (bel HB)) : w.heap.size ≤ gb224)); have n3_ := Aside0.mk ((by rw [hg]; exact (below_size (bel HB)) : w.heap.size ≤ gb224)); clear HB; have HB := n0_; have BK224 := n1_; have GW224 := n2_; have GE224 := n3_; clear n0_ n1_ n2_ n3_; clear hb hbox hg) | ((with_reducible refine gate_dst (N := 10) rfl ?_); refine Kd.R_lit k59 _ 59 ?hg (N := 10) ?hd (xs := ([] : List (S59))) (inner := []) (ok := fun _ => True) (okp := fun _ => True) ?hr ?hp (fun _ hk => hk) trivial (Below.refl _ _) (Nat.le_refl _) (by simp) ?_; (case hd => rfl); (case hg => rfl); (case hr => first | (go_simp; done) | (go_simp; rfl)); (case hp => exact (Reps.none _ _)); intro v226 w5 ho6 hb hg_ hnew_; clear hg_ hnew_; (first | rw [← Ny225.out] at ho6 | (simp only [Int.reduceToNat] at ho6; rw [← Ny225.out] at ho6)); have n0_ := Aside0.mk (Kd.R_lower ho6 (below_size (bel1 HB GE224))); have n1_ := Aside0.mk (blk_below (g := gb224) (o := .cells #[.slice A0_0 l0_0.length c0_0] 31 (0, 0)) (bkl BK224) hb); have n2_ := Aside0.mk (below_step (bel1 HB GE224) hb); clear BK224; clear HB; have HO227 := n0_; have BK224 := n1_; have HB := n2_; clear n0_ n1_ n2_; clear hb ho6))
 go_loopg [7, 8] k (fun kq v7 v8 w' => ∃ (x7_1 : List (S59)) (x8_1 : Int), v8 = .int .i64 x8_1 ∧ Aside0 (spec_l7Findings.l0 kq l1 a2 x7_1 x8_1 l0_0 = some r) ∧ Aside0 (kq ≤ k) ∧ Aside0 (Kd.R k59 59 w' w.heap.size (fun _ => True) v7 x7_1) ∧ Aside0 (w'.heap[gb224]? = some (.cells #[(.slice A0_0 l0_0.length c0_0)] 31 (0, 0))) ∧ Aside0 (Below w.heap.size w w'))
 case atStart => exact ⟨(y225), (0), (by first | rfl | (simp; done) | (simp [*]; done)), H', ⟨Nat.le_refl _⟩, ⟨rdl HO227⟩, ⟨bkl BK224⟩, ⟨bel1 HB GE224⟩⟩
 case round =>
  clear H'
  try clear c1
  try clear p2
  try clear c3
  obtain ⟨x7_1, x8_1, rfl, HA, HK1, HO_7, BK224, HB⟩ := hrel
  cases gk with
  | zero => exact absurd HA.out (by simp [spec_l7Findings.l0])
  | succ k1 =>
   have H := HA.out
   clear HA
   simp only [spec_l7Findings.l0] at H
   by_cases c7 : x8_1 < (l0_0.length : Int)
   ·rw [if_pos c7] at H
    have c7b0 : decide (x8_1 < (l0_0.length : Int)) = true := decide_eq_true c7
    clear c7
    have H' := Aside0.mk H
    clear H
    have hcz8_0 : wr.cell? ⟨gb224, 0, none⟩ = some (.slice A0_0 l0_0.length c0_0) := (blk_cell BK224.out 0).trans rfl
    have hfz8_0 := blk_frozen BK224.out 0
    go_wp2
    go_loopg [7, 9] k1 (fun kq v7 v9 w' => ∃ (x7_2 : List (S59)) (x9_2 : Int), v9 = .int .i64 x9_2 ∧ Aside0 (spec_l7Findings.l1 kq l1 a2 x7_2 x8_1 x9_2 l0_0 = some r) ∧ Aside0 (kq ≤ k1) ∧ Aside0 (Kd.R k59 59 w' w.heap.size (fun _ => True) v7 x7_2) ∧ Aside0 (w'.heap[gb224]? = some (.cells #[(.slice A0_0 l0_0.length c0_0)] 31 (0, 0))) ∧ Aside0 (Below w.heap.size w w'))
    case atStart => exact ⟨(x7_1), (0), (by first | rfl | (simp; done) | (simp [*]; done)), H', ⟨Nat.le_refl _⟩, ⟨rdl HO_7⟩, ⟨bkl BK224⟩, ⟨bel1 HB GE224⟩⟩
    case round =>
     clear H'
     try clear c1
     try clear p2
     try clear c3
     try clear c7
     try clear c7b0
     try clear hcz8_0
     try clear hfz8_0
     try clear p2
     obtain ⟨x7_2, x9_2, rfl, HA, HK2, HO_7, BK224, HB⟩ := hrel
     cases gk with
     | zero => exact absurd HA.out (by simp [spec_l7Findings.l1])
     | succ k2 =>
      have H := HA.out
      clear HA
      simp only [spec_l7Findings.l1] at H
      by_cases c9 : 0 ≤ x8_1
      ·rw [if_pos c9] at H
       have c9b0 : decide (0 ≤ x8_1) = true := decide_eq_true c9
       clear c9
       by_cases c10 : x8_1 < (l0_0.length : Int)
       ·rw [if_pos c10] at H
        have c10b0 : decide (x8_1 < (l0_0.length : Int)) = true := decide_eq_true c10
        clear c10
        by_cases c11 : x9_2 < ((rd_L1 l0_0 x8_1).length : Int)
        ·rw [if_pos c11] at H
         have c11b0 : decide (x9_2 < ((rd_L1 l0_0 x8_1).length : Int)) = true := decide_eq_true c11
         clear c11
         replace H := Option.bind_eq_some_iff.mp H
         obtain ⟨t229, A120, H⟩ := H
         replace H : (if x7_2.length + t229.length < 5864062014805 then (spec_l7Findings.l1 k2 l1 a2 (x7_2 ++ t229) x8_1 (wrap64 (x9_2 + 1)) l0_0) else (none)) = some r := H
         have A12 := Aside0.mk A120
         clear A120
         by_cases c13 : x7_2.length + t229.length < 5864062014805
         ·rw [if_pos c13] at H
          have LMc13 := Aside0.mk c13
          clear c13
          obtain ⟨y232, hy232⟩ : ∃ y_ : List (S59), y_ = (x7_2 ++ t229) := ⟨_, rfl⟩
          replace H : (spec_l7Findings.l1 k2 l1 a2 y232 x8_1 (wrap64 (x9_2 + 1)) l0_0) = some r := by first | (rw [hy232]; with_reducible exact H) | (have H2_ := (Option.bind_some _ _).symm.trans H; rw [hy232]; with_reducible exact H2_) | (have H2_ := (Option.bind_some _ _).symm.trans H; with_reducible exact H2_) | with_reducible exact H | (rw [hy232]; exact H) | exact H
          have Ny232 := Aside0.mk hy232
          clear hy232
          have H' := Aside0.mk H
          clear H
          have hcz14_0 : wr.cell? ⟨gb224, 0, none⟩ = some (.slice A0_0 l0_0.length c0_0) := (blk_cell BK224.out 0).trans rfl
          have hfz14_0 := blk_frozen BK224.out 0
          have p228 : 0 ≤ (x8_1 : Int) := oda
          have q228 : x8_1 < (l0_0.length : Int) := oda
          obtain ⟨ad228, A228_0, c228_0, e228, hx228_0, hl228_0, hi228_0⟩ := at_L1 HR0_0.out x8_1 p228 q228
          cases e228
          replace hx228_0 := cel HB hx228_0
          have HR228_0 := Aside0.mk hi228_0
          have HC228_0 := Aside0.mk hl228_0
          clear hi228_0 hl228_0
          replace p228 := eq_true p228
          replace q228 := eq_true q228
          go_wp2_with (first | ((with_reducible refine gate_callee (f := 46) rfl ?_); refine goesL_ (some 34) rfl rfl Try.func46 (by kernel_rfl) rfl #[.agg #[.slice (some ad228) l0_0.length c0_0], .slice A1 l1.length c1, .int .i64 a2, .int .i64 x8_1, .int .i64 x9_2] rfl gmp ?_; (with_reducible refine (spec_l7At.calls k2 _ _ l0_0 _ _ l1 a2 x8_1 x9_2 t229 _ ?side1 ?side2 ?side3 ?side4 A12.out).mono ?_); (case side1 => exact cdl (Kd.C_below HR0_0.out HB.out)); (case side2 => exact HC0_0.out); (case side3 => exact cdl (Kd.C_below HR1.out HB.out)); (case side4 => exact HC1.out); rintro e w15 ⟨v230, rfl, ho0, hb⟩; refine ⟨_, rfl, ?_⟩; have n0_ := Aside0.mk (Kd.R_elder' (rdl HO_7) (Kd.R_base ho0) hb); have n1_ := Aside0.mk (Kd.R_lower (Kd.R_new' ho0 (Kd.R_lt (rdl HO_7))) (below_size (bel1 HB GE224))); have n2_ := Aside0.mk (blk_below (g := gb224) (o := .cells #[.slice (some ad228) l0_0.length c0_0] 31 (0, 0)) (bkl BK224) hb); have n3_ := Aside0.mk (below_step (bel1 HB GE224) hb); clear HO_7; clear BK224; clear HB; have HO_7 := n0_; have HO231 := n1_; have BK224 := n2_; have HB := n3_; clear n0_ n1_ n2_ n3_; (try clear hb); (try clear hb2); (try clear hk); (try clear hi); (try clear ho0); obtain ⟨Ao17, co17, eo17⟩ := Kd.R_slice HO231.out; subst eo17) | ((with_reducible refine gate_builtin (b := .append) (xs := #[.tmp 28, .tmp 34]) rfl ?_); at_builtin; refine Kd.R_append_rows k59 (w0 := w) w.heap.size rfl (.tmp 28) (.tmp 34) 42 59 (.agg #[(.int .i64 0), (.int .i64 0), (.int .i64 0)]) 24 rfl Try.underlying42 info59 rfl (by decide) (by omega) u7 x7_2 t229 _ _ _ (fun k_ => some k_ ≠ (.slice Ao17 t229.length co17 : Value).ownBlock) (fun _ => False) rfl rfl ?aO ?aR (fun _ _ h => h) (fun _ h => h.elim) ?aF ?aB ?aS ?aL ?_; (case aR => repeat (first | exact (Kd.R_reads' HO231.out).2.2 | (with_reducible refine Kd.C_alloc ?_ _) | (with_reducible refine Kd.C_drewN ?_ _) | (with_reducible refine Kd.C_drew ?_))); (case aB => exact (bel1 HB GE224)); (case aF => exact (fun k_ hk => Kd.fresh' (Kd.R_lt (rdl HO231)) k_ hk)); (case aO => exact (by (with_reducible repeat (first | apply Kd.R_alloc | apply Kd.R_drewN | apply Kd.R_drew)); exact Kd.R_mono HO_7.out (fun _ hk => hk.2))); (case aS => exact (below_size (bel1 HB GE224))); (case aL => have := LMc13.out; omega); intro v233 w16 ho hb hg hat; rw [← Ny232.out] at ho; have n0_ := Aside0.mk (blk_grown (g := gb224) (o := .cells #[.slice (some ad228) l0_0.length c0_0] 31 (0, 0)) (bkl BK224) hg (Kd.R_ne HO_7.out BK224.out (by decide))); have n1_ := Aside0.mk (Kd.R_after (ok := (fun _ => True)) (rdl HO231) hg hat); have n2_ := Aside0.mk (hb); have n3_ := Aside0.mk (ho); clear BK224; clear HO231; clear HB; clear HO_7; have BK224 := n0_; have HO231 := n1_; have HB := n2_; have HO234 := n3_; clear n0_ n1_ n2_ n3_; clear ho hb hg hat))
          go_roundg k2
          case measure => have := HK1.out; have := HK2.out; omega
          case rel => exact ⟨(y232), (wrap64 (x9_2 + 1)), (by first | rfl | (simp; done) | (simp [*]; done)), H', ⟨by have := HK1.out; have := HK2.out; omega⟩, ⟨by (with_reducible repeat (first | apply Kd.R_alloc | apply Kd.R_drewN | apply Kd.R_drew)); exact Kd.R_mono HO234.out (fun _ hk => trivial)⟩, ⟨bkl BK224⟩, ⟨bel1 HB GE224⟩⟩
         ·rw [if_neg c13] at H
          exact absurd H (by simp)
        ·rw [if_neg c11] at H
         have c11b0 : decide (x9_2 < ((rd_L1 l0_0 x8_1).length : Int)) = false := decide_eq_false c11
         clear c11
         have H' := Aside0.mk H
         clear H
         have hcz18_0 : wr.cell? ⟨gb224, 0, none⟩ = some (.slice A0_0 l0_0.length c0_0) := (blk_cell BK224.out 0).trans rfl
         have hfz18_0 := blk_frozen BK224.out 0
         have p228 : 0 ≤ (x8_1 : Int) := oda
         have q228 : x8_1 < (l0_0.length : Int) := oda
         obtain ⟨ad228, A228_0, c228_0, e228, hx228_0, hl228_0, hi228_0⟩ := at_L1 HR0_0.out x8_1 p228 q228
         cases e228
         replace hx228_0 := cel HB hx228_0
         have HR228_0 := Aside0.mk hi228_0
         have HC228_0 := Aside0.mk hl228_0
         clear hi228_0 hl228_0
         replace p228 := eq_true p228
         replace q228 := eq_true q228
         go_wp2
         go_roundg k2
         case measure => have := HK1.out; have := HK2.out; omega
         case rel => exact ⟨(x7_2), (wrap64 (x8_1 + 1)), (by first | rfl | (simp; done) | (simp [*]; done)), H', ⟨by have := HK1.out; have := HK2.out; omega⟩, ⟨rdl HO_7⟩, ⟨bkl BK224⟩, ⟨bel1 HB GE224⟩⟩
       ·rw [if_neg c10] at H
        exact absurd H (by simp)
      ·rw [if_neg c9] at H
       exact absurd H (by simp)
   ·rw [if_neg c7] at H
    have c7b0 : decide (x8_1 < (l0_0.length : Int)) = false := decide_eq_false c7
    clear c7
    obtain rfl := Option.some.inj H
    have hcz19_0 : wr.cell? ⟨gb224, 0, none⟩ = some (.slice A0_0 l0_0.length c0_0) := (blk_cell BK224.out 0).trans rfl
    have hfz19_0 := blk_frozen BK224.out 0
    go_wp2
    go_ret
    exact ⟨_, by first | rfl | (simp [errW_none, errW_some] <;> rfl) | (simp [*, errW_none, errW_some] <;> rfl), rdl HO_7, bel1 HB GE224⟩

/-! ### spec_YardFindings: function 20 -/
def spec_YardFindings.f (k : Nat) (l0_0 : List (List Int)) (l1 : List (S61)) (a2 : Int) : Option ((List (S59)) × Bool) := (spec_l7Asked.f k l0_0 l1 a2).bind fun t236 => (if t236 = true then ((spec_l7Findings.f k l0_0 l1 a2).bind fun t237 => (some (t237, true))) else (some ((([] : List (S59))), false)))
theorem spec_YardFindings.mono : ∀ a0 a1 a2 k, LeO (spec_YardFindings.f k a0 a1 a2) (spec_YardFindings.f (k + 1) a0 a1 a2) := by
 intro a0 a1 a2 k
 unfold spec_YardFindings.f
 repeat' first
   | (with_reducible exact spec_l7Asked.mono _ _ _ _)
   | (with_reducible exact spec_l7Findings.mono _ _ _ _)
   | (with_reducible exact LeO.refl _)
   | (with_reducible exact LeO.none _)
   | (with_reducible refine LeO.ite ?_ ?_)
   | (with_reducible refine LeO.bind ?_ (fun _ => ?_))
   | exact spec_l7Asked.mono _ _ _ _
   | exact spec_l7Findings.mono _ _ _ _
   | exact LeO.none _
   | refine LeO.ite ?_ ?_
   | refine LeO.bind ?_ (fun _ => ?_)
set_option maxHeartbeats 8000000 in
set_option maxRecDepth 100000 in
theorem spec_YardFindings.calls (k : Nat) (A0_0 : Option Addr) (c0_0 : Nat) (l0_0 : List (List Int)) (A1 : Option Addr) (c1 : Nat) (l1 : List (S61)) (a2 : Int) (r1 : List (S59)) (r2 : Bool) (w : World) (hr0_0 : Kd.C (Kd.slice 3 (Kd.int .i64)) w A0_0 l0_0.length l0_0) (hc0_0 : l0_0.length ≤ c0_0) (hr1 : Kd.C k61 w A1 l1.length l1) (hc1 : l1.length ≤ c1) (h : spec_YardFindings.f k l0_0 l1 a2 = some (r1, r2)) :
  Calls Try.prog 20 #[.agg #[.slice A0_0 l0_0.length c0_0], .slice A1 l1.length c1, .int .i64 a2] w fun e w' => ∃ v0_ : Value, e = .returned (.tuple #[v0_, .bool r2]) ∧ Kd.R k59 59 w' w.heap.size (fun _ => True) v0_ r1 ∧ Below w.heap.size w w' := by
 have hu31 := Try.underlying31
 have HR0_0 := Aside0.mk hr0_0
 have HC0_0 := Aside0.mk hc0_0
 clear hr0_0 hc0_0
 have HR1 := Aside0.mk hr1
 have HC1 := Aside0.mk hc1
 clear hr1 hc1
 have HB := Aside0.mk (Below.refl w.heap.size w)
 have H : ((spec_l7Asked.f k l0_0 l1 a2).bind fun t236 => (if t236 = true then ((spec_l7Findings.f k l0_0 l1 a2).bind fun t237 => (some (t237, true))) else (some ((([] : List (S59))), false)))) = some (r1, r2) := h
 clear h
 replace H := Option.bind_eq_some_iff.mp H
 obtain ⟨t236, A40, H⟩ := H
 replace H : (if t236 = true then ((spec_l7Findings.f k l0_0 l1 a2).bind fun t237 => (some (t237, true))) else (some ((([] : List (S59))), false))) = some (r1, r2) := H
 have A4 := Aside0.mk A40
 clear A40
 by_cases c5 : t236 = true
 ·subst c5
  have H1 : ((spec_l7Findings.f k l0_0 l1 a2).bind fun t237 => (some (t237, true))) = some (r1, r2) := by rw [if_pos rfl] at H; exact H
  clear H
  have H := H1
  clear H1
  replace H := Option.bind_eq_some_iff.mp H
  obtain ⟨t237, A60, H⟩ := H
  replace H : (some (t237, true)) = some (r1, r2) := H
  have A6 := Aside0.mk A60
  clear A60
  simp only [Option.some.injEq, Prod.mk.injEq] at H
  obtain ⟨rfl, rfl⟩ := H
  go_enter Try.func20, Try.ntmps20
  go_wp2_with (first | ((with_reducible refine gate_dst (N := 3) rfl ?_); refine box_event ?hg (N := 3) ?hd (cs := #[.slice A0_0 l0_0.length c0_0]) (t := 31) ?hr ?_; (case hd => rfl); (case hg => rfl); (case hr => first | (go_simp; done) | (go_simp; rfl)); intro gb235 hg w7 hbox hb; have n0_ := Aside0.mk (below_step (bel HB) hb); have n1_ := Aside0.mk (hbox); have n2_ := Aside0.mk ((by rw [hg]; exact (below_size (bel HB)) : w.heap.size ≤ gb235)); have n3_ := Aside0.mk ((by rw [hg]; exact (below_size (bel HB)) : w.heap.size ≤ gb235)); clear HB; have HB := n0_; have BK235 := n1_; have GW235 := n2_; have GE235 := n3_; clear n0_ n1_ n2_ n3_; clear hb hbox hg; have hcz8_0 : w7.cell? ⟨gb235, 0, none⟩ = some (.slice A0_0 l0_0.length c0_0) := (blk_cell BK235.out 0).trans rfl; have hfz8_0 := blk_frozen BK235.out 0) | ((with_reducible refine gate_callee (f := 34) rfl ?_); refine goesL_ (some 11) rfl rfl Try.func34 (by kernel_rfl) rfl #[.agg #[.slice A0_0 l0_0.length c0_0], .slice A1 l1.length c1, .int .i64 a2] rfl gmp ?_; (with_reducible refine (spec_l7Asked.calls k _ _ l0_0 _ _ l1 a2 true _ ?side1 ?side2 ?side3 ?side4 A4.out).mono ?_); (case side1 => exact cdl (Kd.C_below HR0_0.out HB.out)); (case side2 => exact HC0_0.out); (case side3 => exact cdl (Kd.C_below HR1.out HB.out)); (case side4 => exact HC1.out); rintro e w9 ⟨rfl, hb⟩; refine ⟨_, rfl, ?_⟩; have n0_ := Aside0.mk (blk_below (g := gb235) (o := .cells #[.slice A0_0 l0_0.length c0_0] 31 (0, 0)) (bkl BK235) hb); have n1_ := Aside0.mk (below_step (bel1 HB GE235) hb); clear BK235; clear HB; have BK235 := n0_; have HB := n1_; clear n0_ n1_; (try clear hb); (try clear hb2); (try clear hk); (try clear hi); have hcz10_0 : w9.cell? ⟨gb235, 0, none⟩ = some (.slice A0_0 l0_0.length c0_0) := (blk_cell BK235.out 0).trans rfl; have hfz10_0 := blk_frozen BK235.out 0) | ((with_reducible refine gate_callee (f := 35) rfl ?_); refine goesL_ (some 17) rfl rfl Try.func35 (by kernel_rfl) rfl #[.agg #[.slice A0_0 l0_0.length c0_0], .slice A1 l1.length c1, .int .i64 a2] rfl gmp ?_; (with_reducible refine (spec_l7Findings.calls k _ _ l0_0 _ _ l1 a2 t237 _ ?side1 ?side2 ?side3 ?side4 A6.out).mono ?_); (case side1 => exact cdl (Kd.C_below HR0_0.out HB.out)); (case side2 => exact HC0_0.out); (case side3 => exact cdl (Kd.C_below HR1.out HB.out)); (case side4 => exact HC1.out); rintro e w11 ⟨v238, rfl, ho0, hb⟩; refine ⟨_, rfl, ?_⟩; have n0_ := Aside0.mk (Kd.R_lower ho0 (below_size (bel1 HB GE235))); have n1_ := Aside0.mk (blk_below (g := gb235) (o := .cells #[.slice A0_0 l0_0.length c0_0] 31 (0, 0)) (bkl BK235) hb); have n2_ := Aside0.mk (below_step (bel1 HB GE235) hb); clear BK235; clear HB; have HO239 := n0_; have BK235 := n1_; have HB := n2_; clear n0_ n1_ n2_; (try clear hb); (try clear hb2); (try clear hk); (try clear hi); (try clear ho0)))
  go_ret2
  exact ⟨_, by first | rfl | (simp [errW_none, errW_some] <;> rfl) | (simp [*, errW_none, errW_some] <;> rfl), rdl HO239, bel1 HB GE235⟩
 ·replace c5 := Bool.eq_false_iff.mpr c5
  subst c5
  have H1 : (some ((([] : List (S59))), false)) = some (r1, r2) := by rw [if_neg (show ¬ (false = true) by decide)] at H; exact H
  clear H
  have H := H1
  clear H1
  obtain ⟨y240, hy240⟩ : ∃ y_ : List (S59), y_ = (([] : List (S59))) := ⟨_, rfl⟩
  replace H : (some (y240, false)) = some (r1, r2) := by first | (rw [hy240]; with_reducible exact H) | (have H2_ := (Option.bind_some _ _).symm.trans H; rw [hy240]; with_reducible exact H2_) | (have H2_ := (Option.bind_some _ _).symm.trans H; with_reducible exact H2_) | with_reducible exact H | (rw [hy240]; exact H) | exact H
  have Ny240 := Aside0.mk hy240
  clear hy240
  simp only [Option.some.injEq, Prod.mk.injEq] at H
  obtain ⟨rfl, rfl⟩ := H
  go_enter Try.func20, Try.ntmps20
  go_wp2_with (first | ((with_reducible refine gate_dst (N := 3) rfl ?_); refine box_event ?hg (N := 3) ?hd (cs := #[.slice A0_0 l0_0.length c0_0]) (t := 31) ?hr ?_; (case hd => rfl); (case hg => rfl); (case hr => first | (go_simp; done) | (go_simp; rfl)); intro gb235 hg w12 hbox hb; have n0_ := Aside0.mk (below_step (bel HB) hb); have n1_ := Aside0.mk (hbox); have n2_ := Aside0.mk ((by rw [hg]; exact (below_size (bel HB)) : w.heap.size ≤ gb235)); have n3_ := Aside0.mk ((by rw [hg]; exact (below_size (bel HB)) : w.heap.size ≤ gb235)); clear HB; have HB := n0_; have BK235 := n1_; have GW235 := n2_; have GE235 := n3_; clear n0_ n1_ n2_ n3_; clear hb hbox hg; have hcz13_0 : w12.cell? ⟨gb235, 0, none⟩ = some (.slice A0_0 l0_0.length c0_0) := (blk_cell BK235.out 0).trans rfl; have hfz13_0 := blk_frozen BK235.out 0) | ((with_reducible refine gate_callee (f := 34) rfl ?_); refine goesL_ (some 11) rfl rfl Try.func34 (by kernel_rfl) rfl #[.agg #[.slice A0_0 l0_0.length c0_0], .slice A1 l1.length c1, .int .i64 a2] rfl gmp ?_; (with_reducible refine (spec_l7Asked.calls k _ _ l0_0 _ _ l1 a2 false _ ?side1 ?side2 ?side3 ?side4 A4.out).mono ?_); (case side1 => exact cdl (Kd.C_below HR0_0.out HB.out)); (case side2 => exact HC0_0.out); (case side3 => exact cdl (Kd.C_below HR1.out HB.out)); (case side4 => exact HC1.out); rintro e w14 ⟨rfl, hb⟩; refine ⟨_, rfl, ?_⟩; have n0_ := Aside0.mk (blk_below (g := gb235) (o := .cells #[.slice A0_0 l0_0.length c0_0] 31 (0, 0)) (bkl BK235) hb); have n1_ := Aside0.mk (below_step (bel1 HB GE235) hb); clear BK235; clear HB; have BK235 := n0_; have HB := n1_; clear n0_ n1_; (try clear hb); (try clear hb2); (try clear hk); (try clear hi)) | ((with_reducible refine gate_dst (N := 13) rfl ?_); refine Kd.R_lit k59 _ 59 ?hg (N := 13) ?hd (xs := ([] : List (S59))) (inner := []) (ok := fun _ => True) (okp := fun _ => True) ?hr ?hp (fun _ hk => hk) trivial (Below.refl _ _) (Nat.le_refl _) (by simp) ?_; (case hd => rfl); (case hg => rfl); (case hr => first | (go_simp; done) | (go_simp; rfl)); (case hp => exact (Reps.none _ _)); intro v241 w15 ho16 hb hg_ hnew_; clear hg_ hnew_; (first | rw [← Ny240.out] at ho16 | (simp only [Int.reduceToNat] at ho16; rw [← Ny240.out] at ho16)); have n0_ := Aside0.mk (Kd.R_lower ho16 (below_size (bel1 HB GE235))); have n1_ := Aside0.mk (blk_below (g := gb235) (o := .cells #[.slice A0_0 l0_0.length c0_0] 31 (0, 0)) (bkl BK235) hb); have n2_ := Aside0.mk (below_step (bel1 HB GE235) hb); clear BK235; clear HB; have HO242 := n0_; have BK235 := n1_; have HB := n2_; clear n0_ n1_ n2_; clear hb ho16))
  go_ret2
  exact ⟨_, by first | rfl | (simp [errW_none, errW_some] <;> rfl) | (simp [*, errW_none, errW_some] <;> rfl), rdl HO242, bel1 HB GE235⟩

/-! ### impl_within: function 48 -/
def impl_within.f (a0 : Int) (a1 : Int) (a2 : Int) : Option (Bool) := if a0 ≥ a1 then (some (decide (a0 ≤ a2))) else (some false)
set_option maxHeartbeats 8000000 in
set_option maxRecDepth 100000 in
theorem impl_within.calls (a0 : Int) (a1 : Int) (a2 : Int) (r : Bool) (w : World) (h : impl_within.f a0 a1 a2 = some r) :
  Calls Try.prog 48 #[.int .i64 a0, .int .i64 a1, .int .i64 a2] w fun e w' => e = .returned (.bool r) ∧ Drawn0 w w' := by
 have H : (if a0 ≥ a1 then (some (decide (a0 ≤ a2))) else (some false)) = some r := h
 clear h
 by_cases c4 : a0 ≥ a1
 ·rw [if_pos c4] at H
  have c4b0 : decide (a1 ≤ a0) = true := decide_eq_true c4
  clear c4
  obtain rfl := Option.some.inj H
  go_enter Try.func48, Try.ntmps48
  go_wp2
  go_ret
  exact ⟨by first | rfl | (simp; done) | (simp [*]; done), by repeat (first | exact Drawn0.refl _ | apply Drawn0.step)⟩
 ·rw [if_neg c4] at H
  have c4b0 : decide (a1 ≤ a0) = false := decide_eq_false c4
  clear c4
  obtain rfl := Option.some.inj H
  go_enter Try.func48, Try.ntmps48
  go_wp2
  go_ret
  exact ⟨by first | rfl | (simp; done) | (simp [*]; done), by repeat (first | exact Drawn0.refl _ | apply Drawn0.step)⟩

end Go.Proofs.Ytgeakpogmjbjkaa.P
