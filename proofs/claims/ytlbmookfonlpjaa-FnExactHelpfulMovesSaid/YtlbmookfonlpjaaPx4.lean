-- Written by a program of this session over the translation (a variant of the printer, see wip/gen); Lean checks it.
import Derived.Test.YtlbmookfonlpjaaPx0
namespace Go.Proofs.Ytlbmookfonlpjaa.P
open Go.RowKit Go.Proofs.YtlbmookfonlpjaaW.PrintWords Go.Proofs.YtlbmookfonlpjaaW.PrintLast Go.Proofs.YtlbmookfonlpjaaW.PrintMore
attribute [local go_sem] Go.Proofs.Ytlbmookfonlpjaa.V.isSome_setCell max2_int min2_int max_two min_two max_three min_three max_four min_four   -- for this text's walks alone
set_option linter.unusedVariables false
set_option linter.unusedSimpArgs false

/-! ### spec_l7At: function 36 -/
def spec_l7At.l0 : Nat → List (S50) → Int → Int → Int → List (S66) → Int → List (List Int) → ByteArray → Int → Int → Int → Int → Option ((List (S66)))
 | 0, _, _, _, _, _, _, _, _, _, _, _, _ => none
 | k + 1, x1, x2, x3, x4, x11, x13, x144000, x151000, x151001, x151002, x151003, x151004 => if x13 ≤ 4 then (if x13 = 1 then (if x4 > 0 then (if 0 ≤ x3 then (if x3 < (x144000.length : Int) then (if 0 ≤ (wrap64 (x4 - 1)) then (if (wrap64 (x4 - 1)) < ((rd_L1 x144000 x3).length : Int) then (if 0 ≤ (wrap64 ((rd (rd_L1 x144000 x3) (wrap64 (x4 - 1))) - 1)) then (if (wrap64 ((rd (rd_L1 x144000 x3) (wrap64 (x4 - 1))) - 1)) < (x1.length : Int) then (if x151002 > ((rd_T50 x1 (wrap64 ((rd (rd_L1 x144000 x3) (wrap64 (x4 - 1))) - 1))).f2) then (if x11.length < 5864062014805 then (spec_l7At.l0 k x1 x2 x3 x4 (x11 ++ [(⟨x13, x3, x4⟩ : S66)]) (wrap64 (x13 + 1)) x144000 x151000 x151001 x151002 x151003 x151004) else (none)) else (spec_l7At.l0 k x1 x2 x3 x4 x11 (wrap64 (x13 + 1)) x144000 x151000 x151001 x151002 x151003 x151004)) else (none)) else (none)) else (none)) else (none)) else (none)) else (none)) else (spec_l7At.l0 k x1 x2 x3 x4 x11 (wrap64 (x13 + 1)) x144000 x151000 x151001 x151002 x151003 x151004)) else (if x13 = 2 then (if x4 > 0 then (if 0 ≤ x3 then (if x3 < (x144000.length : Int) then (if 0 ≤ (wrap64 (x4 - 1)) then (if (wrap64 (x4 - 1)) < ((rd_L1 x144000 x3).length : Int) then (if 0 ≤ (wrap64 ((rd (rd_L1 x144000 x3) (wrap64 (x4 - 1))) - 1)) then (if (wrap64 ((rd (rd_L1 x144000 x3) (wrap64 (x4 - 1))) - 1)) < (x1.length : Int) then (if x151001 = ((rd_T50 x1 (wrap64 ((rd (rd_L1 x144000 x3) (wrap64 (x4 - 1))) - 1))).f1) then (spec_l7At.l0 k x1 x2 x3 x4 x11 (wrap64 (x13 + 1)) x144000 x151000 x151001 x151002 x151003 x151004) else (if x11.length < 5864062014805 then (spec_l7At.l0 k x1 x2 x3 x4 (x11 ++ [(⟨x13, x3, x4⟩ : S66)]) (wrap64 (x13 + 1)) x144000 x151000 x151001 x151002 x151003 x151004) else (none))) else (none)) else (none)) else (none)) else (none)) else (none)) else (none)) else (spec_l7At.l0 k x1 x2 x3 x4 x11 (wrap64 (x13 + 1)) x144000 x151000 x151001 x151002 x151003 x151004)) else (if x13 = 3 then (if x4 > 0 then (if x151003 = 3 then (if x11.length < 5864062014805 then (spec_l7At.l0 k x1 x2 x3 x4 (x11 ++ [(⟨x13, x3, x4⟩ : S66)]) (wrap64 (x13 + 1)) x144000 x151000 x151001 x151002 x151003 x151004) else (none)) else (spec_l7At.l0 k x1 x2 x3 x4 x11 (wrap64 (x13 + 1)) x144000 x151000 x151001 x151002 x151003 x151004)) else (spec_l7At.l0 k x1 x2 x3 x4 x11 (wrap64 (x13 + 1)) x144000 x151000 x151001 x151002 x151003 x151004)) else (if x151003 = 2 then (if x3 ≥ x2 then (if x11.length < 5864062014805 then (spec_l7At.l0 k x1 x2 x3 x4 (x11 ++ [(⟨x13, x3, x4⟩ : S66)]) (wrap64 (x13 + 1)) x144000 x151000 x151001 x151002 x151003 x151004) else (none)) else (spec_l7At.l0 k x1 x2 x3 x4 x11 (wrap64 (x13 + 1)) x144000 x151000 x151001 x151002 x151003 x151004)) else (spec_l7At.l0 k x1 x2 x3 x4 x11 (wrap64 (x13 + 1)) x144000 x151000 x151001 x151002 x151003 x151004))))) else (some x11)
def spec_l7At.f (k : Nat) (l0_0 : List (List Int)) (l1 : List (S50)) (a2 : Int) (a3 : Int) (a4 : Int) : Option ((List (S66))) := if 0 ≤ a3 then (if a3 < (l0_0.length : Int) then (if 0 ≤ a4 then (if a4 < ((rd_L1 l0_0 a3).length : Int) then (if 0 ≤ (wrap64 ((rd (rd_L1 l0_0 a3) a4) - 1)) then (if (wrap64 ((rd (rd_L1 l0_0 a3) a4) - 1)) < (l1.length : Int) then (spec_l7At.l0 k l1 a2 a3 a4 (([] : List (S66))) 1 l0_0 ((rd_T50 l1 (wrap64 ((rd (rd_L1 l0_0 a3) a4) - 1))).f0) ((rd_T50 l1 (wrap64 ((rd (rd_L1 l0_0 a3) a4) - 1))).f1) ((rd_T50 l1 (wrap64 ((rd (rd_L1 l0_0 a3) a4) - 1))).f2) ((rd_T50 l1 (wrap64 ((rd (rd_L1 l0_0 a3) a4) - 1))).f3) ((rd_T50 l1 (wrap64 ((rd (rd_L1 l0_0 a3) a4) - 1))).f4)) else (none)) else (none)) else (none)) else (none)) else (none)) else (none)
theorem spec_l7At.mono_l : ∀ k, (∀ y0 y1 y2 y3 y4 y5 y6 y7 y8 y9 y10 y11, LeO (spec_l7At.l0 k y0 y1 y2 y3 y4 y5 y6 y7 y8 y9 y10 y11) (spec_l7At.l0 (k + 1) y0 y1 y2 y3 y4 y5 y6 y7 y8 y9 y10 y11))
 | 0 => fun _ _ _ _ _ _ _ _ _ _ _ _ r h => by simp [spec_l7At.l0] at h
 | k + 1 => by
  have ih0 := spec_l7At.mono_l k
  ·intro y0 y1 y2 y3 y4 y5 y6 y7 y8 y9 y10 y11
   unfold spec_l7At.l0
   repeat' first
   | (with_reducible exact ih0 _ _ _ _ _ _ _ _ _ _ _ _)
   | (with_reducible exact LeO.refl _)
   | (with_reducible exact LeO.none _)
   | (with_reducible refine LeO.ite ?_ ?_)
   | (with_reducible refine LeO.bind ?_ (fun _ => ?_))
   | exact ih0 _ _ _ _ _ _ _ _ _ _ _ _
   | exact LeO.none _
   | refine LeO.ite ?_ ?_
   | refine LeO.bind ?_ (fun _ => ?_)
theorem spec_l7At.mono : ∀ a0 a1 a2 a3 a4 k, LeO (spec_l7At.f k a0 a1 a2 a3 a4) (spec_l7At.f (k + 1) a0 a1 a2 a3 a4) := by
 intro a0 a1 a2 a3 a4 k
 have ih0 := spec_l7At.mono_l k
 unfold spec_l7At.f
 repeat' first
   | (with_reducible exact ih0 _ _ _ _ _ _ _ _ _ _ _ _)
   | (with_reducible exact LeO.refl _)
   | (with_reducible exact LeO.none _)
   | (with_reducible refine LeO.ite ?_ ?_)
   | (with_reducible refine LeO.bind ?_ (fun _ => ?_))
   | exact ih0 _ _ _ _ _ _ _ _ _ _ _ _
   | exact LeO.none _
   | refine LeO.ite ?_ ?_
   | refine LeO.bind ?_ (fun _ => ?_)
set_option maxHeartbeats 8000000 in
set_option maxRecDepth 100000 in
theorem spec_l7At.calls (k : Nat) (A0_0 : Option Addr) (c0_0 : Nat) (l0_0 : List (List Int)) (A1 : Option Addr) (c1 : Nat) (l1 : List (S50)) (a2 : Int) (a3 : Int) (a4 : Int) (r : List (S66)) (w : World) (hr0_0 : Kd.C (Kd.slice 3 (Kd.int .i64)) w A0_0 l0_0.length l0_0) (hc0_0 : l0_0.length ≤ c0_0) (hr1 : Kd.C k50 w A1 l1.length l1) (hc1 : l1.length ≤ c1) (h : spec_l7At.f k l0_0 l1 a2 a3 a4 = some r) :
  Calls Try.prog 36 #[.agg #[.slice A0_0 l0_0.length c0_0], .slice A1 l1.length c1, .int .i64 a2, .int .i64 a3, .int .i64 a4] w fun e w' => ∃ v0_ : Value, e = .returned (v0_) ∧ Kd.R k66 66 w' w.heap.size (fun _ => True) v0_ r ∧ Below w.heap.size w w' := by
 have hu30 := Try.underlying30
 have hu50 := Try.underlying50
 have hu66 := Try.underlying66
 have HR0_0 := Aside0.mk hr0_0
 have HC0_0 := Aside0.mk hc0_0
 clear hr0_0 hc0_0
 have HR1 := Aside0.mk hr1
 have HC1 := Aside0.mk hc1
 clear hr1 hc1
 have HB := Aside0.mk (Below.refl w.heap.size w)
 have H : (if 0 ≤ a3 then (if a3 < (l0_0.length : Int) then (if 0 ≤ a4 then (if a4 < ((rd_L1 l0_0 a3).length : Int) then (if 0 ≤ (wrap64 ((rd (rd_L1 l0_0 a3) a4) - 1)) then (if (wrap64 ((rd (rd_L1 l0_0 a3) a4) - 1)) < (l1.length : Int) then (spec_l7At.l0 k l1 a2 a3 a4 (([] : List (S66))) 1 l0_0 ((rd_T50 l1 (wrap64 ((rd (rd_L1 l0_0 a3) a4) - 1))).f0) ((rd_T50 l1 (wrap64 ((rd (rd_L1 l0_0 a3) a4) - 1))).f1) ((rd_T50 l1 (wrap64 ((rd (rd_L1 l0_0 a3) a4) - 1))).f2) ((rd_T50 l1 (wrap64 ((rd (rd_L1 l0_0 a3) a4) - 1))).f3) ((rd_T50 l1 (wrap64 ((rd (rd_L1 l0_0 a3) a4) - 1))).f4)) else (none)) else (none)) else (none)) else (none)) else (none)) else (none)) = some r := h
 clear h
 obtain ⟨y144, hy144⟩ : ∃ y_ : List (S66), y_ = (([] : List (S66))) := ⟨_, rfl⟩
 replace H : (if 0 ≤ a3 then (if a3 < (l0_0.length : Int) then (if 0 ≤ a4 then (if a4 < ((rd_L1 l0_0 a3).length : Int) then (if 0 ≤ (wrap64 ((rd (rd_L1 l0_0 a3) a4) - 1)) then (if (wrap64 ((rd (rd_L1 l0_0 a3) a4) - 1)) < (l1.length : Int) then (spec_l7At.l0 k l1 a2 a3 a4 y144 1 l0_0 ((rd_T50 l1 (wrap64 ((rd (rd_L1 l0_0 a3) a4) - 1))).f0) ((rd_T50 l1 (wrap64 ((rd (rd_L1 l0_0 a3) a4) - 1))).f1) ((rd_T50 l1 (wrap64 ((rd (rd_L1 l0_0 a3) a4) - 1))).f2) ((rd_T50 l1 (wrap64 ((rd (rd_L1 l0_0 a3) a4) - 1))).f3) ((rd_T50 l1 (wrap64 ((rd (rd_L1 l0_0 a3) a4) - 1))).f4)) else (none)) else (none)) else (none)) else (none)) else (none)) else (none)) = some r := by first | (rw [hy144]; with_reducible exact H) | (have H2_ := (Option.bind_some _ _).symm.trans H; rw [hy144]; with_reducible exact H2_) | (have H2_ := (Option.bind_some _ _).symm.trans H; with_reducible exact H2_) | with_reducible exact H | (rw [hy144]; exact H) | exact H
 have Ny144 := Aside0.mk hy144
 clear hy144
 by_cases c6 : 0 ≤ a3
 ·rw [if_pos c6] at H
  have c6b0 : decide (0 ≤ a3) = true := decide_eq_true c6
  clear c6
  by_cases c7 : a3 < (l0_0.length : Int)
  ·rw [if_pos c7] at H
   have c7b0 : decide (a3 < (l0_0.length : Int)) = true := decide_eq_true c7
   clear c7
   by_cases c8 : 0 ≤ a4
   ·rw [if_pos c8] at H
    have c8b0 : decide (0 ≤ a4) = true := decide_eq_true c8
    clear c8
    by_cases c9 : a4 < ((rd_L1 l0_0 a3).length : Int)
    ·rw [if_pos c9] at H
     have c9b0 : decide (a4 < ((rd_L1 l0_0 a3).length : Int)) = true := decide_eq_true c9
     clear c9
     obtain ⟨ji10, hji10⟩ : ∃ j_ : Int, (wrap64 ((rd (rd_L1 l0_0 a3) a4) - 1)) = j_ := ⟨_, rfl⟩
     replace H : (if 0 ≤ (ji10) then (if (ji10) < (l1.length : Int) then (spec_l7At.l0 k l1 a2 a3 a4 y144 1 l0_0 ((rd_T50 l1 (ji10)).f0) ((rd_T50 l1 (ji10)).f1) ((rd_T50 l1 (ji10)).f2) ((rd_T50 l1 (ji10)).f3) ((rd_T50 l1 (ji10)).f4)) else (none)) else (none)) = some r := by first | (rw [hji10] at H; exact H) | (simp only [hji10] at H ⊢; exact H)
     have hji10w : (IntKind.i64.wrap ((rd (rd_L1 l0_0 a3) a4) - 1)) = ji10 := (i64_w _).trans hji10
     by_cases c11 : 0 ≤ (ji10)
     ·rw [if_pos c11] at H
      have c11b0 : decide (0 ≤ (ji10)) = true := decide_eq_true c11
      clear c11
      by_cases c12 : (ji10) < (l1.length : Int)
      ·rw [if_pos c12] at H
       have c12b0 : decide ((ji10) < (l1.length : Int)) = true := decide_eq_true c12
       clear c12
       have H' := Aside0.mk H
       clear H
       go_enter Try.func36, Try.ntmps36
       go_wp2_with (first | ((with_reducible refine gate_dst (N := 5) rfl ?_); refine box_event ?hg (N := 5) ?hd (cs := #[.slice A0_0 l0_0.length c0_0]) (t := 30) ?hr ?_; (case hd => rfl); (case hg => rfl); (case hr => first | (go_simp; done) | (go_simp; rfl)); intro gb143 hg w13 hbox hb; have n0_ := Aside0.mk (below_step (bel HB) hb); have n1_ := Aside0.mk (hbox); have n2_ := Aside0.mk ((by rw [hg]; exact (below_size (bel HB)) : w.heap.size ≤ gb143)); have n3_ := Aside0.mk ((by rw [hg]; exact (below_size (bel HB)) : w.heap.size ≤ gb143)); clear HB; have HB := n0_; have BK143 := n1_; have GW143 := n2_; have GE143 := n3_; clear n0_ n1_ n2_ n3_; clear hb hbox hg) | ((with_reducible refine gate_dst (N := 15) rfl ?_); refine Kd.R_lit k66 _ 66 ?hg (N := 15) ?hd (xs := ([] : List (S66))) (inner := []) (ok := fun _ => True) (okp := fun _ => True) ?hr ?hp (fun _ hk => hk) trivial (Below.refl _ _) (Nat.le_refl _) (by simp) ?_; (case hd => rfl); (case hg => rfl); (case hr => first | (go_simp; done) | (go_simp; rfl)); (case hp => exact (Reps.none _ _)); intro v145 w14 ho15 hb hg_ hnew_; clear hg_ hnew_; (first | rw [← Ny144.out] at ho15 | (simp only [Int.reduceToNat] at ho15; rw [← Ny144.out] at ho15)); have n0_ := Aside0.mk (Kd.R_lower ho15 (below_size (bel1 HB GE143))); have n1_ := Aside0.mk (blk_below (g := gb143) (o := .cells #[.slice A0_0 l0_0.length c0_0] 30 (0, 0)) (bkl BK143) hb); have n2_ := Aside0.mk (below_step (bel1 HB GE143) hb); clear BK143; clear HB; have HO146 := n0_; have BK143 := n1_; have HB := n2_; clear n0_ n1_ n2_; clear hb ho15; have hcz16_0 : w14.cell? ⟨gb143, 0, none⟩ = some (.slice A0_0 l0_0.length c0_0) := (blk_cell BK143.out 0).trans rfl; have hfz16_0 := blk_frozen BK143.out 0; have p147 : 0 ≤ (a3 : Int) := oda; have q147 : a3 < (l0_0.length : Int) := oda; obtain ⟨ad147, A147_0, c147_0, e147, hx147_0, hl147_0, hi147_0⟩ := at_L1 HR0_0.out a3 p147 q147; cases e147; replace hx147_0 := cel HB hx147_0; have HR147_0 := Aside0.mk hi147_0; have HC147_0 := Aside0.mk hl147_0; clear hi147_0 hl147_0; replace p147 := eq_true p147; replace q147 := eq_true q147; have p148 : 0 ≤ (a4 : Int) := oda; have q148 : a4 < ((rd_L1 l0_0 a3).length : Int) := oda; obtain ⟨ad148, e148, hx148_0⟩ := Kd.at_int HR147_0.out a4 p148 q148; cases e148; replace hx148_0 := cel HB hx148_0; replace p148 := eq_true p148; replace q148 := eq_true q148; have p149 : 0 ≤ ((ji10) : Int) := oda; have q149 : (ji10) < (l1.length : Int) := oda; obtain ⟨ad149, e149, hx149_0, hx149_1, hx149_2, hx149_3, hx149_4⟩ := at_T50 HR1.out (ji10) p149 q149; cases e149; replace hx149_0 := cel HB hx149_0; replace hx149_1 := cel HB hx149_1; replace hx149_2 := cel HB hx149_2; replace hx149_3 := cel HB hx149_3; replace hx149_4 := cel HB hx149_4; replace p149 := eq_true p149; replace q149 := eq_true q149) | ((with_reducible refine gate_dst (N := 12) rfl ?_); refine box_event ?hg (N := 12) ?hd (cs := #[.string (⟨#[]⟩ : ByteArray), .int .i64 0, .int .i64 0, .int .i64 0, .int .i64 0]) (t := 50) ?hr ?_; (case hd => rfl); (case hg => rfl); (case hr => first | (go_simp; done) | (go_simp; rfl)); intro gb150 hg w17 hbox hb; have n0_ := Aside0.mk (Kd.R_below (rdl HO146) hb); have n1_ := Aside0.mk (blk_below (g := gb143) (o := .cells #[.slice (some ad147) l0_0.length c0_0] 30 (0, 0)) (bkl BK143) hb); have n2_ := Aside0.mk (below_step (bel1 HB GE143) hb); have n3_ := Aside0.mk (hbox); have n4_ := Aside0.mk ((by rw [hg]; exact (below_size (bel1 HB GE143)) : w.heap.size ≤ gb150)); have n5_ := Aside0.mk ((by rw [hg]; exact (below_size (bel1 HB GE143)) : w.heap.size ≤ gb150)); have n6_ := Aside0.mk ((by rw [hg]; exact Nat.ne_of_lt (blk_lt (g := gb143) (o := .cells #[.slice (some ad147) l0_0.length c0_0] 30 (0, 0)) (bkl BK143)) : gb143 ≠ gb150)); have n7_ := Aside0.mk ((by rw [hg]; exact Nat.ne_of_gt (blk_lt (g := gb143) (o := .cells #[.slice (some ad147) l0_0.length c0_0] 30 (0, 0)) (bkl BK143)) : gb150 ≠ gb143)); clear HO146; clear BK143; clear HB; have HO146 := n0_; have BK143 := n1_; have HB := n2_; have BK150 := n3_; have GW150 := n4_; have GE150 := n5_; have NB143_150 := n6_; have NB150_143 := n7_; clear n0_ n1_ n2_ n3_ n4_ n5_ n6_ n7_; clear hb hbox hg; have hnb18 := NB150_143.out; have hnc18 := NB143_150.out; have hcz19_0 : w17.cell? ⟨gb150, 0, none⟩ = some (.string (⟨#[]⟩ : ByteArray)) := (blk_cell BK150.out 0).trans rfl; have hcz19_1 : w17.cell? ⟨gb150, 1, none⟩ = some (.int .i64 0) := (blk_cell BK150.out 1).trans rfl; have hcz19_2 : w17.cell? ⟨gb150, 2, none⟩ = some (.int .i64 0) := (blk_cell BK150.out 2).trans rfl; have hcz19_3 : w17.cell? ⟨gb150, 3, none⟩ = some (.int .i64 0) := (blk_cell BK150.out 3).trans rfl; have hcz19_4 : w17.cell? ⟨gb150, 4, none⟩ = some (.int .i64 0) := (blk_cell BK150.out 4).trans rfl; have hfz19_0 := blk_frozen BK150.out 0; have hfz19_1 := blk_frozen BK150.out 1; have hfz19_2 := blk_frozen BK150.out 2; have hfz19_3 := blk_frozen BK150.out 3; have hfz19_4 := blk_frozen BK150.out 4))
       repeat (go_quiet (first | ((with_reducible refine gate_dst (N := 5) rfl ?_); refine box_event ?hg (N := 5) ?hd (cs := #[.slice A0_0 l0_0.length c0_0]) (t := 30) ?hr ?_; (case hd => rfl); (case hg => rfl); (case hr => first | (go_simp; done) | (go_simp; rfl)); intro gb143 hg w13 hbox hb; have n0_ := Aside0.mk (below_step (bel HB) hb); have n1_ := Aside0.mk (hbox); have n2_ := Aside0.mk ((by rw [hg]; exact (below_size (bel HB)) : w.heap.size ≤ gb143)); have n3_ := Aside0.mk ((by rw [hg]; exact (below_size (bel HB)) : w.heap.size ≤ gb143)); clear HB; have HB := n0_; have BK143 := n1_; have GW143 := n2_; have GE143 := n3_; clear n0_ n1_ n2_ n3_; clear hb hbox hg) | ((with_reducible refine gate_dst (N := 15) rfl ?_); refine Kd.R_lit k66 _ 66 ?hg (N := 15) ?hd (xs := ([] : List (S66))) (inner := []) (ok := fun _ => True) (okp := fun _ => True) ?hr ?hp (fun _ hk => hk) trivial (Below.refl _ _) (Nat.le_refl _) (by simp) ?_; (case hd => rfl); (case hg => rfl); (case hr => first | (go_simp; done) | (go_simp; rfl)); (case hp => exact (Reps.none _ _)); intro v145 w14 ho15 hb hg_ hnew_; clear hg_ hnew_; (first | rw [← Ny144.out] at ho15 | (simp only [Int.reduceToNat] at ho15; rw [← Ny144.out] at ho15)); have n0_ := Aside0.mk (Kd.R_lower ho15 (below_size (bel1 HB GE143))); have n1_ := Aside0.mk (blk_below (g := gb143) (o := .cells #[.slice A0_0 l0_0.length c0_0] 30 (0, 0)) (bkl BK143) hb); have n2_ := Aside0.mk (below_step (bel1 HB GE143) hb); clear BK143; clear HB; have HO146 := n0_; have BK143 := n1_; have HB := n2_; clear n0_ n1_ n2_; clear hb ho15; have hcz16_0 : w14.cell? ⟨gb143, 0, none⟩ = some (.slice A0_0 l0_0.length c0_0) := (blk_cell BK143.out 0).trans rfl; have hfz16_0 := blk_frozen BK143.out 0; have p147 : 0 ≤ (a3 : Int) := oda; have q147 : a3 < (l0_0.length : Int) := oda; obtain ⟨ad147, A147_0, c147_0, e147, hx147_0, hl147_0, hi147_0⟩ := at_L1 HR0_0.out a3 p147 q147; cases e147; replace hx147_0 := cel HB hx147_0; have HR147_0 := Aside0.mk hi147_0; have HC147_0 := Aside0.mk hl147_0; clear hi147_0 hl147_0; replace p147 := eq_true p147; replace q147 := eq_true q147; have p148 : 0 ≤ (a4 : Int) := oda; have q148 : a4 < ((rd_L1 l0_0 a3).length : Int) := oda; obtain ⟨ad148, e148, hx148_0⟩ := Kd.at_int HR147_0.out a4 p148 q148; cases e148; replace hx148_0 := cel HB hx148_0; replace p148 := eq_true p148; replace q148 := eq_true q148; have p149 : 0 ≤ ((ji10) : Int) := oda; have q149 : (ji10) < (l1.length : Int) := oda; obtain ⟨ad149, e149, hx149_0, hx149_1, hx149_2, hx149_3, hx149_4⟩ := at_T50 HR1.out (ji10) p149 q149; cases e149; replace hx149_0 := cel HB hx149_0; replace hx149_1 := cel HB hx149_1; replace hx149_2 := cel HB hx149_2; replace hx149_3 := cel HB hx149_3; replace hx149_4 := cel HB hx149_4; replace p149 := eq_true p149; replace q149 := eq_true q149) | ((with_reducible refine gate_dst (N := 12) rfl ?_); refine box_event ?hg (N := 12) ?hd (cs := #[.string (⟨#[]⟩ : ByteArray), .int .i64 0, .int .i64 0, .int .i64 0, .int .i64 0]) (t := 50) ?hr ?_; (case hd => rfl); (case hg => rfl); (case hr => first | (go_simp; done) | (go_simp; rfl)); intro gb150 hg w17 hbox hb; have n0_ := Aside0.mk (Kd.R_below (rdl HO146) hb); have n1_ := Aside0.mk (blk_below (g := gb143) (o := .cells #[.slice (some ad147) l0_0.length c0_0] 30 (0, 0)) (bkl BK143) hb); have n2_ := Aside0.mk (below_step (bel1 HB GE143) hb); have n3_ := Aside0.mk (hbox); have n4_ := Aside0.mk ((by rw [hg]; exact (below_size (bel1 HB GE143)) : w.heap.size ≤ gb150)); have n5_ := Aside0.mk ((by rw [hg]; exact (below_size (bel1 HB GE143)) : w.heap.size ≤ gb150)); have n6_ := Aside0.mk ((by rw [hg]; exact Nat.ne_of_lt (blk_lt (g := gb143) (o := .cells #[.slice (some ad147) l0_0.length c0_0] 30 (0, 0)) (bkl BK143)) : gb143 ≠ gb150)); have n7_ := Aside0.mk ((by rw [hg]; exact Nat.ne_of_gt (blk_lt (g := gb143) (o := .cells #[.slice (some ad147) l0_0.length c0_0] 30 (0, 0)) (bkl BK143)) : gb150 ≠ gb143)); clear HO146; clear BK143; clear HB; have HO146 := n0_; have BK143 := n1_; have HB := n2_; have BK150 := n3_; have GW150 := n4_; have GE150 := n5_; have NB143_150 := n6_; have NB150_143 := n7_; clear n0_ n1_ n2_ n3_ n4_ n5_ n6_ n7_; clear hb hbox hg; have hnb18 := NB150_143.out; have hnc18 := NB143_150.out; have hcz19_0 : w17.cell? ⟨gb150, 0, none⟩ = some (.string (⟨#[]⟩ : ByteArray)) := (blk_cell BK150.out 0).trans rfl; have hcz19_1 : w17.cell? ⟨gb150, 1, none⟩ = some (.int .i64 0) := (blk_cell BK150.out 1).trans rfl; have hcz19_2 : w17.cell? ⟨gb150, 2, none⟩ = some (.int .i64 0) := (blk_cell BK150.out 2).trans rfl; have hcz19_3 : w17.cell? ⟨gb150, 3, none⟩ = some (.int .i64 0) := (blk_cell BK150.out 3).trans rfl; have hcz19_4 : w17.cell? ⟨gb150, 4, none⟩ = some (.int .i64 0) := (blk_cell BK150.out 4).trans rfl; have hfz19_0 := blk_frozen BK150.out 0; have hfz19_1 := blk_frozen BK150.out 1; have hfz19_2 := blk_frozen BK150.out 2; have hfz19_3 := blk_frozen BK150.out 3; have hfz19_4 := blk_frozen BK150.out 4)); try go_wp2_with (first | ((with_reducible refine gate_dst (N := 5) rfl ?_); refine box_event ?hg (N := 5) ?hd (cs := #[.slice A0_0 l0_0.length c0_0]) (t := 30) ?hr ?_; (case hd => rfl); (case hg => rfl); (case hr => first | (go_simp; done) | (go_simp; rfl)); intro gb143 hg w13 hbox hb; have n0_ := Aside0.mk (below_step (bel HB) hb); have n1_ := Aside0.mk (hbox); have n2_ := Aside0.mk ((by rw [hg]; exact (below_size (bel HB)) : w.heap.size ≤ gb143)); have n3_ := Aside0.mk ((by rw [hg]; exact (below_size (bel HB)) : w.heap.size ≤ gb143)); clear HB; have HB := n0_; have BK143 := n1_; have GW143 := n2_; have GE143 := n3_; clear n0_ n1_ n2_ n3_; clear hb hbox hg) | ((with_reducible refine gate_dst (N := 15) rfl ?_); refine Kd.R_lit k66 _ 66 ?hg (N := 15) ?hd (xs := ([] : List (S66))) (inner := []) (ok := fun _ => True) (okp := fun _ => True) ?hr ?hp (fun _ hk => hk) trivial (Below.refl _ _) (Nat.le_refl _) (by simp) ?_; (case hd => rfl); (case hg => rfl); (case hr => first | (go_simp; done) | (go_simp; rfl)); (case hp => exact (Reps.none _ _)); intro v145 w14 ho15 hb hg_ hnew_; clear hg_ hnew_; (first | rw [← Ny144.out] at ho15 | (simp only [Int.reduceToNat] at ho15; rw [← Ny144.out] at ho15)); have n0_ := Aside0.mk (Kd.R_lower ho15 (below_size (bel1 HB GE143))); have n1_ := Aside0.mk (blk_below (g := gb143) (o := .cells #[.slice A0_0 l0_0.length c0_0] 30 (0, 0)) (bkl BK143) hb); have n2_ := Aside0.mk (below_step (bel1 HB GE143) hb); clear BK143; clear HB; have HO146 := n0_; have BK143 := n1_; have HB := n2_; clear n0_ n1_ n2_; clear hb ho15; have hcz16_0 : w14.cell? ⟨gb143, 0, none⟩ = some (.slice A0_0 l0_0.length c0_0) := (blk_cell BK143.out 0).trans rfl; have hfz16_0 := blk_frozen BK143.out 0; have p147 : 0 ≤ (a3 : Int) := oda; have q147 : a3 < (l0_0.length : Int) := oda; obtain ⟨ad147, A147_0, c147_0, e147, hx147_0, hl147_0, hi147_0⟩ := at_L1 HR0_0.out a3 p147 q147; cases e147; replace hx147_0 := cel HB hx147_0; have HR147_0 := Aside0.mk hi147_0; have HC147_0 := Aside0.mk hl147_0; clear hi147_0 hl147_0; replace p147 := eq_true p147; replace q147 := eq_true q147; have p148 : 0 ≤ (a4 : Int) := oda; have q148 : a4 < ((rd_L1 l0_0 a3).length : Int) := oda; obtain ⟨ad148, e148, hx148_0⟩ := Kd.at_int HR147_0.out a4 p148 q148; cases e148; replace hx148_0 := cel HB hx148_0; replace p148 := eq_true p148; replace q148 := eq_true q148; have p149 : 0 ≤ ((ji10) : Int) := oda; have q149 : (ji10) < (l1.length : Int) := oda; obtain ⟨ad149, e149, hx149_0, hx149_1, hx149_2, hx149_3, hx149_4⟩ := at_T50 HR1.out (ji10) p149 q149; cases e149; replace hx149_0 := cel HB hx149_0; replace hx149_1 := cel HB hx149_1; replace hx149_2 := cel HB hx149_2; replace hx149_3 := cel HB hx149_3; replace hx149_4 := cel HB hx149_4; replace p149 := eq_true p149; replace q149 := eq_true q149) | ((with_reducible refine gate_dst (N := 12) rfl ?_); refine box_event ?hg (N := 12) ?hd (cs := #[.string (⟨#[]⟩ : ByteArray), .int .i64 0, .int .i64 0, .int .i64 0, .int .i64 0]) (t := 50) ?hr ?_; (case hd => rfl); (case hg => rfl); (case hr => first | (go_simp; done) | (go_simp; rfl)); intro gb150 hg w17 hbox hb; have n0_ := Aside0.mk (Kd.R_below (rdl HO146) hb); have n1_ := Aside0.mk (blk_below (g := gb143) (o := .cells #[.slice (some ad147) l0_0.length c0_0] 30 (0, 0)) (bkl BK143) hb); have n2_ := Aside0.mk (below_step (bel1 HB GE143) hb); have n3_ := Aside0.mk (hbox); have n4_ := Aside0.mk ((by rw [hg]; exact (below_size (bel1 HB GE143)) : w.heap.size ≤ gb150)); have n5_ := Aside0.mk ((by rw [hg]; exact (below_size (bel1 HB GE143)) : w.heap.size ≤ gb150)); have n6_ := Aside0.mk ((by rw [hg]; exact Nat.ne_of_lt (blk_lt (g := gb143) (o := .cells #[.slice (some ad147) l0_0.length c0_0] 30 (0, 0)) (bkl BK143)) : gb143 ≠ gb150)); have n7_ := Aside0.mk ((by rw [hg]; exact Nat.ne_of_gt (blk_lt (g := gb143) (o := .cells #[.slice (some ad147) l0_0.length c0_0] 30 (0, 0)) (bkl BK143)) : gb150 ≠ gb143)); clear HO146; clear BK143; clear HB; have HO146 := n0_; have BK143 := n1_; have HB := n2_; have BK150 := n3_; have GW150 := n4_; have GE150 := n5_; have NB143_150 := n6_; have NB150_143 := n7_; clear n0_ n1_ n2_ n3_ n4_ n5_ n6_ n7_; clear hb hbox hg; have hnb18 := NB150_143.out; have hnc18 := NB143_150.out; have hcz19_0 : w17.cell? ⟨gb150, 0, none⟩ = some (.string (⟨#[]⟩ : ByteArray)) := (blk_cell BK150.out 0).trans rfl; have hcz19_1 : w17.cell? ⟨gb150, 1, none⟩ = some (.int .i64 0) := (blk_cell BK150.out 1).trans rfl; have hcz19_2 : w17.cell? ⟨gb150, 2, none⟩ = some (.int .i64 0) := (blk_cell BK150.out 2).trans rfl; have hcz19_3 : w17.cell? ⟨gb150, 3, none⟩ = some (.int .i64 0) := (blk_cell BK150.out 3).trans rfl; have hcz19_4 : w17.cell? ⟨gb150, 4, none⟩ = some (.int .i64 0) := (blk_cell BK150.out 4).trans rfl; have hfz19_0 := blk_frozen BK150.out 0; have hfz19_1 := blk_frozen BK150.out 1; have hfz19_2 := blk_frozen BK150.out 2; have hfz19_3 := blk_frozen BK150.out 3; have hfz19_4 := blk_frozen BK150.out 4)))
       go_loopg [11, 13] k (fun kq v11 v13 w' => ∃ (x11_1 : List (S66)) (x13_1 : Int), v13 = .int .i64 x13_1 ∧ Aside0 (spec_l7At.l0 kq l1 a2 a3 a4 x11_1 x13_1 l0_0 ((rd_T50 l1 (ji10)).f0) ((rd_T50 l1 (ji10)).f1) ((rd_T50 l1 (ji10)).f2) ((rd_T50 l1 (ji10)).f3) ((rd_T50 l1 (ji10)).f4) = some r) ∧ Aside0 (kq ≤ k) ∧ Aside0 (Kd.R k66 66 w' w.heap.size (fun _ => True) v11 x11_1) ∧ Aside0 (w'.heap[gb143]? = some (.cells #[(.slice (some ad147) l0_0.length c0_0)] 30 (0, 0))) ∧ Aside0 (w'.heap[gb150]? = some (.cells #[.string ((rd_T50 l1 (ji10)).f0), .int .i64 ((rd_T50 l1 (ji10)).f1), .int .i64 ((rd_T50 l1 (ji10)).f2), .int .i64 ((rd_T50 l1 (ji10)).f3), .int .i64 ((rd_T50 l1 (ji10)).f4)] 50 (0, 0))) ∧ Aside0 (Below w.heap.size w w'))
       case atStart => exact ⟨(y144), (1), (by first | rfl | (simp; done) | (simp [*]; done)), H', ⟨Nat.le_refl _⟩, ⟨by (with_reducible repeat (first | apply Kd.R_alloc | apply Kd.R_drewN | apply Kd.R_drew)); exact Kd.R_mono (Kd.R_far (p := ⟨gb150, 4, none⟩) (Kd.R_far (p := ⟨gb150, 3, none⟩) (Kd.R_far (p := ⟨gb150, 2, none⟩) (Kd.R_far (p := ⟨gb150, 1, none⟩) (Kd.R_far (p := ⟨gb150, 0, none⟩) (Kd.R_types HO146.out BK150.out (by decide)) (fun _ hk => hk.2) (.string ((rd_T50 l1 (ji10)).f0))) (fun _ hk => hk.2) (.int .i64 ((rd_T50 l1 (ji10)).f1))) (fun _ hk => hk.2) (.int .i64 ((rd_T50 l1 (ji10)).f2))) (fun _ hk => hk.2) (.int .i64 ((rd_T50 l1 (ji10)).f3))) (fun _ hk => hk.2) (.int .i64 ((rd_T50 l1 (ji10)).f4))) (fun _ hk => trivial)⟩, ⟨by (with_reducible repeat (first | refine blk_drewN ?_ _ | refine blk_drew ?_ | refine blk_alloc ?_ _)); refine blk_far ?_ NB143_150.out _; (with_reducible repeat (first | refine blk_drewN ?_ _ | refine blk_drew ?_ | refine blk_alloc ?_ _)); refine blk_far ?_ NB143_150.out _; (with_reducible repeat (first | refine blk_drewN ?_ _ | refine blk_drew ?_ | refine blk_alloc ?_ _)); refine blk_far ?_ NB143_150.out _; (with_reducible repeat (first | refine blk_drewN ?_ _ | refine blk_drew ?_ | refine blk_alloc ?_ _)); refine blk_far ?_ NB143_150.out _; (with_reducible repeat (first | refine blk_drewN ?_ _ | refine blk_drew ?_ | refine blk_alloc ?_ _)); refine blk_far ?_ NB143_150.out _; (with_reducible repeat (first | refine blk_drewN ?_ _ | refine blk_drew ?_ | refine blk_alloc ?_ _)); exact BK143.out⟩, ⟨by (with_reducible repeat (first | refine blk_drewN ?_ _ | refine blk_drew ?_ | refine blk_alloc ?_ _)); refine blk_put (cs := #[.string ((rd_T50 l1 (ji10)).f0), .int .i64 ((rd_T50 l1 (ji10)).f1), .int .i64 ((rd_T50 l1 (ji10)).f2), .int .i64 ((rd_T50 l1 (ji10)).f3), .int .i64 0]) ?_ 4 _ rfl; (with_reducible repeat (first | refine blk_drewN ?_ _ | refine blk_drew ?_ | refine blk_alloc ?_ _)); refine blk_put (cs := #[.string ((rd_T50 l1 (ji10)).f0), .int .i64 ((rd_T50 l1 (ji10)).f1), .int .i64 ((rd_T50 l1 (ji10)).f2), .int .i64 0, .int .i64 0]) ?_ 3 _ rfl; (with_reducible repeat (first | refine blk_drewN ?_ _ | refine blk_drew ?_ | refine blk_alloc ?_ _)); refine blk_put (cs := #[.string ((rd_T50 l1 (ji10)).f0), .int .i64 ((rd_T50 l1 (ji10)).f1), .int .i64 0, .int .i64 0, .int .i64 0]) ?_ 2 _ rfl; (with_reducible repeat (first | refine blk_drewN ?_ _ | refine blk_drew ?_ | refine blk_alloc ?_ _)); refine blk_put (cs := #[.string ((rd_T50 l1 (ji10)).f0), .int .i64 0, .int .i64 0, .int .i64 0, .int .i64 0]) ?_ 1 _ rfl; (with_reducible repeat (first | refine blk_drewN ?_ _ | refine blk_drew ?_ | refine blk_alloc ?_ _)); refine blk_put (cs := #[.string (⟨#[]⟩ : ByteArray), .int .i64 0, .int .i64 0, .int .i64 0, .int .i64 0]) ?_ 0 _ rfl; (with_reducible repeat (first | refine blk_drewN ?_ _ | refine blk_drew ?_ | refine blk_alloc ?_ _)); exact BK150.out⟩, ⟨bel2 HB GE143 GE150⟩⟩
       case round =>
        clear H'
        try clear c1
        try clear p1
        try clear q1
        try clear hx1
        try clear p2
        try clear c3
        try clear c6
        try clear c6b0
        try clear p6
        try clear c7
        try clear c7b0
        try clear c8
        try clear c8b0
        try clear c9
        try clear c9b0
        try clear c11
        try clear c11b0
        try clear c12
        try clear c12b0
        try clear c14
        try clear p14
        try clear q14
        try clear hx14
        try clear c18
        try clear hcz16_0
        try clear hcz19_0
        try clear hcz19_1
        try clear hcz19_2
        try clear hcz19_3
        try clear hcz19_4
        try clear hfz16_0
        try clear hfz19_0
        try clear hfz19_1
        try clear hfz19_2
        try clear hfz19_3
        try clear hfz19_4
        try clear hx147_0
        try clear hx148_0
        try clear hx149_0
        try clear hx149_1
        try clear hx149_2
        try clear hx149_3
        try clear hx149_4
        try clear p147
        try clear p148
        try clear p149
        try clear q147
        try clear q148
        try clear q149
        obtain ⟨x11_1, x13_1, rfl, HA, HK1, HO_11, BK143, BK150, HB⟩ := hrel
        cases gk with
        | zero => exact absurd HA.out (by simp [spec_l7At.l0])
        | succ k1 =>
         have H := HA.out
         clear HA
         simp only [spec_l7At.l0] at H
         by_cases c20 : x13_1 ≤ 4
         ·rw [if_pos c20] at H
          have c20b0 : decide (x13_1 ≤ 4) = true := decide_eq_true c20
          clear c20
          by_cases c21 : x13_1 = 1
          ·rw [if_pos c21] at H
           have c21b0 : (x13_1 == 1) = true := beq_iff_eq.mpr c21
           have c21b1 : (x13_1 != 1) = false := bne_eq_false_iff_eq.mpr c21
           clear c21
           by_cases c22 : a4 > 0
           ·rw [if_pos c22] at H
            have c22b0 : decide (0 < a4) = true := decide_eq_true c22
            clear c22
            by_cases c23 : 0 ≤ a3
            ·rw [if_pos c23] at H
             have c23b0 : decide (0 ≤ a3) = true := decide_eq_true c23
             clear c23
             by_cases c24 : a3 < (l0_0.length : Int)
             ·rw [if_pos c24] at H
              have c24b0 : decide (a3 < (l0_0.length : Int)) = true := decide_eq_true c24
              clear c24
              obtain ⟨ji25, hji25⟩ : ∃ j_ : Int, (wrap64 (a4 - 1)) = j_ := ⟨_, rfl⟩
              replace H : (if 0 ≤ (ji25) then (if (ji25) < ((rd_L1 l0_0 a3).length : Int) then (if 0 ≤ (wrap64 ((rd (rd_L1 l0_0 a3) (ji25)) - 1)) then (if (wrap64 ((rd (rd_L1 l0_0 a3) (ji25)) - 1)) < (l1.length : Int) then (if ((rd_T50 l1 (ji10)).f2) > ((rd_T50 l1 (wrap64 ((rd (rd_L1 l0_0 a3) (ji25)) - 1))).f2) then (if x11_1.length < 5864062014805 then (spec_l7At.l0 k1 l1 a2 a3 a4 (x11_1 ++ [(⟨x13_1, a3, a4⟩ : S66)]) (wrap64 (x13_1 + 1)) l0_0 ((rd_T50 l1 (ji10)).f0) ((rd_T50 l1 (ji10)).f1) ((rd_T50 l1 (ji10)).f2) ((rd_T50 l1 (ji10)).f3) ((rd_T50 l1 (ji10)).f4)) else (none)) else (spec_l7At.l0 k1 l1 a2 a3 a4 x11_1 (wrap64 (x13_1 + 1)) l0_0 ((rd_T50 l1 (ji10)).f0) ((rd_T50 l1 (ji10)).f1) ((rd_T50 l1 (ji10)).f2) ((rd_T50 l1 (ji10)).f3) ((rd_T50 l1 (ji10)).f4))) else (none)) else (none)) else (none)) else (none)) = some r := by first | (rw [hji25] at H; exact H) | (simp only [hji25] at H ⊢; exact H)
              have hji25w : (IntKind.i64.wrap (a4 - 1)) = ji25 := (i64_w _).trans hji25
              by_cases c26 : 0 ≤ (ji25)
              ·rw [if_pos c26] at H
               have c26b0 : decide (0 ≤ (ji25)) = true := decide_eq_true c26
               clear c26
               by_cases c27 : (ji25) < ((rd_L1 l0_0 a3).length : Int)
               ·rw [if_pos c27] at H
                have c27b0 : decide ((ji25) < ((rd_L1 l0_0 a3).length : Int)) = true := decide_eq_true c27
                clear c27
                obtain ⟨ji28, hji28⟩ : ∃ j_ : Int, (wrap64 ((rd (rd_L1 l0_0 a3) (ji25)) - 1)) = j_ := ⟨_, rfl⟩
                replace H : (if 0 ≤ (ji28) then (if (ji28) < (l1.length : Int) then (if ((rd_T50 l1 (ji10)).f2) > ((rd_T50 l1 (ji28)).f2) then (if x11_1.length < 5864062014805 then (spec_l7At.l0 k1 l1 a2 a3 a4 (x11_1 ++ [(⟨x13_1, a3, a4⟩ : S66)]) (wrap64 (x13_1 + 1)) l0_0 ((rd_T50 l1 (ji10)).f0) ((rd_T50 l1 (ji10)).f1) ((rd_T50 l1 (ji10)).f2) ((rd_T50 l1 (ji10)).f3) ((rd_T50 l1 (ji10)).f4)) else (none)) else (spec_l7At.l0 k1 l1 a2 a3 a4 x11_1 (wrap64 (x13_1 + 1)) l0_0 ((rd_T50 l1 (ji10)).f0) ((rd_T50 l1 (ji10)).f1) ((rd_T50 l1 (ji10)).f2) ((rd_T50 l1 (ji10)).f3) ((rd_T50 l1 (ji10)).f4))) else (none)) else (none)) = some r := by first | (rw [hji28] at H; exact H) | (simp only [hji28] at H ⊢; exact H)
                have hji28w : (IntKind.i64.wrap ((rd (rd_L1 l0_0 a3) (ji25)) - 1)) = ji28 := (i64_w _).trans hji28
                by_cases c29 : 0 ≤ (ji28)
                ·rw [if_pos c29] at H
                 have c29b0 : decide (0 ≤ (ji28)) = true := decide_eq_true c29
                 clear c29
                 by_cases c30 : (ji28) < (l1.length : Int)
                 ·rw [if_pos c30] at H
                  have c30b0 : decide ((ji28) < (l1.length : Int)) = true := decide_eq_true c30
                  clear c30
                  by_cases c31 : ((rd_T50 l1 (ji10)).f2) > ((rd_T50 l1 (ji28)).f2)
                  ·rw [if_pos c31] at H
                   have c31b0 : decide (((rd_T50 l1 (ji28)).f2) < ((rd_T50 l1 (ji10)).f2)) = true := decide_eq_true c31
                   clear c31
                   by_cases c32 : x11_1.length < 5864062014805
                   ·rw [if_pos c32] at H
                    have LMc32 := Aside0.mk c32
                    clear c32
                    obtain ⟨y154, hy154⟩ : ∃ y_ : List (S66), y_ = (x11_1 ++ [(⟨x13_1, a3, a4⟩ : S66)]) := ⟨_, rfl⟩
                    replace H : (spec_l7At.l0 k1 l1 a2 a3 a4 y154 (wrap64 (x13_1 + 1)) l0_0 ((rd_T50 l1 (ji10)).f0) ((rd_T50 l1 (ji10)).f1) ((rd_T50 l1 (ji10)).f2) ((rd_T50 l1 (ji10)).f3) ((rd_T50 l1 (ji10)).f4)) = some r := by first | (rw [hy154]; with_reducible exact H) | (have H2_ := (Option.bind_some _ _).symm.trans H; rw [hy154]; with_reducible exact H2_) | (have H2_ := (Option.bind_some _ _).symm.trans H; with_reducible exact H2_) | with_reducible exact H | (rw [hy154]; exact H) | exact H
                    have Ny154 := Aside0.mk hy154
                    clear hy154
                    have H' := Aside0.mk H
                    clear H
                    have hnb33 := NB150_143.out
                    have hnc33 := NB143_150.out
                    have hcz34_0 : wr.cell? ⟨gb150, 0, none⟩ = some (.string ((rd_T50 l1 (ji10)).f0)) := (blk_cell BK150.out 0).trans rfl
                    have hcz34_1 : wr.cell? ⟨gb150, 1, none⟩ = some (.int .i64 ((rd_T50 l1 (ji10)).f1)) := (blk_cell BK150.out 1).trans rfl
                    have hcz34_2 : wr.cell? ⟨gb150, 2, none⟩ = some (.int .i64 ((rd_T50 l1 (ji10)).f2)) := (blk_cell BK150.out 2).trans rfl
                    have hcz34_3 : wr.cell? ⟨gb150, 3, none⟩ = some (.int .i64 ((rd_T50 l1 (ji10)).f3)) := (blk_cell BK150.out 3).trans rfl
                    have hcz34_4 : wr.cell? ⟨gb150, 4, none⟩ = some (.int .i64 ((rd_T50 l1 (ji10)).f4)) := (blk_cell BK150.out 4).trans rfl
                    have hfz34_0 := blk_frozen BK150.out 0
                    have hfz34_1 := blk_frozen BK150.out 1
                    have hfz34_2 := blk_frozen BK150.out 2
                    have hfz34_3 := blk_frozen BK150.out 3
                    have hfz34_4 := blk_frozen BK150.out 4
                    have hcz35_0 : wr.cell? ⟨gb143, 0, none⟩ = some (.slice (some ad147) l0_0.length c0_0) := (blk_cell BK143.out 0).trans rfl
                    have hfz35_0 := blk_frozen BK143.out 0
                    have p151 : 0 ≤ (a3 : Int) := oda
                    have q151 : a3 < (l0_0.length : Int) := oda
                    obtain ⟨ad151, A151_0, c151_0, e151, hx151_0, hl151_0, hi151_0⟩ := at_L1 HR0_0.out a3 p151 q151
                    obtain rfl : ad147 = ad151 := (by injection e151)
                    replace hx151_0 := cel HB hx151_0
                    have HR151_0 := Aside0.mk hi151_0
                    have HC151_0 := Aside0.mk hl151_0
                    clear hi151_0 hl151_0
                    replace p151 := eq_true p151
                    replace q151 := eq_true q151
                    have p152 : 0 ≤ ((ji25) : Int) := oda
                    have q152 : (ji25) < ((rd_L1 l0_0 a3).length : Int) := oda
                    obtain ⟨ad152, e152, hx152_0⟩ := Kd.at_int HR151_0.out (ji25) p152 q152
                    cases e152
                    replace hx152_0 := cel HB hx152_0
                    replace p152 := eq_true p152
                    replace q152 := eq_true q152
                    have p153 : 0 ≤ ((ji28) : Int) := oda
                    have q153 : (ji28) < (l1.length : Int) := oda
                    obtain ⟨ad153, e153, hx153_0, hx153_1, hx153_2, hx153_3, hx153_4⟩ := at_T50 HR1.out (ji28) p153 q153
                    obtain rfl : ad149 = ad153 := (by injection e153)
                    replace hx153_0 := cel HB hx153_0
                    replace hx153_1 := cel HB hx153_1
                    replace hx153_2 := cel HB hx153_2
                    replace hx153_3 := cel HB hx153_3
                    replace hx153_4 := cel HB hx153_4
                    replace p153 := eq_true p153
                    replace q153 := eq_true q153
                    go_wp2_with (first | ((with_reducible refine gate_builtin (b := .append) (xs := #[.tmp 97, .tmp 102]) rfl ?_); at_builtin; refine Kd.R_append k66 (w0 := w) w.heap.size rfl (.tmp 97) (.tmp 102) 45 66 (.agg #[(.int .i64 0), (.int .i64 0), (.int .i64 0)]) 24 rfl Try.underlying45 info66 rfl (by decide) (by omega) u11 x11_1 (⟨x13_1, a3, a4⟩ : S66) [.int .i64 x13_1, .int .i64 a3, .int .i64 a4] (fun _ => True) (fun _ => False) rfl rfl ?aP (fun _ hk => hk.elim) ?aF ?aO ?aB ?aS ?aL ?_; (case aP => exact k66_mkM _ _ _ (⟨x13_1, a3, a4⟩ : S66)); (case aB => exact (bel2 HB GE143 GE150)); (case aF => exact (fun _ _ => trivial)); (case aO => exact (rdl HO_11)); (case aS => exact (below_size (bel2 HB GE143 GE150))); (case aL => have := LMc32.out; omega); intro v155 w36 ho hb hg hat; rw [← Ny154.out] at ho; have n0_ := Aside0.mk (blk_grown (g := gb143) (o := .cells #[.slice (some ad147) l0_0.length c0_0] 30 (0, 0)) (bkl BK143) hg (Kd.R_ne HO_11.out BK143.out (by decide))); have n1_ := Aside0.mk (blk_grown (g := gb150) (o := .cells #[.string ((rd_T50 l1 (ji10)).f0), .int .i64 ((rd_T50 l1 (ji10)).f1), .int .i64 ((rd_T50 l1 (ji10)).f2), .int .i64 ((rd_T50 l1 (ji10)).f3), .int .i64 ((rd_T50 l1 (ji10)).f4)] 50 (0, 0)) (bkl BK150) hg (Kd.R_ne HO_11.out BK150.out (by decide))); have n2_ := Aside0.mk (hb); have n3_ := Aside0.mk (ho); clear BK143; clear BK150; clear HB; clear HO_11; have BK143 := n0_; have BK150 := n1_; have HB := n2_; have HO156 := n3_; clear n0_ n1_ n2_ n3_; clear ho hb hg hat))
                    repeat (go_quiet (first | ((with_reducible refine gate_builtin (b := .append) (xs := #[.tmp 97, .tmp 102]) rfl ?_); at_builtin; refine Kd.R_append k66 (w0 := w) w.heap.size rfl (.tmp 97) (.tmp 102) 45 66 (.agg #[(.int .i64 0), (.int .i64 0), (.int .i64 0)]) 24 rfl Try.underlying45 info66 rfl (by decide) (by omega) u11 x11_1 (⟨x13_1, a3, a4⟩ : S66) [.int .i64 x13_1, .int .i64 a3, .int .i64 a4] (fun _ => True) (fun _ => False) rfl rfl ?aP (fun _ hk => hk.elim) ?aF ?aO ?aB ?aS ?aL ?_; (case aP => exact k66_mkM _ _ _ (⟨x13_1, a3, a4⟩ : S66)); (case aB => exact (bel2 HB GE143 GE150)); (case aF => exact (fun _ _ => trivial)); (case aO => exact (rdl HO_11)); (case aS => exact (below_size (bel2 HB GE143 GE150))); (case aL => have := LMc32.out; omega); intro v155 w36 ho hb hg hat; rw [← Ny154.out] at ho; have n0_ := Aside0.mk (blk_grown (g := gb143) (o := .cells #[.slice (some ad147) l0_0.length c0_0] 30 (0, 0)) (bkl BK143) hg (Kd.R_ne HO_11.out BK143.out (by decide))); have n1_ := Aside0.mk (blk_grown (g := gb150) (o := .cells #[.string ((rd_T50 l1 (ji10)).f0), .int .i64 ((rd_T50 l1 (ji10)).f1), .int .i64 ((rd_T50 l1 (ji10)).f2), .int .i64 ((rd_T50 l1 (ji10)).f3), .int .i64 ((rd_T50 l1 (ji10)).f4)] 50 (0, 0)) (bkl BK150) hg (Kd.R_ne HO_11.out BK150.out (by decide))); have n2_ := Aside0.mk (hb); have n3_ := Aside0.mk (ho); clear BK143; clear BK150; clear HB; clear HO_11; have BK143 := n0_; have BK150 := n1_; have HB := n2_; have HO156 := n3_; clear n0_ n1_ n2_ n3_; clear ho hb hg hat)); try go_wp2_with (first | ((with_reducible refine gate_builtin (b := .append) (xs := #[.tmp 97, .tmp 102]) rfl ?_); at_builtin; refine Kd.R_append k66 (w0 := w) w.heap.size rfl (.tmp 97) (.tmp 102) 45 66 (.agg #[(.int .i64 0), (.int .i64 0), (.int .i64 0)]) 24 rfl Try.underlying45 info66 rfl (by decide) (by omega) u11 x11_1 (⟨x13_1, a3, a4⟩ : S66) [.int .i64 x13_1, .int .i64 a3, .int .i64 a4] (fun _ => True) (fun _ => False) rfl rfl ?aP (fun _ hk => hk.elim) ?aF ?aO ?aB ?aS ?aL ?_; (case aP => exact k66_mkM _ _ _ (⟨x13_1, a3, a4⟩ : S66)); (case aB => exact (bel2 HB GE143 GE150)); (case aF => exact (fun _ _ => trivial)); (case aO => exact (rdl HO_11)); (case aS => exact (below_size (bel2 HB GE143 GE150))); (case aL => have := LMc32.out; omega); intro v155 w36 ho hb hg hat; rw [← Ny154.out] at ho; have n0_ := Aside0.mk (blk_grown (g := gb143) (o := .cells #[.slice (some ad147) l0_0.length c0_0] 30 (0, 0)) (bkl BK143) hg (Kd.R_ne HO_11.out BK143.out (by decide))); have n1_ := Aside0.mk (blk_grown (g := gb150) (o := .cells #[.string ((rd_T50 l1 (ji10)).f0), .int .i64 ((rd_T50 l1 (ji10)).f1), .int .i64 ((rd_T50 l1 (ji10)).f2), .int .i64 ((rd_T50 l1 (ji10)).f3), .int .i64 ((rd_T50 l1 (ji10)).f4)] 50 (0, 0)) (bkl BK150) hg (Kd.R_ne HO_11.out BK150.out (by decide))); have n2_ := Aside0.mk (hb); have n3_ := Aside0.mk (ho); clear BK143; clear BK150; clear HB; clear HO_11; have BK143 := n0_; have BK150 := n1_; have HB := n2_; have HO156 := n3_; clear n0_ n1_ n2_ n3_; clear ho hb hg hat)))
                    go_roundg k1
                    case measure => have := HK1.out; omega
                    case rel => exact ⟨(y154), (wrap64 (x13_1 + 1)), (by first | rfl | (simp; done) | (simp [*]; done)), H', ⟨by have := HK1.out; omega⟩, ⟨rdl HO156⟩, ⟨bkl BK143⟩, ⟨bkl BK150⟩, ⟨bel2 HB GE143 GE150⟩⟩
                   ·rw [if_neg c32] at H
                    exact absurd H (by simp)
                  ·rw [if_neg c31] at H
                   have c31b0 : decide (((rd_T50 l1 (ji28)).f2) < ((rd_T50 l1 (ji10)).f2)) = false := decide_eq_false c31
                   clear c31
                   have H' := Aside0.mk H
                   clear H
                   have hnb37 := NB150_143.out
                   have hnc37 := NB143_150.out
                   have hcz38_0 : wr.cell? ⟨gb150, 0, none⟩ = some (.string ((rd_T50 l1 (ji10)).f0)) := (blk_cell BK150.out 0).trans rfl
                   have hcz38_1 : wr.cell? ⟨gb150, 1, none⟩ = some (.int .i64 ((rd_T50 l1 (ji10)).f1)) := (blk_cell BK150.out 1).trans rfl
                   have hcz38_2 : wr.cell? ⟨gb150, 2, none⟩ = some (.int .i64 ((rd_T50 l1 (ji10)).f2)) := (blk_cell BK150.out 2).trans rfl
                   have hcz38_3 : wr.cell? ⟨gb150, 3, none⟩ = some (.int .i64 ((rd_T50 l1 (ji10)).f3)) := (blk_cell BK150.out 3).trans rfl
                   have hcz38_4 : wr.cell? ⟨gb150, 4, none⟩ = some (.int .i64 ((rd_T50 l1 (ji10)).f4)) := (blk_cell BK150.out 4).trans rfl
                   have hfz38_0 := blk_frozen BK150.out 0
                   have hfz38_1 := blk_frozen BK150.out 1
                   have hfz38_2 := blk_frozen BK150.out 2
                   have hfz38_3 := blk_frozen BK150.out 3
                   have hfz38_4 := blk_frozen BK150.out 4
                   have hcz39_0 : wr.cell? ⟨gb143, 0, none⟩ = some (.slice (some ad147) l0_0.length c0_0) := (blk_cell BK143.out 0).trans rfl
                   have hfz39_0 := blk_frozen BK143.out 0
                   have p151 : 0 ≤ (a3 : Int) := oda
                   have q151 : a3 < (l0_0.length : Int) := oda
                   obtain ⟨ad151, A151_0, c151_0, e151, hx151_0, hl151_0, hi151_0⟩ := at_L1 HR0_0.out a3 p151 q151
                   obtain rfl : ad147 = ad151 := (by injection e151)
                   replace hx151_0 := cel HB hx151_0
                   have HR151_0 := Aside0.mk hi151_0
                   have HC151_0 := Aside0.mk hl151_0
                   clear hi151_0 hl151_0
                   replace p151 := eq_true p151
                   replace q151 := eq_true q151
                   have p152 : 0 ≤ ((ji25) : Int) := oda
                   have q152 : (ji25) < ((rd_L1 l0_0 a3).length : Int) := oda
                   obtain ⟨ad152, e152, hx152_0⟩ := Kd.at_int HR151_0.out (ji25) p152 q152
                   cases e152
                   replace hx152_0 := cel HB hx152_0
                   replace p152 := eq_true p152
                   replace q152 := eq_true q152
                   have p153 : 0 ≤ ((ji28) : Int) := oda
                   have q153 : (ji28) < (l1.length : Int) := oda
                   obtain ⟨ad153, e153, hx153_0, hx153_1, hx153_2, hx153_3, hx153_4⟩ := at_T50 HR1.out (ji28) p153 q153
                   obtain rfl : ad149 = ad153 := (by injection e153)
                   replace hx153_0 := cel HB hx153_0
                   replace hx153_1 := cel HB hx153_1
                   replace hx153_2 := cel HB hx153_2
                   replace hx153_3 := cel HB hx153_3
                   replace hx153_4 := cel HB hx153_4
                   replace p153 := eq_true p153
                   replace q153 := eq_true q153
                   go_wp2
                   repeat (go_quiet (fail); try go_wp2)
                   go_roundg k1
                   case measure => have := HK1.out; omega
                   case rel => exact ⟨(x11_1), (wrap64 (x13_1 + 1)), (by first | rfl | (simp; done) | (simp [*]; done)), H', ⟨by have := HK1.out; omega⟩, ⟨rdl HO_11⟩, ⟨bkl BK143⟩, ⟨bkl BK150⟩, ⟨bel2 HB GE143 GE150⟩⟩
                 ·rw [if_neg c30] at H
                  exact absurd H (by simp)
                ·rw [if_neg c29] at H
                 exact absurd H (by simp)
               ·rw [if_neg c27] at H
                exact absurd H (by simp)
              ·rw [if_neg c26] at H
               exact absurd H (by simp)
             ·rw [if_neg c24] at H
              exact absurd H (by simp)
            ·rw [if_neg c23] at H
             exact absurd H (by simp)
           ·rw [if_neg c22] at H
            have c22b0 : decide (0 < a4) = false := decide_eq_false c22
            clear c22
            have H' := Aside0.mk H
            clear H
            go_wp2
            repeat (go_quiet (fail); try go_wp2)
            go_roundg k1
            case measure => have := HK1.out; omega
            case rel => exact ⟨(x11_1), (wrap64 (x13_1 + 1)), (by first | rfl | (simp; done) | (simp [*]; done)), H', ⟨by have := HK1.out; omega⟩, ⟨rdl HO_11⟩, ⟨bkl BK143⟩, ⟨bkl BK150⟩, ⟨bel2 HB GE143 GE150⟩⟩
          ·rw [if_neg c21] at H
           have c21b0 : (x13_1 == 1) = false := beq_eq_false_iff_ne.mpr c21
           have c21b1 : (x13_1 != 1) = true := bne_iff_ne.mpr c21
           by_cases c40 : x13_1 = 2
           ·rw [if_pos c40] at H
            have c40b0 : (x13_1 == 2) = true := beq_iff_eq.mpr c40
            have c40b1 : (x13_1 != 2) = false := bne_eq_false_iff_eq.mpr c40
            clear c40
            by_cases c41 : a4 > 0
            ·rw [if_pos c41] at H
             have c41b0 : decide (0 < a4) = true := decide_eq_true c41
             clear c41
             by_cases c42 : 0 ≤ a3
             ·rw [if_pos c42] at H
              have c42b0 : decide (0 ≤ a3) = true := decide_eq_true c42
              clear c42
              by_cases c43 : a3 < (l0_0.length : Int)
              ·rw [if_pos c43] at H
               have c43b0 : decide (a3 < (l0_0.length : Int)) = true := decide_eq_true c43
               clear c43
               obtain ⟨ji44, hji44⟩ : ∃ j_ : Int, (wrap64 (a4 - 1)) = j_ := ⟨_, rfl⟩
               replace H : (if 0 ≤ (ji44) then (if (ji44) < ((rd_L1 l0_0 a3).length : Int) then (if 0 ≤ (wrap64 ((rd (rd_L1 l0_0 a3) (ji44)) - 1)) then (if (wrap64 ((rd (rd_L1 l0_0 a3) (ji44)) - 1)) < (l1.length : Int) then (if ((rd_T50 l1 (ji10)).f1) = ((rd_T50 l1 (wrap64 ((rd (rd_L1 l0_0 a3) (ji44)) - 1))).f1) then (spec_l7At.l0 k1 l1 a2 a3 a4 x11_1 (wrap64 (x13_1 + 1)) l0_0 ((rd_T50 l1 (ji10)).f0) ((rd_T50 l1 (ji10)).f1) ((rd_T50 l1 (ji10)).f2) ((rd_T50 l1 (ji10)).f3) ((rd_T50 l1 (ji10)).f4)) else (if x11_1.length < 5864062014805 then (spec_l7At.l0 k1 l1 a2 a3 a4 (x11_1 ++ [(⟨x13_1, a3, a4⟩ : S66)]) (wrap64 (x13_1 + 1)) l0_0 ((rd_T50 l1 (ji10)).f0) ((rd_T50 l1 (ji10)).f1) ((rd_T50 l1 (ji10)).f2) ((rd_T50 l1 (ji10)).f3) ((rd_T50 l1 (ji10)).f4)) else (none))) else (none)) else (none)) else (none)) else (none)) = some r := by first | (rw [hji44] at H; exact H) | (simp only [hji44] at H ⊢; exact H)
               have hji44w : (IntKind.i64.wrap (a4 - 1)) = ji44 := (i64_w _).trans hji44
               by_cases c45 : 0 ≤ (ji44)
               ·rw [if_pos c45] at H
                have c45b0 : decide (0 ≤ (ji44)) = true := decide_eq_true c45
                clear c45
                by_cases c46 : (ji44) < ((rd_L1 l0_0 a3).length : Int)
                ·rw [if_pos c46] at H
                 have c46b0 : decide ((ji44) < ((rd_L1 l0_0 a3).length : Int)) = true := decide_eq_true c46
                 clear c46
                 obtain ⟨ji47, hji47⟩ : ∃ j_ : Int, (wrap64 ((rd (rd_L1 l0_0 a3) (ji44)) - 1)) = j_ := ⟨_, rfl⟩
                 replace H : (if 0 ≤ (ji47) then (if (ji47) < (l1.length : Int) then (if ((rd_T50 l1 (ji10)).f1) = ((rd_T50 l1 (ji47)).f1) then (spec_l7At.l0 k1 l1 a2 a3 a4 x11_1 (wrap64 (x13_1 + 1)) l0_0 ((rd_T50 l1 (ji10)).f0) ((rd_T50 l1 (ji10)).f1) ((rd_T50 l1 (ji10)).f2) ((rd_T50 l1 (ji10)).f3) ((rd_T50 l1 (ji10)).f4)) else (if x11_1.length < 5864062014805 then (spec_l7At.l0 k1 l1 a2 a3 a4 (x11_1 ++ [(⟨x13_1, a3, a4⟩ : S66)]) (wrap64 (x13_1 + 1)) l0_0 ((rd_T50 l1 (ji10)).f0) ((rd_T50 l1 (ji10)).f1) ((rd_T50 l1 (ji10)).f2) ((rd_T50 l1 (ji10)).f3) ((rd_T50 l1 (ji10)).f4)) else (none))) else (none)) else (none)) = some r := by first | (rw [hji47] at H; exact H) | (simp only [hji47] at H ⊢; exact H)
                 have hji47w : (IntKind.i64.wrap ((rd (rd_L1 l0_0 a3) (ji44)) - 1)) = ji47 := (i64_w _).trans hji47
                 by_cases c48 : 0 ≤ (ji47)
                 ·rw [if_pos c48] at H
                  have c48b0 : decide (0 ≤ (ji47)) = true := decide_eq_true c48
                  clear c48
                  by_cases c49 : (ji47) < (l1.length : Int)
                  ·rw [if_pos c49] at H
                   have c49b0 : decide ((ji47) < (l1.length : Int)) = true := decide_eq_true c49
                   clear c49
                   by_cases c50 : ((rd_T50 l1 (ji10)).f1) = ((rd_T50 l1 (ji47)).f1)
                   ·rw [if_pos c50] at H
                    have c50b0 : (((rd_T50 l1 (ji10)).f1) == ((rd_T50 l1 (ji47)).f1)) = true := beq_iff_eq.mpr c50
                    have c50b1 : (((rd_T50 l1 (ji10)).f1) != ((rd_T50 l1 (ji47)).f1)) = false := bne_eq_false_iff_eq.mpr c50
                    clear c50
                    have H' := Aside0.mk H
                    clear H
                    have hnb51 := NB150_143.out
                    have hnc51 := NB143_150.out
                    have hcz52_0 : wr.cell? ⟨gb150, 0, none⟩ = some (.string ((rd_T50 l1 (ji10)).f0)) := (blk_cell BK150.out 0).trans rfl
                    have hcz52_1 : wr.cell? ⟨gb150, 1, none⟩ = some (.int .i64 ((rd_T50 l1 (ji10)).f1)) := (blk_cell BK150.out 1).trans rfl
                    have hcz52_2 : wr.cell? ⟨gb150, 2, none⟩ = some (.int .i64 ((rd_T50 l1 (ji10)).f2)) := (blk_cell BK150.out 2).trans rfl
                    have hcz52_3 : wr.cell? ⟨gb150, 3, none⟩ = some (.int .i64 ((rd_T50 l1 (ji10)).f3)) := (blk_cell BK150.out 3).trans rfl
                    have hcz52_4 : wr.cell? ⟨gb150, 4, none⟩ = some (.int .i64 ((rd_T50 l1 (ji10)).f4)) := (blk_cell BK150.out 4).trans rfl
                    have hfz52_0 := blk_frozen BK150.out 0
                    have hfz52_1 := blk_frozen BK150.out 1
                    have hfz52_2 := blk_frozen BK150.out 2
                    have hfz52_3 := blk_frozen BK150.out 3
                    have hfz52_4 := blk_frozen BK150.out 4
                    have hcz53_0 : wr.cell? ⟨gb143, 0, none⟩ = some (.slice (some ad147) l0_0.length c0_0) := (blk_cell BK143.out 0).trans rfl
                    have hfz53_0 := blk_frozen BK143.out 0
                    have p157 : 0 ≤ (a3 : Int) := oda
                    have q157 : a3 < (l0_0.length : Int) := oda
                    obtain ⟨ad157, A157_0, c157_0, e157, hx157_0, hl157_0, hi157_0⟩ := at_L1 HR0_0.out a3 p157 q157
                    obtain rfl : ad147 = ad157 := (by injection e157)
                    replace hx157_0 := cel HB hx157_0
                    have HR157_0 := Aside0.mk hi157_0
                    have HC157_0 := Aside0.mk hl157_0
                    clear hi157_0 hl157_0
                    replace p157 := eq_true p157
                    replace q157 := eq_true q157
                    have p158 : 0 ≤ ((ji44) : Int) := oda
                    have q158 : (ji44) < ((rd_L1 l0_0 a3).length : Int) := oda
                    obtain ⟨ad158, e158, hx158_0⟩ := Kd.at_int HR157_0.out (ji44) p158 q158
                    cases e158
                    replace hx158_0 := cel HB hx158_0
                    replace p158 := eq_true p158
                    replace q158 := eq_true q158
                    have p159 : 0 ≤ ((ji47) : Int) := oda
                    have q159 : (ji47) < (l1.length : Int) := oda
                    obtain ⟨ad159, e159, hx159_0, hx159_1, hx159_2, hx159_3, hx159_4⟩ := at_T50 HR1.out (ji47) p159 q159
                    obtain rfl : ad149 = ad159 := (by injection e159)
                    replace hx159_0 := cel HB hx159_0
                    replace hx159_1 := cel HB hx159_1
                    replace hx159_2 := cel HB hx159_2
                    replace hx159_3 := cel HB hx159_3
                    replace hx159_4 := cel HB hx159_4
                    replace p159 := eq_true p159
                    replace q159 := eq_true q159
                    go_wp2
                    repeat (go_quiet (fail); try go_wp2)
                    go_roundg k1
                    case measure => have := HK1.out; omega
                    case rel => exact ⟨(x11_1), (wrap64 (x13_1 + 1)), (by first | rfl | (simp; done) | (simp [*]; done)), H', ⟨by have := HK1.out; omega⟩, ⟨rdl HO_11⟩, ⟨bkl BK143⟩, ⟨bkl BK150⟩, ⟨bel2 HB GE143 GE150⟩⟩
                   ·rw [if_neg c50] at H
                    have c50b0 : (((rd_T50 l1 (ji10)).f1) == ((rd_T50 l1 (ji47)).f1)) = false := beq_eq_false_iff_ne.mpr c50
                    have c50b1 : (((rd_T50 l1 (ji10)).f1) != ((rd_T50 l1 (ji47)).f1)) = true := bne_iff_ne.mpr c50
                    by_cases c54 : x11_1.length < 5864062014805
                    ·rw [if_pos c54] at H
                     have LMc54 := Aside0.mk c54
                     clear c54
                     obtain ⟨y160, hy160⟩ : ∃ y_ : List (S66), y_ = (x11_1 ++ [(⟨x13_1, a3, a4⟩ : S66)]) := ⟨_, rfl⟩
                     replace H : (spec_l7At.l0 k1 l1 a2 a3 a4 y160 (wrap64 (x13_1 + 1)) l0_0 ((rd_T50 l1 (ji10)).f0) ((rd_T50 l1 (ji10)).f1) ((rd_T50 l1 (ji10)).f2) ((rd_T50 l1 (ji10)).f3) ((rd_T50 l1 (ji10)).f4)) = some r := by first | (rw [hy160]; with_reducible exact H) | (have H2_ := (Option.bind_some _ _).symm.trans H; rw [hy160]; with_reducible exact H2_) | (have H2_ := (Option.bind_some _ _).symm.trans H; with_reducible exact H2_) | with_reducible exact H | (rw [hy160]; exact H) | exact H
                     have Ny160 := Aside0.mk hy160
                     clear hy160
                     have H' := Aside0.mk H
                     clear H
                     have hnb55 := NB150_143.out
                     have hnc55 := NB143_150.out
                     have hcz56_0 : wr.cell? ⟨gb150, 0, none⟩ = some (.string ((rd_T50 l1 (ji10)).f0)) := (blk_cell BK150.out 0).trans rfl
                     have hcz56_1 : wr.cell? ⟨gb150, 1, none⟩ = some (.int .i64 ((rd_T50 l1 (ji10)).f1)) := (blk_cell BK150.out 1).trans rfl
                     have hcz56_2 : wr.cell? ⟨gb150, 2, none⟩ = some (.int .i64 ((rd_T50 l1 (ji10)).f2)) := (blk_cell BK150.out 2).trans rfl
                     have hcz56_3 : wr.cell? ⟨gb150, 3, none⟩ = some (.int .i64 ((rd_T50 l1 (ji10)).f3)) := (blk_cell BK150.out 3).trans rfl
                     have hcz56_4 : wr.cell? ⟨gb150, 4, none⟩ = some (.int .i64 ((rd_T50 l1 (ji10)).f4)) := (blk_cell BK150.out 4).trans rfl
                     have hfz56_0 := blk_frozen BK150.out 0
                     have hfz56_1 := blk_frozen BK150.out 1
                     have hfz56_2 := blk_frozen BK150.out 2
                     have hfz56_3 := blk_frozen BK150.out 3
                     have hfz56_4 := blk_frozen BK150.out 4
                     have hcz57_0 : wr.cell? ⟨gb143, 0, none⟩ = some (.slice (some ad147) l0_0.length c0_0) := (blk_cell BK143.out 0).trans rfl
                     have hfz57_0 := blk_frozen BK143.out 0
                     have p157 : 0 ≤ (a3 : Int) := oda
                     have q157 : a3 < (l0_0.length : Int) := oda
                     obtain ⟨ad157, A157_0, c157_0, e157, hx157_0, hl157_0, hi157_0⟩ := at_L1 HR0_0.out a3 p157 q157
                     obtain rfl : ad147 = ad157 := (by injection e157)
                     replace hx157_0 := cel HB hx157_0
                     have HR157_0 := Aside0.mk hi157_0
                     have HC157_0 := Aside0.mk hl157_0
                     clear hi157_0 hl157_0
                     replace p157 := eq_true p157
                     replace q157 := eq_true q157
                     have p158 : 0 ≤ ((ji44) : Int) := oda
                     have q158 : (ji44) < ((rd_L1 l0_0 a3).length : Int) := oda
                     obtain ⟨ad158, e158, hx158_0⟩ := Kd.at_int HR157_0.out (ji44) p158 q158
                     cases e158
                     replace hx158_0 := cel HB hx158_0
                     replace p158 := eq_true p158
                     replace q158 := eq_true q158
                     have p159 : 0 ≤ ((ji47) : Int) := oda
                     have q159 : (ji47) < (l1.length : Int) := oda
                     obtain ⟨ad159, e159, hx159_0, hx159_1, hx159_2, hx159_3, hx159_4⟩ := at_T50 HR1.out (ji47) p159 q159
                     obtain rfl : ad149 = ad159 := (by injection e159)
                     replace hx159_0 := cel HB hx159_0
                     replace hx159_1 := cel HB hx159_1
                     replace hx159_2 := cel HB hx159_2
                     replace hx159_3 := cel HB hx159_3
                     replace hx159_4 := cel HB hx159_4
                     replace p159 := eq_true p159
                     replace q159 := eq_true q159
                     go_wp2_with (first | ((with_reducible refine gate_builtin (b := .append) (xs := #[.tmp 97, .tmp 102]) rfl ?_); at_builtin; refine Kd.R_append k66 (w0 := w) w.heap.size rfl (.tmp 97) (.tmp 102) 45 66 (.agg #[(.int .i64 0), (.int .i64 0), (.int .i64 0)]) 24 rfl Try.underlying45 info66 rfl (by decide) (by omega) u11 x11_1 (⟨x13_1, a3, a4⟩ : S66) [.int .i64 x13_1, .int .i64 a3, .int .i64 a4] (fun _ => True) (fun _ => False) rfl rfl ?aP (fun _ hk => hk.elim) ?aF ?aO ?aB ?aS ?aL ?_; (case aP => exact k66_mkM _ _ _ (⟨x13_1, a3, a4⟩ : S66)); (case aB => exact (bel2 HB GE143 GE150)); (case aF => exact (fun _ _ => trivial)); (case aO => exact (rdl HO_11)); (case aS => exact (below_size (bel2 HB GE143 GE150))); (case aL => have := LMc54.out; omega); intro v161 w58 ho hb hg hat; rw [← Ny160.out] at ho; have n0_ := Aside0.mk (blk_grown (g := gb143) (o := .cells #[.slice (some ad147) l0_0.length c0_0] 30 (0, 0)) (bkl BK143) hg (Kd.R_ne HO_11.out BK143.out (by decide))); have n1_ := Aside0.mk (blk_grown (g := gb150) (o := .cells #[.string ((rd_T50 l1 (ji10)).f0), .int .i64 ((rd_T50 l1 (ji10)).f1), .int .i64 ((rd_T50 l1 (ji10)).f2), .int .i64 ((rd_T50 l1 (ji10)).f3), .int .i64 ((rd_T50 l1 (ji10)).f4)] 50 (0, 0)) (bkl BK150) hg (Kd.R_ne HO_11.out BK150.out (by decide))); have n2_ := Aside0.mk (hb); have n3_ := Aside0.mk (ho); clear BK143; clear BK150; clear HB; clear HO_11; have BK143 := n0_; have BK150 := n1_; have HB := n2_; have HO162 := n3_; clear n0_ n1_ n2_ n3_; clear ho hb hg hat))
                     repeat (go_quiet (first | ((with_reducible refine gate_builtin (b := .append) (xs := #[.tmp 97, .tmp 102]) rfl ?_); at_builtin; refine Kd.R_append k66 (w0 := w) w.heap.size rfl (.tmp 97) (.tmp 102) 45 66 (.agg #[(.int .i64 0), (.int .i64 0), (.int .i64 0)]) 24 rfl Try.underlying45 info66 rfl (by decide) (by omega) u11 x11_1 (⟨x13_1, a3, a4⟩ : S66) [.int .i64 x13_1, .int .i64 a3, .int .i64 a4] (fun _ => True) (fun _ => False) rfl rfl ?aP (fun _ hk => hk.elim) ?aF ?aO ?aB ?aS ?aL ?_; (case aP => exact k66_mkM _ _ _ (⟨x13_1, a3, a4⟩ : S66)); (case aB => exact (bel2 HB GE143 GE150)); (case aF => exact (fun _ _ => trivial)); (case aO => exact (rdl HO_11)); (case aS => exact (below_size (bel2 HB GE143 GE150))); (case aL => have := LMc54.out; omega); intro v161 w58 ho hb hg hat; rw [← Ny160.out] at ho; have n0_ := Aside0.mk (blk_grown (g := gb143) (o := .cells #[.slice (some ad147) l0_0.length c0_0] 30 (0, 0)) (bkl BK143) hg (Kd.R_ne HO_11.out BK143.out (by decide))); have n1_ := Aside0.mk (blk_grown (g := gb150) (o := .cells #[.string ((rd_T50 l1 (ji10)).f0), .int .i64 ((rd_T50 l1 (ji10)).f1), .int .i64 ((rd_T50 l1 (ji10)).f2), .int .i64 ((rd_T50 l1 (ji10)).f3), .int .i64 ((rd_T50 l1 (ji10)).f4)] 50 (0, 0)) (bkl BK150) hg (Kd.R_ne HO_11.out BK150.out (by decide))); have n2_ := Aside0.mk (hb); have n3_ := Aside0.mk (ho); clear BK143; clear BK150; clear HB; clear HO_11; have BK143 := n0_; have BK150 := n1_; have HB := n2_; have HO162 := n3_; clear n0_ n1_ n2_ n3_; clear ho hb hg hat)); try go_wp2_with (first | ((with_reducible refine gate_builtin (b := .append) (xs := #[.tmp 97, .tmp 102]) rfl ?_); at_builtin; refine Kd.R_append k66 (w0 := w) w.heap.size rfl (.tmp 97) (.tmp 102) 45 66 (.agg #[(.int .i64 0), (.int .i64 0), (.int .i64 0)]) 24 rfl Try.underlying45 info66 rfl (by decide) (by omega) u11 x11_1 (⟨x13_1, a3, a4⟩ : S66) [.int .i64 x13_1, .int .i64 a3, .int .i64 a4] (fun _ => True) (fun _ => False) rfl rfl ?aP (fun _ hk => hk.elim) ?aF ?aO ?aB ?aS ?aL ?_; (case aP => exact k66_mkM _ _ _ (⟨x13_1, a3, a4⟩ : S66)); (case aB => exact (bel2 HB GE143 GE150)); (case aF => exact (fun _ _ => trivial)); (case aO => exact (rdl HO_11)); (case aS => exact (below_size (bel2 HB GE143 GE150))); (case aL => have := LMc54.out; omega); intro v161 w58 ho hb hg hat; rw [← Ny160.out] at ho; have n0_ := Aside0.mk (blk_grown (g := gb143) (o := .cells #[.slice (some ad147) l0_0.length c0_0] 30 (0, 0)) (bkl BK143) hg (Kd.R_ne HO_11.out BK143.out (by decide))); have n1_ := Aside0.mk (blk_grown (g := gb150) (o := .cells #[.string ((rd_T50 l1 (ji10)).f0), .int .i64 ((rd_T50 l1 (ji10)).f1), .int .i64 ((rd_T50 l1 (ji10)).f2), .int .i64 ((rd_T50 l1 (ji10)).f3), .int .i64 ((rd_T50 l1 (ji10)).f4)] 50 (0, 0)) (bkl BK150) hg (Kd.R_ne HO_11.out BK150.out (by decide))); have n2_ := Aside0.mk (hb); have n3_ := Aside0.mk (ho); clear BK143; clear BK150; clear HB; clear HO_11; have BK143 := n0_; have BK150 := n1_; have HB := n2_; have HO162 := n3_; clear n0_ n1_ n2_ n3_; clear ho hb hg hat)))
                     go_roundg k1
                     case measure => have := HK1.out; omega
                     case rel => exact ⟨(y160), (wrap64 (x13_1 + 1)), (by first | rfl | (simp; done) | (simp [*]; done)), H', ⟨by have := HK1.out; omega⟩, ⟨rdl HO162⟩, ⟨bkl BK143⟩, ⟨bkl BK150⟩, ⟨bel2 HB GE143 GE150⟩⟩
                    ·rw [if_neg c54] at H
                     exact absurd H (by simp)
                  ·rw [if_neg c49] at H
                   exact absurd H (by simp)
                 ·rw [if_neg c48] at H
                  exact absurd H (by simp)
                ·rw [if_neg c46] at H
                 exact absurd H (by simp)
               ·rw [if_neg c45] at H
                exact absurd H (by simp)
              ·rw [if_neg c43] at H
               exact absurd H (by simp)
             ·rw [if_neg c42] at H
              exact absurd H (by simp)
            ·rw [if_neg c41] at H
             have c41b0 : decide (0 < a4) = false := decide_eq_false c41
             clear c41
             have H' := Aside0.mk H
             clear H
             go_wp2
             repeat (go_quiet (fail); try go_wp2)
             go_roundg k1
             case measure => have := HK1.out; omega
             case rel => exact ⟨(x11_1), (wrap64 (x13_1 + 1)), (by first | rfl | (simp; done) | (simp [*]; done)), H', ⟨by have := HK1.out; omega⟩, ⟨rdl HO_11⟩, ⟨bkl BK143⟩, ⟨bkl BK150⟩, ⟨bel2 HB GE143 GE150⟩⟩
           ·rw [if_neg c40] at H
            have c40b0 : (x13_1 == 2) = false := beq_eq_false_iff_ne.mpr c40
            have c40b1 : (x13_1 != 2) = true := bne_iff_ne.mpr c40
            by_cases c59 : x13_1 = 3
            ·rw [if_pos c59] at H
             have c59b0 : (x13_1 == 3) = true := beq_iff_eq.mpr c59
             have c59b1 : (x13_1 != 3) = false := bne_eq_false_iff_eq.mpr c59
             clear c59
             by_cases c60 : a4 > 0
             ·rw [if_pos c60] at H
              have c60b0 : decide (0 < a4) = true := decide_eq_true c60
              clear c60
              by_cases c61 : ((rd_T50 l1 (ji10)).f3) = 3
              ·rw [if_pos c61] at H
               have c61b0 : (((rd_T50 l1 (ji10)).f3) == 3) = true := beq_iff_eq.mpr c61
               have c61b1 : (((rd_T50 l1 (ji10)).f3) != 3) = false := bne_eq_false_iff_eq.mpr c61
               clear c61
               by_cases c62 : x11_1.length < 5864062014805
               ·rw [if_pos c62] at H
                have LMc62 := Aside0.mk c62
                clear c62
                obtain ⟨y163, hy163⟩ : ∃ y_ : List (S66), y_ = (x11_1 ++ [(⟨x13_1, a3, a4⟩ : S66)]) := ⟨_, rfl⟩
                replace H : (spec_l7At.l0 k1 l1 a2 a3 a4 y163 (wrap64 (x13_1 + 1)) l0_0 ((rd_T50 l1 (ji10)).f0) ((rd_T50 l1 (ji10)).f1) ((rd_T50 l1 (ji10)).f2) ((rd_T50 l1 (ji10)).f3) ((rd_T50 l1 (ji10)).f4)) = some r := by first | (rw [hy163]; with_reducible exact H) | (have H2_ := (Option.bind_some _ _).symm.trans H; rw [hy163]; with_reducible exact H2_) | (have H2_ := (Option.bind_some _ _).symm.trans H; with_reducible exact H2_) | with_reducible exact H | (rw [hy163]; exact H) | exact H
                have Ny163 := Aside0.mk hy163
                clear hy163
                have H' := Aside0.mk H
                clear H
                have hnb63 := NB150_143.out
                have hnc63 := NB143_150.out
                have hcz64_0 : wr.cell? ⟨gb150, 0, none⟩ = some (.string ((rd_T50 l1 (ji10)).f0)) := (blk_cell BK150.out 0).trans rfl
                have hcz64_1 : wr.cell? ⟨gb150, 1, none⟩ = some (.int .i64 ((rd_T50 l1 (ji10)).f1)) := (blk_cell BK150.out 1).trans rfl
                have hcz64_2 : wr.cell? ⟨gb150, 2, none⟩ = some (.int .i64 ((rd_T50 l1 (ji10)).f2)) := (blk_cell BK150.out 2).trans rfl
                have hcz64_3 : wr.cell? ⟨gb150, 3, none⟩ = some (.int .i64 ((rd_T50 l1 (ji10)).f3)) := (blk_cell BK150.out 3).trans rfl
                have hcz64_4 : wr.cell? ⟨gb150, 4, none⟩ = some (.int .i64 ((rd_T50 l1 (ji10)).f4)) := (blk_cell BK150.out 4).trans rfl
                have hfz64_0 := blk_frozen BK150.out 0
                have hfz64_1 := blk_frozen BK150.out 1
                have hfz64_2 := blk_frozen BK150.out 2
                have hfz64_3 := blk_frozen BK150.out 3
                have hfz64_4 := blk_frozen BK150.out 4
                go_wp2_with (first | ((with_reducible refine gate_builtin (b := .append) (xs := #[.tmp 97, .tmp 102]) rfl ?_); at_builtin; refine Kd.R_append k66 (w0 := w) w.heap.size rfl (.tmp 97) (.tmp 102) 45 66 (.agg #[(.int .i64 0), (.int .i64 0), (.int .i64 0)]) 24 rfl Try.underlying45 info66 rfl (by decide) (by omega) u11 x11_1 (⟨x13_1, a3, a4⟩ : S66) [.int .i64 x13_1, .int .i64 a3, .int .i64 a4] (fun _ => True) (fun _ => False) rfl rfl ?aP (fun _ hk => hk.elim) ?aF ?aO ?aB ?aS ?aL ?_; (case aP => exact k66_mkM _ _ _ (⟨x13_1, a3, a4⟩ : S66)); (case aB => exact (bel2 HB GE143 GE150)); (case aF => exact (fun _ _ => trivial)); (case aO => exact (rdl HO_11)); (case aS => exact (below_size (bel2 HB GE143 GE150))); (case aL => have := LMc62.out; omega); intro v164 w65 ho hb hg hat; rw [← Ny163.out] at ho; have n0_ := Aside0.mk (blk_grown (g := gb143) (o := .cells #[.slice (some ad147) l0_0.length c0_0] 30 (0, 0)) (bkl BK143) hg (Kd.R_ne HO_11.out BK143.out (by decide))); have n1_ := Aside0.mk (blk_grown (g := gb150) (o := .cells #[.string ((rd_T50 l1 (ji10)).f0), .int .i64 ((rd_T50 l1 (ji10)).f1), .int .i64 ((rd_T50 l1 (ji10)).f2), .int .i64 ((rd_T50 l1 (ji10)).f3), .int .i64 ((rd_T50 l1 (ji10)).f4)] 50 (0, 0)) (bkl BK150) hg (Kd.R_ne HO_11.out BK150.out (by decide))); have n2_ := Aside0.mk (hb); have n3_ := Aside0.mk (ho); clear BK143; clear BK150; clear HB; clear HO_11; have BK143 := n0_; have BK150 := n1_; have HB := n2_; have HO165 := n3_; clear n0_ n1_ n2_ n3_; clear ho hb hg hat))
                repeat (go_quiet (first | ((with_reducible refine gate_builtin (b := .append) (xs := #[.tmp 97, .tmp 102]) rfl ?_); at_builtin; refine Kd.R_append k66 (w0 := w) w.heap.size rfl (.tmp 97) (.tmp 102) 45 66 (.agg #[(.int .i64 0), (.int .i64 0), (.int .i64 0)]) 24 rfl Try.underlying45 info66 rfl (by decide) (by omega) u11 x11_1 (⟨x13_1, a3, a4⟩ : S66) [.int .i64 x13_1, .int .i64 a3, .int .i64 a4] (fun _ => True) (fun _ => False) rfl rfl ?aP (fun _ hk => hk.elim) ?aF ?aO ?aB ?aS ?aL ?_; (case aP => exact k66_mkM _ _ _ (⟨x13_1, a3, a4⟩ : S66)); (case aB => exact (bel2 HB GE143 GE150)); (case aF => exact (fun _ _ => trivial)); (case aO => exact (rdl HO_11)); (case aS => exact (below_size (bel2 HB GE143 GE150))); (case aL => have := LMc62.out; omega); intro v164 w65 ho hb hg hat; rw [← Ny163.out] at ho; have n0_ := Aside0.mk (blk_grown (g := gb143) (o := .cells #[.slice (some ad147) l0_0.length c0_0] 30 (0, 0)) (bkl BK143) hg (Kd.R_ne HO_11.out BK143.out (by decide))); have n1_ := Aside0.mk (blk_grown (g := gb150) (o := .cells #[.string ((rd_T50 l1 (ji10)).f0), .int .i64 ((rd_T50 l1 (ji10)).f1), .int .i64 ((rd_T50 l1 (ji10)).f2), .int .i64 ((rd_T50 l1 (ji10)).f3), .int .i64 ((rd_T50 l1 (ji10)).f4)] 50 (0, 0)) (bkl BK150) hg (Kd.R_ne HO_11.out BK150.out (by decide))); have n2_ := Aside0.mk (hb); have n3_ := Aside0.mk (ho); clear BK143; clear BK150; clear HB; clear HO_11; have BK143 := n0_; have BK150 := n1_; have HB := n2_; have HO165 := n3_; clear n0_ n1_ n2_ n3_; clear ho hb hg hat)); try go_wp2_with (first | ((with_reducible refine gate_builtin (b := .append) (xs := #[.tmp 97, .tmp 102]) rfl ?_); at_builtin; refine Kd.R_append k66 (w0 := w) w.heap.size rfl (.tmp 97) (.tmp 102) 45 66 (.agg #[(.int .i64 0), (.int .i64 0), (.int .i64 0)]) 24 rfl Try.underlying45 info66 rfl (by decide) (by omega) u11 x11_1 (⟨x13_1, a3, a4⟩ : S66) [.int .i64 x13_1, .int .i64 a3, .int .i64 a4] (fun _ => True) (fun _ => False) rfl rfl ?aP (fun _ hk => hk.elim) ?aF ?aO ?aB ?aS ?aL ?_; (case aP => exact k66_mkM _ _ _ (⟨x13_1, a3, a4⟩ : S66)); (case aB => exact (bel2 HB GE143 GE150)); (case aF => exact (fun _ _ => trivial)); (case aO => exact (rdl HO_11)); (case aS => exact (below_size (bel2 HB GE143 GE150))); (case aL => have := LMc62.out; omega); intro v164 w65 ho hb hg hat; rw [← Ny163.out] at ho; have n0_ := Aside0.mk (blk_grown (g := gb143) (o := .cells #[.slice (some ad147) l0_0.length c0_0] 30 (0, 0)) (bkl BK143) hg (Kd.R_ne HO_11.out BK143.out (by decide))); have n1_ := Aside0.mk (blk_grown (g := gb150) (o := .cells #[.string ((rd_T50 l1 (ji10)).f0), .int .i64 ((rd_T50 l1 (ji10)).f1), .int .i64 ((rd_T50 l1 (ji10)).f2), .int .i64 ((rd_T50 l1 (ji10)).f3), .int .i64 ((rd_T50 l1 (ji10)).f4)] 50 (0, 0)) (bkl BK150) hg (Kd.R_ne HO_11.out BK150.out (by decide))); have n2_ := Aside0.mk (hb); have n3_ := Aside0.mk (ho); clear BK143; clear BK150; clear HB; clear HO_11; have BK143 := n0_; have BK150 := n1_; have HB := n2_; have HO165 := n3_; clear n0_ n1_ n2_ n3_; clear ho hb hg hat)))
                go_roundg k1
                case measure => have := HK1.out; omega
                case rel => exact ⟨(y163), (wrap64 (x13_1 + 1)), (by first | rfl | (simp; done) | (simp [*]; done)), H', ⟨by have := HK1.out; omega⟩, ⟨rdl HO165⟩, ⟨bkl BK143⟩, ⟨bkl BK150⟩, ⟨bel2 HB GE143 GE150⟩⟩
               ·rw [if_neg c62] at H
                exact absurd H (by simp)
              ·rw [if_neg c61] at H
               have c61b0 : (((rd_T50 l1 (ji10)).f3) == 3) = false := beq_eq_false_iff_ne.mpr c61
               have c61b1 : (((rd_T50 l1 (ji10)).f3) != 3) = true := bne_iff_ne.mpr c61
               have H' := Aside0.mk H
               clear H
               have hnb66 := NB150_143.out
               have hnc66 := NB143_150.out
               have hcz67_0 : wr.cell? ⟨gb150, 0, none⟩ = some (.string ((rd_T50 l1 (ji10)).f0)) := (blk_cell BK150.out 0).trans rfl
               have hcz67_1 : wr.cell? ⟨gb150, 1, none⟩ = some (.int .i64 ((rd_T50 l1 (ji10)).f1)) := (blk_cell BK150.out 1).trans rfl
               have hcz67_2 : wr.cell? ⟨gb150, 2, none⟩ = some (.int .i64 ((rd_T50 l1 (ji10)).f2)) := (blk_cell BK150.out 2).trans rfl
               have hcz67_3 : wr.cell? ⟨gb150, 3, none⟩ = some (.int .i64 ((rd_T50 l1 (ji10)).f3)) := (blk_cell BK150.out 3).trans rfl
               have hcz67_4 : wr.cell? ⟨gb150, 4, none⟩ = some (.int .i64 ((rd_T50 l1 (ji10)).f4)) := (blk_cell BK150.out 4).trans rfl
               have hfz67_0 := blk_frozen BK150.out 0
               have hfz67_1 := blk_frozen BK150.out 1
               have hfz67_2 := blk_frozen BK150.out 2
               have hfz67_3 := blk_frozen BK150.out 3
               have hfz67_4 := blk_frozen BK150.out 4
               go_wp2
               repeat (go_quiet (fail); try go_wp2)
               go_roundg k1
               case measure => have := HK1.out; omega
               case rel => exact ⟨(x11_1), (wrap64 (x13_1 + 1)), (by first | rfl | (simp; done) | (simp [*]; done)), H', ⟨by have := HK1.out; omega⟩, ⟨rdl HO_11⟩, ⟨bkl BK143⟩, ⟨bkl BK150⟩, ⟨bel2 HB GE143 GE150⟩⟩
             ·rw [if_neg c60] at H
              have c60b0 : decide (0 < a4) = false := decide_eq_false c60
              clear c60
              have H' := Aside0.mk H
              clear H
              go_wp2
              repeat (go_quiet (fail); try go_wp2)
              go_roundg k1
              case measure => have := HK1.out; omega
              case rel => exact ⟨(x11_1), (wrap64 (x13_1 + 1)), (by first | rfl | (simp; done) | (simp [*]; done)), H', ⟨by have := HK1.out; omega⟩, ⟨rdl HO_11⟩, ⟨bkl BK143⟩, ⟨bkl BK150⟩, ⟨bel2 HB GE143 GE150⟩⟩
            ·rw [if_neg c59] at H
             have c59b0 : (x13_1 == 3) = false := beq_eq_false_iff_ne.mpr c59
             have c59b1 : (x13_1 != 3) = true := bne_iff_ne.mpr c59
             by_cases c68 : ((rd_T50 l1 (ji10)).f3) = 2
             ·rw [if_pos c68] at H
              have c68b0 : (((rd_T50 l1 (ji10)).f3) == 2) = true := beq_iff_eq.mpr c68
              have c68b1 : (((rd_T50 l1 (ji10)).f3) != 2) = false := bne_eq_false_iff_eq.mpr c68
              clear c68
              by_cases c69 : a3 ≥ a2
              ·rw [if_pos c69] at H
               have c69b0 : decide (a2 ≤ a3) = true := decide_eq_true c69
               clear c69
               by_cases c70 : x11_1.length < 5864062014805
               ·rw [if_pos c70] at H
                have LMc70 := Aside0.mk c70
                clear c70
                obtain ⟨y166, hy166⟩ : ∃ y_ : List (S66), y_ = (x11_1 ++ [(⟨x13_1, a3, a4⟩ : S66)]) := ⟨_, rfl⟩
                replace H : (spec_l7At.l0 k1 l1 a2 a3 a4 y166 (wrap64 (x13_1 + 1)) l0_0 ((rd_T50 l1 (ji10)).f0) ((rd_T50 l1 (ji10)).f1) ((rd_T50 l1 (ji10)).f2) ((rd_T50 l1 (ji10)).f3) ((rd_T50 l1 (ji10)).f4)) = some r := by first | (rw [hy166]; with_reducible exact H) | (have H2_ := (Option.bind_some _ _).symm.trans H; rw [hy166]; with_reducible exact H2_) | (have H2_ := (Option.bind_some _ _).symm.trans H; with_reducible exact H2_) | with_reducible exact H | (rw [hy166]; exact H) | exact H
                have Ny166 := Aside0.mk hy166
                clear hy166
                have H' := Aside0.mk H
                clear H
                have hnb71 := NB150_143.out
                have hnc71 := NB143_150.out
                have hcz72_0 : wr.cell? ⟨gb150, 0, none⟩ = some (.string ((rd_T50 l1 (ji10)).f0)) := (blk_cell BK150.out 0).trans rfl
                have hcz72_1 : wr.cell? ⟨gb150, 1, none⟩ = some (.int .i64 ((rd_T50 l1 (ji10)).f1)) := (blk_cell BK150.out 1).trans rfl
                have hcz72_2 : wr.cell? ⟨gb150, 2, none⟩ = some (.int .i64 ((rd_T50 l1 (ji10)).f2)) := (blk_cell BK150.out 2).trans rfl
                have hcz72_3 : wr.cell? ⟨gb150, 3, none⟩ = some (.int .i64 ((rd_T50 l1 (ji10)).f3)) := (blk_cell BK150.out 3).trans rfl
                have hcz72_4 : wr.cell? ⟨gb150, 4, none⟩ = some (.int .i64 ((rd_T50 l1 (ji10)).f4)) := (blk_cell BK150.out 4).trans rfl
                have hfz72_0 := blk_frozen BK150.out 0
                have hfz72_1 := blk_frozen BK150.out 1
                have hfz72_2 := blk_frozen BK150.out 2
                have hfz72_3 := blk_frozen BK150.out 3
                have hfz72_4 := blk_frozen BK150.out 4
                go_wp2_with (first | ((with_reducible refine gate_builtin (b := .append) (xs := #[.tmp 97, .tmp 102]) rfl ?_); at_builtin; refine Kd.R_append k66 (w0 := w) w.heap.size rfl (.tmp 97) (.tmp 102) 45 66 (.agg #[(.int .i64 0), (.int .i64 0), (.int .i64 0)]) 24 rfl Try.underlying45 info66 rfl (by decide) (by omega) u11 x11_1 (⟨x13_1, a3, a4⟩ : S66) [.int .i64 x13_1, .int .i64 a3, .int .i64 a4] (fun _ => True) (fun _ => False) rfl rfl ?aP (fun _ hk => hk.elim) ?aF ?aO ?aB ?aS ?aL ?_; (case aP => exact k66_mkM _ _ _ (⟨x13_1, a3, a4⟩ : S66)); (case aB => exact (bel2 HB GE143 GE150)); (case aF => exact (fun _ _ => trivial)); (case aO => exact (rdl HO_11)); (case aS => exact (below_size (bel2 HB GE143 GE150))); (case aL => have := LMc70.out; omega); intro v167 w73 ho hb hg hat; rw [← Ny166.out] at ho; have n0_ := Aside0.mk (blk_grown (g := gb143) (o := .cells #[.slice (some ad147) l0_0.length c0_0] 30 (0, 0)) (bkl BK143) hg (Kd.R_ne HO_11.out BK143.out (by decide))); have n1_ := Aside0.mk (blk_grown (g := gb150) (o := .cells #[.string ((rd_T50 l1 (ji10)).f0), .int .i64 ((rd_T50 l1 (ji10)).f1), .int .i64 ((rd_T50 l1 (ji10)).f2), .int .i64 ((rd_T50 l1 (ji10)).f3), .int .i64 ((rd_T50 l1 (ji10)).f4)] 50 (0, 0)) (bkl BK150) hg (Kd.R_ne HO_11.out BK150.out (by decide))); have n2_ := Aside0.mk (hb); have n3_ := Aside0.mk (ho); clear BK143; clear BK150; clear HB; clear HO_11; have BK143 := n0_; have BK150 := n1_; have HB := n2_; have HO168 := n3_; clear n0_ n1_ n2_ n3_; clear ho hb hg hat))
                repeat (go_quiet (first | ((with_reducible refine gate_builtin (b := .append) (xs := #[.tmp 97, .tmp 102]) rfl ?_); at_builtin; refine Kd.R_append k66 (w0 := w) w.heap.size rfl (.tmp 97) (.tmp 102) 45 66 (.agg #[(.int .i64 0), (.int .i64 0), (.int .i64 0)]) 24 rfl Try.underlying45 info66 rfl (by decide) (by omega) u11 x11_1 (⟨x13_1, a3, a4⟩ : S66) [.int .i64 x13_1, .int .i64 a3, .int .i64 a4] (fun _ => True) (fun _ => False) rfl rfl ?aP (fun _ hk => hk.elim) ?aF ?aO ?aB ?aS ?aL ?_; (case aP => exact k66_mkM _ _ _ (⟨x13_1, a3, a4⟩ : S66)); (case aB => exact (bel2 HB GE143 GE150)); (case aF => exact (fun _ _ => trivial)); (case aO => exact (rdl HO_11)); (case aS => exact (below_size (bel2 HB GE143 GE150))); (case aL => have := LMc70.out; omega); intro v167 w73 ho hb hg hat; rw [← Ny166.out] at ho; have n0_ := Aside0.mk (blk_grown (g := gb143) (o := .cells #[.slice (some ad147) l0_0.length c0_0] 30 (0, 0)) (bkl BK143) hg (Kd.R_ne HO_11.out BK143.out (by decide))); have n1_ := Aside0.mk (blk_grown (g := gb150) (o := .cells #[.string ((rd_T50 l1 (ji10)).f0), .int .i64 ((rd_T50 l1 (ji10)).f1), .int .i64 ((rd_T50 l1 (ji10)).f2), .int .i64 ((rd_T50 l1 (ji10)).f3), .int .i64 ((rd_T50 l1 (ji10)).f4)] 50 (0, 0)) (bkl BK150) hg (Kd.R_ne HO_11.out BK150.out (by decide))); have n2_ := Aside0.mk (hb); have n3_ := Aside0.mk (ho); clear BK143; clear BK150; clear HB; clear HO_11; have BK143 := n0_; have BK150 := n1_; have HB := n2_; have HO168 := n3_; clear n0_ n1_ n2_ n3_; clear ho hb hg hat)); try go_wp2_with (first | ((with_reducible refine gate_builtin (b := .append) (xs := #[.tmp 97, .tmp 102]) rfl ?_); at_builtin; refine Kd.R_append k66 (w0 := w) w.heap.size rfl (.tmp 97) (.tmp 102) 45 66 (.agg #[(.int .i64 0), (.int .i64 0), (.int .i64 0)]) 24 rfl Try.underlying45 info66 rfl (by decide) (by omega) u11 x11_1 (⟨x13_1, a3, a4⟩ : S66) [.int .i64 x13_1, .int .i64 a3, .int .i64 a4] (fun _ => True) (fun _ => False) rfl rfl ?aP (fun _ hk => hk.elim) ?aF ?aO ?aB ?aS ?aL ?_; (case aP => exact k66_mkM _ _ _ (⟨x13_1, a3, a4⟩ : S66)); (case aB => exact (bel2 HB GE143 GE150)); (case aF => exact (fun _ _ => trivial)); (case aO => exact (rdl HO_11)); (case aS => exact (below_size (bel2 HB GE143 GE150))); (case aL => have := LMc70.out; omega); intro v167 w73 ho hb hg hat; rw [← Ny166.out] at ho; have n0_ := Aside0.mk (blk_grown (g := gb143) (o := .cells #[.slice (some ad147) l0_0.length c0_0] 30 (0, 0)) (bkl BK143) hg (Kd.R_ne HO_11.out BK143.out (by decide))); have n1_ := Aside0.mk (blk_grown (g := gb150) (o := .cells #[.string ((rd_T50 l1 (ji10)).f0), .int .i64 ((rd_T50 l1 (ji10)).f1), .int .i64 ((rd_T50 l1 (ji10)).f2), .int .i64 ((rd_T50 l1 (ji10)).f3), .int .i64 ((rd_T50 l1 (ji10)).f4)] 50 (0, 0)) (bkl BK150) hg (Kd.R_ne HO_11.out BK150.out (by decide))); have n2_ := Aside0.mk (hb); have n3_ := Aside0.mk (ho); clear BK143; clear BK150; clear HB; clear HO_11; have BK143 := n0_; have BK150 := n1_; have HB := n2_; have HO168 := n3_; clear n0_ n1_ n2_ n3_; clear ho hb hg hat)))
                go_roundg k1
                case measure => have := HK1.out; omega
                case rel => exact ⟨(y166), (wrap64 (x13_1 + 1)), (by first | rfl | (simp; done) | (simp [*]; done)), H', ⟨by have := HK1.out; omega⟩, ⟨rdl HO168⟩, ⟨bkl BK143⟩, ⟨bkl BK150⟩, ⟨bel2 HB GE143 GE150⟩⟩
               ·rw [if_neg c70] at H
                exact absurd H (by simp)
              ·rw [if_neg c69] at H
               have c69b0 : decide (a2 ≤ a3) = false := decide_eq_false c69
               clear c69
               have H' := Aside0.mk H
               clear H
               have hnb74 := NB150_143.out
               have hnc74 := NB143_150.out
               have hcz75_0 : wr.cell? ⟨gb150, 0, none⟩ = some (.string ((rd_T50 l1 (ji10)).f0)) := (blk_cell BK150.out 0).trans rfl
               have hcz75_1 : wr.cell? ⟨gb150, 1, none⟩ = some (.int .i64 ((rd_T50 l1 (ji10)).f1)) := (blk_cell BK150.out 1).trans rfl
               have hcz75_2 : wr.cell? ⟨gb150, 2, none⟩ = some (.int .i64 ((rd_T50 l1 (ji10)).f2)) := (blk_cell BK150.out 2).trans rfl
               have hcz75_3 : wr.cell? ⟨gb150, 3, none⟩ = some (.int .i64 ((rd_T50 l1 (ji10)).f3)) := (blk_cell BK150.out 3).trans rfl
               have hcz75_4 : wr.cell? ⟨gb150, 4, none⟩ = some (.int .i64 ((rd_T50 l1 (ji10)).f4)) := (blk_cell BK150.out 4).trans rfl
               have hfz75_0 := blk_frozen BK150.out 0
               have hfz75_1 := blk_frozen BK150.out 1
               have hfz75_2 := blk_frozen BK150.out 2
               have hfz75_3 := blk_frozen BK150.out 3
               have hfz75_4 := blk_frozen BK150.out 4
               go_wp2
               repeat (go_quiet (fail); try go_wp2)
               go_roundg k1
               case measure => have := HK1.out; omega
               case rel => exact ⟨(x11_1), (wrap64 (x13_1 + 1)), (by first | rfl | (simp; done) | (simp [*]; done)), H', ⟨by have := HK1.out; omega⟩, ⟨rdl HO_11⟩, ⟨bkl BK143⟩, ⟨bkl BK150⟩, ⟨bel2 HB GE143 GE150⟩⟩
             ·rw [if_neg c68] at H
              have c68b0 : (((rd_T50 l1 (ji10)).f3) == 2) = false := beq_eq_false_iff_ne.mpr c68
              have c68b1 : (((rd_T50 l1 (ji10)).f3) != 2) = true := bne_iff_ne.mpr c68
              have H' := Aside0.mk H
              clear H
              have hnb76 := NB150_143.out
              have hnc76 := NB143_150.out
              have hcz77_0 : wr.cell? ⟨gb150, 0, none⟩ = some (.string ((rd_T50 l1 (ji10)).f0)) := (blk_cell BK150.out 0).trans rfl
              have hcz77_1 : wr.cell? ⟨gb150, 1, none⟩ = some (.int .i64 ((rd_T50 l1 (ji10)).f1)) := (blk_cell BK150.out 1).trans rfl
              have hcz77_2 : wr.cell? ⟨gb150, 2, none⟩ = some (.int .i64 ((rd_T50 l1 (ji10)).f2)) := (blk_cell BK150.out 2).trans rfl
              have hcz77_3 : wr.cell? ⟨gb150, 3, none⟩ = some (.int .i64 ((rd_T50 l1 (ji10)).f3)) := (blk_cell BK150.out 3).trans rfl
              have hcz77_4 : wr.cell? ⟨gb150, 4, none⟩ = some (.int .i64 ((rd_T50 l1 (ji10)).f4)) := (blk_cell BK150.out 4).trans rfl
              have hfz77_0 := blk_frozen BK150.out 0
              have hfz77_1 := blk_frozen BK150.out 1
              have hfz77_2 := blk_frozen BK150.out 2
              have hfz77_3 := blk_frozen BK150.out 3
              have hfz77_4 := blk_frozen BK150.out 4
              go_wp2
              repeat (go_quiet (fail); try go_wp2)
              go_roundg k1
              case measure => have := HK1.out; omega
              case rel => exact ⟨(x11_1), (wrap64 (x13_1 + 1)), (by first | rfl | (simp; done) | (simp [*]; done)), H', ⟨by have := HK1.out; omega⟩, ⟨rdl HO_11⟩, ⟨bkl BK143⟩, ⟨bkl BK150⟩, ⟨bel2 HB GE143 GE150⟩⟩
         ·rw [if_neg c20] at H
          have c20b0 : decide (x13_1 ≤ 4) = false := decide_eq_false c20
          clear c20
          obtain rfl := Option.some.inj H
          go_wp2
          repeat (go_quiet (fail); try go_wp2)
          go_ret
          exact ⟨_, by first | rfl | (simp [errW_none, errW_some] <;> rfl) | (simp only [← hji10]; first | rfl | (simp [errW_none, errW_some] <;> rfl)) | (simp [*, errW_none, errW_some] <;> rfl), rdl HO_11, bel2 HB GE143 GE150⟩
      ·rw [if_neg c12] at H
       exact absurd H (by simp)
     ·rw [if_neg c11] at H
      exact absurd H (by simp)
    ·rw [if_neg c9] at H
     exact absurd H (by simp)
   ·rw [if_neg c8] at H
    exact absurd H (by simp)
  ·rw [if_neg c7] at H
   exact absurd H (by simp)
 ·rw [if_neg c6] at H
  exact absurd H (by simp)

/-! ### spec_l7Findings: function 20 -/
mutual
def spec_l7Findings.l0 : Nat → List (S50) → Int → List (S66) → Int → List (List Int) → Option ((List (S66)))
 | 0, _, _, _, _, _ => none
 | k + 1, x1, x2, x7, x8, x170000 => if x8 < (x170000.length : Int) then (spec_l7Findings.l1 k x1 x2 x7 x8 0 x170000) else (some x7)
def spec_l7Findings.l1 : Nat → List (S50) → Int → List (S66) → Int → Int → List (List Int) → Option ((List (S66)))
 | 0, _, _, _, _, _, _ => none
 | k + 1, x1, x2, x7, x8, x9, x170000 => if 0 ≤ x8 then (if x8 < (x170000.length : Int) then (if x9 < ((rd_L1 x170000 x8).length : Int) then ((spec_l7At.f k x170000 x1 x2 x8 x9).bind fun t174 => (if x7.length + t174.length < 5864062014805 then (spec_l7Findings.l1 k x1 x2 (x7 ++ t174) x8 (wrap64 (x9 + 1)) x170000) else (none))) else (spec_l7Findings.l0 k x1 x2 x7 (wrap64 (x8 + 1)) x170000)) else (none)) else (none)
end
def spec_l7Findings.f (k : Nat) (l0_0 : List (List Int)) (l1 : List (S50)) (a2 : Int) : Option ((List (S66))) := spec_l7Findings.l0 k l1 a2 (([] : List (S66))) 0 l0_0
theorem spec_l7Findings.mono_l : ∀ k, (∀ y0 y1 y2 y3 y4, LeO (spec_l7Findings.l0 k y0 y1 y2 y3 y4) (spec_l7Findings.l0 (k + 1) y0 y1 y2 y3 y4)) ∧ (∀ y0 y1 y2 y3 y4 y5, LeO (spec_l7Findings.l1 k y0 y1 y2 y3 y4 y5) (spec_l7Findings.l1 (k + 1) y0 y1 y2 y3 y4 y5))
 | 0 => ⟨fun _ _ _ _ _ r h => by simp [spec_l7Findings.l0] at h, fun _ _ _ _ _ _ r h => by simp [spec_l7Findings.l1] at h⟩
 | k + 1 => by
  obtain ⟨ih0, ih1⟩ := spec_l7Findings.mono_l k
  refine ⟨?_, ?_⟩
  ·intro y0 y1 y2 y3 y4
   unfold spec_l7Findings.l0
   repeat' first
   | (with_reducible exact ih0 _ _ _ _ _)
   | (with_reducible exact ih1 _ _ _ _ _ _)
   | (with_reducible exact spec_l7At.mono _ _ _ _ _ _)
   | (with_reducible exact LeO.refl _)
   | (with_reducible exact LeO.none _)
   | (with_reducible refine LeO.ite ?_ ?_)
   | (with_reducible refine LeO.bind ?_ (fun _ => ?_))
   | exact ih0 _ _ _ _ _
   | exact ih1 _ _ _ _ _ _
   | exact spec_l7At.mono _ _ _ _ _ _
   | exact LeO.none _
   | refine LeO.ite ?_ ?_
   | refine LeO.bind ?_ (fun _ => ?_)
  ·intro y0 y1 y2 y3 y4 y5
   unfold spec_l7Findings.l1
   repeat' first
   | (with_reducible exact ih0 _ _ _ _ _)
   | (with_reducible exact ih1 _ _ _ _ _ _)
   | (with_reducible exact spec_l7At.mono _ _ _ _ _ _)
   | (with_reducible exact LeO.refl _)
   | (with_reducible exact LeO.none _)
   | (with_reducible refine LeO.ite ?_ ?_)
   | (with_reducible refine LeO.bind ?_ (fun _ => ?_))
   | exact ih0 _ _ _ _ _
   | exact ih1 _ _ _ _ _ _
   | exact spec_l7At.mono _ _ _ _ _ _
   | exact LeO.none _
   | refine LeO.ite ?_ ?_
   | refine LeO.bind ?_ (fun _ => ?_)
theorem spec_l7Findings.mono : ∀ a0 a1 a2 k, LeO (spec_l7Findings.f k a0 a1 a2) (spec_l7Findings.f (k + 1) a0 a1 a2) := by
 intro a0 a1 a2 k
 obtain ⟨ih0, ih1⟩ := spec_l7Findings.mono_l k
 unfold spec_l7Findings.f
 repeat' first
   | (with_reducible exact ih0 _ _ _ _ _)
   | (with_reducible exact ih1 _ _ _ _ _ _)
   | (with_reducible exact spec_l7At.mono _ _ _ _ _ _)
   | (with_reducible exact LeO.refl _)
   | (with_reducible exact LeO.none _)
   | (with_reducible refine LeO.ite ?_ ?_)
   | (with_reducible refine LeO.bind ?_ (fun _ => ?_))
   | exact ih0 _ _ _ _ _
   | exact ih1 _ _ _ _ _ _
   | exact spec_l7At.mono _ _ _ _ _ _
   | exact LeO.none _
   | refine LeO.ite ?_ ?_
   | refine LeO.bind ?_ (fun _ => ?_)
set_option maxHeartbeats 8000000 in
set_option maxRecDepth 100000 in
theorem spec_l7Findings.calls (k : Nat) (A0_0 : Option Addr) (c0_0 : Nat) (l0_0 : List (List Int)) (A1 : Option Addr) (c1 : Nat) (l1 : List (S50)) (a2 : Int) (r : List (S66)) (w : World) (hr0_0 : Kd.C (Kd.slice 3 (Kd.int .i64)) w A0_0 l0_0.length l0_0) (hc0_0 : l0_0.length ≤ c0_0) (hr1 : Kd.C k50 w A1 l1.length l1) (hc1 : l1.length ≤ c1) (h : spec_l7Findings.f k l0_0 l1 a2 = some r) :
  Calls Try.prog 20 #[.agg #[.slice A0_0 l0_0.length c0_0], .slice A1 l1.length c1, .int .i64 a2] w fun e w' => ∃ v0_ : Value, e = .returned (v0_) ∧ Kd.R k66 66 w' w.heap.size (fun _ => True) v0_ r ∧ Below w.heap.size w w' := by
 have hu30 := Try.underlying30
 have HR0_0 := Aside0.mk hr0_0
 have HC0_0 := Aside0.mk hc0_0
 clear hr0_0 hc0_0
 have HR1 := Aside0.mk hr1
 have HC1 := Aside0.mk hc1
 clear hr1 hc1
 have HB := Aside0.mk (Below.refl w.heap.size w)
 have H : (spec_l7Findings.l0 k l1 a2 (([] : List (S66))) 0 l0_0) = some r := h
 clear h
 obtain ⟨y170, hy170⟩ : ∃ y_ : List (S66), y_ = (([] : List (S66))) := ⟨_, rfl⟩
 replace H : (spec_l7Findings.l0 k l1 a2 y170 0 l0_0) = some r := by first | (rw [hy170]; with_reducible exact H) | (have H2_ := (Option.bind_some _ _).symm.trans H; rw [hy170]; with_reducible exact H2_) | (have H2_ := (Option.bind_some _ _).symm.trans H; with_reducible exact H2_) | with_reducible exact H | (rw [hy170]; exact H) | exact H
 have Ny170 := Aside0.mk hy170
 clear hy170
 have H' := Aside0.mk H
 clear H
 go_enter Try.func20, Try.ntmps20
 go_wp2_with (first | ((with_reducible refine gate_dst (N := 3) rfl ?_); refine box_event ?hg (N := 3) ?hd (cs := #[.slice A0_0 l0_0.length c0_0]) (t := 30) ?hr ?_; (case hd => rfl); (case hg => rfl); (case hr => first | (go_simp; done) | (go_simp; rfl)); intro gb169 hg w4 hbox hb; have n0_ := Aside0.mk (below_step (bel HB) hb); have n1_ := Aside0.mk (hbox); have n2_ := Aside0.mk ((by rw [hg]; exact (below_size (bel HB)) : w.heap.size ≤ gb169)); have n3_ := Aside0.mk ((by rw [hg]; exact (below_size (bel HB)) : w.heap.size ≤ gb169)); clear HB; have HB := n0_; have BK169 := n1_; have GW169 := n2_; have GE169 := n3_; clear n0_ n1_ n2_ n3_; clear hb hbox hg) | ((with_reducible refine gate_dst (N := 10) rfl ?_); refine Kd.R_lit k66 _ 66 ?hg (N := 10) ?hd (xs := ([] : List (S66))) (inner := []) (ok := fun _ => True) (okp := fun _ => True) ?hr ?hp (fun _ hk => hk) trivial (Below.refl _ _) (Nat.le_refl _) (by simp) ?_; (case hd => rfl); (case hg => rfl); (case hr => first | (go_simp; done) | (go_simp; rfl)); (case hp => exact (Reps.none _ _)); intro v171 w5 ho6 hb hg_ hnew_; clear hg_ hnew_; (first | rw [← Ny170.out] at ho6 | (simp only [Int.reduceToNat] at ho6; rw [← Ny170.out] at ho6)); have n0_ := Aside0.mk (Kd.R_lower ho6 (below_size (bel1 HB GE169))); have n1_ := Aside0.mk (blk_below (g := gb169) (o := .cells #[.slice A0_0 l0_0.length c0_0] 30 (0, 0)) (bkl BK169) hb); have n2_ := Aside0.mk (below_step (bel1 HB GE169) hb); clear BK169; clear HB; have HO172 := n0_; have BK169 := n1_; have HB := n2_; clear n0_ n1_ n2_; clear hb ho6))
 go_loopg [7, 8] k (fun kq v7 v8 w' => ∃ (x7_1 : List (S66)) (x8_1 : Int), v8 = .int .i64 x8_1 ∧ Aside0 (spec_l7Findings.l0 kq l1 a2 x7_1 x8_1 l0_0 = some r) ∧ Aside0 (kq ≤ k) ∧ Aside0 (Kd.R k66 66 w' w.heap.size (fun _ => True) v7 x7_1) ∧ Aside0 (w'.heap[gb169]? = some (.cells #[(.slice A0_0 l0_0.length c0_0)] 30 (0, 0))) ∧ Aside0 (Below w.heap.size w w'))
 case atStart => exact ⟨(y170), (0), (by first | rfl | (simp; done) | (simp [*]; done)), H', ⟨Nat.le_refl _⟩, ⟨rdl HO172⟩, ⟨bkl BK169⟩, ⟨bel1 HB GE169⟩⟩
 case round =>
  clear H'
  try clear c1
  try clear c2
  try clear p2
  obtain ⟨x7_1, x8_1, rfl, HA, HK1, HO_7, BK169, HB⟩ := hrel
  cases gk with
  | zero => exact absurd HA.out (by simp [spec_l7Findings.l0])
  | succ k1 =>
   have H := HA.out
   clear HA
   simp only [spec_l7Findings.l0] at H
   by_cases c7 : x8_1 < (l0_0.length : Int)
   ·rw [if_pos c7] at H
    have c7b0 : decide (x8_1 < (l0_0.length : Int)) = true := decide_eq_true c7
    clear c7
    have H' := Aside0.mk H
    clear H
    have hcz8_0 : wr.cell? ⟨gb169, 0, none⟩ = some (.slice A0_0 l0_0.length c0_0) := (blk_cell BK169.out 0).trans rfl
    have hfz8_0 := blk_frozen BK169.out 0
    go_wp2
    go_loopg [7, 9] k1 (fun kq v7 v9 w' => ∃ (x7_2 : List (S66)) (x9_2 : Int), v9 = .int .i64 x9_2 ∧ Aside0 (spec_l7Findings.l1 kq l1 a2 x7_2 x8_1 x9_2 l0_0 = some r) ∧ Aside0 (kq ≤ k1) ∧ Aside0 (Kd.R k66 66 w' w.heap.size (fun _ => True) v7 x7_2) ∧ Aside0 (w'.heap[gb169]? = some (.cells #[(.slice A0_0 l0_0.length c0_0)] 30 (0, 0))) ∧ Aside0 (Below w.heap.size w w'))
    case atStart => exact ⟨(x7_1), (0), (by first | rfl | (simp; done) | (simp [*]; done)), H', ⟨Nat.le_refl _⟩, ⟨rdl HO_7⟩, ⟨bkl BK169⟩, ⟨bel1 HB GE169⟩⟩
    case round =>
     clear H'
     try clear c1
     try clear c2
     try clear p2
     try clear c7
     try clear c7b0
     try clear hcz8_0
     try clear hfz8_0
     try clear p2
     obtain ⟨x7_2, x9_2, rfl, HA, HK2, HO_7, BK169, HB⟩ := hrel
     cases gk with
     | zero => exact absurd HA.out (by simp [spec_l7Findings.l1])
     | succ k2 =>
      have H := HA.out
      clear HA
      simp only [spec_l7Findings.l1] at H
      by_cases c9 : 0 ≤ x8_1
      ·rw [if_pos c9] at H
       have c9b0 : decide (0 ≤ x8_1) = true := decide_eq_true c9
       clear c9
       by_cases c10 : x8_1 < (l0_0.length : Int)
       ·rw [if_pos c10] at H
        have c10b0 : decide (x8_1 < (l0_0.length : Int)) = true := decide_eq_true c10
        clear c10
        by_cases c11 : x9_2 < ((rd_L1 l0_0 x8_1).length : Int)
        ·rw [if_pos c11] at H
         have c11b0 : decide (x9_2 < ((rd_L1 l0_0 x8_1).length : Int)) = true := decide_eq_true c11
         clear c11
         replace H := Option.bind_eq_some_iff.mp H
         obtain ⟨t174, A120, H⟩ := H
         replace H : (if x7_2.length + t174.length < 5864062014805 then (spec_l7Findings.l1 k2 l1 a2 (x7_2 ++ t174) x8_1 (wrap64 (x9_2 + 1)) l0_0) else (none)) = some r := H
         have A12 := Aside0.mk A120
         clear A120
         by_cases c13 : x7_2.length + t174.length < 5864062014805
         ·rw [if_pos c13] at H
          have LMc13 := Aside0.mk c13
          clear c13
          obtain ⟨y177, hy177⟩ : ∃ y_ : List (S66), y_ = (x7_2 ++ t174) := ⟨_, rfl⟩
          replace H : (spec_l7Findings.l1 k2 l1 a2 y177 x8_1 (wrap64 (x9_2 + 1)) l0_0) = some r := by first | (rw [hy177]; with_reducible exact H) | (have H2_ := (Option.bind_some _ _).symm.trans H; rw [hy177]; with_reducible exact H2_) | (have H2_ := (Option.bind_some _ _).symm.trans H; with_reducible exact H2_) | with_reducible exact H | (rw [hy177]; exact H) | exact H
          have Ny177 := Aside0.mk hy177
          clear hy177
          have H' := Aside0.mk H
          clear H
          have hcz14_0 : wr.cell? ⟨gb169, 0, none⟩ = some (.slice A0_0 l0_0.length c0_0) := (blk_cell BK169.out 0).trans rfl
          have hfz14_0 := blk_frozen BK169.out 0
          have p173 : 0 ≤ (x8_1 : Int) := oda
          have q173 : x8_1 < (l0_0.length : Int) := oda
          obtain ⟨ad173, A173_0, c173_0, e173, hx173_0, hl173_0, hi173_0⟩ := at_L1 HR0_0.out x8_1 p173 q173
          cases e173
          replace hx173_0 := cel HB hx173_0
          have HR173_0 := Aside0.mk hi173_0
          have HC173_0 := Aside0.mk hl173_0
          clear hi173_0 hl173_0
          replace p173 := eq_true p173
          replace q173 := eq_true q173
          go_wp2_with (first | ((with_reducible refine gate_callee (f := 36) rfl ?_); refine goesL_ (some 34) rfl rfl Try.func36 (by kernel_rfl) rfl #[.agg #[.slice (some ad173) l0_0.length c0_0], .slice A1 l1.length c1, .int .i64 a2, .int .i64 x8_1, .int .i64 x9_2] rfl gmp ?_; (with_reducible refine (spec_l7At.calls k2 _ _ l0_0 _ _ l1 a2 x8_1 x9_2 t174 _ ?side1 ?side2 ?side3 ?side4 A12.out).mono ?_); (case side1 => exact cdl (Kd.C_below HR0_0.out HB.out)); (case side2 => exact HC0_0.out); (case side3 => exact cdl (Kd.C_below HR1.out HB.out)); (case side4 => exact HC1.out); rintro e w15 ⟨v175, rfl, ho0, hb⟩; refine ⟨_, rfl, ?_⟩; have n0_ := Aside0.mk (Kd.R_elder' (rdl HO_7) (Kd.R_base ho0) hb); have n1_ := Aside0.mk (Kd.R_lower (Kd.R_new' ho0 (Kd.R_lt (rdl HO_7))) (below_size (bel1 HB GE169))); have n2_ := Aside0.mk (blk_below (g := gb169) (o := .cells #[.slice (some ad173) l0_0.length c0_0] 30 (0, 0)) (bkl BK169) hb); have n3_ := Aside0.mk (below_step (bel1 HB GE169) hb); clear HO_7; clear BK169; clear HB; have HO_7 := n0_; have HO176 := n1_; have BK169 := n2_; have HB := n3_; clear n0_ n1_ n2_ n3_; (try clear hb); (try clear hb2); (try clear hk); (try clear hi); (try clear ho0); obtain ⟨Ao17, co17, eo17⟩ := Kd.R_slice HO176.out; subst eo17) | ((with_reducible refine gate_builtin (b := .append) (xs := #[.tmp 28, .tmp 34]) rfl ?_); at_builtin; refine Kd.R_append_rows k66 (w0 := w) w.heap.size rfl (.tmp 28) (.tmp 34) 45 66 (.agg #[(.int .i64 0), (.int .i64 0), (.int .i64 0)]) 24 rfl Try.underlying45 info66 rfl (by decide) (by omega) u7 x7_2 t174 _ _ _ (fun k_ => some k_ ≠ (.slice Ao17 t174.length co17 : Value).ownBlock) (fun _ => False) rfl rfl ?aO ?aR (fun _ _ h => h) (fun _ h => h.elim) ?aF ?aB ?aS ?aL ?_; (case aR => repeat (first | exact (Kd.R_reads' HO176.out).2.2 | (with_reducible refine Kd.C_alloc ?_ _) | (with_reducible refine Kd.C_drewN ?_ _) | (with_reducible refine Kd.C_drew ?_))); (case aB => exact (bel1 HB GE169)); (case aF => exact (fun k_ hk => Kd.fresh' (Kd.R_lt (rdl HO176)) k_ hk)); (case aO => exact (by (with_reducible repeat (first | apply Kd.R_alloc | apply Kd.R_drewN | apply Kd.R_drew)); exact Kd.R_mono HO_7.out (fun _ hk => hk.2))); (case aS => exact (below_size (bel1 HB GE169))); (case aL => have := LMc13.out; omega); intro v178 w16 ho hb hg hat; rw [← Ny177.out] at ho; have n0_ := Aside0.mk (blk_grown (g := gb169) (o := .cells #[.slice (some ad173) l0_0.length c0_0] 30 (0, 0)) (bkl BK169) hg (Kd.R_ne HO_7.out BK169.out (by decide))); have n1_ := Aside0.mk (Kd.R_after (ok := (fun _ => True)) (rdl HO176) hg hat); have n2_ := Aside0.mk (hb); have n3_ := Aside0.mk (ho); clear BK169; clear HO176; clear HB; clear HO_7; have BK169 := n0_; have HO176 := n1_; have HB := n2_; have HO179 := n3_; clear n0_ n1_ n2_ n3_; clear ho hb hg hat))
          go_roundg k2
          case measure => have := HK1.out; have := HK2.out; omega
          case rel => exact ⟨(y177), (wrap64 (x9_2 + 1)), (by first | rfl | (simp; done) | (simp [*]; done)), H', ⟨by have := HK1.out; have := HK2.out; omega⟩, ⟨by (with_reducible repeat (first | apply Kd.R_alloc | apply Kd.R_drewN | apply Kd.R_drew)); exact Kd.R_mono HO179.out (fun _ hk => trivial)⟩, ⟨bkl BK169⟩, ⟨bel1 HB GE169⟩⟩
         ·rw [if_neg c13] at H
          exact absurd H (by simp)
        ·rw [if_neg c11] at H
         have c11b0 : decide (x9_2 < ((rd_L1 l0_0 x8_1).length : Int)) = false := decide_eq_false c11
         clear c11
         have H' := Aside0.mk H
         clear H
         have hcz18_0 : wr.cell? ⟨gb169, 0, none⟩ = some (.slice A0_0 l0_0.length c0_0) := (blk_cell BK169.out 0).trans rfl
         have hfz18_0 := blk_frozen BK169.out 0
         have p173 : 0 ≤ (x8_1 : Int) := oda
         have q173 : x8_1 < (l0_0.length : Int) := oda
         obtain ⟨ad173, A173_0, c173_0, e173, hx173_0, hl173_0, hi173_0⟩ := at_L1 HR0_0.out x8_1 p173 q173
         cases e173
         replace hx173_0 := cel HB hx173_0
         have HR173_0 := Aside0.mk hi173_0
         have HC173_0 := Aside0.mk hl173_0
         clear hi173_0 hl173_0
         replace p173 := eq_true p173
         replace q173 := eq_true q173
         go_wp2
         go_roundg k2
         case measure => have := HK1.out; have := HK2.out; omega
         case rel => exact ⟨(x7_2), (wrap64 (x8_1 + 1)), (by first | rfl | (simp; done) | (simp [*]; done)), H', ⟨by have := HK1.out; have := HK2.out; omega⟩, ⟨rdl HO_7⟩, ⟨bkl BK169⟩, ⟨bel1 HB GE169⟩⟩
       ·rw [if_neg c10] at H
        exact absurd H (by simp)
      ·rw [if_neg c9] at H
       exact absurd H (by simp)
   ·rw [if_neg c7] at H
    have c7b0 : decide (x8_1 < (l0_0.length : Int)) = false := decide_eq_false c7
    clear c7
    obtain rfl := Option.some.inj H
    have hcz19_0 : wr.cell? ⟨gb169, 0, none⟩ = some (.slice A0_0 l0_0.length c0_0) := (blk_cell BK169.out 0).trans rfl
    have hfz19_0 := blk_frozen BK169.out 0
    go_wp2
    go_ret
    exact ⟨_, by first | rfl | (simp [errW_none, errW_some] <;> rfl) | (simp [*, errW_none, errW_some] <;> rfl), rdl HO_7, bel1 HB GE169⟩

/-! ### spec_l1Own: function 38 -/
def spec_l1Own.f (l0 : List Int) : Option (List Int) := (some (([] : List Int) : List Int)).bind fun y180 => (if y180.length + l0.length < 17592186044416 then (some (y180 ++ l0)) else (none))
set_option maxHeartbeats 8000000 in
set_option maxRecDepth 100000 in
theorem spec_l1Own.calls (A0 : Option Addr) (c0 : Nat) (l0 : List Int) (r : List Int) (w : World) (hr0 : Kd.C (Kd.int .i64) w A0 l0.length l0) (hc0 : l0.length ≤ c0) (h : spec_l1Own.f l0 = some r) :
  Calls Try.prog 38 #[.slice A0 l0.length c0] w fun e w' => ∃ v0_ : Value, e = .returned (v0_) ∧ Kd.R (Kd.int .i64) 3 w' w.heap.size (fun _ => True) v0_ r ∧ Below w.heap.size w w' := by
 have HR0 := Aside0.mk hr0
 have HC0 := Aside0.mk hc0
 clear hr0 hc0
 have HB := Aside0.mk (Below.refl w.heap.size w)
 have H : ((some (([] : List Int) : List Int)).bind fun y180 => (if y180.length + l0.length < 17592186044416 then (some (y180 ++ l0)) else (none))) = some r := h
 clear h
 obtain ⟨y180, hy180⟩ : ∃ y_ : List Int, y_ = (([] : List Int)) := ⟨_, rfl⟩
 replace H : (if y180.length + l0.length < 17592186044416 then (some (y180 ++ l0)) else (none)) = some r := by first | (rw [hy180]; with_reducible exact H) | (have H2_ := (Option.bind_some _ _).symm.trans H; rw [hy180]; with_reducible exact H2_) | (have H2_ := (Option.bind_some _ _).symm.trans H; with_reducible exact H2_) | with_reducible exact H | (rw [hy180]; exact H) | exact H
 have Ny180 := Aside0.mk hy180
 clear hy180
 by_cases c2 : y180.length + l0.length < 17592186044416
 ·rw [if_pos c2] at H
  have LMc2 := Aside0.mk c2
  clear c2
  obtain ⟨y183, hy183⟩ : ∃ y_ : List Int, y_ = (y180 ++ l0) := ⟨_, rfl⟩
  replace H : (some y183) = some r := by first | (rw [hy183]; with_reducible exact H) | (have H2_ := (Option.bind_some _ _).symm.trans H; rw [hy183]; with_reducible exact H2_) | (have H2_ := (Option.bind_some _ _).symm.trans H; with_reducible exact H2_) | with_reducible exact H | (rw [hy183]; exact H) | exact H
  have Ny183 := Aside0.mk hy183
  clear hy183
  obtain rfl := Option.some.inj H
  go_enter Try.func38, Try.ntmps38
  go_wp2_with (first | ((with_reducible refine gate_dst (N := 3) rfl ?_); refine Kd.R_lit (Kd.int .i64) _ 3 ?hg (N := 3) ?hd (xs := ([] : List Int)) (inner := []) (ok := fun _ => True) (okp := fun _ => True) ?hr ?hp (fun _ hk => hk) trivial (Below.refl _ _) (Nat.le_refl _) (by simp) ?_; (case hd => rfl); (case hg => rfl); (case hr => first | (go_simp; done) | (go_simp; rfl)); (case hp => exact (Reps.none _ _)); intro v181 w3 ho4 hb hg_ hnew_; clear hg_ hnew_; (first | rw [← Ny180.out] at ho4 | (simp only [Int.reduceToNat] at ho4; rw [← Ny180.out] at ho4)); have n0_ := Aside0.mk (Kd.R_lower ho4 (below_size (bel HB))); have n1_ := Aside0.mk (below_step (bel HB) hb); clear HB; have HO182 := n0_; have HB := n1_; clear n0_ n1_; clear hb ho4) | ((with_reducible refine gate_builtin (b := .append) (xs := #[.tmp 3, .tmp 4]) rfl ?_); at_builtin; refine Kd.R_append_rows (Kd.int .i64) (w0 := w) w.heap.size rfl (.tmp 3) (.tmp 4) 47 3 (.int .i64 0) 8 rfl Try.underlying47 info3 rfl (by decide) (by omega) v181 y180 l0 _ _ _ (fun _ => True) (fun _ => False) rfl rfl ?aO ?aR (fun _ _ h => h) (fun _ h => h.elim) ?aF ?aB ?aS ?aL ?_; (case aR => exact cdl (Kd.C_below HR0.out HB.out)); (case aB => exact (bel HB)); (case aF => exact (fun _ _ => trivial)); (case aO => exact (rdl HO182)); (case aS => exact (below_size (bel HB))); (case aL => have := LMc2.out; omega); intro v184 w5 ho hb hg hat; rw [← Ny183.out] at ho; have n0_ := Aside0.mk (hb); have n1_ := Aside0.mk (ho); clear HB; clear HO182; have HB := n0_; have HO185 := n1_; clear n0_ n1_; clear ho hb hg hat))
  go_ret
  exact ⟨_, by first | rfl | (simp [errW_none, errW_some] <;> rfl) | (simp [*, errW_none, errW_some] <;> rfl), rdl HO185, bel HB⟩
 ·rw [if_neg c2] at H
  exact absurd H (by simp)

end Go.Proofs.Ytlbmookfonlpjaa.P
