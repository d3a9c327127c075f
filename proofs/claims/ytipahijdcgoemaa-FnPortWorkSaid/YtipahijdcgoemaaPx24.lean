-- Written by a program of this session over the translation (a variant of the printer, see wip/gen); Lean checks it.
import Derived.Test.YtipahijdcgoemaaPx0
import Derived.Test.YtipahijdcgoemaaPx3
import Derived.Test.YtipahijdcgoemaaPx4
import Derived.Test.YtipahijdcgoemaaPx23
namespace Go.Proofs.Ytipahijdcgoemaa.P
open Go.RowKit Go.Proofs.YtipahijdcgoemaaW.PrintWords Go.Proofs.YtipahijdcgoemaaW.PrintLast Go.Proofs.YtipahijdcgoemaaW.PrintMore
attribute [local go_sem] Go.Proofs.Ytipahijdcgoemaa.V.isSome_setCell max2_int min2_int max_two min_two max_three min_three max_four min_four
set_option linter.unusedVariables false
set_option linter.unusedSimpArgs false
/-! ### spec_PortWork: function 8 -/
mutual
def spec_PortWork.j0 : Nat → List Int → Int → List Int → List Int → Bool → Int → Int → List Int → Option (List Int × List Int × Bool)
 | 0, _, _, _, _, _, _, _, _ => none
 | k + 1, x1, x2, x9, x10, x26, x449000, x449001, x449002 => if x26 = true then (some (x9, x10, false)) else ((spec_l10Bay.f k x449000 x449001 x449002 x1).bind fun bt457 => (spec_PortWork.l0 k x2 x9 x10 0 x449000 x449001 x449002 bt457.1 bt457.2))
def spec_PortWork.l0 : Nat → Int → List Int → List Int → Int → Int → Int → List Int → Int → List (List Int) → Option (List Int × List Int × Bool)
 | 0, _, _, _, _, _, _, _, _, _ => none
 | k + 1, x2, x9, x10, x12, x449000, x449001, x449002, x462000, x462001 => if x12 < (x462001.length : Int) then (spec_PortWork.l1 k x2 x9 x10 x12 false 0 x449000 x449001 x449002 x462000 x462001) else (some (x9, x10, true))
def spec_PortWork.l1 : Nat → Int → List Int → List Int → Int → Bool → Int → Int → Int → List Int → Int → List (List Int) → Option (List Int × List Int × Bool)
 | 0, _, _, _, _, _, _, _, _, _, _, _ => none
 | k + 1, x2, x9, x10, x12, x13, x14, x449000, x449001, x449002, x462000, x462001 => if 0 ≤ x12 then (if x12 < (x462001.length : Int) then (if x14 < ((rd_L2 x462001 x12).length : Int) then (if 0 ≤ x14 then (if 0 ≤ (wrap64 ((rd (rd_L2 x462001 x12) x14) - 1)) then (if (wrap64 ((rd (rd_L2 x462001 x12) x14) - 1)) < (x449002.length : Int) then (if (rd x449002 (wrap64 ((rd (rd_L2 x462001 x12) x14) - 1))) = x2 then ((spec_l1Put.f k x9 (rd (rd_L2 x462001 x12) x14)).bind fun t466 => (spec_PortWork.l1 k x2 t466 x10 x12 true (wrap64 (x14 + 1)) x449000 x449001 x449002 x462000 x462001)) else (if (rd x449002 (wrap64 ((rd (rd_L2 x462001 x12) x14) - 1))) > x2 then (if x13 = true then ((spec_l1Put.f k x10 (rd (rd_L2 x462001 x12) x14)).bind fun t470 => (spec_PortWork.l1 k x2 x9 t470 x12 x13 (wrap64 (x14 + 1)) x449000 x449001 x449002 x462000 x462001)) else (spec_PortWork.l1 k x2 x9 x10 x12 x13 (wrap64 (x14 + 1)) x449000 x449001 x449002 x462000 x462001)) else (spec_PortWork.l1 k x2 x9 x10 x12 x13 (wrap64 (x14 + 1)) x449000 x449001 x449002 x462000 x462001))) else (none)) else (none)) else (none)) else (spec_PortWork.l0 k x2 x9 x10 (wrap64 (x12 + 1)) x449000 x449001 x449002 x462000 x462001)) else (none)) else (none)
end
def spec_PortWork.f (k : Nat) (a0_0 : Int) (a0_1 : Int) (l0_2 : List Int) (l1 : List Int) (a2 : Int) : Option (List Int × List Int × Bool) := (some (([] : List Int) : List Int)).bind fun y449 => ((some (([] : List Int) : List Int)).bind fun y452 => ((spec_l10Asked.f k a0_0 a0_1 l0_2 l1).bind fun t455 => (if t455 = true then ((spec_l1In.f a2 1 9).bind fun t456 => (spec_PortWork.j0 k l1 a2 y449 y452 (!t456) a0_0 a0_1 l0_2)) else (spec_PortWork.j0 k l1 a2 y449 y452 true a0_0 a0_1 l0_2))))
theorem spec_PortWork.mono_l : ∀ k, (∀ y0 y1 y2 y3 y4 y5 y6 y7, LeO (spec_PortWork.j0 k y0 y1 y2 y3 y4 y5 y6 y7) (spec_PortWork.j0 (k + 1) y0 y1 y2 y3 y4 y5 y6 y7)) ∧ (∀ y0 y1 y2 y3 y4 y5 y6 y7 y8, LeO (spec_PortWork.l0 k y0 y1 y2 y3 y4 y5 y6 y7 y8) (spec_PortWork.l0 (k + 1) y0 y1 y2 y3 y4 y5 y6 y7 y8)) ∧ (∀ y0 y1 y2 y3 y4 y5 y6 y7 y8 y9 y10, LeO (spec_PortWork.l1 k y0 y1 y2 y3 y4 y5 y6 y7 y8 y9 y10) (spec_PortWork.l1 (k + 1) y0 y1 y2 y3 y4 y5 y6 y7 y8 y9 y10))
 | 0 => ⟨fun _ _ _ _ _ _ _ _ r h => by simp [spec_PortWork.j0] at h, fun _ _ _ _ _ _ _ _ _ r h => by simp [spec_PortWork.l0] at h, fun _ _ _ _ _ _ _ _ _ _ _ r h => by simp [spec_PortWork.l1] at h⟩
 | k + 1 => by
  obtain ⟨ih0, ih1, ih2⟩ := spec_PortWork.mono_l k
  refine ⟨?_, ?_, ?_⟩
  ·intro y0 y1 y2 y3 y4 y5 y6 y7
   unfold spec_PortWork.j0
   repeat' first
   | (with_reducible exact ih0 _ _ _ _ _ _ _ _)
   | (with_reducible exact ih1 _ _ _ _ _ _ _ _ _)
   | (with_reducible exact ih2 _ _ _ _ _ _ _ _ _ _ _)
   | (with_reducible exact spec_l10Asked.mono _ _ _ _ _)
   | (with_reducible exact spec_l10Bay.mono _ _ _ _ _)
   | (with_reducible exact spec_l1Put.mono _ _ _)
   | (with_reducible exact LeO.refl _)
   | (with_reducible exact LeO.none _)
   | (with_reducible refine LeO.ite ?_ ?_)
   | (with_reducible refine LeO.bind ?_ (fun _ => ?_))
   | exact ih0 _ _ _ _ _ _ _ _
   | exact ih1 _ _ _ _ _ _ _ _ _
   | exact ih2 _ _ _ _ _ _ _ _ _ _ _
   | exact spec_l10Asked.mono _ _ _ _ _
   | exact spec_l10Bay.mono _ _ _ _ _
   | exact spec_l1Put.mono _ _ _
   | exact LeO.none _
   | refine LeO.ite ?_ ?_
   | refine LeO.bind ?_ (fun _ => ?_)
  ·intro y0 y1 y2 y3 y4 y5 y6 y7 y8
   unfold spec_PortWork.l0
   repeat' first
   | (with_reducible exact ih0 _ _ _ _ _ _ _ _)
   | (with_reducible exact ih1 _ _ _ _ _ _ _ _ _)
   | (with_reducible exact ih2 _ _ _ _ _ _ _ _ _ _ _)
   | (with_reducible exact spec_l10Asked.mono _ _ _ _ _)
   | (with_reducible exact spec_l10Bay.mono _ _ _ _ _)
   | (with_reducible exact spec_l1Put.mono _ _ _)
   | (with_reducible exact LeO.refl _)
   | (with_reducible exact LeO.none _)
   | (with_reducible refine LeO.ite ?_ ?_)
   | (with_reducible refine LeO.bind ?_ (fun _ => ?_))
   | exact ih0 _ _ _ _ _ _ _ _
   | exact ih1 _ _ _ _ _ _ _ _ _
   | exact ih2 _ _ _ _ _ _ _ _ _ _ _
   | exact spec_l10Asked.mono _ _ _ _ _
   | exact spec_l10Bay.mono _ _ _ _ _
   | exact spec_l1Put.mono _ _ _
   | exact LeO.none _
   | refine LeO.ite ?_ ?_
   | refine LeO.bind ?_ (fun _ => ?_)
  ·intro y0 y1 y2 y3 y4 y5 y6 y7 y8 y9 y10
   unfold spec_PortWork.l1
   repeat' first
   | (with_reducible exact ih0 _ _ _ _ _ _ _ _)
   | (with_reducible exact ih1 _ _ _ _ _ _ _ _ _)
   | (with_reducible exact ih2 _ _ _ _ _ _ _ _ _ _ _)
   | (with_reducible exact spec_l10Asked.mono _ _ _ _ _)
   | (with_reducible exact spec_l10Bay.mono _ _ _ _ _)
   | (with_reducible exact spec_l1Put.mono _ _ _)
   | (with_reducible exact LeO.refl _)
   | (with_reducible exact LeO.none _)
   | (with_reducible refine LeO.ite ?_ ?_)
   | (with_reducible refine LeO.bind ?_ (fun _ => ?_))
   | exact ih0 _ _ _ _ _ _ _ _
   | exact ih1 _ _ _ _ _ _ _ _ _
   | exact ih2 _ _ _ _ _ _ _ _ _ _ _
   | exact spec_l10Asked.mono _ _ _ _ _
   | exact spec_l10Bay.mono _ _ _ _ _
   | exact spec_l1Put.mono _ _ _
   | exact LeO.none _
   | refine LeO.ite ?_ ?_
   | refine LeO.bind ?_ (fun _ => ?_)
theorem spec_PortWork.mono : ∀ a0 a1 a2 a3 a4 k, LeO (spec_PortWork.f k a0 a1 a2 a3 a4) (spec_PortWork.f (k + 1) a0 a1 a2 a3 a4) := by
 intro a0 a1 a2 a3 a4 k
 obtain ⟨ih0, ih1, ih2⟩ := spec_PortWork.mono_l k
 unfold spec_PortWork.f
 repeat' first
   | (with_reducible exact ih0 _ _ _ _ _ _ _ _)
   | (with_reducible exact ih1 _ _ _ _ _ _ _ _ _)
   | (with_reducible exact ih2 _ _ _ _ _ _ _ _ _ _ _)
   | (with_reducible exact spec_l10Asked.mono _ _ _ _ _)
   | (with_reducible exact spec_l10Bay.mono _ _ _ _ _)
   | (with_reducible exact spec_l1Put.mono _ _ _)
   | (with_reducible exact LeO.refl _)
   | (with_reducible exact LeO.none _)
   | (with_reducible refine LeO.ite ?_ ?_)
   | (with_reducible refine LeO.bind ?_ (fun _ => ?_))
   | exact ih0 _ _ _ _ _ _ _ _
   | exact ih1 _ _ _ _ _ _ _ _ _
   | exact ih2 _ _ _ _ _ _ _ _ _ _ _
   | exact spec_l10Asked.mono _ _ _ _ _
   | exact spec_l10Bay.mono _ _ _ _ _
   | exact spec_l1Put.mono _ _ _
   | exact LeO.none _
   | refine LeO.ite ?_ ?_
   | refine LeO.bind ?_ (fun _ => ?_)
set_option maxHeartbeats 8000000 in
set_option maxRecDepth 100000 in
theorem spec_PortWork.calls (k : Nat) (a0_0 : Int) (a0_1 : Int) (A0_2 : Option Addr) (c0_2 : Nat) (l0_2 : List Int) (A1 : Option Addr) (c1 : Nat) (l1 : List Int) (a2 : Int) (r1 : List Int) (r2 : List Int) (r3 : Bool) (w : World) (hr0_2 : Kd.C (Kd.int .i64) w A0_2 l0_2.length l0_2) (hc0_2 : l0_2.length ≤ c0_2) (hr1 : Kd.C (Kd.int .i64) w A1 l1.length l1) (hc1 : l1.length ≤ c1) (h : spec_PortWork.f k a0_0 a0_1 l0_2 l1 a2 = some (r1, r2, r3)) :
  Calls Try.prog 8 #[.agg #[.int .i64 a0_0, .int .i64 a0_1, .slice A0_2 l0_2.length c0_2], .slice A1 l1.length c1, .int .i64 a2] w fun e w' => ∃ v0_ v1_ : Value, e = .returned (.tuple #[v0_, v1_, .bool r3]) ∧ Kd.V (Kd.int .i64) 3 w' w.heap.size (fun k_ => (w.heap.size ≤ k_)) v0_ r1 ∧ Kd.V (Kd.int .i64) 3 w' w.heap.size (fun k_ => (w.heap.size ≤ k_)) v1_ r2 ∧ Below w.heap.size w w' := by
 have hu26 := Try.underlying26
 have hu45 := Try.underlying45
 have HR0_2 := Aside0.mk hr0_2
 have HC0_2 := Aside0.mk hc0_2
 clear hr0_2 hc0_2
 have HR1 := Aside0.mk hr1
 have HC1 := Aside0.mk hc1
 clear hr1 hc1
 have HB := Aside0.mk (Below.refl w.heap.size w)
 have H : ((some (([] : List Int) : List Int)).bind fun y449 => ((some (([] : List Int) : List Int)).bind fun y452 => ((spec_l10Asked.f k a0_0 a0_1 l0_2 l1).bind fun t455 => (if t455 = true then ((spec_l1In.f a2 1 9).bind fun t456 => (spec_PortWork.j0 k l1 a2 y449 y452 (!t456) a0_0 a0_1 l0_2)) else (spec_PortWork.j0 k l1 a2 y449 y452 true a0_0 a0_1 l0_2))))) = some (r1, r2, r3) := h
 clear h
 obtain ⟨y449, hy449⟩ : ∃ y_ : List Int, y_ = (([] : List Int)) := ⟨_, rfl⟩
 replace H : ((some (([] : List Int) : List Int)).bind fun y452 => ((spec_l10Asked.f k a0_0 a0_1 l0_2 l1).bind fun t455 => (if t455 = true then ((spec_l1In.f a2 1 9).bind fun t456 => (spec_PortWork.j0 k l1 a2 y449 y452 (!t456) a0_0 a0_1 l0_2)) else (spec_PortWork.j0 k l1 a2 y449 y452 true a0_0 a0_1 l0_2)))) = some (r1, r2, r3) := by first | (rw [hy449]; with_reducible exact H) | (have H2_ := (Option.bind_some _ _).symm.trans H; rw [hy449]; with_reducible exact H2_) | (have H2_ := (Option.bind_some _ _).symm.trans H; with_reducible exact H2_) | with_reducible exact H | (rw [hy449]; exact H) | exact H
 have Ny449 := Aside0.mk hy449
 clear hy449
 obtain ⟨y452, hy452⟩ : ∃ y_ : List Int, y_ = (([] : List Int)) := ⟨_, rfl⟩
 replace H : ((spec_l10Asked.f k a0_0 a0_1 l0_2 l1).bind fun t455 => (if t455 = true then ((spec_l1In.f a2 1 9).bind fun t456 => (spec_PortWork.j0 k l1 a2 y449 y452 (!t456) a0_0 a0_1 l0_2)) else (spec_PortWork.j0 k l1 a2 y449 y452 true a0_0 a0_1 l0_2))) = some (r1, r2, r3) := by first | (rw [hy452]; with_reducible exact H) | (have H2_ := (Option.bind_some _ _).symm.trans H; rw [hy452]; with_reducible exact H2_) | (have H2_ := (Option.bind_some _ _).symm.trans H; with_reducible exact H2_) | with_reducible exact H | (rw [hy452]; exact H) | exact H
 have Ny452 := Aside0.mk hy452
 clear hy452
 have HC4 := Aside0.mk H
 clear H
 go_enter Try.func8, Try.ntmps8
 go_upto_region 2 with (first | ((with_reducible refine gate_dst (N := 3) rfl ?_); refine box_event ?hg (N := 3) ?hd (cs := #[.int .i64 a0_0, .int .i64 a0_1, .slice A0_2 l0_2.length c0_2]) (t := 26) ?hr ?_; (case hd => rfl); (case hg => rfl); (case hr => first | (go_simp; done) | (go_simp; rfl)); intro gb448 hg w5 hbox hb; have n0_ := Aside0.mk (below_step (bel HB) hb); have n1_ := Aside0.mk (hbox); have n2_ := Aside0.mk ((by rw [hg]; exact (below_size (bel HB)) : w.heap.size ≤ gb448)); have n3_ := Aside0.mk ((by rw [hg]; exact (below_size (bel HB)) : w.heap.size ≤ gb448)); clear HB; have HB := n0_; have BK448 := n1_; have GW448 := n2_; have GE448 := n3_; clear n0_ n1_ n2_ n3_; clear hb hbox hg) | ((with_reducible refine gate_dst (N := 16) rfl ?_); refine Kd.R_lit (Kd.int .i64) _ 3 ?hg (N := 16) ?hd (xs := ([] : List Int)) (inner := []) (ok := fun _ => True) (okp := fun _ => True) ?hr ?hp (fun _ hk => hk) trivial (Below.refl _ _) (Nat.le_refl _) (by simp) ?_; (case hd => rfl); (case hg => rfl); (case hr => first | (go_simp; done) | (go_simp; rfl)); (case hp => exact (Reps.none _ _)); intro v450 w6 ho7 hb hg_ hnew_; clear hg_ hnew_; (first | rw [← Ny449.out] at ho7 | (simp only [Int.reduceToNat] at ho7; rw [← Ny449.out] at ho7)); have n0_ := Aside0.mk (Kd.R_lower (Kd.R_newM (M := fun k_ => (w.heap.size ≤ k_)) ho7 (below_size (bel1 HB GE448)) (fun k_ h_ => h_)) (below_size (bel1 HB GE448))); have n1_ := Aside0.mk (blk_below (g := gb448) (o := .cells #[.int .i64 a0_0, .int .i64 a0_1, .slice A0_2 l0_2.length c0_2] 26 (0, 0)) (bkl BK448) hb); have n2_ := Aside0.mk (below_step (bel1 HB GE448) hb); clear BK448; clear HB; have HO451 := n0_; have BK448 := n1_; have HB := n2_; clear n0_ n1_ n2_; clear hb ho7) | ((with_reducible refine gate_dst (N := 17) rfl ?_); refine Kd.R_lit (Kd.int .i64) _ 3 ?hg (N := 17) ?hd (xs := ([] : List Int)) (inner := []) (ok := fun _ => True) (okp := fun _ => True) ?hr ?hp (fun _ hk => hk) trivial (Below.refl _ _) (Nat.le_refl _) (by simp) ?_; (case hd => rfl); (case hg => rfl); (case hr => first | (go_simp; done) | (go_simp; rfl)); (case hp => exact (Reps.none _ _)); intro v453 w8 ho9 hb hg_ hnew_; clear hg_ hnew_; (first | rw [← Ny452.out] at ho9 | (simp only [Int.reduceToNat] at ho9; rw [← Ny452.out] at ho9)); have n0_ := Aside0.mk (Kd.R_elder' (rdl HO451) (Kd.R_base ho9) hb); have n1_ := Aside0.mk (Kd.R_lower (Kd.R_new' (Kd.R_newM (M := fun k_ => (w.heap.size ≤ k_)) ho9 (below_size (bel1 HB GE448)) (fun k_ h_ => h_)) (Kd.R_lt (rdl HO451))) (below_size (bel1 HB GE448))); have n2_ := Aside0.mk (blk_below (g := gb448) (o := .cells #[.int .i64 a0_0, .int .i64 a0_1, .slice A0_2 l0_2.length c0_2] 26 (0, 0)) (bkl BK448) hb); have n3_ := Aside0.mk (below_step (bel1 HB GE448) hb); clear HO451; clear BK448; clear HB; have HO451 := n0_; have HO454 := n1_; have BK448 := n2_; have HB := n3_; clear n0_ n1_ n2_ n3_; clear hb ho9))
 (try simp only [Act.put, List.setIfInBounds_toArray, List.set_cons_zero, List.set_cons_succ])
 go_cut [26] (fun v26 wc => ∃ (kq : Nat) (x26_3 : Bool), v26 = .bool x26_3 ∧ Aside0 (spec_PortWork.j0 kq l1 a2 y449 y452 x26_3 a0_0 a0_1 l0_2 = some (r1, r2, r3)) ∧ Aside0 (kq ≤ k) ∧ Aside0 (Kd.R (Kd.int .i64) 3 wc w.heap.size (fun k_ => (w.heap.size ≤ k_) ∧ some k_ ≠ (v453 : Value).ownBlock) v450 y449) ∧ Aside0 (Kd.R (Kd.int .i64) 3 wc w.heap.size (fun k_ => (w.heap.size ≤ k_) ∧ some k_ ≠ (v450 : Value).ownBlock) v453 y452) ∧ Aside0 (wc.heap[gb448]? = some (.cells #[.int .i64 a0_0, .int .i64 a0_1, (.slice A0_2 l0_2.length c0_2)] 26 (0, 0))) ∧ Aside0 (Below w.heap.size w wc))
 case first =>
  have H := HC4.out
  clear HC4
  replace H := Option.bind_eq_some_iff.mp H
  obtain ⟨t455, A100, H⟩ := H
  replace H : (if t455 = true then ((spec_l1In.f a2 1 9).bind fun t456 => (spec_PortWork.j0 k l1 a2 y449 y452 (!t456) a0_0 a0_1 l0_2)) else (spec_PortWork.j0 k l1 a2 y449 y452 true a0_0 a0_1 l0_2)) = some (r1, r2, r3) := H
  have A10 := Aside0.mk A100
  clear A100
  by_cases c11 : t455 = true
  rotate_left
  ·replace c11 := Bool.eq_false_iff.mpr c11
   subst c11
   have H1 : (spec_PortWork.j0 k l1 a2 y449 y452 true a0_0 a0_1 l0_2) = some (r1, r2, r3) := by rw [if_neg (show ¬ (false = true) by decide)] at H; exact H
   clear H
   have H := H1
   clear H1
   have H' := Aside0.mk H
   clear H
   have hcz15_0 : w8.cell? ⟨gb448, 0, none⟩ = some (.int .i64 a0_0) := (blk_cell BK448.out 0).trans rfl
   have hcz15_1 : w8.cell? ⟨gb448, 1, none⟩ = some (.int .i64 a0_1) := (blk_cell BK448.out 1).trans rfl
   have hcz15_2 : w8.cell? ⟨gb448, 2, none⟩ = some (.slice A0_2 l0_2.length c0_2) := (blk_cell BK448.out 2).trans rfl
   have hfz15_0 := blk_frozen BK448.out 0
   have hfz15_1 := blk_frozen BK448.out 1
   have hfz15_2 := blk_frozen BK448.out 2
   go_wp2_with (first | ((with_reducible refine gate_callee (f := 29) rfl ?_); refine goesL_ (some 20) rfl rfl Try.func29 (by kernel_rfl) rfl #[.agg #[.int .i64 a0_0, .int .i64 a0_1, .slice A0_2 l0_2.length c0_2], .slice A1 l1.length c1] rfl gmp ?_; (with_reducible refine (spec_l10Asked.calls k a0_0 a0_1 _ _ l0_2 _ _ l1 false _ ?side1 ?side2 ?side3 ?side4 A10.out).mono ?_); (case side1 => exact cdl (Kd.C_below HR0_2.out HB.out)); (case side2 => exact HC0_2.out); (case side3 => exact cdl (Kd.C_below HR1.out HB.out)); (case side4 => exact HC1.out); rintro e w16 ⟨rfl, hb⟩; refine ⟨_, rfl, ?_⟩; have n0_ := Aside0.mk (Kd.R_below (rdl HO451) hb); have n1_ := Aside0.mk (Kd.R_below (rdl HO454) hb); have n2_ := Aside0.mk (blk_below (g := gb448) (o := .cells #[.int .i64 a0_0, .int .i64 a0_1, .slice A0_2 l0_2.length c0_2] 26 (0, 0)) (bkl BK448) hb); have n3_ := Aside0.mk (below_step (bel1 HB GE448) hb); clear HO451; clear HO454; clear BK448; clear HB; have HO451 := n0_; have HO454 := n1_; have BK448 := n2_; have HB := n3_; clear n0_ n1_ n2_ n3_; (try clear hb); (try clear hb2); (try clear hk); (try clear hi)))
   go_meet
   case rel => exact ⟨_, (true), (by first | rfl | (simp; done) | (simp [*]; done)), H', ⟨by first | omega | exact Nat.le_refl _⟩, ⟨by (with_reducible repeat (first | apply Kd.R_alloc | apply Kd.R_drewN | apply Kd.R_drew)); exact Kd.R_mono HO451.out (fun _ hk => ⟨hk.1.1, hk.2⟩)⟩, ⟨by (with_reducible repeat (first | apply Kd.R_alloc | apply Kd.R_drewN | apply Kd.R_drew)); exact Kd.R_mono HO454.out (fun _ hk => ⟨hk.1.1, hk.2⟩)⟩, ⟨bkl BK448⟩, ⟨bel1 HB GE448⟩⟩
  subst c11
  have H1 : ((spec_l1In.f a2 1 9).bind fun t456 => (spec_PortWork.j0 k l1 a2 y449 y452 (!t456) a0_0 a0_1 l0_2)) = some (r1, r2, r3) := by rw [if_pos rfl] at H; exact H
  clear H
  have H := H1
  clear H1
  replace H := Option.bind_eq_some_iff.mp H
  obtain ⟨t456, A120, H⟩ := H
  replace H : (spec_PortWork.j0 k l1 a2 y449 y452 (!t456) a0_0 a0_1 l0_2) = some (r1, r2, r3) := H
  have A12 := Aside0.mk A120
  clear A120
  have H' := Aside0.mk H
  clear H
  have hcz13_0 : w8.cell? ⟨gb448, 0, none⟩ = some (.int .i64 a0_0) := (blk_cell BK448.out 0).trans rfl
  have hcz13_1 : w8.cell? ⟨gb448, 1, none⟩ = some (.int .i64 a0_1) := (blk_cell BK448.out 1).trans rfl
  have hcz13_2 : w8.cell? ⟨gb448, 2, none⟩ = some (.slice A0_2 l0_2.length c0_2) := (blk_cell BK448.out 2).trans rfl
  have hfz13_0 := blk_frozen BK448.out 0
  have hfz13_1 := blk_frozen BK448.out 1
  have hfz13_2 := blk_frozen BK448.out 2
  go_wp2_with (first | ((with_reducible refine gate_callee (f := 29) rfl ?_); refine goesL_ (some 20) rfl rfl Try.func29 (by kernel_rfl) rfl #[.agg #[.int .i64 a0_0, .int .i64 a0_1, .slice A0_2 l0_2.length c0_2], .slice A1 l1.length c1] rfl gmp ?_; (with_reducible refine (spec_l10Asked.calls k a0_0 a0_1 _ _ l0_2 _ _ l1 true _ ?side1 ?side2 ?side3 ?side4 A10.out).mono ?_); (case side1 => exact cdl (Kd.C_below HR0_2.out HB.out)); (case side2 => exact HC0_2.out); (case side3 => exact cdl (Kd.C_below HR1.out HB.out)); (case side4 => exact HC1.out); rintro e w14 ⟨rfl, hb⟩; refine ⟨_, rfl, ?_⟩; have n0_ := Aside0.mk (Kd.R_below (rdl HO451) hb); have n1_ := Aside0.mk (Kd.R_below (rdl HO454) hb); have n2_ := Aside0.mk (blk_below (g := gb448) (o := .cells #[.int .i64 a0_0, .int .i64 a0_1, .slice A0_2 l0_2.length c0_2] 26 (0, 0)) (bkl BK448) hb); have n3_ := Aside0.mk (below_step (bel1 HB GE448) hb); clear HO451; clear HO454; clear BK448; clear HB; have HO451 := n0_; have HO454 := n1_; have BK448 := n2_; have HB := n3_; clear n0_ n1_ n2_ n3_; (try clear hb); (try clear hb2); (try clear hk); (try clear hi)) | (go_at_call 30; (with_reducible refine (spec_l1In.calls a2 1 9 t456 _ A12.out).mono ?_); rintro e w' ⟨rfl, ⟨nd, rfl⟩⟩))
  go_meet
  case rel => exact ⟨_, (!t456), (by first | rfl | (simp; done) | (simp [*]; done)), H', ⟨by first | omega | exact Nat.le_refl _⟩, ⟨by (with_reducible repeat (first | apply Kd.R_alloc | apply Kd.R_drewN | apply Kd.R_drew)); exact Kd.R_mono HO451.out (fun _ hk => ⟨hk.1.1, hk.2⟩)⟩, ⟨by (with_reducible repeat (first | apply Kd.R_alloc | apply Kd.R_drewN | apply Kd.R_drew)); exact Kd.R_mono HO454.out (fun _ hk => ⟨hk.1.1, hk.2⟩)⟩, ⟨bkl BK448⟩, ⟨bel1 HB GE448⟩⟩
 clear HC4
 try clear c1
 try clear c2
 try clear p2
 try clear c8
 try clear c11
 try clear hcz13_0
 try clear hcz13_1
 try clear hcz13_2
 try clear hcz15_0
 try clear hcz15_1
 try clear hcz15_2
 try clear hfz13_0
 try clear hfz13_1
 try clear hfz13_2
 try clear hfz15_0
 try clear hfz15_1
 try clear hfz15_2
 obtain ⟨kq, x26_3, rfl, HA, HJ3, HO_9, HO_10, BK448, HB⟩ := hcut
 cases kq with
 | zero => exact absurd HA.out (by simp [spec_PortWork.j0])
 | succ kj3 =>
  have H := HA.out
  clear HA
  simp only [spec_PortWork.j0] at H
  by_cases c17 : x26_3 = true
  ·subst c17
   have H1 : (some (y449, y452, false)) = some (r1, r2, r3) := by rw [if_pos rfl] at H; exact H
   clear H
   have H := H1
   clear H1
   simp only [Option.some.injEq, Prod.mk.injEq] at H
   obtain ⟨rfl, rfl, rfl⟩ := H
   go_wp2
   go_ret3
   exact ⟨_, _, by first | rfl | (simp [errW_none, errW_some] <;> rfl) | (simp [*, errW_none, errW_some] <;> rfl), Kd.R_V (by (with_reducible repeat (first | apply Kd.R_alloc | apply Kd.R_drewN | apply Kd.R_drew)); exact Kd.R_mono HO_9.out (fun _ hk => hk.1)), Kd.R_V (by (with_reducible repeat (first | apply Kd.R_alloc | apply Kd.R_drewN | apply Kd.R_drew)); exact Kd.R_mono HO_10.out (fun _ hk => hk.1)), bel1 HB GE448⟩
  replace c17 := Bool.eq_false_iff.mpr c17
  subst c17
  have H1 : ((spec_l10Bay.f kj3 a0_0 a0_1 l0_2 l1).bind fun bt457 => (spec_PortWork.l0 kj3 a2 y449 y452 0 a0_0 a0_1 l0_2 bt457.1 bt457.2)) = some (r1, r2, r3) := by rw [if_neg (show ¬ (false = true) by decide)] at H; exact H
  clear H
  have H := H1
  clear H1
  replace H := Option.bind_eq_some_iff.mp H
  obtain ⟨⟨t457, t458⟩, A180, H⟩ := H
  replace H : (spec_PortWork.l0 kj3 a2 y449 y452 0 a0_0 a0_1 l0_2 t457 t458) = some (r1, r2, r3) := H
  have A18 := Aside0.mk A180
  clear A180
  have H' := Aside0.mk H
  clear H
  have hcz19_0 : wc.cell? ⟨gb448, 0, none⟩ = some (.int .i64 a0_0) := (blk_cell BK448.out 0).trans rfl
  have hcz19_1 : wc.cell? ⟨gb448, 1, none⟩ = some (.int .i64 a0_1) := (blk_cell BK448.out 1).trans rfl
  have hcz19_2 : wc.cell? ⟨gb448, 2, none⟩ = some (.slice A0_2 l0_2.length c0_2) := (blk_cell BK448.out 2).trans rfl
  have hfz19_0 := blk_frozen BK448.out 0
  have hfz19_1 := blk_frozen BK448.out 1
  have hfz19_2 := blk_frozen BK448.out 2
  go_wp2_with (first | ((with_reducible refine gate_callee (f := 31) rfl ?_); refine goesL_ (some 31) rfl rfl Try.func31 (by kernel_rfl) rfl #[.agg #[.int .i64 a0_0, .int .i64 a0_1, .slice A0_2 l0_2.length c0_2], .slice A1 l1.length c1] rfl gmp ?_; (with_reducible refine (spec_l10Bay.calls kj3 a0_0 a0_1 _ _ l0_2 _ _ l1 t457 t458 _ ?side1 ?side2 ?side3 ?side4 A18.out).mono ?_); (case side1 => exact cdl (Kd.C_below HR0_2.out HB.out)); (case side2 => exact HC0_2.out); (case side3 => exact cdl (Kd.C_below HR1.out HB.out)); (case side4 => exact HC1.out); rintro e w20 ⟨v459, rfl, ho0, hb⟩; refine ⟨_, rfl, ?_⟩; have n0_ := Aside0.mk (Kd.R_below (rdl HO_9) hb); have n1_ := Aside0.mk (Kd.R_below (rdl HO_10) hb); have n2_ := Aside0.mk (Kd.S_lower (Kd.S_new' (Kd.S_new' (Kd.S_newM (M := fun k_ => (w.heap.size ≤ k_)) ho0 (below_size (bel1 HB GE448)) (fun k_ h_ => h_)) (Kd.R_lt (rdl HO_9))) (Kd.R_lt (rdl HO_10))) (below_size (bel1 HB GE448))); have n3_ := Aside0.mk (blk_below (g := gb448) (o := .cells #[.int .i64 a0_0, .int .i64 a0_1, .slice A0_2 l0_2.length c0_2] 26 (0, 0)) (bkl BK448) hb); have n4_ := Aside0.mk (below_step (bel1 HB GE448) hb); clear HO_9; clear HO_10; clear BK448; clear HB; have HO_9 := n0_; have HO_10 := n1_; have HO460 := n2_; have BK448 := n3_; have HB := n4_; clear n0_ n1_ n2_ n3_ n4_; (try clear hb); (try clear hb2); (try clear hk); (try clear hi); (try clear ho0)) | ((with_reducible refine gate_dst (N := 11) rfl ?_); refine box_event ?hg (N := 11) ?hd (cs := #[.int .i64 0, .slice none 0 0]) (t := 45) ?hr ?_; (case hd => rfl); (case hg => rfl); (case hr => first | (go_simp; done) | (go_simp; rfl)); intro gb461 hg w21 hbox hb; have n0_ := Aside0.mk (Kd.R_below (rdl HO_9) hb); have n1_ := Aside0.mk (Kd.R_below (rdl HO_10) hb); have n2_ := Aside0.mk (Kd.S_below (sdl HO460) hb); have n3_ := Aside0.mk (blk_below (g := gb448) (o := .cells #[.int .i64 a0_0, .int .i64 a0_1, .slice A0_2 l0_2.length c0_2] 26 (0, 0)) (bkl BK448) hb); have n4_ := Aside0.mk (below_step (bel1 HB GE448) hb); have n5_ := Aside0.mk (hbox); have n6_ := Aside0.mk ((by rw [hg]; exact (below_size (bel1 HB GE448)) : w.heap.size ≤ gb461)); have n7_ := Aside0.mk ((by rw [hg]; exact (below_size (bel1 HB GE448)) : w.heap.size ≤ gb461)); have n8_ := Aside0.mk ((by rw [hg]; exact Nat.ne_of_lt (blk_lt (g := gb448) (o := .cells #[.int .i64 a0_0, .int .i64 a0_1, .slice A0_2 l0_2.length c0_2] 26 (0, 0)) (bkl BK448)) : gb448 ≠ gb461)); have n9_ := Aside0.mk ((by rw [hg]; exact Nat.ne_of_gt (blk_lt (g := gb448) (o := .cells #[.int .i64 a0_0, .int .i64 a0_1, .slice A0_2 l0_2.length c0_2] 26 (0, 0)) (bkl BK448)) : gb461 ≠ gb448)); clear HO_9; clear HO_10; clear HO460; clear BK448; clear HB; have HO_9 := n0_; have HO_10 := n1_; have HO460 := n2_; have BK448 := n3_; have HB := n4_; have BK461 := n5_; have GW461 := n6_; have GE461 := n7_; have NB448_461 := n8_; have NB461_448 := n9_; clear n0_ n1_ n2_ n3_ n4_ n5_ n6_ n7_ n8_ n9_; clear hb hbox hg; have hnb22 := NB461_448.out; have hnc22 := NB448_461.out; have hcz23_0 : w21.cell? ⟨gb461, 0, none⟩ = some (.int .i64 0) := (blk_cell BK461.out 0).trans rfl; have hcz23_1 : w21.cell? ⟨gb461, 1, none⟩ = some (.slice none 0 0) := (blk_cell BK461.out 1).trans rfl; have hfz23_0 := blk_frozen BK461.out 0; have hfz23_1 := blk_frozen BK461.out 1; obtain ⟨Ao24, co24, eo24⟩ := Kd.S_slice HO460.out; subst eo24))
  go_loopg [9, 10, 12] kj3 (fun kq v9 v10 v12 w' => ∃ (x9_2 : List Int) (x10_2 : List Int) (x12_2 : Int), v12 = .int .i64 x12_2 ∧ Aside0 (spec_PortWork.l0 kq a2 x9_2 x10_2 x12_2 a0_0 a0_1 l0_2 t457 t458 = some (r1, r2, r3)) ∧ Aside0 (kq ≤ kj3) ∧ Aside0 (Kd.V (Kd.int .i64) 3 w' w.heap.size (fun k_ => (w.heap.size ≤ k_) ∧ some k_ ≠ ((.slice Ao24 t458.length co24) : Value).ownBlock ∧ k_ ≠ gb448 ∧ k_ ≠ gb461) v9 x9_2) ∧ Aside0 (Kd.V (Kd.int .i64) 3 w' w.heap.size (fun k_ => (w.heap.size ≤ k_) ∧ some k_ ≠ ((.slice Ao24 t458.length co24) : Value).ownBlock ∧ k_ ≠ gb448 ∧ k_ ≠ gb461) v10 x10_2) ∧ Aside0 (Kd.S (Kd.slice 3 (Kd.int .i64)) 24 w' w.heap.size (fun k_ => (w.heap.size ≤ k_)) (.slice Ao24 t458.length co24) t458) ∧ Aside0 (w'.heap[gb448]? = some (.cells #[.int .i64 a0_0, .int .i64 a0_1, (.slice A0_2 l0_2.length c0_2)] 26 (0, 0))) ∧ Aside0 (w'.heap[gb461]? = some (.cells #[.int .i64 t457, (.slice Ao24 t458.length co24)] 45 (0, 0))) ∧ Aside0 (Below w.heap.size w w'))
  case atStart => exact ⟨(y449), (y452), (0), (by first | rfl | (simp; done) | (simp [*]; done)), H', ⟨Nat.le_refl _⟩, ⟨Kd.R_V (by (with_reducible repeat (first | apply Kd.R_alloc | apply Kd.R_drewN | apply Kd.R_drew)); exact Kd.R_mono (Kd.R_far (p := ⟨gb461, 1, none⟩) (Kd.R_far (p := ⟨gb461, 0, none⟩) (Kd.R_types (Kd.R_types (Kd.R_types (Kd.R_apart' HO_9.out (Kd.S_typed HO460.out) (by decide)) BK448.out (by decide)) BK461.out (by decide)) BK461.out (by decide)) (fun _ hk => hk.2) (.int .i64 t457)) (fun _ hk => hk.2) (.slice Ao24 t458.length co24)) (fun _ hk => ⟨hk.1.1.1.1.1, ⟨hk.1.1.1.2, ⟨hk.1.1.2, hk.1.2⟩⟩⟩))⟩, ⟨Kd.R_V (by (with_reducible repeat (first | apply Kd.R_alloc | apply Kd.R_drewN | apply Kd.R_drew)); exact Kd.R_mono (Kd.R_far (p := ⟨gb461, 1, none⟩) (Kd.R_far (p := ⟨gb461, 0, none⟩) (Kd.R_types (Kd.R_types (Kd.R_types (Kd.R_apart' HO_10.out (Kd.S_typed HO460.out) (by decide)) BK448.out (by decide)) BK461.out (by decide)) BK461.out (by decide)) (fun _ hk => hk.2) (.int .i64 t457)) (fun _ hk => hk.2) (.slice Ao24 t458.length co24)) (fun _ hk => ⟨hk.1.1.1.1.1, ⟨hk.1.1.1.2, ⟨hk.1.1.2, hk.1.2⟩⟩⟩))⟩, ⟨by (with_reducible repeat (first | apply Kd.S_alloc | apply Kd.S_drewN | apply Kd.S_drew)); exact Kd.S_mono (Kd.S_far (p := ⟨gb461, 1, none⟩) (Kd.S_far (p := ⟨gb461, 0, none⟩) (Kd.S_types HO460.out BK461.out (by decide)) (fun _ hk => hk.2) (.int .i64 t457)) (fun _ hk => hk.2) (.slice Ao24 t458.length co24)) (fun _ hk => hk.1.1.1.1)⟩, ⟨by (with_reducible repeat (first | refine blk_drewN ?_ _ | refine blk_drew ?_ | refine blk_alloc ?_ _)); refine blk_far ?_ NB448_461.out _; (with_reducible repeat (first | refine blk_drewN ?_ _ | refine blk_drew ?_ | refine blk_alloc ?_ _)); refine blk_far ?_ NB448_461.out _; (with_reducible repeat (first | refine blk_drewN ?_ _ | refine blk_drew ?_ | refine blk_alloc ?_ _)); exact BK448.out⟩, ⟨by (with_reducible repeat (first | refine blk_drewN ?_ _ | refine blk_drew ?_ | refine blk_alloc ?_ _)); refine blk_put (cs := #[.int .i64 t457, .slice none 0 0]) ?_ 1 _ rfl; (with_reducible repeat (first | refine blk_drewN ?_ _ | refine blk_drew ?_ | refine blk_alloc ?_ _)); refine blk_put (cs := #[.int .i64 0, .slice none 0 0]) ?_ 0 _ rfl; (with_reducible repeat (first | refine blk_drewN ?_ _ | refine blk_drew ?_ | refine blk_alloc ?_ _)); exact BK461.out⟩, ⟨bel2 HB GE448 GE461⟩⟩
  clear H'
  try clear c1
  try clear c2
  try clear p2
  try clear c3
  try clear c8
  try clear c11
  try clear c17
  try clear c22
  try clear hcz13_0
  try clear hcz13_1
  try clear hcz13_2
  try clear hcz15_0
  try clear hcz15_1
  try clear hcz15_2
  try clear hcz19_0
  try clear hcz19_1
  try clear hcz19_2
  try clear hcz23_0
  try clear hcz23_1
  try clear hfz13_0
  try clear hfz13_1
  try clear hfz13_2
  try clear hfz15_0
  try clear hfz15_1
  try clear hfz15_2
  try clear hfz19_0
  try clear hfz19_1
  try clear hfz19_2
  try clear hfz23_0
  try clear hfz23_1
  try clear p2
  obtain ⟨x9_2, x10_2, x12_2, rfl, HA, HK2, HO_9, HO_10, HO_462001, BK448, BK461, HB⟩ := hrel
  cases gk with
  | zero => exact absurd HA.out (by simp [spec_PortWork.l0])
  | succ k2 =>
   have H := HA.out
   clear HA
   simp only [spec_PortWork.l0] at H
   by_cases c25 : x12_2 < (t458.length : Int)
   rotate_left
   ·rw [if_neg c25] at H
    have c25b0 : decide (x12_2 < (t458.length : Int)) = false := decide_eq_false c25
    clear c25
    simp only [Option.some.injEq, Prod.mk.injEq] at H
    obtain ⟨rfl, rfl, rfl⟩ := H
    have hnb58 := NB461_448.out
    have hnc58 := NB448_461.out
    have hcz59_0 : wr.cell? ⟨gb461, 0, none⟩ = some (.int .i64 t457) := (blk_cell BK461.out 0).trans rfl
    have hcz59_1 : wr.cell? ⟨gb461, 1, none⟩ = some (.slice Ao24 t458.length co24) := (blk_cell BK461.out 1).trans rfl
    have hfz59_0 := blk_frozen BK461.out 0
    have hfz59_1 := blk_frozen BK461.out 1
    go_wp2
    go_ret3
    exact ⟨_, _, by first | rfl | (simp [errW_none, errW_some] <;> rfl) | (simp [*, errW_none, errW_some] <;> rfl), by (with_reducible repeat (first | apply Kd.V_alloc | apply Kd.V_drewN | apply Kd.V_drew)); exact Kd.V_mono HO_9.out (fun _ hk => hk.1), by (with_reducible repeat (first | apply Kd.V_alloc | apply Kd.V_drewN | apply Kd.V_drew)); exact Kd.V_mono HO_10.out (fun _ hk => hk.1), bel2 HB GE448 GE461⟩
   rw [if_pos c25] at H
   have c25b0 : decide (x12_2 < (t458.length : Int)) = true := decide_eq_true c25
   clear c25
   have H' := Aside0.mk H
   clear H
   have hnb26 := NB461_448.out
   have hnc26 := NB448_461.out
   have hcz27_0 : wr.cell? ⟨gb461, 0, none⟩ = some (.int .i64 t457) := (blk_cell BK461.out 0).trans rfl
   have hcz27_1 : wr.cell? ⟨gb461, 1, none⟩ = some (.slice Ao24 t458.length co24) := (blk_cell BK461.out 1).trans rfl
   have hfz27_0 := blk_frozen BK461.out 0
   have hfz27_1 := blk_frozen BK461.out 1
   go_wp2
   go_loopg [9, 10, 13, 14] k2 (fun kq v9 v10 v13 v14 w' => ∃ (x9_3 : List Int) (x10_3 : List Int) (x13_3 : Bool) (x14_3 : Int), v13 = .bool x13_3 ∧ v14 = .int .i64 x14_3 ∧ Aside0 (spec_PortWork.l1 kq a2 x9_3 x10_3 x12_2 x13_3 x14_3 a0_0 a0_1 l0_2 t457 t458 = some (r1, r2, r3)) ∧ Aside0 (kq ≤ k2) ∧ Aside0 (Kd.V (Kd.int .i64) 3 w' w.heap.size (fun k_ => (w.heap.size ≤ k_) ∧ some k_ ≠ ((.slice Ao24 t458.length co24) : Value).ownBlock ∧ k_ ≠ gb448 ∧ k_ ≠ gb461) v9 x9_3) ∧ Aside0 (Kd.V (Kd.int .i64) 3 w' w.heap.size (fun k_ => (w.heap.size ≤ k_) ∧ some k_ ≠ ((.slice Ao24 t458.length co24) : Value).ownBlock ∧ k_ ≠ gb448 ∧ k_ ≠ gb461) v10 x10_3) ∧ Aside0 (Kd.S (Kd.slice 3 (Kd.int .i64)) 24 w' w.heap.size (fun k_ => (w.heap.size ≤ k_)) (.slice Ao24 t458.length co24) t458) ∧ Aside0 (w'.heap[gb448]? = some (.cells #[.int .i64 a0_0, .int .i64 a0_1, (.slice A0_2 l0_2.length c0_2)] 26 (0, 0))) ∧ Aside0 (w'.heap[gb461]? = some (.cells #[.int .i64 t457, (.slice Ao24 t458.length co24)] 45 (0, 0))) ∧ Aside0 (Below w.heap.size w w'))
   case atStart => exact ⟨(x9_2), (x10_2), (false), (0), (by first | rfl | (simp; done) | (simp [*]; done)), (by first | rfl | (simp; done) | (simp [*]; done)), H', ⟨Nat.le_refl _⟩, ⟨by (with_reducible repeat (first | apply Kd.V_alloc | apply Kd.V_drewN | apply Kd.V_drew)); exact HO_9.out⟩, ⟨by (with_reducible repeat (first | apply Kd.V_alloc | apply Kd.V_drewN | apply Kd.V_drew)); exact HO_10.out⟩, ⟨sdl HO_462001⟩, ⟨bkl BK448⟩, ⟨bkl BK461⟩, ⟨bel2 HB GE448 GE461⟩⟩
   clear H'
   try clear c1
   try clear c2
   try clear p2
   try clear c3
   try clear c8
   try clear c11
   try clear c17
   try clear c22
   try clear c25
   try clear c25b0
   try clear c26
   try clear hcz13_0
   try clear hcz13_1
   try clear hcz13_2
   try clear hcz15_0
   try clear hcz15_1
   try clear hcz15_2
   try clear hcz19_0
   try clear hcz19_1
   try clear hcz19_2
   try clear hcz23_0
   try clear hcz23_1
   try clear hcz27_0
   try clear hcz27_1
   try clear hfz13_0
   try clear hfz13_1
   try clear hfz13_2
   try clear hfz15_0
   try clear hfz15_1
   try clear hfz15_2
   try clear hfz19_0
   try clear hfz19_1
   try clear hfz19_2
   try clear hfz23_0
   try clear hfz23_1
   try clear hfz27_0
   try clear hfz27_1
   try clear p2
   obtain ⟨x9_3, x10_3, x13_3, x14_3, rfl, rfl, HA, HK3, HO_9, HO_10, HO_462001, BK448, BK461, HB⟩ := hrel
   cases gk with
   | zero => exact absurd HA.out (by simp [spec_PortWork.l1])
   | succ k3 =>
    have H := HA.out
    clear HA
    simp only [spec_PortWork.l1] at H
    by_cases c28 : 0 ≤ x12_2
    rotate_left
    ·rw [if_neg c28] at H
     exact absurd H (by simp)
    rw [if_pos c28] at H
    have c28b0 : decide (0 ≤ x12_2) = true := decide_eq_true c28
    clear c28
    by_cases c29 : x12_2 < (t458.length : Int)
    rotate_left
    ·rw [if_neg c29] at H
     exact absurd H (by simp)
    rw [if_pos c29] at H
    have c29b0 : decide (x12_2 < (t458.length : Int)) = true := decide_eq_true c29
    clear c29
    by_cases c30 : x14_3 < ((rd_L2 t458 x12_2).length : Int)
    rotate_left
    ·rw [if_neg c30] at H
     have c30b0 : decide (x14_3 < ((rd_L2 t458 x12_2).length : Int)) = false := decide_eq_false c30
     clear c30
     have H' := Aside0.mk H
     clear H
     have hnb56 := NB461_448.out
     have hnc56 := NB448_461.out
     have hcz57_0 : wr.cell? ⟨gb461, 0, none⟩ = some (.int .i64 t457) := (blk_cell BK461.out 0).trans rfl
     have hcz57_1 : wr.cell? ⟨gb461, 1, none⟩ = some (.slice Ao24 t458.length co24) := (blk_cell BK461.out 1).trans rfl
     have hfz57_0 := blk_frozen BK461.out 0
     have hfz57_1 := blk_frozen BK461.out 1
     have p462 : 0 ≤ (x12_2 : Int) := oda
     have q462 : x12_2 < (t458.length : Int) := oda
     obtain ⟨ad462, A462_0, c462_0, e462, hx462_0, hl462_0, hi462_0⟩ := at_L2 (Kd.S_reads' HO_462001.out).2.2 x12_2 p462 q462
     cases e462
     obtain ⟨ce462, hce462, hMe462, hcc462⟩ := Kd.S_get HO_462001.out [] x12_2 p462 (by first | exact q462 | exact oda | (have e_ := (Kd.S_reads' HO_462001.out).1; omega))
     obtain ⟨ve462_0, rfl, ge462_0⟩ := hMe462
     have hv462_0 := hcc462 0 _ rfl
     rw [Nat.add_zero, show ((Kd.slice 3 (Kd.int .i64))).sz = 1 from rfl, Nat.mul_one] at hv462_0
     replace hv462_0 := Option.some.inj (hv462_0.symm.trans hx462_0)
     rw [hv462_0] at ge462_0
     have HL462_0 := Aside0.mk (show Kd.R (Kd.int .i64) 3 _ _ _ _ (rd_L2 t458 x12_2) from ge462_0)
     clear hv462_0 ge462_0 hcc462 hce462
     have HR462_0 := Aside0.mk hi462_0
     have HC462_0 := Aside0.mk hl462_0
     clear hi462_0 hl462_0
     replace p462 := eq_true p462
     replace q462 := eq_true q462
     go_wp2
     go_roundg k3
     case measure => have := HJ3.out; have := HK2.out; have := HK3.out; omega
     case rel => exact ⟨(x9_3), (x10_3), (wrap64 (x12_2 + 1)), (by first | rfl | (simp; done) | (simp [*]; done)), H', ⟨by have := HJ3.out; have := HK2.out; have := HK3.out; omega⟩, ⟨by (with_reducible repeat (first | apply Kd.V_alloc | apply Kd.V_drewN | apply Kd.V_drew)); exact HO_9.out⟩, ⟨by (with_reducible repeat (first | apply Kd.V_alloc | apply Kd.V_drewN | apply Kd.V_drew)); exact HO_10.out⟩, ⟨sdl HO_462001⟩, ⟨bkl BK448⟩, ⟨bkl BK461⟩, ⟨bel2 HB GE448 GE461⟩⟩
    rw [if_pos c30] at H
    have c30b0 : decide (x14_3 < ((rd_L2 t458 x12_2).length : Int)) = true := decide_eq_true c30
    clear c30
    by_cases c31 : 0 ≤ x14_3
    rotate_left
    ·rw [if_neg c31] at H
     exact absurd H (by simp)
    rw [if_pos c31] at H
    have c31b0 : decide (0 ≤ x14_3) = true := decide_eq_true c31
    clear c31
    obtain ⟨ji32, hji32⟩ : ∃ j_ : Int, (wrap64 ((rd (rd_L2 t458 x12_2) x14_3) - 1)) = j_ := ⟨_, rfl⟩
    replace H : (if 0 ≤ (ji32) then (if (ji32) < (l0_2.length : Int) then (if (rd l0_2 (ji32)) = a2 then ((spec_l1Put.f k3 x9_3 (rd (rd_L2 t458 x12_2) x14_3)).bind fun t466 => (spec_PortWork.l1 k3 a2 t466 x10_3 x12_2 true (wrap64 (x14_3 + 1)) a0_0 a0_1 l0_2 t457 t458)) else (if (rd l0_2 (ji32)) > a2 then (if x13_3 = true then ((spec_l1Put.f k3 x10_3 (rd (rd_L2 t458 x12_2) x14_3)).bind fun t470 => (spec_PortWork.l1 k3 a2 x9_3 t470 x12_2 x13_3 (wrap64 (x14_3 + 1)) a0_0 a0_1 l0_2 t457 t458)) else (spec_PortWork.l1 k3 a2 x9_3 x10_3 x12_2 x13_3 (wrap64 (x14_3 + 1)) a0_0 a0_1 l0_2 t457 t458)) else (spec_PortWork.l1 k3 a2 x9_3 x10_3 x12_2 x13_3 (wrap64 (x14_3 + 1)) a0_0 a0_1 l0_2 t457 t458))) else (none)) else (none)) = some (r1, r2, r3) := by first | (rw [hji32] at H; exact H) | (simp only [hji32] at H ⊢; exact H)
    have hji32w : (IntKind.i64.wrap ((rd (rd_L2 t458 x12_2) x14_3) - 1)) = ji32 := (i64_w _).trans hji32
    by_cases c33 : 0 ≤ (ji32)
    rotate_left
    ·rw [if_neg c33] at H
     exact absurd H (by simp)
    rw [if_pos c33] at H
    have c33b0 : decide (0 ≤ (ji32)) = true := decide_eq_true c33
    clear c33
    by_cases c34 : (ji32) < (l0_2.length : Int)
    rotate_left
    ·rw [if_neg c34] at H
     exact absurd H (by simp)
    rw [if_pos c34] at H
    have c34b0 : decide ((ji32) < (l0_2.length : Int)) = true := decide_eq_true c34
    clear c34
    by_cases c35 : (rd l0_2 (ji32)) = a2
    ·rw [if_pos c35] at H
     have c35b0 : ((rd l0_2 (ji32)) == a2) = true := beq_iff_eq.mpr c35
     have c35b1 : ((rd l0_2 (ji32)) != a2) = false := bne_eq_false_iff_eq.mpr c35
     clear c35
     replace H := Option.bind_eq_some_iff.mp H
     obtain ⟨t466, A360, H⟩ := H
     replace H : (spec_PortWork.l1 k3 a2 t466 x10_3 x12_2 true (wrap64 (x14_3 + 1)) a0_0 a0_1 l0_2 t457 t458) = some (r1, r2, r3) := H
     have A36 := Aside0.mk A360
     clear A360
     have H' := Aside0.mk H
     clear H
     have hnb37 := NB461_448.out
     have hnc37 := NB448_461.out
     have hcz38_0 : wr.cell? ⟨gb461, 0, none⟩ = some (.int .i64 t457) := (blk_cell BK461.out 0).trans rfl
     have hcz38_1 : wr.cell? ⟨gb461, 1, none⟩ = some (.slice Ao24 t458.length co24) := (blk_cell BK461.out 1).trans rfl
     have hfz38_0 := blk_frozen BK461.out 0
     have hfz38_1 := blk_frozen BK461.out 1
     have p462 : 0 ≤ (x12_2 : Int) := oda
     have q462 : x12_2 < (t458.length : Int) := oda
     obtain ⟨ad462, A462_0, c462_0, e462, hx462_0, hl462_0, hi462_0⟩ := at_L2 (Kd.S_reads' HO_462001.out).2.2 x12_2 p462 q462
     cases e462
     obtain ⟨ce462, hce462, hMe462, hcc462⟩ := Kd.S_get HO_462001.out [] x12_2 p462 (by first | exact q462 | exact oda | (have e_ := (Kd.S_reads' HO_462001.out).1; omega))
     obtain ⟨ve462_0, rfl, ge462_0⟩ := hMe462
     have hv462_0 := hcc462 0 _ rfl
     rw [Nat.add_zero, show ((Kd.slice 3 (Kd.int .i64))).sz = 1 from rfl, Nat.mul_one] at hv462_0
     replace hv462_0 := Option.some.inj (hv462_0.symm.trans hx462_0)
     rw [hv462_0] at ge462_0
     have HL462_0 := Aside0.mk (show Kd.R (Kd.int .i64) 3 _ _ _ _ (rd_L2 t458 x12_2) from ge462_0)
     clear hv462_0 ge462_0 hcc462 hce462
     have HR462_0 := Aside0.mk hi462_0
     have HC462_0 := Aside0.mk hl462_0
     clear hi462_0 hl462_0
     replace p462 := eq_true p462
     replace q462 := eq_true q462
     have p463 : 0 ≤ (x12_2 : Int) := oda
     have q463 : x12_2 < (t458.length : Int) := oda
     obtain ⟨ad463, A463_0, c463_0, e463, hx463_0, hl463_0, hi463_0⟩ := at_L2 (Kd.S_reads' HO_462001.out).2.2 x12_2 p463 q463
     obtain rfl : ad462 = ad463 := (by injection e463)
     obtain ⟨ce463, hce463, hMe463, hcc463⟩ := Kd.S_get HO_462001.out [] x12_2 p463 (by first | exact q463 | exact oda | (have e_ := (Kd.S_reads' HO_462001.out).1; omega))
     obtain ⟨ve463_0, rfl, ge463_0⟩ := hMe463
     have hv463_0 := hcc463 0 _ rfl
     rw [Nat.add_zero, show ((Kd.slice 3 (Kd.int .i64))).sz = 1 from rfl, Nat.mul_one] at hv463_0
     replace hv463_0 := Option.some.inj (hv463_0.symm.trans hx463_0)
     rw [hv463_0] at ge463_0
     have HL463_0 := Aside0.mk (show Kd.R (Kd.int .i64) 3 _ _ _ _ (rd_L2 t458 x12_2) from ge463_0)
     clear hv463_0 ge463_0 hcc463 hce463
     have HR463_0 := Aside0.mk hi463_0
     have HC463_0 := Aside0.mk hl463_0
     clear hi463_0 hl463_0
     replace p463 := eq_true p463
     replace q463 := eq_true q463
     have ea_ := Option.some.inj (hx462_0.symm.trans hx463_0)
     injection ea_ with ea_ en_ ec_
     subst ea_
     subst ec_
     clear en_
     have p464 : 0 ≤ (x14_3 : Int) := oda
     have q464 : x14_3 < ((rd_L2 t458 x12_2).length : Int) := oda
     obtain ⟨ad464, e464, hx464_0⟩ := Kd.at_int (cdl HR463_0.out) x14_3 p464 q464
     cases e464
     replace p464 := eq_true p464
     replace q464 := eq_true q464
     have hcz39_0 : wr.cell? ⟨gb448, 0, none⟩ = some (.int .i64 a0_0) := (blk_cell BK448.out 0).trans rfl
     have hcz39_1 : wr.cell? ⟨gb448, 1, none⟩ = some (.int .i64 a0_1) := (blk_cell BK448.out 1).trans rfl
     have hcz39_2 : wr.cell? ⟨gb448, 2, none⟩ = some (.slice A0_2 l0_2.length c0_2) := (blk_cell BK448.out 2).trans rfl
     have hfz39_0 := blk_frozen BK448.out 0
     have hfz39_1 := blk_frozen BK448.out 1
     have hfz39_2 := blk_frozen BK448.out 2
     have p465 : 0 ≤ ((ji32) : Int) := oda
     have q465 : (ji32) < (l0_2.length : Int) := oda
     obtain ⟨ad465, e465, hx465_0⟩ := Kd.at_int HR0_2.out (ji32) p465 q465
     cases e465
     replace hx465_0 := cel HB hx465_0
     replace p465 := eq_true p465
     replace q465 := eq_true q465
     obtain ⟨Ao40, co40, eo40⟩ := Kd.V_slice HO_9.out
     subst eo40
     go_wp2_with (first | ((with_reducible refine gate_callee (f := 32) rfl ?_); refine goesL_ (some 68) rfl rfl Try.func32 (by kernel_rfl) rfl #[.slice Ao40 x9_3.length co40, .int .i64 (rd (rd_L2 t458 x12_2) x14_3)] rfl gmp ?_; (with_reducible refine (spec_l1Put.calls k3 (fun k_ => ((w.heap.size ≤ k_) ∧ (some k_ ≠ (.slice (some ad462) t458.length co24 : Value).ownBlock ∧ (k_ ≠ gb448 ∧ k_ ≠ gb461)))) _ _ x9_3 (rd (rd_L2 t458 x12_2) x14_3) t466 _ ?side1 A36.out).mono ?_); (case side1 => exact HO_9.out); rintro e w41 ⟨v467, rfl, ho0, hb⟩; refine ⟨_, rfl, ?_⟩; have n0_ := Aside0.mk (Kd.V_below (vdl HO_9) hb); have n1_ := Aside0.mk (Kd.V_below (vdl HO_10) hb); have n2_ := Aside0.mk (Kd.S_below (sdl HO_462001) hb); have n3_ := Aside0.mk (Kd.R_below (rdl HL462_0) hb); have n4_ := Aside0.mk (Kd.R_below (rdl HL463_0) hb); have n5_ := Aside0.mk (Kd.V_lower (Kd.V_mono (ok' := fun k_ => (w.heap.size ≤ k_) ∧ some k_ ≠ (.slice (some ad462) t458.length co24 : Value).ownBlock ∧ k_ ≠ gb448 ∧ k_ ≠ gb461) ho0 (fun k_ hk_ => ⟨Or.elim hk_ (fun hs_ => hs_.1) (fun hn_ => (Nat.le_trans (below_size (bel2 HB GE448 GE461)) hn_)), Or.elim hk_ (fun hs_ => hs_.2.1) (fun hn_ => (Kd.fresh' (Kd.S_lt (sdl HO_462001)) k_ hn_)), Or.elim hk_ (fun hs_ => hs_.2.2.1) (fun hn_ => (Kd.freshB (g := gb448) (o := .cells #[.int .i64 a0_0, .int .i64 a0_1, .slice (some ad465) l0_2.length c0_2] 26 (0, 0)) (bkl BK448) k_ hn_)), Or.elim hk_ (fun hs_ => hs_.2.2.2) (fun hn_ => (Kd.freshB (g := gb461) (o := .cells #[.int .i64 t457, .slice (some ad462) t458.length co24] 45 (0, 0)) (bkl BK461) k_ hn_))⟩)) (below_size (bel2 HB GE448 GE461))); have n6_ := Aside0.mk (blk_below (g := gb448) (o := .cells #[.int .i64 a0_0, .int .i64 a0_1, .slice (some ad465) l0_2.length c0_2] 26 (0, 0)) (bkl BK448) hb); have n7_ := Aside0.mk (blk_below (g := gb461) (o := .cells #[.int .i64 t457, .slice (some ad462) t458.length co24] 45 (0, 0)) (bkl BK461) hb); have n8_ := Aside0.mk (Kd.C_below (cdl HR462_0.out) hb); have n9_ := Aside0.mk (Kd.C_below (cdl HR463_0.out) hb); have n10_ := Aside0.mk (below_step (bel2 HB GE448 GE461) hb); clear HO_9; clear HO_10; clear HO_462001; clear HL462_0; clear HL463_0; clear BK448; clear BK461; clear HR462_0; clear HR463_0; clear HB; have HO_9 := n0_; have HO_10 := n1_; have HO_462001 := n2_; have HL462_0 := n3_; have HL463_0 := n4_; have HO468 := n5_; have BK448 := n6_; have BK461 := n7_; have HR462_0 := n8_; have HR463_0 := n9_; have HB := n10_; clear n0_ n1_ n2_ n3_ n4_ n5_ n6_ n7_ n8_ n9_ n10_; (try clear hb); (try clear hb2); (try clear hk); (try clear hi); (try clear ho0)))
     go_roundg k3
     case measure => have := HJ3.out; have := HK2.out; have := HK3.out; omega
     case rel => exact ⟨(t466), (x10_3), (true), (wrap64 (x14_3 + 1)), (by first | rfl | (simp; done) | (simp [*]; done)), (by first | rfl | (simp; done) | (simp [*]; done)), H', ⟨by have := HJ3.out; have := HK2.out; have := HK3.out; omega⟩, ⟨by (with_reducible repeat (first | apply Kd.V_alloc | apply Kd.V_drewN | apply Kd.V_drew)); exact HO468.out⟩, ⟨by (with_reducible repeat (first | apply Kd.V_alloc | apply Kd.V_drewN | apply Kd.V_drew)); exact HO_10.out⟩, ⟨sdl HO_462001⟩, ⟨bkl BK448⟩, ⟨bkl BK461⟩, ⟨bel2 HB GE448 GE461⟩⟩
    rw [if_neg c35] at H
    have c35b0 : ((rd l0_2 (ji32)) == a2) = false := beq_eq_false_iff_ne.mpr c35
    have c35b1 : ((rd l0_2 (ji32)) != a2) = true := bne_iff_ne.mpr c35
    by_cases c42 : (rd l0_2 (ji32)) > a2
    rotate_left
    ·rw [if_neg c42] at H
     have c42b0 : decide (a2 < (rd l0_2 (ji32))) = false := decide_eq_false c42
     clear c42
     have H' := Aside0.mk H
     clear H
     have hnb53 := NB461_448.out
     have hnc53 := NB448_461.out
     have hcz54_0 : wr.cell? ⟨gb461, 0, none⟩ = some (.int .i64 t457) := (blk_cell BK461.out 0).trans rfl
     have hcz54_1 : wr.cell? ⟨gb461, 1, none⟩ = some (.slice Ao24 t458.length co24) := (blk_cell BK461.out 1).trans rfl
     have hfz54_0 := blk_frozen BK461.out 0
     have hfz54_1 := blk_frozen BK461.out 1
     have p462 : 0 ≤ (x12_2 : Int) := oda
     have q462 : x12_2 < (t458.length : Int) := oda
     obtain ⟨ad462, A462_0, c462_0, e462, hx462_0, hl462_0, hi462_0⟩ := at_L2 (Kd.S_reads' HO_462001.out).2.2 x12_2 p462 q462
     cases e462
     obtain ⟨ce462, hce462, hMe462, hcc462⟩ := Kd.S_get HO_462001.out [] x12_2 p462 (by first | exact q462 | exact oda | (have e_ := (Kd.S_reads' HO_462001.out).1; omega))
     obtain ⟨ve462_0, rfl, ge462_0⟩ := hMe462
     have hv462_0 := hcc462 0 _ rfl
     rw [Nat.add_zero, show ((Kd.slice 3 (Kd.int .i64))).sz = 1 from rfl, Nat.mul_one] at hv462_0
     replace hv462_0 := Option.some.inj (hv462_0.symm.trans hx462_0)
     rw [hv462_0] at ge462_0
     have HL462_0 := Aside0.mk (show Kd.R (Kd.int .i64) 3 _ _ _ _ (rd_L2 t458 x12_2) from ge462_0)
     clear hv462_0 ge462_0 hcc462 hce462
     have HR462_0 := Aside0.mk hi462_0
     have HC462_0 := Aside0.mk hl462_0
     clear hi462_0 hl462_0
     replace p462 := eq_true p462
     replace q462 := eq_true q462
     have p463 : 0 ≤ (x12_2 : Int) := oda
     have q463 : x12_2 < (t458.length : Int) := oda
     obtain ⟨ad463, A463_0, c463_0, e463, hx463_0, hl463_0, hi463_0⟩ := at_L2 (Kd.S_reads' HO_462001.out).2.2 x12_2 p463 q463
     obtain rfl : ad462 = ad463 := (by injection e463)
     obtain ⟨ce463, hce463, hMe463, hcc463⟩ := Kd.S_get HO_462001.out [] x12_2 p463 (by first | exact q463 | exact oda | (have e_ := (Kd.S_reads' HO_462001.out).1; omega))
     obtain ⟨ve463_0, rfl, ge463_0⟩ := hMe463
     have hv463_0 := hcc463 0 _ rfl
     rw [Nat.add_zero, show ((Kd.slice 3 (Kd.int .i64))).sz = 1 from rfl, Nat.mul_one] at hv463_0
     replace hv463_0 := Option.some.inj (hv463_0.symm.trans hx463_0)
     rw [hv463_0] at ge463_0
     have HL463_0 := Aside0.mk (show Kd.R (Kd.int .i64) 3 _ _ _ _ (rd_L2 t458 x12_2) from ge463_0)
     clear hv463_0 ge463_0 hcc463 hce463
     have HR463_0 := Aside0.mk hi463_0
     have HC463_0 := Aside0.mk hl463_0
     clear hi463_0 hl463_0
     replace p463 := eq_true p463
     replace q463 := eq_true q463
     have ea_ := Option.some.inj (hx462_0.symm.trans hx463_0)
     injection ea_ with ea_ en_ ec_
     subst ea_
     subst ec_
     clear en_
     have p464 : 0 ≤ (x14_3 : Int) := oda
     have q464 : x14_3 < ((rd_L2 t458 x12_2).length : Int) := oda
     obtain ⟨ad464, e464, hx464_0⟩ := Kd.at_int (cdl HR463_0.out) x14_3 p464 q464
     cases e464
     replace p464 := eq_true p464
     replace q464 := eq_true q464
     have hcz55_0 : wr.cell? ⟨gb448, 0, none⟩ = some (.int .i64 a0_0) := (blk_cell BK448.out 0).trans rfl
     have hcz55_1 : wr.cell? ⟨gb448, 1, none⟩ = some (.int .i64 a0_1) := (blk_cell BK448.out 1).trans rfl
     have hcz55_2 : wr.cell? ⟨gb448, 2, none⟩ = some (.slice A0_2 l0_2.length c0_2) := (blk_cell BK448.out 2).trans rfl
     have hfz55_0 := blk_frozen BK448.out 0
     have hfz55_1 := blk_frozen BK448.out 1
     have hfz55_2 := blk_frozen BK448.out 2
     have p465 : 0 ≤ ((ji32) : Int) := oda
     have q465 : (ji32) < (l0_2.length : Int) := oda
     obtain ⟨ad465, e465, hx465_0⟩ := Kd.at_int HR0_2.out (ji32) p465 q465
     cases e465
     replace hx465_0 := cel HB hx465_0
     replace p465 := eq_true p465
     replace q465 := eq_true q465
     have p469 : 0 ≤ ((ji32) : Int) := oda
     have q469 : (ji32) < (l0_2.length : Int) := oda
     obtain ⟨ad469, e469, hx469_0⟩ := Kd.at_int HR0_2.out (ji32) p469 q469
     obtain rfl : ad465 = ad469 := (by injection e469)
     replace hx469_0 := cel HB hx469_0
     replace p469 := eq_true p469
     replace q469 := eq_true q469
     go_wp2
     go_roundg k3
     case measure => have := HJ3.out; have := HK2.out; have := HK3.out; omega
     case rel => exact ⟨(x9_3), (x10_3), (x13_3), (wrap64 (x14_3 + 1)), (by first | rfl | (simp; done) | (simp [*]; done)), (by first | rfl | (simp; done) | (simp [*]; done)), H', ⟨by have := HJ3.out; have := HK2.out; have := HK3.out; omega⟩, ⟨by (with_reducible repeat (first | apply Kd.V_alloc | apply Kd.V_drewN | apply Kd.V_drew)); exact HO_9.out⟩, ⟨by (with_reducible repeat (first | apply Kd.V_alloc | apply Kd.V_drewN | apply Kd.V_drew)); exact HO_10.out⟩, ⟨sdl HO_462001⟩, ⟨bkl BK448⟩, ⟨bkl BK461⟩, ⟨bel2 HB GE448 GE461⟩⟩
    rw [if_pos c42] at H
    have c42b0 : decide (a2 < (rd l0_2 (ji32))) = true := decide_eq_true c42
    clear c42
    by_cases c43 : x13_3 = true
    rotate_left
    ·replace c43 := Bool.eq_false_iff.mpr c43
     subst c43
     have H1 : (spec_PortWork.l1 k3 a2 x9_3 x10_3 x12_2 false (wrap64 (x14_3 + 1)) a0_0 a0_1 l0_2 t457 t458) = some (r1, r2, r3) := by rw [if_neg (show ¬ (false = true) by decide)] at H; exact H
     clear H
     have H := H1
     clear H1
     have H' := Aside0.mk H
     clear H
     have hnb50 := NB461_448.out
     have hnc50 := NB448_461.out
     have hcz51_0 : wr.cell? ⟨gb461, 0, none⟩ = some (.int .i64 t457) := (blk_cell BK461.out 0).trans rfl
     have hcz51_1 : wr.cell? ⟨gb461, 1, none⟩ = some (.slice Ao24 t458.length co24) := (blk_cell BK461.out 1).trans rfl
     have hfz51_0 := blk_frozen BK461.out 0
     have hfz51_1 := blk_frozen BK461.out 1
     have p462 : 0 ≤ (x12_2 : Int) := oda
     have q462 : x12_2 < (t458.length : Int) := oda
     obtain ⟨ad462, A462_0, c462_0, e462, hx462_0, hl462_0, hi462_0⟩ := at_L2 (Kd.S_reads' HO_462001.out).2.2 x12_2 p462 q462
     cases e462
     obtain ⟨ce462, hce462, hMe462, hcc462⟩ := Kd.S_get HO_462001.out [] x12_2 p462 (by first | exact q462 | exact oda | (have e_ := (Kd.S_reads' HO_462001.out).1; omega))
     obtain ⟨ve462_0, rfl, ge462_0⟩ := hMe462
     have hv462_0 := hcc462 0 _ rfl
     rw [Nat.add_zero, show ((Kd.slice 3 (Kd.int .i64))).sz = 1 from rfl, Nat.mul_one] at hv462_0
     replace hv462_0 := Option.some.inj (hv462_0.symm.trans hx462_0)
     rw [hv462_0] at ge462_0
     have HL462_0 := Aside0.mk (show Kd.R (Kd.int .i64) 3 _ _ _ _ (rd_L2 t458 x12_2) from ge462_0)
     clear hv462_0 ge462_0 hcc462 hce462
     have HR462_0 := Aside0.mk hi462_0
     have HC462_0 := Aside0.mk hl462_0
     clear hi462_0 hl462_0
     replace p462 := eq_true p462
     replace q462 := eq_true q462
     have p463 : 0 ≤ (x12_2 : Int) := oda
     have q463 : x12_2 < (t458.length : Int) := oda
     obtain ⟨ad463, A463_0, c463_0, e463, hx463_0, hl463_0, hi463_0⟩ := at_L2 (Kd.S_reads' HO_462001.out).2.2 x12_2 p463 q463
     obtain rfl : ad462 = ad463 := (by injection e463)
     obtain ⟨ce463, hce463, hMe463, hcc463⟩ := Kd.S_get HO_462001.out [] x12_2 p463 (by first | exact q463 | exact oda | (have e_ := (Kd.S_reads' HO_462001.out).1; omega))
     obtain ⟨ve463_0, rfl, ge463_0⟩ := hMe463
     have hv463_0 := hcc463 0 _ rfl
     rw [Nat.add_zero, show ((Kd.slice 3 (Kd.int .i64))).sz = 1 from rfl, Nat.mul_one] at hv463_0
     replace hv463_0 := Option.some.inj (hv463_0.symm.trans hx463_0)
     rw [hv463_0] at ge463_0
     have HL463_0 := Aside0.mk (show Kd.R (Kd.int .i64) 3 _ _ _ _ (rd_L2 t458 x12_2) from ge463_0)
     clear hv463_0 ge463_0 hcc463 hce463
     have HR463_0 := Aside0.mk hi463_0
     have HC463_0 := Aside0.mk hl463_0
     clear hi463_0 hl463_0
     replace p463 := eq_true p463
     replace q463 := eq_true q463
     have ea_ := Option.some.inj (hx462_0.symm.trans hx463_0)
     injection ea_ with ea_ en_ ec_
     subst ea_
     subst ec_
     clear en_
     have p464 : 0 ≤ (x14_3 : Int) := oda
     have q464 : x14_3 < ((rd_L2 t458 x12_2).length : Int) := oda
     obtain ⟨ad464, e464, hx464_0⟩ := Kd.at_int (cdl HR463_0.out) x14_3 p464 q464
     cases e464
     replace p464 := eq_true p464
     replace q464 := eq_true q464
     have hcz52_0 : wr.cell? ⟨gb448, 0, none⟩ = some (.int .i64 a0_0) := (blk_cell BK448.out 0).trans rfl
     have hcz52_1 : wr.cell? ⟨gb448, 1, none⟩ = some (.int .i64 a0_1) := (blk_cell BK448.out 1).trans rfl
     have hcz52_2 : wr.cell? ⟨gb448, 2, none⟩ = some (.slice A0_2 l0_2.length c0_2) := (blk_cell BK448.out 2).trans rfl
     have hfz52_0 := blk_frozen BK448.out 0
     have hfz52_1 := blk_frozen BK448.out 1
     have hfz52_2 := blk_frozen BK448.out 2
     have p465 : 0 ≤ ((ji32) : Int) := oda
     have q465 : (ji32) < (l0_2.length : Int) := oda
     obtain ⟨ad465, e465, hx465_0⟩ := Kd.at_int HR0_2.out (ji32) p465 q465
     cases e465
     replace hx465_0 := cel HB hx465_0
     replace p465 := eq_true p465
     replace q465 := eq_true q465
     have p469 : 0 ≤ ((ji32) : Int) := oda
     have q469 : (ji32) < (l0_2.length : Int) := oda
     obtain ⟨ad469, e469, hx469_0⟩ := Kd.at_int HR0_2.out (ji32) p469 q469
     obtain rfl : ad465 = ad469 := (by injection e469)
     replace hx469_0 := cel HB hx469_0
     replace p469 := eq_true p469
     replace q469 := eq_true q469
     go_wp2
     go_roundg k3
     case measure => have := HJ3.out; have := HK2.out; have := HK3.out; omega
     case rel => exact ⟨(x9_3), (x10_3), (false), (wrap64 (x14_3 + 1)), (by first | rfl | (simp; done) | (simp [*]; done)), (by first | rfl | (simp; done) | (simp [*]; done)), H', ⟨by have := HJ3.out; have := HK2.out; have := HK3.out; omega⟩, ⟨by (with_reducible repeat (first | apply Kd.V_alloc | apply Kd.V_drewN | apply Kd.V_drew)); exact HO_9.out⟩, ⟨by (with_reducible repeat (first | apply Kd.V_alloc | apply Kd.V_drewN | apply Kd.V_drew)); exact HO_10.out⟩, ⟨sdl HO_462001⟩, ⟨bkl BK448⟩, ⟨bkl BK461⟩, ⟨bel2 HB GE448 GE461⟩⟩
    subst c43
    have H1 : ((spec_l1Put.f k3 x10_3 (rd (rd_L2 t458 x12_2) x14_3)).bind fun t470 => (spec_PortWork.l1 k3 a2 x9_3 t470 x12_2 true (wrap64 (x14_3 + 1)) a0_0 a0_1 l0_2 t457 t458)) = some (r1, r2, r3) := by rw [if_pos rfl] at H; exact H
    clear H
    have H := H1
    clear H1
    replace H := Option.bind_eq_some_iff.mp H
    obtain ⟨t470, A440, H⟩ := H
    replace H : (spec_PortWork.l1 k3 a2 x9_3 t470 x12_2 true (wrap64 (x14_3 + 1)) a0_0 a0_1 l0_2 t457 t458) = some (r1, r2, r3) := H
    have A44 := Aside0.mk A440
    clear A440
    have H' := Aside0.mk H
    clear H
    have hnb45 := NB461_448.out
    have hnc45 := NB448_461.out
    have hcz46_0 : wr.cell? ⟨gb461, 0, none⟩ = some (.int .i64 t457) := (blk_cell BK461.out 0).trans rfl
    have hcz46_1 : wr.cell? ⟨gb461, 1, none⟩ = some (.slice Ao24 t458.length co24) := (blk_cell BK461.out 1).trans rfl
    have hfz46_0 := blk_frozen BK461.out 0
    have hfz46_1 := blk_frozen BK461.out 1
    have p462 : 0 ≤ (x12_2 : Int) := oda
    have q462 : x12_2 < (t458.length : Int) := oda
    obtain ⟨ad462, A462_0, c462_0, e462, hx462_0, hl462_0, hi462_0⟩ := at_L2 (Kd.S_reads' HO_462001.out).2.2 x12_2 p462 q462
    cases e462
    obtain ⟨ce462, hce462, hMe462, hcc462⟩ := Kd.S_get HO_462001.out [] x12_2 p462 (by first | exact q462 | exact oda | (have e_ := (Kd.S_reads' HO_462001.out).1; omega))
    obtain ⟨ve462_0, rfl, ge462_0⟩ := hMe462
    have hv462_0 := hcc462 0 _ rfl
    rw [Nat.add_zero, show ((Kd.slice 3 (Kd.int .i64))).sz = 1 from rfl, Nat.mul_one] at hv462_0
    replace hv462_0 := Option.some.inj (hv462_0.symm.trans hx462_0)
    rw [hv462_0] at ge462_0
    have HL462_0 := Aside0.mk (show Kd.R (Kd.int .i64) 3 _ _ _ _ (rd_L2 t458 x12_2) from ge462_0)
    clear hv462_0 ge462_0 hcc462 hce462
    have HR462_0 := Aside0.mk hi462_0
    have HC462_0 := Aside0.mk hl462_0
    clear hi462_0 hl462_0
    replace p462 := eq_true p462
    replace q462 := eq_true q462
    have p463 : 0 ≤ (x12_2 : Int) := oda
    have q463 : x12_2 < (t458.length : Int) := oda
    obtain ⟨ad463, A463_0, c463_0, e463, hx463_0, hl463_0, hi463_0⟩ := at_L2 (Kd.S_reads' HO_462001.out).2.2 x12_2 p463 q463
    obtain rfl : ad462 = ad463 := (by injection e463)
    obtain ⟨ce463, hce463, hMe463, hcc463⟩ := Kd.S_get HO_462001.out [] x12_2 p463 (by first | exact q463 | exact oda | (have e_ := (Kd.S_reads' HO_462001.out).1; omega))
    obtain ⟨ve463_0, rfl, ge463_0⟩ := hMe463
    have hv463_0 := hcc463 0 _ rfl
    rw [Nat.add_zero, show ((Kd.slice 3 (Kd.int .i64))).sz = 1 from rfl, Nat.mul_one] at hv463_0
    replace hv463_0 := Option.some.inj (hv463_0.symm.trans hx463_0)
    rw [hv463_0] at ge463_0
    have HL463_0 := Aside0.mk (show Kd.R (Kd.int .i64) 3 _ _ _ _ (rd_L2 t458 x12_2) from ge463_0)
    clear hv463_0 ge463_0 hcc463 hce463
    have HR463_0 := Aside0.mk hi463_0
    have HC463_0 := Aside0.mk hl463_0
    clear hi463_0 hl463_0
    replace p463 := eq_true p463
    replace q463 := eq_true q463
    have ea_ := Option.some.inj (hx462_0.symm.trans hx463_0)
    injection ea_ with ea_ en_ ec_
    subst ea_
    subst ec_
    clear en_
    have p464 : 0 ≤ (x14_3 : Int) := oda
    have q464 : x14_3 < ((rd_L2 t458 x12_2).length : Int) := oda
    obtain ⟨ad464, e464, hx464_0⟩ := Kd.at_int (cdl HR463_0.out) x14_3 p464 q464
    cases e464
    replace p464 := eq_true p464
    replace q464 := eq_true q464
    have hcz47_0 : wr.cell? ⟨gb448, 0, none⟩ = some (.int .i64 a0_0) := (blk_cell BK448.out 0).trans rfl
    have hcz47_1 : wr.cell? ⟨gb448, 1, none⟩ = some (.int .i64 a0_1) := (blk_cell BK448.out 1).trans rfl
    have hcz47_2 : wr.cell? ⟨gb448, 2, none⟩ = some (.slice A0_2 l0_2.length c0_2) := (blk_cell BK448.out 2).trans rfl
    have hfz47_0 := blk_frozen BK448.out 0
    have hfz47_1 := blk_frozen BK448.out 1
    have hfz47_2 := blk_frozen BK448.out 2
    have p465 : 0 ≤ ((ji32) : Int) := oda
    have q465 : (ji32) < (l0_2.length : Int) := oda
    obtain ⟨ad465, e465, hx465_0⟩ := Kd.at_int HR0_2.out (ji32) p465 q465
    cases e465
    replace hx465_0 := cel HB hx465_0
    replace p465 := eq_true p465
    replace q465 := eq_true q465
    have p469 : 0 ≤ ((ji32) : Int) := oda
    have q469 : (ji32) < (l0_2.length : Int) := oda
    obtain ⟨ad469, e469, hx469_0⟩ := Kd.at_int HR0_2.out (ji32) p469 q469
    obtain rfl : ad465 = ad469 := (by injection e469)
    replace hx469_0 := cel HB hx469_0
    replace p469 := eq_true p469
    replace q469 := eq_true q469
    obtain ⟨Ao48, co48, eo48⟩ := Kd.V_slice HO_10.out
    subst eo48
    go_wp2_with (first | ((with_reducible refine gate_callee (f := 32) rfl ?_); refine goesL_ (some 83) rfl rfl Try.func32 (by kernel_rfl) rfl #[.slice Ao48 x10_3.length co48, .int .i64 (rd (rd_L2 t458 x12_2) x14_3)] rfl gmp ?_; (with_reducible refine (spec_l1Put.calls k3 (fun k_ => ((w.heap.size ≤ k_) ∧ (some k_ ≠ (.slice (some ad462) t458.length co24 : Value).ownBlock ∧ (k_ ≠ gb448 ∧ k_ ≠ gb461)))) _ _ x10_3 (rd (rd_L2 t458 x12_2) x14_3) t470 _ ?side1 A44.out).mono ?_); (case side1 => exact HO_10.out); rintro e w49 ⟨v471, rfl, ho0, hb⟩; refine ⟨_, rfl, ?_⟩; have n0_ := Aside0.mk (Kd.V_below (vdl HO_9) hb); have n1_ := Aside0.mk (Kd.V_below (vdl HO_10) hb); have n2_ := Aside0.mk (Kd.S_below (sdl HO_462001) hb); have n3_ := Aside0.mk (Kd.R_below (rdl HL462_0) hb); have n4_ := Aside0.mk (Kd.R_below (rdl HL463_0) hb); have n5_ := Aside0.mk (Kd.V_lower (Kd.V_mono (ok' := fun k_ => (w.heap.size ≤ k_) ∧ some k_ ≠ (.slice (some ad462) t458.length co24 : Value).ownBlock ∧ k_ ≠ gb448 ∧ k_ ≠ gb461) ho0 (fun k_ hk_ => ⟨Or.elim hk_ (fun hs_ => hs_.1) (fun hn_ => (Nat.le_trans (below_size (bel2 HB GE448 GE461)) hn_)), Or.elim hk_ (fun hs_ => hs_.2.1) (fun hn_ => (Kd.fresh' (Kd.S_lt (sdl HO_462001)) k_ hn_)), Or.elim hk_ (fun hs_ => hs_.2.2.1) (fun hn_ => (Kd.freshB (g := gb448) (o := .cells #[.int .i64 a0_0, .int .i64 a0_1, .slice (some ad465) l0_2.length c0_2] 26 (0, 0)) (bkl BK448) k_ hn_)), Or.elim hk_ (fun hs_ => hs_.2.2.2) (fun hn_ => (Kd.freshB (g := gb461) (o := .cells #[.int .i64 t457, .slice (some ad462) t458.length co24] 45 (0, 0)) (bkl BK461) k_ hn_))⟩)) (below_size (bel2 HB GE448 GE461))); have n6_ := Aside0.mk (blk_below (g := gb448) (o := .cells #[.int .i64 a0_0, .int .i64 a0_1, .slice (some ad465) l0_2.length c0_2] 26 (0, 0)) (bkl BK448) hb); have n7_ := Aside0.mk (blk_below (g := gb461) (o := .cells #[.int .i64 t457, .slice (some ad462) t458.length co24] 45 (0, 0)) (bkl BK461) hb); have n8_ := Aside0.mk (Kd.C_below (cdl HR462_0.out) hb); have n9_ := Aside0.mk (Kd.C_below (cdl HR463_0.out) hb); have n10_ := Aside0.mk (below_step (bel2 HB GE448 GE461) hb); clear HO_9; clear HO_10; clear HO_462001; clear HL462_0; clear HL463_0; clear BK448; clear BK461; clear HR462_0; clear HR463_0; clear HB; have HO_9 := n0_; have HO_10 := n1_; have HO_462001 := n2_; have HL462_0 := n3_; have HL463_0 := n4_; have HO472 := n5_; have BK448 := n6_; have BK461 := n7_; have HR462_0 := n8_; have HR463_0 := n9_; have HB := n10_; clear n0_ n1_ n2_ n3_ n4_ n5_ n6_ n7_ n8_ n9_ n10_; (try clear hb); (try clear hb2); (try clear hk); (try clear hi); (try clear ho0)))
    go_roundg k3
    case measure => have := HJ3.out; have := HK2.out; have := HK3.out; omega
    case rel => exact ⟨(x9_3), (t470), (true), (wrap64 (x14_3 + 1)), (by first | rfl | (simp; done) | (simp [*]; done)), (by first | rfl | (simp; done) | (simp [*]; done)), H', ⟨by have := HJ3.out; have := HK2.out; have := HK3.out; omega⟩, ⟨by (with_reducible repeat (first | apply Kd.V_alloc | apply Kd.V_drewN | apply Kd.V_drew)); exact HO_9.out⟩, ⟨by (with_reducible repeat (first | apply Kd.V_alloc | apply Kd.V_drewN | apply Kd.V_drew)); exact HO472.out⟩, ⟨sdl HO_462001⟩, ⟨bkl BK448⟩, ⟨bkl BK461⟩, ⟨bel2 HB GE448 GE461⟩⟩
/-! ### laws_vInts: function 9 -/
def laws_vInts.l0 : Nat → List Int → List Int → Int → Option (Bool)
 | 0, _, _, _ => none
 | k + 1, x0, x1, x5 => if x5 < (x0.length : Int) then (if 0 ≤ x5 then (if x5 < (x1.length : Int) then (if (rd x0 x5) = (rd x1 x5) then (laws_vInts.l0 k x0 x1 (wrap64 (x5 + 1))) else (some false)) else (none)) else (none)) else (some true)
def laws_vInts.f (k : Nat) (l0 : List Int) (l1 : List Int) : Option (Bool) := if (l0.length : Int) = (l1.length : Int) then (laws_vInts.l0 k l0 l1 0) else (some false)
theorem laws_vInts.mono_l : ∀ k, (∀ y0 y1 y2, LeO (laws_vInts.l0 k y0 y1 y2) (laws_vInts.l0 (k + 1) y0 y1 y2))
 | 0 => fun _ _ _ r h => by simp [laws_vInts.l0] at h
 | k + 1 => by
  have ih0 := laws_vInts.mono_l k
  ·intro y0 y1 y2
   unfold laws_vInts.l0
   repeat' first
   | (with_reducible exact ih0 _ _ _)
   | (with_reducible exact LeO.refl _)
   | (with_reducible exact LeO.none _)
   | (with_reducible refine LeO.ite ?_ ?_)
   | (with_reducible refine LeO.bind ?_ (fun _ => ?_))
   | exact ih0 _ _ _
   | exact LeO.none _
   | refine LeO.ite ?_ ?_
   | refine LeO.bind ?_ (fun _ => ?_)
theorem laws_vInts.mono : ∀ a0 a1 k, LeO (laws_vInts.f k a0 a1) (laws_vInts.f (k + 1) a0 a1) := by
 intro a0 a1 k
 have ih0 := laws_vInts.mono_l k
 unfold laws_vInts.f
 repeat' first
   | (with_reducible exact ih0 _ _ _)
   | (with_reducible exact LeO.refl _)
   | (with_reducible exact LeO.none _)
   | (with_reducible refine LeO.ite ?_ ?_)
   | (with_reducible refine LeO.bind ?_ (fun _ => ?_))
   | exact ih0 _ _ _
   | exact LeO.none _
   | refine LeO.ite ?_ ?_
   | refine LeO.bind ?_ (fun _ => ?_)
set_option maxHeartbeats 8000000 in
set_option maxRecDepth 100000 in
theorem laws_vInts.calls (k : Nat) (A0 : Option Addr) (c0 : Nat) (l0 : List Int) (A1 : Option Addr) (c1 : Nat) (l1 : List Int) (r : Bool) (w : World) (hr0 : Kd.C (Kd.int .i64) w A0 l0.length l0) (hc0 : l0.length ≤ c0) (hr1 : Kd.C (Kd.int .i64) w A1 l1.length l1) (hc1 : l1.length ≤ c1) (h : laws_vInts.f k l0 l1 = some r) :
  Calls Try.prog 9 #[.slice A0 l0.length c0, .slice A1 l1.length c1] w fun e w' => e = .returned (.bool r) ∧ Drawn0 w w' := by
 have HR0 := Aside0.mk hr0
 have HC0 := Aside0.mk hc0
 clear hr0 hc0
 have HR1 := Aside0.mk hr1
 have HC1 := Aside0.mk hc1
 clear hr1 hc1
 have H : (if (l0.length : Int) = (l1.length : Int) then (laws_vInts.l0 k l0 l1 0) else (some false)) = some r := h
 clear h
 by_cases c3 : (l0.length : Int) = (l1.length : Int)
 rotate_left
 ·rw [if_neg c3] at H
  have c3b0 : ((l0.length : Int) == (l1.length : Int)) = false := beq_eq_false_iff_ne.mpr c3
  have c3b1 : ((l0.length : Int) != (l1.length : Int)) = true := bne_iff_ne.mpr c3
  have c3b2 : (l0.length == l1.length) = false := by first | simpa using c3 | (simp at c3 ⊢; omega)
  obtain rfl := Option.some.inj H
  go_enter Try.func9, Try.ntmps9
  go_wp2
  repeat (go_quiet (fail); try go_wp2)
  go_ret
  exact ⟨by first | rfl | (simp; done) | (simp [*]; done), by repeat (first | exact Drawn0.refl _ | apply Drawn0.step)⟩
 rw [if_pos c3] at H
 have c3b0 : ((l0.length : Int) == (l1.length : Int)) = true := beq_iff_eq.mpr c3
 have c3b1 : ((l0.length : Int) != (l1.length : Int)) = false := bne_eq_false_iff_eq.mpr c3
 have c3b2 : (l0.length == l1.length) = true := by first | simpa using c3 | (simp at c3 ⊢; omega)
 clear c3
 have H' := Aside0.mk H
 clear H
 go_enter Try.func9, Try.ntmps9
 go_wp2
 repeat (go_quiet (fail); try go_wp2)
 go_loopg [5] k (fun kq v5 w' => ∃ (x5_1 : Int), v5 = .int .i64 x5_1 ∧ Aside0 (laws_vInts.l0 kq l0 l1 x5_1 = some r) ∧ Aside0 (kq ≤ k) ∧ Drawn0 w w')
 case atStart => exact ⟨(0), (by first | rfl | (simp; done) | (simp [*]; done)), H', ⟨Nat.le_refl _⟩, by repeat (first | exact Drawn0.refl _ | apply Drawn0.step)⟩
 clear H'
 try clear c1
 try clear p2
 try clear c3
 try clear c3b0
 try clear c3b1
 try clear c3b2
 obtain ⟨x5_1, rfl, HA, HK1, ⟨m1, rfl⟩⟩ := hrel
 cases gk with
 | zero => exact absurd HA.out (by simp [laws_vInts.l0])
 | succ k1 =>
  have H := HA.out
  clear HA
  simp only [laws_vInts.l0] at H
  by_cases c4 : x5_1 < (l0.length : Int)
  rotate_left
  ·rw [if_neg c4] at H
   have c4b0 : decide (x5_1 < (l0.length : Int)) = false := decide_eq_false c4
   clear c4
   obtain rfl := Option.some.inj H
   go_wp2
   repeat (go_quiet (fail); try go_wp2)
   go_ret
   exact ⟨by first | rfl | (simp; done) | (simp [*]; done), by repeat (first | exact Drawn0.refl _ | apply Drawn0.step)⟩
  rw [if_pos c4] at H
  have c4b0 : decide (x5_1 < (l0.length : Int)) = true := decide_eq_true c4
  clear c4
  by_cases c5 : 0 ≤ x5_1
  rotate_left
  ·rw [if_neg c5] at H
   exact absurd H (by simp)
  rw [if_pos c5] at H
  have c5b0 : decide (0 ≤ x5_1) = true := decide_eq_true c5
  clear c5
  by_cases c6 : x5_1 < (l1.length : Int)
  rotate_left
  ·rw [if_neg c6] at H
   exact absurd H (by simp)
  rw [if_pos c6] at H
  have c6b0 : decide (x5_1 < (l1.length : Int)) = true := decide_eq_true c6
  clear c6
  by_cases c7 : (rd l0 x5_1) = (rd l1 x5_1)
  rotate_left
  ·rw [if_neg c7] at H
   have c7b0 : ((rd l0 x5_1) == (rd l1 x5_1)) = false := beq_eq_false_iff_ne.mpr c7
   have c7b1 : ((rd l0 x5_1) != (rd l1 x5_1)) = true := bne_iff_ne.mpr c7
   obtain rfl := Option.some.inj H
   have p473 : 0 ≤ (x5_1 : Int) := oda
   have q473 : x5_1 < (l0.length : Int) := oda
   obtain ⟨ad473, e473, hx473_0⟩ := Kd.at_int HR0.out x5_1 p473 q473
   cases e473
   replace p473 := eq_true p473
   replace q473 := eq_true q473
   have p474 : 0 ≤ (x5_1 : Int) := oda
   have q474 : x5_1 < (l1.length : Int) := oda
   obtain ⟨ad474, e474, hx474_0⟩ := Kd.at_int HR1.out x5_1 p474 q474
   cases e474
   replace p474 := eq_true p474
   replace q474 := eq_true q474
   go_wp2
   repeat (go_quiet (fail); try go_wp2)
   go_ret
   exact ⟨by first | rfl | (simp; done) | (simp [*]; done), by repeat (first | exact Drawn0.refl _ | apply Drawn0.step)⟩
  rw [if_pos c7] at H
  have c7b0 : ((rd l0 x5_1) == (rd l1 x5_1)) = true := beq_iff_eq.mpr c7
  have c7b1 : ((rd l0 x5_1) != (rd l1 x5_1)) = false := bne_eq_false_iff_eq.mpr c7
  clear c7
  have H' := Aside0.mk H
  clear H
  have p473 : 0 ≤ (x5_1 : Int) := oda
  have q473 : x5_1 < (l0.length : Int) := oda
  obtain ⟨ad473, e473, hx473_0⟩ := Kd.at_int HR0.out x5_1 p473 q473
  cases e473
  replace p473 := eq_true p473
  replace q473 := eq_true q473
  have p474 : 0 ≤ (x5_1 : Int) := oda
  have q474 : x5_1 < (l1.length : Int) := oda
  obtain ⟨ad474, e474, hx474_0⟩ := Kd.at_int HR1.out x5_1 p474 q474
  cases e474
  replace p474 := eq_true p474
  replace q474 := eq_true q474
  go_wp2
  repeat (go_quiet (fail); try go_wp2)
  go_roundg k1
  case measure => have := HK1.out; omega
  case rel => exact ⟨(wrap64 (x5_1 + 1)), (by first | rfl | (simp; done) | (simp [*]; done)), H', ⟨by have := HK1.out; omega⟩, by repeat (first | exact Drawn0.refl _ | apply Drawn0.step)⟩
end Go.Proofs.Ytipahijdcgoemaa.P
