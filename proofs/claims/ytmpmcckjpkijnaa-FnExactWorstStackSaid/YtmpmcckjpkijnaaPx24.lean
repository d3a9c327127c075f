-- Written by a program of this session over the translation (a variant of the printer, see wip/gen); Lean checks it.
import Derived.Test.YtmpmcckjpkijnaaPx0
import Derived.Test.YtmpmcckjpkijnaaPx16
import Derived.Test.YtmpmcckjpkijnaaPx18
namespace Go.Proofs.Ytmpmcckjpkijnaa.P
open Go.RowKit Go.Proofs.YtmpmcckjpkijnaaW.PrintWords Go.Proofs.YtmpmcckjpkijnaaW.PrintLast Go.Proofs.YtmpmcckjpkijnaaW.PrintMore
attribute [local go_sem] Go.Proofs.Ytmpmcckjpkijnaa.V.isSome_setCell max2_int min2_int max_two min_two max_three min_three max_four min_four   -- for this text's walks alone
set_option linter.unusedVariables false
set_option linter.unusedSimpArgs false

/-! ### impl_WorstStack: function 19 -/
mutual
def impl_WorstStack.l0 : Nat → List Int → List (S73) → Int → Int → Option (Int × Int × Bool)
 | 0, _, _, _, _ => none
 | k + 1, x9, x27, x28, x29 => if x29 < x28 then (if 0 ≤ x29 then (if x29 < (x27.length : Int) then (if 0 ≤ ((rd_T73 x27 x29).f1) then (if ((rd_T73 x27 x29).f1) < (x9.length : Int) then (impl_WorstStack.l0 k (x9.set (((rd_T73 x27 x29).f1) : Int).toNat (wrap64 ((rd x9 ((rd_T73 x27 x29).f1)) + 1))) x27 x28 (wrap64 (x29 + 1))) else (none)) else (none)) else (none)) else (none)) else (impl_WorstStack.l1 k x9 0 x9 (x9.length : Int) 0)
def impl_WorstStack.l1 : Nat → List Int → Int → List Int → Int → Int → Option (Int × Int × Bool)
 | 0, _, _, _, _, _ => none
 | k + 1, x9, x12, x41, x42, x43 => if x43 < x42 then (if 0 ≤ x43 then (if x43 < (x41.length : Int) then (if 0 ≤ x12 then (if x12 < (x9.length : Int) then (if (rd x41 x43) > (rd x9 x12) then (impl_WorstStack.l1 k x9 x43 x41 x42 (wrap64 (x43 + 1))) else (impl_WorstStack.l1 k x9 x12 x41 x42 (wrap64 (x43 + 1)))) else (none)) else (none)) else (none)) else (none)) else (if 0 ≤ x12 then (if x12 < (x9.length : Int) then (some (x12, rd x9 x12, true)) else (none)) else (none))
end
def impl_WorstStack.f (k : Nat) (l0_0 : List (List Int)) (l1 : List (S69)) (a2 : Int) : Option (Int × Int × Bool) := (impl_areYard.f k l0_0 l1 a2).bind fun t333 => (if t333 = true then (if 0 ≤ (l0_0.length : Int) then (if ((l0_0.length : Int) : Int).toNat ≤ 35184372088832 then ((impl_yardFindings.f k l0_0 l1 a2).bind fun t337 => (impl_WorstStack.l0 k (List.replicate ((l0_0.length : Int) : Int).toNat 0) t337 (t337.length : Int) 0)) else (none)) else (none)) else (some (0, 0, false)))
theorem impl_WorstStack.mono_l : ∀ k, (∀ y0 y1 y2 y3, LeO (impl_WorstStack.l0 k y0 y1 y2 y3) (impl_WorstStack.l0 (k + 1) y0 y1 y2 y3)) ∧ (∀ y0 y1 y2 y3 y4, LeO (impl_WorstStack.l1 k y0 y1 y2 y3 y4) (impl_WorstStack.l1 (k + 1) y0 y1 y2 y3 y4))
 | 0 => ⟨fun _ _ _ _ r h => by simp [impl_WorstStack.l0] at h, fun _ _ _ _ _ r h => by simp [impl_WorstStack.l1] at h⟩
 | k + 1 => by
  obtain ⟨ih0, ih1⟩ := impl_WorstStack.mono_l k
  refine ⟨?_, ?_⟩
  ·intro y0 y1 y2 y3
   unfold impl_WorstStack.l0
   repeat' first
   | (with_reducible exact ih0 _ _ _ _)
   | (with_reducible exact ih1 _ _ _ _ _)
   | (with_reducible exact impl_areYard.mono _ _ _ _)
   | (with_reducible exact impl_yardFindings.mono _ _ _ _)
   | (with_reducible exact LeO.refl _)
   | (with_reducible exact LeO.none _)
   | (with_reducible refine LeO.ite ?_ ?_)
   | (with_reducible refine LeO.bind ?_ (fun _ => ?_))
   | exact ih0 _ _ _ _
   | exact ih1 _ _ _ _ _
   | exact impl_areYard.mono _ _ _ _
   | exact impl_yardFindings.mono _ _ _ _
   | exact LeO.none _
   | refine LeO.ite ?_ ?_
   | refine LeO.bind ?_ (fun _ => ?_)
  ·intro y0 y1 y2 y3 y4
   unfold impl_WorstStack.l1
   repeat' first
   | (with_reducible exact ih0 _ _ _ _)
   | (with_reducible exact ih1 _ _ _ _ _)
   | (with_reducible exact impl_areYard.mono _ _ _ _)
   | (with_reducible exact impl_yardFindings.mono _ _ _ _)
   | (with_reducible exact LeO.refl _)
   | (with_reducible exact LeO.none _)
   | (with_reducible refine LeO.ite ?_ ?_)
   | (with_reducible refine LeO.bind ?_ (fun _ => ?_))
   | exact ih0 _ _ _ _
   | exact ih1 _ _ _ _ _
   | exact impl_areYard.mono _ _ _ _
   | exact impl_yardFindings.mono _ _ _ _
   | exact LeO.none _
   | refine LeO.ite ?_ ?_
   | refine LeO.bind ?_ (fun _ => ?_)
theorem impl_WorstStack.mono : ∀ a0 a1 a2 k, LeO (impl_WorstStack.f k a0 a1 a2) (impl_WorstStack.f (k + 1) a0 a1 a2) := by
 intro a0 a1 a2 k
 obtain ⟨ih0, ih1⟩ := impl_WorstStack.mono_l k
 unfold impl_WorstStack.f
 repeat' first
   | (with_reducible exact ih0 _ _ _ _)
   | (with_reducible exact ih1 _ _ _ _ _)
   | (with_reducible exact impl_areYard.mono _ _ _ _)
   | (with_reducible exact impl_yardFindings.mono _ _ _ _)
   | (with_reducible exact LeO.refl _)
   | (with_reducible exact LeO.none _)
   | (with_reducible refine LeO.ite ?_ ?_)
   | (with_reducible refine LeO.bind ?_ (fun _ => ?_))
   | exact ih0 _ _ _ _
   | exact ih1 _ _ _ _ _
   | exact impl_areYard.mono _ _ _ _
   | exact impl_yardFindings.mono _ _ _ _
   | exact LeO.none _
   | refine LeO.ite ?_ ?_
   | refine LeO.bind ?_ (fun _ => ?_)
set_option maxHeartbeats 8000000 in
set_option maxRecDepth 100000 in
theorem impl_WorstStack.calls (k : Nat) (A0_0 : Option Addr) (c0_0 : Nat) (l0_0 : List (List Int)) (A1 : Option Addr) (c1 : Nat) (l1 : List (S69)) (a2 : Int) (r1 : Int) (r2 : Int) (r3 : Bool) (w : World) (hr0_0 : Kd.C (Kd.slice 3 (Kd.int .i64)) w A0_0 l0_0.length l0_0) (hc0_0 : l0_0.length ≤ c0_0) (hr1 : Kd.C k69 w A1 l1.length l1) (hc1 : l1.length ≤ c1) (h : impl_WorstStack.f k l0_0 l1 a2 = some (r1, r2, r3)) :
  Calls Try.prog 19 #[.agg #[.slice A0_0 l0_0.length c0_0], .slice A1 l1.length c1, .int .i64 a2] w fun e w' => e = .returned (.tuple #[.int .i64 r1, .int .i64 r2, .bool r3]) ∧ Below w.heap.size w w' := by
 have hu30 := Try.underlying30
 have hu73 := Try.underlying73
 have HR0_0 := Aside0.mk hr0_0
 have HC0_0 := Aside0.mk hc0_0
 clear hr0_0 hc0_0
 have HR1 := Aside0.mk hr1
 have HC1 := Aside0.mk hc1
 clear hr1 hc1
 have HB := Aside0.mk (Below.refl w.heap.size w)
 have H : ((impl_areYard.f k l0_0 l1 a2).bind fun t333 => (if t333 = true then (if 0 ≤ (l0_0.length : Int) then (if ((l0_0.length : Int) : Int).toNat ≤ 35184372088832 then ((impl_yardFindings.f k l0_0 l1 a2).bind fun t337 => (impl_WorstStack.l0 k (List.replicate ((l0_0.length : Int) : Int).toNat 0) t337 (t337.length : Int) 0)) else (none)) else (none)) else (some (0, 0, false)))) = some (r1, r2, r3) := h
 clear h
 replace H := Option.bind_eq_some_iff.mp H
 obtain ⟨t333, A40, H⟩ := H
 replace H : (if t333 = true then (if 0 ≤ (l0_0.length : Int) then (if ((l0_0.length : Int) : Int).toNat ≤ 35184372088832 then ((impl_yardFindings.f k l0_0 l1 a2).bind fun t337 => (impl_WorstStack.l0 k (List.replicate ((l0_0.length : Int) : Int).toNat 0) t337 (t337.length : Int) 0)) else (none)) else (none)) else (some (0, 0, false))) = some (r1, r2, r3) := H
 have A4 := Aside0.mk A40
 clear A40
 by_cases c5 : t333 = true
 ·subst c5
  have H1 : (if 0 ≤ (l0_0.length : Int) then (if ((l0_0.length : Int) : Int).toNat ≤ 35184372088832 then ((impl_yardFindings.f k l0_0 l1 a2).bind fun t337 => (impl_WorstStack.l0 k (List.replicate ((l0_0.length : Int) : Int).toNat 0) t337 (t337.length : Int) 0)) else (none)) else (none)) = some (r1, r2, r3) := by rw [if_pos rfl] at H; exact H
  clear H
  have H := H1
  clear H1
  by_cases c6 : 0 ≤ (l0_0.length : Int)
  ·rw [if_pos c6] at H
   have c6b0 := eq_true c6
   have c6b1 : decide (0 ≤ (l0_0.length : Int)) = true := decide_eq_true c6
   clear c6
   by_cases c7 : ((l0_0.length : Int) : Int).toNat ≤ 35184372088832
   ·rw [if_pos c7] at H
    have c7b0 := eq_true c7
    have c7b1 : decide (((l0_0.length : Int) : Int).toNat ≤ 35184372088832) = true := decide_eq_true c7
    clear c7
    obtain ⟨y334, hy334⟩ : ∃ y_ : List Int, y_ = (List.replicate ((l0_0.length : Int) : Int).toNat 0) := ⟨_, rfl⟩
    replace H : ((impl_yardFindings.f k l0_0 l1 a2).bind fun t337 => (impl_WorstStack.l0 k y334 t337 (t337.length : Int) 0)) = some (r1, r2, r3) := by first | (rw [hy334]; with_reducible exact H) | (have H2_ := (Option.bind_some _ _).symm.trans H; rw [hy334]; with_reducible exact H2_) | (have H2_ := (Option.bind_some _ _).symm.trans H; with_reducible exact H2_) | with_reducible exact H | (rw [hy334]; exact H) | exact H
    have Ny334 := Aside0.mk hy334
    clear hy334
    replace H := Option.bind_eq_some_iff.mp H
    obtain ⟨t337, A80, H⟩ := H
    replace H : (impl_WorstStack.l0 k y334 t337 (t337.length : Int) 0) = some (r1, r2, r3) := H
    have A8 := Aside0.mk A80
    clear A80
    have H' := Aside0.mk H
    clear H
    go_enter Try.func19, Try.ntmps19
    go_wp2_with (first | ((with_reducible refine gate_dst (N := 3) rfl ?_); refine box_event ?hg (N := 3) ?hd (cs := #[.slice A0_0 l0_0.length c0_0]) (t := 30) ?hr ?_; (case hd => rfl); (case hg => rfl); (case hr => first | (go_simp; done) | (go_simp; rfl)); intro gb332 hg w9 hbox hb; have n0_ := Aside0.mk (below_step (bel HB) hb); have n1_ := Aside0.mk (hbox); have n2_ := Aside0.mk ((by rw [hg]; exact (below_size (bel HB)) : w.heap.size ≤ gb332)); have n3_ := Aside0.mk ((by rw [hg]; exact (below_size (bel HB)) : w.heap.size ≤ gb332)); clear HB; have HB := n0_; have BK332 := n1_; have GW332 := n2_; have GE332 := n3_; clear n0_ n1_ n2_ n3_; clear hb hbox hg; have hcz10_0 : w9.cell? ⟨gb332, 0, none⟩ = some (.slice A0_0 l0_0.length c0_0) := (blk_cell BK332.out 0).trans rfl; have hfz10_0 := blk_frozen BK332.out 0) | (go_at_call 50; (with_reducible refine (impl_areYard.calls k _ _ l0_0 _ _ l1 a2 true _ ?side1 ?side2 ?side3 ?side4 A4.out).mono ?_); (case side1 => exact cdl (Kd.C_below HR0_0.out HB.out)); (case side2 => exact HC0_0.out); (case side3 => exact cdl (Kd.C_below HR1.out HB.out)); (case side4 => exact HC1.out); rintro e w11 ⟨rfl, hb⟩; have n0_ := Aside0.mk (blk_below (g := gb332) (o := .cells #[.slice A0_0 l0_0.length c0_0] 30 (0, 0)) (bkl BK332) hb); have n1_ := Aside0.mk (below_step (bel1 HB GE332) hb); clear BK332; clear HB; have BK332 := n0_; have HB := n1_; clear n0_ n1_; (try clear hb); (try clear hb2); (try clear hk); (try clear hi); have hcz12_0 : w11.cell? ⟨gb332, 0, none⟩ = some (.slice A0_0 l0_0.length c0_0) := (blk_cell BK332.out 0).trans rfl; have hfz12_0 := blk_frozen BK332.out 0) | ((with_reducible refine gate_dst (N := 23) rfl ?_); refine Kd.R_make (Kd.int .i64) _ 3 rfl (N := 23) rfl 39 _ _ rfl (l0_0.length : Int) rfl rfl Try.underlying39 (.int .i64 0) 8 info3 rfl (by decide) (by omega) 0 (ok := fun _ => True) (okp := fun _ => True) rfl (fun _ hk => hk) trivial (oda) (Nat.le_trans (Nat.mul_le_mul_right _ (oda : (l0_0.length : Int).toNat ≤ 35184372088832)) (by omega)) (Below.refl _ _) (Nat.le_refl _) ?_; intro v335 w13 ho14 hb hg_ hnew_; clear hg_ hnew_; (first | rw [← Ny334.out] at ho14 | (simp only [Int.reduceToNat] at ho14; rw [← Ny334.out] at ho14)); have n0_ := Aside0.mk (Kd.R_lower ho14 (below_size (bel1 HB GE332))); have n1_ := Aside0.mk (blk_below (g := gb332) (o := .cells #[.slice A0_0 l0_0.length c0_0] 30 (0, 0)) (bkl BK332) hb); have n2_ := Aside0.mk (below_step (bel1 HB GE332) hb); clear BK332; clear HB; have HO336 := n0_; have BK332 := n1_; have HB := n2_; clear n0_ n1_ n2_; clear hb ho14; have hcz15_0 : w13.cell? ⟨gb332, 0, none⟩ = some (.slice A0_0 l0_0.length c0_0) := (blk_cell BK332.out 0).trans rfl; have hfz15_0 := blk_frozen BK332.out 0) | (go_at_call 51; (with_reducible refine (impl_yardFindings.calls k _ _ l0_0 _ _ l1 a2 t337 _ ?side1 ?side2 ?side3 ?side4 A8.out).mono ?_); (case side1 => exact cdl (Kd.C_below HR0_0.out HB.out)); (case side2 => exact HC0_0.out); (case side3 => exact cdl (Kd.C_below HR1.out HB.out)); (case side4 => exact HC1.out); rintro e w16 ⟨v338, rfl, ho0, hb⟩; have n0_ := Aside0.mk (Kd.R_below (rdl HO336) hb); have n1_ := Aside0.mk (Kd.R_lower ho0 (below_size (bel1 HB GE332))); have n2_ := Aside0.mk (blk_below (g := gb332) (o := .cells #[.slice A0_0 l0_0.length c0_0] 30 (0, 0)) (bkl BK332) hb); have n3_ := Aside0.mk (below_step (bel1 HB GE332) hb); clear HO336; clear BK332; clear HB; have HO336 := n0_; have HO339 := n1_; have BK332 := n2_; have HB := n3_; clear n0_ n1_ n2_ n3_; (try clear hb); (try clear hb2); (try clear hk); (try clear hi); (try clear ho0); obtain ⟨Ao17, co17, eo17⟩ := Kd.R_slice HO339.out; subst eo17))
    repeat (go_quiet (first | ((with_reducible refine gate_dst (N := 3) rfl ?_); refine box_event ?hg (N := 3) ?hd (cs := #[.slice A0_0 l0_0.length c0_0]) (t := 30) ?hr ?_; (case hd => rfl); (case hg => rfl); (case hr => first | (go_simp; done) | (go_simp; rfl)); intro gb332 hg w9 hbox hb; have n0_ := Aside0.mk (below_step (bel HB) hb); have n1_ := Aside0.mk (hbox); have n2_ := Aside0.mk ((by rw [hg]; exact (below_size (bel HB)) : w.heap.size ≤ gb332)); have n3_ := Aside0.mk ((by rw [hg]; exact (below_size (bel HB)) : w.heap.size ≤ gb332)); clear HB; have HB := n0_; have BK332 := n1_; have GW332 := n2_; have GE332 := n3_; clear n0_ n1_ n2_ n3_; clear hb hbox hg; have hcz10_0 : w9.cell? ⟨gb332, 0, none⟩ = some (.slice A0_0 l0_0.length c0_0) := (blk_cell BK332.out 0).trans rfl; have hfz10_0 := blk_frozen BK332.out 0) | (go_at_call 50; (with_reducible refine (impl_areYard.calls k _ _ l0_0 _ _ l1 a2 true _ ?side1 ?side2 ?side3 ?side4 A4.out).mono ?_); (case side1 => exact cdl (Kd.C_below HR0_0.out HB.out)); (case side2 => exact HC0_0.out); (case side3 => exact cdl (Kd.C_below HR1.out HB.out)); (case side4 => exact HC1.out); rintro e w11 ⟨rfl, hb⟩; have n0_ := Aside0.mk (blk_below (g := gb332) (o := .cells #[.slice A0_0 l0_0.length c0_0] 30 (0, 0)) (bkl BK332) hb); have n1_ := Aside0.mk (below_step (bel1 HB GE332) hb); clear BK332; clear HB; have BK332 := n0_; have HB := n1_; clear n0_ n1_; (try clear hb); (try clear hb2); (try clear hk); (try clear hi); have hcz12_0 : w11.cell? ⟨gb332, 0, none⟩ = some (.slice A0_0 l0_0.length c0_0) := (blk_cell BK332.out 0).trans rfl; have hfz12_0 := blk_frozen BK332.out 0) | ((with_reducible refine gate_dst (N := 23) rfl ?_); refine Kd.R_make (Kd.int .i64) _ 3 rfl (N := 23) rfl 39 _ _ rfl (l0_0.length : Int) rfl rfl Try.underlying39 (.int .i64 0) 8 info3 rfl (by decide) (by omega) 0 (ok := fun _ => True) (okp := fun _ => True) rfl (fun _ hk => hk) trivial (oda) (Nat.le_trans (Nat.mul_le_mul_right _ (oda : (l0_0.length : Int).toNat ≤ 35184372088832)) (by omega)) (Below.refl _ _) (Nat.le_refl _) ?_; intro v335 w13 ho14 hb hg_ hnew_; clear hg_ hnew_; (first | rw [← Ny334.out] at ho14 | (simp only [Int.reduceToNat] at ho14; rw [← Ny334.out] at ho14)); have n0_ := Aside0.mk (Kd.R_lower ho14 (below_size (bel1 HB GE332))); have n1_ := Aside0.mk (blk_below (g := gb332) (o := .cells #[.slice A0_0 l0_0.length c0_0] 30 (0, 0)) (bkl BK332) hb); have n2_ := Aside0.mk (below_step (bel1 HB GE332) hb); clear BK332; clear HB; have HO336 := n0_; have BK332 := n1_; have HB := n2_; clear n0_ n1_ n2_; clear hb ho14; have hcz15_0 : w13.cell? ⟨gb332, 0, none⟩ = some (.slice A0_0 l0_0.length c0_0) := (blk_cell BK332.out 0).trans rfl; have hfz15_0 := blk_frozen BK332.out 0) | (go_at_call 51; (with_reducible refine (impl_yardFindings.calls k _ _ l0_0 _ _ l1 a2 t337 _ ?side1 ?side2 ?side3 ?side4 A8.out).mono ?_); (case side1 => exact cdl (Kd.C_below HR0_0.out HB.out)); (case side2 => exact HC0_0.out); (case side3 => exact cdl (Kd.C_below HR1.out HB.out)); (case side4 => exact HC1.out); rintro e w16 ⟨v338, rfl, ho0, hb⟩; have n0_ := Aside0.mk (Kd.R_below (rdl HO336) hb); have n1_ := Aside0.mk (Kd.R_lower ho0 (below_size (bel1 HB GE332))); have n2_ := Aside0.mk (blk_below (g := gb332) (o := .cells #[.slice A0_0 l0_0.length c0_0] 30 (0, 0)) (bkl BK332) hb); have n3_ := Aside0.mk (below_step (bel1 HB GE332) hb); clear HO336; clear BK332; clear HB; have HO336 := n0_; have HO339 := n1_; have BK332 := n2_; have HB := n3_; clear n0_ n1_ n2_ n3_; (try clear hb); (try clear hb2); (try clear hk); (try clear hi); (try clear ho0); obtain ⟨Ao17, co17, eo17⟩ := Kd.R_slice HO339.out; subst eo17)); try go_wp2_with (first | ((with_reducible refine gate_dst (N := 3) rfl ?_); refine box_event ?hg (N := 3) ?hd (cs := #[.slice A0_0 l0_0.length c0_0]) (t := 30) ?hr ?_; (case hd => rfl); (case hg => rfl); (case hr => first | (go_simp; done) | (go_simp; rfl)); intro gb332 hg w9 hbox hb; have n0_ := Aside0.mk (below_step (bel HB) hb); have n1_ := Aside0.mk (hbox); have n2_ := Aside0.mk ((by rw [hg]; exact (below_size (bel HB)) : w.heap.size ≤ gb332)); have n3_ := Aside0.mk ((by rw [hg]; exact (below_size (bel HB)) : w.heap.size ≤ gb332)); clear HB; have HB := n0_; have BK332 := n1_; have GW332 := n2_; have GE332 := n3_; clear n0_ n1_ n2_ n3_; clear hb hbox hg; have hcz10_0 : w9.cell? ⟨gb332, 0, none⟩ = some (.slice A0_0 l0_0.length c0_0) := (blk_cell BK332.out 0).trans rfl; have hfz10_0 := blk_frozen BK332.out 0) | (go_at_call 50; (with_reducible refine (impl_areYard.calls k _ _ l0_0 _ _ l1 a2 true _ ?side1 ?side2 ?side3 ?side4 A4.out).mono ?_); (case side1 => exact cdl (Kd.C_below HR0_0.out HB.out)); (case side2 => exact HC0_0.out); (case side3 => exact cdl (Kd.C_below HR1.out HB.out)); (case side4 => exact HC1.out); rintro e w11 ⟨rfl, hb⟩; have n0_ := Aside0.mk (blk_below (g := gb332) (o := .cells #[.slice A0_0 l0_0.length c0_0] 30 (0, 0)) (bkl BK332) hb); have n1_ := Aside0.mk (below_step (bel1 HB GE332) hb); clear BK332; clear HB; have BK332 := n0_; have HB := n1_; clear n0_ n1_; (try clear hb); (try clear hb2); (try clear hk); (try clear hi); have hcz12_0 : w11.cell? ⟨gb332, 0, none⟩ = some (.slice A0_0 l0_0.length c0_0) := (blk_cell BK332.out 0).trans rfl; have hfz12_0 := blk_frozen BK332.out 0) | ((with_reducible refine gate_dst (N := 23) rfl ?_); refine Kd.R_make (Kd.int .i64) _ 3 rfl (N := 23) rfl 39 _ _ rfl (l0_0.length : Int) rfl rfl Try.underlying39 (.int .i64 0) 8 info3 rfl (by decide) (by omega) 0 (ok := fun _ => True) (okp := fun _ => True) rfl (fun _ hk => hk) trivial (oda) (Nat.le_trans (Nat.mul_le_mul_right _ (oda : (l0_0.length : Int).toNat ≤ 35184372088832)) (by omega)) (Below.refl _ _) (Nat.le_refl _) ?_; intro v335 w13 ho14 hb hg_ hnew_; clear hg_ hnew_; (first | rw [← Ny334.out] at ho14 | (simp only [Int.reduceToNat] at ho14; rw [← Ny334.out] at ho14)); have n0_ := Aside0.mk (Kd.R_lower ho14 (below_size (bel1 HB GE332))); have n1_ := Aside0.mk (blk_below (g := gb332) (o := .cells #[.slice A0_0 l0_0.length c0_0] 30 (0, 0)) (bkl BK332) hb); have n2_ := Aside0.mk (below_step (bel1 HB GE332) hb); clear BK332; clear HB; have HO336 := n0_; have BK332 := n1_; have HB := n2_; clear n0_ n1_ n2_; clear hb ho14; have hcz15_0 : w13.cell? ⟨gb332, 0, none⟩ = some (.slice A0_0 l0_0.length c0_0) := (blk_cell BK332.out 0).trans rfl; have hfz15_0 := blk_frozen BK332.out 0) | (go_at_call 51; (with_reducible refine (impl_yardFindings.calls k _ _ l0_0 _ _ l1 a2 t337 _ ?side1 ?side2 ?side3 ?side4 A8.out).mono ?_); (case side1 => exact cdl (Kd.C_below HR0_0.out HB.out)); (case side2 => exact HC0_0.out); (case side3 => exact cdl (Kd.C_below HR1.out HB.out)); (case side4 => exact HC1.out); rintro e w16 ⟨v338, rfl, ho0, hb⟩; have n0_ := Aside0.mk (Kd.R_below (rdl HO336) hb); have n1_ := Aside0.mk (Kd.R_lower ho0 (below_size (bel1 HB GE332))); have n2_ := Aside0.mk (blk_below (g := gb332) (o := .cells #[.slice A0_0 l0_0.length c0_0] 30 (0, 0)) (bkl BK332) hb); have n3_ := Aside0.mk (below_step (bel1 HB GE332) hb); clear HO336; clear BK332; clear HB; have HO336 := n0_; have HO339 := n1_; have BK332 := n2_; have HB := n3_; clear n0_ n1_ n2_ n3_; (try clear hb); (try clear hb2); (try clear hk); (try clear hi); (try clear ho0); obtain ⟨Ao17, co17, eo17⟩ := Kd.R_slice HO339.out; subst eo17)))
    go_loopg [29] k (fun kq v29 w' => ∃ (x9_1 : List Int) (x29_1 : Int), v29 = .int .i64 x29_1 ∧ Aside0 (impl_WorstStack.l0 kq x9_1 t337 (t337.length : Int) x29_1 = some (r1, r2, r3)) ∧ Aside0 (kq ≤ k) ∧ Aside0 (Kd.R (Kd.int .i64) 3 w' w.heap.size (fun _ => True) v335 x9_1) ∧ Aside0 (Kd.R k73 73 w' w.heap.size (fun _ => True) (.slice Ao17 t337.length co17) t337) ∧ Aside0 (w'.heap[gb332]? = some (.cells #[(.slice A0_0 l0_0.length c0_0)] 30 (0, 0))) ∧ Aside0 (Below w.heap.size w w'))
    case atStart => exact ⟨(y334), (0), (by first | rfl | (simp; done) | (simp [*]; done)), H', ⟨Nat.le_refl _⟩, ⟨rdl HO336⟩, ⟨rdl HO339⟩, ⟨bkl BK332⟩, ⟨bel1 HB GE332⟩⟩
    case round =>
     clear H'
     try clear c1
     try clear p2
     try clear c5
     try clear c6
     try clear c6b0
     try clear c6b1
     try clear c7
     try clear c7b0
     try clear c7b1
     try clear hcz10_0
     try clear hcz12_0
     try clear hcz15_0
     try clear hfz10_0
     try clear hfz12_0
     try clear hfz15_0
     obtain ⟨x9_1, x29_1, rfl, HA, HK1, HO_9, HO_27, BK332, HB⟩ := hrel
     cases gk with
     | zero => exact absurd HA.out (by simp [impl_WorstStack.l0])
     | succ k1 =>
      have H := HA.out
      clear HA
      simp only [impl_WorstStack.l0] at H
      by_cases c18 : x29_1 < (t337.length : Int)
      ·rw [if_pos c18] at H
       have c18b0 : decide (x29_1 < (t337.length : Int)) = true := decide_eq_true c18
       clear c18
       by_cases c19 : 0 ≤ x29_1
       ·rw [if_pos c19] at H
        have c19b0 : decide (0 ≤ x29_1) = true := decide_eq_true c19
        clear c19
        by_cases c20 : x29_1 < (t337.length : Int)
        ·rw [if_pos c20] at H
         have c20b0 : decide (x29_1 < (t337.length : Int)) = true := decide_eq_true c20
         clear c20
         by_cases c21 : 0 ≤ ((rd_T73 t337 x29_1).f1)
         ·rw [if_pos c21] at H
          have c21b0 : decide (0 ≤ ((rd_T73 t337 x29_1).f1)) = true := decide_eq_true c21
          clear c21
          by_cases c22 : ((rd_T73 t337 x29_1).f1) < (x9_1.length : Int)
          ·rw [if_pos c22] at H
           have c22b0 : decide (((rd_T73 t337 x29_1).f1) < (x9_1.length : Int)) = true := decide_eq_true c22
           clear c22
           obtain ⟨y343, hy343⟩ : ∃ y_ : List Int, y_ = (x9_1.set (((rd_T73 t337 x29_1).f1) : Int).toNat (wrap64 ((rd x9_1 ((rd_T73 t337 x29_1).f1)) + 1))) := ⟨_, rfl⟩
           replace H : (impl_WorstStack.l0 k1 y343 t337 (t337.length : Int) (wrap64 (x29_1 + 1))) = some (r1, r2, r3) := by first | (rw [hy343]; with_reducible exact H) | (have H2_ := (Option.bind_some _ _).symm.trans H; rw [hy343]; with_reducible exact H2_) | (have H2_ := (Option.bind_some _ _).symm.trans H; with_reducible exact H2_) | with_reducible exact H | (rw [hy343]; exact H) | exact H
           have Ny343 := Aside0.mk hy343
           clear hy343
           have H' := Aside0.mk H
           clear H
           have p340 : 0 ≤ (x29_1 : Int) := oda
           have q340 : x29_1 < (t337.length : Int) := oda
           obtain ⟨ad340, e340, hx340_0, hx340_1, hx340_2⟩ := at_T73 (Kd.R_reads' HO_27.out).2.2 x29_1 p340 q340
           cases e340
           replace p340 := eq_true p340
           replace q340 := eq_true q340
           go_wp2_with (first | ((with_reducible refine gate_dst (N := 11) rfl ?_); refine box_event ?hg (N := 11) ?hd (cs := #[.int .i64 0, .int .i64 0, .int .i64 0]) (t := 73) ?hr ?_; (case hd => rfl); (case hg => rfl); (case hr => first | (go_simp; done) | (go_simp; rfl)); intro gb341 hg w24 hbox hb; have n0_ := Aside0.mk (Kd.R_below (rdl HO_9) hb); have n1_ := Aside0.mk (Kd.R_below (Kd.R_elderB (rdl HO_27) gb341 (Nat.le_of_eq hg.symm)) hb); have n2_ := Aside0.mk (blk_below (g := gb332) (o := .cells #[.slice A0_0 l0_0.length c0_0] 30 (0, 0)) (bkl BK332) hb); have n3_ := Aside0.mk (below_step (bel1 HB GE332) hb); have n4_ := Aside0.mk (hbox); have n5_ := Aside0.mk ((by rw [hg]; exact (below_size (bel1 HB GE332)) : w.heap.size ≤ gb341)); have n6_ := Aside0.mk ((by rw [hg]; exact (below_size (bel1 HB GE332)) : w.heap.size ≤ gb341)); have n7_ := Aside0.mk ((by rw [hg]; exact Nat.ne_of_lt (blk_lt (g := gb332) (o := .cells #[.slice A0_0 l0_0.length c0_0] 30 (0, 0)) (bkl BK332)) : gb332 ≠ gb341)); have n8_ := Aside0.mk ((by rw [hg]; exact Nat.ne_of_gt (blk_lt (g := gb332) (o := .cells #[.slice A0_0 l0_0.length c0_0] 30 (0, 0)) (bkl BK332)) : gb341 ≠ gb332)); clear HO_9; clear HO_27; clear BK332; clear HB; have HO_9 := n0_; have HO_27 := n1_; have BK332 := n2_; have HB := n3_; have BK341 := n4_; have GW341 := n5_; have GE341 := n6_; have NB332_341 := n7_; have NB341_332 := n8_; clear n0_ n1_ n2_ n3_ n4_ n5_ n6_ n7_ n8_; clear hb hbox hg; have hnb25 := NB341_332.out; have hnc25 := NB332_341.out; have hcz26_0 : w24.cell? ⟨gb341, 0, none⟩ = some (.int .i64 0) := (blk_cell BK341.out 0).trans rfl; have hcz26_1 : w24.cell? ⟨gb341, 1, none⟩ = some (.int .i64 0) := (blk_cell BK341.out 1).trans rfl; have hcz26_2 : w24.cell? ⟨gb341, 2, none⟩ = some (.int .i64 0) := (blk_cell BK341.out 2).trans rfl; have hfz26_0 := blk_frozen BK341.out 0; have hfz26_1 := blk_frozen BK341.out 1; have hfz26_2 := blk_frozen BK341.out 2) | ((with_reducible refine gate_store (t := 73) (p := 11) rfl ?_); (try (rw [drewN_self w24]; generalize hq_ : World.drewN w24 _ = w24; have n0_ := Aside0.mk (Kd.R_at hq_ HO_9.out); have n1_ := Aside0.mk (Kd.R_at hq_ HO_27.out); have n2_ := Aside0.mk (blk_at hq_ BK332.out); have n3_ := Aside0.mk (blk_at hq_ BK341.out); have n4_ := Aside0.mk (below_at hq_ HB.out); clear hq_ HO_9 HO_27 BK332 BK341 HB; have HO_9 := n0_; have HO_27 := n1_; have BK332 := n2_; have BK341 := n3_; have HB := n4_; clear n0_ n1_ n2_ n3_ n4_)); refine store_event (t := 73) (p := 11) (v := ?vo_w27) (w1 := (((w24.setCell ⟨gb341, 0, none⟩ (.int .i64 ((rd_T73 t337 x29_1).f0))).setCell ⟨gb341, 1, none⟩ (.int .i64 ((rd_T73 t337 x29_1).f1))).setCell ⟨gb341, 2, none⟩ (.int .i64 ((rd_T73 t337 x29_1).f2)))) ?hg ?ho ?hn ?hr ?_; (case ho => rfl); (case hg => rfl); (case hn => rfl); (case hr => first | (go_simp; done) | (go_simp; rfl)); intro w27 hw; have n0_ : Aside0 (Kd.R (Kd.int .i64) 3 w27 w.heap.size (fun _ => True) v335 x9_1) := ⟨(by rw [hw]; exact (by (with_reducible repeat (first | apply Kd.R_alloc | apply Kd.R_drewN | apply Kd.R_drew)); exact Kd.R_mono (Kd.R_far (p := ⟨gb341, 2, none⟩) (Kd.R_far (p := ⟨gb341, 1, none⟩) (Kd.R_far (p := ⟨gb341, 0, none⟩) (Kd.R_types HO_9.out BK341.out (by decide)) (fun _ hk => hk.2) (.int .i64 ((rd_T73 t337 x29_1).f0))) (fun _ hk => hk.2) (.int .i64 ((rd_T73 t337 x29_1).f1))) (fun _ hk => hk.2) (.int .i64 ((rd_T73 t337 x29_1).f2))) (fun _ hk => trivial)))⟩; have n1_ : Aside0 (Kd.R k73 73 w27 w.heap.size (fun k_ => k_ ≠ gb341) (.slice (some ad340) t337.length co17) t337) := ⟨(by rw [hw]; exact (by (with_reducible repeat (first | apply Kd.R_alloc | apply Kd.R_drewN | apply Kd.R_drew)); exact Kd.R_mono (Kd.R_far (p := ⟨gb341, 2, none⟩) (Kd.R_far (p := ⟨gb341, 1, none⟩) (Kd.R_far (p := ⟨gb341, 0, none⟩) (Kd.R_mono HO_27.out (fun k_ hk => (⟨hk, hk.2⟩ : _ ∧ k_ ≠ gb341))) (fun _ hk => hk.2) (.int .i64 ((rd_T73 t337 x29_1).f0))) (fun _ hk => hk.2) (.int .i64 ((rd_T73 t337 x29_1).f1))) (fun _ hk => hk.2) (.int .i64 ((rd_T73 t337 x29_1).f2))) (fun _ hk => hk.1.2)))⟩; have n2_ : Aside0 (w27.heap[gb332]? = some (.cells #[.slice A0_0 l0_0.length c0_0] 30 (0, 0))) := ⟨(by rw [hw]; exact (by (with_reducible repeat (first | refine blk_drewN ?_ _ | refine blk_drew ?_ | refine blk_alloc ?_ _)); refine blk_far ?_ NB332_341.out _; (with_reducible repeat (first | refine blk_drewN ?_ _ | refine blk_drew ?_ | refine blk_alloc ?_ _)); refine blk_far ?_ NB332_341.out _; (with_reducible repeat (first | refine blk_drewN ?_ _ | refine blk_drew ?_ | refine blk_alloc ?_ _)); refine blk_far ?_ NB332_341.out _; (with_reducible repeat (first | refine blk_drewN ?_ _ | refine blk_drew ?_ | refine blk_alloc ?_ _)); exact BK332.out))⟩; have n3_ : Aside0 (w27.heap[gb341]? = some (.cells #[.int .i64 ((rd_T73 t337 x29_1).f0), .int .i64 ((rd_T73 t337 x29_1).f1), .int .i64 ((rd_T73 t337 x29_1).f2)] 73 (0, 0))) := ⟨(by rw [hw]; exact (by (with_reducible repeat (first | refine blk_drewN ?_ _ | refine blk_drew ?_ | refine blk_alloc ?_ _)); refine blk_put (cs := #[.int .i64 ((rd_T73 t337 x29_1).f0), .int .i64 ((rd_T73 t337 x29_1).f1), .int .i64 0]) ?_ 2 _ rfl; (with_reducible repeat (first | refine blk_drewN ?_ _ | refine blk_drew ?_ | refine blk_alloc ?_ _)); refine blk_put (cs := #[.int .i64 ((rd_T73 t337 x29_1).f0), .int .i64 0, .int .i64 0]) ?_ 1 _ rfl; (with_reducible repeat (first | refine blk_drewN ?_ _ | refine blk_drew ?_ | refine blk_alloc ?_ _)); refine blk_put (cs := #[.int .i64 0, .int .i64 0, .int .i64 0]) ?_ 0 _ rfl; (with_reducible repeat (first | refine blk_drewN ?_ _ | refine blk_drew ?_ | refine blk_alloc ?_ _)); exact BK341.out))⟩; have n4_ : Aside0 (Below w.heap.size w w27) := ⟨(by rw [hw]; exact (bel2 HB GE332 GE341))⟩; clear hw; clear HO_9; clear HO_27; clear BK332; clear BK341; clear HB; have HO_9 := n0_; have HO_27 := n1_; have BK332 := n2_; have BK341 := n3_; have HB := n4_; clear n0_ n1_ n2_ n3_ n4_; have hcz28_0 : w27.cell? ⟨gb341, 0, none⟩ = some (.int .i64 ((rd_T73 t337 x29_1).f0)) := (blk_cell BK341.out 0).trans rfl; have hcz28_1 : w27.cell? ⟨gb341, 1, none⟩ = some (.int .i64 ((rd_T73 t337 x29_1).f1)) := (blk_cell BK341.out 1).trans rfl; have hcz28_2 : w27.cell? ⟨gb341, 2, none⟩ = some (.int .i64 ((rd_T73 t337 x29_1).f2)) := (blk_cell BK341.out 2).trans rfl; have hfz28_0 := blk_frozen BK341.out 0; have hfz28_1 := blk_frozen BK341.out 1; have hfz28_2 := blk_frozen BK341.out 2; obtain ⟨Ao29, co29, eo29⟩ := Kd.R_slice HO_9.out; subst eo29; have p342 : 0 ≤ (((rd_T73 t337 x29_1).f1) : Int) := oda; have q342 : ((rd_T73 t337 x29_1).f1) < (x9_1.length : Int) := oda; obtain ⟨ad342, e342, hx342_0⟩ := Kd.at_int (Kd.R_reads' HO_9.out).2.2 ((rd_T73 t337 x29_1).f1) p342 q342; cases e342; replace p342 := eq_true p342; replace q342 := eq_true q342; have p23 : 0 ≤ (((rd_T73 t337 x29_1).f1) : Int) := oda; have q23 : (((rd_T73 t337 x29_1).f1) : Int) < ((x9_1.length : Int) : Int) := oda; obtain ⟨go23, co23, eo23, gb23, gl23, cl23, HG23⟩ := Kd.R_form HO_9.out (by omega); (first | cases eo23 | (injection eo23 with ea_ en_ ec_; (first | subst ea_ | (injection ea_ with ea_; subst ea_)); subst ec_; clear en_)); have GB23 := Aside0.mk gb23; have GG23 := Aside0.mk HG23; clear gb23 gl23 HG23; (first | simp only [add_plain] at hx342_0 | skip); obtain ⟨hx23_0, hf23_0⟩ := Kd.R_celln 0 HO_9.out (((rd_T73 t337 x29_1).f1) : Int) p23 q23; replace p23 := eq_true p23; replace q23 := eq_true q23; obtain ⟨hy30_, hz30_⟩ := Kd.R_celln 0 HO_9.out (((rd_T73 t337 x29_1).f1) : Int) (oda) (oda); have HP30 := Kd.R_putg HO_9.out (((rd_T73 t337 x29_1).f1) : Int) (wrap64 ((rd x9_1 ((rd_T73 t337 x29_1).f1)) + 1))) | ((with_reducible refine gate_store (t := 3) (p := 39) rfl ?_); (try (rw [drewN_self w27]; generalize hq_ : World.drewN w27 _ = w27; have n0_ := Aside0.mk (Kd.R_at hq_ HO_9.out); have n1_ := Aside0.mk (Kd.R_at hq_ HO_27.out); have n2_ := Aside0.mk (blk_at hq_ BK332.out); have n3_ := Aside0.mk (blk_at hq_ BK341.out); have n4_ := Aside0.mk (below_at hq_ HB.out); clear hq_ HO_9 HO_27 BK332 BK341 HB; have HO_9 := n0_; have HO_27 := n1_; have BK332 := n2_; have BK341 := n3_; have HB := n4_; clear n0_ n1_ n2_ n3_ n4_; (try (obtain ⟨hy30_, hz30_⟩ := Kd.R_celln 0 HO_9.out (((rd_T73 t337 x29_1).f1) : Int) (oda) (oda))); (try (have HP30 := Kd.R_putg HO_9.out (((rd_T73 t337 x29_1).f1) : Int) (wrap64 ((rd x9_1 ((rd_T73 t337 x29_1).f1)) + 1)))))); refine store_event (t := 3) (p := 39) (v := ?vo_w31) (w1 := (w27.setCell ⟨go23, (((rd_T73 t337 x29_1).f1) : Int).toNat, none⟩ (.int .i64 (wrap64 ((rd x9_1 ((rd_T73 t337 x29_1).f1)) + 1))))) ?hg ?ho ?hn ?hr ?_; (case ho => rfl); (case hg => rfl); (case hn => rfl); (case hr => first | (go_simp; done) | (go_simp; rfl)); intro w31 hw; have hg : w27.grownBy w31 (some go23) := (by rw [hw]; exact HP30.2); have hp_ : Kd.R (Kd.int .i64) 3 w31 w.heap.size (fun _ => True) (.slice (some ⟨go23, 0, none⟩) x9_1.length co29) y343 := (by rw [hw, Ny343.out]; exact HP30.1); clear HP30; have n0_ := Aside0.mk (hp_); have n1_ := Aside0.mk (Kd.R_over' (v := (.slice (some ⟨go23, 0, none⟩) x9_1.length co29)) (rdl HO_27) (Kd.R_typed HO_9.out) (by decide) hg); have n2_ := Aside0.mk (blk_grown (g := gb332) (o := .cells #[.slice A0_0 l0_0.length c0_0] 30 (0, 0)) (bkl BK332) hg (Kd.R_ne HO_9.out BK332.out (by decide))); have n3_ := Aside0.mk (blk_grown (g := gb341) (o := .cells #[.int .i64 ((rd_T73 t337 x29_1).f0), .int .i64 ((rd_T73 t337 x29_1).f1), .int .i64 ((rd_T73 t337 x29_1).f2)] 73 (0, 0)) (bkl BK341) hg (Kd.R_ne HO_9.out BK341.out (by decide))); have n4_ := Aside0.mk ((by rw [hw]; exact below_set (HB.out) GB23.out : Below w.heap.size w w31)); clear HO_9; clear HO_27; clear BK332; clear BK341; clear HB; have HO_9 := n0_; have HO_27 := n1_; have BK332 := n2_; have BK341 := n3_; have HB := n4_; clear n0_ n1_ n2_ n3_ n4_; clear hg hw hp_))
           repeat (go_quiet (first | ((with_reducible refine gate_dst (N := 11) rfl ?_); refine box_event ?hg (N := 11) ?hd (cs := #[.int .i64 0, .int .i64 0, .int .i64 0]) (t := 73) ?hr ?_; (case hd => rfl); (case hg => rfl); (case hr => first | (go_simp; done) | (go_simp; rfl)); intro gb341 hg w24 hbox hb; have n0_ := Aside0.mk (Kd.R_below (rdl HO_9) hb); have n1_ := Aside0.mk (Kd.R_below (Kd.R_elderB (rdl HO_27) gb341 (Nat.le_of_eq hg.symm)) hb); have n2_ := Aside0.mk (blk_below (g := gb332) (o := .cells #[.slice A0_0 l0_0.length c0_0] 30 (0, 0)) (bkl BK332) hb); have n3_ := Aside0.mk (below_step (bel1 HB GE332) hb); have n4_ := Aside0.mk (hbox); have n5_ := Aside0.mk ((by rw [hg]; exact (below_size (bel1 HB GE332)) : w.heap.size ≤ gb341)); have n6_ := Aside0.mk ((by rw [hg]; exact (below_size (bel1 HB GE332)) : w.heap.size ≤ gb341)); have n7_ := Aside0.mk ((by rw [hg]; exact Nat.ne_of_lt (blk_lt (g := gb332) (o := .cells #[.slice A0_0 l0_0.length c0_0] 30 (0, 0)) (bkl BK332)) : gb332 ≠ gb341)); have n8_ := Aside0.mk ((by rw [hg]; exact Nat.ne_of_gt (blk_lt (g := gb332) (o := .cells #[.slice A0_0 l0_0.length c0_0] 30 (0, 0)) (bkl BK332)) : gb341 ≠ gb332)); clear HO_9; clear HO_27; clear BK332; clear HB; have HO_9 := n0_; have HO_27 := n1_; have BK332 := n2_; have HB := n3_; have BK341 := n4_; have GW341 := n5_; have GE341 := n6_; have NB332_341 := n7_; have NB341_332 := n8_; clear n0_ n1_ n2_ n3_ n4_ n5_ n6_ n7_ n8_; clear hb hbox hg; have hnb25 := NB341_332.out; have hnc25 := NB332_341.out; have hcz26_0 : w24.cell? ⟨gb341, 0, none⟩ = some (.int .i64 0) := (blk_cell BK341.out 0).trans rfl; have hcz26_1 : w24.cell? ⟨gb341, 1, none⟩ = some (.int .i64 0) := (blk_cell BK341.out 1).trans rfl; have hcz26_2 : w24.cell? ⟨gb341, 2, none⟩ = some (.int .i64 0) := (blk_cell BK341.out 2).trans rfl; have hfz26_0 := blk_frozen BK341.out 0; have hfz26_1 := blk_frozen BK341.out 1; have hfz26_2 := blk_frozen BK341.out 2) | ((with_reducible refine gate_store (t := 73) (p := 11) rfl ?_); (try (rw [drewN_self w24]; generalize hq_ : World.drewN w24 _ = w24; have n0_ := Aside0.mk (Kd.R_at hq_ HO_9.out); have n1_ := Aside0.mk (Kd.R_at hq_ HO_27.out); have n2_ := Aside0.mk (blk_at hq_ BK332.out); have n3_ := Aside0.mk (blk_at hq_ BK341.out); have n4_ := Aside0.mk (below_at hq_ HB.out); clear hq_ HO_9 HO_27 BK332 BK341 HB; have HO_9 := n0_; have HO_27 := n1_; have BK332 := n2_; have BK341 := n3_; have HB := n4_; clear n0_ n1_ n2_ n3_ n4_)); refine store_event (t := 73) (p := 11) (v := ?vo_w27) (w1 := (((w24.setCell ⟨gb341, 0, none⟩ (.int .i64 ((rd_T73 t337 x29_1).f0))).setCell ⟨gb341, 1, none⟩ (.int .i64 ((rd_T73 t337 x29_1).f1))).setCell ⟨gb341, 2, none⟩ (.int .i64 ((rd_T73 t337 x29_1).f2)))) ?hg ?ho ?hn ?hr ?_; (case ho => rfl); (case hg => rfl); (case hn => rfl); (case hr => first | (go_simp; done) | (go_simp; rfl)); intro w27 hw; have n0_ : Aside0 (Kd.R (Kd.int .i64) 3 w27 w.heap.size (fun _ => True) v335 x9_1) := ⟨(by rw [hw]; exact (by (with_reducible repeat (first | apply Kd.R_alloc | apply Kd.R_drewN | apply Kd.R_drew)); exact Kd.R_mono (Kd.R_far (p := ⟨gb341, 2, none⟩) (Kd.R_far (p := ⟨gb341, 1, none⟩) (Kd.R_far (p := ⟨gb341, 0, none⟩) (Kd.R_types HO_9.out BK341.out (by decide)) (fun _ hk => hk.2) (.int .i64 ((rd_T73 t337 x29_1).f0))) (fun _ hk => hk.2) (.int .i64 ((rd_T73 t337 x29_1).f1))) (fun _ hk => hk.2) (.int .i64 ((rd_T73 t337 x29_1).f2))) (fun _ hk => trivial)))⟩; have n1_ : Aside0 (Kd.R k73 73 w27 w.heap.size (fun k_ => k_ ≠ gb341) (.slice (some ad340) t337.length co17) t337) := ⟨(by rw [hw]; exact (by (with_reducible repeat (first | apply Kd.R_alloc | apply Kd.R_drewN | apply Kd.R_drew)); exact Kd.R_mono (Kd.R_far (p := ⟨gb341, 2, none⟩) (Kd.R_far (p := ⟨gb341, 1, none⟩) (Kd.R_far (p := ⟨gb341, 0, none⟩) (Kd.R_mono HO_27.out (fun k_ hk => (⟨hk, hk.2⟩ : _ ∧ k_ ≠ gb341))) (fun _ hk => hk.2) (.int .i64 ((rd_T73 t337 x29_1).f0))) (fun _ hk => hk.2) (.int .i64 ((rd_T73 t337 x29_1).f1))) (fun _ hk => hk.2) (.int .i64 ((rd_T73 t337 x29_1).f2))) (fun _ hk => hk.1.2)))⟩; have n2_ : Aside0 (w27.heap[gb332]? = some (.cells #[.slice A0_0 l0_0.length c0_0] 30 (0, 0))) := ⟨(by rw [hw]; exact (by (with_reducible repeat (first | refine blk_drewN ?_ _ | refine blk_drew ?_ | refine blk_alloc ?_ _)); refine blk_far ?_ NB332_341.out _; (with_reducible repeat (first | refine blk_drewN ?_ _ | refine blk_drew ?_ | refine blk_alloc ?_ _)); refine blk_far ?_ NB332_341.out _; (with_reducible repeat (first | refine blk_drewN ?_ _ | refine blk_drew ?_ | refine blk_alloc ?_ _)); refine blk_far ?_ NB332_341.out _; (with_reducible repeat (first | refine blk_drewN ?_ _ | refine blk_drew ?_ | refine blk_alloc ?_ _)); exact BK332.out))⟩; have n3_ : Aside0 (w27.heap[gb341]? = some (.cells #[.int .i64 ((rd_T73 t337 x29_1).f0), .int .i64 ((rd_T73 t337 x29_1).f1), .int .i64 ((rd_T73 t337 x29_1).f2)] 73 (0, 0))) := ⟨(by rw [hw]; exact (by (with_reducible repeat (first | refine blk_drewN ?_ _ | refine blk_drew ?_ | refine blk_alloc ?_ _)); refine blk_put (cs := #[.int .i64 ((rd_T73 t337 x29_1).f0), .int .i64 ((rd_T73 t337 x29_1).f1), .int .i64 0]) ?_ 2 _ rfl; (with_reducible repeat (first | refine blk_drewN ?_ _ | refine blk_drew ?_ | refine blk_alloc ?_ _)); refine blk_put (cs := #[.int .i64 ((rd_T73 t337 x29_1).f0), .int .i64 0, .int .i64 0]) ?_ 1 _ rfl; (with_reducible repeat (first | refine blk_drewN ?_ _ | refine blk_drew ?_ | refine blk_alloc ?_ _)); refine blk_put (cs := #[.int .i64 0, .int .i64 0, .int .i64 0]) ?_ 0 _ rfl; (with_reducible repeat (first | refine blk_drewN ?_ _ | refine blk_drew ?_ | refine blk_alloc ?_ _)); exact BK341.out))⟩; have n4_ : Aside0 (Below w.heap.size w w27) := ⟨(by rw [hw]; exact (bel2 HB GE332 GE341))⟩; clear hw; clear HO_9; clear HO_27; clear BK332; clear BK341; clear HB; have HO_9 := n0_; have HO_27 := n1_; have BK332 := n2_; have BK341 := n3_; have HB := n4_; clear n0_ n1_ n2_ n3_ n4_; have hcz28_0 : w27.cell? ⟨gb341, 0, none⟩ = some (.int .i64 ((rd_T73 t337 x29_1).f0)) := (blk_cell BK341.out 0).trans rfl; have hcz28_1 : w27.cell? ⟨gb341, 1, none⟩ = some (.int .i64 ((rd_T73 t337 x29_1).f1)) := (blk_cell BK341.out 1).trans rfl; have hcz28_2 : w27.cell? ⟨gb341, 2, none⟩ = some (.int .i64 ((rd_T73 t337 x29_1).f2)) := (blk_cell BK341.out 2).trans rfl; have hfz28_0 := blk_frozen BK341.out 0; have hfz28_1 := blk_frozen BK341.out 1; have hfz28_2 := blk_frozen BK341.out 2; obtain ⟨Ao29, co29, eo29⟩ := Kd.R_slice HO_9.out; subst eo29; have p342 : 0 ≤ (((rd_T73 t337 x29_1).f1) : Int) := oda; have q342 : ((rd_T73 t337 x29_1).f1) < (x9_1.length : Int) := oda; obtain ⟨ad342, e342, hx342_0⟩ := Kd.at_int (Kd.R_reads' HO_9.out).2.2 ((rd_T73 t337 x29_1).f1) p342 q342; cases e342; replace p342 := eq_true p342; replace q342 := eq_true q342; have p23 : 0 ≤ (((rd_T73 t337 x29_1).f1) : Int) := oda; have q23 : (((rd_T73 t337 x29_1).f1) : Int) < ((x9_1.length : Int) : Int) := oda; obtain ⟨go23, co23, eo23, gb23, gl23, cl23, HG23⟩ := Kd.R_form HO_9.out (by omega); (first | cases eo23 | (injection eo23 with ea_ en_ ec_; (first | subst ea_ | (injection ea_ with ea_; subst ea_)); subst ec_; clear en_)); have GB23 := Aside0.mk gb23; have GG23 := Aside0.mk HG23; clear gb23 gl23 HG23; (first | simp only [add_plain] at hx342_0 | skip); obtain ⟨hx23_0, hf23_0⟩ := Kd.R_celln 0 HO_9.out (((rd_T73 t337 x29_1).f1) : Int) p23 q23; replace p23 := eq_true p23; replace q23 := eq_true q23; obtain ⟨hy30_, hz30_⟩ := Kd.R_celln 0 HO_9.out (((rd_T73 t337 x29_1).f1) : Int) (oda) (oda); have HP30 := Kd.R_putg HO_9.out (((rd_T73 t337 x29_1).f1) : Int) (wrap64 ((rd x9_1 ((rd_T73 t337 x29_1).f1)) + 1))) | ((with_reducible refine gate_store (t := 3) (p := 39) rfl ?_); (try (rw [drewN_self w27]; generalize hq_ : World.drewN w27 _ = w27; have n0_ := Aside0.mk (Kd.R_at hq_ HO_9.out); have n1_ := Aside0.mk (Kd.R_at hq_ HO_27.out); have n2_ := Aside0.mk (blk_at hq_ BK332.out); have n3_ := Aside0.mk (blk_at hq_ BK341.out); have n4_ := Aside0.mk (below_at hq_ HB.out); clear hq_ HO_9 HO_27 BK332 BK341 HB; have HO_9 := n0_; have HO_27 := n1_; have BK332 := n2_; have BK341 := n3_; have HB := n4_; clear n0_ n1_ n2_ n3_ n4_; (try (obtain ⟨hy30_, hz30_⟩ := Kd.R_celln 0 HO_9.out (((rd_T73 t337 x29_1).f1) : Int) (oda) (oda))); (try (have HP30 := Kd.R_putg HO_9.out (((rd_T73 t337 x29_1).f1) : Int) (wrap64 ((rd x9_1 ((rd_T73 t337 x29_1).f1)) + 1)))))); refine store_event (t := 3) (p := 39) (v := ?vo_w31) (w1 := (w27.setCell ⟨go23, (((rd_T73 t337 x29_1).f1) : Int).toNat, none⟩ (.int .i64 (wrap64 ((rd x9_1 ((rd_T73 t337 x29_1).f1)) + 1))))) ?hg ?ho ?hn ?hr ?_; (case ho => rfl); (case hg => rfl); (case hn => rfl); (case hr => first | (go_simp; done) | (go_simp; rfl)); intro w31 hw; have hg : w27.grownBy w31 (some go23) := (by rw [hw]; exact HP30.2); have hp_ : Kd.R (Kd.int .i64) 3 w31 w.heap.size (fun _ => True) (.slice (some ⟨go23, 0, none⟩) x9_1.length co29) y343 := (by rw [hw, Ny343.out]; exact HP30.1); clear HP30; have n0_ := Aside0.mk (hp_); have n1_ := Aside0.mk (Kd.R_over' (v := (.slice (some ⟨go23, 0, none⟩) x9_1.length co29)) (rdl HO_27) (Kd.R_typed HO_9.out) (by decide) hg); have n2_ := Aside0.mk (blk_grown (g := gb332) (o := .cells #[.slice A0_0 l0_0.length c0_0] 30 (0, 0)) (bkl BK332) hg (Kd.R_ne HO_9.out BK332.out (by decide))); have n3_ := Aside0.mk (blk_grown (g := gb341) (o := .cells #[.int .i64 ((rd_T73 t337 x29_1).f0), .int .i64 ((rd_T73 t337 x29_1).f1), .int .i64 ((rd_T73 t337 x29_1).f2)] 73 (0, 0)) (bkl BK341) hg (Kd.R_ne HO_9.out BK341.out (by decide))); have n4_ := Aside0.mk ((by rw [hw]; exact below_set (HB.out) GB23.out : Below w.heap.size w w31)); clear HO_9; clear HO_27; clear BK332; clear BK341; clear HB; have HO_9 := n0_; have HO_27 := n1_; have BK332 := n2_; have BK341 := n3_; have HB := n4_; clear n0_ n1_ n2_ n3_ n4_; clear hg hw hp_)); try go_wp2_with (first | ((with_reducible refine gate_dst (N := 11) rfl ?_); refine box_event ?hg (N := 11) ?hd (cs := #[.int .i64 0, .int .i64 0, .int .i64 0]) (t := 73) ?hr ?_; (case hd => rfl); (case hg => rfl); (case hr => first | (go_simp; done) | (go_simp; rfl)); intro gb341 hg w24 hbox hb; have n0_ := Aside0.mk (Kd.R_below (rdl HO_9) hb); have n1_ := Aside0.mk (Kd.R_below (Kd.R_elderB (rdl HO_27) gb341 (Nat.le_of_eq hg.symm)) hb); have n2_ := Aside0.mk (blk_below (g := gb332) (o := .cells #[.slice A0_0 l0_0.length c0_0] 30 (0, 0)) (bkl BK332) hb); have n3_ := Aside0.mk (below_step (bel1 HB GE332) hb); have n4_ := Aside0.mk (hbox); have n5_ := Aside0.mk ((by rw [hg]; exact (below_size (bel1 HB GE332)) : w.heap.size ≤ gb341)); have n6_ := Aside0.mk ((by rw [hg]; exact (below_size (bel1 HB GE332)) : w.heap.size ≤ gb341)); have n7_ := Aside0.mk ((by rw [hg]; exact Nat.ne_of_lt (blk_lt (g := gb332) (o := .cells #[.slice A0_0 l0_0.length c0_0] 30 (0, 0)) (bkl BK332)) : gb332 ≠ gb341)); have n8_ := Aside0.mk ((by rw [hg]; exact Nat.ne_of_gt (blk_lt (g := gb332) (o := .cells #[.slice A0_0 l0_0.length c0_0] 30 (0, 0)) (bkl BK332)) : gb341 ≠ gb332)); clear HO_9; clear HO_27; clear BK332; clear HB; have HO_9 := n0_; have HO_27 := n1_; have BK332 := n2_; have HB := n3_; have BK341 := n4_; have GW341 := n5_; have GE341 := n6_; have NB332_341 := n7_; have NB341_332 := n8_; clear n0_ n1_ n2_ n3_ n4_ n5_ n6_ n7_ n8_; clear hb hbox hg; have hnb25 := NB341_332.out; have hnc25 := NB332_341.out; have hcz26_0 : w24.cell? ⟨gb341, 0, none⟩ = some (.int .i64 0) := (blk_cell BK341.out 0).trans rfl; have hcz26_1 : w24.cell? ⟨gb341, 1, none⟩ = some (.int .i64 0) := (blk_cell BK341.out 1).trans rfl; have hcz26_2 : w24.cell? ⟨gb341, 2, none⟩ = some (.int .i64 0) := (blk_cell BK341.out 2).trans rfl; have hfz26_0 := blk_frozen BK341.out 0; have hfz26_1 := blk_frozen BK341.out 1; have hfz26_2 := blk_frozen BK341.out 2) | ((with_reducible refine gate_store (t := 73) (p := 11) rfl ?_); (try (rw [drewN_self w24]; generalize hq_ : World.drewN w24 _ = w24; have n0_ := Aside0.mk (Kd.R_at hq_ HO_9.out); have n1_ := Aside0.mk (Kd.R_at hq_ HO_27.out); have n2_ := Aside0.mk (blk_at hq_ BK332.out); have n3_ := Aside0.mk (blk_at hq_ BK341.out); have n4_ := Aside0.mk (below_at hq_ HB.out); clear hq_ HO_9 HO_27 BK332 BK341 HB; have HO_9 := n0_; have HO_27 := n1_; have BK332 := n2_; have BK341 := n3_; have HB := n4_; clear n0_ n1_ n2_ n3_ n4_)); refine store_event (t := 73) (p := 11) (v := ?vo_w27) (w1 := (((w24.setCell ⟨gb341, 0, none⟩ (.int .i64 ((rd_T73 t337 x29_1).f0))).setCell ⟨gb341, 1, none⟩ (.int .i64 ((rd_T73 t337 x29_1).f1))).setCell ⟨gb341, 2, none⟩ (.int .i64 ((rd_T73 t337 x29_1).f2)))) ?hg ?ho ?hn ?hr ?_; (case ho => rfl); (case hg => rfl); (case hn => rfl); (case hr => first | (go_simp; done) | (go_simp; rfl)); intro w27 hw; have n0_ : Aside0 (Kd.R (Kd.int .i64) 3 w27 w.heap.size (fun _ => True) v335 x9_1) := ⟨(by rw [hw]; exact (by (with_reducible repeat (first | apply Kd.R_alloc | apply Kd.R_drewN | apply Kd.R_drew)); exact Kd.R_mono (Kd.R_far (p := ⟨gb341, 2, none⟩) (Kd.R_far (p := ⟨gb341, 1, none⟩) (Kd.R_far (p := ⟨gb341, 0, none⟩) (Kd.R_types HO_9.out BK341.out (by decide)) (fun _ hk => hk.2) (.int .i64 ((rd_T73 t337 x29_1).f0))) (fun _ hk => hk.2) (.int .i64 ((rd_T73 t337 x29_1).f1))) (fun _ hk => hk.2) (.int .i64 ((rd_T73 t337 x29_1).f2))) (fun _ hk => trivial)))⟩; have n1_ : Aside0 (Kd.R k73 73 w27 w.heap.size (fun k_ => k_ ≠ gb341) (.slice (some ad340) t337.length co17) t337) := ⟨(by rw [hw]; exact (by (with_reducible repeat (first | apply Kd.R_alloc | apply Kd.R_drewN | apply Kd.R_drew)); exact Kd.R_mono (Kd.R_far (p := ⟨gb341, 2, none⟩) (Kd.R_far (p := ⟨gb341, 1, none⟩) (Kd.R_far (p := ⟨gb341, 0, none⟩) (Kd.R_mono HO_27.out (fun k_ hk => (⟨hk, hk.2⟩ : _ ∧ k_ ≠ gb341))) (fun _ hk => hk.2) (.int .i64 ((rd_T73 t337 x29_1).f0))) (fun _ hk => hk.2) (.int .i64 ((rd_T73 t337 x29_1).f1))) (fun _ hk => hk.2) (.int .i64 ((rd_T73 t337 x29_1).f2))) (fun _ hk => hk.1.2)))⟩; have n2_ : Aside0 (w27.heap[gb332]? = some (.cells #[.slice A0_0 l0_0.length c0_0] 30 (0, 0))) := ⟨(by rw [hw]; exact (by (with_reducible repeat (first | refine blk_drewN ?_ _ | refine blk_drew ?_ | refine blk_alloc ?_ _)); refine blk_far ?_ NB332_341.out _; (with_reducible repeat (first | refine blk_drewN ?_ _ | refine blk_drew ?_ | refine blk_alloc ?_ _)); refine blk_far ?_ NB332_341.out _; (with_reducible repeat (first | refine blk_drewN ?_ _ | refine blk_drew ?_ | refine blk_alloc ?_ _)); refine blk_far ?_ NB332_341.out _; (with_reducible repeat (first | refine blk_drewN ?_ _ | refine blk_drew ?_ | refine blk_alloc ?_ _)); exact BK332.out))⟩; have n3_ : Aside0 (w27.heap[gb341]? = some (.cells #[.int .i64 ((rd_T73 t337 x29_1).f0), .int .i64 ((rd_T73 t337 x29_1).f1), .int .i64 ((rd_T73 t337 x29_1).f2)] 73 (0, 0))) := ⟨(by rw [hw]; exact (by (with_reducible repeat (first | refine blk_drewN ?_ _ | refine blk_drew ?_ | refine blk_alloc ?_ _)); refine blk_put (cs := #[.int .i64 ((rd_T73 t337 x29_1).f0), .int .i64 ((rd_T73 t337 x29_1).f1), .int .i64 0]) ?_ 2 _ rfl; (with_reducible repeat (first | refine blk_drewN ?_ _ | refine blk_drew ?_ | refine blk_alloc ?_ _)); refine blk_put (cs := #[.int .i64 ((rd_T73 t337 x29_1).f0), .int .i64 0, .int .i64 0]) ?_ 1 _ rfl; (with_reducible repeat (first | refine blk_drewN ?_ _ | refine blk_drew ?_ | refine blk_alloc ?_ _)); refine blk_put (cs := #[.int .i64 0, .int .i64 0, .int .i64 0]) ?_ 0 _ rfl; (with_reducible repeat (first | refine blk_drewN ?_ _ | refine blk_drew ?_ | refine blk_alloc ?_ _)); exact BK341.out))⟩; have n4_ : Aside0 (Below w.heap.size w w27) := ⟨(by rw [hw]; exact (bel2 HB GE332 GE341))⟩; clear hw; clear HO_9; clear HO_27; clear BK332; clear BK341; clear HB; have HO_9 := n0_; have HO_27 := n1_; have BK332 := n2_; have BK341 := n3_; have HB := n4_; clear n0_ n1_ n2_ n3_ n4_; have hcz28_0 : w27.cell? ⟨gb341, 0, none⟩ = some (.int .i64 ((rd_T73 t337 x29_1).f0)) := (blk_cell BK341.out 0).trans rfl; have hcz28_1 : w27.cell? ⟨gb341, 1, none⟩ = some (.int .i64 ((rd_T73 t337 x29_1).f1)) := (blk_cell BK341.out 1).trans rfl; have hcz28_2 : w27.cell? ⟨gb341, 2, none⟩ = some (.int .i64 ((rd_T73 t337 x29_1).f2)) := (blk_cell BK341.out 2).trans rfl; have hfz28_0 := blk_frozen BK341.out 0; have hfz28_1 := blk_frozen BK341.out 1; have hfz28_2 := blk_frozen BK341.out 2; obtain ⟨Ao29, co29, eo29⟩ := Kd.R_slice HO_9.out; subst eo29; have p342 : 0 ≤ (((rd_T73 t337 x29_1).f1) : Int) := oda; have q342 : ((rd_T73 t337 x29_1).f1) < (x9_1.length : Int) := oda; obtain ⟨ad342, e342, hx342_0⟩ := Kd.at_int (Kd.R_reads' HO_9.out).2.2 ((rd_T73 t337 x29_1).f1) p342 q342; cases e342; replace p342 := eq_true p342; replace q342 := eq_true q342; have p23 : 0 ≤ (((rd_T73 t337 x29_1).f1) : Int) := oda; have q23 : (((rd_T73 t337 x29_1).f1) : Int) < ((x9_1.length : Int) : Int) := oda; obtain ⟨go23, co23, eo23, gb23, gl23, cl23, HG23⟩ := Kd.R_form HO_9.out (by omega); (first | cases eo23 | (injection eo23 with ea_ en_ ec_; (first | subst ea_ | (injection ea_ with ea_; subst ea_)); subst ec_; clear en_)); have GB23 := Aside0.mk gb23; have GG23 := Aside0.mk HG23; clear gb23 gl23 HG23; (first | simp only [add_plain] at hx342_0 | skip); obtain ⟨hx23_0, hf23_0⟩ := Kd.R_celln 0 HO_9.out (((rd_T73 t337 x29_1).f1) : Int) p23 q23; replace p23 := eq_true p23; replace q23 := eq_true q23; obtain ⟨hy30_, hz30_⟩ := Kd.R_celln 0 HO_9.out (((rd_T73 t337 x29_1).f1) : Int) (oda) (oda); have HP30 := Kd.R_putg HO_9.out (((rd_T73 t337 x29_1).f1) : Int) (wrap64 ((rd x9_1 ((rd_T73 t337 x29_1).f1)) + 1))) | ((with_reducible refine gate_store (t := 3) (p := 39) rfl ?_); (try (rw [drewN_self w27]; generalize hq_ : World.drewN w27 _ = w27; have n0_ := Aside0.mk (Kd.R_at hq_ HO_9.out); have n1_ := Aside0.mk (Kd.R_at hq_ HO_27.out); have n2_ := Aside0.mk (blk_at hq_ BK332.out); have n3_ := Aside0.mk (blk_at hq_ BK341.out); have n4_ := Aside0.mk (below_at hq_ HB.out); clear hq_ HO_9 HO_27 BK332 BK341 HB; have HO_9 := n0_; have HO_27 := n1_; have BK332 := n2_; have BK341 := n3_; have HB := n4_; clear n0_ n1_ n2_ n3_ n4_; (try (obtain ⟨hy30_, hz30_⟩ := Kd.R_celln 0 HO_9.out (((rd_T73 t337 x29_1).f1) : Int) (oda) (oda))); (try (have HP30 := Kd.R_putg HO_9.out (((rd_T73 t337 x29_1).f1) : Int) (wrap64 ((rd x9_1 ((rd_T73 t337 x29_1).f1)) + 1)))))); refine store_event (t := 3) (p := 39) (v := ?vo_w31) (w1 := (w27.setCell ⟨go23, (((rd_T73 t337 x29_1).f1) : Int).toNat, none⟩ (.int .i64 (wrap64 ((rd x9_1 ((rd_T73 t337 x29_1).f1)) + 1))))) ?hg ?ho ?hn ?hr ?_; (case ho => rfl); (case hg => rfl); (case hn => rfl); (case hr => first | (go_simp; done) | (go_simp; rfl)); intro w31 hw; have hg : w27.grownBy w31 (some go23) := (by rw [hw]; exact HP30.2); have hp_ : Kd.R (Kd.int .i64) 3 w31 w.heap.size (fun _ => True) (.slice (some ⟨go23, 0, none⟩) x9_1.length co29) y343 := (by rw [hw, Ny343.out]; exact HP30.1); clear HP30; have n0_ := Aside0.mk (hp_); have n1_ := Aside0.mk (Kd.R_over' (v := (.slice (some ⟨go23, 0, none⟩) x9_1.length co29)) (rdl HO_27) (Kd.R_typed HO_9.out) (by decide) hg); have n2_ := Aside0.mk (blk_grown (g := gb332) (o := .cells #[.slice A0_0 l0_0.length c0_0] 30 (0, 0)) (bkl BK332) hg (Kd.R_ne HO_9.out BK332.out (by decide))); have n3_ := Aside0.mk (blk_grown (g := gb341) (o := .cells #[.int .i64 ((rd_T73 t337 x29_1).f0), .int .i64 ((rd_T73 t337 x29_1).f1), .int .i64 ((rd_T73 t337 x29_1).f2)] 73 (0, 0)) (bkl BK341) hg (Kd.R_ne HO_9.out BK341.out (by decide))); have n4_ := Aside0.mk ((by rw [hw]; exact below_set (HB.out) GB23.out : Below w.heap.size w w31)); clear HO_9; clear HO_27; clear BK332; clear BK341; clear HB; have HO_9 := n0_; have HO_27 := n1_; have BK332 := n2_; have BK341 := n3_; have HB := n4_; clear n0_ n1_ n2_ n3_ n4_; clear hg hw hp_)))
           go_roundg k1
           case measure => have := HK1.out; omega
           case rel => exact ⟨(y343), (wrap64 (x29_1 + 1)), (by first | rfl | (simp; done) | (simp [*]; done)), H', ⟨by have := HK1.out; omega⟩, ⟨rdl HO_9⟩, ⟨by (with_reducible repeat (first | apply Kd.R_alloc | apply Kd.R_drewN | apply Kd.R_drew)); exact Kd.R_mono HO_27.out (fun _ hk => trivial)⟩, ⟨bkl BK332⟩, ⟨bel2 HB GE332 GE341⟩⟩
          ·rw [if_neg c22] at H
           exact absurd H (by simp)
         ·rw [if_neg c21] at H
          exact absurd H (by simp)
        ·rw [if_neg c20] at H
         exact absurd H (by simp)
       ·rw [if_neg c19] at H
        exact absurd H (by simp)
      ·rw [if_neg c18] at H
       have c18b0 : decide (x29_1 < (t337.length : Int)) = false := decide_eq_false c18
       clear c18
       have H' := Aside0.mk H
       clear H
       obtain ⟨Ao32, co32, eo32⟩ := Kd.R_slice HO_9.out
       subst eo32
       go_wp2
       repeat (go_quiet (fail); try go_wp2)
       go_loopg [12, 43] k1 (fun kq v12 v43 w' => ∃ (x12_2 : Int) (x43_2 : Int), v12 = .int .i64 x12_2 ∧ v43 = .int .i64 x43_2 ∧ Aside0 (impl_WorstStack.l1 kq x9_1 x12_2 x9_1 (x9_1.length : Int) x43_2 = some (r1, r2, r3)) ∧ Aside0 (kq ≤ k1) ∧ Aside0 (Kd.R (Kd.int .i64) 3 w' w.heap.size (fun _ => True) (.slice Ao32 x9_1.length co32) x9_1) ∧ Aside0 (Kd.R (Kd.int .i64) 3 w' w.heap.size (fun _ => True) (.slice Ao32 x9_1.length co32) x9_1) ∧ Aside0 (w'.heap[gb332]? = some (.cells #[(.slice A0_0 l0_0.length c0_0)] 30 (0, 0))) ∧ Aside0 (Below w.heap.size w w'))
       case atStart => exact ⟨(0), (0), (by first | rfl | (simp; done) | (simp [*]; done)), (by first | rfl | (simp; done) | (simp [*]; done)), H', ⟨Nat.le_refl _⟩, ⟨rdl HO_9⟩, ⟨rdl HO_9⟩, ⟨bkl BK332⟩, ⟨bel1 HB GE332⟩⟩
       case round =>
        clear H'
        try clear c1
        try clear c2
        try clear p2
        try clear q2
        try clear hx2
        try clear p3
        try clear q3
        try clear hx3
        try clear c5
        try clear c6
        try clear c6b0
        try clear c6b1
        try clear p6
        try clear c7
        try clear c7b0
        try clear c7b1
        try clear c18
        try clear c18b0
        try clear c19
        try clear c19b0
        try clear c20
        try clear c20b0
        try clear c21
        try clear c21b0
        try clear c22
        try clear c22b0
        try clear p23
        try clear q23
        try clear hx23
        try clear hf23
        try clear c25
        try clear hcz10_0
        try clear hcz12_0
        try clear hcz15_0
        try clear hcz26_0
        try clear hcz26_1
        try clear hcz26_2
        try clear hcz28_0
        try clear hcz28_1
        try clear hcz28_2
        try clear hfz10_0
        try clear hfz12_0
        try clear hfz15_0
        try clear hfz26_0
        try clear hfz26_1
        try clear hfz26_2
        try clear hfz28_0
        try clear hfz28_1
        try clear hfz28_2
        try clear hx23_0
        try clear hx340_0
        try clear hx340_1
        try clear hx340_2
        try clear hx342_0
        try clear p2
        try clear p23
        try clear p340
        try clear p342
        try clear q23
        try clear q340
        try clear q342
        obtain ⟨x12_2, x43_2, rfl, rfl, HA, HK2, HO_9, HO_41, BK332, HB⟩ := hrel
        cases gk with
        | zero => exact absurd HA.out (by simp [impl_WorstStack.l1])
        | succ k2 =>
         have H := HA.out
         clear HA
         simp only [impl_WorstStack.l1] at H
         by_cases c33 : x43_2 < (x9_1.length : Int)
         ·rw [if_pos c33] at H
          have c33b0 : decide (x43_2 < (x9_1.length : Int)) = true := decide_eq_true c33
          clear c33
          by_cases c34 : 0 ≤ x43_2
          ·rw [if_pos c34] at H
           have c34b0 : decide (0 ≤ x43_2) = true := decide_eq_true c34
           clear c34
           by_cases c35 : x43_2 < (x9_1.length : Int)
           ·rw [if_pos c35] at H
            have c35b0 : decide (x43_2 < (x9_1.length : Int)) = true := decide_eq_true c35
            clear c35
            by_cases c36 : 0 ≤ x12_2
            ·rw [if_pos c36] at H
             have c36b0 : decide (0 ≤ x12_2) = true := decide_eq_true c36
             clear c36
             by_cases c37 : x12_2 < (x9_1.length : Int)
             ·rw [if_pos c37] at H
              have c37b0 : decide (x12_2 < (x9_1.length : Int)) = true := decide_eq_true c37
              clear c37
              by_cases c38 : (rd x9_1 x43_2) > (rd x9_1 x12_2)
              ·rw [if_pos c38] at H
               have c38b0 : decide ((rd x9_1 x12_2) < (rd x9_1 x43_2)) = true := decide_eq_true c38
               clear c38
               have H' := Aside0.mk H
               clear H
               have p344 : 0 ≤ (x43_2 : Int) := oda
               have q344 : x43_2 < (x9_1.length : Int) := oda
               obtain ⟨ad344, e344, hx344_0⟩ := Kd.at_int (Kd.R_reads' HO_41.out).2.2 x43_2 p344 q344
               cases e344
               replace p344 := eq_true p344
               replace q344 := eq_true q344
               have p345 : 0 ≤ (x12_2 : Int) := oda
               have q345 : x12_2 < (x9_1.length : Int) := oda
               obtain ⟨ad345, e345, hx345_0⟩ := Kd.at_int (Kd.R_reads' HO_9.out).2.2 x12_2 p345 q345
               obtain rfl : ad344 = ad345 := (by injection e345)
               replace p345 := eq_true p345
               replace q345 := eq_true q345
               go_wp2
               repeat (go_quiet (fail); try go_wp2)
               go_roundg k2
               case measure => have := HK1.out; have := HK2.out; omega
               case rel => exact ⟨(x43_2), (wrap64 (x43_2 + 1)), (by first | rfl | (simp; done) | (simp [*]; done)), (by first | rfl | (simp; done) | (simp [*]; done)), H', ⟨by have := HK1.out; have := HK2.out; omega⟩, ⟨rdl HO_9⟩, ⟨rdl HO_41⟩, ⟨bkl BK332⟩, ⟨bel1 HB GE332⟩⟩
              ·rw [if_neg c38] at H
               have c38b0 : decide ((rd x9_1 x12_2) < (rd x9_1 x43_2)) = false := decide_eq_false c38
               clear c38
               have H' := Aside0.mk H
               clear H
               have p344 : 0 ≤ (x43_2 : Int) := oda
               have q344 : x43_2 < (x9_1.length : Int) := oda
               obtain ⟨ad344, e344, hx344_0⟩ := Kd.at_int (Kd.R_reads' HO_41.out).2.2 x43_2 p344 q344
               cases e344
               replace p344 := eq_true p344
               replace q344 := eq_true q344
               have p345 : 0 ≤ (x12_2 : Int) := oda
               have q345 : x12_2 < (x9_1.length : Int) := oda
               obtain ⟨ad345, e345, hx345_0⟩ := Kd.at_int (Kd.R_reads' HO_9.out).2.2 x12_2 p345 q345
               obtain rfl : ad344 = ad345 := (by injection e345)
               replace p345 := eq_true p345
               replace q345 := eq_true q345
               go_wp2
               repeat (go_quiet (fail); try go_wp2)
               go_roundg k2
               case measure => have := HK1.out; have := HK2.out; omega
               case rel => exact ⟨(x12_2), (wrap64 (x43_2 + 1)), (by first | rfl | (simp; done) | (simp [*]; done)), (by first | rfl | (simp; done) | (simp [*]; done)), H', ⟨by have := HK1.out; have := HK2.out; omega⟩, ⟨rdl HO_9⟩, ⟨rdl HO_41⟩, ⟨bkl BK332⟩, ⟨bel1 HB GE332⟩⟩
             ·rw [if_neg c37] at H
              exact absurd H (by simp)
            ·rw [if_neg c36] at H
             exact absurd H (by simp)
           ·rw [if_neg c35] at H
            exact absurd H (by simp)
          ·rw [if_neg c34] at H
           exact absurd H (by simp)
         ·rw [if_neg c33] at H
          have c33b0 : decide (x43_2 < (x9_1.length : Int)) = false := decide_eq_false c33
          clear c33
          by_cases c39 : 0 ≤ x12_2
          ·rw [if_pos c39] at H
           have c39b0 : decide (0 ≤ x12_2) = true := decide_eq_true c39
           clear c39
           by_cases c40 : x12_2 < (x9_1.length : Int)
           ·rw [if_pos c40] at H
            have c40b0 : decide (x12_2 < (x9_1.length : Int)) = true := decide_eq_true c40
            clear c40
            simp only [Option.some.injEq, Prod.mk.injEq] at H
            obtain ⟨rfl, rfl, rfl⟩ := H
            have p346 : 0 ≤ (x12_2 : Int) := oda
            have q346 : x12_2 < (x9_1.length : Int) := oda
            obtain ⟨ad346, e346, hx346_0⟩ := Kd.at_int (Kd.R_reads' HO_9.out).2.2 x12_2 p346 q346
            cases e346
            replace p346 := eq_true p346
            replace q346 := eq_true q346
            go_wp2
            repeat (go_quiet (fail); try go_wp2)
            go_ret3
            exact ⟨by first | rfl | (simp [errW_none, errW_some] <;> rfl) | (simp [*, errW_none, errW_some] <;> rfl), bel1 HB GE332⟩
           ·rw [if_neg c40] at H
            exact absurd H (by simp)
          ·rw [if_neg c39] at H
           exact absurd H (by simp)
   ·rw [if_neg c7] at H
    exact absurd H (by simp)
  ·rw [if_neg c6] at H
   exact absurd H (by simp)
 ·replace c5 := Bool.eq_false_iff.mpr c5
  subst c5
  have H1 : (some (0, 0, false)) = some (r1, r2, r3) := by rw [if_neg (show ¬ (false = true) by decide)] at H; exact H
  clear H
  have H := H1
  clear H1
  simp only [Option.some.injEq, Prod.mk.injEq] at H
  obtain ⟨rfl, rfl, rfl⟩ := H
  go_enter Try.func19, Try.ntmps19
  go_wp2_with (first | ((with_reducible refine gate_dst (N := 3) rfl ?_); refine box_event ?hg (N := 3) ?hd (cs := #[.slice A0_0 l0_0.length c0_0]) (t := 30) ?hr ?_; (case hd => rfl); (case hg => rfl); (case hr => first | (go_simp; done) | (go_simp; rfl)); intro gb332 hg w41 hbox hb; have n0_ := Aside0.mk (below_step (bel HB) hb); have n1_ := Aside0.mk (hbox); have n2_ := Aside0.mk ((by rw [hg]; exact (below_size (bel HB)) : w.heap.size ≤ gb332)); have n3_ := Aside0.mk ((by rw [hg]; exact (below_size (bel HB)) : w.heap.size ≤ gb332)); clear HB; have HB := n0_; have BK332 := n1_; have GW332 := n2_; have GE332 := n3_; clear n0_ n1_ n2_ n3_; clear hb hbox hg; have hcz42_0 : w41.cell? ⟨gb332, 0, none⟩ = some (.slice A0_0 l0_0.length c0_0) := (blk_cell BK332.out 0).trans rfl; have hfz42_0 := blk_frozen BK332.out 0) | (go_at_call 50; (with_reducible refine (impl_areYard.calls k _ _ l0_0 _ _ l1 a2 false _ ?side1 ?side2 ?side3 ?side4 A4.out).mono ?_); (case side1 => exact cdl (Kd.C_below HR0_0.out HB.out)); (case side2 => exact HC0_0.out); (case side3 => exact cdl (Kd.C_below HR1.out HB.out)); (case side4 => exact HC1.out); rintro e w43 ⟨rfl, hb⟩; have n0_ := Aside0.mk (blk_below (g := gb332) (o := .cells #[.slice A0_0 l0_0.length c0_0] 30 (0, 0)) (bkl BK332) hb); have n1_ := Aside0.mk (below_step (bel1 HB GE332) hb); clear BK332; clear HB; have BK332 := n0_; have HB := n1_; clear n0_ n1_; (try clear hb); (try clear hb2); (try clear hk); (try clear hi)))
  repeat (go_quiet (first | ((with_reducible refine gate_dst (N := 3) rfl ?_); refine box_event ?hg (N := 3) ?hd (cs := #[.slice A0_0 l0_0.length c0_0]) (t := 30) ?hr ?_; (case hd => rfl); (case hg => rfl); (case hr => first | (go_simp; done) | (go_simp; rfl)); intro gb332 hg w41 hbox hb; have n0_ := Aside0.mk (below_step (bel HB) hb); have n1_ := Aside0.mk (hbox); have n2_ := Aside0.mk ((by rw [hg]; exact (below_size (bel HB)) : w.heap.size ≤ gb332)); have n3_ := Aside0.mk ((by rw [hg]; exact (below_size (bel HB)) : w.heap.size ≤ gb332)); clear HB; have HB := n0_; have BK332 := n1_; have GW332 := n2_; have GE332 := n3_; clear n0_ n1_ n2_ n3_; clear hb hbox hg; have hcz42_0 : w41.cell? ⟨gb332, 0, none⟩ = some (.slice A0_0 l0_0.length c0_0) := (blk_cell BK332.out 0).trans rfl; have hfz42_0 := blk_frozen BK332.out 0) | (go_at_call 50; (with_reducible refine (impl_areYard.calls k _ _ l0_0 _ _ l1 a2 false _ ?side1 ?side2 ?side3 ?side4 A4.out).mono ?_); (case side1 => exact cdl (Kd.C_below HR0_0.out HB.out)); (case side2 => exact HC0_0.out); (case side3 => exact cdl (Kd.C_below HR1.out HB.out)); (case side4 => exact HC1.out); rintro e w43 ⟨rfl, hb⟩; have n0_ := Aside0.mk (blk_below (g := gb332) (o := .cells #[.slice A0_0 l0_0.length c0_0] 30 (0, 0)) (bkl BK332) hb); have n1_ := Aside0.mk (below_step (bel1 HB GE332) hb); clear BK332; clear HB; have BK332 := n0_; have HB := n1_; clear n0_ n1_; (try clear hb); (try clear hb2); (try clear hk); (try clear hi))); try go_wp2_with (first | ((with_reducible refine gate_dst (N := 3) rfl ?_); refine box_event ?hg (N := 3) ?hd (cs := #[.slice A0_0 l0_0.length c0_0]) (t := 30) ?hr ?_; (case hd => rfl); (case hg => rfl); (case hr => first | (go_simp; done) | (go_simp; rfl)); intro gb332 hg w41 hbox hb; have n0_ := Aside0.mk (below_step (bel HB) hb); have n1_ := Aside0.mk (hbox); have n2_ := Aside0.mk ((by rw [hg]; exact (below_size (bel HB)) : w.heap.size ≤ gb332)); have n3_ := Aside0.mk ((by rw [hg]; exact (below_size (bel HB)) : w.heap.size ≤ gb332)); clear HB; have HB := n0_; have BK332 := n1_; have GW332 := n2_; have GE332 := n3_; clear n0_ n1_ n2_ n3_; clear hb hbox hg; have hcz42_0 : w41.cell? ⟨gb332, 0, none⟩ = some (.slice A0_0 l0_0.length c0_0) := (blk_cell BK332.out 0).trans rfl; have hfz42_0 := blk_frozen BK332.out 0) | (go_at_call 50; (with_reducible refine (impl_areYard.calls k _ _ l0_0 _ _ l1 a2 false _ ?side1 ?side2 ?side3 ?side4 A4.out).mono ?_); (case side1 => exact cdl (Kd.C_below HR0_0.out HB.out)); (case side2 => exact HC0_0.out); (case side3 => exact cdl (Kd.C_below HR1.out HB.out)); (case side4 => exact HC1.out); rintro e w43 ⟨rfl, hb⟩; have n0_ := Aside0.mk (blk_below (g := gb332) (o := .cells #[.slice A0_0 l0_0.length c0_0] 30 (0, 0)) (bkl BK332) hb); have n1_ := Aside0.mk (below_step (bel1 HB GE332) hb); clear BK332; clear HB; have BK332 := n0_; have HB := n1_; clear n0_ n1_; (try clear hb); (try clear hb2); (try clear hk); (try clear hi))))
  go_ret3
  exact ⟨by first | rfl | (simp [errW_none, errW_some] <;> rfl) | (simp [*, errW_none, errW_some] <;> rfl), bel1 HB GE332⟩

end Go.Proofs.Ytmpmcckjpkijnaa.P
