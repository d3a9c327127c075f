-- Written by a program of this session over the translation (a variant of the printer, see wip/gen); Lean checks it.
import Derived.Test.YtmmkpaoibekmjaaPx0
import Derived.Test.YtmmkpaoibekmjaaPx5
namespace Go.Proofs.Ytmmkpaoibekmjaa.P
open Go.RowKit Go.Proofs.YtmmkpaoibekmjaaW.PrintWords Go.Proofs.YtmmkpaoibekmjaaW.PrintLast Go.Proofs.YtmmkpaoibekmjaaW.PrintMore
attribute [local go_sem] Go.Proofs.Ytmmkpaoibekmjaa.V.isSome_setCell max2_int min2_int max_two min_two max_three min_three max_four min_four
set_option linter.unusedVariables false
set_option linter.unusedSimpArgs false
/-! ### spec_l8Best: function 16 -/
mutual
def spec_l8Best.l0 : Nat → List Int → List Int → Int → List Int → Int → Int → List (List Int) → Option (List Int × Int)
 | 0, _, _, _, _, _, _, _ => none
 | k + 1, x1, x2, x8, x9, x10, x11, x219000 => if x11 < (x219000.length : Int) then (if 0 ≤ x11 then (if ((rd_L1 x219000 x11).length : Int) = 4 then (spec_l8Best.l0 k x1 x2 x8 x9 x10 (wrap64 (x11 + 1)) x219000) else ((spec_l5Own.f k x219000).bind fun t226 => (if x11 < (t226.length : Int) then (if 0 ≤ x8 then (if x8 < (x1.length : Int) then (if (rd_L1 t226 x11).length < 17592186044416 then ((spec_l1Own.f x2).bind fun t236 => ((some (([x11] : List Int) : List Int)).bind fun y239 => (if t236.length + y239.length < 17592186044416 then ((spec_l8Best.f k (t226.set (x11 : Int).toNat ((rd_L1 t226 x11) ++ [rd x1 x8])) x1 (t236 ++ y239)).bind fun bt245 => (if bt245.2 ≥ 0 then (if x10 < 0 then (spec_l8Best.l0 k x1 x2 x8 bt245.1 bt245.2 (wrap64 (x11 + 1)) x219000) else (if bt245.2 < x10 then (spec_l8Best.l0 k x1 x2 x8 bt245.1 bt245.2 (wrap64 (x11 + 1)) x219000) else (spec_l8Best.l0 k x1 x2 x8 x9 x10 (wrap64 (x11 + 1)) x219000))) else (spec_l8Best.l0 k x1 x2 x8 x9 x10 (wrap64 (x11 + 1)) x219000))) else (none)))) else (none)) else (none)) else (none)) else (none)))) else (none)) else (some (x9, x10))
def spec_l8Best.f : Nat → List (List Int) → List Int → List Int → Option (List Int × Int)
 | 0, _, _, _ => none
 | k + 1, l0_0, l1, l2 => if (l2.length : Int) = (l1.length : Int) then ((spec_l8Bad.f k l0_0).bind fun t219 => (some (l2, (t219.length : Int)))) else (spec_l8Best.l0 k l1 l2 (l2.length : Int) (([] : List Int)) (-1) 0 l0_0)
end
theorem spec_l8Best.mono_l : ∀ k, (∀ y0 y1 y2, LeO (spec_l8Best.f k y0 y1 y2) (spec_l8Best.f (k + 1) y0 y1 y2)) ∧ (∀ y0 y1 y2 y3 y4 y5 y6, LeO (spec_l8Best.l0 k y0 y1 y2 y3 y4 y5 y6) (spec_l8Best.l0 (k + 1) y0 y1 y2 y3 y4 y5 y6))
 | 0 => ⟨fun _ _ _ r h => by simp [spec_l8Best.f] at h, fun _ _ _ _ _ _ _ r h => by simp [spec_l8Best.l0] at h⟩
 | k + 1 => by
  obtain ⟨ih0, ih1⟩ := spec_l8Best.mono_l k
  refine ⟨?_, ?_⟩
  ·intro y0 y1 y2
   unfold spec_l8Best.f
   repeat' first
   | (with_reducible exact ih0 _ _ _)
   | (with_reducible exact ih1 _ _ _ _ _ _ _)
   | (with_reducible exact spec_l5Own.mono _ _)
   | (with_reducible exact spec_l8Bad.mono _ _)
   | (with_reducible exact LeO.refl _)
   | (with_reducible exact LeO.none _)
   | (with_reducible refine LeO.ite ?_ ?_)
   | (with_reducible refine LeO.bind ?_ (fun _ => ?_))
   | exact ih0 _ _ _
   | exact ih1 _ _ _ _ _ _ _
   | exact spec_l5Own.mono _ _
   | exact spec_l8Bad.mono _ _
   | exact LeO.none _
   | refine LeO.ite ?_ ?_
   | refine LeO.bind ?_ (fun _ => ?_)
  ·intro y0 y1 y2 y3 y4 y5 y6
   unfold spec_l8Best.l0
   repeat' first
   | (with_reducible exact ih0 _ _ _)
   | (with_reducible exact ih1 _ _ _ _ _ _ _)
   | (with_reducible exact spec_l5Own.mono _ _)
   | (with_reducible exact spec_l8Bad.mono _ _)
   | (with_reducible exact LeO.refl _)
   | (with_reducible exact LeO.none _)
   | (with_reducible refine LeO.ite ?_ ?_)
   | (with_reducible refine LeO.bind ?_ (fun _ => ?_))
   | exact ih0 _ _ _
   | exact ih1 _ _ _ _ _ _ _
   | exact spec_l5Own.mono _ _
   | exact spec_l8Bad.mono _ _
   | exact LeO.none _
   | refine LeO.ite ?_ ?_
   | refine LeO.bind ?_ (fun _ => ?_)
theorem spec_l8Best.mono : ∀ a0 a1 a2 k, LeO (spec_l8Best.f k a0 a1 a2) (spec_l8Best.f (k + 1) a0 a1 a2) := by
 intro a0 a1 a2 k
 obtain ⟨ih0, ih1⟩ := spec_l8Best.mono_l k
 exact ih0 a0 a1 a2
def spec_l8Best.T10 : Bool × List (List Nat × List Nat) := (true, [([], []), ([0], [0]), ([], []), ([], []), ([3], [3]), ([], []), ([4, 5], [4, 5]), ([6], [6]), ([], []), ([], []), ([8, 9], [8, 9]), ([10], [10]), ([11], [11]), ([7, 12], [7, 12]), ([1, 2, 0, 1, 2, 3, 4, 5, 6, 7, 8, 9, 10, 11, 12, 13], [1, 2]), ([14, 13, 13, 0, 1, 2, 3, 4, 5, 6, 7, 8, 9, 10, 11, 12, 13], [13, 14])])
def spec_l8Best.B10 : List Nat := [0, 1, 0, 0, 8, 0, 56, 120, 0, 0, 768, 1792, 3840, 8184, 16383, 32767]
theorem spec_l8Best.tab10 : rtab .any (opsOf Try.f16 10) = spec_l8Best.T10 := by kernel_rfl
theorem spec_l8Best.bits10 : waitsOk spec_l8Best.T10.2 spec_l8Best.B10 = true := by kernel_rfl
def spec_l8Best.T11 : Bool × List (List Nat × List Nat) := (true, [([], []), ([], []), ([], []), ([2], [2]), ([], []), ([4], [4]), ([3, 5, 3], [3, 5]), ([0, 1, 6, 6], [0, 1, 6]), ([7], [7]), ([8], [8]), ([8], [8]), ([9, 7, 0, 1, 2, 3, 4, 5, 6, 7, 8, 9], [9]), ([10, 11, 0, 1, 2, 3, 4, 5, 6, 7, 8, 9, 10, 11], [10])])
def spec_l8Best.B11 : List Nat := [0, 0, 0, 4, 0, 16, 60, 127, 255, 511, 511, 1023, 4095]
theorem spec_l8Best.tab11 : rtab .any (opsOf Try.f16 11) = spec_l8Best.T11 := by kernel_rfl
theorem spec_l8Best.bits11 : waitsOk spec_l8Best.T11.2 spec_l8Best.B11 = true := by kernel_rfl
set_option maxHeartbeats 8000000 in
set_option maxRecDepth 100000 in
theorem spec_l8Best.calls (k : Nat) : ∀ (A0_0 : Option Addr) (c0_0 : Nat) (l0_0 : List (List Int)) (A1 : Option Addr) (c1 : Nat) (l1 : List Int) (P2_ : Nat → Prop) (u9000_ : Value) (l2 : List Int) (r1 : List Int) (r2 : Int) (w0 w : World) (hB : Below w0.heap.size w0 w) (hr0_0 : ∀ W_, Kept w W_ (fun k_ => P2_ k_) → Kd.C (Kd.slice 3 (Kd.int .i64)) W_ A0_0 l0_0.length l0_0) (hc0_0 : l0_0.length ≤ c0_0) (hr1 : ∀ W_, Kept w W_ (fun k_ => P2_ k_) → Kd.C (Kd.int .i64) W_ A1 l1.length l1) (hc1 : l1.length ≤ c1) (ho2 : Kd.R (Kd.int .i64) 3 w w0.heap.size P2_ u9000_ l2) (h : spec_l8Best.f k l0_0 l1 l2 = some (r1, r2)),
  Calls Try.prog 16 #[.agg #[.slice A0_0 l0_0.length c0_0], .slice A1 l1.length c1, u9000_] w fun e w' => ∃ v0_ : Value, e = .returned (.tuple #[v0_, .int .i64 r2]) ∧ Kd.R (Kd.int .i64) 3 w' w0.heap.size (fun k_ => (P2_ k_ ∨ w.heap.size ≤ k_)) v0_ r1 ∧ Below w0.heap.size w0 w' ∧ Kept w w' (fun k_ => P2_ k_) := by
 induction k using Nat.strongRecOn with
 | _ k ih =>
 intro A0_0 c0_0 l0_0 A1 c1 l1 P2_ u9000_ l2 r1 r2 w0 w hB hr0_0 hc0_0 hr1 hc1 ho2 h
 cases k with
 | zero => exact absurd h (by simp [spec_l8Best.f])
 | succ k =>
 simp only [spec_l8Best.f] at h
 have hu29 := Try.underlying29
 have HR0_0 := Aside0.mk hr0_0
 have HC0_0 := Aside0.mk hc0_0
 clear hr0_0 hc0_0
 have HR1 := Aside0.mk hr1
 have HC1 := Aside0.mk hc1
 clear hr1 hc1
 have HO2 := Aside0.mk (show Kd.R (Kd.int .i64) 3 w w0.heap.size (fun k_ => (P2_ k_ ∨ w.heap.size ≤ k_)) u9000_ l2 from Kd.R_mono ho2 (fun k_ hk => (.inl hk)))
 have HK := Aside0.mk (Kept.refl w (fun k_ => P2_ k_))
 have HW0 := Aside0.mk hB.size
 have HB := Aside0.mk hB
 clear hB
 have H : (if (l2.length : Int) = (l1.length : Int) then ((spec_l8Bad.f k l0_0).bind fun t219 => (some (l2, (t219.length : Int)))) else (spec_l8Best.l0 k l1 l2 (l2.length : Int) (([] : List Int)) (-1) 0 l0_0)) = some (r1, r2) := h
 clear h
 by_cases c4 : (l2.length : Int) = (l1.length : Int)
 ·rw [if_pos c4] at H
  have c4b0 : ((l2.length : Int) == (l1.length : Int)) = true := beq_iff_eq.mpr c4
  have c4b1 : ((l2.length : Int) != (l1.length : Int)) = false := bne_eq_false_iff_eq.mpr c4
  have c4b2 : (l2.length == l1.length) = true := by first | simpa using c4 | (simp at c4 ⊢; omega)
  clear c4
  replace H := Option.bind_eq_some_iff.mp H
  obtain ⟨t219, A50, H⟩ := H
  replace H : (some (l2, (t219.length : Int))) = some (r1, r2) := H
  have A5 := Aside0.mk A50
  clear A50
  simp only [Option.some.injEq, Prod.mk.injEq] at H
  obtain ⟨rfl, rfl⟩ := H
  go_enter Try.func16, Try.ntmps16
  go_wp2_with (first | ((with_reducible refine gate_dst (N := 3) rfl ?_); refine box_event ?hg (N := 3) ?hd (cs := #[.slice A0_0 l0_0.length c0_0]) (t := 29) ?hr ?_; (case hd => rfl); (case hg => rfl); (case hr => first | (go_simp; done) | (go_simp; rfl)); intro gb218 hg w6 hbox hb; have n0_ := Aside0.mk (Kd.R_below (rdl HO2) hb); have n1_ := Aside0.mk (Kept.below (S := (fun k_ => P2_ k_)) (by repeat (first | (with_reducible first | exact HK.out | apply Kept.alloc | apply Kept.drewN | apply Kept.drew) | exact HK.out)) hb); have n2_ := Aside0.mk (below_step (bel HB) hb); have n3_ := Aside0.mk (hbox); have n4_ := Aside0.mk ((by rw [hg]; exact (by first | exact HK.out.1 | exact (show Kept w _ (fun k_ => P2_ k_) from by repeat (first | (with_reducible first | exact HK.out | apply Kept.alloc | apply Kept.drewN | apply Kept.drew) | exact HK.out)).1) : w.heap.size ≤ gb218)); have n5_ := Aside0.mk ((by rw [hg]; exact (below_size (bel HB)) : w0.heap.size ≤ gb218)); clear HO2; clear HK; clear HB; have HO2 := n0_; have HK := n1_; have HB := n2_; have BK218 := n3_; have GW218 := n4_; have GE218 := n5_; clear n0_ n1_ n2_ n3_ n4_ n5_; clear hb hbox hg; obtain ⟨Ao7, co7, eo7⟩ := Kd.R_slice HO2.out; subst eo7; have hcz8_0 : w6.cell? ⟨gb218, 0, none⟩ = some (.slice A0_0 l0_0.length c0_0) := (blk_cell BK218.out 0).trans rfl; have hfz8_0 := blk_frozen BK218.out 0) | ((with_reducible refine gate_callee (f := 28) rfl ?_); refine goesL_ (some 23) rfl rfl Try.func28 (by kernel_rfl) rfl #[.agg #[.slice A0_0 l0_0.length c0_0]] rfl gmp ?_; (with_reducible refine (spec_l8Bad.calls k _ _ l0_0 t219 _ ?side1 ?side2 A5.out).mono ?_); (case side1 => exact Kd.C_kept_now HR0_0.out (by repeat (first | (with_reducible first | exact HK.out | apply Kept.alloc | apply Kept.drewN | apply Kept.drew | refine Kept.setCell ?_ (.inr GW218.out) _) | exact HK.out))); (case side2 => exact HC0_0.out); rintro e w9 ⟨v220, rfl, ho0, hb⟩; refine ⟨_, rfl, ?_⟩; have n0_ := Aside0.mk (Kd.R_below (rdl HO2) hb); have n1_ := Aside0.mk (Kd.V_lower (Kd.V_mono (ok' := fun k_ => (P2_ k_ ∨ w.heap.size ≤ k_) ∧ some k_ ≠ (.slice Ao7 l2.length co7 : Value).ownBlock ∧ k_ ≠ gb218) ho0 (fun k_ hk_ => ⟨(.inr (Nat.le_trans (by first | exact HK.out.1 | exact (show Kept w _ (fun k_ => P2_ k_) from by repeat (first | (with_reducible first | exact HK.out | apply Kept.alloc | apply Kept.drewN | apply Kept.drew | refine Kept.setCell ?_ (.inr GW218.out) _) | exact HK.out)).1) hk_)), (Kd.fresh' (Kd.R_lt (rdl HO2)) k_ hk_), (Kd.freshB (g := gb218) (o := .cells #[.slice A0_0 l0_0.length c0_0] 29 (0, 0)) (bkl BK218) k_ hk_)⟩)) (below_size (bel1 HB GE218))); have n2_ := Aside0.mk (blk_below (g := gb218) (o := .cells #[.slice A0_0 l0_0.length c0_0] 29 (0, 0)) (bkl BK218) hb); have n3_ := Aside0.mk (Kept.below (S := (fun k_ => P2_ k_)) (by repeat (first | (with_reducible first | exact HK.out | apply Kept.alloc | apply Kept.drewN | apply Kept.drew | refine Kept.setCell ?_ (.inr GW218.out) _) | exact HK.out)) hb); have n4_ := Aside0.mk (below_step (bel1 HB GE218) hb); clear HO2; clear BK218; clear HK; clear HB; have HO2 := n0_; have HO221 := n1_; have BK218 := n2_; have HK := n3_; have HB := n4_; clear n0_ n1_ n2_ n3_ n4_; (try clear hb); (try clear hb2); (try clear hk); (try clear hi); (try clear ho0); obtain ⟨Ao10, co10, eo10⟩ := Kd.V_slice HO221.out; subst eo10))
  go_ret2
  exact ⟨_, by first | rfl | (simp [errW_none, errW_some] <;> rfl) | (simp [*, errW_none, errW_some] <;> rfl), rdl HO2, bel1 HB GE218, by repeat (first | (with_reducible first | exact HK.out | apply Kept.alloc | apply Kept.drewN | apply Kept.drew | refine Kept.setCell ?_ (.inr GW218.out) _) | exact HK.out)⟩
 rw [if_neg c4] at H
 have c4b0 : ((l2.length : Int) == (l1.length : Int)) = false := beq_eq_false_iff_ne.mpr c4
 have c4b1 : ((l2.length : Int) != (l1.length : Int)) = true := bne_iff_ne.mpr c4
 have c4b2 : (l2.length == l1.length) = false := by first | simpa using c4 | (simp at c4 ⊢; omega)
 obtain ⟨y222, hy222⟩ : ∃ y_ : List Int, y_ = (([] : List Int)) := ⟨_, rfl⟩
 replace H : (spec_l8Best.l0 k l1 l2 (l2.length : Int) y222 (-1) 0 l0_0) = some (r1, r2) := by first | (rw [hy222]; with_reducible exact H) | (have H2_ := (Option.bind_some _ _).symm.trans H; rw [hy222]; with_reducible exact H2_) | (have H2_ := (Option.bind_some _ _).symm.trans H; with_reducible exact H2_) | with_reducible exact H | (rw [hy222]; exact H) | exact H
 have Ny222 := Aside0.mk hy222
 clear hy222
 have H' := Aside0.mk H
 clear H
 go_enter Try.func16, Try.ntmps16
 go_wp2_with (first | ((with_reducible refine gate_dst (N := 3) rfl ?_); refine box_event ?hg (N := 3) ?hd (cs := #[.slice A0_0 l0_0.length c0_0]) (t := 29) ?hr ?_; (case hd => rfl); (case hg => rfl); (case hr => first | (go_simp; done) | (go_simp; rfl)); intro gb218 hg w11 hbox hb; have n0_ := Aside0.mk (Kd.R_below (rdl HO2) hb); have n1_ := Aside0.mk (Kept.below (S := (fun k_ => P2_ k_)) (by repeat (first | (with_reducible first | exact HK.out | apply Kept.alloc | apply Kept.drewN | apply Kept.drew) | exact HK.out)) hb); have n2_ := Aside0.mk (below_step (bel HB) hb); have n3_ := Aside0.mk (hbox); have n4_ := Aside0.mk ((by rw [hg]; exact (by first | exact HK.out.1 | exact (show Kept w _ (fun k_ => P2_ k_) from by repeat (first | (with_reducible first | exact HK.out | apply Kept.alloc | apply Kept.drewN | apply Kept.drew) | exact HK.out)).1) : w.heap.size ≤ gb218)); have n5_ := Aside0.mk ((by rw [hg]; exact (below_size (bel HB)) : w0.heap.size ≤ gb218)); clear HO2; clear HK; clear HB; have HO2 := n0_; have HK := n1_; have HB := n2_; have BK218 := n3_; have GW218 := n4_; have GE218 := n5_; clear n0_ n1_ n2_ n3_ n4_ n5_; clear hb hbox hg; obtain ⟨Ao12, co12, eo12⟩ := Kd.R_slice HO2.out; subst eo12) | ((with_reducible refine gate_dst (N := 25) rfl ?_); refine Kd.R_lit (Kd.int .i64) _ 3 ?hg (N := 25) ?hd (xs := ([] : List Int)) (inner := []) (ok := fun _ => True) (okp := fun _ => True) ?hr ?hp (fun _ hk => hk) trivial (Below.refl _ _) (Nat.le_refl _) (by simp) ?_; (case hd => rfl); (case hg => rfl); (case hr => first | (go_simp; done) | (go_simp; rfl)); (case hp => exact (Reps.none _ _)); intro v223 w13 ho14 hb hg_ hnew_; clear hg_ hnew_; (first | rw [← Ny222.out] at ho14 | (simp only [Int.reduceToNat] at ho14; rw [← Ny222.out] at ho14)); have n0_ := Aside0.mk (Kd.R_elder' (rdl HO2) (Kd.R_base ho14) hb); have n1_ := Aside0.mk (Kd.R_lower (Kd.R_new' (Kd.R_newM (M := fun k_ => (P2_ k_ ∨ w.heap.size ≤ k_)) ho14 (by first | exact HK.out.1 | exact (show Kept w _ (fun k_ => P2_ k_) from by repeat (first | (with_reducible first | exact HK.out | apply Kept.alloc | apply Kept.drewN | apply Kept.drew | refine Kept.setCell ?_ (.inr GW218.out) _) | exact HK.out)).1) (fun k_ h_ => .inr h_)) (Kd.R_lt (rdl HO2))) (below_size (bel1 HB GE218))); have n2_ := Aside0.mk (blk_below (g := gb218) (o := .cells #[.slice A0_0 l0_0.length c0_0] 29 (0, 0)) (bkl BK218) hb); have n3_ := Aside0.mk (Kept.below (S := (fun k_ => P2_ k_)) (by repeat (first | (with_reducible first | exact HK.out | apply Kept.alloc | apply Kept.drewN | apply Kept.drew | refine Kept.setCell ?_ (.inr GW218.out) _) | exact HK.out)) hb); have n4_ := Aside0.mk (below_step (bel1 HB GE218) hb); clear HO2; clear BK218; clear HK; clear HB; have HO2 := n0_; have HO224 := n1_; have BK218 := n2_; have HK := n3_; have HB := n4_; clear n0_ n1_ n2_ n3_ n4_; clear hb ho14))
 go_loopg [9, 10, 11] k (fun kq v9 v10 v11 w' => ∃ (x9_1 : List Int) (x10_1 : Int) (x11_1 : Int), v10 = .int .i64 x10_1 ∧ v11 = .int .i64 x11_1 ∧ Aside0 (spec_l8Best.l0 kq l1 l2 (l2.length : Int) x9_1 x10_1 x11_1 l0_0 = some (r1, r2)) ∧ Aside0 (kq ≤ k) ∧ Aside0 (Kd.R (Kd.int .i64) 3 w' w0.heap.size (fun k_ => (P2_ k_ ∨ w.heap.size ≤ k_) ∧ some k_ ≠ (v9 : Value).ownBlock) (.slice Ao12 l2.length co12) l2) ∧ Aside0 (Kd.R (Kd.int .i64) 3 w' w0.heap.size (fun k_ => (P2_ k_ ∨ w.heap.size ≤ k_) ∧ some k_ ≠ ((.slice Ao12 l2.length co12) : Value).ownBlock) v9 x9_1) ∧ Aside0 (w'.heap[gb218]? = some (.cells #[(.slice A0_0 l0_0.length c0_0)] 29 (0, 0))) ∧ Aside0 (Kept w w' (fun k_ => P2_ k_)) ∧ Aside0 (Below w0.heap.size w0 w'))
 case atStart => exact ⟨(y222), ((-1)), (0), (by first | rfl | (simp; done) | (simp [*]; done)), (by first | rfl | (simp; done) | (simp [*]; done)), H', ⟨Nat.le_refl _⟩, ⟨rdl HO2⟩, ⟨by (with_reducible repeat (first | apply Kd.R_alloc | apply Kd.R_drewN | apply Kd.R_drew)); exact Kd.R_mono HO224.out (fun _ hk => ⟨hk.1.1, hk.2⟩)⟩, ⟨bkl BK218⟩, ⟨by repeat (first | (with_reducible first | exact HK.out | apply Kept.alloc | apply Kept.drewN | apply Kept.drew | refine Kept.setCell ?_ (.inr GW218.out) _) | exact HK.out)⟩, ⟨bel1 HB GE218⟩⟩
 clear H'
 try clear c1
 try clear c2
 try clear p2
 try clear c4
 try clear c4b0
 try clear c4b1
 try clear c4b2
 try clear hcz8_0
 try clear hfz8_0
 obtain ⟨x9_1, x10_1, x11_1, rfl, rfl, HA, HK1, HO_2, HO_9, BK218, HK, HB⟩ := hrel
 cases gk with
 | zero => exact absurd HA.out (by simp [spec_l8Best.l0])
 | succ k1 =>
  have H := HA.out
  clear HA
  simp only [spec_l8Best.l0] at H
  by_cases c15 : x11_1 < (l0_0.length : Int)
  rotate_left
  ·rw [if_neg c15] at H
   have c15b0 : decide (x11_1 < (l0_0.length : Int)) = false := decide_eq_false c15
   clear c15
   simp only [Option.some.injEq, Prod.mk.injEq] at H
   obtain ⟨rfl, rfl⟩ := H
   have hcz123_0 : wr.cell? ⟨gb218, 0, none⟩ = some (.slice A0_0 l0_0.length c0_0) := (blk_cell BK218.out 0).trans rfl
   have hfz123_0 := blk_frozen BK218.out 0
   go_wp2
   go_ret2
   exact ⟨_, by first | rfl | (simp [errW_none, errW_some] <;> rfl) | (simp [*, errW_none, errW_some] <;> rfl), by (with_reducible repeat (first | apply Kd.R_alloc | apply Kd.R_drewN | apply Kd.R_drew)); exact Kd.R_mono HO_9.out (fun _ hk => hk.1), bel1 HB GE218, by repeat (first | (with_reducible first | exact HK.out | apply Kept.alloc | apply Kept.drewN | apply Kept.drew | refine Kept.setCell ?_ (.inr GW218.out) _) | exact HK.out)⟩
  rw [if_pos c15] at H
  have c15b0 : decide (x11_1 < (l0_0.length : Int)) = true := decide_eq_true c15
  clear c15
  by_cases c16 : 0 ≤ x11_1
  rotate_left
  ·rw [if_neg c16] at H
   exact absurd H (by simp)
  rw [if_pos c16] at H
  have c16b0 : decide (0 ≤ x11_1) = true := decide_eq_true c16
  clear c16
  by_cases c17 : ((rd_L1 l0_0 x11_1).length : Int) = 4
  ·rw [if_pos c17] at H
   have c17b0 : (((rd_L1 l0_0 x11_1).length : Int) == 4) = true := beq_iff_eq.mpr c17
   have c17b1 : (((rd_L1 l0_0 x11_1).length : Int) != 4) = false := bne_eq_false_iff_eq.mpr c17
   clear c17
   have H' := Aside0.mk H
   clear H
   have hcz18_0 : wr.cell? ⟨gb218, 0, none⟩ = some (.slice A0_0 l0_0.length c0_0) := (blk_cell BK218.out 0).trans rfl
   have hfz18_0 := blk_frozen BK218.out 0
   have p225 : 0 ≤ (x11_1 : Int) := oda
   have q225 : x11_1 < (l0_0.length : Int) := oda
   obtain ⟨ad225, A225_0, c225_0, e225, hx225_0, hl225_0, hi225_0⟩ := at_L1 (Kd.C_kept_now HR0_0.out HK.out) x11_1 p225 q225
   cases e225
   have HR225_0 := Aside0.mk hi225_0
   have HC225_0 := Aside0.mk hl225_0
   clear hi225_0 hl225_0
   replace p225 := eq_true p225
   replace q225 := eq_true q225
   go_wp2
   go_roundg k1
   case measure => have := HK1.out; omega
   case rel => exact ⟨(x9_1), (x10_1), (wrap64 (x11_1 + 1)), (by first | rfl | (simp; done) | (simp [*]; done)), (by first | rfl | (simp; done) | (simp [*]; done)), H', ⟨by have := HK1.out; omega⟩, ⟨rdl HO_2⟩, ⟨rdl HO_9⟩, ⟨bkl BK218⟩, ⟨by repeat (first | (with_reducible first | exact HK.out | apply Kept.alloc | apply Kept.drewN | apply Kept.drew | refine Kept.setCell ?_ (.inr GW218.out) _) | exact HK.out)⟩, ⟨bel1 HB GE218⟩⟩
  rw [if_neg c17] at H
  have c17b0 : (((rd_L1 l0_0 x11_1).length : Int) == 4) = false := beq_eq_false_iff_ne.mpr c17
  have c17b1 : (((rd_L1 l0_0 x11_1).length : Int) != 4) = true := bne_iff_ne.mpr c17
  replace H := Option.bind_eq_some_iff.mp H
  obtain ⟨t226, A190, H⟩ := H
  replace H : (if x11_1 < (t226.length : Int) then (if 0 ≤ (l2.length : Int) then (if (l2.length : Int) < (l1.length : Int) then (if (rd_L1 t226 x11_1).length < 17592186044416 then ((spec_l1Own.f l2).bind fun t236 => ((some (([x11_1] : List Int) : List Int)).bind fun y239 => (if t236.length + y239.length < 17592186044416 then ((spec_l8Best.f k1 (t226.set (x11_1 : Int).toNat ((rd_L1 t226 x11_1) ++ [rd l1 (l2.length : Int)])) l1 (t236 ++ y239)).bind fun bt245 => (if bt245.2 ≥ 0 then (if x10_1 < 0 then (spec_l8Best.l0 k1 l1 l2 (l2.length : Int) bt245.1 bt245.2 (wrap64 (x11_1 + 1)) l0_0) else (if bt245.2 < x10_1 then (spec_l8Best.l0 k1 l1 l2 (l2.length : Int) bt245.1 bt245.2 (wrap64 (x11_1 + 1)) l0_0) else (spec_l8Best.l0 k1 l1 l2 (l2.length : Int) x9_1 x10_1 (wrap64 (x11_1 + 1)) l0_0))) else (spec_l8Best.l0 k1 l1 l2 (l2.length : Int) x9_1 x10_1 (wrap64 (x11_1 + 1)) l0_0))) else (none)))) else (none)) else (none)) else (none)) else (none)) = some (r1, r2) := H
  have A19 := Aside0.mk A190
  clear A190
  by_cases c20 : x11_1 < (t226.length : Int)
  rotate_left
  ·rw [if_neg c20] at H
   exact absurd H (by simp)
  rw [if_pos c20] at H
  have c20b0 : decide (x11_1 < (t226.length : Int)) = true := decide_eq_true c20
  clear c20
  by_cases c21 : 0 ≤ (l2.length : Int)
  rotate_left
  ·rw [if_neg c21] at H
   exact absurd H (by simp)
  rw [if_pos c21] at H
  have c21b0 : decide (0 ≤ (l2.length : Int)) = true := decide_eq_true c21
  have c21b1 : decide (0 ≤ l2.length) = true := decide_eq_true (by omega)
  clear c21
  by_cases c22 : (l2.length : Int) < (l1.length : Int)
  rotate_left
  ·rw [if_neg c22] at H
   exact absurd H (by simp)
  rw [if_pos c22] at H
  have c22b0 : decide ((l2.length : Int) < (l1.length : Int)) = true := decide_eq_true c22
  have c22b1 : decide (l2.length < l1.length) = true := decide_eq_true (Int.ofNat_lt.mp c22)
  clear c22
  by_cases c23 : (rd_L1 t226 x11_1).length < 17592186044416
  rotate_left
  ·rw [if_neg c23] at H
   exact absurd H (by simp)
  rw [if_pos c23] at H
  have LMc23 := Aside0.mk c23
  clear c23
  obtain ⟨y232, hy232⟩ : ∃ y_ : List Int, y_ = ((rd_L1 t226 x11_1) ++ [rd l1 (l2.length : Int)]) := ⟨_, rfl⟩
  replace H : ((spec_l1Own.f l2).bind fun t236 => ((some (([x11_1] : List Int) : List Int)).bind fun y239 => (if t236.length + y239.length < 17592186044416 then ((spec_l8Best.f k1 (t226.set (x11_1 : Int).toNat y232) l1 (t236 ++ y239)).bind fun bt245 => (if bt245.2 ≥ 0 then (if x10_1 < 0 then (spec_l8Best.l0 k1 l1 l2 (l2.length : Int) bt245.1 bt245.2 (wrap64 (x11_1 + 1)) l0_0) else (if bt245.2 < x10_1 then (spec_l8Best.l0 k1 l1 l2 (l2.length : Int) bt245.1 bt245.2 (wrap64 (x11_1 + 1)) l0_0) else (spec_l8Best.l0 k1 l1 l2 (l2.length : Int) x9_1 x10_1 (wrap64 (x11_1 + 1)) l0_0))) else (spec_l8Best.l0 k1 l1 l2 (l2.length : Int) x9_1 x10_1 (wrap64 (x11_1 + 1)) l0_0))) else (none)))) = some (r1, r2) := by first | (rw [hy232]; with_reducible exact H) | (have H2_ := (Option.bind_some _ _).symm.trans H; rw [hy232]; with_reducible exact H2_) | (have H2_ := (Option.bind_some _ _).symm.trans H; with_reducible exact H2_) | with_reducible exact H | (rw [hy232]; exact H) | exact H
  have Ny232 := Aside0.mk hy232
  clear hy232
  obtain ⟨y235, hy235⟩ : ∃ y_ : List (List Int), y_ = (t226.set (x11_1 : Int).toNat y232) := ⟨_, rfl⟩
  replace H : ((spec_l1Own.f l2).bind fun t236 => ((some (([x11_1] : List Int) : List Int)).bind fun y239 => (if t236.length + y239.length < 17592186044416 then ((spec_l8Best.f k1 y235 l1 (t236 ++ y239)).bind fun bt245 => (if bt245.2 ≥ 0 then (if x10_1 < 0 then (spec_l8Best.l0 k1 l1 l2 (l2.length : Int) bt245.1 bt245.2 (wrap64 (x11_1 + 1)) l0_0) else (if bt245.2 < x10_1 then (spec_l8Best.l0 k1 l1 l2 (l2.length : Int) bt245.1 bt245.2 (wrap64 (x11_1 + 1)) l0_0) else (spec_l8Best.l0 k1 l1 l2 (l2.length : Int) x9_1 x10_1 (wrap64 (x11_1 + 1)) l0_0))) else (spec_l8Best.l0 k1 l1 l2 (l2.length : Int) x9_1 x10_1 (wrap64 (x11_1 + 1)) l0_0))) else (none)))) = some (r1, r2) := by first | (rw [hy235]; with_reducible exact H) | (have H2_ := (Option.bind_some _ _).symm.trans H; rw [hy235]; with_reducible exact H2_) | (have H2_ := (Option.bind_some _ _).symm.trans H; with_reducible exact H2_) | with_reducible exact H | (rw [hy235]; exact H) | exact H
  have Ny235 := Aside0.mk hy235
  clear hy235
  replace H := Option.bind_eq_some_iff.mp H
  obtain ⟨t236, A250, H⟩ := H
  replace H : ((some (([x11_1] : List Int) : List Int)).bind fun y239 => (if t236.length + y239.length < 17592186044416 then ((spec_l8Best.f k1 y235 l1 (t236 ++ y239)).bind fun bt245 => (if bt245.2 ≥ 0 then (if x10_1 < 0 then (spec_l8Best.l0 k1 l1 l2 (l2.length : Int) bt245.1 bt245.2 (wrap64 (x11_1 + 1)) l0_0) else (if bt245.2 < x10_1 then (spec_l8Best.l0 k1 l1 l2 (l2.length : Int) bt245.1 bt245.2 (wrap64 (x11_1 + 1)) l0_0) else (spec_l8Best.l0 k1 l1 l2 (l2.length : Int) x9_1 x10_1 (wrap64 (x11_1 + 1)) l0_0))) else (spec_l8Best.l0 k1 l1 l2 (l2.length : Int) x9_1 x10_1 (wrap64 (x11_1 + 1)) l0_0))) else (none))) = some (r1, r2) := H
  have A25 := Aside0.mk A250
  clear A250
  obtain ⟨y239, hy239⟩ : ∃ y_ : List Int, y_ = (([x11_1] : List Int)) := ⟨_, rfl⟩
  replace H : (if t236.length + y239.length < 17592186044416 then ((spec_l8Best.f k1 y235 l1 (t236 ++ y239)).bind fun bt245 => (if bt245.2 ≥ 0 then (if x10_1 < 0 then (spec_l8Best.l0 k1 l1 l2 (l2.length : Int) bt245.1 bt245.2 (wrap64 (x11_1 + 1)) l0_0) else (if bt245.2 < x10_1 then (spec_l8Best.l0 k1 l1 l2 (l2.length : Int) bt245.1 bt245.2 (wrap64 (x11_1 + 1)) l0_0) else (spec_l8Best.l0 k1 l1 l2 (l2.length : Int) x9_1 x10_1 (wrap64 (x11_1 + 1)) l0_0))) else (spec_l8Best.l0 k1 l1 l2 (l2.length : Int) x9_1 x10_1 (wrap64 (x11_1 + 1)) l0_0))) else (none)) = some (r1, r2) := by first | (rw [hy239]; with_reducible exact H) | (have H2_ := (Option.bind_some _ _).symm.trans H; rw [hy239]; with_reducible exact H2_) | (have H2_ := (Option.bind_some _ _).symm.trans H; with_reducible exact H2_) | with_reducible exact H | (rw [hy239]; exact H) | exact H
  have Ny239 := Aside0.mk hy239
  clear hy239
  by_cases c26 : t236.length + y239.length < 17592186044416
  rotate_left
  ·rw [if_neg c26] at H
   exact absurd H (by simp)
  rw [if_pos c26] at H
  have LMc26 := Aside0.mk c26
  clear c26
  obtain ⟨y242, hy242⟩ : ∃ y_ : List Int, y_ = (t236 ++ y239) := ⟨_, rfl⟩
  replace H : ((spec_l8Best.f k1 y235 l1 y242).bind fun bt245 => (if bt245.2 ≥ 0 then (if x10_1 < 0 then (spec_l8Best.l0 k1 l1 l2 (l2.length : Int) bt245.1 bt245.2 (wrap64 (x11_1 + 1)) l0_0) else (if bt245.2 < x10_1 then (spec_l8Best.l0 k1 l1 l2 (l2.length : Int) bt245.1 bt245.2 (wrap64 (x11_1 + 1)) l0_0) else (spec_l8Best.l0 k1 l1 l2 (l2.length : Int) x9_1 x10_1 (wrap64 (x11_1 + 1)) l0_0))) else (spec_l8Best.l0 k1 l1 l2 (l2.length : Int) x9_1 x10_1 (wrap64 (x11_1 + 1)) l0_0))) = some (r1, r2) := by first | (rw [hy242]; with_reducible exact H) | (have H2_ := (Option.bind_some _ _).symm.trans H; rw [hy242]; with_reducible exact H2_) | (have H2_ := (Option.bind_some _ _).symm.trans H; with_reducible exact H2_) | with_reducible exact H | (rw [hy242]; exact H) | exact H
  have Ny242 := Aside0.mk hy242
  clear hy242
  replace H := Option.bind_eq_some_iff.mp H
  obtain ⟨⟨t245, t248⟩, A270, H⟩ := H
  replace H : (if t248 ≥ 0 then (if x10_1 < 0 then (spec_l8Best.l0 k1 l1 l2 (l2.length : Int) t245 t248 (wrap64 (x11_1 + 1)) l0_0) else (if t248 < x10_1 then (spec_l8Best.l0 k1 l1 l2 (l2.length : Int) t245 t248 (wrap64 (x11_1 + 1)) l0_0) else (spec_l8Best.l0 k1 l1 l2 (l2.length : Int) x9_1 x10_1 (wrap64 (x11_1 + 1)) l0_0))) else (spec_l8Best.l0 k1 l1 l2 (l2.length : Int) x9_1 x10_1 (wrap64 (x11_1 + 1)) l0_0)) = some (r1, r2) := H
  have A27 := Aside0.mk A270
  clear A270
  by_cases c28 : t248 ≥ 0
  rotate_left
  ·rw [if_neg c28] at H
   have c28b0 : decide (0 ≤ t248) = false := decide_eq_false c28
   clear c28
   have H' := Aside0.mk H
   clear H
   have hcz100_0 : wr.cell? ⟨gb218, 0, none⟩ = some (.slice A0_0 l0_0.length c0_0) := (blk_cell BK218.out 0).trans rfl
   have hfz100_0 := blk_frozen BK218.out 0
   have p225 : 0 ≤ (x11_1 : Int) := oda
   have q225 : x11_1 < (l0_0.length : Int) := oda
   obtain ⟨ad225, A225_0, c225_0, e225, hx225_0, hl225_0, hi225_0⟩ := at_L1 (Kd.C_kept_now HR0_0.out HK.out) x11_1 p225 q225
   cases e225
   have HR225_0 := Aside0.mk hi225_0
   have HC225_0 := Aside0.mk hl225_0
   clear hi225_0 hl225_0
   replace p225 := eq_true p225
   replace q225 := eq_true q225
   try go_wp2_with (first | ((with_reducible refine gate_callee (f := 29) rfl ?_); refine goesL_ (some 41) rfl rfl Try.func29 (by kernel_rfl) rfl #[.agg #[.slice (some ad225) l0_0.length c0_0]] rfl gmp ?_; (with_reducible refine (spec_l5Own.calls k1 _ _ l0_0 t226 _ ?side1 ?side2 A19.out).mono ?_); (case side1 => exact Kd.C_kept_now HR0_0.out (by repeat (first | (with_reducible first | exact HK.out | apply Kept.alloc | apply Kept.drewN | apply Kept.drew | refine Kept.setCell ?_ (.inr GW218.out) _) | exact HK.out))); (case side2 => exact HC0_0.out); rintro e w101 ⟨v227, rfl, ho0, hb⟩; refine ⟨_, rfl, ?_⟩; have n0_ := Aside0.mk (Kd.R_below (rdl HO_2) hb); have n1_ := Aside0.mk (Kd.R_below (rdl HO_9) hb); have n2_ := Aside0.mk (Kd.S_lower (Kd.S_new' (Kd.S_new' (Kd.S_newM (M := fun k_ => (P2_ k_ ∨ w.heap.size ≤ k_)) ho0 (by first | exact HK.out.1 | exact (show Kept w _ (fun k_ => P2_ k_) from by repeat (first | (with_reducible first | exact HK.out | apply Kept.alloc | apply Kept.drewN | apply Kept.drew | refine Kept.setCell ?_ (.inr GW218.out) _) | exact HK.out)).1) (fun k_ h_ => .inr h_)) (Kd.R_lt (rdl HO_2))) (Kd.R_lt (rdl HO_9))) (below_size (bel1 HB GE218))); have n3_ := Aside0.mk (blk_below (g := gb218) (o := .cells #[.slice (some ad225) l0_0.length c0_0] 29 (0, 0)) (bkl BK218) hb); have n4_ := Aside0.mk (Kd.C_below (cdl HR225_0.out) hb); have n5_ := Aside0.mk (Kept.below (S := (fun k_ => P2_ k_)) (by repeat (first | (with_reducible first | exact HK.out | apply Kept.alloc | apply Kept.drewN | apply Kept.drew | refine Kept.setCell ?_ (.inr GW218.out) _) | exact HK.out)) hb); have n6_ := Aside0.mk (below_step (bel1 HB GE218) hb); clear HO_2; clear HO_9; clear BK218; clear HR225_0; clear HK; clear HB; have HO_2 := n0_; have HO_9 := n1_; have HO228 := n2_; have BK218 := n3_; have HR225_0 := n4_; have HK := n5_; have HB := n6_; clear n0_ n1_ n2_ n3_ n4_ n5_ n6_; (try clear hb); (try clear hb2); (try clear hk); (try clear hi); (try clear ho0)) | ((with_reducible refine gate_dst (N := 12) rfl ?_); refine box_event ?hg (N := 12) ?hd (cs := #[.slice none 0 0]) (t := 29) ?hr ?_; (case hd => rfl); (case hg => rfl); (case hr => first | (go_simp; done) | (go_simp; rfl)); intro gb229 hg w102 hbox hb; have n0_ := Aside0.mk (Kd.R_below (rdl HO_2) hb); have n1_ := Aside0.mk (Kd.R_below (rdl HO_9) hb); have n2_ := Aside0.mk (Kd.S_below (sdl HO228) hb); have n3_ := Aside0.mk (blk_below (g := gb218) (o := .cells #[.slice (some ad225) l0_0.length c0_0] 29 (0, 0)) (bkl BK218) hb); have n4_ := Aside0.mk (Kd.C_below (cdl HR225_0.out) hb); have n5_ := Aside0.mk (Kept.below (S := (fun k_ => P2_ k_)) (by repeat (first | (with_reducible first | exact HK.out | apply Kept.alloc | apply Kept.drewN | apply Kept.drew | refine Kept.setCell ?_ (.inr GW218.out) _) | exact HK.out)) hb); have n6_ := Aside0.mk (below_step (bel1 HB GE218) hb); have n7_ := Aside0.mk (hbox); have n8_ := Aside0.mk ((by rw [hg]; exact (by first | exact HK.out.1 | exact (show Kept w _ (fun k_ => P2_ k_) from by repeat (first | (with_reducible first | exact HK.out | apply Kept.alloc | apply Kept.drewN | apply Kept.drew | refine Kept.setCell ?_ (.inr GW218.out) _) | exact HK.out)).1) : w.heap.size ≤ gb229)); have n9_ := Aside0.mk ((by rw [hg]; exact (below_size (bel1 HB GE218)) : w0.heap.size ≤ gb229)); have n10_ := Aside0.mk ((by rw [hg]; exact Nat.ne_of_lt (blk_lt (g := gb218) (o := .cells #[.slice (some ad225) l0_0.length c0_0] 29 (0, 0)) (bkl BK218)) : gb218 ≠ gb229)); have n11_ := Aside0.mk ((by rw [hg]; exact Nat.ne_of_gt (blk_lt (g := gb218) (o := .cells #[.slice (some ad225) l0_0.length c0_0] 29 (0, 0)) (bkl BK218)) : gb229 ≠ gb218)); clear HO_2; clear HO_9; clear HO228; clear BK218; clear HR225_0; clear HK; clear HB; have HO_2 := n0_; have HO_9 := n1_; have HO228 := n2_; have BK218 := n3_; have HR225_0 := n4_; have HK := n5_; have HB := n6_; have BK229 := n7_; have GW229 := n8_; have GE229 := n9_; have NB218_229 := n10_; have NB229_218 := n11_; clear n0_ n1_ n2_ n3_ n4_ n5_ n6_ n7_ n8_ n9_ n10_ n11_; clear hb hbox hg; obtain ⟨Ao103, co103, eo103⟩ := Kd.S_slice HO228.out; subst eo103; have hnb104 := NB229_218.out; have hnc104 := NB218_229.out; have hcz105_0 : w102.cell? ⟨gb229, 0, none⟩ = some (.slice none 0 0) := (blk_cell BK229.out 0).trans rfl; have hfz105_0 := blk_frozen BK229.out 0))
   have n0_ : Aside0 (Kd.R (Kd.int .i64) 3 (w102.setCell ⟨gb229, 0, none⟩ (.slice Ao103 t226.length co103)) w0.heap.size (fun k_ => (P2_ k_ ∨ w.heap.size ≤ k_) ∧ some k_ ≠ (u9 : Value).ownBlock) (.slice Ao12 l2.length co12) l2) := ⟨by (with_reducible repeat (first | apply Kd.R_alloc | apply Kd.R_drewN | apply Kd.R_drew)); exact Kd.R_mono (Kd.R_far (p := ⟨gb229, 0, none⟩) (Kd.R_types HO_2.out BK229.out (by decide)) (fun _ hk => hk.2) (.slice Ao103 t226.length co103)) (fun _ hk => ⟨hk.1.1, hk.1.2⟩)⟩
   have n1_ : Aside0 (Kd.R (Kd.int .i64) 3 (w102.setCell ⟨gb229, 0, none⟩ (.slice Ao103 t226.length co103)) w0.heap.size (fun k_ => (P2_ k_ ∨ w.heap.size ≤ k_) ∧ some k_ ≠ (.slice Ao12 l2.length co12 : Value).ownBlock) u9 x9_1) := ⟨by (with_reducible repeat (first | apply Kd.R_alloc | apply Kd.R_drewN | apply Kd.R_drew)); exact Kd.R_mono (Kd.R_far (p := ⟨gb229, 0, none⟩) (Kd.R_types HO_9.out BK229.out (by decide)) (fun _ hk => hk.2) (.slice Ao103 t226.length co103)) (fun _ hk => ⟨hk.1.1, hk.1.2⟩)⟩
   have n2_ : Aside0 (Kd.S (Kd.slice 3 (Kd.int .i64)) 25 (w102.setCell ⟨gb229, 0, none⟩ (.slice Ao103 t226.length co103)) w0.heap.size (fun k_ => (P2_ k_ ∨ w.heap.size ≤ k_) ∧ some k_ ≠ (.slice Ao12 l2.length co12 : Value).ownBlock ∧ some k_ ≠ (u9 : Value).ownBlock) (.slice Ao103 t226.length co103) t226) := ⟨by (with_reducible repeat (first | apply Kd.S_alloc | apply Kd.S_drewN | apply Kd.S_drew)); exact Kd.S_mono (Kd.S_far (p := ⟨gb229, 0, none⟩) (Kd.S_types HO228.out BK229.out (by decide)) (fun _ hk => hk.2) (.slice Ao103 t226.length co103)) (fun _ hk => ⟨hk.1.1.1.1, ⟨hk.1.1.2, hk.1.2⟩⟩)⟩
   have n3_ : Aside0 ((w102.setCell ⟨gb229, 0, none⟩ (.slice Ao103 t226.length co103)).heap[gb218]? = some (.cells #[.slice (some ad225) l0_0.length c0_0] 29 (0, 0))) := ⟨by (with_reducible repeat (first | refine blk_drewN ?_ _ | refine blk_drew ?_ | refine blk_alloc ?_ _)); refine blk_far ?_ NB218_229.out _; (with_reducible repeat (first | refine blk_drewN ?_ _ | refine blk_drew ?_ | refine blk_alloc ?_ _)); exact BK218.out⟩
   have n4_ : Aside0 ((w102.setCell ⟨gb229, 0, none⟩ (.slice Ao103 t226.length co103)).heap[gb229]? = some (.cells #[.slice Ao103 t226.length co103] 29 (0, 0))) := ⟨by (with_reducible repeat (first | refine blk_drewN ?_ _ | refine blk_drew ?_ | refine blk_alloc ?_ _)); refine blk_put (cs := #[.slice none 0 0]) ?_ 0 _ rfl; (with_reducible repeat (first | refine blk_drewN ?_ _ | refine blk_drew ?_ | refine blk_alloc ?_ _)); exact BK229.out⟩
   have n5_ : Aside0 (Kept w (w102.setCell ⟨gb229, 0, none⟩ (.slice Ao103 t226.length co103)) (fun k_ => P2_ k_)) := ⟨by repeat (first | (with_reducible first | exact HK.out | apply Kept.alloc | apply Kept.drewN | apply Kept.drew | refine Kept.setCell ?_ (.inr GW218.out) _ | refine Kept.setCell ?_ (.inr GW229.out) _) | exact HK.out)⟩
   have n6_ : Aside0 (Below w0.heap.size w0 (w102.setCell ⟨gb229, 0, none⟩ (.slice Ao103 t226.length co103))) := ⟨bel2 HB GE218 GE229⟩
   (try clear HO_2)
   (try clear HO_9)
   (try clear HO228)
   (try clear BK218)
   (try clear BK229)
   (try clear HK)
   (try clear HB)
   generalize (w102.setCell ⟨gb229, 0, none⟩ (.slice Ao103 t226.length co103)) = w106 at n0_ n1_ n2_ n3_ n4_ n5_ n6_ ⊢
   have HO_2 := n0_
   have HO_9 := n1_
   have HO228 := n2_
   have BK218 := n3_
   have BK229 := n4_
   have HK := n5_
   have HB := n6_
   clear n0_ n1_ n2_ n3_ n4_ n5_ n6_
   have n0_ := Aside0.mk (Kd.R_drew HO_2.out)
   have n1_ := Aside0.mk (Kd.R_drew HO_9.out)
   have n2_ := Aside0.mk (Kd.S_drew HO228.out)
   have n3_ := Aside0.mk (blk_drew BK218.out)
   have n4_ := Aside0.mk (blk_drew BK229.out)
   have n5_ := Aside0.mk (Kept.drew HK.out)
   have n6_ := Aside0.mk (below_drew1 HB.out)
   clear HO_2 HO_9 HO228 BK218 BK229 HK HB
   have HO_2 := n0_
   have HO_9 := n1_
   have HO228 := n2_
   have BK218 := n3_
   have BK229 := n4_
   have HK := n5_
   have HB := n6_
   clear n0_ n1_ n2_ n3_ n4_ n5_ n6_
   have p230 : 0 ≤ (x11_1 : Int) := oda
   have q230 : x11_1 < (t226.length : Int) := oda
   obtain ⟨ad230, A230_0, c230_0, e230, hx230_0, hl230_0, hi230_0⟩ := at_L1 (Kd.S_reads' HO228.out).2.2 x11_1 p230 q230
   cases e230
   obtain ⟨ce230, hce230, hMe230, hcc230⟩ := Kd.S_get HO228.out [] x11_1 p230 (by first | exact q230 | exact oda | (have e_ := (Kd.S_reads' HO228.out).1; omega))
   obtain ⟨ve230_0, rfl, ge230_0⟩ := hMe230
   have hv230_0 := hcc230 0 _ rfl
   rw [Nat.add_zero, show ((Kd.slice 3 (Kd.int .i64))).sz = 1 from rfl, Nat.mul_one] at hv230_0
   replace hv230_0 := Option.some.inj (hv230_0.symm.trans hx230_0)
   rw [hv230_0] at ge230_0
   have HL230_0 := Aside0.mk (show Kd.R (Kd.int .i64) 3 _ _ _ _ (rd_L1 t226 x11_1) from ge230_0)
   clear hv230_0 ge230_0
   have HX230_0 := Aside0.mk hx230_0
   clear hcc230 hce230
   have HR230_0 := Aside0.mk hi230_0
   have HC230_0 := Aside0.mk hl230_0
   clear hi230_0 hl230_0
   replace p230 := eq_true p230
   replace q230 := eq_true q230
   have p231 : 0 ≤ ((l2.length : Int) : Int) := oda
   have q231 : (l2.length : Int) < (l1.length : Int) := oda
   obtain ⟨ad231, e231, hx231_0⟩ := Kd.at_int (Kd.C_kept_now HR1.out HK.out) (l2.length : Int) p231 q231
   have hw231_0 := hx231_0
   cases e231
   (try simp only [Go.IntWalk.toNatUp] at hx231_0)
   replace p231 := eq_true p231
   replace q231 := eq_true q231
   obtain ⟨go108, co108, eo108, gb108, gl108, cl108, HG108⟩ := Kd.S_form HO228.out (by have h_ : (x11_1 : Int) < ((t226.length : Int) : Int) := oda; have h2_ : 0 ≤ (x11_1 : Int) := (oda); omega)
   (first | cases eo108 | (injection eo108 with ea_ en_ ec_; (first | subst ea_ | (injection ea_ with ea_; subst ea_)); subst ec_; clear en_))
   have GB108 := Aside0.mk gb108
   have GG108 := Aside0.mk HG108
   clear gb108 gl108 HG108
   have HMgo108 := Aside0.mk (show (P2_ go108 ∨ w.heap.size ≤ go108) from ((Kd.S_R HO228.out).1 _ rfl).1)
   (first | simp only [add_plain] at hx230_0 | skip)
   obtain ⟨oki108, ce108, hcl108, hM108, hcc108, _, _, hH108⟩ := Kd.S_elem HO228.out [] (x11_1 : Int) (oda) (by have h_ : (x11_1 : Int) < ((t226.length : Int) : Int) := oda; first | exact h_ | (have e_ := (Kd.S_reads' HO228.out).1; omega) | simpa using h_)
   obtain ⟨ve108_0, rfl, ge108_0⟩ := hM108
   have hv108 := hcc108 0 _ rfl
   have hX108 := HX230_0.out
   (try simp only [add_plain] at hX108)
   (try simp only [Nat.add_zero] at hv108)
   (try rw [show ((Kd.slice 3 (Kd.int .i64))).sz = 1 from rfl, Nat.mul_one] at hv108)
   replace hv108 := Option.some.inj (hv108.symm.trans hX108)
   subst hv108
   clear hX108 hcc108 hcl108
   have UU108 := Aside0.mk (show Kd.R (Kd.int .i64) 3 _ w0.heap.size oki108 (.slice A230_0 (rd_L1 t226 x11_1).length c230_0) (rd_L1 t226 x11_1) from ge108_0)
   have HH108 := Aside0.mk hH108
   have HN108 := Aside0.mk (Kd.S_reads' HO228.out).1
   clear hH108 ge108_0
   refine start_ (n := 16) (S := fun w' => w'.cell? ⟨gb229, 0, none⟩ = some (.slice (some ⟨go108, 0, none⟩) t226.length co103) ∧ w'.cell? ⟨go108, (x11_1).toNat, none⟩ = some (.slice A230_0 (rd_L1 t226 x11_1).length c230_0) ∧ w'.cell? (ad231.add ((l2.length : Int)).toNat) = some (.int .i64 (rd l1 (l2.length : Int)))) (ds := [15]) #[false, false, false, false, false, false, false, false, false, false, false, false, false, false, false, false] (by kernel_rfl) rfl rfl ⟨(blk_cell BK229.out 0).trans rfl, hx230_0, (Kd.foot_int (HR1.out _ (by repeat (first | exact HK.out | apply Kept.alloc | apply Kept.drewN | apply Kept.drew | refine Kept.setCell ?_ HMgo108.out _))) (l2.length : Int) (of_eq_true p231) (of_eq_true q231))⟩ (fun hHeld => ?_); refine with_tabW spec_l8Best.tab10 spec_l8Best.bits10 (fun HT_ HW_ => ?_)
   generalize w106.drew = w107 at HO_2 HO_9 HO228 BK218 BK229 HK HB GG108 HH108 HL230_0 HR230_0 HX230_0 UU108 hx230_0 hx231_0 hHeld ⊢
   refine pure_ (i := 0) (N := some 42) (v := ?_) (a' := ?_) #[true, false, false, false, false, false, false, false, false, false, false, false, false, false, false, false] rfl rfl (any_of HT_.out (by kernel_rfl)) (fun _ _ _ h => h) (Or.inl ⟨by rfl, ?_⟩) ?_ ?_
   rotate_left
   ·intro w'
    go_simp
    with_reducible rfl
   rotate_left
   ·simp only [putS]
    rfl
   refine pure_ (i := 2) (N := some 44) (v := ?_) (a' := ?_) #[true, false, true, false, false, false, false, false, false, false, false, false, false, false, false, false] rfl rfl (any_of HT_.out (by kernel_rfl)) (fun _ _ _ h => h) (Or.inl ⟨by rfl, ?_⟩) ?_ ?_
   rotate_left
   ·intro w'
    go_simp
    with_reducible rfl
   rotate_left
   ·simp only [putS]
    rfl
   refine pure_ (i := 3) (N := some 45) (v := ?_) (a' := ?_) #[true, false, true, true, false, false, false, false, false, false, false, false, false, false, false, false] rfl rfl (any_of HT_.out (by kernel_rfl)) (fun _ _ _ h => h) (Or.inl ⟨by rfl, ?_⟩) ?_ ?_
   rotate_left
   ·intro w'
    go_simp
    with_reducible rfl
   rotate_left
   ·simp only [putS]
    rfl
   refine pure_ (i := 5) (N := some 47) (v := ?_) (a' := ?_) #[true, false, true, true, false, true, false, false, false, false, false, false, false, false, false, false] rfl rfl (any_of HT_.out (by kernel_rfl)) (fun _ _ _ h => h) (Or.inl ⟨by rfl, ?_⟩) ?_ ?_
   rotate_left
   ·intro w'
    go_simp
    with_reducible rfl
   rotate_left
   ·simp only [putS]
    rfl
   refine pure_ (i := 8) (N := some 50) (v := ?_) (a' := ?_) #[true, false, true, true, false, true, false, false, true, false, false, false, false, false, false, false] rfl rfl (any_of HT_.out (by kernel_rfl)) (fun _ _ _ h => h) (Or.inl ⟨by rfl, ?_⟩) ?_ ?_
   rotate_left
   ·intro w'
    go_simp
    with_reducible rfl
   rotate_left
   ·simp only [putS]
    rfl
   refine pure_ (i := 9) (N := some 51) (v := ?_) (a' := ?_) #[true, false, true, true, false, true, false, false, true, true, false, false, false, false, false, false] rfl rfl (any_of HT_.out (by kernel_rfl)) (fun _ _ _ h => h) (Or.inl ⟨by rfl, ?_⟩) ?_ ?_
   rotate_left
   ·intro w'
    go_simp
    with_reducible rfl
   rotate_left
   ·simp only [putS]
    rfl
   refine pure_ (i := 10) (N := some 52) (v := ?_) (a' := ?_) #[true, false, true, true, false, true, false, false, true, true, true, false, false, false, false, false] rfl rfl (any_of HT_.out (by kernel_rfl)) (fun _ _ _ h => h) (Or.inl ⟨by rfl, ?_⟩) ?_ ?_
   rotate_left
   ·intro w'
    go_simp
    with_reducible rfl
   rotate_left
   ·simp only [putS]
    rfl
   refine take_ (i := 1) (N := some 43) (v := ?_) (a' := ?_) #[true, true, true, true, false, true, false, false, true, true, true, false, false, false, false, false] rfl rfl (take_ofW HT_.out HW_.out (by kernel_rfl)) (fun _ _ _ h => h) (Or.inl ⟨by rfl, ?_⟩) hHeld ?_ ?_
   rotate_left
   ·rintro w' ⟨s0, s1, s2⟩
    (try simp only [Int.toNat_natCast] at s2)
    go_simp
    with_reducible rfl
   rotate_left
   ·simp only [putS]
    rfl
   refine take_ (i := 4) (N := some 46) (v := ?_) (a' := ?_) #[true, true, true, true, true, true, false, false, true, true, true, false, false, false, false, false] rfl rfl (take_ofW HT_.out HW_.out (by kernel_rfl)) (fun _ _ _ h => h) (Or.inl ⟨by rfl, ?_⟩) hHeld ?_ ?_
   rotate_left
   ·rintro w' ⟨s0, s1, s2⟩
    (try simp only [Int.toNat_natCast] at s2)
    go_simp
    with_reducible rfl
   rotate_left
   ·simp only [putS]
    rfl
   refine pure_ (i := 6) (N := some 48) (v := ?_) (a' := ?_) #[true, true, true, true, true, true, true, false, true, true, true, false, false, false, false, false] rfl rfl (any_of HT_.out (by kernel_rfl)) (fun _ _ _ h => h) (Or.inl ⟨by rfl, ?_⟩) ?_ ?_
   rotate_left
   ·intro w'
    go_simp
    with_reducible rfl
   rotate_left
   ·simp only [putS]
    rfl
   refine take_ (i := 7) (N := some 49) (v := ?_) (a' := ?_) #[true, true, true, true, true, true, true, true, true, true, true, false, false, false, false, false] rfl rfl (take_ofW HT_.out HW_.out (by kernel_rfl)) (fun _ _ _ h => h) (Or.inl ⟨by rfl, ?_⟩) hHeld ?_ ?_
   rotate_left
   ·rintro w' ⟨s0, s1, s2⟩
    (try simp only [Int.toNat_natCast] at s2)
    go_simp
    with_reducible rfl
   rotate_left
   ·simp only [putS]
    rfl
   refine take_ (i := 11) (N := some 53) (v := ?_) (a' := ?_) #[true, true, true, true, true, true, true, true, true, true, true, true, false, false, false, false] rfl rfl (take_ofW HT_.out HW_.out (by kernel_rfl)) (fun _ _ _ h => h) (Or.inl ⟨by rfl, ?_⟩) hHeld ?_ ?_
   rotate_left
   ·rintro w' ⟨s0, s1, s2⟩
    (try simp only [Int.toNat_natCast] at s2)
    go_simp
    with_reducible rfl
   rotate_left
   ·simp only [putS]
    rfl
   refine one_ (i := 12) (N := some 54) #[true, true, true, true, true, true, true, true, true, true, true, true, true, false, false, false] rfl rfl (one_of HT_.out (by kernel_rfl)) (by decide) (fun K hK => ?_)
   refine value_ (w1 := ?_) (v := ?_) (by rfl) rfl ?_ ?_
   rotate_left 2
   ·go_simp
    constructor
    ·rfl
    rfl
   refine hK.out _ _ ⟨(blk_cell (blk_alloc BK229.out _) 0).trans rfl, (World.cell?_alloc_lt _ _ _ (World.block_lt_of_cell? _ _ (hHeld.2.1))).trans (hHeld.2.1), (World.cell?_alloc_lt _ _ _ (World.block_lt_of_cell? _ _ ((Kd.foot_int (HR1.out _ (by repeat (first | exact HK.out | apply Kept.alloc | apply Kept.drewN | apply Kept.drew | refine Kept.setCell ?_ HMgo108.out _))) (l2.length : Int) (of_eq_true p231) (of_eq_true q231))))).trans ((Kd.foot_int (HR1.out _ (by repeat (first | exact HK.out | apply Kept.alloc | apply Kept.drewN | apply Kept.drew | refine Kept.setCell ?_ HMgo108.out _))) (l2.length : Int) (of_eq_true p231) (of_eq_true q231)))⟩ (fun hHeld => ?_)
   clear hK K
   refine norm_ (a' := ?_) ?_ ?_
   rotate_left
   ·show Act.put _ (some 54) _ = _
    simp only [putS]
    rfl
   refine one_ (i := 13) (N := some 55) #[true, true, true, true, true, true, true, true, true, true, true, true, true, true, false, false] rfl rfl (one_of HT_.out (by kernel_rfl)) (by decide) (fun K hK => ?_)
   refine Kd.R_append_step (Kd.int .i64) (w0 := w0) w0.heap.size (by rfl) (.tmp 49) (.tmp 54) 25 3 (.int .i64 0) 8 rfl Try.underlying25 info3 rfl (by decide) (by omega) (.slice A230_0 (rd_L1 t226 x11_1).length c230_0) (rd_L1 t226 x11_1) (rd l1 (l2.length : Int)) [.int .i64 (rd l1 (l2.length : Int))] (fun k_ => oki108 k_ ∨ ((fun k_ => (P2_ k_ ∨ w.heap.size ≤ k_) ∧ some k_ ≠ (.slice Ao12 l2.length co12 : Value).ownBlock ∧ some k_ ≠ (u9 : Value).ownBlock)) k_ ∧ w107.heap.size ≤ k_) (fun _ => False) rfl rfl ?aP (fun _ hk => hk.elim) ?aF ?aO ?aB ?aS ?aL ?_
   (case aP => exact rfl)
   (case aB => exact (bel2 HB GE218 GE229))
   (case aF => exact (fun k_ hk => .inr ⟨⟨.inr (Nat.le_trans (by first | exact HK.out.1 | exact (show Kept w _ (fun k_ => P2_ k_) from by repeat (first | (with_reducible first | exact HK.out | apply Kept.alloc | apply Kept.drewN | apply Kept.drew | refine Kept.setCell ?_ (.inr GW218.out) _ | refine Kept.setCell ?_ (.inr GW229.out) _) | exact HK.out)).1) hk), Kd.fresh' (Kd.R_lt (rdl HO_2)) k_ hk, Kd.fresh' (Kd.R_lt (rdl HO_9)) k_ hk⟩, hk⟩))
   (case aO => exact (by (with_reducible repeat (first | apply Kd.R_alloc | apply Kd.R_drewN | apply Kd.R_drew)); exact Kd.R_mono UU108.out (fun _ hk => .inl hk)))
   (case aS => exact (below_size (bel2 HB GE218 GE229)))
   (case aL => have := LMc23.out; omega)
   intro v233 w109 ho hb hg hat
   (first | have HS1_ := cell_grown hg (hHeld.2.1) (by first | (rw [add_block]; exact (fun e_ => ((HL230_0.out.1 _ e_.symm).2) rfl)) | (show some (Addr.add _ _).block ≠ _; rw [add_block]; exact (fun e_ => ((HL230_0.out.1 _ e_.symm).2) rfl)) | exact (fun e_ => ((HL230_0.out.1 _ e_.symm).2) rfl)) | have HS1_ := cell_grown hg (cell_unalloc (hHeld.2.1) (by first | (rw [add_block]; exact Kd.S_lt HO228.out _ rfl) | (show (Addr.add _ _).block < _; rw [add_block]; exact Kd.S_lt HO228.out _ rfl) | exact Kd.S_lt HO228.out _ rfl)) (by first | (rw [add_block]; exact (fun e_ => ((HL230_0.out.1 _ e_.symm).2) rfl)) | (show some (Addr.add _ _).block ≠ _; rw [add_block]; exact (fun e_ => ((HL230_0.out.1 _ e_.symm).2) rfl)) | exact (fun e_ => ((HL230_0.out.1 _ e_.symm).2) rfl)))
   rw [← Ny232.out] at ho
   have n0_ := Aside0.mk (Kd.R_grown2 (rdl HO_2) rfl hg (fun k_ e_ => (HL230_0.out.1 k_ e_).1.2.1))
   have n1_ := Aside0.mk (Kd.R_grown2 (rdl HO_9) rfl hg (fun k_ e_ => (HL230_0.out.1 k_ e_).1.2.2))
   have n2_ := Aside0.mk (blk_grown (g := gb218) (o := .cells #[.slice (some ad225) l0_0.length c0_0] 29 (0, 0)) (bkl BK218) hg (Kd.R_ne HL230_0.out BK218.out (by decide)))
   have n3_ := Aside0.mk (blk_grown (g := gb229) (o := .cells #[.slice (some ⟨go108, 0, none⟩) t226.length co103] 29 (0, 0)) (bkl BK229) hg (Kd.R_ne HL230_0.out BK229.out (by decide)))
   have n4_ := Aside0.mk (hb)
   have n5_ := Aside0.mk (Kept.of_grown (S := (fun k_ => P2_ k_)) hg (by repeat (first | (with_reducible first | exact HK.out | apply Kept.alloc | apply Kept.drewN | apply Kept.drew | refine Kept.setCell ?_ (.inr GW218.out) _ | refine Kept.setCell ?_ (.inr GW229.out) _) | exact HK.out)) (fun k_ e_ => (HL230_0.out.1 k_ e_).1.1))
   have n6_ := Aside0.mk (Kd.H_grown (Kd.H_widen (by repeat (first | exact HH108.out | refine Kd.H_alloc ?_ _ | refine Kd.H_drewN ?_ _ | refine Kd.H_drew ?_))) hg (fun k_ e_ => .inl (UU108.out.1 k_ e_)))
   have n7_ := Aside0.mk (ho)
   clear HO_2 HO_9 BK218 BK229 HB HK HH108 HO228 UU108 HL230_0
   have HO_2 := n0_
   have HO_9 := n1_
   have BK218 := n2_
   have BK229 := n3_
   have HB := n4_
   have HK := n5_
   have HH108 := n6_
   have HO234 := n7_
   clear n0_ n1_ n2_ n3_ n4_ n5_ n6_ n7_ ho hb hg hat
   have p24 : 0 ≤ (x11_1 : Int) := oda
   have q24 : (x11_1 : Int) < ((t226.length : Int) : Int) := oda
   replace p24 := eq_true p24
   replace q24 := eq_true q24
   obtain ⟨Ao112, co112, eo112⟩ := Kd.R_slice HO234.out
   (first | subst eo112 | (injection eo112 with f1_ f2_ f3_; have f4_ := f1_.symm; have f5_ := f3_.symm; clear f1_ f2_ f3_; subst f4_; subst f5_))
   obtain ⟨_, _, hraw110, _, _, hcc110, _⟩ := Kd.H_raw HH108.out (oda) (by have h_ : (x11_1 : Int) < ((t226.length : Int) : Int) := oda; first | exact h_ | (have e_ := (HN108.out); omega) | simpa using h_)
   obtain ⟨_, hfr110⟩ := Kd.H_at HH108.out (oda) (by have h_ : (x11_1 : Int) < ((t226.length : Int) : Int) := oda; first | exact h_ | (have e_ := (HN108.out); omega) | simpa using h_)
   have hx110_0 := hcc110 0 _ rfl
   have hf110_0 := hfr110 0
   (try simp only [Nat.add_zero] at hx110_0 hf110_0)
   (try rw [show ((Kd.slice 3 (Kd.int .i64))).sz = 1 from rfl, Nat.mul_one] at hx110_0)
   (try rw [show ((Kd.slice 3 (Kd.int .i64))).sz = 1 from rfl, Nat.mul_one] at hf110_0)
   have HP110 := Kd.S_seg0 HH108.out (oda) (by have h_ : (x11_1 : Int) < ((t226.length : Int) : Int) := oda; first | exact h_ | (have e_ := (HN108.out); omega) | simpa using h_) (seg := [.slice Ao112 y232.length co112]) (j := 0) (show 1 ≤ 1 from by decide) (x' := y232) (Kd.M_row HO234.out) (fun _ hk => hk)
   (try simp only [show ((Kd.slice 3 (Kd.int .i64))).sz = 1 from rfl, Nat.mul_one, Nat.add_zero] at HP110)
   clear hcc110 hfr110
   have HNB218_go108 := Aside0.mk (show gb218 ≠ go108 from by have h_ := Kd.R_ne hraw110 BK218.out (by decide); intro e_; exact h_ (by rw [e_]; rfl))
   have HNB229_go108 := Aside0.mk (show gb229 ≠ go108 from by have h_ := Kd.R_ne hraw110 BK229.out (by decide); intro e_; exact h_ (by rw [e_]; rfl))
   have HS110 := HP110.1
   rw [← Ny235.out] at HS110
   have HQ110 := Aside0.mk HS110
   obtain ⟨_, hgg110⟩ := Kd.R_typed hraw110 go108 rfl
   have GG110_ := Aside0.mk hgg110
   clear HP110 HS110 hgg110
   refine hK.out _ _ ⟨(blk_cell BK229.out 0).trans rfl, HS1_, (Kd.foot_int (HR1.out _ (by repeat (first | exact HK.out | apply Kept.alloc | apply Kept.drewN | apply Kept.drew | refine Kept.setCell ?_ HMgo108.out _))) (l2.length : Int) (of_eq_true p231) (of_eq_true q231))⟩ (fun hHeld => ?_)
   clear hK K
   refine norm_ (a' := ?_) ?_ ?_
   rotate_left
   ·show Act.put _ (some 55) _ = _
    simp only [putS]
    rfl
   refine pure_ (i := 14) (N := some 56) (v := ?_) (a' := ?_) #[true, true, true, true, true, true, true, true, true, true, true, true, true, true, true, false] rfl rfl (any_of HT_.out (by kernel_rfl)) (fun _ _ _ h => h) (Or.inl ⟨by rfl, ?_⟩) ?_ ?_
   rotate_left
   ·intro w'
    go_simp
    with_reducible rfl
   rotate_left
   ·simp only [putS]
    rfl
   refine last_ (i := 15) (N := none) #[true, true, true, true, true, true, true, true, true, true, true, true, true, true, true, true] rfl rfl (one_of HT_.out (by kernel_rfl)) (by decide) (fun K hK => ?_)
   refine skip_ (w1 := ?_) (by rfl) rfl ?_ ?_
   rotate_left
   ·go_simp
    rfl
   refine hK.out _ _ ?_
   clear hK K
   refine done_ (done_of HT_.out (by kernel_rfl)) ?_
   try go_wp2
   have n0_ : Aside0 (Kd.R (Kd.int .i64) 3 (w109.setCell ⟨go108, (x11_1 : Int).toNat, none⟩ (.slice Ao112 y232.length co112)) w0.heap.size (fun k_ => (P2_ k_ ∨ w.heap.size ≤ k_) ∧ some k_ ≠ (u9 : Value).ownBlock) (.slice Ao12 l2.length co12) l2) := ⟨by (with_reducible repeat (first | apply Kd.R_alloc | apply Kd.R_drewN | apply Kd.R_drew)); exact Kd.R_mono (Kd.R_far (p := ⟨go108, (x11_1 : Int).toNat, none⟩) (Kd.R_types HO_2.out GG110_.out (by decide)) (fun _ hk => hk.2) (.slice Ao112 y232.length co112)) (fun _ hk => ⟨hk.1.1, hk.1.2⟩)⟩
   have n1_ : Aside0 (Kd.R (Kd.int .i64) 3 (w109.setCell ⟨go108, (x11_1 : Int).toNat, none⟩ (.slice Ao112 y232.length co112)) w0.heap.size (fun k_ => (P2_ k_ ∨ w.heap.size ≤ k_) ∧ some k_ ≠ (.slice Ao12 l2.length co12 : Value).ownBlock) u9 x9_1) := ⟨by (with_reducible repeat (first | apply Kd.R_alloc | apply Kd.R_drewN | apply Kd.R_drew)); exact Kd.R_mono (Kd.R_far (p := ⟨go108, (x11_1 : Int).toNat, none⟩) (Kd.R_types HO_9.out GG110_.out (by decide)) (fun _ hk => hk.2) (.slice Ao112 y232.length co112)) (fun _ hk => ⟨hk.1.1, hk.1.2⟩)⟩
   have n2_ : Aside0 (Kd.S (Kd.slice 3 (Kd.int .i64)) 25 (w109.setCell ⟨go108, (x11_1 : Int).toNat, none⟩ (.slice Ao112 y232.length co112)) w0.heap.size (fun k_ => (P2_ k_ ∨ w.heap.size ≤ k_) ∧ some k_ ≠ (.slice Ao12 l2.length co12 : Value).ownBlock ∧ some k_ ≠ (u9 : Value).ownBlock) (.slice (some ⟨go108, 0, none⟩) t226.length co103) y235) := ⟨sdl HQ110⟩
   have n3_ : Aside0 ((w109.setCell ⟨go108, (x11_1 : Int).toNat, none⟩ (.slice Ao112 y232.length co112)).heap[gb218]? = some (.cells #[.slice (some ad225) l0_0.length c0_0] 29 (0, 0))) := ⟨by (with_reducible repeat (first | refine blk_drewN ?_ _ | refine blk_drew ?_ | refine blk_alloc ?_ _)); refine blk_far ?_ HNB218_go108.out _; (with_reducible repeat (first | refine blk_drewN ?_ _ | refine blk_drew ?_ | refine blk_alloc ?_ _)); exact BK218.out⟩
   have n4_ : Aside0 ((w109.setCell ⟨go108, (x11_1 : Int).toNat, none⟩ (.slice Ao112 y232.length co112)).heap[gb229]? = some (.cells #[.slice (some ⟨go108, 0, none⟩) t226.length co103] 29 (0, 0))) := ⟨by (with_reducible repeat (first | refine blk_drewN ?_ _ | refine blk_drew ?_ | refine blk_alloc ?_ _)); refine blk_far ?_ HNB229_go108.out _; (with_reducible repeat (first | refine blk_drewN ?_ _ | refine blk_drew ?_ | refine blk_alloc ?_ _)); exact BK229.out⟩
   have n5_ : Aside0 (Kept w (w109.setCell ⟨go108, (x11_1 : Int).toNat, none⟩ (.slice Ao112 y232.length co112)) (fun k_ => P2_ k_)) := ⟨by repeat (first | (with_reducible first | exact HK.out | apply Kept.alloc | apply Kept.drewN | apply Kept.drew | refine Kept.setCell ?_ HMgo108.out _ | refine Kept.setCell ?_ (.inr GW218.out) _ | refine Kept.setCell ?_ (.inr GW229.out) _) | exact HK.out)⟩
   have n6_ : Aside0 (Below w0.heap.size w0 (w109.setCell ⟨go108, (x11_1 : Int).toNat, none⟩ (.slice Ao112 y232.length co112))) := ⟨bel3 HB GB108 GE218 GE229⟩
   (try clear HO_2)
   (try clear HO_9)
   (try clear HO228)
   (try clear BK218)
   (try clear BK229)
   (try clear HK)
   (try clear HB)
   generalize (w109.setCell ⟨go108, (x11_1 : Int).toNat, none⟩ (.slice Ao112 y232.length co112)) = w113 at n0_ n1_ n2_ n3_ n4_ n5_ n6_ ⊢
   have HO_2 := n0_
   have HO_9 := n1_
   have HO228 := n2_
   have BK218 := n3_
   have BK229 := n4_
   have HK := n5_
   have HB := n6_
   clear n0_ n1_ n2_ n3_ n4_ n5_ n6_
   have n0_ := Aside0.mk (Kd.R_drew HO_2.out)
   have n1_ := Aside0.mk (Kd.R_drew HO_9.out)
   have n2_ := Aside0.mk (Kd.S_drew HO228.out)
   have n3_ := Aside0.mk (blk_drew BK218.out)
   have n4_ := Aside0.mk (blk_drew BK229.out)
   have n5_ := Aside0.mk (Kept.drew HK.out)
   have n6_ := Aside0.mk (below_drew1 HB.out)
   clear HO_2 HO_9 HO228 BK218 BK229 HK HB
   have HO_2 := n0_
   have HO_9 := n1_
   have HO228 := n2_
   have BK218 := n3_
   have BK229 := n4_
   have HK := n5_
   have HB := n6_
   clear n0_ n1_ n2_ n3_ n4_ n5_ n6_
   refine start_ (n := 13) (S := fun w' => w'.cell? ⟨gb229, 0, none⟩ = some (.slice (some ⟨go108, 0, none⟩) t226.length co103)) (ds := []) #[false, false, false, false, false, false, false, false, false, false, false, false, false] (by kernel_rfl) rfl rfl ((blk_cell BK229.out 0).trans rfl) (fun hHeld => ?_); refine with_tabW spec_l8Best.tab11 spec_l8Best.bits11 (fun HT_ HW_ => ?_)
   generalize w113.drew = w114 at HO_2 HO_9 HO228 BK218 BK229 HK HB HQ110 hHeld ⊢
   refine pure_ (i := 1) (N := some 59) (v := ?_) (a' := ?_) #[false, true, false, false, false, false, false, false, false, false, false, false, false] rfl rfl (any_of HT_.out (by kernel_rfl)) (fun _ _ _ h => h) (Or.inl ⟨by rfl, ?_⟩) ?_ ?_
   rotate_left
   ·intro w'
    go_simp
    with_reducible rfl
   rotate_left
   ·simp only [putS]
    rfl
   refine pure_ (i := 2) (N := some 60) (v := ?_) (a' := ?_) #[false, true, true, false, false, false, false, false, false, false, false, false, false] rfl rfl (any_of HT_.out (by kernel_rfl)) (fun _ _ _ h => h) (Or.inl ⟨by rfl, ?_⟩) ?_ ?_
   rotate_left
   ·intro w'
    go_simp
    with_reducible rfl
   rotate_left
   ·simp only [putS]
    rfl
   refine pure_ (i := 4) (N := some 62) (v := ?_) (a' := ?_) #[false, true, true, false, true, false, false, false, false, false, false, false, false] rfl rfl (any_of HT_.out (by kernel_rfl)) (fun _ _ _ h => h) (Or.inl ⟨by rfl, ?_⟩) ?_ ?_
   rotate_left
   ·intro w'
    go_simp
    with_reducible rfl
   rotate_left
   ·simp only [putS]
    rfl
   refine take_ (i := 0) (N := some 58) (v := ?_) (a' := ?_) #[true, true, true, false, true, false, false, false, false, false, false, false, false] rfl rfl (take_ofW HT_.out HW_.out (by kernel_rfl)) (fun _ _ _ h => h) (Or.inl ⟨by rfl, ?_⟩) hHeld ?_ ?_
   rotate_left
   ·intro w' s0
    go_simp
    with_reducible rfl
   rotate_left
   ·simp only [putS]
    rfl
   refine join_ (σ := Value × Value) 7 #[true, true, true, true, true, true, false, false, false, false, false, false, false] (fun s_ => [(61, s_.1), (63, s_.2)]) (fun s_ w' => (w'.cell? ⟨gb229, 0, none⟩ = some (.slice (some ⟨go108, 0, none⟩) t226.length co103)) ∧ (Kd.S (Kd.slice 3 (Kd.int .i64)) 25 w' w0.heap.size (fun k_ => (P2_ k_ ∨ w.heap.size ≤ k_) ∧ some k_ ≠ (s_.1 : Value).ownBlock ∧ some k_ ≠ (s_.2 : Value).ownBlock ∧ some k_ ≠ (.slice Ao12 l2.length co12 : Value).ownBlock ∧ some k_ ≠ (u9 : Value).ownBlock) (.slice (some ⟨go108, 0, none⟩) t226.length co103) y235) ∧ (Kd.R (Kd.int .i64) 3 w' w0.heap.size (fun k_ => (P2_ k_ ∨ w.heap.size ≤ k_) ∧ some k_ ≠ (s_.2 : Value).ownBlock ∧ some k_ ≠ (.slice Ao12 l2.length co12 : Value).ownBlock ∧ some k_ ≠ (u9 : Value).ownBlock) s_.1 t236) ∧ (Kd.R (Kd.int .i64) 3 w' w0.heap.size (fun k_ => (P2_ k_ ∨ w.heap.size ≤ k_) ∧ some k_ ≠ (s_.1 : Value).ownBlock ∧ some k_ ≠ (.slice Ao12 l2.length co12 : Value).ownBlock ∧ some k_ ≠ (u9 : Value).ownBlock) s_.2 y239) ∧ (Kd.R (Kd.int .i64) 3 w' w0.heap.size (fun k_ => (P2_ k_ ∨ w.heap.size ≤ k_) ∧ some k_ ≠ (s_.1 : Value).ownBlock ∧ some k_ ≠ (s_.2 : Value).ownBlock ∧ some k_ ≠ (u9 : Value).ownBlock) (.slice Ao12 l2.length co12) l2) ∧ (Kd.R (Kd.int .i64) 3 w' w0.heap.size (fun k_ => (P2_ k_ ∨ w.heap.size ≤ k_) ∧ some k_ ≠ (s_.1 : Value).ownBlock ∧ some k_ ≠ (s_.2 : Value).ownBlock ∧ some k_ ≠ (.slice Ao12 l2.length co12 : Value).ownBlock) u9 x9_1) ∧ (w'.heap[gb218]? = some (.cells #[.slice (some ad225) l0_0.length c0_0] 29 (0, 0))) ∧ (w'.heap[gb229]? = some (.cells #[.slice (some ⟨go108, 0, none⟩) t226.length co103] 29 (0, 0))) ∧ (Kept w w' (fun k_ => P2_ k_)) ∧ (Below w0.heap.size w0 w')) ?_ ?_
   rotate_left
   ·intro hCont
    refine two_ (i := 3) (j := 5) (Ni := some 61) (Nj := some 63) #[true, true, true, true, true, false, false, false, false, false, false, false, false] #[true, true, true, false, true, true, false, false, false, false, false, false, false] rfl rfl rfl rfl (two_of HT_.out (by kernel_rfl)) (by decide) (by decide) (fun K hK => ?_) (fun K hK => ?_)
    ·skip
     refine goes_ Try.func30 (by kernel_rfl) rfl #[.slice Ao12 l2.length co12] (by rfl) rfl rfl gmp ?_
     with_reducible refine (spec_l1Own.calls _ _ l2 t236 _ ?side1 ?side2 A25.out).mono ?_
     (case side1 => exact cdl (Kd.R_reads' HO_2.out).2.2)
     (case side2 => exact (Kd.R_reads' HO_2.out).2.1)
     rintro e w115 ⟨v237, rfl, ho0, hb⟩
     refine ⟨_, rfl, ?_⟩
     have n0_ := Aside0.mk (Kd.R_elder' (rdl HO_2) (Kd.R_base ho0) hb)
     have n1_ := Aside0.mk (Kd.R_elder' (rdl HO_9) (Kd.R_base ho0) hb)
     have n2_ := Aside0.mk (Kd.S_elder' (sdl HO228) (Kd.R_base ho0) hb)
     have n3_ := Aside0.mk (Kd.R_lower (Kd.R_new' (Kd.R_new' (Kd.R_newM (M := fun k_ => (P2_ k_ ∨ w.heap.size ≤ k_)) ho0 (by first | exact HK.out.1 | exact (show Kept w _ (fun k_ => P2_ k_) from by repeat (first | (with_reducible first | exact HK.out | apply Kept.alloc | apply Kept.drewN | apply Kept.drew | refine Kept.setCell ?_ (.inr GW218.out) _ | refine Kept.setCell ?_ (.inr GW229.out) _) | exact HK.out)).1) (fun k_ h_ => .inr h_)) (Kd.R_lt (rdl HO_2))) (Kd.R_lt (rdl HO_9))) (below_size (bel2 HB GE218 GE229)))
     have n4_ := Aside0.mk (blk_below (g := gb218) (o := .cells #[.slice (some ad225) l0_0.length c0_0] 29 (0, 0)) (bkl BK218) hb)
     have n5_ := Aside0.mk (blk_below (g := gb229) (o := .cells #[.slice (some ⟨go108, 0, none⟩) t226.length co103] 29 (0, 0)) (bkl BK229) hb)
     have n6_ := Aside0.mk (Kept.below (S := (fun k_ => P2_ k_)) (by repeat (first | (with_reducible first | exact HK.out | apply Kept.alloc | apply Kept.drewN | apply Kept.drew | refine Kept.setCell ?_ (.inr GW218.out) _ | refine Kept.setCell ?_ (.inr GW229.out) _) | exact HK.out)) hb)
     have n7_ := Aside0.mk (below_step (bel2 HB GE218 GE229) hb)
     clear HO_2 HO_9 HO228 BK218 BK229 HK HB
     have HO_2 := n0_
     have HO_9 := n1_
     have HO228 := n2_
     have HO238 := n3_
     have BK218 := n4_
     have BK229 := n5_
     have HK := n6_
     have HB := n7_
     clear n0_ n1_ n2_ n3_ n4_ n5_ n6_ n7_
     (try clear hb)
     (try clear hb2)
     (try clear hk)
     (try clear hi)
     (try clear ho0)
     refine hK.out _ _ ((blk_cell BK229.out 0).trans rfl) (fun hHeld => ?_)
     clear hK K
     refine norm_ (a' := ?_) ?_ ?_
     rotate_left
     ·show Act.put _ (some 61) _ = _
      simp only [putS]
      rfl
     refine one_ (i := 5) (N := some 63) #[true, true, true, true, true, true, false, false, false, false, false, false, false] rfl rfl (one_of HT_.out (by kernel_rfl)) (by decide) (fun K hK => ?_)
     refine Kd.R_lit_step (Kd.int .i64) _ 3 ?hg (N := 63) ?hd (xs := ([x11_1] : List Int)) (inner := [.int .i64 x11_1]) (ok := fun _ => True) (okp := fun _ => True) ?hr ?hp (fun _ hk => hk) trivial (Below.refl _ _) (Nat.le_refl _) (by simp) ?_; (case hd => rfl); (case hg => rfl); (case hr => first | (go_simp; done) | (go_simp; rfl)); (case hp => exact (Reps.one (show Kd.M (Kd.int .i64) _ _ _ x11_1 [.int .i64 x11_1] from rfl) (Reps.none _ _)))
     intro v240 w116 ho117 hb hg_ hnew_
     clear hg_ hnew_
     (first | rw [← Ny239.out] at ho117 | (simp only [Int.reduceToNat] at ho117; rw [← Ny239.out] at ho117))
     have n0_ := Aside0.mk (Kd.R_elder' (rdl HO_2) (Kd.R_base ho117) hb)
     have n1_ := Aside0.mk (Kd.R_elder' (rdl HO_9) (Kd.R_base ho117) hb)
     have n2_ := Aside0.mk (Kd.S_elder' (sdl HO228) (Kd.R_base ho117) hb)
     have n3_ := Aside0.mk (Kd.R_elder' (rdl HO238) (Kd.R_base ho117) hb)
     have n4_ := Aside0.mk (Kd.R_lower (Kd.R_new' (Kd.R_new' (Kd.R_new' (Kd.R_newM (M := fun k_ => (P2_ k_ ∨ w.heap.size ≤ k_)) ho117 (by first | exact HK.out.1 | exact (show Kept w _ (fun k_ => P2_ k_) from by repeat (first | (with_reducible first | exact HK.out | apply Kept.alloc | apply Kept.drewN | apply Kept.drew | refine Kept.setCell ?_ (.inr GW218.out) _ | refine Kept.setCell ?_ (.inr GW229.out) _) | exact HK.out)).1) (fun k_ h_ => .inr h_)) (Kd.R_lt (rdl HO_2))) (Kd.R_lt (rdl HO_9))) (Kd.R_lt (rdl HO238))) (below_size (bel2 HB GE218 GE229)))
     have n5_ := Aside0.mk (blk_below (g := gb218) (o := .cells #[.slice (some ad225) l0_0.length c0_0] 29 (0, 0)) (bkl BK218) hb)
     have n6_ := Aside0.mk (blk_below (g := gb229) (o := .cells #[.slice (some ⟨go108, 0, none⟩) t226.length co103] 29 (0, 0)) (bkl BK229) hb)
     have n7_ := Aside0.mk (Kept.below (S := (fun k_ => P2_ k_)) (by repeat (first | (with_reducible first | exact HK.out | apply Kept.alloc | apply Kept.drewN | apply Kept.drew | refine Kept.setCell ?_ (.inr GW218.out) _ | refine Kept.setCell ?_ (.inr GW229.out) _) | exact HK.out)) hb)
     have n8_ := Aside0.mk (below_step (bel2 HB GE218 GE229) hb)
     clear HO_2 HO_9 HO228 HO238 BK218 BK229 HK HB
     have HO_2 := n0_
     have HO_9 := n1_
     have HO228 := n2_
     have HO238 := n3_
     have HO241 := n4_
     have BK218 := n5_
     have BK229 := n6_
     have HK := n7_
     have HB := n8_
     clear n0_ n1_ n2_ n3_ n4_ n5_ n6_ n7_ n8_ hb ho117
     refine hK.out _ _ ((blk_cell BK229.out 0).trans rfl) (fun hHeld => ?_)
     clear hK K
     refine norm_ (a' := ?_) ?_ ?_
     rotate_left
     ·show Act.put _ (some 63) _ = _
      simp only [putS]
      rfl
     exact norm_ (by simp only [putAll, Act.put, List.setIfInBounds_toArray, List.set_cons_zero, List.set_cons_succ]) (hCont (v237, v240) _ ⟨hHeld, (by (with_reducible repeat (first | apply Kd.S_alloc | apply Kd.S_drewN | apply Kd.S_drew)); exact Kd.S_mono HO228.out (fun _ hk => ⟨hk.1.1.1, ⟨hk.1.2, ⟨hk.2, ⟨hk.1.1.2.1, hk.1.1.2.2⟩⟩⟩⟩)), (by (with_reducible repeat (first | apply Kd.R_alloc | apply Kd.R_drewN | apply Kd.R_drew)); exact Kd.R_mono HO238.out (fun _ hk => ⟨hk.1.1.1.1, ⟨hk.2, ⟨hk.1.1.2, hk.1.2⟩⟩⟩)), (by (with_reducible repeat (first | apply Kd.R_alloc | apply Kd.R_drewN | apply Kd.R_drew)); exact Kd.R_mono HO241.out (fun _ hk => ⟨hk.1.1.1.1, ⟨hk.2, ⟨hk.1.1.2, hk.1.2⟩⟩⟩)), (by (with_reducible repeat (first | apply Kd.R_alloc | apply Kd.R_drewN | apply Kd.R_drew)); exact Kd.R_mono HO_2.out (fun _ hk => ⟨hk.1.1.1, ⟨hk.1.2, ⟨hk.2, hk.1.1.2⟩⟩⟩)), (by (with_reducible repeat (first | apply Kd.R_alloc | apply Kd.R_drewN | apply Kd.R_drew)); exact Kd.R_mono HO_9.out (fun _ hk => ⟨hk.1.1.1, ⟨hk.1.2, ⟨hk.2, hk.1.1.2⟩⟩⟩)), (bkl BK218), (bkl BK229), (by repeat (first | (with_reducible first | exact HK.out | apply Kept.alloc | apply Kept.drewN | apply Kept.drew | refine Kept.setCell ?_ (.inr GW218.out) _ | refine Kept.setCell ?_ (.inr GW229.out) _) | exact HK.out)), (bel2 HB GE218 GE229)⟩)
    skip
    refine Kd.R_lit_step (Kd.int .i64) _ 3 ?hg (N := 63) ?hd (xs := ([x11_1] : List Int)) (inner := [.int .i64 x11_1]) (ok := fun _ => True) (okp := fun _ => True) ?hr ?hp (fun _ hk => hk) trivial (Below.refl _ _) (Nat.le_refl _) (by simp) ?_; (case hd => rfl); (case hg => rfl); (case hr => first | (go_simp; done) | (go_simp; rfl)); (case hp => exact (Reps.one (show Kd.M (Kd.int .i64) _ _ _ x11_1 [.int .i64 x11_1] from rfl) (Reps.none _ _)))
    intro v240 w115 ho116 hb hg_ hnew_
    clear hg_ hnew_
    (first | rw [← Ny239.out] at ho116 | (simp only [Int.reduceToNat] at ho116; rw [← Ny239.out] at ho116))
    have n0_ := Aside0.mk (Kd.R_elder' (rdl HO_2) (Kd.R_base ho116) hb)
    have n1_ := Aside0.mk (Kd.R_elder' (rdl HO_9) (Kd.R_base ho116) hb)
    have n2_ := Aside0.mk (Kd.S_elder' (sdl HO228) (Kd.R_base ho116) hb)
    have n3_ := Aside0.mk (Kd.R_lower (Kd.R_new' (Kd.R_new' (Kd.R_newM (M := fun k_ => (P2_ k_ ∨ w.heap.size ≤ k_)) ho116 (by first | exact HK.out.1 | exact (show Kept w _ (fun k_ => P2_ k_) from by repeat (first | (with_reducible first | exact HK.out | apply Kept.alloc | apply Kept.drewN | apply Kept.drew | refine Kept.setCell ?_ (.inr GW218.out) _ | refine Kept.setCell ?_ (.inr GW229.out) _) | exact HK.out)).1) (fun k_ h_ => .inr h_)) (Kd.R_lt (rdl HO_2))) (Kd.R_lt (rdl HO_9))) (below_size (bel2 HB GE218 GE229)))
    have n4_ := Aside0.mk (blk_below (g := gb218) (o := .cells #[.slice (some ad225) l0_0.length c0_0] 29 (0, 0)) (bkl BK218) hb)
    have n5_ := Aside0.mk (blk_below (g := gb229) (o := .cells #[.slice (some ⟨go108, 0, none⟩) t226.length co103] 29 (0, 0)) (bkl BK229) hb)
    have n6_ := Aside0.mk (Kept.below (S := (fun k_ => P2_ k_)) (by repeat (first | (with_reducible first | exact HK.out | apply Kept.alloc | apply Kept.drewN | apply Kept.drew | refine Kept.setCell ?_ (.inr GW218.out) _ | refine Kept.setCell ?_ (.inr GW229.out) _) | exact HK.out)) hb)
    have n7_ := Aside0.mk (below_step (bel2 HB GE218 GE229) hb)
    clear HO_2 HO_9 HO228 BK218 BK229 HK HB
    have HO_2 := n0_
    have HO_9 := n1_
    have HO228 := n2_
    have HO241 := n3_
    have BK218 := n4_
    have BK229 := n5_
    have HK := n6_
    have HB := n7_
    clear n0_ n1_ n2_ n3_ n4_ n5_ n6_ n7_ hb ho116
    refine hK.out _ _ ((blk_cell BK229.out 0).trans rfl) (fun hHeld => ?_)
    clear hK K
    refine norm_ (a' := ?_) ?_ ?_
    rotate_left
    ·show Act.put _ (some 63) _ = _
     simp only [putS]
     rfl
    refine one_ (i := 3) (N := some 61) #[true, true, true, true, true, true, false, false, false, false, false, false, false] rfl rfl (one_of HT_.out (by kernel_rfl)) (by decide) (fun K hK => ?_)
    refine goes_ Try.func30 (by kernel_rfl) rfl #[.slice Ao12 l2.length co12] (by rfl) rfl rfl gmp ?_
    with_reducible refine (spec_l1Own.calls _ _ l2 t236 _ ?side1 ?side2 A25.out).mono ?_
    (case side1 => exact cdl (Kd.R_reads' HO_2.out).2.2)
    (case side2 => exact (Kd.R_reads' HO_2.out).2.1)
    rintro e w117 ⟨v237, rfl, ho0, hb⟩
    refine ⟨_, rfl, ?_⟩
    have n0_ := Aside0.mk (Kd.R_elder' (rdl HO_2) (Kd.R_base ho0) hb)
    have n1_ := Aside0.mk (Kd.R_elder' (rdl HO_9) (Kd.R_base ho0) hb)
    have n2_ := Aside0.mk (Kd.S_elder' (sdl HO228) (Kd.R_base ho0) hb)
    have n3_ := Aside0.mk (Kd.R_elder' (rdl HO241) (Kd.R_base ho0) hb)
    have n4_ := Aside0.mk (Kd.R_lower (Kd.R_new' (Kd.R_new' (Kd.R_new' (Kd.R_newM (M := fun k_ => (P2_ k_ ∨ w.heap.size ≤ k_)) ho0 (by first | exact HK.out.1 | exact (show Kept w _ (fun k_ => P2_ k_) from by repeat (first | (with_reducible first | exact HK.out | apply Kept.alloc | apply Kept.drewN | apply Kept.drew | refine Kept.setCell ?_ (.inr GW218.out) _ | refine Kept.setCell ?_ (.inr GW229.out) _) | exact HK.out)).1) (fun k_ h_ => .inr h_)) (Kd.R_lt (rdl HO_2))) (Kd.R_lt (rdl HO_9))) (Kd.R_lt (rdl HO241))) (below_size (bel2 HB GE218 GE229)))
    have n5_ := Aside0.mk (blk_below (g := gb218) (o := .cells #[.slice (some ad225) l0_0.length c0_0] 29 (0, 0)) (bkl BK218) hb)
    have n6_ := Aside0.mk (blk_below (g := gb229) (o := .cells #[.slice (some ⟨go108, 0, none⟩) t226.length co103] 29 (0, 0)) (bkl BK229) hb)
    have n7_ := Aside0.mk (Kept.below (S := (fun k_ => P2_ k_)) (by repeat (first | (with_reducible first | exact HK.out | apply Kept.alloc | apply Kept.drewN | apply Kept.drew | refine Kept.setCell ?_ (.inr GW218.out) _ | refine Kept.setCell ?_ (.inr GW229.out) _) | exact HK.out)) hb)
    have n8_ := Aside0.mk (below_step (bel2 HB GE218 GE229) hb)
    clear HO_2 HO_9 HO228 HO241 BK218 BK229 HK HB
    have HO_2 := n0_
    have HO_9 := n1_
    have HO228 := n2_
    have HO241 := n3_
    have HO238 := n4_
    have BK218 := n5_
    have BK229 := n6_
    have HK := n7_
    have HB := n8_
    clear n0_ n1_ n2_ n3_ n4_ n5_ n6_ n7_ n8_
    (try clear hb)
    (try clear hb2)
    (try clear hk)
    (try clear hi)
    (try clear ho0)
    refine hK.out _ _ ((blk_cell BK229.out 0).trans rfl) (fun hHeld => ?_)
    clear hK K
    refine norm_ (a' := ?_) ?_ ?_
    rotate_left
    ·show Act.put _ (some 61) _ = _
     simp only [putS]
     rfl
    exact norm_ (by simp only [putAll, Act.put, List.setIfInBounds_toArray, List.set_cons_zero, List.set_cons_succ]) (hCont (v237, v240) _ ⟨hHeld, (by (with_reducible repeat (first | apply Kd.S_alloc | apply Kd.S_drewN | apply Kd.S_drew)); exact Kd.S_mono HO228.out (fun _ hk => ⟨hk.1.1.1, ⟨hk.2, ⟨hk.1.2, ⟨hk.1.1.2.1, hk.1.1.2.2⟩⟩⟩⟩)), (by (with_reducible repeat (first | apply Kd.R_alloc | apply Kd.R_drewN | apply Kd.R_drew)); exact Kd.R_mono HO238.out (fun _ hk => ⟨hk.1.1.1.1, ⟨hk.2, ⟨hk.1.1.2, hk.1.2⟩⟩⟩)), (by (with_reducible repeat (first | apply Kd.R_alloc | apply Kd.R_drewN | apply Kd.R_drew)); exact Kd.R_mono HO241.out (fun _ hk => ⟨hk.1.1.1.1, ⟨hk.2, ⟨hk.1.1.2, hk.1.2⟩⟩⟩)), (by (with_reducible repeat (first | apply Kd.R_alloc | apply Kd.R_drewN | apply Kd.R_drew)); exact Kd.R_mono HO_2.out (fun _ hk => ⟨hk.1.1.1, ⟨hk.2, ⟨hk.1.2, hk.1.1.2⟩⟩⟩)), (by (with_reducible repeat (first | apply Kd.R_alloc | apply Kd.R_drewN | apply Kd.R_drew)); exact Kd.R_mono HO_9.out (fun _ hk => ⟨hk.1.1.1, ⟨hk.2, ⟨hk.1.2, hk.1.1.2⟩⟩⟩)), (bkl BK218), (bkl BK229), (by repeat (first | (with_reducible first | exact HK.out | apply Kept.alloc | apply Kept.drewN | apply Kept.drew | refine Kept.setCell ?_ (.inr GW218.out) _ | refine Kept.setCell ?_ (.inr GW229.out) _) | exact HK.out)), (bel2 HB GE218 GE229)⟩)
   rintro ⟨v237, v240⟩ w118 ⟨hS_, h0_, h1_, h2_, h3_, h4_, h5_, h6_, h7_, h8_⟩
   have n0_ : Aside0 (Kd.S (Kd.slice 3 (Kd.int .i64)) 25 w118 w0.heap.size (fun k_ => (P2_ k_ ∨ w.heap.size ≤ k_) ∧ some k_ ≠ (v237 : Value).ownBlock ∧ some k_ ≠ (v240 : Value).ownBlock ∧ some k_ ≠ (.slice Ao12 l2.length co12 : Value).ownBlock ∧ some k_ ≠ (u9 : Value).ownBlock) (.slice (some ⟨go108, 0, none⟩) t226.length co103) y235) := ⟨h0_⟩
   have n1_ : Aside0 (Kd.R (Kd.int .i64) 3 w118 w0.heap.size (fun k_ => (P2_ k_ ∨ w.heap.size ≤ k_) ∧ some k_ ≠ (v240 : Value).ownBlock ∧ some k_ ≠ (.slice Ao12 l2.length co12 : Value).ownBlock ∧ some k_ ≠ (u9 : Value).ownBlock) v237 t236) := ⟨h1_⟩
   have n2_ : Aside0 (Kd.R (Kd.int .i64) 3 w118 w0.heap.size (fun k_ => (P2_ k_ ∨ w.heap.size ≤ k_) ∧ some k_ ≠ (v237 : Value).ownBlock ∧ some k_ ≠ (.slice Ao12 l2.length co12 : Value).ownBlock ∧ some k_ ≠ (u9 : Value).ownBlock) v240 y239) := ⟨h2_⟩
   have n3_ : Aside0 (Kd.R (Kd.int .i64) 3 w118 w0.heap.size (fun k_ => (P2_ k_ ∨ w.heap.size ≤ k_) ∧ some k_ ≠ (v237 : Value).ownBlock ∧ some k_ ≠ (v240 : Value).ownBlock ∧ some k_ ≠ (u9 : Value).ownBlock) (.slice Ao12 l2.length co12) l2) := ⟨h3_⟩
   have n4_ : Aside0 (Kd.R (Kd.int .i64) 3 w118 w0.heap.size (fun k_ => (P2_ k_ ∨ w.heap.size ≤ k_) ∧ some k_ ≠ (v237 : Value).ownBlock ∧ some k_ ≠ (v240 : Value).ownBlock ∧ some k_ ≠ (.slice Ao12 l2.length co12 : Value).ownBlock) u9 x9_1) := ⟨h4_⟩
   have n5_ : Aside0 (w118.heap[gb218]? = some (.cells #[.slice (some ad225) l0_0.length c0_0] 29 (0, 0))) := ⟨h5_⟩
   have n6_ : Aside0 (w118.heap[gb229]? = some (.cells #[.slice (some ⟨go108, 0, none⟩) t226.length co103] 29 (0, 0))) := ⟨h6_⟩
   have n7_ : Aside0 (Kept w w118 (fun k_ => P2_ k_)) := ⟨h7_⟩
   have n8_ : Aside0 (Below w0.heap.size w0 w118) := ⟨h8_⟩
   clear HO_2 HO_9 HO228 BK218 BK229 HK HB h0_ h1_ h2_ h3_ h4_ h5_ h6_ h7_ h8_
   have HO228 := n0_
   have HO238 := n1_
   have HO241 := n2_
   have HO_2 := n3_
   have HO_9 := n4_
   have BK218 := n5_
   have BK229 := n6_
   have HK := n7_
   have HB := n8_
   clear n0_ n1_ n2_ n3_ n4_ n5_ n6_ n7_ n8_
   have hHeld : w118.cell? ⟨gb229, 0, none⟩ = some (.slice (some ⟨go108, 0, none⟩) t226.length co103) := hS_
   obtain ⟨Ao120, co120, eo120⟩ := Kd.R_slice HO241.out
   (first | subst eo120 | (injection eo120 with f1_ f2_ f3_; have f4_ := f1_.symm; have f5_ := f3_.symm; clear f1_ f2_ f3_; subst f4_; subst f5_))
   refine norm_ (a' := ?_) ?_ ?_
   rotate_left
   ·simp only [putAll, Act.put, List.setIfInBounds_toArray, List.set_cons_zero, List.set_cons_succ]
    rfl
   refine one_ (i := 6) (N := some 64) #[true, true, true, true, true, true, true, false, false, false, false, false, false] rfl rfl (one_of HT_.out (by kernel_rfl)) (by decide) (fun K hK => ?_)
   refine Kd.R_append_rows_step (Kd.int .i64) (w0 := w0) w0.heap.size (by rfl) (.tmp 61) (.tmp 63) 25 3 (.int .i64 0) 8 rfl Try.underlying25 info3 rfl (by decide) (by omega) v237 t236 y239 _ _ _ (fun k_ => (P2_ k_ ∨ w.heap.size ≤ k_) ∧ some k_ ≠ (.slice Ao12 l2.length co12 : Value).ownBlock ∧ some k_ ≠ (u9 : Value).ownBlock ∧ some k_ ≠ (.slice Ao120 y239.length co120 : Value).ownBlock) (fun _ => False) rfl rfl ?aO ?aR (fun _ _ h => h) (fun _ h => h.elim) ?aF ?aB ?aS ?aL ?_
   (case aR => exact cdl (Kd.R_reads' HO241.out).2.2)
   (case aB => exact (bel2 HB GE218 GE229))
   (case aF => exact (fun k_ hk => ⟨(.inr (Nat.le_trans (by first | exact HK.out.1 | exact (show Kept w _ (fun k_ => P2_ k_) from by repeat (first | (with_reducible first | exact HK.out | apply Kept.alloc | apply Kept.drewN | apply Kept.drew | refine Kept.setCell ?_ (.inr GW218.out) _ | refine Kept.setCell ?_ (.inr GW229.out) _) | exact HK.out)).1) hk)), Kd.fresh' (Kd.R_lt (rdl HO_2)) k_ hk, Kd.fresh' (Kd.R_lt (rdl HO_9)) k_ hk, Kd.fresh' (Kd.R_lt (rdl HO241)) k_ hk⟩))
   (case aO => exact (by (with_reducible repeat (first | apply Kd.R_alloc | apply Kd.R_drewN | apply Kd.R_drew)); exact Kd.R_mono HO238.out (fun _ hk => ⟨hk.1, ⟨hk.2.2.1, ⟨hk.2.2.2, hk.2.1⟩⟩⟩)))
   (case aS => exact (below_size (bel2 HB GE218 GE229)))
   (case aL => have := LMc26.out; omega)
   intro v243 w119 ho hb hg hat
   rw [← Ny242.out] at ho
   have n0_ := Aside0.mk (Kd.R_after (ok := (fun k_ => (P2_ k_ ∨ w.heap.size ≤ k_) ∧ some k_ ≠ (u9 : Value).ownBlock ∧ some k_ ≠ (.slice Ao120 y239.length co120 : Value).ownBlock)) (by (with_reducible repeat (first | apply Kd.R_alloc | apply Kd.R_drewN | apply Kd.R_drew)); exact Kd.R_mono HO_2.out (fun _ hk => ⟨⟨hk.1, ⟨hk.2.2.2, hk.2.2.1⟩⟩, hk.2.1⟩)) hg hat)
   have n1_ := Aside0.mk (Kd.R_after (ok := (fun k_ => (P2_ k_ ∨ w.heap.size ≤ k_) ∧ some k_ ≠ (.slice Ao12 l2.length co12 : Value).ownBlock ∧ some k_ ≠ (.slice Ao120 y239.length co120 : Value).ownBlock)) (by (with_reducible repeat (first | apply Kd.R_alloc | apply Kd.R_drewN | apply Kd.R_drew)); exact Kd.R_mono HO_9.out (fun _ hk => ⟨⟨hk.1, ⟨hk.2.2.2, hk.2.2.1⟩⟩, hk.2.1⟩)) hg hat)
   have n2_ := Aside0.mk (blk_grown (g := gb218) (o := .cells #[.slice (some ad225) l0_0.length c0_0] 29 (0, 0)) (bkl BK218) hg (Kd.R_ne HO238.out BK218.out (by decide)))
   have n3_ := Aside0.mk (blk_grown (g := gb229) (o := .cells #[.slice (some ⟨go108, 0, none⟩) t226.length co103] 29 (0, 0)) (bkl BK229) hg (Kd.R_ne HO238.out BK229.out (by decide)))
   have n4_ := Aside0.mk (Kd.S_after (ok := (fun k_ => (P2_ k_ ∨ w.heap.size ≤ k_) ∧ some k_ ≠ (.slice Ao12 l2.length co12 : Value).ownBlock ∧ some k_ ≠ (u9 : Value).ownBlock ∧ some k_ ≠ (.slice Ao120 y239.length co120 : Value).ownBlock)) (by (with_reducible repeat (first | apply Kd.S_alloc | apply Kd.S_drewN | apply Kd.S_drew)); exact Kd.S_mono HO228.out (fun _ hk => ⟨⟨hk.1, ⟨hk.2.2.2.1, ⟨hk.2.2.2.2, hk.2.2.1⟩⟩⟩, hk.2.1⟩)) hg hat)
   have n5_ := Aside0.mk (Kd.R_after (ok := (fun k_ => (P2_ k_ ∨ w.heap.size ≤ k_) ∧ some k_ ≠ (.slice Ao12 l2.length co12 : Value).ownBlock ∧ some k_ ≠ (u9 : Value).ownBlock)) (by (with_reducible repeat (first | apply Kd.R_alloc | apply Kd.R_drewN | apply Kd.R_drew)); exact Kd.R_mono HO241.out (fun _ hk => ⟨⟨hk.1, ⟨hk.2.2.1, hk.2.2.2⟩⟩, hk.2.1⟩)) hg hat)
   have n6_ := Aside0.mk (hb)
   have n7_ := Aside0.mk (Kept.of_grown (S := (fun k_ => P2_ k_)) hg (by repeat (first | (with_reducible first | exact HK.out | apply Kept.alloc | apply Kept.drewN | apply Kept.drew | refine Kept.setCell ?_ (.inr GW218.out) _ | refine Kept.setCell ?_ (.inr GW229.out) _) | exact HK.out)) (fun k_ e_ => (HO238.out.1 k_ e_).1))
   have n8_ := Aside0.mk (ho)
   clear HO_2 HO_9 BK218 BK229 HO228 HO241 HB HK HO238
   have HO_2 := n0_
   have HO_9 := n1_
   have BK218 := n2_
   have BK229 := n3_
   have HO228 := n4_
   have HO241 := n5_
   have HB := n6_
   have HK := n7_
   have HO244 := n8_
   clear n0_ n1_ n2_ n3_ n4_ n5_ n6_ n7_ n8_ ho hb hg hat
   obtain ⟨Ao121, co121, eo121⟩ := Kd.R_slice HO244.out
   (first | subst eo121 | (injection eo121 with f1_ f2_ f3_; have f4_ := f1_.symm; have f5_ := f3_.symm; clear f1_ f2_ f3_; subst f4_; subst f5_))
   refine hK.out _ _ ((blk_cell BK229.out 0).trans rfl) (fun hHeld => ?_)
   clear hK K
   refine norm_ (a' := ?_) ?_ ?_
   rotate_left
   ·show Act.put _ (some 64) _ = _
    simp only [putS]
    rfl
   refine one_ (i := 7) (N := some 65) #[true, true, true, true, true, true, true, true, false, false, false, false, false] rfl rfl (one_of HT_.out (by kernel_rfl)) (by decide) (fun K hK => ?_)
   refine goes_ Try.func16 (by kernel_rfl) rfl #[.agg #[.slice (some ⟨go108, 0, none⟩) y235.length co103], .slice (some ad231) l1.length c1, .slice Ao121 y242.length co121] (by rfl) rfl rfl (by (try simp only [List.map_toArray, List.map_cons, List.map_nil]); first | done | (rw [show y235.length = t226.length from (Kd.S_reads' HO228.out).1.symm] <;> rfl) | rfl | (simp only [List.length_drop, List.length_take]; rfl)) ?_
   with_reducible refine (ih k1 (by have := HK1.out; omega) _ _ y235 _ _ l1 (fun k_ => some k_ = (.slice Ao121 y242.length co121 : Value).ownBlock) (.slice Ao121 y242.length co121) y242 t245 t248 w0 _ ?side1 ?side2 ?side3 ?side4 ?side5 ?side6 A27.out).mono ?_
   (case side1 => repeat (first | (with_reducible first | exact HB.out | apply below_alloc | apply pw_below_drewN | apply below_drew1 | refine below_set ?_ GE218.out | refine below_set ?_ GE229.out) | exact HB.out))
   (case side2 => have h_ := HO228.out; rw [← show y235.length = t226.length from (Kd.S_reads' HO228.out).1.symm] at h_; exact Kd.C_kept_own (Kd.S_R h_) (fun k_ hk_ hs_ => (hk_.2) hs_))
   (case side3 => rw [show y235.length = t226.length from (Kd.S_reads' HO228.out).1.symm]; exact (Kd.S_reads' HO228.out).2.1)
   (case side4 => exact Kd.C_kept_call HR1.out (by repeat (first | (with_reducible first | exact HK.out | apply Kept.alloc | apply Kept.drewN | apply Kept.drew | refine Kept.setCell ?_ (.inr GW218.out) _ | refine Kept.setCell ?_ (.inr GW229.out) _) | exact HK.out)) (fun k_ hs_ => (fun e_ => (HO244.out.1 k_ e_.symm).1) hs_))
   (case side5 => exact HC1.out)
   (case side6 => exact Kd.R_tight rfl HO244.out)
   rintro e w122 ⟨v246, rfl, ho0, hb, hkp⟩
   refine ⟨_, rfl, ?_⟩
   have n0_ := Aside0.mk (Kd.R_mono (ok' := fun k_ => (P2_ k_ ∨ w.heap.size ≤ k_) ∧ some k_ ≠ (u9 : Value).ownBlock ∧ some k_ ≠ (.slice Ao120 y239.length co120 : Value).ownBlock ∧ some k_ ≠ (v246 : Value).ownBlock) (Kd.R_keptB (HO_2.out) hkp (fun k_ hk_ hs_ => (hk_.2) hs_)) (fun k_ hk_ => ⟨hk_.1.1.1, hk_.1.1.2.1, hk_.1.1.2.2, fun e_ => Or.elim (ho0.1 k_ e_.symm) (fun hs_ => hk_.2.1 hs_) (fun hn_ => Nat.not_le.2 hk_.2.2 hn_)⟩))
   have n1_ := Aside0.mk (Kd.R_mono (ok' := fun k_ => (P2_ k_ ∨ w.heap.size ≤ k_) ∧ some k_ ≠ (.slice Ao12 l2.length co12 : Value).ownBlock ∧ some k_ ≠ (.slice Ao120 y239.length co120 : Value).ownBlock ∧ some k_ ≠ (v246 : Value).ownBlock) (Kd.R_keptB (HO_9.out) hkp (fun k_ hk_ hs_ => (hk_.2) hs_)) (fun k_ hk_ => ⟨hk_.1.1.1, hk_.1.1.2.1, hk_.1.1.2.2, fun e_ => Or.elim (ho0.1 k_ e_.symm) (fun hs_ => hk_.2.1 hs_) (fun hn_ => Nat.not_le.2 hk_.2.2 hn_)⟩))
   have n2_ := Aside0.mk (blk_kept (bkl BK218) hkp (fun hs_ => (fun e_ => (Kd.R_ne HO244.out BK218.out (by decide)) e_) hs_))
   have n3_ := Aside0.mk (blk_kept (bkl BK229) hkp (fun hs_ => (fun e_ => (Kd.R_ne HO244.out BK229.out (by decide)) e_) hs_))
   have n4_ := Aside0.mk (Kd.S_mono (ok' := fun k_ => (P2_ k_ ∨ w.heap.size ≤ k_) ∧ some k_ ≠ (.slice Ao12 l2.length co12 : Value).ownBlock ∧ some k_ ≠ (u9 : Value).ownBlock ∧ some k_ ≠ (.slice Ao120 y239.length co120 : Value).ownBlock ∧ some k_ ≠ (v246 : Value).ownBlock) (Kd.S_keptB (HO228.out) hkp (fun k_ hk_ hs_ => (hk_.2) hs_)) (fun k_ hk_ => ⟨hk_.1.1.1, hk_.1.1.2.1, hk_.1.1.2.2.1, hk_.1.1.2.2.2, fun e_ => Or.elim (ho0.1 k_ e_.symm) (fun hs_ => hk_.2.1 hs_) (fun hn_ => Nat.not_le.2 hk_.2.2 hn_)⟩))
   have n5_ := Aside0.mk (Kd.R_mono (ok' := fun k_ => (P2_ k_ ∨ w.heap.size ≤ k_) ∧ some k_ ≠ (.slice Ao12 l2.length co12 : Value).ownBlock ∧ some k_ ≠ (u9 : Value).ownBlock ∧ some k_ ≠ (v246 : Value).ownBlock) (Kd.R_keptB (HO241.out) hkp (fun k_ hk_ hs_ => (hk_.2) hs_)) (fun k_ hk_ => ⟨hk_.1.1.1, hk_.1.1.2.1, hk_.1.1.2.2, fun e_ => Or.elim (ho0.1 k_ e_.symm) (fun hs_ => hk_.2.1 hs_) (fun hn_ => Nat.not_le.2 hk_.2.2 hn_)⟩))
   have n6_ := Aside0.mk (Kd.R_mono (ok' := fun k_ => (P2_ k_ ∨ w.heap.size ≤ k_) ∧ some k_ ≠ (.slice Ao12 l2.length co12 : Value).ownBlock ∧ some k_ ≠ (u9 : Value).ownBlock ∧ some k_ ≠ (.slice Ao120 y239.length co120 : Value).ownBlock) ho0 (fun k_ hk_ => ⟨Or.elim hk_ (fun hs_ => (HO244.out.1 k_ (hs_).symm).1) (fun hn_ => (.inr (Nat.le_trans (by first | exact HK.out.1 | exact (show Kept w _ (fun k_ => P2_ k_) from by repeat (first | (with_reducible first | exact HK.out | apply Kept.alloc | apply Kept.drewN | apply Kept.drew | refine Kept.setCell ?_ (.inr GW218.out) _ | refine Kept.setCell ?_ (.inr GW229.out) _) | exact HK.out)).1) hn_))), Or.elim hk_ (fun hs_ => fun e_ => (((HO_2.out).1 k_ e_.symm).2) hs_) (fun hn_ => (Kd.fresh' (Kd.R_lt (rdl HO_2)) k_ hn_)), Or.elim hk_ (fun hs_ => fun e_ => (((HO_9.out).1 k_ e_.symm).2) hs_) (fun hn_ => (Kd.fresh' (Kd.R_lt (rdl HO_9)) k_ hn_)), Or.elim hk_ (fun hs_ => fun e_ => (((HO241.out).1 k_ e_.symm).2) hs_) (fun hn_ => (Kd.fresh' (Kd.R_lt (rdl HO241)) k_ hn_))⟩))
   have n7_ := Aside0.mk (Kept.then_ (S := (fun k_ => P2_ k_)) (by repeat (first | (with_reducible first | exact HK.out | apply Kept.alloc | apply Kept.drewN | apply Kept.drew | refine Kept.setCell ?_ (.inr GW218.out) _ | refine Kept.setCell ?_ (.inr GW229.out) _) | exact HK.out)) hkp (fun k_ hs_ => (fun e_ => (HO244.out.1 k_ e_.symm).1) hs_))
   have n8_ := Aside0.mk (hb)
   clear HO_2 HO_9 BK218 BK229 HO228 HO241 HK HB HO244
   have HO_2 := n0_
   have HO_9 := n1_
   have BK218 := n2_
   have BK229 := n3_
   have HO228 := n4_
   have HO241 := n5_
   have HO247 := n6_
   have HK := n7_
   have HB := n8_
   clear n0_ n1_ n2_ n3_ n4_ n5_ n6_ n7_ n8_
   (try clear hb)
   (try clear hkp)
   (try clear ho0)
   refine hK.out _ _ ((blk_cell BK229.out 0).trans rfl) (fun hHeld => ?_)
   clear hK K
   refine norm_ (a' := ?_) ?_ ?_
   rotate_left
   ·show Act.put _ (some 65) _ = _
    simp only [putS]
    rfl
   refine pure_ (i := 8) (N := some 57) (v := ?_) (a' := ?_) #[true, true, true, true, true, true, true, true, true, false, false, false, false] rfl rfl (any_of HT_.out (by kernel_rfl)) (fun _ _ _ h => h) (Or.inl ⟨by rfl, ?_⟩) ?_ ?_
   rotate_left
   ·intro w'
    go_simp
    with_reducible rfl
   rotate_left
   ·simp only [putS]
    rfl
   refine pure_ (i := 9) (N := some 66) (v := ?_) (a' := ?_) #[true, true, true, true, true, true, true, true, true, true, false, false, false] rfl rfl (any_of HT_.out (by kernel_rfl)) (fun _ _ _ h => h) (Or.inl ⟨by rfl, ?_⟩) ?_ ?_
   rotate_left
   ·intro w'
    go_simp
    with_reducible rfl
   rotate_left
   ·simp only [putS]
    rfl
   refine pure_ (i := 10) (N := some 67) (v := ?_) (a' := ?_) #[true, true, true, true, true, true, true, true, true, true, true, false, false] rfl rfl (any_of HT_.out (by kernel_rfl)) (fun _ _ _ h => h) (Or.inl ⟨by rfl, ?_⟩) ?_ ?_
   rotate_left
   ·intro w'
    go_simp
    with_reducible rfl
   rotate_left
   ·simp only [putS]
    rfl
   refine pure_ (i := 11) (N := some 13) (v := ?_) (a' := ?_) #[true, true, true, true, true, true, true, true, true, true, true, true, false] rfl rfl (any_of HT_.out (by kernel_rfl)) (fun _ _ _ h => h) (Or.inl ⟨by rfl, ?_⟩) ?_ ?_
   rotate_left
   ·intro w'
    go_simp
    with_reducible rfl
   rotate_left
   ·simp only [putS]
    rfl
   refine pure_ (i := 12) (N := some 14) (v := ?_) (a' := ?_) #[true, true, true, true, true, true, true, true, true, true, true, true, true] rfl rfl (any_of HT_.out (by kernel_rfl)) (fun _ _ _ h => h) (Or.inl ⟨by rfl, ?_⟩) ?_ ?_
   rotate_left
   ·intro w'
    go_simp
    with_reducible rfl
   rotate_left
   ·simp only [putS]
    rfl
   refine done_ (done_of HT_.out (by kernel_rfl)) ?_
   try go_wp2
   go_roundg k1
   case measure => have := HK1.out; omega
   case rel => exact ⟨(x9_1), (x10_1), (wrap64 (x11_1 + 1)), (by first | rfl | (simp; done) | (simp [*]; done)), (by first | rfl | (simp; done) | (simp [*]; done)), H', ⟨by have := HK1.out; omega⟩, ⟨by (with_reducible repeat (first | apply Kd.R_alloc | apply Kd.R_drewN | apply Kd.R_drew)); exact Kd.R_mono HO_2.out (fun _ hk => ⟨hk.1, hk.2.1⟩)⟩, ⟨by (with_reducible repeat (first | apply Kd.R_alloc | apply Kd.R_drewN | apply Kd.R_drew)); exact Kd.R_mono HO_9.out (fun _ hk => ⟨hk.1, hk.2.1⟩)⟩, ⟨bkl BK218⟩, ⟨by repeat (first | (with_reducible first | exact HK.out | apply Kept.alloc | apply Kept.drewN | apply Kept.drew | refine Kept.setCell ?_ (.inr GW218.out) _ | refine Kept.setCell ?_ (.inr GW229.out) _) | exact HK.out)⟩, ⟨bel2 HB GE218 GE229⟩⟩
  rw [if_pos c28] at H
  have c28b0 : decide (0 ≤ t248) = true := decide_eq_true c28
  clear c28
  by_cases c29 : x10_1 < 0
  ·rw [if_pos c29] at H
   have c29b0 : decide (x10_1 < 0) = true := decide_eq_true c29
   clear c29
   have H' := Aside0.mk H
   clear H
   have hcz30_0 : wr.cell? ⟨gb218, 0, none⟩ = some (.slice A0_0 l0_0.length c0_0) := (blk_cell BK218.out 0).trans rfl
   have hfz30_0 := blk_frozen BK218.out 0
   have p225 : 0 ≤ (x11_1 : Int) := oda
   have q225 : x11_1 < (l0_0.length : Int) := oda
   obtain ⟨ad225, A225_0, c225_0, e225, hx225_0, hl225_0, hi225_0⟩ := at_L1 (Kd.C_kept_now HR0_0.out HK.out) x11_1 p225 q225
   cases e225
   have HR225_0 := Aside0.mk hi225_0
   have HC225_0 := Aside0.mk hl225_0
   clear hi225_0 hl225_0
   replace p225 := eq_true p225
   replace q225 := eq_true q225
   try go_wp2_with (first | ((with_reducible refine gate_callee (f := 29) rfl ?_); refine goesL_ (some 41) rfl rfl Try.func29 (by kernel_rfl) rfl #[.agg #[.slice (some ad225) l0_0.length c0_0]] rfl gmp ?_; (with_reducible refine (spec_l5Own.calls k1 _ _ l0_0 t226 _ ?side1 ?side2 A19.out).mono ?_); (case side1 => exact Kd.C_kept_now HR0_0.out (by repeat (first | (with_reducible first | exact HK.out | apply Kept.alloc | apply Kept.drewN | apply Kept.drew | refine Kept.setCell ?_ (.inr GW218.out) _) | exact HK.out))); (case side2 => exact HC0_0.out); rintro e w31 ⟨v227, rfl, ho0, hb⟩; refine ⟨_, rfl, ?_⟩; have n0_ := Aside0.mk (Kd.R_below (rdl HO_2) hb); have n1_ := Aside0.mk (Kd.R_below (rdl HO_9) hb); have n2_ := Aside0.mk (Kd.S_lower (Kd.S_new' (Kd.S_new' (Kd.S_newM (M := fun k_ => (P2_ k_ ∨ w.heap.size ≤ k_)) ho0 (by first | exact HK.out.1 | exact (show Kept w _ (fun k_ => P2_ k_) from by repeat (first | (with_reducible first | exact HK.out | apply Kept.alloc | apply Kept.drewN | apply Kept.drew | refine Kept.setCell ?_ (.inr GW218.out) _) | exact HK.out)).1) (fun k_ h_ => .inr h_)) (Kd.R_lt (rdl HO_2))) (Kd.R_lt (rdl HO_9))) (below_size (bel1 HB GE218))); have n3_ := Aside0.mk (blk_below (g := gb218) (o := .cells #[.slice (some ad225) l0_0.length c0_0] 29 (0, 0)) (bkl BK218) hb); have n4_ := Aside0.mk (Kd.C_below (cdl HR225_0.out) hb); have n5_ := Aside0.mk (Kept.below (S := (fun k_ => P2_ k_)) (by repeat (first | (with_reducible first | exact HK.out | apply Kept.alloc | apply Kept.drewN | apply Kept.drew | refine Kept.setCell ?_ (.inr GW218.out) _) | exact HK.out)) hb); have n6_ := Aside0.mk (below_step (bel1 HB GE218) hb); clear HO_2; clear HO_9; clear BK218; clear HR225_0; clear HK; clear HB; have HO_2 := n0_; have HO_9 := n1_; have HO228 := n2_; have BK218 := n3_; have HR225_0 := n4_; have HK := n5_; have HB := n6_; clear n0_ n1_ n2_ n3_ n4_ n5_ n6_; (try clear hb); (try clear hb2); (try clear hk); (try clear hi); (try clear ho0)) | ((with_reducible refine gate_dst (N := 12) rfl ?_); refine box_event ?hg (N := 12) ?hd (cs := #[.slice none 0 0]) (t := 29) ?hr ?_; (case hd => rfl); (case hg => rfl); (case hr => first | (go_simp; done) | (go_simp; rfl)); intro gb229 hg w32 hbox hb; have n0_ := Aside0.mk (Kd.R_below (rdl HO_2) hb); have n1_ := Aside0.mk (Kd.R_below (rdl HO_9) hb); have n2_ := Aside0.mk (Kd.S_below (sdl HO228) hb); have n3_ := Aside0.mk (blk_below (g := gb218) (o := .cells #[.slice (some ad225) l0_0.length c0_0] 29 (0, 0)) (bkl BK218) hb); have n4_ := Aside0.mk (Kd.C_below (cdl HR225_0.out) hb); have n5_ := Aside0.mk (Kept.below (S := (fun k_ => P2_ k_)) (by repeat (first | (with_reducible first | exact HK.out | apply Kept.alloc | apply Kept.drewN | apply Kept.drew | refine Kept.setCell ?_ (.inr GW218.out) _) | exact HK.out)) hb); have n6_ := Aside0.mk (below_step (bel1 HB GE218) hb); have n7_ := Aside0.mk (hbox); have n8_ := Aside0.mk ((by rw [hg]; exact (by first | exact HK.out.1 | exact (show Kept w _ (fun k_ => P2_ k_) from by repeat (first | (with_reducible first | exact HK.out | apply Kept.alloc | apply Kept.drewN | apply Kept.drew | refine Kept.setCell ?_ (.inr GW218.out) _) | exact HK.out)).1) : w.heap.size ≤ gb229)); have n9_ := Aside0.mk ((by rw [hg]; exact (below_size (bel1 HB GE218)) : w0.heap.size ≤ gb229)); have n10_ := Aside0.mk ((by rw [hg]; exact Nat.ne_of_lt (blk_lt (g := gb218) (o := .cells #[.slice (some ad225) l0_0.length c0_0] 29 (0, 0)) (bkl BK218)) : gb218 ≠ gb229)); have n11_ := Aside0.mk ((by rw [hg]; exact Nat.ne_of_gt (blk_lt (g := gb218) (o := .cells #[.slice (some ad225) l0_0.length c0_0] 29 (0, 0)) (bkl BK218)) : gb229 ≠ gb218)); clear HO_2; clear HO_9; clear HO228; clear BK218; clear HR225_0; clear HK; clear HB; have HO_2 := n0_; have HO_9 := n1_; have HO228 := n2_; have BK218 := n3_; have HR225_0 := n4_; have HK := n5_; have HB := n6_; have BK229 := n7_; have GW229 := n8_; have GE229 := n9_; have NB218_229 := n10_; have NB229_218 := n11_; clear n0_ n1_ n2_ n3_ n4_ n5_ n6_ n7_ n8_ n9_ n10_ n11_; clear hb hbox hg; obtain ⟨Ao33, co33, eo33⟩ := Kd.S_slice HO228.out; subst eo33; have hnb34 := NB229_218.out; have hnc34 := NB218_229.out; have hcz35_0 : w32.cell? ⟨gb229, 0, none⟩ = some (.slice none 0 0) := (blk_cell BK229.out 0).trans rfl; have hfz35_0 := blk_frozen BK229.out 0))
   have n0_ : Aside0 (Kd.R (Kd.int .i64) 3 (w32.setCell ⟨gb229, 0, none⟩ (.slice Ao33 t226.length co33)) w0.heap.size (fun k_ => (P2_ k_ ∨ w.heap.size ≤ k_) ∧ some k_ ≠ (u9 : Value).ownBlock) (.slice Ao12 l2.length co12) l2) := ⟨by (with_reducible repeat (first | apply Kd.R_alloc | apply Kd.R_drewN | apply Kd.R_drew)); exact Kd.R_mono (Kd.R_far (p := ⟨gb229, 0, none⟩) (Kd.R_types HO_2.out BK229.out (by decide)) (fun _ hk => hk.2) (.slice Ao33 t226.length co33)) (fun _ hk => ⟨hk.1.1, hk.1.2⟩)⟩
   have n1_ : Aside0 (Kd.R (Kd.int .i64) 3 (w32.setCell ⟨gb229, 0, none⟩ (.slice Ao33 t226.length co33)) w0.heap.size (fun k_ => (P2_ k_ ∨ w.heap.size ≤ k_) ∧ some k_ ≠ (.slice Ao12 l2.length co12 : Value).ownBlock) u9 x9_1) := ⟨by (with_reducible repeat (first | apply Kd.R_alloc | apply Kd.R_drewN | apply Kd.R_drew)); exact Kd.R_mono (Kd.R_far (p := ⟨gb229, 0, none⟩) (Kd.R_types HO_9.out BK229.out (by decide)) (fun _ hk => hk.2) (.slice Ao33 t226.length co33)) (fun _ hk => ⟨hk.1.1, hk.1.2⟩)⟩
   have n2_ : Aside0 (Kd.S (Kd.slice 3 (Kd.int .i64)) 25 (w32.setCell ⟨gb229, 0, none⟩ (.slice Ao33 t226.length co33)) w0.heap.size (fun k_ => (P2_ k_ ∨ w.heap.size ≤ k_) ∧ some k_ ≠ (.slice Ao12 l2.length co12 : Value).ownBlock ∧ some k_ ≠ (u9 : Value).ownBlock) (.slice Ao33 t226.length co33) t226) := ⟨by (with_reducible repeat (first | apply Kd.S_alloc | apply Kd.S_drewN | apply Kd.S_drew)); exact Kd.S_mono (Kd.S_far (p := ⟨gb229, 0, none⟩) (Kd.S_types HO228.out BK229.out (by decide)) (fun _ hk => hk.2) (.slice Ao33 t226.length co33)) (fun _ hk => ⟨hk.1.1.1.1, ⟨hk.1.1.2, hk.1.2⟩⟩)⟩
   have n3_ : Aside0 ((w32.setCell ⟨gb229, 0, none⟩ (.slice Ao33 t226.length co33)).heap[gb218]? = some (.cells #[.slice (some ad225) l0_0.length c0_0] 29 (0, 0))) := ⟨by (with_reducible repeat (first | refine blk_drewN ?_ _ | refine blk_drew ?_ | refine blk_alloc ?_ _)); refine blk_far ?_ NB218_229.out _; (with_reducible repeat (first | refine blk_drewN ?_ _ | refine blk_drew ?_ | refine blk_alloc ?_ _)); exact BK218.out⟩
   have n4_ : Aside0 ((w32.setCell ⟨gb229, 0, none⟩ (.slice Ao33 t226.length co33)).heap[gb229]? = some (.cells #[.slice Ao33 t226.length co33] 29 (0, 0))) := ⟨by (with_reducible repeat (first | refine blk_drewN ?_ _ | refine blk_drew ?_ | refine blk_alloc ?_ _)); refine blk_put (cs := #[.slice none 0 0]) ?_ 0 _ rfl; (with_reducible repeat (first | refine blk_drewN ?_ _ | refine blk_drew ?_ | refine blk_alloc ?_ _)); exact BK229.out⟩
   have n5_ : Aside0 (Kept w (w32.setCell ⟨gb229, 0, none⟩ (.slice Ao33 t226.length co33)) (fun k_ => P2_ k_)) := ⟨by repeat (first | (with_reducible first | exact HK.out | apply Kept.alloc | apply Kept.drewN | apply Kept.drew | refine Kept.setCell ?_ (.inr GW218.out) _ | refine Kept.setCell ?_ (.inr GW229.out) _) | exact HK.out)⟩
   have n6_ : Aside0 (Below w0.heap.size w0 (w32.setCell ⟨gb229, 0, none⟩ (.slice Ao33 t226.length co33))) := ⟨bel2 HB GE218 GE229⟩
   (try clear HO_2)
   (try clear HO_9)
   (try clear HO228)
   (try clear BK218)
   (try clear BK229)
   (try clear HK)
   (try clear HB)
   generalize (w32.setCell ⟨gb229, 0, none⟩ (.slice Ao33 t226.length co33)) = w36 at n0_ n1_ n2_ n3_ n4_ n5_ n6_ ⊢
   have HO_2 := n0_
   have HO_9 := n1_
   have HO228 := n2_
   have BK218 := n3_
   have BK229 := n4_
   have HK := n5_
   have HB := n6_
   clear n0_ n1_ n2_ n3_ n4_ n5_ n6_
   have n0_ := Aside0.mk (Kd.R_drew HO_2.out)
   have n1_ := Aside0.mk (Kd.R_drew HO_9.out)
   have n2_ := Aside0.mk (Kd.S_drew HO228.out)
   have n3_ := Aside0.mk (blk_drew BK218.out)
   have n4_ := Aside0.mk (blk_drew BK229.out)
   have n5_ := Aside0.mk (Kept.drew HK.out)
   have n6_ := Aside0.mk (below_drew1 HB.out)
   clear HO_2 HO_9 HO228 BK218 BK229 HK HB
   have HO_2 := n0_
   have HO_9 := n1_
   have HO228 := n2_
   have BK218 := n3_
   have BK229 := n4_
   have HK := n5_
   have HB := n6_
   clear n0_ n1_ n2_ n3_ n4_ n5_ n6_
   have p230 : 0 ≤ (x11_1 : Int) := oda
   have q230 : x11_1 < (t226.length : Int) := oda
   obtain ⟨ad230, A230_0, c230_0, e230, hx230_0, hl230_0, hi230_0⟩ := at_L1 (Kd.S_reads' HO228.out).2.2 x11_1 p230 q230
   cases e230
   obtain ⟨ce230, hce230, hMe230, hcc230⟩ := Kd.S_get HO228.out [] x11_1 p230 (by first | exact q230 | exact oda | (have e_ := (Kd.S_reads' HO228.out).1; omega))
   obtain ⟨ve230_0, rfl, ge230_0⟩ := hMe230
   have hv230_0 := hcc230 0 _ rfl
   rw [Nat.add_zero, show ((Kd.slice 3 (Kd.int .i64))).sz = 1 from rfl, Nat.mul_one] at hv230_0
   replace hv230_0 := Option.some.inj (hv230_0.symm.trans hx230_0)
   rw [hv230_0] at ge230_0
   have HL230_0 := Aside0.mk (show Kd.R (Kd.int .i64) 3 _ _ _ _ (rd_L1 t226 x11_1) from ge230_0)
   clear hv230_0 ge230_0
   have HX230_0 := Aside0.mk hx230_0
   clear hcc230 hce230
   have HR230_0 := Aside0.mk hi230_0
   have HC230_0 := Aside0.mk hl230_0
   clear hi230_0 hl230_0
   replace p230 := eq_true p230
   replace q230 := eq_true q230
   have p231 : 0 ≤ ((l2.length : Int) : Int) := oda
   have q231 : (l2.length : Int) < (l1.length : Int) := oda
   obtain ⟨ad231, e231, hx231_0⟩ := Kd.at_int (Kd.C_kept_now HR1.out HK.out) (l2.length : Int) p231 q231
   have hw231_0 := hx231_0
   cases e231
   (try simp only [Go.IntWalk.toNatUp] at hx231_0)
   replace p231 := eq_true p231
   replace q231 := eq_true q231
   obtain ⟨go38, co38, eo38, gb38, gl38, cl38, HG38⟩ := Kd.S_form HO228.out (by have h_ : (x11_1 : Int) < ((t226.length : Int) : Int) := oda; have h2_ : 0 ≤ (x11_1 : Int) := (oda); omega)
   (first | cases eo38 | (injection eo38 with ea_ en_ ec_; (first | subst ea_ | (injection ea_ with ea_; subst ea_)); subst ec_; clear en_))
   have GB38 := Aside0.mk gb38
   have GG38 := Aside0.mk HG38
   clear gb38 gl38 HG38
   have HMgo38 := Aside0.mk (show (P2_ go38 ∨ w.heap.size ≤ go38) from ((Kd.S_R HO228.out).1 _ rfl).1)
   (first | simp only [add_plain] at hx230_0 | skip)
   obtain ⟨oki38, ce38, hcl38, hM38, hcc38, _, _, hH38⟩ := Kd.S_elem HO228.out [] (x11_1 : Int) (oda) (by have h_ : (x11_1 : Int) < ((t226.length : Int) : Int) := oda; first | exact h_ | (have e_ := (Kd.S_reads' HO228.out).1; omega) | simpa using h_)
   obtain ⟨ve38_0, rfl, ge38_0⟩ := hM38
   have hv38 := hcc38 0 _ rfl
   have hX38 := HX230_0.out
   (try simp only [add_plain] at hX38)
   (try simp only [Nat.add_zero] at hv38)
   (try rw [show ((Kd.slice 3 (Kd.int .i64))).sz = 1 from rfl, Nat.mul_one] at hv38)
   replace hv38 := Option.some.inj (hv38.symm.trans hX38)
   subst hv38
   clear hX38 hcc38 hcl38
   have UU38 := Aside0.mk (show Kd.R (Kd.int .i64) 3 _ w0.heap.size oki38 (.slice A230_0 (rd_L1 t226 x11_1).length c230_0) (rd_L1 t226 x11_1) from ge38_0)
   have HH38 := Aside0.mk hH38
   have HN38 := Aside0.mk (Kd.S_reads' HO228.out).1
   clear hH38 ge38_0
   refine start_ (n := 16) (S := fun w' => w'.cell? ⟨gb229, 0, none⟩ = some (.slice (some ⟨go38, 0, none⟩) t226.length co33) ∧ w'.cell? ⟨go38, (x11_1).toNat, none⟩ = some (.slice A230_0 (rd_L1 t226 x11_1).length c230_0) ∧ w'.cell? (ad231.add ((l2.length : Int)).toNat) = some (.int .i64 (rd l1 (l2.length : Int)))) (ds := [15]) #[false, false, false, false, false, false, false, false, false, false, false, false, false, false, false, false] (by kernel_rfl) rfl rfl ⟨(blk_cell BK229.out 0).trans rfl, hx230_0, (Kd.foot_int (HR1.out _ (by repeat (first | exact HK.out | apply Kept.alloc | apply Kept.drewN | apply Kept.drew | refine Kept.setCell ?_ HMgo38.out _))) (l2.length : Int) (of_eq_true p231) (of_eq_true q231))⟩ (fun hHeld => ?_); refine with_tabW spec_l8Best.tab10 spec_l8Best.bits10 (fun HT_ HW_ => ?_)
   generalize w36.drew = w37 at HO_2 HO_9 HO228 BK218 BK229 HK HB GG38 HH38 HL230_0 HR230_0 HX230_0 UU38 hx230_0 hx231_0 hHeld ⊢
   refine pure_ (i := 0) (N := some 42) (v := ?_) (a' := ?_) #[true, false, false, false, false, false, false, false, false, false, false, false, false, false, false, false] rfl rfl (any_of HT_.out (by kernel_rfl)) (fun _ _ _ h => h) (Or.inl ⟨by rfl, ?_⟩) ?_ ?_
   rotate_left
   ·intro w'
    go_simp
    with_reducible rfl
   rotate_left
   ·simp only [putS]
    rfl
   refine pure_ (i := 2) (N := some 44) (v := ?_) (a' := ?_) #[true, false, true, false, false, false, false, false, false, false, false, false, false, false, false, false] rfl rfl (any_of HT_.out (by kernel_rfl)) (fun _ _ _ h => h) (Or.inl ⟨by rfl, ?_⟩) ?_ ?_
   rotate_left
   ·intro w'
    go_simp
    with_reducible rfl
   rotate_left
   ·simp only [putS]
    rfl
   refine pure_ (i := 3) (N := some 45) (v := ?_) (a' := ?_) #[true, false, true, true, false, false, false, false, false, false, false, false, false, false, false, false] rfl rfl (any_of HT_.out (by kernel_rfl)) (fun _ _ _ h => h) (Or.inl ⟨by rfl, ?_⟩) ?_ ?_
   rotate_left
   ·intro w'
    go_simp
    with_reducible rfl
   rotate_left
   ·simp only [putS]
    rfl
   refine pure_ (i := 5) (N := some 47) (v := ?_) (a' := ?_) #[true, false, true, true, false, true, false, false, false, false, false, false, false, false, false, false] rfl rfl (any_of HT_.out (by kernel_rfl)) (fun _ _ _ h => h) (Or.inl ⟨by rfl, ?_⟩) ?_ ?_
   rotate_left
   ·intro w'
    go_simp
    with_reducible rfl
   rotate_left
   ·simp only [putS]
    rfl
   refine pure_ (i := 8) (N := some 50) (v := ?_) (a' := ?_) #[true, false, true, true, false, true, false, false, true, false, false, false, false, false, false, false] rfl rfl (any_of HT_.out (by kernel_rfl)) (fun _ _ _ h => h) (Or.inl ⟨by rfl, ?_⟩) ?_ ?_
   rotate_left
   ·intro w'
    go_simp
    with_reducible rfl
   rotate_left
   ·simp only [putS]
    rfl
   refine pure_ (i := 9) (N := some 51) (v := ?_) (a' := ?_) #[true, false, true, true, false, true, false, false, true, true, false, false, false, false, false, false] rfl rfl (any_of HT_.out (by kernel_rfl)) (fun _ _ _ h => h) (Or.inl ⟨by rfl, ?_⟩) ?_ ?_
   rotate_left
   ·intro w'
    go_simp
    with_reducible rfl
   rotate_left
   ·simp only [putS]
    rfl
   refine pure_ (i := 10) (N := some 52) (v := ?_) (a' := ?_) #[true, false, true, true, false, true, false, false, true, true, true, false, false, false, false, false] rfl rfl (any_of HT_.out (by kernel_rfl)) (fun _ _ _ h => h) (Or.inl ⟨by rfl, ?_⟩) ?_ ?_
   rotate_left
   ·intro w'
    go_simp
    with_reducible rfl
   rotate_left
   ·simp only [putS]
    rfl
   refine take_ (i := 1) (N := some 43) (v := ?_) (a' := ?_) #[true, true, true, true, false, true, false, false, true, true, true, false, false, false, false, false] rfl rfl (take_ofW HT_.out HW_.out (by kernel_rfl)) (fun _ _ _ h => h) (Or.inl ⟨by rfl, ?_⟩) hHeld ?_ ?_
   rotate_left
   ·rintro w' ⟨s0, s1, s2⟩
    (try simp only [Int.toNat_natCast] at s2)
    go_simp
    with_reducible rfl
   rotate_left
   ·simp only [putS]
    rfl
   refine take_ (i := 4) (N := some 46) (v := ?_) (a' := ?_) #[true, true, true, true, true, true, false, false, true, true, true, false, false, false, false, false] rfl rfl (take_ofW HT_.out HW_.out (by kernel_rfl)) (fun _ _ _ h => h) (Or.inl ⟨by rfl, ?_⟩) hHeld ?_ ?_
   rotate_left
   ·rintro w' ⟨s0, s1, s2⟩
    (try simp only [Int.toNat_natCast] at s2)
    go_simp
    with_reducible rfl
   rotate_left
   ·simp only [putS]
    rfl
   refine pure_ (i := 6) (N := some 48) (v := ?_) (a' := ?_) #[true, true, true, true, true, true, true, false, true, true, true, false, false, false, false, false] rfl rfl (any_of HT_.out (by kernel_rfl)) (fun _ _ _ h => h) (Or.inl ⟨by rfl, ?_⟩) ?_ ?_
   rotate_left
   ·intro w'
    go_simp
    with_reducible rfl
   rotate_left
   ·simp only [putS]
    rfl
   refine take_ (i := 7) (N := some 49) (v := ?_) (a' := ?_) #[true, true, true, true, true, true, true, true, true, true, true, false, false, false, false, false] rfl rfl (take_ofW HT_.out HW_.out (by kernel_rfl)) (fun _ _ _ h => h) (Or.inl ⟨by rfl, ?_⟩) hHeld ?_ ?_
   rotate_left
   ·rintro w' ⟨s0, s1, s2⟩
    (try simp only [Int.toNat_natCast] at s2)
    go_simp
    with_reducible rfl
   rotate_left
   ·simp only [putS]
    rfl
   refine take_ (i := 11) (N := some 53) (v := ?_) (a' := ?_) #[true, true, true, true, true, true, true, true, true, true, true, true, false, false, false, false] rfl rfl (take_ofW HT_.out HW_.out (by kernel_rfl)) (fun _ _ _ h => h) (Or.inl ⟨by rfl, ?_⟩) hHeld ?_ ?_
   rotate_left
   ·rintro w' ⟨s0, s1, s2⟩
    (try simp only [Int.toNat_natCast] at s2)
    go_simp
    with_reducible rfl
   rotate_left
   ·simp only [putS]
    rfl
   refine one_ (i := 12) (N := some 54) #[true, true, true, true, true, true, true, true, true, true, true, true, true, false, false, false] rfl rfl (one_of HT_.out (by kernel_rfl)) (by decide) (fun K hK => ?_)
   refine value_ (w1 := ?_) (v := ?_) (by rfl) rfl ?_ ?_
   rotate_left 2
   ·go_simp
    constructor
    ·rfl
    rfl
   refine hK.out _ _ ⟨(blk_cell (blk_alloc BK229.out _) 0).trans rfl, (World.cell?_alloc_lt _ _ _ (World.block_lt_of_cell? _ _ (hHeld.2.1))).trans (hHeld.2.1), (World.cell?_alloc_lt _ _ _ (World.block_lt_of_cell? _ _ ((Kd.foot_int (HR1.out _ (by repeat (first | exact HK.out | apply Kept.alloc | apply Kept.drewN | apply Kept.drew | refine Kept.setCell ?_ HMgo38.out _))) (l2.length : Int) (of_eq_true p231) (of_eq_true q231))))).trans ((Kd.foot_int (HR1.out _ (by repeat (first | exact HK.out | apply Kept.alloc | apply Kept.drewN | apply Kept.drew | refine Kept.setCell ?_ HMgo38.out _))) (l2.length : Int) (of_eq_true p231) (of_eq_true q231)))⟩ (fun hHeld => ?_)
   clear hK K
   refine norm_ (a' := ?_) ?_ ?_
   rotate_left
   ·show Act.put _ (some 54) _ = _
    simp only [putS]
    rfl
   refine one_ (i := 13) (N := some 55) #[true, true, true, true, true, true, true, true, true, true, true, true, true, true, false, false] rfl rfl (one_of HT_.out (by kernel_rfl)) (by decide) (fun K hK => ?_)
   refine Kd.R_append_step (Kd.int .i64) (w0 := w0) w0.heap.size (by rfl) (.tmp 49) (.tmp 54) 25 3 (.int .i64 0) 8 rfl Try.underlying25 info3 rfl (by decide) (by omega) (.slice A230_0 (rd_L1 t226 x11_1).length c230_0) (rd_L1 t226 x11_1) (rd l1 (l2.length : Int)) [.int .i64 (rd l1 (l2.length : Int))] (fun k_ => oki38 k_ ∨ ((fun k_ => (P2_ k_ ∨ w.heap.size ≤ k_) ∧ some k_ ≠ (.slice Ao12 l2.length co12 : Value).ownBlock ∧ some k_ ≠ (u9 : Value).ownBlock)) k_ ∧ w37.heap.size ≤ k_) (fun _ => False) rfl rfl ?aP (fun _ hk => hk.elim) ?aF ?aO ?aB ?aS ?aL ?_
   (case aP => exact rfl)
   (case aB => exact (bel2 HB GE218 GE229))
   (case aF => exact (fun k_ hk => .inr ⟨⟨.inr (Nat.le_trans (by first | exact HK.out.1 | exact (show Kept w _ (fun k_ => P2_ k_) from by repeat (first | (with_reducible first | exact HK.out | apply Kept.alloc | apply Kept.drewN | apply Kept.drew | refine Kept.setCell ?_ (.inr GW218.out) _ | refine Kept.setCell ?_ (.inr GW229.out) _) | exact HK.out)).1) hk), Kd.fresh' (Kd.R_lt (rdl HO_2)) k_ hk, Kd.fresh' (Kd.R_lt (rdl HO_9)) k_ hk⟩, hk⟩))
   (case aO => exact (by (with_reducible repeat (first | apply Kd.R_alloc | apply Kd.R_drewN | apply Kd.R_drew)); exact Kd.R_mono UU38.out (fun _ hk => .inl hk)))
   (case aS => exact (below_size (bel2 HB GE218 GE229)))
   (case aL => have := LMc23.out; omega)
   intro v233 w39 ho hb hg hat
   (first | have HS1_ := cell_grown hg (hHeld.2.1) (by first | (rw [add_block]; exact (fun e_ => ((HL230_0.out.1 _ e_.symm).2) rfl)) | (show some (Addr.add _ _).block ≠ _; rw [add_block]; exact (fun e_ => ((HL230_0.out.1 _ e_.symm).2) rfl)) | exact (fun e_ => ((HL230_0.out.1 _ e_.symm).2) rfl)) | have HS1_ := cell_grown hg (cell_unalloc (hHeld.2.1) (by first | (rw [add_block]; exact Kd.S_lt HO228.out _ rfl) | (show (Addr.add _ _).block < _; rw [add_block]; exact Kd.S_lt HO228.out _ rfl) | exact Kd.S_lt HO228.out _ rfl)) (by first | (rw [add_block]; exact (fun e_ => ((HL230_0.out.1 _ e_.symm).2) rfl)) | (show some (Addr.add _ _).block ≠ _; rw [add_block]; exact (fun e_ => ((HL230_0.out.1 _ e_.symm).2) rfl)) | exact (fun e_ => ((HL230_0.out.1 _ e_.symm).2) rfl)))
   rw [← Ny232.out] at ho
   have n0_ := Aside0.mk (Kd.R_grown2 (rdl HO_2) rfl hg (fun k_ e_ => (HL230_0.out.1 k_ e_).1.2.1))
   have n1_ := Aside0.mk (Kd.R_grown2 (rdl HO_9) rfl hg (fun k_ e_ => (HL230_0.out.1 k_ e_).1.2.2))
   have n2_ := Aside0.mk (blk_grown (g := gb218) (o := .cells #[.slice (some ad225) l0_0.length c0_0] 29 (0, 0)) (bkl BK218) hg (Kd.R_ne HL230_0.out BK218.out (by decide)))
   have n3_ := Aside0.mk (blk_grown (g := gb229) (o := .cells #[.slice (some ⟨go38, 0, none⟩) t226.length co33] 29 (0, 0)) (bkl BK229) hg (Kd.R_ne HL230_0.out BK229.out (by decide)))
   have n4_ := Aside0.mk (hb)
   have n5_ := Aside0.mk (Kept.of_grown (S := (fun k_ => P2_ k_)) hg (by repeat (first | (with_reducible first | exact HK.out | apply Kept.alloc | apply Kept.drewN | apply Kept.drew | refine Kept.setCell ?_ (.inr GW218.out) _ | refine Kept.setCell ?_ (.inr GW229.out) _) | exact HK.out)) (fun k_ e_ => (HL230_0.out.1 k_ e_).1.1))
   have n6_ := Aside0.mk (Kd.H_grown (Kd.H_widen (by repeat (first | exact HH38.out | refine Kd.H_alloc ?_ _ | refine Kd.H_drewN ?_ _ | refine Kd.H_drew ?_))) hg (fun k_ e_ => .inl (UU38.out.1 k_ e_)))
   have n7_ := Aside0.mk (ho)
   clear HO_2 HO_9 BK218 BK229 HB HK HH38 HO228 UU38 HL230_0
   have HO_2 := n0_
   have HO_9 := n1_
   have BK218 := n2_
   have BK229 := n3_
   have HB := n4_
   have HK := n5_
   have HH38 := n6_
   have HO234 := n7_
   clear n0_ n1_ n2_ n3_ n4_ n5_ n6_ n7_ ho hb hg hat
   have p24 : 0 ≤ (x11_1 : Int) := oda
   have q24 : (x11_1 : Int) < ((t226.length : Int) : Int) := oda
   replace p24 := eq_true p24
   replace q24 := eq_true q24
   obtain ⟨Ao42, co42, eo42⟩ := Kd.R_slice HO234.out
   (first | subst eo42 | (injection eo42 with f1_ f2_ f3_; have f4_ := f1_.symm; have f5_ := f3_.symm; clear f1_ f2_ f3_; subst f4_; subst f5_))
   obtain ⟨_, _, hraw40, _, _, hcc40, _⟩ := Kd.H_raw HH38.out (oda) (by have h_ : (x11_1 : Int) < ((t226.length : Int) : Int) := oda; first | exact h_ | (have e_ := (HN38.out); omega) | simpa using h_)
   obtain ⟨_, hfr40⟩ := Kd.H_at HH38.out (oda) (by have h_ : (x11_1 : Int) < ((t226.length : Int) : Int) := oda; first | exact h_ | (have e_ := (HN38.out); omega) | simpa using h_)
   have hx40_0 := hcc40 0 _ rfl
   have hf40_0 := hfr40 0
   (try simp only [Nat.add_zero] at hx40_0 hf40_0)
   (try rw [show ((Kd.slice 3 (Kd.int .i64))).sz = 1 from rfl, Nat.mul_one] at hx40_0)
   (try rw [show ((Kd.slice 3 (Kd.int .i64))).sz = 1 from rfl, Nat.mul_one] at hf40_0)
   have HP40 := Kd.S_seg0 HH38.out (oda) (by have h_ : (x11_1 : Int) < ((t226.length : Int) : Int) := oda; first | exact h_ | (have e_ := (HN38.out); omega) | simpa using h_) (seg := [.slice Ao42 y232.length co42]) (j := 0) (show 1 ≤ 1 from by decide) (x' := y232) (Kd.M_row HO234.out) (fun _ hk => hk)
   (try simp only [show ((Kd.slice 3 (Kd.int .i64))).sz = 1 from rfl, Nat.mul_one, Nat.add_zero] at HP40)
   clear hcc40 hfr40
   have HNB218_go38 := Aside0.mk (show gb218 ≠ go38 from by have h_ := Kd.R_ne hraw40 BK218.out (by decide); intro e_; exact h_ (by rw [e_]; rfl))
   have HNB229_go38 := Aside0.mk (show gb229 ≠ go38 from by have h_ := Kd.R_ne hraw40 BK229.out (by decide); intro e_; exact h_ (by rw [e_]; rfl))
   have HS40 := HP40.1
   rw [← Ny235.out] at HS40
   have HQ40 := Aside0.mk HS40
   obtain ⟨_, hgg40⟩ := Kd.R_typed hraw40 go38 rfl
   have GG40_ := Aside0.mk hgg40
   clear HP40 HS40 hgg40
   refine hK.out _ _ ⟨(blk_cell BK229.out 0).trans rfl, HS1_, (Kd.foot_int (HR1.out _ (by repeat (first | exact HK.out | apply Kept.alloc | apply Kept.drewN | apply Kept.drew | refine Kept.setCell ?_ HMgo38.out _))) (l2.length : Int) (of_eq_true p231) (of_eq_true q231))⟩ (fun hHeld => ?_)
   clear hK K
   refine norm_ (a' := ?_) ?_ ?_
   rotate_left
   ·show Act.put _ (some 55) _ = _
    simp only [putS]
    rfl
   refine pure_ (i := 14) (N := some 56) (v := ?_) (a' := ?_) #[true, true, true, true, true, true, true, true, true, true, true, true, true, true, true, false] rfl rfl (any_of HT_.out (by kernel_rfl)) (fun _ _ _ h => h) (Or.inl ⟨by rfl, ?_⟩) ?_ ?_
   rotate_left
   ·intro w'
    go_simp
    with_reducible rfl
   rotate_left
   ·simp only [putS]
    rfl
   refine last_ (i := 15) (N := none) #[true, true, true, true, true, true, true, true, true, true, true, true, true, true, true, true] rfl rfl (one_of HT_.out (by kernel_rfl)) (by decide) (fun K hK => ?_)
   refine skip_ (w1 := ?_) (by rfl) rfl ?_ ?_
   rotate_left
   ·go_simp
    rfl
   refine hK.out _ _ ?_
   clear hK K
   refine done_ (done_of HT_.out (by kernel_rfl)) ?_
   try go_wp2
   have n0_ : Aside0 (Kd.R (Kd.int .i64) 3 (w39.setCell ⟨go38, (x11_1 : Int).toNat, none⟩ (.slice Ao42 y232.length co42)) w0.heap.size (fun k_ => (P2_ k_ ∨ w.heap.size ≤ k_) ∧ some k_ ≠ (u9 : Value).ownBlock) (.slice Ao12 l2.length co12) l2) := ⟨by (with_reducible repeat (first | apply Kd.R_alloc | apply Kd.R_drewN | apply Kd.R_drew)); exact Kd.R_mono (Kd.R_far (p := ⟨go38, (x11_1 : Int).toNat, none⟩) (Kd.R_types HO_2.out GG40_.out (by decide)) (fun _ hk => hk.2) (.slice Ao42 y232.length co42)) (fun _ hk => ⟨hk.1.1, hk.1.2⟩)⟩
   have n1_ : Aside0 (Kd.R (Kd.int .i64) 3 (w39.setCell ⟨go38, (x11_1 : Int).toNat, none⟩ (.slice Ao42 y232.length co42)) w0.heap.size (fun k_ => (P2_ k_ ∨ w.heap.size ≤ k_) ∧ some k_ ≠ (.slice Ao12 l2.length co12 : Value).ownBlock) u9 x9_1) := ⟨by (with_reducible repeat (first | apply Kd.R_alloc | apply Kd.R_drewN | apply Kd.R_drew)); exact Kd.R_mono (Kd.R_far (p := ⟨go38, (x11_1 : Int).toNat, none⟩) (Kd.R_types HO_9.out GG40_.out (by decide)) (fun _ hk => hk.2) (.slice Ao42 y232.length co42)) (fun _ hk => ⟨hk.1.1, hk.1.2⟩)⟩
   have n2_ : Aside0 (Kd.S (Kd.slice 3 (Kd.int .i64)) 25 (w39.setCell ⟨go38, (x11_1 : Int).toNat, none⟩ (.slice Ao42 y232.length co42)) w0.heap.size (fun k_ => (P2_ k_ ∨ w.heap.size ≤ k_) ∧ some k_ ≠ (.slice Ao12 l2.length co12 : Value).ownBlock ∧ some k_ ≠ (u9 : Value).ownBlock) (.slice (some ⟨go38, 0, none⟩) t226.length co33) y235) := ⟨sdl HQ40⟩
   have n3_ : Aside0 ((w39.setCell ⟨go38, (x11_1 : Int).toNat, none⟩ (.slice Ao42 y232.length co42)).heap[gb218]? = some (.cells #[.slice (some ad225) l0_0.length c0_0] 29 (0, 0))) := ⟨by (with_reducible repeat (first | refine blk_drewN ?_ _ | refine blk_drew ?_ | refine blk_alloc ?_ _)); refine blk_far ?_ HNB218_go38.out _; (with_reducible repeat (first | refine blk_drewN ?_ _ | refine blk_drew ?_ | refine blk_alloc ?_ _)); exact BK218.out⟩
   have n4_ : Aside0 ((w39.setCell ⟨go38, (x11_1 : Int).toNat, none⟩ (.slice Ao42 y232.length co42)).heap[gb229]? = some (.cells #[.slice (some ⟨go38, 0, none⟩) t226.length co33] 29 (0, 0))) := ⟨by (with_reducible repeat (first | refine blk_drewN ?_ _ | refine blk_drew ?_ | refine blk_alloc ?_ _)); refine blk_far ?_ HNB229_go38.out _; (with_reducible repeat (first | refine blk_drewN ?_ _ | refine blk_drew ?_ | refine blk_alloc ?_ _)); exact BK229.out⟩
   have n5_ : Aside0 (Kept w (w39.setCell ⟨go38, (x11_1 : Int).toNat, none⟩ (.slice Ao42 y232.length co42)) (fun k_ => P2_ k_)) := ⟨by repeat (first | (with_reducible first | exact HK.out | apply Kept.alloc | apply Kept.drewN | apply Kept.drew | refine Kept.setCell ?_ HMgo38.out _ | refine Kept.setCell ?_ (.inr GW218.out) _ | refine Kept.setCell ?_ (.inr GW229.out) _) | exact HK.out)⟩
   have n6_ : Aside0 (Below w0.heap.size w0 (w39.setCell ⟨go38, (x11_1 : Int).toNat, none⟩ (.slice Ao42 y232.length co42))) := ⟨bel3 HB GB38 GE218 GE229⟩
   (try clear HO_2)
   (try clear HO_9)
   (try clear HO228)
   (try clear BK218)
   (try clear BK229)
   (try clear HK)
   (try clear HB)
   generalize (w39.setCell ⟨go38, (x11_1 : Int).toNat, none⟩ (.slice Ao42 y232.length co42)) = w43 at n0_ n1_ n2_ n3_ n4_ n5_ n6_ ⊢
   have HO_2 := n0_
   have HO_9 := n1_
   have HO228 := n2_
   have BK218 := n3_
   have BK229 := n4_
   have HK := n5_
   have HB := n6_
   clear n0_ n1_ n2_ n3_ n4_ n5_ n6_
   have n0_ := Aside0.mk (Kd.R_drew HO_2.out)
   have n1_ := Aside0.mk (Kd.R_drew HO_9.out)
   have n2_ := Aside0.mk (Kd.S_drew HO228.out)
   have n3_ := Aside0.mk (blk_drew BK218.out)
   have n4_ := Aside0.mk (blk_drew BK229.out)
   have n5_ := Aside0.mk (Kept.drew HK.out)
   have n6_ := Aside0.mk (below_drew1 HB.out)
   clear HO_2 HO_9 HO228 BK218 BK229 HK HB
   have HO_2 := n0_
   have HO_9 := n1_
   have HO228 := n2_
   have BK218 := n3_
   have BK229 := n4_
   have HK := n5_
   have HB := n6_
   clear n0_ n1_ n2_ n3_ n4_ n5_ n6_
   refine start_ (n := 13) (S := fun w' => w'.cell? ⟨gb229, 0, none⟩ = some (.slice (some ⟨go38, 0, none⟩) t226.length co33)) (ds := []) #[false, false, false, false, false, false, false, false, false, false, false, false, false] (by kernel_rfl) rfl rfl ((blk_cell BK229.out 0).trans rfl) (fun hHeld => ?_); refine with_tabW spec_l8Best.tab11 spec_l8Best.bits11 (fun HT_ HW_ => ?_)
   generalize w43.drew = w44 at HO_2 HO_9 HO228 BK218 BK229 HK HB HQ40 hHeld ⊢
   refine pure_ (i := 1) (N := some 59) (v := ?_) (a' := ?_) #[false, true, false, false, false, false, false, false, false, false, false, false, false] rfl rfl (any_of HT_.out (by kernel_rfl)) (fun _ _ _ h => h) (Or.inl ⟨by rfl, ?_⟩) ?_ ?_
   rotate_left
   ·intro w'
    go_simp
    with_reducible rfl
   rotate_left
   ·simp only [putS]
    rfl
   refine pure_ (i := 2) (N := some 60) (v := ?_) (a' := ?_) #[false, true, true, false, false, false, false, false, false, false, false, false, false] rfl rfl (any_of HT_.out (by kernel_rfl)) (fun _ _ _ h => h) (Or.inl ⟨by rfl, ?_⟩) ?_ ?_
   rotate_left
   ·intro w'
    go_simp
    with_reducible rfl
   rotate_left
   ·simp only [putS]
    rfl
   refine pure_ (i := 4) (N := some 62) (v := ?_) (a' := ?_) #[false, true, true, false, true, false, false, false, false, false, false, false, false] rfl rfl (any_of HT_.out (by kernel_rfl)) (fun _ _ _ h => h) (Or.inl ⟨by rfl, ?_⟩) ?_ ?_
   rotate_left
   ·intro w'
    go_simp
    with_reducible rfl
   rotate_left
   ·simp only [putS]
    rfl
   refine take_ (i := 0) (N := some 58) (v := ?_) (a' := ?_) #[true, true, true, false, true, false, false, false, false, false, false, false, false] rfl rfl (take_ofW HT_.out HW_.out (by kernel_rfl)) (fun _ _ _ h => h) (Or.inl ⟨by rfl, ?_⟩) hHeld ?_ ?_
   rotate_left
   ·intro w' s0
    go_simp
    with_reducible rfl
   rotate_left
   ·simp only [putS]
    rfl
   refine join_ (σ := Value × Value) 7 #[true, true, true, true, true, true, false, false, false, false, false, false, false] (fun s_ => [(61, s_.1), (63, s_.2)]) (fun s_ w' => (w'.cell? ⟨gb229, 0, none⟩ = some (.slice (some ⟨go38, 0, none⟩) t226.length co33)) ∧ (Kd.S (Kd.slice 3 (Kd.int .i64)) 25 w' w0.heap.size (fun k_ => (P2_ k_ ∨ w.heap.size ≤ k_) ∧ some k_ ≠ (s_.1 : Value).ownBlock ∧ some k_ ≠ (s_.2 : Value).ownBlock ∧ some k_ ≠ (.slice Ao12 l2.length co12 : Value).ownBlock ∧ some k_ ≠ (u9 : Value).ownBlock) (.slice (some ⟨go38, 0, none⟩) t226.length co33) y235) ∧ (Kd.R (Kd.int .i64) 3 w' w0.heap.size (fun k_ => (P2_ k_ ∨ w.heap.size ≤ k_) ∧ some k_ ≠ (s_.2 : Value).ownBlock ∧ some k_ ≠ (.slice Ao12 l2.length co12 : Value).ownBlock ∧ some k_ ≠ (u9 : Value).ownBlock) s_.1 t236) ∧ (Kd.R (Kd.int .i64) 3 w' w0.heap.size (fun k_ => (P2_ k_ ∨ w.heap.size ≤ k_) ∧ some k_ ≠ (s_.1 : Value).ownBlock ∧ some k_ ≠ (.slice Ao12 l2.length co12 : Value).ownBlock ∧ some k_ ≠ (u9 : Value).ownBlock) s_.2 y239) ∧ (Kd.R (Kd.int .i64) 3 w' w0.heap.size (fun k_ => (P2_ k_ ∨ w.heap.size ≤ k_) ∧ some k_ ≠ (s_.1 : Value).ownBlock ∧ some k_ ≠ (s_.2 : Value).ownBlock ∧ some k_ ≠ (u9 : Value).ownBlock) (.slice Ao12 l2.length co12) l2) ∧ (Kd.R (Kd.int .i64) 3 w' w0.heap.size (fun k_ => (P2_ k_ ∨ w.heap.size ≤ k_) ∧ some k_ ≠ (s_.1 : Value).ownBlock ∧ some k_ ≠ (s_.2 : Value).ownBlock ∧ some k_ ≠ (.slice Ao12 l2.length co12 : Value).ownBlock) u9 x9_1) ∧ (w'.heap[gb218]? = some (.cells #[.slice (some ad225) l0_0.length c0_0] 29 (0, 0))) ∧ (w'.heap[gb229]? = some (.cells #[.slice (some ⟨go38, 0, none⟩) t226.length co33] 29 (0, 0))) ∧ (Kept w w' (fun k_ => P2_ k_)) ∧ (Below w0.heap.size w0 w')) ?_ ?_
   rotate_left
   ·intro hCont
    refine two_ (i := 3) (j := 5) (Ni := some 61) (Nj := some 63) #[true, true, true, true, true, false, false, false, false, false, false, false, false] #[true, true, true, false, true, true, false, false, false, false, false, false, false] rfl rfl rfl rfl (two_of HT_.out (by kernel_rfl)) (by decide) (by decide) (fun K hK => ?_) (fun K hK => ?_)
    ·skip
     refine goes_ Try.func30 (by kernel_rfl) rfl #[.slice Ao12 l2.length co12] (by rfl) rfl rfl gmp ?_
     with_reducible refine (spec_l1Own.calls _ _ l2 t236 _ ?side1 ?side2 A25.out).mono ?_
     (case side1 => exact cdl (Kd.R_reads' HO_2.out).2.2)
     (case side2 => exact (Kd.R_reads' HO_2.out).2.1)
     rintro e w45 ⟨v237, rfl, ho0, hb⟩
     refine ⟨_, rfl, ?_⟩
     have n0_ := Aside0.mk (Kd.R_elder' (rdl HO_2) (Kd.R_base ho0) hb)
     have n1_ := Aside0.mk (Kd.R_elder' (rdl HO_9) (Kd.R_base ho0) hb)
     have n2_ := Aside0.mk (Kd.S_elder' (sdl HO228) (Kd.R_base ho0) hb)
     have n3_ := Aside0.mk (Kd.R_lower (Kd.R_new' (Kd.R_new' (Kd.R_newM (M := fun k_ => (P2_ k_ ∨ w.heap.size ≤ k_)) ho0 (by first | exact HK.out.1 | exact (show Kept w _ (fun k_ => P2_ k_) from by repeat (first | (with_reducible first | exact HK.out | apply Kept.alloc | apply Kept.drewN | apply Kept.drew | refine Kept.setCell ?_ (.inr GW218.out) _ | refine Kept.setCell ?_ (.inr GW229.out) _) | exact HK.out)).1) (fun k_ h_ => .inr h_)) (Kd.R_lt (rdl HO_2))) (Kd.R_lt (rdl HO_9))) (below_size (bel2 HB GE218 GE229)))
     have n4_ := Aside0.mk (blk_below (g := gb218) (o := .cells #[.slice (some ad225) l0_0.length c0_0] 29 (0, 0)) (bkl BK218) hb)
     have n5_ := Aside0.mk (blk_below (g := gb229) (o := .cells #[.slice (some ⟨go38, 0, none⟩) t226.length co33] 29 (0, 0)) (bkl BK229) hb)
     have n6_ := Aside0.mk (Kept.below (S := (fun k_ => P2_ k_)) (by repeat (first | (with_reducible first | exact HK.out | apply Kept.alloc | apply Kept.drewN | apply Kept.drew | refine Kept.setCell ?_ (.inr GW218.out) _ | refine Kept.setCell ?_ (.inr GW229.out) _) | exact HK.out)) hb)
     have n7_ := Aside0.mk (below_step (bel2 HB GE218 GE229) hb)
     clear HO_2 HO_9 HO228 BK218 BK229 HK HB
     have HO_2 := n0_
     have HO_9 := n1_
     have HO228 := n2_
     have HO238 := n3_
     have BK218 := n4_
     have BK229 := n5_
     have HK := n6_
     have HB := n7_
     clear n0_ n1_ n2_ n3_ n4_ n5_ n6_ n7_
     (try clear hb)
     (try clear hb2)
     (try clear hk)
     (try clear hi)
     (try clear ho0)
     refine hK.out _ _ ((blk_cell BK229.out 0).trans rfl) (fun hHeld => ?_)
     clear hK K
     refine norm_ (a' := ?_) ?_ ?_
     rotate_left
     ·show Act.put _ (some 61) _ = _
      simp only [putS]
      rfl
     refine one_ (i := 5) (N := some 63) #[true, true, true, true, true, true, false, false, false, false, false, false, false] rfl rfl (one_of HT_.out (by kernel_rfl)) (by decide) (fun K hK => ?_)
     refine Kd.R_lit_step (Kd.int .i64) _ 3 ?hg (N := 63) ?hd (xs := ([x11_1] : List Int)) (inner := [.int .i64 x11_1]) (ok := fun _ => True) (okp := fun _ => True) ?hr ?hp (fun _ hk => hk) trivial (Below.refl _ _) (Nat.le_refl _) (by simp) ?_; (case hd => rfl); (case hg => rfl); (case hr => first | (go_simp; done) | (go_simp; rfl)); (case hp => exact (Reps.one (show Kd.M (Kd.int .i64) _ _ _ x11_1 [.int .i64 x11_1] from rfl) (Reps.none _ _)))
     intro v240 w46 ho47 hb hg_ hnew_
     clear hg_ hnew_
     (first | rw [← Ny239.out] at ho47 | (simp only [Int.reduceToNat] at ho47; rw [← Ny239.out] at ho47))
     have n0_ := Aside0.mk (Kd.R_elder' (rdl HO_2) (Kd.R_base ho47) hb)
     have n1_ := Aside0.mk (Kd.R_elder' (rdl HO_9) (Kd.R_base ho47) hb)
     have n2_ := Aside0.mk (Kd.S_elder' (sdl HO228) (Kd.R_base ho47) hb)
     have n3_ := Aside0.mk (Kd.R_elder' (rdl HO238) (Kd.R_base ho47) hb)
     have n4_ := Aside0.mk (Kd.R_lower (Kd.R_new' (Kd.R_new' (Kd.R_new' (Kd.R_newM (M := fun k_ => (P2_ k_ ∨ w.heap.size ≤ k_)) ho47 (by first | exact HK.out.1 | exact (show Kept w _ (fun k_ => P2_ k_) from by repeat (first | (with_reducible first | exact HK.out | apply Kept.alloc | apply Kept.drewN | apply Kept.drew | refine Kept.setCell ?_ (.inr GW218.out) _ | refine Kept.setCell ?_ (.inr GW229.out) _) | exact HK.out)).1) (fun k_ h_ => .inr h_)) (Kd.R_lt (rdl HO_2))) (Kd.R_lt (rdl HO_9))) (Kd.R_lt (rdl HO238))) (below_size (bel2 HB GE218 GE229)))
     have n5_ := Aside0.mk (blk_below (g := gb218) (o := .cells #[.slice (some ad225) l0_0.length c0_0] 29 (0, 0)) (bkl BK218) hb)
     have n6_ := Aside0.mk (blk_below (g := gb229) (o := .cells #[.slice (some ⟨go38, 0, none⟩) t226.length co33] 29 (0, 0)) (bkl BK229) hb)
     have n7_ := Aside0.mk (Kept.below (S := (fun k_ => P2_ k_)) (by repeat (first | (with_reducible first | exact HK.out | apply Kept.alloc | apply Kept.drewN | apply Kept.drew | refine Kept.setCell ?_ (.inr GW218.out) _ | refine Kept.setCell ?_ (.inr GW229.out) _) | exact HK.out)) hb)
     have n8_ := Aside0.mk (below_step (bel2 HB GE218 GE229) hb)
     clear HO_2 HO_9 HO228 HO238 BK218 BK229 HK HB
     have HO_2 := n0_
     have HO_9 := n1_
     have HO228 := n2_
     have HO238 := n3_
     have HO241 := n4_
     have BK218 := n5_
     have BK229 := n6_
     have HK := n7_
     have HB := n8_
     clear n0_ n1_ n2_ n3_ n4_ n5_ n6_ n7_ n8_ hb ho47
     refine hK.out _ _ ((blk_cell BK229.out 0).trans rfl) (fun hHeld => ?_)
     clear hK K
     refine norm_ (a' := ?_) ?_ ?_
     rotate_left
     ·show Act.put _ (some 63) _ = _
      simp only [putS]
      rfl
     exact norm_ (by simp only [putAll, Act.put, List.setIfInBounds_toArray, List.set_cons_zero, List.set_cons_succ]) (hCont (v237, v240) _ ⟨hHeld, (by (with_reducible repeat (first | apply Kd.S_alloc | apply Kd.S_drewN | apply Kd.S_drew)); exact Kd.S_mono HO228.out (fun _ hk => ⟨hk.1.1.1, ⟨hk.1.2, ⟨hk.2, ⟨hk.1.1.2.1, hk.1.1.2.2⟩⟩⟩⟩)), (by (with_reducible repeat (first | apply Kd.R_alloc | apply Kd.R_drewN | apply Kd.R_drew)); exact Kd.R_mono HO238.out (fun _ hk => ⟨hk.1.1.1.1, ⟨hk.2, ⟨hk.1.1.2, hk.1.2⟩⟩⟩)), (by (with_reducible repeat (first | apply Kd.R_alloc | apply Kd.R_drewN | apply Kd.R_drew)); exact Kd.R_mono HO241.out (fun _ hk => ⟨hk.1.1.1.1, ⟨hk.2, ⟨hk.1.1.2, hk.1.2⟩⟩⟩)), (by (with_reducible repeat (first | apply Kd.R_alloc | apply Kd.R_drewN | apply Kd.R_drew)); exact Kd.R_mono HO_2.out (fun _ hk => ⟨hk.1.1.1, ⟨hk.1.2, ⟨hk.2, hk.1.1.2⟩⟩⟩)), (by (with_reducible repeat (first | apply Kd.R_alloc | apply Kd.R_drewN | apply Kd.R_drew)); exact Kd.R_mono HO_9.out (fun _ hk => ⟨hk.1.1.1, ⟨hk.1.2, ⟨hk.2, hk.1.1.2⟩⟩⟩)), (bkl BK218), (bkl BK229), (by repeat (first | (with_reducible first | exact HK.out | apply Kept.alloc | apply Kept.drewN | apply Kept.drew | refine Kept.setCell ?_ (.inr GW218.out) _ | refine Kept.setCell ?_ (.inr GW229.out) _) | exact HK.out)), (bel2 HB GE218 GE229)⟩)
    skip
    refine Kd.R_lit_step (Kd.int .i64) _ 3 ?hg (N := 63) ?hd (xs := ([x11_1] : List Int)) (inner := [.int .i64 x11_1]) (ok := fun _ => True) (okp := fun _ => True) ?hr ?hp (fun _ hk => hk) trivial (Below.refl _ _) (Nat.le_refl _) (by simp) ?_; (case hd => rfl); (case hg => rfl); (case hr => first | (go_simp; done) | (go_simp; rfl)); (case hp => exact (Reps.one (show Kd.M (Kd.int .i64) _ _ _ x11_1 [.int .i64 x11_1] from rfl) (Reps.none _ _)))
    intro v240 w45 ho46 hb hg_ hnew_
    clear hg_ hnew_
    (first | rw [← Ny239.out] at ho46 | (simp only [Int.reduceToNat] at ho46; rw [← Ny239.out] at ho46))
    have n0_ := Aside0.mk (Kd.R_elder' (rdl HO_2) (Kd.R_base ho46) hb)
    have n1_ := Aside0.mk (Kd.R_elder' (rdl HO_9) (Kd.R_base ho46) hb)
    have n2_ := Aside0.mk (Kd.S_elder' (sdl HO228) (Kd.R_base ho46) hb)
    have n3_ := Aside0.mk (Kd.R_lower (Kd.R_new' (Kd.R_new' (Kd.R_newM (M := fun k_ => (P2_ k_ ∨ w.heap.size ≤ k_)) ho46 (by first | exact HK.out.1 | exact (show Kept w _ (fun k_ => P2_ k_) from by repeat (first | (with_reducible first | exact HK.out | apply Kept.alloc | apply Kept.drewN | apply Kept.drew | refine Kept.setCell ?_ (.inr GW218.out) _ | refine Kept.setCell ?_ (.inr GW229.out) _) | exact HK.out)).1) (fun k_ h_ => .inr h_)) (Kd.R_lt (rdl HO_2))) (Kd.R_lt (rdl HO_9))) (below_size (bel2 HB GE218 GE229)))
    have n4_ := Aside0.mk (blk_below (g := gb218) (o := .cells #[.slice (some ad225) l0_0.length c0_0] 29 (0, 0)) (bkl BK218) hb)
    have n5_ := Aside0.mk (blk_below (g := gb229) (o := .cells #[.slice (some ⟨go38, 0, none⟩) t226.length co33] 29 (0, 0)) (bkl BK229) hb)
    have n6_ := Aside0.mk (Kept.below (S := (fun k_ => P2_ k_)) (by repeat (first | (with_reducible first | exact HK.out | apply Kept.alloc | apply Kept.drewN | apply Kept.drew | refine Kept.setCell ?_ (.inr GW218.out) _ | refine Kept.setCell ?_ (.inr GW229.out) _) | exact HK.out)) hb)
    have n7_ := Aside0.mk (below_step (bel2 HB GE218 GE229) hb)
    clear HO_2 HO_9 HO228 BK218 BK229 HK HB
    have HO_2 := n0_
    have HO_9 := n1_
    have HO228 := n2_
    have HO241 := n3_
    have BK218 := n4_
    have BK229 := n5_
    have HK := n6_
    have HB := n7_
    clear n0_ n1_ n2_ n3_ n4_ n5_ n6_ n7_ hb ho46
    refine hK.out _ _ ((blk_cell BK229.out 0).trans rfl) (fun hHeld => ?_)
    clear hK K
    refine norm_ (a' := ?_) ?_ ?_
    rotate_left
    ·show Act.put _ (some 63) _ = _
     simp only [putS]
     rfl
    refine one_ (i := 3) (N := some 61) #[true, true, true, true, true, true, false, false, false, false, false, false, false] rfl rfl (one_of HT_.out (by kernel_rfl)) (by decide) (fun K hK => ?_)
    refine goes_ Try.func30 (by kernel_rfl) rfl #[.slice Ao12 l2.length co12] (by rfl) rfl rfl gmp ?_
    with_reducible refine (spec_l1Own.calls _ _ l2 t236 _ ?side1 ?side2 A25.out).mono ?_
    (case side1 => exact cdl (Kd.R_reads' HO_2.out).2.2)
    (case side2 => exact (Kd.R_reads' HO_2.out).2.1)
    rintro e w47 ⟨v237, rfl, ho0, hb⟩
    refine ⟨_, rfl, ?_⟩
    have n0_ := Aside0.mk (Kd.R_elder' (rdl HO_2) (Kd.R_base ho0) hb)
    have n1_ := Aside0.mk (Kd.R_elder' (rdl HO_9) (Kd.R_base ho0) hb)
    have n2_ := Aside0.mk (Kd.S_elder' (sdl HO228) (Kd.R_base ho0) hb)
    have n3_ := Aside0.mk (Kd.R_elder' (rdl HO241) (Kd.R_base ho0) hb)
    have n4_ := Aside0.mk (Kd.R_lower (Kd.R_new' (Kd.R_new' (Kd.R_new' (Kd.R_newM (M := fun k_ => (P2_ k_ ∨ w.heap.size ≤ k_)) ho0 (by first | exact HK.out.1 | exact (show Kept w _ (fun k_ => P2_ k_) from by repeat (first | (with_reducible first | exact HK.out | apply Kept.alloc | apply Kept.drewN | apply Kept.drew | refine Kept.setCell ?_ (.inr GW218.out) _ | refine Kept.setCell ?_ (.inr GW229.out) _) | exact HK.out)).1) (fun k_ h_ => .inr h_)) (Kd.R_lt (rdl HO_2))) (Kd.R_lt (rdl HO_9))) (Kd.R_lt (rdl HO241))) (below_size (bel2 HB GE218 GE229)))
    have n5_ := Aside0.mk (blk_below (g := gb218) (o := .cells #[.slice (some ad225) l0_0.length c0_0] 29 (0, 0)) (bkl BK218) hb)
    have n6_ := Aside0.mk (blk_below (g := gb229) (o := .cells #[.slice (some ⟨go38, 0, none⟩) t226.length co33] 29 (0, 0)) (bkl BK229) hb)
    have n7_ := Aside0.mk (Kept.below (S := (fun k_ => P2_ k_)) (by repeat (first | (with_reducible first | exact HK.out | apply Kept.alloc | apply Kept.drewN | apply Kept.drew | refine Kept.setCell ?_ (.inr GW218.out) _ | refine Kept.setCell ?_ (.inr GW229.out) _) | exact HK.out)) hb)
    have n8_ := Aside0.mk (below_step (bel2 HB GE218 GE229) hb)
    clear HO_2 HO_9 HO228 HO241 BK218 BK229 HK HB
    have HO_2 := n0_
    have HO_9 := n1_
    have HO228 := n2_
    have HO241 := n3_
    have HO238 := n4_
    have BK218 := n5_
    have BK229 := n6_
    have HK := n7_
    have HB := n8_
    clear n0_ n1_ n2_ n3_ n4_ n5_ n6_ n7_ n8_
    (try clear hb)
    (try clear hb2)
    (try clear hk)
    (try clear hi)
    (try clear ho0)
    refine hK.out _ _ ((blk_cell BK229.out 0).trans rfl) (fun hHeld => ?_)
    clear hK K
    refine norm_ (a' := ?_) ?_ ?_
    rotate_left
    ·show Act.put _ (some 61) _ = _
     simp only [putS]
     rfl
    exact norm_ (by simp only [putAll, Act.put, List.setIfInBounds_toArray, List.set_cons_zero, List.set_cons_succ]) (hCont (v237, v240) _ ⟨hHeld, (by (with_reducible repeat (first | apply Kd.S_alloc | apply Kd.S_drewN | apply Kd.S_drew)); exact Kd.S_mono HO228.out (fun _ hk => ⟨hk.1.1.1, ⟨hk.2, ⟨hk.1.2, ⟨hk.1.1.2.1, hk.1.1.2.2⟩⟩⟩⟩)), (by (with_reducible repeat (first | apply Kd.R_alloc | apply Kd.R_drewN | apply Kd.R_drew)); exact Kd.R_mono HO238.out (fun _ hk => ⟨hk.1.1.1.1, ⟨hk.2, ⟨hk.1.1.2, hk.1.2⟩⟩⟩)), (by (with_reducible repeat (first | apply Kd.R_alloc | apply Kd.R_drewN | apply Kd.R_drew)); exact Kd.R_mono HO241.out (fun _ hk => ⟨hk.1.1.1.1, ⟨hk.2, ⟨hk.1.1.2, hk.1.2⟩⟩⟩)), (by (with_reducible repeat (first | apply Kd.R_alloc | apply Kd.R_drewN | apply Kd.R_drew)); exact Kd.R_mono HO_2.out (fun _ hk => ⟨hk.1.1.1, ⟨hk.2, ⟨hk.1.2, hk.1.1.2⟩⟩⟩)), (by (with_reducible repeat (first | apply Kd.R_alloc | apply Kd.R_drewN | apply Kd.R_drew)); exact Kd.R_mono HO_9.out (fun _ hk => ⟨hk.1.1.1, ⟨hk.2, ⟨hk.1.2, hk.1.1.2⟩⟩⟩)), (bkl BK218), (bkl BK229), (by repeat (first | (with_reducible first | exact HK.out | apply Kept.alloc | apply Kept.drewN | apply Kept.drew | refine Kept.setCell ?_ (.inr GW218.out) _ | refine Kept.setCell ?_ (.inr GW229.out) _) | exact HK.out)), (bel2 HB GE218 GE229)⟩)
   rintro ⟨v237, v240⟩ w48 ⟨hS_, h0_, h1_, h2_, h3_, h4_, h5_, h6_, h7_, h8_⟩
   have n0_ : Aside0 (Kd.S (Kd.slice 3 (Kd.int .i64)) 25 w48 w0.heap.size (fun k_ => (P2_ k_ ∨ w.heap.size ≤ k_) ∧ some k_ ≠ (v237 : Value).ownBlock ∧ some k_ ≠ (v240 : Value).ownBlock ∧ some k_ ≠ (.slice Ao12 l2.length co12 : Value).ownBlock ∧ some k_ ≠ (u9 : Value).ownBlock) (.slice (some ⟨go38, 0, none⟩) t226.length co33) y235) := ⟨h0_⟩
   have n1_ : Aside0 (Kd.R (Kd.int .i64) 3 w48 w0.heap.size (fun k_ => (P2_ k_ ∨ w.heap.size ≤ k_) ∧ some k_ ≠ (v240 : Value).ownBlock ∧ some k_ ≠ (.slice Ao12 l2.length co12 : Value).ownBlock ∧ some k_ ≠ (u9 : Value).ownBlock) v237 t236) := ⟨h1_⟩
   have n2_ : Aside0 (Kd.R (Kd.int .i64) 3 w48 w0.heap.size (fun k_ => (P2_ k_ ∨ w.heap.size ≤ k_) ∧ some k_ ≠ (v237 : Value).ownBlock ∧ some k_ ≠ (.slice Ao12 l2.length co12 : Value).ownBlock ∧ some k_ ≠ (u9 : Value).ownBlock) v240 y239) := ⟨h2_⟩
   have n3_ : Aside0 (Kd.R (Kd.int .i64) 3 w48 w0.heap.size (fun k_ => (P2_ k_ ∨ w.heap.size ≤ k_) ∧ some k_ ≠ (v237 : Value).ownBlock ∧ some k_ ≠ (v240 : Value).ownBlock ∧ some k_ ≠ (u9 : Value).ownBlock) (.slice Ao12 l2.length co12) l2) := ⟨h3_⟩
   have n4_ : Aside0 (Kd.R (Kd.int .i64) 3 w48 w0.heap.size (fun k_ => (P2_ k_ ∨ w.heap.size ≤ k_) ∧ some k_ ≠ (v237 : Value).ownBlock ∧ some k_ ≠ (v240 : Value).ownBlock ∧ some k_ ≠ (.slice Ao12 l2.length co12 : Value).ownBlock) u9 x9_1) := ⟨h4_⟩
   have n5_ : Aside0 (w48.heap[gb218]? = some (.cells #[.slice (some ad225) l0_0.length c0_0] 29 (0, 0))) := ⟨h5_⟩
   have n6_ : Aside0 (w48.heap[gb229]? = some (.cells #[.slice (some ⟨go38, 0, none⟩) t226.length co33] 29 (0, 0))) := ⟨h6_⟩
   have n7_ : Aside0 (Kept w w48 (fun k_ => P2_ k_)) := ⟨h7_⟩
   have n8_ : Aside0 (Below w0.heap.size w0 w48) := ⟨h8_⟩
   clear HO_2 HO_9 HO228 BK218 BK229 HK HB h0_ h1_ h2_ h3_ h4_ h5_ h6_ h7_ h8_
   have HO228 := n0_
   have HO238 := n1_
   have HO241 := n2_
   have HO_2 := n3_
   have HO_9 := n4_
   have BK218 := n5_
   have BK229 := n6_
   have HK := n7_
   have HB := n8_
   clear n0_ n1_ n2_ n3_ n4_ n5_ n6_ n7_ n8_
   have hHeld : w48.cell? ⟨gb229, 0, none⟩ = some (.slice (some ⟨go38, 0, none⟩) t226.length co33) := hS_
   obtain ⟨Ao50, co50, eo50⟩ := Kd.R_slice HO241.out
   (first | subst eo50 | (injection eo50 with f1_ f2_ f3_; have f4_ := f1_.symm; have f5_ := f3_.symm; clear f1_ f2_ f3_; subst f4_; subst f5_))
   refine norm_ (a' := ?_) ?_ ?_
   rotate_left
   ·simp only [putAll, Act.put, List.setIfInBounds_toArray, List.set_cons_zero, List.set_cons_succ]
    rfl
   refine one_ (i := 6) (N := some 64) #[true, true, true, true, true, true, true, false, false, false, false, false, false] rfl rfl (one_of HT_.out (by kernel_rfl)) (by decide) (fun K hK => ?_)
   refine Kd.R_append_rows_step (Kd.int .i64) (w0 := w0) w0.heap.size (by rfl) (.tmp 61) (.tmp 63) 25 3 (.int .i64 0) 8 rfl Try.underlying25 info3 rfl (by decide) (by omega) v237 t236 y239 _ _ _ (fun k_ => (P2_ k_ ∨ w.heap.size ≤ k_) ∧ some k_ ≠ (.slice Ao12 l2.length co12 : Value).ownBlock ∧ some k_ ≠ (u9 : Value).ownBlock ∧ some k_ ≠ (.slice Ao50 y239.length co50 : Value).ownBlock) (fun _ => False) rfl rfl ?aO ?aR (fun _ _ h => h) (fun _ h => h.elim) ?aF ?aB ?aS ?aL ?_
   (case aR => exact cdl (Kd.R_reads' HO241.out).2.2)
   (case aB => exact (bel2 HB GE218 GE229))
   (case aF => exact (fun k_ hk => ⟨(.inr (Nat.le_trans (by first | exact HK.out.1 | exact (show Kept w _ (fun k_ => P2_ k_) from by repeat (first | (with_reducible first | exact HK.out | apply Kept.alloc | apply Kept.drewN | apply Kept.drew | refine Kept.setCell ?_ (.inr GW218.out) _ | refine Kept.setCell ?_ (.inr GW229.out) _) | exact HK.out)).1) hk)), Kd.fresh' (Kd.R_lt (rdl HO_2)) k_ hk, Kd.fresh' (Kd.R_lt (rdl HO_9)) k_ hk, Kd.fresh' (Kd.R_lt (rdl HO241)) k_ hk⟩))
   (case aO => exact (by (with_reducible repeat (first | apply Kd.R_alloc | apply Kd.R_drewN | apply Kd.R_drew)); exact Kd.R_mono HO238.out (fun _ hk => ⟨hk.1, ⟨hk.2.2.1, ⟨hk.2.2.2, hk.2.1⟩⟩⟩)))
   (case aS => exact (below_size (bel2 HB GE218 GE229)))
   (case aL => have := LMc26.out; omega)
   intro v243 w49 ho hb hg hat
   rw [← Ny242.out] at ho
   have n0_ := Aside0.mk (Kd.R_after (ok := (fun k_ => (P2_ k_ ∨ w.heap.size ≤ k_) ∧ some k_ ≠ (u9 : Value).ownBlock ∧ some k_ ≠ (.slice Ao50 y239.length co50 : Value).ownBlock)) (by (with_reducible repeat (first | apply Kd.R_alloc | apply Kd.R_drewN | apply Kd.R_drew)); exact Kd.R_mono HO_2.out (fun _ hk => ⟨⟨hk.1, ⟨hk.2.2.2, hk.2.2.1⟩⟩, hk.2.1⟩)) hg hat)
   have n1_ := Aside0.mk (Kd.R_after (ok := (fun k_ => (P2_ k_ ∨ w.heap.size ≤ k_) ∧ some k_ ≠ (.slice Ao12 l2.length co12 : Value).ownBlock ∧ some k_ ≠ (.slice Ao50 y239.length co50 : Value).ownBlock)) (by (with_reducible repeat (first | apply Kd.R_alloc | apply Kd.R_drewN | apply Kd.R_drew)); exact Kd.R_mono HO_9.out (fun _ hk => ⟨⟨hk.1, ⟨hk.2.2.2, hk.2.2.1⟩⟩, hk.2.1⟩)) hg hat)
   have n2_ := Aside0.mk (blk_grown (g := gb218) (o := .cells #[.slice (some ad225) l0_0.length c0_0] 29 (0, 0)) (bkl BK218) hg (Kd.R_ne HO238.out BK218.out (by decide)))
   have n3_ := Aside0.mk (blk_grown (g := gb229) (o := .cells #[.slice (some ⟨go38, 0, none⟩) t226.length co33] 29 (0, 0)) (bkl BK229) hg (Kd.R_ne HO238.out BK229.out (by decide)))
   have n4_ := Aside0.mk (Kd.S_after (ok := (fun k_ => (P2_ k_ ∨ w.heap.size ≤ k_) ∧ some k_ ≠ (.slice Ao12 l2.length co12 : Value).ownBlock ∧ some k_ ≠ (u9 : Value).ownBlock ∧ some k_ ≠ (.slice Ao50 y239.length co50 : Value).ownBlock)) (by (with_reducible repeat (first | apply Kd.S_alloc | apply Kd.S_drewN | apply Kd.S_drew)); exact Kd.S_mono HO228.out (fun _ hk => ⟨⟨hk.1, ⟨hk.2.2.2.1, ⟨hk.2.2.2.2, hk.2.2.1⟩⟩⟩, hk.2.1⟩)) hg hat)
   have n5_ := Aside0.mk (Kd.R_after (ok := (fun k_ => (P2_ k_ ∨ w.heap.size ≤ k_) ∧ some k_ ≠ (.slice Ao12 l2.length co12 : Value).ownBlock ∧ some k_ ≠ (u9 : Value).ownBlock)) (by (with_reducible repeat (first | apply Kd.R_alloc | apply Kd.R_drewN | apply Kd.R_drew)); exact Kd.R_mono HO241.out (fun _ hk => ⟨⟨hk.1, ⟨hk.2.2.1, hk.2.2.2⟩⟩, hk.2.1⟩)) hg hat)
   have n6_ := Aside0.mk (hb)
   have n7_ := Aside0.mk (Kept.of_grown (S := (fun k_ => P2_ k_)) hg (by repeat (first | (with_reducible first | exact HK.out | apply Kept.alloc | apply Kept.drewN | apply Kept.drew | refine Kept.setCell ?_ (.inr GW218.out) _ | refine Kept.setCell ?_ (.inr GW229.out) _) | exact HK.out)) (fun k_ e_ => (HO238.out.1 k_ e_).1))
   have n8_ := Aside0.mk (ho)
   clear HO_2 HO_9 BK218 BK229 HO228 HO241 HB HK HO238
   have HO_2 := n0_
   have HO_9 := n1_
   have BK218 := n2_
   have BK229 := n3_
   have HO228 := n4_
   have HO241 := n5_
   have HB := n6_
   have HK := n7_
   have HO244 := n8_
   clear n0_ n1_ n2_ n3_ n4_ n5_ n6_ n7_ n8_ ho hb hg hat
   obtain ⟨Ao51, co51, eo51⟩ := Kd.R_slice HO244.out
   (first | subst eo51 | (injection eo51 with f1_ f2_ f3_; have f4_ := f1_.symm; have f5_ := f3_.symm; clear f1_ f2_ f3_; subst f4_; subst f5_))
   refine hK.out _ _ ((blk_cell BK229.out 0).trans rfl) (fun hHeld => ?_)
   clear hK K
   refine norm_ (a' := ?_) ?_ ?_
   rotate_left
   ·show Act.put _ (some 64) _ = _
    simp only [putS]
    rfl
   refine one_ (i := 7) (N := some 65) #[true, true, true, true, true, true, true, true, false, false, false, false, false] rfl rfl (one_of HT_.out (by kernel_rfl)) (by decide) (fun K hK => ?_)
   refine goes_ Try.func16 (by kernel_rfl) rfl #[.agg #[.slice (some ⟨go38, 0, none⟩) y235.length co33], .slice (some ad231) l1.length c1, .slice Ao51 y242.length co51] (by rfl) rfl rfl (by (try simp only [List.map_toArray, List.map_cons, List.map_nil]); first | done | (rw [show y235.length = t226.length from (Kd.S_reads' HO228.out).1.symm] <;> rfl) | rfl | (simp only [List.length_drop, List.length_take]; rfl)) ?_
   with_reducible refine (ih k1 (by have := HK1.out; omega) _ _ y235 _ _ l1 (fun k_ => some k_ = (.slice Ao51 y242.length co51 : Value).ownBlock) (.slice Ao51 y242.length co51) y242 t245 t248 w0 _ ?side1 ?side2 ?side3 ?side4 ?side5 ?side6 A27.out).mono ?_
   (case side1 => repeat (first | (with_reducible first | exact HB.out | apply below_alloc | apply pw_below_drewN | apply below_drew1 | refine below_set ?_ GE218.out | refine below_set ?_ GE229.out) | exact HB.out))
   (case side2 => have h_ := HO228.out; rw [← show y235.length = t226.length from (Kd.S_reads' HO228.out).1.symm] at h_; exact Kd.C_kept_own (Kd.S_R h_) (fun k_ hk_ hs_ => (hk_.2) hs_))
   (case side3 => rw [show y235.length = t226.length from (Kd.S_reads' HO228.out).1.symm]; exact (Kd.S_reads' HO228.out).2.1)
   (case side4 => exact Kd.C_kept_call HR1.out (by repeat (first | (with_reducible first | exact HK.out | apply Kept.alloc | apply Kept.drewN | apply Kept.drew | refine Kept.setCell ?_ (.inr GW218.out) _ | refine Kept.setCell ?_ (.inr GW229.out) _) | exact HK.out)) (fun k_ hs_ => (fun e_ => (HO244.out.1 k_ e_.symm).1) hs_))
   (case side5 => exact HC1.out)
   (case side6 => exact Kd.R_tight rfl HO244.out)
   rintro e w52 ⟨v246, rfl, ho0, hb, hkp⟩
   refine ⟨_, rfl, ?_⟩
   have n0_ := Aside0.mk (Kd.R_mono (ok' := fun k_ => (P2_ k_ ∨ w.heap.size ≤ k_) ∧ some k_ ≠ (u9 : Value).ownBlock ∧ some k_ ≠ (.slice Ao50 y239.length co50 : Value).ownBlock ∧ some k_ ≠ (v246 : Value).ownBlock) (Kd.R_keptB (HO_2.out) hkp (fun k_ hk_ hs_ => (hk_.2) hs_)) (fun k_ hk_ => ⟨hk_.1.1.1, hk_.1.1.2.1, hk_.1.1.2.2, fun e_ => Or.elim (ho0.1 k_ e_.symm) (fun hs_ => hk_.2.1 hs_) (fun hn_ => Nat.not_le.2 hk_.2.2 hn_)⟩))
   have n1_ := Aside0.mk (Kd.R_mono (ok' := fun k_ => (P2_ k_ ∨ w.heap.size ≤ k_) ∧ some k_ ≠ (.slice Ao12 l2.length co12 : Value).ownBlock ∧ some k_ ≠ (.slice Ao50 y239.length co50 : Value).ownBlock ∧ some k_ ≠ (v246 : Value).ownBlock) (Kd.R_keptB (HO_9.out) hkp (fun k_ hk_ hs_ => (hk_.2) hs_)) (fun k_ hk_ => ⟨hk_.1.1.1, hk_.1.1.2.1, hk_.1.1.2.2, fun e_ => Or.elim (ho0.1 k_ e_.symm) (fun hs_ => hk_.2.1 hs_) (fun hn_ => Nat.not_le.2 hk_.2.2 hn_)⟩))
   have n2_ := Aside0.mk (blk_kept (bkl BK218) hkp (fun hs_ => (fun e_ => (Kd.R_ne HO244.out BK218.out (by decide)) e_) hs_))
   have n3_ := Aside0.mk (blk_kept (bkl BK229) hkp (fun hs_ => (fun e_ => (Kd.R_ne HO244.out BK229.out (by decide)) e_) hs_))
   have n4_ := Aside0.mk (Kd.S_mono (ok' := fun k_ => (P2_ k_ ∨ w.heap.size ≤ k_) ∧ some k_ ≠ (.slice Ao12 l2.length co12 : Value).ownBlock ∧ some k_ ≠ (u9 : Value).ownBlock ∧ some k_ ≠ (.slice Ao50 y239.length co50 : Value).ownBlock ∧ some k_ ≠ (v246 : Value).ownBlock) (Kd.S_keptB (HO228.out) hkp (fun k_ hk_ hs_ => (hk_.2) hs_)) (fun k_ hk_ => ⟨hk_.1.1.1, hk_.1.1.2.1, hk_.1.1.2.2.1, hk_.1.1.2.2.2, fun e_ => Or.elim (ho0.1 k_ e_.symm) (fun hs_ => hk_.2.1 hs_) (fun hn_ => Nat.not_le.2 hk_.2.2 hn_)⟩))
   have n5_ := Aside0.mk (Kd.R_mono (ok' := fun k_ => (P2_ k_ ∨ w.heap.size ≤ k_) ∧ some k_ ≠ (.slice Ao12 l2.length co12 : Value).ownBlock ∧ some k_ ≠ (u9 : Value).ownBlock ∧ some k_ ≠ (v246 : Value).ownBlock) (Kd.R_keptB (HO241.out) hkp (fun k_ hk_ hs_ => (hk_.2) hs_)) (fun k_ hk_ => ⟨hk_.1.1.1, hk_.1.1.2.1, hk_.1.1.2.2, fun e_ => Or.elim (ho0.1 k_ e_.symm) (fun hs_ => hk_.2.1 hs_) (fun hn_ => Nat.not_le.2 hk_.2.2 hn_)⟩))
   have n6_ := Aside0.mk (Kd.R_mono (ok' := fun k_ => (P2_ k_ ∨ w.heap.size ≤ k_) ∧ some k_ ≠ (.slice Ao12 l2.length co12 : Value).ownBlock ∧ some k_ ≠ (u9 : Value).ownBlock ∧ some k_ ≠ (.slice Ao50 y239.length co50 : Value).ownBlock) ho0 (fun k_ hk_ => ⟨Or.elim hk_ (fun hs_ => (HO244.out.1 k_ (hs_).symm).1) (fun hn_ => (.inr (Nat.le_trans (by first | exact HK.out.1 | exact (show Kept w _ (fun k_ => P2_ k_) from by repeat (first | (with_reducible first | exact HK.out | apply Kept.alloc | apply Kept.drewN | apply Kept.drew | refine Kept.setCell ?_ (.inr GW218.out) _ | refine Kept.setCell ?_ (.inr GW229.out) _) | exact HK.out)).1) hn_))), Or.elim hk_ (fun hs_ => fun e_ => (((HO_2.out).1 k_ e_.symm).2) hs_) (fun hn_ => (Kd.fresh' (Kd.R_lt (rdl HO_2)) k_ hn_)), Or.elim hk_ (fun hs_ => fun e_ => (((HO_9.out).1 k_ e_.symm).2) hs_) (fun hn_ => (Kd.fresh' (Kd.R_lt (rdl HO_9)) k_ hn_)), Or.elim hk_ (fun hs_ => fun e_ => (((HO241.out).1 k_ e_.symm).2) hs_) (fun hn_ => (Kd.fresh' (Kd.R_lt (rdl HO241)) k_ hn_))⟩))
   have n7_ := Aside0.mk (Kept.then_ (S := (fun k_ => P2_ k_)) (by repeat (first | (with_reducible first | exact HK.out | apply Kept.alloc | apply Kept.drewN | apply Kept.drew | refine Kept.setCell ?_ (.inr GW218.out) _ | refine Kept.setCell ?_ (.inr GW229.out) _) | exact HK.out)) hkp (fun k_ hs_ => (fun e_ => (HO244.out.1 k_ e_.symm).1) hs_))
   have n8_ := Aside0.mk (hb)
   clear HO_2 HO_9 BK218 BK229 HO228 HO241 HK HB HO244
   have HO_2 := n0_
   have HO_9 := n1_
   have BK218 := n2_
   have BK229 := n3_
   have HO228 := n4_
   have HO241 := n5_
   have HO247 := n6_
   have HK := n7_
   have HB := n8_
   clear n0_ n1_ n2_ n3_ n4_ n5_ n6_ n7_ n8_
   (try clear hb)
   (try clear hkp)
   (try clear ho0)
   refine hK.out _ _ ((blk_cell BK229.out 0).trans rfl) (fun hHeld => ?_)
   clear hK K
   refine norm_ (a' := ?_) ?_ ?_
   rotate_left
   ·show Act.put _ (some 65) _ = _
    simp only [putS]
    rfl
   refine pure_ (i := 8) (N := some 57) (v := ?_) (a' := ?_) #[true, true, true, true, true, true, true, true, true, false, false, false, false] rfl rfl (any_of HT_.out (by kernel_rfl)) (fun _ _ _ h => h) (Or.inl ⟨by rfl, ?_⟩) ?_ ?_
   rotate_left
   ·intro w'
    go_simp
    with_reducible rfl
   rotate_left
   ·simp only [putS]
    rfl
   refine pure_ (i := 9) (N := some 66) (v := ?_) (a' := ?_) #[true, true, true, true, true, true, true, true, true, true, false, false, false] rfl rfl (any_of HT_.out (by kernel_rfl)) (fun _ _ _ h => h) (Or.inl ⟨by rfl, ?_⟩) ?_ ?_
   rotate_left
   ·intro w'
    go_simp
    with_reducible rfl
   rotate_left
   ·simp only [putS]
    rfl
   refine pure_ (i := 10) (N := some 67) (v := ?_) (a' := ?_) #[true, true, true, true, true, true, true, true, true, true, true, false, false] rfl rfl (any_of HT_.out (by kernel_rfl)) (fun _ _ _ h => h) (Or.inl ⟨by rfl, ?_⟩) ?_ ?_
   rotate_left
   ·intro w'
    go_simp
    with_reducible rfl
   rotate_left
   ·simp only [putS]
    rfl
   refine pure_ (i := 11) (N := some 13) (v := ?_) (a' := ?_) #[true, true, true, true, true, true, true, true, true, true, true, true, false] rfl rfl (any_of HT_.out (by kernel_rfl)) (fun _ _ _ h => h) (Or.inl ⟨by rfl, ?_⟩) ?_ ?_
   rotate_left
   ·intro w'
    go_simp
    with_reducible rfl
   rotate_left
   ·simp only [putS]
    rfl
   refine pure_ (i := 12) (N := some 14) (v := ?_) (a' := ?_) #[true, true, true, true, true, true, true, true, true, true, true, true, true] rfl rfl (any_of HT_.out (by kernel_rfl)) (fun _ _ _ h => h) (Or.inl ⟨by rfl, ?_⟩) ?_ ?_
   rotate_left
   ·intro w'
    go_simp
    with_reducible rfl
   rotate_left
   ·simp only [putS]
    rfl
   refine done_ (done_of HT_.out (by kernel_rfl)) ?_
   try go_wp2
   go_roundg k1
   case measure => have := HK1.out; omega
   case rel => exact ⟨(t245), (t248), (wrap64 (x11_1 + 1)), (by first | rfl | (simp; done) | (simp [*]; done)), (by first | rfl | (simp; done) | (simp [*]; done)), H', ⟨by have := HK1.out; omega⟩, ⟨by (with_reducible repeat (first | apply Kd.R_alloc | apply Kd.R_drewN | apply Kd.R_drew)); exact Kd.R_mono HO_2.out (fun _ hk => ⟨hk.1, hk.2.2.2⟩)⟩, ⟨by (with_reducible repeat (first | apply Kd.R_alloc | apply Kd.R_drewN | apply Kd.R_drew)); exact Kd.R_mono HO247.out (fun _ hk => ⟨hk.1, hk.2.1⟩)⟩, ⟨bkl BK218⟩, ⟨by repeat (first | (with_reducible first | exact HK.out | apply Kept.alloc | apply Kept.drewN | apply Kept.drew | refine Kept.setCell ?_ (.inr GW218.out) _ | refine Kept.setCell ?_ (.inr GW229.out) _) | exact HK.out)⟩, ⟨bel2 HB GE218 GE229⟩⟩
  rw [if_neg c29] at H
  have c29b0 : decide (x10_1 < 0) = false := decide_eq_false c29
  clear c29
  by_cases c53 : t248 < x10_1
  ·rw [if_pos c53] at H
   have c53b0 : decide (t248 < x10_1) = true := decide_eq_true c53
   clear c53
   have H' := Aside0.mk H
   clear H
   have hcz54_0 : wr.cell? ⟨gb218, 0, none⟩ = some (.slice A0_0 l0_0.length c0_0) := (blk_cell BK218.out 0).trans rfl
   have hfz54_0 := blk_frozen BK218.out 0
   have p225 : 0 ≤ (x11_1 : Int) := oda
   have q225 : x11_1 < (l0_0.length : Int) := oda
   obtain ⟨ad225, A225_0, c225_0, e225, hx225_0, hl225_0, hi225_0⟩ := at_L1 (Kd.C_kept_now HR0_0.out HK.out) x11_1 p225 q225
   cases e225
   have HR225_0 := Aside0.mk hi225_0
   have HC225_0 := Aside0.mk hl225_0
   clear hi225_0 hl225_0
   replace p225 := eq_true p225
   replace q225 := eq_true q225
   try go_wp2_with (first | ((with_reducible refine gate_callee (f := 29) rfl ?_); refine goesL_ (some 41) rfl rfl Try.func29 (by kernel_rfl) rfl #[.agg #[.slice (some ad225) l0_0.length c0_0]] rfl gmp ?_; (with_reducible refine (spec_l5Own.calls k1 _ _ l0_0 t226 _ ?side1 ?side2 A19.out).mono ?_); (case side1 => exact Kd.C_kept_now HR0_0.out (by repeat (first | (with_reducible first | exact HK.out | apply Kept.alloc | apply Kept.drewN | apply Kept.drew | refine Kept.setCell ?_ (.inr GW218.out) _) | exact HK.out))); (case side2 => exact HC0_0.out); rintro e w55 ⟨v227, rfl, ho0, hb⟩; refine ⟨_, rfl, ?_⟩; have n0_ := Aside0.mk (Kd.R_below (rdl HO_2) hb); have n1_ := Aside0.mk (Kd.R_below (rdl HO_9) hb); have n2_ := Aside0.mk (Kd.S_lower (Kd.S_new' (Kd.S_new' (Kd.S_newM (M := fun k_ => (P2_ k_ ∨ w.heap.size ≤ k_)) ho0 (by first | exact HK.out.1 | exact (show Kept w _ (fun k_ => P2_ k_) from by repeat (first | (with_reducible first | exact HK.out | apply Kept.alloc | apply Kept.drewN | apply Kept.drew | refine Kept.setCell ?_ (.inr GW218.out) _) | exact HK.out)).1) (fun k_ h_ => .inr h_)) (Kd.R_lt (rdl HO_2))) (Kd.R_lt (rdl HO_9))) (below_size (bel1 HB GE218))); have n3_ := Aside0.mk (blk_below (g := gb218) (o := .cells #[.slice (some ad225) l0_0.length c0_0] 29 (0, 0)) (bkl BK218) hb); have n4_ := Aside0.mk (Kd.C_below (cdl HR225_0.out) hb); have n5_ := Aside0.mk (Kept.below (S := (fun k_ => P2_ k_)) (by repeat (first | (with_reducible first | exact HK.out | apply Kept.alloc | apply Kept.drewN | apply Kept.drew | refine Kept.setCell ?_ (.inr GW218.out) _) | exact HK.out)) hb); have n6_ := Aside0.mk (below_step (bel1 HB GE218) hb); clear HO_2; clear HO_9; clear BK218; clear HR225_0; clear HK; clear HB; have HO_2 := n0_; have HO_9 := n1_; have HO228 := n2_; have BK218 := n3_; have HR225_0 := n4_; have HK := n5_; have HB := n6_; clear n0_ n1_ n2_ n3_ n4_ n5_ n6_; (try clear hb); (try clear hb2); (try clear hk); (try clear hi); (try clear ho0)) | ((with_reducible refine gate_dst (N := 12) rfl ?_); refine box_event ?hg (N := 12) ?hd (cs := #[.slice none 0 0]) (t := 29) ?hr ?_; (case hd => rfl); (case hg => rfl); (case hr => first | (go_simp; done) | (go_simp; rfl)); intro gb229 hg w56 hbox hb; have n0_ := Aside0.mk (Kd.R_below (rdl HO_2) hb); have n1_ := Aside0.mk (Kd.R_below (rdl HO_9) hb); have n2_ := Aside0.mk (Kd.S_below (sdl HO228) hb); have n3_ := Aside0.mk (blk_below (g := gb218) (o := .cells #[.slice (some ad225) l0_0.length c0_0] 29 (0, 0)) (bkl BK218) hb); have n4_ := Aside0.mk (Kd.C_below (cdl HR225_0.out) hb); have n5_ := Aside0.mk (Kept.below (S := (fun k_ => P2_ k_)) (by repeat (first | (with_reducible first | exact HK.out | apply Kept.alloc | apply Kept.drewN | apply Kept.drew | refine Kept.setCell ?_ (.inr GW218.out) _) | exact HK.out)) hb); have n6_ := Aside0.mk (below_step (bel1 HB GE218) hb); have n7_ := Aside0.mk (hbox); have n8_ := Aside0.mk ((by rw [hg]; exact (by first | exact HK.out.1 | exact (show Kept w _ (fun k_ => P2_ k_) from by repeat (first | (with_reducible first | exact HK.out | apply Kept.alloc | apply Kept.drewN | apply Kept.drew | refine Kept.setCell ?_ (.inr GW218.out) _) | exact HK.out)).1) : w.heap.size ≤ gb229)); have n9_ := Aside0.mk ((by rw [hg]; exact (below_size (bel1 HB GE218)) : w0.heap.size ≤ gb229)); have n10_ := Aside0.mk ((by rw [hg]; exact Nat.ne_of_lt (blk_lt (g := gb218) (o := .cells #[.slice (some ad225) l0_0.length c0_0] 29 (0, 0)) (bkl BK218)) : gb218 ≠ gb229)); have n11_ := Aside0.mk ((by rw [hg]; exact Nat.ne_of_gt (blk_lt (g := gb218) (o := .cells #[.slice (some ad225) l0_0.length c0_0] 29 (0, 0)) (bkl BK218)) : gb229 ≠ gb218)); clear HO_2; clear HO_9; clear HO228; clear BK218; clear HR225_0; clear HK; clear HB; have HO_2 := n0_; have HO_9 := n1_; have HO228 := n2_; have BK218 := n3_; have HR225_0 := n4_; have HK := n5_; have HB := n6_; have BK229 := n7_; have GW229 := n8_; have GE229 := n9_; have NB218_229 := n10_; have NB229_218 := n11_; clear n0_ n1_ n2_ n3_ n4_ n5_ n6_ n7_ n8_ n9_ n10_ n11_; clear hb hbox hg; obtain ⟨Ao57, co57, eo57⟩ := Kd.S_slice HO228.out; subst eo57; have hnb58 := NB229_218.out; have hnc58 := NB218_229.out; have hcz59_0 : w56.cell? ⟨gb229, 0, none⟩ = some (.slice none 0 0) := (blk_cell BK229.out 0).trans rfl; have hfz59_0 := blk_frozen BK229.out 0))
   have n0_ : Aside0 (Kd.R (Kd.int .i64) 3 (w56.setCell ⟨gb229, 0, none⟩ (.slice Ao57 t226.length co57)) w0.heap.size (fun k_ => (P2_ k_ ∨ w.heap.size ≤ k_) ∧ some k_ ≠ (u9 : Value).ownBlock) (.slice Ao12 l2.length co12) l2) := ⟨by (with_reducible repeat (first | apply Kd.R_alloc | apply Kd.R_drewN | apply Kd.R_drew)); exact Kd.R_mono (Kd.R_far (p := ⟨gb229, 0, none⟩) (Kd.R_types HO_2.out BK229.out (by decide)) (fun _ hk => hk.2) (.slice Ao57 t226.length co57)) (fun _ hk => ⟨hk.1.1, hk.1.2⟩)⟩
   have n1_ : Aside0 (Kd.R (Kd.int .i64) 3 (w56.setCell ⟨gb229, 0, none⟩ (.slice Ao57 t226.length co57)) w0.heap.size (fun k_ => (P2_ k_ ∨ w.heap.size ≤ k_) ∧ some k_ ≠ (.slice Ao12 l2.length co12 : Value).ownBlock) u9 x9_1) := ⟨by (with_reducible repeat (first | apply Kd.R_alloc | apply Kd.R_drewN | apply Kd.R_drew)); exact Kd.R_mono (Kd.R_far (p := ⟨gb229, 0, none⟩) (Kd.R_types HO_9.out BK229.out (by decide)) (fun _ hk => hk.2) (.slice Ao57 t226.length co57)) (fun _ hk => ⟨hk.1.1, hk.1.2⟩)⟩
   have n2_ : Aside0 (Kd.S (Kd.slice 3 (Kd.int .i64)) 25 (w56.setCell ⟨gb229, 0, none⟩ (.slice Ao57 t226.length co57)) w0.heap.size (fun k_ => (P2_ k_ ∨ w.heap.size ≤ k_) ∧ some k_ ≠ (.slice Ao12 l2.length co12 : Value).ownBlock ∧ some k_ ≠ (u9 : Value).ownBlock) (.slice Ao57 t226.length co57) t226) := ⟨by (with_reducible repeat (first | apply Kd.S_alloc | apply Kd.S_drewN | apply Kd.S_drew)); exact Kd.S_mono (Kd.S_far (p := ⟨gb229, 0, none⟩) (Kd.S_types HO228.out BK229.out (by decide)) (fun _ hk => hk.2) (.slice Ao57 t226.length co57)) (fun _ hk => ⟨hk.1.1.1.1, ⟨hk.1.1.2, hk.1.2⟩⟩)⟩
   have n3_ : Aside0 ((w56.setCell ⟨gb229, 0, none⟩ (.slice Ao57 t226.length co57)).heap[gb218]? = some (.cells #[.slice (some ad225) l0_0.length c0_0] 29 (0, 0))) := ⟨by (with_reducible repeat (first | refine blk_drewN ?_ _ | refine blk_drew ?_ | refine blk_alloc ?_ _)); refine blk_far ?_ NB218_229.out _; (with_reducible repeat (first | refine blk_drewN ?_ _ | refine blk_drew ?_ | refine blk_alloc ?_ _)); exact BK218.out⟩
   have n4_ : Aside0 ((w56.setCell ⟨gb229, 0, none⟩ (.slice Ao57 t226.length co57)).heap[gb229]? = some (.cells #[.slice Ao57 t226.length co57] 29 (0, 0))) := ⟨by (with_reducible repeat (first | refine blk_drewN ?_ _ | refine blk_drew ?_ | refine blk_alloc ?_ _)); refine blk_put (cs := #[.slice none 0 0]) ?_ 0 _ rfl; (with_reducible repeat (first | refine blk_drewN ?_ _ | refine blk_drew ?_ | refine blk_alloc ?_ _)); exact BK229.out⟩
   have n5_ : Aside0 (Kept w (w56.setCell ⟨gb229, 0, none⟩ (.slice Ao57 t226.length co57)) (fun k_ => P2_ k_)) := ⟨by repeat (first | (with_reducible first | exact HK.out | apply Kept.alloc | apply Kept.drewN | apply Kept.drew | refine Kept.setCell ?_ (.inr GW218.out) _ | refine Kept.setCell ?_ (.inr GW229.out) _) | exact HK.out)⟩
   have n6_ : Aside0 (Below w0.heap.size w0 (w56.setCell ⟨gb229, 0, none⟩ (.slice Ao57 t226.length co57))) := ⟨bel2 HB GE218 GE229⟩
   (try clear HO_2)
   (try clear HO_9)
   (try clear HO228)
   (try clear BK218)
   (try clear BK229)
   (try clear HK)
   (try clear HB)
   generalize (w56.setCell ⟨gb229, 0, none⟩ (.slice Ao57 t226.length co57)) = w60 at n0_ n1_ n2_ n3_ n4_ n5_ n6_ ⊢
   have HO_2 := n0_
   have HO_9 := n1_
   have HO228 := n2_
   have BK218 := n3_
   have BK229 := n4_
   have HK := n5_
   have HB := n6_
   clear n0_ n1_ n2_ n3_ n4_ n5_ n6_
   have n0_ := Aside0.mk (Kd.R_drew HO_2.out)
   have n1_ := Aside0.mk (Kd.R_drew HO_9.out)
   have n2_ := Aside0.mk (Kd.S_drew HO228.out)
   have n3_ := Aside0.mk (blk_drew BK218.out)
   have n4_ := Aside0.mk (blk_drew BK229.out)
   have n5_ := Aside0.mk (Kept.drew HK.out)
   have n6_ := Aside0.mk (below_drew1 HB.out)
   clear HO_2 HO_9 HO228 BK218 BK229 HK HB
   have HO_2 := n0_
   have HO_9 := n1_
   have HO228 := n2_
   have BK218 := n3_
   have BK229 := n4_
   have HK := n5_
   have HB := n6_
   clear n0_ n1_ n2_ n3_ n4_ n5_ n6_
   have p230 : 0 ≤ (x11_1 : Int) := oda
   have q230 : x11_1 < (t226.length : Int) := oda
   obtain ⟨ad230, A230_0, c230_0, e230, hx230_0, hl230_0, hi230_0⟩ := at_L1 (Kd.S_reads' HO228.out).2.2 x11_1 p230 q230
   cases e230
   obtain ⟨ce230, hce230, hMe230, hcc230⟩ := Kd.S_get HO228.out [] x11_1 p230 (by first | exact q230 | exact oda | (have e_ := (Kd.S_reads' HO228.out).1; omega))
   obtain ⟨ve230_0, rfl, ge230_0⟩ := hMe230
   have hv230_0 := hcc230 0 _ rfl
   rw [Nat.add_zero, show ((Kd.slice 3 (Kd.int .i64))).sz = 1 from rfl, Nat.mul_one] at hv230_0
   replace hv230_0 := Option.some.inj (hv230_0.symm.trans hx230_0)
   rw [hv230_0] at ge230_0
   have HL230_0 := Aside0.mk (show Kd.R (Kd.int .i64) 3 _ _ _ _ (rd_L1 t226 x11_1) from ge230_0)
   clear hv230_0 ge230_0
   have HX230_0 := Aside0.mk hx230_0
   clear hcc230 hce230
   have HR230_0 := Aside0.mk hi230_0
   have HC230_0 := Aside0.mk hl230_0
   clear hi230_0 hl230_0
   replace p230 := eq_true p230
   replace q230 := eq_true q230
   have p231 : 0 ≤ ((l2.length : Int) : Int) := oda
   have q231 : (l2.length : Int) < (l1.length : Int) := oda
   obtain ⟨ad231, e231, hx231_0⟩ := Kd.at_int (Kd.C_kept_now HR1.out HK.out) (l2.length : Int) p231 q231
   have hw231_0 := hx231_0
   cases e231
   (try simp only [Go.IntWalk.toNatUp] at hx231_0)
   replace p231 := eq_true p231
   replace q231 := eq_true q231
   obtain ⟨go62, co62, eo62, gb62, gl62, cl62, HG62⟩ := Kd.S_form HO228.out (by have h_ : (x11_1 : Int) < ((t226.length : Int) : Int) := oda; have h2_ : 0 ≤ (x11_1 : Int) := (oda); omega)
   (first | cases eo62 | (injection eo62 with ea_ en_ ec_; (first | subst ea_ | (injection ea_ with ea_; subst ea_)); subst ec_; clear en_))
   have GB62 := Aside0.mk gb62
   have GG62 := Aside0.mk HG62
   clear gb62 gl62 HG62
   have HMgo62 := Aside0.mk (show (P2_ go62 ∨ w.heap.size ≤ go62) from ((Kd.S_R HO228.out).1 _ rfl).1)
   (first | simp only [add_plain] at hx230_0 | skip)
   obtain ⟨oki62, ce62, hcl62, hM62, hcc62, _, _, hH62⟩ := Kd.S_elem HO228.out [] (x11_1 : Int) (oda) (by have h_ : (x11_1 : Int) < ((t226.length : Int) : Int) := oda; first | exact h_ | (have e_ := (Kd.S_reads' HO228.out).1; omega) | simpa using h_)
   obtain ⟨ve62_0, rfl, ge62_0⟩ := hM62
   have hv62 := hcc62 0 _ rfl
   have hX62 := HX230_0.out
   (try simp only [add_plain] at hX62)
   (try simp only [Nat.add_zero] at hv62)
   (try rw [show ((Kd.slice 3 (Kd.int .i64))).sz = 1 from rfl, Nat.mul_one] at hv62)
   replace hv62 := Option.some.inj (hv62.symm.trans hX62)
   subst hv62
   clear hX62 hcc62 hcl62
   have UU62 := Aside0.mk (show Kd.R (Kd.int .i64) 3 _ w0.heap.size oki62 (.slice A230_0 (rd_L1 t226 x11_1).length c230_0) (rd_L1 t226 x11_1) from ge62_0)
   have HH62 := Aside0.mk hH62
   have HN62 := Aside0.mk (Kd.S_reads' HO228.out).1
   clear hH62 ge62_0
   refine start_ (n := 16) (S := fun w' => w'.cell? ⟨gb229, 0, none⟩ = some (.slice (some ⟨go62, 0, none⟩) t226.length co57) ∧ w'.cell? ⟨go62, (x11_1).toNat, none⟩ = some (.slice A230_0 (rd_L1 t226 x11_1).length c230_0) ∧ w'.cell? (ad231.add ((l2.length : Int)).toNat) = some (.int .i64 (rd l1 (l2.length : Int)))) (ds := [15]) #[false, false, false, false, false, false, false, false, false, false, false, false, false, false, false, false] (by kernel_rfl) rfl rfl ⟨(blk_cell BK229.out 0).trans rfl, hx230_0, (Kd.foot_int (HR1.out _ (by repeat (first | exact HK.out | apply Kept.alloc | apply Kept.drewN | apply Kept.drew | refine Kept.setCell ?_ HMgo62.out _))) (l2.length : Int) (of_eq_true p231) (of_eq_true q231))⟩ (fun hHeld => ?_); refine with_tabW spec_l8Best.tab10 spec_l8Best.bits10 (fun HT_ HW_ => ?_)
   generalize w60.drew = w61 at HO_2 HO_9 HO228 BK218 BK229 HK HB GG62 HH62 HL230_0 HR230_0 HX230_0 UU62 hx230_0 hx231_0 hHeld ⊢
   refine pure_ (i := 0) (N := some 42) (v := ?_) (a' := ?_) #[true, false, false, false, false, false, false, false, false, false, false, false, false, false, false, false] rfl rfl (any_of HT_.out (by kernel_rfl)) (fun _ _ _ h => h) (Or.inl ⟨by rfl, ?_⟩) ?_ ?_
   rotate_left
   ·intro w'
    go_simp
    with_reducible rfl
   rotate_left
   ·simp only [putS]
    rfl
   refine pure_ (i := 2) (N := some 44) (v := ?_) (a' := ?_) #[true, false, true, false, false, false, false, false, false, false, false, false, false, false, false, false] rfl rfl (any_of HT_.out (by kernel_rfl)) (fun _ _ _ h => h) (Or.inl ⟨by rfl, ?_⟩) ?_ ?_
   rotate_left
   ·intro w'
    go_simp
    with_reducible rfl
   rotate_left
   ·simp only [putS]
    rfl
   refine pure_ (i := 3) (N := some 45) (v := ?_) (a' := ?_) #[true, false, true, true, false, false, false, false, false, false, false, false, false, false, false, false] rfl rfl (any_of HT_.out (by kernel_rfl)) (fun _ _ _ h => h) (Or.inl ⟨by rfl, ?_⟩) ?_ ?_
   rotate_left
   ·intro w'
    go_simp
    with_reducible rfl
   rotate_left
   ·simp only [putS]
    rfl
   refine pure_ (i := 5) (N := some 47) (v := ?_) (a' := ?_) #[true, false, true, true, false, true, false, false, false, false, false, false, false, false, false, false] rfl rfl (any_of HT_.out (by kernel_rfl)) (fun _ _ _ h => h) (Or.inl ⟨by rfl, ?_⟩) ?_ ?_
   rotate_left
   ·intro w'
    go_simp
    with_reducible rfl
   rotate_left
   ·simp only [putS]
    rfl
   refine pure_ (i := 8) (N := some 50) (v := ?_) (a' := ?_) #[true, false, true, true, false, true, false, false, true, false, false, false, false, false, false, false] rfl rfl (any_of HT_.out (by kernel_rfl)) (fun _ _ _ h => h) (Or.inl ⟨by rfl, ?_⟩) ?_ ?_
   rotate_left
   ·intro w'
    go_simp
    with_reducible rfl
   rotate_left
   ·simp only [putS]
    rfl
   refine pure_ (i := 9) (N := some 51) (v := ?_) (a' := ?_) #[true, false, true, true, false, true, false, false, true, true, false, false, false, false, false, false] rfl rfl (any_of HT_.out (by kernel_rfl)) (fun _ _ _ h => h) (Or.inl ⟨by rfl, ?_⟩) ?_ ?_
   rotate_left
   ·intro w'
    go_simp
    with_reducible rfl
   rotate_left
   ·simp only [putS]
    rfl
   refine pure_ (i := 10) (N := some 52) (v := ?_) (a' := ?_) #[true, false, true, true, false, true, false, false, true, true, true, false, false, false, false, false] rfl rfl (any_of HT_.out (by kernel_rfl)) (fun _ _ _ h => h) (Or.inl ⟨by rfl, ?_⟩) ?_ ?_
   rotate_left
   ·intro w'
    go_simp
    with_reducible rfl
   rotate_left
   ·simp only [putS]
    rfl
   refine take_ (i := 1) (N := some 43) (v := ?_) (a' := ?_) #[true, true, true, true, false, true, false, false, true, true, true, false, false, false, false, false] rfl rfl (take_ofW HT_.out HW_.out (by kernel_rfl)) (fun _ _ _ h => h) (Or.inl ⟨by rfl, ?_⟩) hHeld ?_ ?_
   rotate_left
   ·rintro w' ⟨s0, s1, s2⟩
    (try simp only [Int.toNat_natCast] at s2)
    go_simp
    with_reducible rfl
   rotate_left
   ·simp only [putS]
    rfl
   refine take_ (i := 4) (N := some 46) (v := ?_) (a' := ?_) #[true, true, true, true, true, true, false, false, true, true, true, false, false, false, false, false] rfl rfl (take_ofW HT_.out HW_.out (by kernel_rfl)) (fun _ _ _ h => h) (Or.inl ⟨by rfl, ?_⟩) hHeld ?_ ?_
   rotate_left
   ·rintro w' ⟨s0, s1, s2⟩
    (try simp only [Int.toNat_natCast] at s2)
    go_simp
    with_reducible rfl
   rotate_left
   ·simp only [putS]
    rfl
   refine pure_ (i := 6) (N := some 48) (v := ?_) (a' := ?_) #[true, true, true, true, true, true, true, false, true, true, true, false, false, false, false, false] rfl rfl (any_of HT_.out (by kernel_rfl)) (fun _ _ _ h => h) (Or.inl ⟨by rfl, ?_⟩) ?_ ?_
   rotate_left
   ·intro w'
    go_simp
    with_reducible rfl
   rotate_left
   ·simp only [putS]
    rfl
   refine take_ (i := 7) (N := some 49) (v := ?_) (a' := ?_) #[true, true, true, true, true, true, true, true, true, true, true, false, false, false, false, false] rfl rfl (take_ofW HT_.out HW_.out (by kernel_rfl)) (fun _ _ _ h => h) (Or.inl ⟨by rfl, ?_⟩) hHeld ?_ ?_
   rotate_left
   ·rintro w' ⟨s0, s1, s2⟩
    (try simp only [Int.toNat_natCast] at s2)
    go_simp
    with_reducible rfl
   rotate_left
   ·simp only [putS]
    rfl
   refine take_ (i := 11) (N := some 53) (v := ?_) (a' := ?_) #[true, true, true, true, true, true, true, true, true, true, true, true, false, false, false, false] rfl rfl (take_ofW HT_.out HW_.out (by kernel_rfl)) (fun _ _ _ h => h) (Or.inl ⟨by rfl, ?_⟩) hHeld ?_ ?_
   rotate_left
   ·rintro w' ⟨s0, s1, s2⟩
    (try simp only [Int.toNat_natCast] at s2)
    go_simp
    with_reducible rfl
   rotate_left
   ·simp only [putS]
    rfl
   refine one_ (i := 12) (N := some 54) #[true, true, true, true, true, true, true, true, true, true, true, true, true, false, false, false] rfl rfl (one_of HT_.out (by kernel_rfl)) (by decide) (fun K hK => ?_)
   refine value_ (w1 := ?_) (v := ?_) (by rfl) rfl ?_ ?_
   rotate_left 2
   ·go_simp
    constructor
    ·rfl
    rfl
   refine hK.out _ _ ⟨(blk_cell (blk_alloc BK229.out _) 0).trans rfl, (World.cell?_alloc_lt _ _ _ (World.block_lt_of_cell? _ _ (hHeld.2.1))).trans (hHeld.2.1), (World.cell?_alloc_lt _ _ _ (World.block_lt_of_cell? _ _ ((Kd.foot_int (HR1.out _ (by repeat (first | exact HK.out | apply Kept.alloc | apply Kept.drewN | apply Kept.drew | refine Kept.setCell ?_ HMgo62.out _))) (l2.length : Int) (of_eq_true p231) (of_eq_true q231))))).trans ((Kd.foot_int (HR1.out _ (by repeat (first | exact HK.out | apply Kept.alloc | apply Kept.drewN | apply Kept.drew | refine Kept.setCell ?_ HMgo62.out _))) (l2.length : Int) (of_eq_true p231) (of_eq_true q231)))⟩ (fun hHeld => ?_)
   clear hK K
   refine norm_ (a' := ?_) ?_ ?_
   rotate_left
   ·show Act.put _ (some 54) _ = _
    simp only [putS]
    rfl
   refine one_ (i := 13) (N := some 55) #[true, true, true, true, true, true, true, true, true, true, true, true, true, true, false, false] rfl rfl (one_of HT_.out (by kernel_rfl)) (by decide) (fun K hK => ?_)
   refine Kd.R_append_step (Kd.int .i64) (w0 := w0) w0.heap.size (by rfl) (.tmp 49) (.tmp 54) 25 3 (.int .i64 0) 8 rfl Try.underlying25 info3 rfl (by decide) (by omega) (.slice A230_0 (rd_L1 t226 x11_1).length c230_0) (rd_L1 t226 x11_1) (rd l1 (l2.length : Int)) [.int .i64 (rd l1 (l2.length : Int))] (fun k_ => oki62 k_ ∨ ((fun k_ => (P2_ k_ ∨ w.heap.size ≤ k_) ∧ some k_ ≠ (.slice Ao12 l2.length co12 : Value).ownBlock ∧ some k_ ≠ (u9 : Value).ownBlock)) k_ ∧ w61.heap.size ≤ k_) (fun _ => False) rfl rfl ?aP (fun _ hk => hk.elim) ?aF ?aO ?aB ?aS ?aL ?_
   (case aP => exact rfl)
   (case aB => exact (bel2 HB GE218 GE229))
   (case aF => exact (fun k_ hk => .inr ⟨⟨.inr (Nat.le_trans (by first | exact HK.out.1 | exact (show Kept w _ (fun k_ => P2_ k_) from by repeat (first | (with_reducible first | exact HK.out | apply Kept.alloc | apply Kept.drewN | apply Kept.drew | refine Kept.setCell ?_ (.inr GW218.out) _ | refine Kept.setCell ?_ (.inr GW229.out) _) | exact HK.out)).1) hk), Kd.fresh' (Kd.R_lt (rdl HO_2)) k_ hk, Kd.fresh' (Kd.R_lt (rdl HO_9)) k_ hk⟩, hk⟩))
   (case aO => exact (by (with_reducible repeat (first | apply Kd.R_alloc | apply Kd.R_drewN | apply Kd.R_drew)); exact Kd.R_mono UU62.out (fun _ hk => .inl hk)))
   (case aS => exact (below_size (bel2 HB GE218 GE229)))
   (case aL => have := LMc23.out; omega)
   intro v233 w63 ho hb hg hat
   (first | have HS1_ := cell_grown hg (hHeld.2.1) (by first | (rw [add_block]; exact (fun e_ => ((HL230_0.out.1 _ e_.symm).2) rfl)) | (show some (Addr.add _ _).block ≠ _; rw [add_block]; exact (fun e_ => ((HL230_0.out.1 _ e_.symm).2) rfl)) | exact (fun e_ => ((HL230_0.out.1 _ e_.symm).2) rfl)) | have HS1_ := cell_grown hg (cell_unalloc (hHeld.2.1) (by first | (rw [add_block]; exact Kd.S_lt HO228.out _ rfl) | (show (Addr.add _ _).block < _; rw [add_block]; exact Kd.S_lt HO228.out _ rfl) | exact Kd.S_lt HO228.out _ rfl)) (by first | (rw [add_block]; exact (fun e_ => ((HL230_0.out.1 _ e_.symm).2) rfl)) | (show some (Addr.add _ _).block ≠ _; rw [add_block]; exact (fun e_ => ((HL230_0.out.1 _ e_.symm).2) rfl)) | exact (fun e_ => ((HL230_0.out.1 _ e_.symm).2) rfl)))
   rw [← Ny232.out] at ho
   have n0_ := Aside0.mk (Kd.R_grown2 (rdl HO_2) rfl hg (fun k_ e_ => (HL230_0.out.1 k_ e_).1.2.1))
   have n1_ := Aside0.mk (Kd.R_grown2 (rdl HO_9) rfl hg (fun k_ e_ => (HL230_0.out.1 k_ e_).1.2.2))
   have n2_ := Aside0.mk (blk_grown (g := gb218) (o := .cells #[.slice (some ad225) l0_0.length c0_0] 29 (0, 0)) (bkl BK218) hg (Kd.R_ne HL230_0.out BK218.out (by decide)))
   have n3_ := Aside0.mk (blk_grown (g := gb229) (o := .cells #[.slice (some ⟨go62, 0, none⟩) t226.length co57] 29 (0, 0)) (bkl BK229) hg (Kd.R_ne HL230_0.out BK229.out (by decide)))
   have n4_ := Aside0.mk (hb)
   have n5_ := Aside0.mk (Kept.of_grown (S := (fun k_ => P2_ k_)) hg (by repeat (first | (with_reducible first | exact HK.out | apply Kept.alloc | apply Kept.drewN | apply Kept.drew | refine Kept.setCell ?_ (.inr GW218.out) _ | refine Kept.setCell ?_ (.inr GW229.out) _) | exact HK.out)) (fun k_ e_ => (HL230_0.out.1 k_ e_).1.1))
   have n6_ := Aside0.mk (Kd.H_grown (Kd.H_widen (by repeat (first | exact HH62.out | refine Kd.H_alloc ?_ _ | refine Kd.H_drewN ?_ _ | refine Kd.H_drew ?_))) hg (fun k_ e_ => .inl (UU62.out.1 k_ e_)))
   have n7_ := Aside0.mk (ho)
   clear HO_2 HO_9 BK218 BK229 HB HK HH62 HO228 UU62 HL230_0
   have HO_2 := n0_
   have HO_9 := n1_
   have BK218 := n2_
   have BK229 := n3_
   have HB := n4_
   have HK := n5_
   have HH62 := n6_
   have HO234 := n7_
   clear n0_ n1_ n2_ n3_ n4_ n5_ n6_ n7_ ho hb hg hat
   have p24 : 0 ≤ (x11_1 : Int) := oda
   have q24 : (x11_1 : Int) < ((t226.length : Int) : Int) := oda
   replace p24 := eq_true p24
   replace q24 := eq_true q24
   obtain ⟨Ao66, co66, eo66⟩ := Kd.R_slice HO234.out
   (first | subst eo66 | (injection eo66 with f1_ f2_ f3_; have f4_ := f1_.symm; have f5_ := f3_.symm; clear f1_ f2_ f3_; subst f4_; subst f5_))
   obtain ⟨_, _, hraw64, _, _, hcc64, _⟩ := Kd.H_raw HH62.out (oda) (by have h_ : (x11_1 : Int) < ((t226.length : Int) : Int) := oda; first | exact h_ | (have e_ := (HN62.out); omega) | simpa using h_)
   obtain ⟨_, hfr64⟩ := Kd.H_at HH62.out (oda) (by have h_ : (x11_1 : Int) < ((t226.length : Int) : Int) := oda; first | exact h_ | (have e_ := (HN62.out); omega) | simpa using h_)
   have hx64_0 := hcc64 0 _ rfl
   have hf64_0 := hfr64 0
   (try simp only [Nat.add_zero] at hx64_0 hf64_0)
   (try rw [show ((Kd.slice 3 (Kd.int .i64))).sz = 1 from rfl, Nat.mul_one] at hx64_0)
   (try rw [show ((Kd.slice 3 (Kd.int .i64))).sz = 1 from rfl, Nat.mul_one] at hf64_0)
   have HP64 := Kd.S_seg0 HH62.out (oda) (by have h_ : (x11_1 : Int) < ((t226.length : Int) : Int) := oda; first | exact h_ | (have e_ := (HN62.out); omega) | simpa using h_) (seg := [.slice Ao66 y232.length co66]) (j := 0) (show 1 ≤ 1 from by decide) (x' := y232) (Kd.M_row HO234.out) (fun _ hk => hk)
   (try simp only [show ((Kd.slice 3 (Kd.int .i64))).sz = 1 from rfl, Nat.mul_one, Nat.add_zero] at HP64)
   clear hcc64 hfr64
   have HNB218_go62 := Aside0.mk (show gb218 ≠ go62 from by have h_ := Kd.R_ne hraw64 BK218.out (by decide); intro e_; exact h_ (by rw [e_]; rfl))
   have HNB229_go62 := Aside0.mk (show gb229 ≠ go62 from by have h_ := Kd.R_ne hraw64 BK229.out (by decide); intro e_; exact h_ (by rw [e_]; rfl))
   have HS64 := HP64.1
   rw [← Ny235.out] at HS64
   have HQ64 := Aside0.mk HS64
   obtain ⟨_, hgg64⟩ := Kd.R_typed hraw64 go62 rfl
   have GG64_ := Aside0.mk hgg64
   clear HP64 HS64 hgg64
   refine hK.out _ _ ⟨(blk_cell BK229.out 0).trans rfl, HS1_, (Kd.foot_int (HR1.out _ (by repeat (first | exact HK.out | apply Kept.alloc | apply Kept.drewN | apply Kept.drew | refine Kept.setCell ?_ HMgo62.out _))) (l2.length : Int) (of_eq_true p231) (of_eq_true q231))⟩ (fun hHeld => ?_)
   clear hK K
   refine norm_ (a' := ?_) ?_ ?_
   rotate_left
   ·show Act.put _ (some 55) _ = _
    simp only [putS]
    rfl
   refine pure_ (i := 14) (N := some 56) (v := ?_) (a' := ?_) #[true, true, true, true, true, true, true, true, true, true, true, true, true, true, true, false] rfl rfl (any_of HT_.out (by kernel_rfl)) (fun _ _ _ h => h) (Or.inl ⟨by rfl, ?_⟩) ?_ ?_
   rotate_left
   ·intro w'
    go_simp
    with_reducible rfl
   rotate_left
   ·simp only [putS]
    rfl
   refine last_ (i := 15) (N := none) #[true, true, true, true, true, true, true, true, true, true, true, true, true, true, true, true] rfl rfl (one_of HT_.out (by kernel_rfl)) (by decide) (fun K hK => ?_)
   refine skip_ (w1 := ?_) (by rfl) rfl ?_ ?_
   rotate_left
   ·go_simp
    rfl
   refine hK.out _ _ ?_
   clear hK K
   refine done_ (done_of HT_.out (by kernel_rfl)) ?_
   try go_wp2
   have n0_ : Aside0 (Kd.R (Kd.int .i64) 3 (w63.setCell ⟨go62, (x11_1 : Int).toNat, none⟩ (.slice Ao66 y232.length co66)) w0.heap.size (fun k_ => (P2_ k_ ∨ w.heap.size ≤ k_) ∧ some k_ ≠ (u9 : Value).ownBlock) (.slice Ao12 l2.length co12) l2) := ⟨by (with_reducible repeat (first | apply Kd.R_alloc | apply Kd.R_drewN | apply Kd.R_drew)); exact Kd.R_mono (Kd.R_far (p := ⟨go62, (x11_1 : Int).toNat, none⟩) (Kd.R_types HO_2.out GG64_.out (by decide)) (fun _ hk => hk.2) (.slice Ao66 y232.length co66)) (fun _ hk => ⟨hk.1.1, hk.1.2⟩)⟩
   have n1_ : Aside0 (Kd.R (Kd.int .i64) 3 (w63.setCell ⟨go62, (x11_1 : Int).toNat, none⟩ (.slice Ao66 y232.length co66)) w0.heap.size (fun k_ => (P2_ k_ ∨ w.heap.size ≤ k_) ∧ some k_ ≠ (.slice Ao12 l2.length co12 : Value).ownBlock) u9 x9_1) := ⟨by (with_reducible repeat (first | apply Kd.R_alloc | apply Kd.R_drewN | apply Kd.R_drew)); exact Kd.R_mono (Kd.R_far (p := ⟨go62, (x11_1 : Int).toNat, none⟩) (Kd.R_types HO_9.out GG64_.out (by decide)) (fun _ hk => hk.2) (.slice Ao66 y232.length co66)) (fun _ hk => ⟨hk.1.1, hk.1.2⟩)⟩
   have n2_ : Aside0 (Kd.S (Kd.slice 3 (Kd.int .i64)) 25 (w63.setCell ⟨go62, (x11_1 : Int).toNat, none⟩ (.slice Ao66 y232.length co66)) w0.heap.size (fun k_ => (P2_ k_ ∨ w.heap.size ≤ k_) ∧ some k_ ≠ (.slice Ao12 l2.length co12 : Value).ownBlock ∧ some k_ ≠ (u9 : Value).ownBlock) (.slice (some ⟨go62, 0, none⟩) t226.length co57) y235) := ⟨sdl HQ64⟩
   have n3_ : Aside0 ((w63.setCell ⟨go62, (x11_1 : Int).toNat, none⟩ (.slice Ao66 y232.length co66)).heap[gb218]? = some (.cells #[.slice (some ad225) l0_0.length c0_0] 29 (0, 0))) := ⟨by (with_reducible repeat (first | refine blk_drewN ?_ _ | refine blk_drew ?_ | refine blk_alloc ?_ _)); refine blk_far ?_ HNB218_go62.out _; (with_reducible repeat (first | refine blk_drewN ?_ _ | refine blk_drew ?_ | refine blk_alloc ?_ _)); exact BK218.out⟩
   have n4_ : Aside0 ((w63.setCell ⟨go62, (x11_1 : Int).toNat, none⟩ (.slice Ao66 y232.length co66)).heap[gb229]? = some (.cells #[.slice (some ⟨go62, 0, none⟩) t226.length co57] 29 (0, 0))) := ⟨by (with_reducible repeat (first | refine blk_drewN ?_ _ | refine blk_drew ?_ | refine blk_alloc ?_ _)); refine blk_far ?_ HNB229_go62.out _; (with_reducible repeat (first | refine blk_drewN ?_ _ | refine blk_drew ?_ | refine blk_alloc ?_ _)); exact BK229.out⟩
   have n5_ : Aside0 (Kept w (w63.setCell ⟨go62, (x11_1 : Int).toNat, none⟩ (.slice Ao66 y232.length co66)) (fun k_ => P2_ k_)) := ⟨by repeat (first | (with_reducible first | exact HK.out | apply Kept.alloc | apply Kept.drewN | apply Kept.drew | refine Kept.setCell ?_ HMgo62.out _ | refine Kept.setCell ?_ (.inr GW218.out) _ | refine Kept.setCell ?_ (.inr GW229.out) _) | exact HK.out)⟩
   have n6_ : Aside0 (Below w0.heap.size w0 (w63.setCell ⟨go62, (x11_1 : Int).toNat, none⟩ (.slice Ao66 y232.length co66))) := ⟨bel3 HB GB62 GE218 GE229⟩
   (try clear HO_2)
   (try clear HO_9)
   (try clear HO228)
   (try clear BK218)
   (try clear BK229)
   (try clear HK)
   (try clear HB)
   generalize (w63.setCell ⟨go62, (x11_1 : Int).toNat, none⟩ (.slice Ao66 y232.length co66)) = w67 at n0_ n1_ n2_ n3_ n4_ n5_ n6_ ⊢
   have HO_2 := n0_
   have HO_9 := n1_
   have HO228 := n2_
   have BK218 := n3_
   have BK229 := n4_
   have HK := n5_
   have HB := n6_
   clear n0_ n1_ n2_ n3_ n4_ n5_ n6_
   have n0_ := Aside0.mk (Kd.R_drew HO_2.out)
   have n1_ := Aside0.mk (Kd.R_drew HO_9.out)
   have n2_ := Aside0.mk (Kd.S_drew HO228.out)
   have n3_ := Aside0.mk (blk_drew BK218.out)
   have n4_ := Aside0.mk (blk_drew BK229.out)
   have n5_ := Aside0.mk (Kept.drew HK.out)
   have n6_ := Aside0.mk (below_drew1 HB.out)
   clear HO_2 HO_9 HO228 BK218 BK229 HK HB
   have HO_2 := n0_
   have HO_9 := n1_
   have HO228 := n2_
   have BK218 := n3_
   have BK229 := n4_
   have HK := n5_
   have HB := n6_
   clear n0_ n1_ n2_ n3_ n4_ n5_ n6_
   refine start_ (n := 13) (S := fun w' => w'.cell? ⟨gb229, 0, none⟩ = some (.slice (some ⟨go62, 0, none⟩) t226.length co57)) (ds := []) #[false, false, false, false, false, false, false, false, false, false, false, false, false] (by kernel_rfl) rfl rfl ((blk_cell BK229.out 0).trans rfl) (fun hHeld => ?_); refine with_tabW spec_l8Best.tab11 spec_l8Best.bits11 (fun HT_ HW_ => ?_)
   generalize w67.drew = w68 at HO_2 HO_9 HO228 BK218 BK229 HK HB HQ64 hHeld ⊢
   refine pure_ (i := 1) (N := some 59) (v := ?_) (a' := ?_) #[false, true, false, false, false, false, false, false, false, false, false, false, false] rfl rfl (any_of HT_.out (by kernel_rfl)) (fun _ _ _ h => h) (Or.inl ⟨by rfl, ?_⟩) ?_ ?_
   rotate_left
   ·intro w'
    go_simp
    with_reducible rfl
   rotate_left
   ·simp only [putS]
    rfl
   refine pure_ (i := 2) (N := some 60) (v := ?_) (a' := ?_) #[false, true, true, false, false, false, false, false, false, false, false, false, false] rfl rfl (any_of HT_.out (by kernel_rfl)) (fun _ _ _ h => h) (Or.inl ⟨by rfl, ?_⟩) ?_ ?_
   rotate_left
   ·intro w'
    go_simp
    with_reducible rfl
   rotate_left
   ·simp only [putS]
    rfl
   refine pure_ (i := 4) (N := some 62) (v := ?_) (a' := ?_) #[false, true, true, false, true, false, false, false, false, false, false, false, false] rfl rfl (any_of HT_.out (by kernel_rfl)) (fun _ _ _ h => h) (Or.inl ⟨by rfl, ?_⟩) ?_ ?_
   rotate_left
   ·intro w'
    go_simp
    with_reducible rfl
   rotate_left
   ·simp only [putS]
    rfl
   refine take_ (i := 0) (N := some 58) (v := ?_) (a' := ?_) #[true, true, true, false, true, false, false, false, false, false, false, false, false] rfl rfl (take_ofW HT_.out HW_.out (by kernel_rfl)) (fun _ _ _ h => h) (Or.inl ⟨by rfl, ?_⟩) hHeld ?_ ?_
   rotate_left
   ·intro w' s0
    go_simp
    with_reducible rfl
   rotate_left
   ·simp only [putS]
    rfl
   refine join_ (σ := Value × Value) 7 #[true, true, true, true, true, true, false, false, false, false, false, false, false] (fun s_ => [(61, s_.1), (63, s_.2)]) (fun s_ w' => (w'.cell? ⟨gb229, 0, none⟩ = some (.slice (some ⟨go62, 0, none⟩) t226.length co57)) ∧ (Kd.S (Kd.slice 3 (Kd.int .i64)) 25 w' w0.heap.size (fun k_ => (P2_ k_ ∨ w.heap.size ≤ k_) ∧ some k_ ≠ (s_.1 : Value).ownBlock ∧ some k_ ≠ (s_.2 : Value).ownBlock ∧ some k_ ≠ (.slice Ao12 l2.length co12 : Value).ownBlock ∧ some k_ ≠ (u9 : Value).ownBlock) (.slice (some ⟨go62, 0, none⟩) t226.length co57) y235) ∧ (Kd.R (Kd.int .i64) 3 w' w0.heap.size (fun k_ => (P2_ k_ ∨ w.heap.size ≤ k_) ∧ some k_ ≠ (s_.2 : Value).ownBlock ∧ some k_ ≠ (.slice Ao12 l2.length co12 : Value).ownBlock ∧ some k_ ≠ (u9 : Value).ownBlock) s_.1 t236) ∧ (Kd.R (Kd.int .i64) 3 w' w0.heap.size (fun k_ => (P2_ k_ ∨ w.heap.size ≤ k_) ∧ some k_ ≠ (s_.1 : Value).ownBlock ∧ some k_ ≠ (.slice Ao12 l2.length co12 : Value).ownBlock ∧ some k_ ≠ (u9 : Value).ownBlock) s_.2 y239) ∧ (Kd.R (Kd.int .i64) 3 w' w0.heap.size (fun k_ => (P2_ k_ ∨ w.heap.size ≤ k_) ∧ some k_ ≠ (s_.1 : Value).ownBlock ∧ some k_ ≠ (s_.2 : Value).ownBlock ∧ some k_ ≠ (u9 : Value).ownBlock) (.slice Ao12 l2.length co12) l2) ∧ (Kd.R (Kd.int .i64) 3 w' w0.heap.size (fun k_ => (P2_ k_ ∨ w.heap.size ≤ k_) ∧ some k_ ≠ (s_.1 : Value).ownBlock ∧ some k_ ≠ (s_.2 : Value).ownBlock ∧ some k_ ≠ (.slice Ao12 l2.length co12 : Value).ownBlock) u9 x9_1) ∧ (w'.heap[gb218]? = some (.cells #[.slice (some ad225) l0_0.length c0_0] 29 (0, 0))) ∧ (w'.heap[gb229]? = some (.cells #[.slice (some ⟨go62, 0, none⟩) t226.length co57] 29 (0, 0))) ∧ (Kept w w' (fun k_ => P2_ k_)) ∧ (Below w0.heap.size w0 w')) ?_ ?_
   rotate_left
   ·intro hCont
    refine two_ (i := 3) (j := 5) (Ni := some 61) (Nj := some 63) #[true, true, true, true, true, false, false, false, false, false, false, false, false] #[true, true, true, false, true, true, false, false, false, false, false, false, false] rfl rfl rfl rfl (two_of HT_.out (by kernel_rfl)) (by decide) (by decide) (fun K hK => ?_) (fun K hK => ?_)
    ·skip
     refine goes_ Try.func30 (by kernel_rfl) rfl #[.slice Ao12 l2.length co12] (by rfl) rfl rfl gmp ?_
     with_reducible refine (spec_l1Own.calls _ _ l2 t236 _ ?side1 ?side2 A25.out).mono ?_
     (case side1 => exact cdl (Kd.R_reads' HO_2.out).2.2)
     (case side2 => exact (Kd.R_reads' HO_2.out).2.1)
     rintro e w69 ⟨v237, rfl, ho0, hb⟩
     refine ⟨_, rfl, ?_⟩
     have n0_ := Aside0.mk (Kd.R_elder' (rdl HO_2) (Kd.R_base ho0) hb)
     have n1_ := Aside0.mk (Kd.R_elder' (rdl HO_9) (Kd.R_base ho0) hb)
     have n2_ := Aside0.mk (Kd.S_elder' (sdl HO228) (Kd.R_base ho0) hb)
     have n3_ := Aside0.mk (Kd.R_lower (Kd.R_new' (Kd.R_new' (Kd.R_newM (M := fun k_ => (P2_ k_ ∨ w.heap.size ≤ k_)) ho0 (by first | exact HK.out.1 | exact (show Kept w _ (fun k_ => P2_ k_) from by repeat (first | (with_reducible first | exact HK.out | apply Kept.alloc | apply Kept.drewN | apply Kept.drew | refine Kept.setCell ?_ (.inr GW218.out) _ | refine Kept.setCell ?_ (.inr GW229.out) _) | exact HK.out)).1) (fun k_ h_ => .inr h_)) (Kd.R_lt (rdl HO_2))) (Kd.R_lt (rdl HO_9))) (below_size (bel2 HB GE218 GE229)))
     have n4_ := Aside0.mk (blk_below (g := gb218) (o := .cells #[.slice (some ad225) l0_0.length c0_0] 29 (0, 0)) (bkl BK218) hb)
     have n5_ := Aside0.mk (blk_below (g := gb229) (o := .cells #[.slice (some ⟨go62, 0, none⟩) t226.length co57] 29 (0, 0)) (bkl BK229) hb)
     have n6_ := Aside0.mk (Kept.below (S := (fun k_ => P2_ k_)) (by repeat (first | (with_reducible first | exact HK.out | apply Kept.alloc | apply Kept.drewN | apply Kept.drew | refine Kept.setCell ?_ (.inr GW218.out) _ | refine Kept.setCell ?_ (.inr GW229.out) _) | exact HK.out)) hb)
     have n7_ := Aside0.mk (below_step (bel2 HB GE218 GE229) hb)
     clear HO_2 HO_9 HO228 BK218 BK229 HK HB
     have HO_2 := n0_
     have HO_9 := n1_
     have HO228 := n2_
     have HO238 := n3_
     have BK218 := n4_
     have BK229 := n5_
     have HK := n6_
     have HB := n7_
     clear n0_ n1_ n2_ n3_ n4_ n5_ n6_ n7_
     (try clear hb)
     (try clear hb2)
     (try clear hk)
     (try clear hi)
     (try clear ho0)
     refine hK.out _ _ ((blk_cell BK229.out 0).trans rfl) (fun hHeld => ?_)
     clear hK K
     refine norm_ (a' := ?_) ?_ ?_
     rotate_left
     ·show Act.put _ (some 61) _ = _
      simp only [putS]
      rfl
     refine one_ (i := 5) (N := some 63) #[true, true, true, true, true, true, false, false, false, false, false, false, false] rfl rfl (one_of HT_.out (by kernel_rfl)) (by decide) (fun K hK => ?_)
     refine Kd.R_lit_step (Kd.int .i64) _ 3 ?hg (N := 63) ?hd (xs := ([x11_1] : List Int)) (inner := [.int .i64 x11_1]) (ok := fun _ => True) (okp := fun _ => True) ?hr ?hp (fun _ hk => hk) trivial (Below.refl _ _) (Nat.le_refl _) (by simp) ?_; (case hd => rfl); (case hg => rfl); (case hr => first | (go_simp; done) | (go_simp; rfl)); (case hp => exact (Reps.one (show Kd.M (Kd.int .i64) _ _ _ x11_1 [.int .i64 x11_1] from rfl) (Reps.none _ _)))
     intro v240 w70 ho71 hb hg_ hnew_
     clear hg_ hnew_
     (first | rw [← Ny239.out] at ho71 | (simp only [Int.reduceToNat] at ho71; rw [← Ny239.out] at ho71))
     have n0_ := Aside0.mk (Kd.R_elder' (rdl HO_2) (Kd.R_base ho71) hb)
     have n1_ := Aside0.mk (Kd.R_elder' (rdl HO_9) (Kd.R_base ho71) hb)
     have n2_ := Aside0.mk (Kd.S_elder' (sdl HO228) (Kd.R_base ho71) hb)
     have n3_ := Aside0.mk (Kd.R_elder' (rdl HO238) (Kd.R_base ho71) hb)
     have n4_ := Aside0.mk (Kd.R_lower (Kd.R_new' (Kd.R_new' (Kd.R_new' (Kd.R_newM (M := fun k_ => (P2_ k_ ∨ w.heap.size ≤ k_)) ho71 (by first | exact HK.out.1 | exact (show Kept w _ (fun k_ => P2_ k_) from by repeat (first | (with_reducible first | exact HK.out | apply Kept.alloc | apply Kept.drewN | apply Kept.drew | refine Kept.setCell ?_ (.inr GW218.out) _ | refine Kept.setCell ?_ (.inr GW229.out) _) | exact HK.out)).1) (fun k_ h_ => .inr h_)) (Kd.R_lt (rdl HO_2))) (Kd.R_lt (rdl HO_9))) (Kd.R_lt (rdl HO238))) (below_size (bel2 HB GE218 GE229)))
     have n5_ := Aside0.mk (blk_below (g := gb218) (o := .cells #[.slice (some ad225) l0_0.length c0_0] 29 (0, 0)) (bkl BK218) hb)
     have n6_ := Aside0.mk (blk_below (g := gb229) (o := .cells #[.slice (some ⟨go62, 0, none⟩) t226.length co57] 29 (0, 0)) (bkl BK229) hb)
     have n7_ := Aside0.mk (Kept.below (S := (fun k_ => P2_ k_)) (by repeat (first | (with_reducible first | exact HK.out | apply Kept.alloc | apply Kept.drewN | apply Kept.drew | refine Kept.setCell ?_ (.inr GW218.out) _ | refine Kept.setCell ?_ (.inr GW229.out) _) | exact HK.out)) hb)
     have n8_ := Aside0.mk (below_step (bel2 HB GE218 GE229) hb)
     clear HO_2 HO_9 HO228 HO238 BK218 BK229 HK HB
     have HO_2 := n0_
     have HO_9 := n1_
     have HO228 := n2_
     have HO238 := n3_
     have HO241 := n4_
     have BK218 := n5_
     have BK229 := n6_
     have HK := n7_
     have HB := n8_
     clear n0_ n1_ n2_ n3_ n4_ n5_ n6_ n7_ n8_ hb ho71
     refine hK.out _ _ ((blk_cell BK229.out 0).trans rfl) (fun hHeld => ?_)
     clear hK K
     refine norm_ (a' := ?_) ?_ ?_
     rotate_left
     ·show Act.put _ (some 63) _ = _
      simp only [putS]
      rfl
     exact norm_ (by simp only [putAll, Act.put, List.setIfInBounds_toArray, List.set_cons_zero, List.set_cons_succ]) (hCont (v237, v240) _ ⟨hHeld, (by (with_reducible repeat (first | apply Kd.S_alloc | apply Kd.S_drewN | apply Kd.S_drew)); exact Kd.S_mono HO228.out (fun _ hk => ⟨hk.1.1.1, ⟨hk.1.2, ⟨hk.2, ⟨hk.1.1.2.1, hk.1.1.2.2⟩⟩⟩⟩)), (by (with_reducible repeat (first | apply Kd.R_alloc | apply Kd.R_drewN | apply Kd.R_drew)); exact Kd.R_mono HO238.out (fun _ hk => ⟨hk.1.1.1.1, ⟨hk.2, ⟨hk.1.1.2, hk.1.2⟩⟩⟩)), (by (with_reducible repeat (first | apply Kd.R_alloc | apply Kd.R_drewN | apply Kd.R_drew)); exact Kd.R_mono HO241.out (fun _ hk => ⟨hk.1.1.1.1, ⟨hk.2, ⟨hk.1.1.2, hk.1.2⟩⟩⟩)), (by (with_reducible repeat (first | apply Kd.R_alloc | apply Kd.R_drewN | apply Kd.R_drew)); exact Kd.R_mono HO_2.out (fun _ hk => ⟨hk.1.1.1, ⟨hk.1.2, ⟨hk.2, hk.1.1.2⟩⟩⟩)), (by (with_reducible repeat (first | apply Kd.R_alloc | apply Kd.R_drewN | apply Kd.R_drew)); exact Kd.R_mono HO_9.out (fun _ hk => ⟨hk.1.1.1, ⟨hk.1.2, ⟨hk.2, hk.1.1.2⟩⟩⟩)), (bkl BK218), (bkl BK229), (by repeat (first | (with_reducible first | exact HK.out | apply Kept.alloc | apply Kept.drewN | apply Kept.drew | refine Kept.setCell ?_ (.inr GW218.out) _ | refine Kept.setCell ?_ (.inr GW229.out) _) | exact HK.out)), (bel2 HB GE218 GE229)⟩)
    skip
    refine Kd.R_lit_step (Kd.int .i64) _ 3 ?hg (N := 63) ?hd (xs := ([x11_1] : List Int)) (inner := [.int .i64 x11_1]) (ok := fun _ => True) (okp := fun _ => True) ?hr ?hp (fun _ hk => hk) trivial (Below.refl _ _) (Nat.le_refl _) (by simp) ?_; (case hd => rfl); (case hg => rfl); (case hr => first | (go_simp; done) | (go_simp; rfl)); (case hp => exact (Reps.one (show Kd.M (Kd.int .i64) _ _ _ x11_1 [.int .i64 x11_1] from rfl) (Reps.none _ _)))
    intro v240 w69 ho70 hb hg_ hnew_
    clear hg_ hnew_
    (first | rw [← Ny239.out] at ho70 | (simp only [Int.reduceToNat] at ho70; rw [← Ny239.out] at ho70))
    have n0_ := Aside0.mk (Kd.R_elder' (rdl HO_2) (Kd.R_base ho70) hb)
    have n1_ := Aside0.mk (Kd.R_elder' (rdl HO_9) (Kd.R_base ho70) hb)
    have n2_ := Aside0.mk (Kd.S_elder' (sdl HO228) (Kd.R_base ho70) hb)
    have n3_ := Aside0.mk (Kd.R_lower (Kd.R_new' (Kd.R_new' (Kd.R_newM (M := fun k_ => (P2_ k_ ∨ w.heap.size ≤ k_)) ho70 (by first | exact HK.out.1 | exact (show Kept w _ (fun k_ => P2_ k_) from by repeat (first | (with_reducible first | exact HK.out | apply Kept.alloc | apply Kept.drewN | apply Kept.drew | refine Kept.setCell ?_ (.inr GW218.out) _ | refine Kept.setCell ?_ (.inr GW229.out) _) | exact HK.out)).1) (fun k_ h_ => .inr h_)) (Kd.R_lt (rdl HO_2))) (Kd.R_lt (rdl HO_9))) (below_size (bel2 HB GE218 GE229)))
    have n4_ := Aside0.mk (blk_below (g := gb218) (o := .cells #[.slice (some ad225) l0_0.length c0_0] 29 (0, 0)) (bkl BK218) hb)
    have n5_ := Aside0.mk (blk_below (g := gb229) (o := .cells #[.slice (some ⟨go62, 0, none⟩) t226.length co57] 29 (0, 0)) (bkl BK229) hb)
    have n6_ := Aside0.mk (Kept.below (S := (fun k_ => P2_ k_)) (by repeat (first | (with_reducible first | exact HK.out | apply Kept.alloc | apply Kept.drewN | apply Kept.drew | refine Kept.setCell ?_ (.inr GW218.out) _ | refine Kept.setCell ?_ (.inr GW229.out) _) | exact HK.out)) hb)
    have n7_ := Aside0.mk (below_step (bel2 HB GE218 GE229) hb)
    clear HO_2 HO_9 HO228 BK218 BK229 HK HB
    have HO_2 := n0_
    have HO_9 := n1_
    have HO228 := n2_
    have HO241 := n3_
    have BK218 := n4_
    have BK229 := n5_
    have HK := n6_
    have HB := n7_
    clear n0_ n1_ n2_ n3_ n4_ n5_ n6_ n7_ hb ho70
    refine hK.out _ _ ((blk_cell BK229.out 0).trans rfl) (fun hHeld => ?_)
    clear hK K
    refine norm_ (a' := ?_) ?_ ?_
    rotate_left
    ·show Act.put _ (some 63) _ = _
     simp only [putS]
     rfl
    refine one_ (i := 3) (N := some 61) #[true, true, true, true, true, true, false, false, false, false, false, false, false] rfl rfl (one_of HT_.out (by kernel_rfl)) (by decide) (fun K hK => ?_)
    refine goes_ Try.func30 (by kernel_rfl) rfl #[.slice Ao12 l2.length co12] (by rfl) rfl rfl gmp ?_
    with_reducible refine (spec_l1Own.calls _ _ l2 t236 _ ?side1 ?side2 A25.out).mono ?_
    (case side1 => exact cdl (Kd.R_reads' HO_2.out).2.2)
    (case side2 => exact (Kd.R_reads' HO_2.out).2.1)
    rintro e w71 ⟨v237, rfl, ho0, hb⟩
    refine ⟨_, rfl, ?_⟩
    have n0_ := Aside0.mk (Kd.R_elder' (rdl HO_2) (Kd.R_base ho0) hb)
    have n1_ := Aside0.mk (Kd.R_elder' (rdl HO_9) (Kd.R_base ho0) hb)
    have n2_ := Aside0.mk (Kd.S_elder' (sdl HO228) (Kd.R_base ho0) hb)
    have n3_ := Aside0.mk (Kd.R_elder' (rdl HO241) (Kd.R_base ho0) hb)
    have n4_ := Aside0.mk (Kd.R_lower (Kd.R_new' (Kd.R_new' (Kd.R_new' (Kd.R_newM (M := fun k_ => (P2_ k_ ∨ w.heap.size ≤ k_)) ho0 (by first | exact HK.out.1 | exact (show Kept w _ (fun k_ => P2_ k_) from by repeat (first | (with_reducible first | exact HK.out | apply Kept.alloc | apply Kept.drewN | apply Kept.drew | refine Kept.setCell ?_ (.inr GW218.out) _ | refine Kept.setCell ?_ (.inr GW229.out) _) | exact HK.out)).1) (fun k_ h_ => .inr h_)) (Kd.R_lt (rdl HO_2))) (Kd.R_lt (rdl HO_9))) (Kd.R_lt (rdl HO241))) (below_size (bel2 HB GE218 GE229)))
    have n5_ := Aside0.mk (blk_below (g := gb218) (o := .cells #[.slice (some ad225) l0_0.length c0_0] 29 (0, 0)) (bkl BK218) hb)
    have n6_ := Aside0.mk (blk_below (g := gb229) (o := .cells #[.slice (some ⟨go62, 0, none⟩) t226.length co57] 29 (0, 0)) (bkl BK229) hb)
    have n7_ := Aside0.mk (Kept.below (S := (fun k_ => P2_ k_)) (by repeat (first | (with_reducible first | exact HK.out | apply Kept.alloc | apply Kept.drewN | apply Kept.drew | refine Kept.setCell ?_ (.inr GW218.out) _ | refine Kept.setCell ?_ (.inr GW229.out) _) | exact HK.out)) hb)
    have n8_ := Aside0.mk (below_step (bel2 HB GE218 GE229) hb)
    clear HO_2 HO_9 HO228 HO241 BK218 BK229 HK HB
    have HO_2 := n0_
    have HO_9 := n1_
    have HO228 := n2_
    have HO241 := n3_
    have HO238 := n4_
    have BK218 := n5_
    have BK229 := n6_
    have HK := n7_
    have HB := n8_
    clear n0_ n1_ n2_ n3_ n4_ n5_ n6_ n7_ n8_
    (try clear hb)
    (try clear hb2)
    (try clear hk)
    (try clear hi)
    (try clear ho0)
    refine hK.out _ _ ((blk_cell BK229.out 0).trans rfl) (fun hHeld => ?_)
    clear hK K
    refine norm_ (a' := ?_) ?_ ?_
    rotate_left
    ·show Act.put _ (some 61) _ = _
     simp only [putS]
     rfl
    exact norm_ (by simp only [putAll, Act.put, List.setIfInBounds_toArray, List.set_cons_zero, List.set_cons_succ]) (hCont (v237, v240) _ ⟨hHeld, (by (with_reducible repeat (first | apply Kd.S_alloc | apply Kd.S_drewN | apply Kd.S_drew)); exact Kd.S_mono HO228.out (fun _ hk => ⟨hk.1.1.1, ⟨hk.2, ⟨hk.1.2, ⟨hk.1.1.2.1, hk.1.1.2.2⟩⟩⟩⟩)), (by (with_reducible repeat (first | apply Kd.R_alloc | apply Kd.R_drewN | apply Kd.R_drew)); exact Kd.R_mono HO238.out (fun _ hk => ⟨hk.1.1.1.1, ⟨hk.2, ⟨hk.1.1.2, hk.1.2⟩⟩⟩)), (by (with_reducible repeat (first | apply Kd.R_alloc | apply Kd.R_drewN | apply Kd.R_drew)); exact Kd.R_mono HO241.out (fun _ hk => ⟨hk.1.1.1.1, ⟨hk.2, ⟨hk.1.1.2, hk.1.2⟩⟩⟩)), (by (with_reducible repeat (first | apply Kd.R_alloc | apply Kd.R_drewN | apply Kd.R_drew)); exact Kd.R_mono HO_2.out (fun _ hk => ⟨hk.1.1.1, ⟨hk.2, ⟨hk.1.2, hk.1.1.2⟩⟩⟩)), (by (with_reducible repeat (first | apply Kd.R_alloc | apply Kd.R_drewN | apply Kd.R_drew)); exact Kd.R_mono HO_9.out (fun _ hk => ⟨hk.1.1.1, ⟨hk.2, ⟨hk.1.2, hk.1.1.2⟩⟩⟩)), (bkl BK218), (bkl BK229), (by repeat (first | (with_reducible first | exact HK.out | apply Kept.alloc | apply Kept.drewN | apply Kept.drew | refine Kept.setCell ?_ (.inr GW218.out) _ | refine Kept.setCell ?_ (.inr GW229.out) _) | exact HK.out)), (bel2 HB GE218 GE229)⟩)
   rintro ⟨v237, v240⟩ w72 ⟨hS_, h0_, h1_, h2_, h3_, h4_, h5_, h6_, h7_, h8_⟩
   have n0_ : Aside0 (Kd.S (Kd.slice 3 (Kd.int .i64)) 25 w72 w0.heap.size (fun k_ => (P2_ k_ ∨ w.heap.size ≤ k_) ∧ some k_ ≠ (v237 : Value).ownBlock ∧ some k_ ≠ (v240 : Value).ownBlock ∧ some k_ ≠ (.slice Ao12 l2.length co12 : Value).ownBlock ∧ some k_ ≠ (u9 : Value).ownBlock) (.slice (some ⟨go62, 0, none⟩) t226.length co57) y235) := ⟨h0_⟩
   have n1_ : Aside0 (Kd.R (Kd.int .i64) 3 w72 w0.heap.size (fun k_ => (P2_ k_ ∨ w.heap.size ≤ k_) ∧ some k_ ≠ (v240 : Value).ownBlock ∧ some k_ ≠ (.slice Ao12 l2.length co12 : Value).ownBlock ∧ some k_ ≠ (u9 : Value).ownBlock) v237 t236) := ⟨h1_⟩
   have n2_ : Aside0 (Kd.R (Kd.int .i64) 3 w72 w0.heap.size (fun k_ => (P2_ k_ ∨ w.heap.size ≤ k_) ∧ some k_ ≠ (v237 : Value).ownBlock ∧ some k_ ≠ (.slice Ao12 l2.length co12 : Value).ownBlock ∧ some k_ ≠ (u9 : Value).ownBlock) v240 y239) := ⟨h2_⟩
   have n3_ : Aside0 (Kd.R (Kd.int .i64) 3 w72 w0.heap.size (fun k_ => (P2_ k_ ∨ w.heap.size ≤ k_) ∧ some k_ ≠ (v237 : Value).ownBlock ∧ some k_ ≠ (v240 : Value).ownBlock ∧ some k_ ≠ (u9 : Value).ownBlock) (.slice Ao12 l2.length co12) l2) := ⟨h3_⟩
   have n4_ : Aside0 (Kd.R (Kd.int .i64) 3 w72 w0.heap.size (fun k_ => (P2_ k_ ∨ w.heap.size ≤ k_) ∧ some k_ ≠ (v237 : Value).ownBlock ∧ some k_ ≠ (v240 : Value).ownBlock ∧ some k_ ≠ (.slice Ao12 l2.length co12 : Value).ownBlock) u9 x9_1) := ⟨h4_⟩
   have n5_ : Aside0 (w72.heap[gb218]? = some (.cells #[.slice (some ad225) l0_0.length c0_0] 29 (0, 0))) := ⟨h5_⟩
   have n6_ : Aside0 (w72.heap[gb229]? = some (.cells #[.slice (some ⟨go62, 0, none⟩) t226.length co57] 29 (0, 0))) := ⟨h6_⟩
   have n7_ : Aside0 (Kept w w72 (fun k_ => P2_ k_)) := ⟨h7_⟩
   have n8_ : Aside0 (Below w0.heap.size w0 w72) := ⟨h8_⟩
   clear HO_2 HO_9 HO228 BK218 BK229 HK HB h0_ h1_ h2_ h3_ h4_ h5_ h6_ h7_ h8_
   have HO228 := n0_
   have HO238 := n1_
   have HO241 := n2_
   have HO_2 := n3_
   have HO_9 := n4_
   have BK218 := n5_
   have BK229 := n6_
   have HK := n7_
   have HB := n8_
   clear n0_ n1_ n2_ n3_ n4_ n5_ n6_ n7_ n8_
   have hHeld : w72.cell? ⟨gb229, 0, none⟩ = some (.slice (some ⟨go62, 0, none⟩) t226.length co57) := hS_
   obtain ⟨Ao74, co74, eo74⟩ := Kd.R_slice HO241.out
   (first | subst eo74 | (injection eo74 with f1_ f2_ f3_; have f4_ := f1_.symm; have f5_ := f3_.symm; clear f1_ f2_ f3_; subst f4_; subst f5_))
   refine norm_ (a' := ?_) ?_ ?_
   rotate_left
   ·simp only [putAll, Act.put, List.setIfInBounds_toArray, List.set_cons_zero, List.set_cons_succ]
    rfl
   refine one_ (i := 6) (N := some 64) #[true, true, true, true, true, true, true, false, false, false, false, false, false] rfl rfl (one_of HT_.out (by kernel_rfl)) (by decide) (fun K hK => ?_)
   refine Kd.R_append_rows_step (Kd.int .i64) (w0 := w0) w0.heap.size (by rfl) (.tmp 61) (.tmp 63) 25 3 (.int .i64 0) 8 rfl Try.underlying25 info3 rfl (by decide) (by omega) v237 t236 y239 _ _ _ (fun k_ => (P2_ k_ ∨ w.heap.size ≤ k_) ∧ some k_ ≠ (.slice Ao12 l2.length co12 : Value).ownBlock ∧ some k_ ≠ (u9 : Value).ownBlock ∧ some k_ ≠ (.slice Ao74 y239.length co74 : Value).ownBlock) (fun _ => False) rfl rfl ?aO ?aR (fun _ _ h => h) (fun _ h => h.elim) ?aF ?aB ?aS ?aL ?_
   (case aR => exact cdl (Kd.R_reads' HO241.out).2.2)
   (case aB => exact (bel2 HB GE218 GE229))
   (case aF => exact (fun k_ hk => ⟨(.inr (Nat.le_trans (by first | exact HK.out.1 | exact (show Kept w _ (fun k_ => P2_ k_) from by repeat (first | (with_reducible first | exact HK.out | apply Kept.alloc | apply Kept.drewN | apply Kept.drew | refine Kept.setCell ?_ (.inr GW218.out) _ | refine Kept.setCell ?_ (.inr GW229.out) _) | exact HK.out)).1) hk)), Kd.fresh' (Kd.R_lt (rdl HO_2)) k_ hk, Kd.fresh' (Kd.R_lt (rdl HO_9)) k_ hk, Kd.fresh' (Kd.R_lt (rdl HO241)) k_ hk⟩))
   (case aO => exact (by (with_reducible repeat (first | apply Kd.R_alloc | apply Kd.R_drewN | apply Kd.R_drew)); exact Kd.R_mono HO238.out (fun _ hk => ⟨hk.1, ⟨hk.2.2.1, ⟨hk.2.2.2, hk.2.1⟩⟩⟩)))
   (case aS => exact (below_size (bel2 HB GE218 GE229)))
   (case aL => have := LMc26.out; omega)
   intro v243 w73 ho hb hg hat
   rw [← Ny242.out] at ho
   have n0_ := Aside0.mk (Kd.R_after (ok := (fun k_ => (P2_ k_ ∨ w.heap.size ≤ k_) ∧ some k_ ≠ (u9 : Value).ownBlock ∧ some k_ ≠ (.slice Ao74 y239.length co74 : Value).ownBlock)) (by (with_reducible repeat (first | apply Kd.R_alloc | apply Kd.R_drewN | apply Kd.R_drew)); exact Kd.R_mono HO_2.out (fun _ hk => ⟨⟨hk.1, ⟨hk.2.2.2, hk.2.2.1⟩⟩, hk.2.1⟩)) hg hat)
   have n1_ := Aside0.mk (Kd.R_after (ok := (fun k_ => (P2_ k_ ∨ w.heap.size ≤ k_) ∧ some k_ ≠ (.slice Ao12 l2.length co12 : Value).ownBlock ∧ some k_ ≠ (.slice Ao74 y239.length co74 : Value).ownBlock)) (by (with_reducible repeat (first | apply Kd.R_alloc | apply Kd.R_drewN | apply Kd.R_drew)); exact Kd.R_mono HO_9.out (fun _ hk => ⟨⟨hk.1, ⟨hk.2.2.2, hk.2.2.1⟩⟩, hk.2.1⟩)) hg hat)
   have n2_ := Aside0.mk (blk_grown (g := gb218) (o := .cells #[.slice (some ad225) l0_0.length c0_0] 29 (0, 0)) (bkl BK218) hg (Kd.R_ne HO238.out BK218.out (by decide)))
   have n3_ := Aside0.mk (blk_grown (g := gb229) (o := .cells #[.slice (some ⟨go62, 0, none⟩) t226.length co57] 29 (0, 0)) (bkl BK229) hg (Kd.R_ne HO238.out BK229.out (by decide)))
   have n4_ := Aside0.mk (Kd.S_after (ok := (fun k_ => (P2_ k_ ∨ w.heap.size ≤ k_) ∧ some k_ ≠ (.slice Ao12 l2.length co12 : Value).ownBlock ∧ some k_ ≠ (u9 : Value).ownBlock ∧ some k_ ≠ (.slice Ao74 y239.length co74 : Value).ownBlock)) (by (with_reducible repeat (first | apply Kd.S_alloc | apply Kd.S_drewN | apply Kd.S_drew)); exact Kd.S_mono HO228.out (fun _ hk => ⟨⟨hk.1, ⟨hk.2.2.2.1, ⟨hk.2.2.2.2, hk.2.2.1⟩⟩⟩, hk.2.1⟩)) hg hat)
   have n5_ := Aside0.mk (Kd.R_after (ok := (fun k_ => (P2_ k_ ∨ w.heap.size ≤ k_) ∧ some k_ ≠ (.slice Ao12 l2.length co12 : Value).ownBlock ∧ some k_ ≠ (u9 : Value).ownBlock)) (by (with_reducible repeat (first | apply Kd.R_alloc | apply Kd.R_drewN | apply Kd.R_drew)); exact Kd.R_mono HO241.out (fun _ hk => ⟨⟨hk.1, ⟨hk.2.2.1, hk.2.2.2⟩⟩, hk.2.1⟩)) hg hat)
   have n6_ := Aside0.mk (hb)
   have n7_ := Aside0.mk (Kept.of_grown (S := (fun k_ => P2_ k_)) hg (by repeat (first | (with_reducible first | exact HK.out | apply Kept.alloc | apply Kept.drewN | apply Kept.drew | refine Kept.setCell ?_ (.inr GW218.out) _ | refine Kept.setCell ?_ (.inr GW229.out) _) | exact HK.out)) (fun k_ e_ => (HO238.out.1 k_ e_).1))
   have n8_ := Aside0.mk (ho)
   clear HO_2 HO_9 BK218 BK229 HO228 HO241 HB HK HO238
   have HO_2 := n0_
   have HO_9 := n1_
   have BK218 := n2_
   have BK229 := n3_
   have HO228 := n4_
   have HO241 := n5_
   have HB := n6_
   have HK := n7_
   have HO244 := n8_
   clear n0_ n1_ n2_ n3_ n4_ n5_ n6_ n7_ n8_ ho hb hg hat
   obtain ⟨Ao75, co75, eo75⟩ := Kd.R_slice HO244.out
   (first | subst eo75 | (injection eo75 with f1_ f2_ f3_; have f4_ := f1_.symm; have f5_ := f3_.symm; clear f1_ f2_ f3_; subst f4_; subst f5_))
   refine hK.out _ _ ((blk_cell BK229.out 0).trans rfl) (fun hHeld => ?_)
   clear hK K
   refine norm_ (a' := ?_) ?_ ?_
   rotate_left
   ·show Act.put _ (some 64) _ = _
    simp only [putS]
    rfl
   refine one_ (i := 7) (N := some 65) #[true, true, true, true, true, true, true, true, false, false, false, false, false] rfl rfl (one_of HT_.out (by kernel_rfl)) (by decide) (fun K hK => ?_)
   refine goes_ Try.func16 (by kernel_rfl) rfl #[.agg #[.slice (some ⟨go62, 0, none⟩) y235.length co57], .slice (some ad231) l1.length c1, .slice Ao75 y242.length co75] (by rfl) rfl rfl (by (try simp only [List.map_toArray, List.map_cons, List.map_nil]); first | done | (rw [show y235.length = t226.length from (Kd.S_reads' HO228.out).1.symm] <;> rfl) | rfl | (simp only [List.length_drop, List.length_take]; rfl)) ?_
   with_reducible refine (ih k1 (by have := HK1.out; omega) _ _ y235 _ _ l1 (fun k_ => some k_ = (.slice Ao75 y242.length co75 : Value).ownBlock) (.slice Ao75 y242.length co75) y242 t245 t248 w0 _ ?side1 ?side2 ?side3 ?side4 ?side5 ?side6 A27.out).mono ?_
   (case side1 => repeat (first | (with_reducible first | exact HB.out | apply below_alloc | apply pw_below_drewN | apply below_drew1 | refine below_set ?_ GE218.out | refine below_set ?_ GE229.out) | exact HB.out))
   (case side2 => have h_ := HO228.out; rw [← show y235.length = t226.length from (Kd.S_reads' HO228.out).1.symm] at h_; exact Kd.C_kept_own (Kd.S_R h_) (fun k_ hk_ hs_ => (hk_.2) hs_))
   (case side3 => rw [show y235.length = t226.length from (Kd.S_reads' HO228.out).1.symm]; exact (Kd.S_reads' HO228.out).2.1)
   (case side4 => exact Kd.C_kept_call HR1.out (by repeat (first | (with_reducible first | exact HK.out | apply Kept.alloc | apply Kept.drewN | apply Kept.drew | refine Kept.setCell ?_ (.inr GW218.out) _ | refine Kept.setCell ?_ (.inr GW229.out) _) | exact HK.out)) (fun k_ hs_ => (fun e_ => (HO244.out.1 k_ e_.symm).1) hs_))
   (case side5 => exact HC1.out)
   (case side6 => exact Kd.R_tight rfl HO244.out)
   rintro e w76 ⟨v246, rfl, ho0, hb, hkp⟩
   refine ⟨_, rfl, ?_⟩
   have n0_ := Aside0.mk (Kd.R_mono (ok' := fun k_ => (P2_ k_ ∨ w.heap.size ≤ k_) ∧ some k_ ≠ (u9 : Value).ownBlock ∧ some k_ ≠ (.slice Ao74 y239.length co74 : Value).ownBlock ∧ some k_ ≠ (v246 : Value).ownBlock) (Kd.R_keptB (HO_2.out) hkp (fun k_ hk_ hs_ => (hk_.2) hs_)) (fun k_ hk_ => ⟨hk_.1.1.1, hk_.1.1.2.1, hk_.1.1.2.2, fun e_ => Or.elim (ho0.1 k_ e_.symm) (fun hs_ => hk_.2.1 hs_) (fun hn_ => Nat.not_le.2 hk_.2.2 hn_)⟩))
   have n1_ := Aside0.mk (Kd.R_mono (ok' := fun k_ => (P2_ k_ ∨ w.heap.size ≤ k_) ∧ some k_ ≠ (.slice Ao12 l2.length co12 : Value).ownBlock ∧ some k_ ≠ (.slice Ao74 y239.length co74 : Value).ownBlock ∧ some k_ ≠ (v246 : Value).ownBlock) (Kd.R_keptB (HO_9.out) hkp (fun k_ hk_ hs_ => (hk_.2) hs_)) (fun k_ hk_ => ⟨hk_.1.1.1, hk_.1.1.2.1, hk_.1.1.2.2, fun e_ => Or.elim (ho0.1 k_ e_.symm) (fun hs_ => hk_.2.1 hs_) (fun hn_ => Nat.not_le.2 hk_.2.2 hn_)⟩))
   have n2_ := Aside0.mk (blk_kept (bkl BK218) hkp (fun hs_ => (fun e_ => (Kd.R_ne HO244.out BK218.out (by decide)) e_) hs_))
   have n3_ := Aside0.mk (blk_kept (bkl BK229) hkp (fun hs_ => (fun e_ => (Kd.R_ne HO244.out BK229.out (by decide)) e_) hs_))
   have n4_ := Aside0.mk (Kd.S_mono (ok' := fun k_ => (P2_ k_ ∨ w.heap.size ≤ k_) ∧ some k_ ≠ (.slice Ao12 l2.length co12 : Value).ownBlock ∧ some k_ ≠ (u9 : Value).ownBlock ∧ some k_ ≠ (.slice Ao74 y239.length co74 : Value).ownBlock ∧ some k_ ≠ (v246 : Value).ownBlock) (Kd.S_keptB (HO228.out) hkp (fun k_ hk_ hs_ => (hk_.2) hs_)) (fun k_ hk_ => ⟨hk_.1.1.1, hk_.1.1.2.1, hk_.1.1.2.2.1, hk_.1.1.2.2.2, fun e_ => Or.elim (ho0.1 k_ e_.symm) (fun hs_ => hk_.2.1 hs_) (fun hn_ => Nat.not_le.2 hk_.2.2 hn_)⟩))
   have n5_ := Aside0.mk (Kd.R_mono (ok' := fun k_ => (P2_ k_ ∨ w.heap.size ≤ k_) ∧ some k_ ≠ (.slice Ao12 l2.length co12 : Value).ownBlock ∧ some k_ ≠ (u9 : Value).ownBlock ∧ some k_ ≠ (v246 : Value).ownBlock) (Kd.R_keptB (HO241.out) hkp (fun k_ hk_ hs_ => (hk_.2) hs_)) (fun k_ hk_ => ⟨hk_.1.1.1, hk_.1.1.2.1, hk_.1.1.2.2, fun e_ => Or.elim (ho0.1 k_ e_.symm) (fun hs_ => hk_.2.1 hs_) (fun hn_ => Nat.not_le.2 hk_.2.2 hn_)⟩))
   have n6_ := Aside0.mk (Kd.R_mono (ok' := fun k_ => (P2_ k_ ∨ w.heap.size ≤ k_) ∧ some k_ ≠ (.slice Ao12 l2.length co12 : Value).ownBlock ∧ some k_ ≠ (u9 : Value).ownBlock ∧ some k_ ≠ (.slice Ao74 y239.length co74 : Value).ownBlock) ho0 (fun k_ hk_ => ⟨Or.elim hk_ (fun hs_ => (HO244.out.1 k_ (hs_).symm).1) (fun hn_ => (.inr (Nat.le_trans (by first | exact HK.out.1 | exact (show Kept w _ (fun k_ => P2_ k_) from by repeat (first | (with_reducible first | exact HK.out | apply Kept.alloc | apply Kept.drewN | apply Kept.drew | refine Kept.setCell ?_ (.inr GW218.out) _ | refine Kept.setCell ?_ (.inr GW229.out) _) | exact HK.out)).1) hn_))), Or.elim hk_ (fun hs_ => fun e_ => (((HO_2.out).1 k_ e_.symm).2) hs_) (fun hn_ => (Kd.fresh' (Kd.R_lt (rdl HO_2)) k_ hn_)), Or.elim hk_ (fun hs_ => fun e_ => (((HO_9.out).1 k_ e_.symm).2) hs_) (fun hn_ => (Kd.fresh' (Kd.R_lt (rdl HO_9)) k_ hn_)), Or.elim hk_ (fun hs_ => fun e_ => (((HO241.out).1 k_ e_.symm).2) hs_) (fun hn_ => (Kd.fresh' (Kd.R_lt (rdl HO241)) k_ hn_))⟩))
   have n7_ := Aside0.mk (Kept.then_ (S := (fun k_ => P2_ k_)) (by repeat (first | (with_reducible first | exact HK.out | apply Kept.alloc | apply Kept.drewN | apply Kept.drew | refine Kept.setCell ?_ (.inr GW218.out) _ | refine Kept.setCell ?_ (.inr GW229.out) _) | exact HK.out)) hkp (fun k_ hs_ => (fun e_ => (HO244.out.1 k_ e_.symm).1) hs_))
   have n8_ := Aside0.mk (hb)
   clear HO_2 HO_9 BK218 BK229 HO228 HO241 HK HB HO244
   have HO_2 := n0_
   have HO_9 := n1_
   have BK218 := n2_
   have BK229 := n3_
   have HO228 := n4_
   have HO241 := n5_
   have HO247 := n6_
   have HK := n7_
   have HB := n8_
   clear n0_ n1_ n2_ n3_ n4_ n5_ n6_ n7_ n8_
   (try clear hb)
   (try clear hkp)
   (try clear ho0)
   refine hK.out _ _ ((blk_cell BK229.out 0).trans rfl) (fun hHeld => ?_)
   clear hK K
   refine norm_ (a' := ?_) ?_ ?_
   rotate_left
   ·show Act.put _ (some 65) _ = _
    simp only [putS]
    rfl
   refine pure_ (i := 8) (N := some 57) (v := ?_) (a' := ?_) #[true, true, true, true, true, true, true, true, true, false, false, false, false] rfl rfl (any_of HT_.out (by kernel_rfl)) (fun _ _ _ h => h) (Or.inl ⟨by rfl, ?_⟩) ?_ ?_
   rotate_left
   ·intro w'
    go_simp
    with_reducible rfl
   rotate_left
   ·simp only [putS]
    rfl
   refine pure_ (i := 9) (N := some 66) (v := ?_) (a' := ?_) #[true, true, true, true, true, true, true, true, true, true, false, false, false] rfl rfl (any_of HT_.out (by kernel_rfl)) (fun _ _ _ h => h) (Or.inl ⟨by rfl, ?_⟩) ?_ ?_
   rotate_left
   ·intro w'
    go_simp
    with_reducible rfl
   rotate_left
   ·simp only [putS]
    rfl
   refine pure_ (i := 10) (N := some 67) (v := ?_) (a' := ?_) #[true, true, true, true, true, true, true, true, true, true, true, false, false] rfl rfl (any_of HT_.out (by kernel_rfl)) (fun _ _ _ h => h) (Or.inl ⟨by rfl, ?_⟩) ?_ ?_
   rotate_left
   ·intro w'
    go_simp
    with_reducible rfl
   rotate_left
   ·simp only [putS]
    rfl
   refine pure_ (i := 11) (N := some 13) (v := ?_) (a' := ?_) #[true, true, true, true, true, true, true, true, true, true, true, true, false] rfl rfl (any_of HT_.out (by kernel_rfl)) (fun _ _ _ h => h) (Or.inl ⟨by rfl, ?_⟩) ?_ ?_
   rotate_left
   ·intro w'
    go_simp
    with_reducible rfl
   rotate_left
   ·simp only [putS]
    rfl
   refine pure_ (i := 12) (N := some 14) (v := ?_) (a' := ?_) #[true, true, true, true, true, true, true, true, true, true, true, true, true] rfl rfl (any_of HT_.out (by kernel_rfl)) (fun _ _ _ h => h) (Or.inl ⟨by rfl, ?_⟩) ?_ ?_
   rotate_left
   ·intro w'
    go_simp
    with_reducible rfl
   rotate_left
   ·simp only [putS]
    rfl
   refine done_ (done_of HT_.out (by kernel_rfl)) ?_
   try go_wp2
   go_roundg k1
   case measure => have := HK1.out; omega
   case rel => exact ⟨(t245), (t248), (wrap64 (x11_1 + 1)), (by first | rfl | (simp; done) | (simp [*]; done)), (by first | rfl | (simp; done) | (simp [*]; done)), H', ⟨by have := HK1.out; omega⟩, ⟨by (with_reducible repeat (first | apply Kd.R_alloc | apply Kd.R_drewN | apply Kd.R_drew)); exact Kd.R_mono HO_2.out (fun _ hk => ⟨hk.1, hk.2.2.2⟩)⟩, ⟨by (with_reducible repeat (first | apply Kd.R_alloc | apply Kd.R_drewN | apply Kd.R_drew)); exact Kd.R_mono HO247.out (fun _ hk => ⟨hk.1, hk.2.1⟩)⟩, ⟨bkl BK218⟩, ⟨by repeat (first | (with_reducible first | exact HK.out | apply Kept.alloc | apply Kept.drewN | apply Kept.drew | refine Kept.setCell ?_ (.inr GW218.out) _ | refine Kept.setCell ?_ (.inr GW229.out) _) | exact HK.out)⟩, ⟨bel2 HB GE218 GE229⟩⟩
  rw [if_neg c53] at H
  have c53b0 : decide (t248 < x10_1) = false := decide_eq_false c53
  clear c53
  have H' := Aside0.mk H
  clear H
  have hcz77_0 : wr.cell? ⟨gb218, 0, none⟩ = some (.slice A0_0 l0_0.length c0_0) := (blk_cell BK218.out 0).trans rfl
  have hfz77_0 := blk_frozen BK218.out 0
  have p225 : 0 ≤ (x11_1 : Int) := oda
  have q225 : x11_1 < (l0_0.length : Int) := oda
  obtain ⟨ad225, A225_0, c225_0, e225, hx225_0, hl225_0, hi225_0⟩ := at_L1 (Kd.C_kept_now HR0_0.out HK.out) x11_1 p225 q225
  cases e225
  have HR225_0 := Aside0.mk hi225_0
  have HC225_0 := Aside0.mk hl225_0
  clear hi225_0 hl225_0
  replace p225 := eq_true p225
  replace q225 := eq_true q225
  try go_wp2_with (first | ((with_reducible refine gate_callee (f := 29) rfl ?_); refine goesL_ (some 41) rfl rfl Try.func29 (by kernel_rfl) rfl #[.agg #[.slice (some ad225) l0_0.length c0_0]] rfl gmp ?_; (with_reducible refine (spec_l5Own.calls k1 _ _ l0_0 t226 _ ?side1 ?side2 A19.out).mono ?_); (case side1 => exact Kd.C_kept_now HR0_0.out (by repeat (first | (with_reducible first | exact HK.out | apply Kept.alloc | apply Kept.drewN | apply Kept.drew | refine Kept.setCell ?_ (.inr GW218.out) _) | exact HK.out))); (case side2 => exact HC0_0.out); rintro e w78 ⟨v227, rfl, ho0, hb⟩; refine ⟨_, rfl, ?_⟩; have n0_ := Aside0.mk (Kd.R_below (rdl HO_2) hb); have n1_ := Aside0.mk (Kd.R_below (rdl HO_9) hb); have n2_ := Aside0.mk (Kd.S_lower (Kd.S_new' (Kd.S_new' (Kd.S_newM (M := fun k_ => (P2_ k_ ∨ w.heap.size ≤ k_)) ho0 (by first | exact HK.out.1 | exact (show Kept w _ (fun k_ => P2_ k_) from by repeat (first | (with_reducible first | exact HK.out | apply Kept.alloc | apply Kept.drewN | apply Kept.drew | refine Kept.setCell ?_ (.inr GW218.out) _) | exact HK.out)).1) (fun k_ h_ => .inr h_)) (Kd.R_lt (rdl HO_2))) (Kd.R_lt (rdl HO_9))) (below_size (bel1 HB GE218))); have n3_ := Aside0.mk (blk_below (g := gb218) (o := .cells #[.slice (some ad225) l0_0.length c0_0] 29 (0, 0)) (bkl BK218) hb); have n4_ := Aside0.mk (Kd.C_below (cdl HR225_0.out) hb); have n5_ := Aside0.mk (Kept.below (S := (fun k_ => P2_ k_)) (by repeat (first | (with_reducible first | exact HK.out | apply Kept.alloc | apply Kept.drewN | apply Kept.drew | refine Kept.setCell ?_ (.inr GW218.out) _) | exact HK.out)) hb); have n6_ := Aside0.mk (below_step (bel1 HB GE218) hb); clear HO_2; clear HO_9; clear BK218; clear HR225_0; clear HK; clear HB; have HO_2 := n0_; have HO_9 := n1_; have HO228 := n2_; have BK218 := n3_; have HR225_0 := n4_; have HK := n5_; have HB := n6_; clear n0_ n1_ n2_ n3_ n4_ n5_ n6_; (try clear hb); (try clear hb2); (try clear hk); (try clear hi); (try clear ho0)) | ((with_reducible refine gate_dst (N := 12) rfl ?_); refine box_event ?hg (N := 12) ?hd (cs := #[.slice none 0 0]) (t := 29) ?hr ?_; (case hd => rfl); (case hg => rfl); (case hr => first | (go_simp; done) | (go_simp; rfl)); intro gb229 hg w79 hbox hb; have n0_ := Aside0.mk (Kd.R_below (rdl HO_2) hb); have n1_ := Aside0.mk (Kd.R_below (rdl HO_9) hb); have n2_ := Aside0.mk (Kd.S_below (sdl HO228) hb); have n3_ := Aside0.mk (blk_below (g := gb218) (o := .cells #[.slice (some ad225) l0_0.length c0_0] 29 (0, 0)) (bkl BK218) hb); have n4_ := Aside0.mk (Kd.C_below (cdl HR225_0.out) hb); have n5_ := Aside0.mk (Kept.below (S := (fun k_ => P2_ k_)) (by repeat (first | (with_reducible first | exact HK.out | apply Kept.alloc | apply Kept.drewN | apply Kept.drew | refine Kept.setCell ?_ (.inr GW218.out) _) | exact HK.out)) hb); have n6_ := Aside0.mk (below_step (bel1 HB GE218) hb); have n7_ := Aside0.mk (hbox); have n8_ := Aside0.mk ((by rw [hg]; exact (by first | exact HK.out.1 | exact (show Kept w _ (fun k_ => P2_ k_) from by repeat (first | (with_reducible first | exact HK.out | apply Kept.alloc | apply Kept.drewN | apply Kept.drew | refine Kept.setCell ?_ (.inr GW218.out) _) | exact HK.out)).1) : w.heap.size ≤ gb229)); have n9_ := Aside0.mk ((by rw [hg]; exact (below_size (bel1 HB GE218)) : w0.heap.size ≤ gb229)); have n10_ := Aside0.mk ((by rw [hg]; exact Nat.ne_of_lt (blk_lt (g := gb218) (o := .cells #[.slice (some ad225) l0_0.length c0_0] 29 (0, 0)) (bkl BK218)) : gb218 ≠ gb229)); have n11_ := Aside0.mk ((by rw [hg]; exact Nat.ne_of_gt (blk_lt (g := gb218) (o := .cells #[.slice (some ad225) l0_0.length c0_0] 29 (0, 0)) (bkl BK218)) : gb229 ≠ gb218)); clear HO_2; clear HO_9; clear HO228; clear BK218; clear HR225_0; clear HK; clear HB; have HO_2 := n0_; have HO_9 := n1_; have HO228 := n2_; have BK218 := n3_; have HR225_0 := n4_; have HK := n5_; have HB := n6_; have BK229 := n7_; have GW229 := n8_; have GE229 := n9_; have NB218_229 := n10_; have NB229_218 := n11_; clear n0_ n1_ n2_ n3_ n4_ n5_ n6_ n7_ n8_ n9_ n10_ n11_; clear hb hbox hg; obtain ⟨Ao80, co80, eo80⟩ := Kd.S_slice HO228.out; subst eo80; have hnb81 := NB229_218.out; have hnc81 := NB218_229.out; have hcz82_0 : w79.cell? ⟨gb229, 0, none⟩ = some (.slice none 0 0) := (blk_cell BK229.out 0).trans rfl; have hfz82_0 := blk_frozen BK229.out 0))
  have n0_ : Aside0 (Kd.R (Kd.int .i64) 3 (w79.setCell ⟨gb229, 0, none⟩ (.slice Ao80 t226.length co80)) w0.heap.size (fun k_ => (P2_ k_ ∨ w.heap.size ≤ k_) ∧ some k_ ≠ (u9 : Value).ownBlock) (.slice Ao12 l2.length co12) l2) := ⟨by (with_reducible repeat (first | apply Kd.R_alloc | apply Kd.R_drewN | apply Kd.R_drew)); exact Kd.R_mono (Kd.R_far (p := ⟨gb229, 0, none⟩) (Kd.R_types HO_2.out BK229.out (by decide)) (fun _ hk => hk.2) (.slice Ao80 t226.length co80)) (fun _ hk => ⟨hk.1.1, hk.1.2⟩)⟩
  have n1_ : Aside0 (Kd.R (Kd.int .i64) 3 (w79.setCell ⟨gb229, 0, none⟩ (.slice Ao80 t226.length co80)) w0.heap.size (fun k_ => (P2_ k_ ∨ w.heap.size ≤ k_) ∧ some k_ ≠ (.slice Ao12 l2.length co12 : Value).ownBlock) u9 x9_1) := ⟨by (with_reducible repeat (first | apply Kd.R_alloc | apply Kd.R_drewN | apply Kd.R_drew)); exact Kd.R_mono (Kd.R_far (p := ⟨gb229, 0, none⟩) (Kd.R_types HO_9.out BK229.out (by decide)) (fun _ hk => hk.2) (.slice Ao80 t226.length co80)) (fun _ hk => ⟨hk.1.1, hk.1.2⟩)⟩
  have n2_ : Aside0 (Kd.S (Kd.slice 3 (Kd.int .i64)) 25 (w79.setCell ⟨gb229, 0, none⟩ (.slice Ao80 t226.length co80)) w0.heap.size (fun k_ => (P2_ k_ ∨ w.heap.size ≤ k_) ∧ some k_ ≠ (.slice Ao12 l2.length co12 : Value).ownBlock ∧ some k_ ≠ (u9 : Value).ownBlock) (.slice Ao80 t226.length co80) t226) := ⟨by (with_reducible repeat (first | apply Kd.S_alloc | apply Kd.S_drewN | apply Kd.S_drew)); exact Kd.S_mono (Kd.S_far (p := ⟨gb229, 0, none⟩) (Kd.S_types HO228.out BK229.out (by decide)) (fun _ hk => hk.2) (.slice Ao80 t226.length co80)) (fun _ hk => ⟨hk.1.1.1.1, ⟨hk.1.1.2, hk.1.2⟩⟩)⟩
  have n3_ : Aside0 ((w79.setCell ⟨gb229, 0, none⟩ (.slice Ao80 t226.length co80)).heap[gb218]? = some (.cells #[.slice (some ad225) l0_0.length c0_0] 29 (0, 0))) := ⟨by (with_reducible repeat (first | refine blk_drewN ?_ _ | refine blk_drew ?_ | refine blk_alloc ?_ _)); refine blk_far ?_ NB218_229.out _; (with_reducible repeat (first | refine blk_drewN ?_ _ | refine blk_drew ?_ | refine blk_alloc ?_ _)); exact BK218.out⟩
  have n4_ : Aside0 ((w79.setCell ⟨gb229, 0, none⟩ (.slice Ao80 t226.length co80)).heap[gb229]? = some (.cells #[.slice Ao80 t226.length co80] 29 (0, 0))) := ⟨by (with_reducible repeat (first | refine blk_drewN ?_ _ | refine blk_drew ?_ | refine blk_alloc ?_ _)); refine blk_put (cs := #[.slice none 0 0]) ?_ 0 _ rfl; (with_reducible repeat (first | refine blk_drewN ?_ _ | refine blk_drew ?_ | refine blk_alloc ?_ _)); exact BK229.out⟩
  have n5_ : Aside0 (Kept w (w79.setCell ⟨gb229, 0, none⟩ (.slice Ao80 t226.length co80)) (fun k_ => P2_ k_)) := ⟨by repeat (first | (with_reducible first | exact HK.out | apply Kept.alloc | apply Kept.drewN | apply Kept.drew | refine Kept.setCell ?_ (.inr GW218.out) _ | refine Kept.setCell ?_ (.inr GW229.out) _) | exact HK.out)⟩
  have n6_ : Aside0 (Below w0.heap.size w0 (w79.setCell ⟨gb229, 0, none⟩ (.slice Ao80 t226.length co80))) := ⟨bel2 HB GE218 GE229⟩
  (try clear HO_2)
  (try clear HO_9)
  (try clear HO228)
  (try clear BK218)
  (try clear BK229)
  (try clear HK)
  (try clear HB)
  generalize (w79.setCell ⟨gb229, 0, none⟩ (.slice Ao80 t226.length co80)) = w83 at n0_ n1_ n2_ n3_ n4_ n5_ n6_ ⊢
  have HO_2 := n0_
  have HO_9 := n1_
  have HO228 := n2_
  have BK218 := n3_
  have BK229 := n4_
  have HK := n5_
  have HB := n6_
  clear n0_ n1_ n2_ n3_ n4_ n5_ n6_
  have n0_ := Aside0.mk (Kd.R_drew HO_2.out)
  have n1_ := Aside0.mk (Kd.R_drew HO_9.out)
  have n2_ := Aside0.mk (Kd.S_drew HO228.out)
  have n3_ := Aside0.mk (blk_drew BK218.out)
  have n4_ := Aside0.mk (blk_drew BK229.out)
  have n5_ := Aside0.mk (Kept.drew HK.out)
  have n6_ := Aside0.mk (below_drew1 HB.out)
  clear HO_2 HO_9 HO228 BK218 BK229 HK HB
  have HO_2 := n0_
  have HO_9 := n1_
  have HO228 := n2_
  have BK218 := n3_
  have BK229 := n4_
  have HK := n5_
  have HB := n6_
  clear n0_ n1_ n2_ n3_ n4_ n5_ n6_
  have p230 : 0 ≤ (x11_1 : Int) := oda
  have q230 : x11_1 < (t226.length : Int) := oda
  obtain ⟨ad230, A230_0, c230_0, e230, hx230_0, hl230_0, hi230_0⟩ := at_L1 (Kd.S_reads' HO228.out).2.2 x11_1 p230 q230
  cases e230
  obtain ⟨ce230, hce230, hMe230, hcc230⟩ := Kd.S_get HO228.out [] x11_1 p230 (by first | exact q230 | exact oda | (have e_ := (Kd.S_reads' HO228.out).1; omega))
  obtain ⟨ve230_0, rfl, ge230_0⟩ := hMe230
  have hv230_0 := hcc230 0 _ rfl
  rw [Nat.add_zero, show ((Kd.slice 3 (Kd.int .i64))).sz = 1 from rfl, Nat.mul_one] at hv230_0
  replace hv230_0 := Option.some.inj (hv230_0.symm.trans hx230_0)
  rw [hv230_0] at ge230_0
  have HL230_0 := Aside0.mk (show Kd.R (Kd.int .i64) 3 _ _ _ _ (rd_L1 t226 x11_1) from ge230_0)
  clear hv230_0 ge230_0
  have HX230_0 := Aside0.mk hx230_0
  clear hcc230 hce230
  have HR230_0 := Aside0.mk hi230_0
  have HC230_0 := Aside0.mk hl230_0
  clear hi230_0 hl230_0
  replace p230 := eq_true p230
  replace q230 := eq_true q230
  have p231 : 0 ≤ ((l2.length : Int) : Int) := oda
  have q231 : (l2.length : Int) < (l1.length : Int) := oda
  obtain ⟨ad231, e231, hx231_0⟩ := Kd.at_int (Kd.C_kept_now HR1.out HK.out) (l2.length : Int) p231 q231
  have hw231_0 := hx231_0
  cases e231
  (try simp only [Go.IntWalk.toNatUp] at hx231_0)
  replace p231 := eq_true p231
  replace q231 := eq_true q231
  obtain ⟨go85, co85, eo85, gb85, gl85, cl85, HG85⟩ := Kd.S_form HO228.out (by have h_ : (x11_1 : Int) < ((t226.length : Int) : Int) := oda; have h2_ : 0 ≤ (x11_1 : Int) := (oda); omega)
  (first | cases eo85 | (injection eo85 with ea_ en_ ec_; (first | subst ea_ | (injection ea_ with ea_; subst ea_)); subst ec_; clear en_))
  have GB85 := Aside0.mk gb85
  have GG85 := Aside0.mk HG85
  clear gb85 gl85 HG85
  have HMgo85 := Aside0.mk (show (P2_ go85 ∨ w.heap.size ≤ go85) from ((Kd.S_R HO228.out).1 _ rfl).1)
  (first | simp only [add_plain] at hx230_0 | skip)
  obtain ⟨oki85, ce85, hcl85, hM85, hcc85, _, _, hH85⟩ := Kd.S_elem HO228.out [] (x11_1 : Int) (oda) (by have h_ : (x11_1 : Int) < ((t226.length : Int) : Int) := oda; first | exact h_ | (have e_ := (Kd.S_reads' HO228.out).1; omega) | simpa using h_)
  obtain ⟨ve85_0, rfl, ge85_0⟩ := hM85
  have hv85 := hcc85 0 _ rfl
  have hX85 := HX230_0.out
  (try simp only [add_plain] at hX85)
  (try simp only [Nat.add_zero] at hv85)
  (try rw [show ((Kd.slice 3 (Kd.int .i64))).sz = 1 from rfl, Nat.mul_one] at hv85)
  replace hv85 := Option.some.inj (hv85.symm.trans hX85)
  subst hv85
  clear hX85 hcc85 hcl85
  have UU85 := Aside0.mk (show Kd.R (Kd.int .i64) 3 _ w0.heap.size oki85 (.slice A230_0 (rd_L1 t226 x11_1).length c230_0) (rd_L1 t226 x11_1) from ge85_0)
  have HH85 := Aside0.mk hH85
  have HN85 := Aside0.mk (Kd.S_reads' HO228.out).1
  clear hH85 ge85_0
  refine start_ (n := 16) (S := fun w' => w'.cell? ⟨gb229, 0, none⟩ = some (.slice (some ⟨go85, 0, none⟩) t226.length co80) ∧ w'.cell? ⟨go85, (x11_1).toNat, none⟩ = some (.slice A230_0 (rd_L1 t226 x11_1).length c230_0) ∧ w'.cell? (ad231.add ((l2.length : Int)).toNat) = some (.int .i64 (rd l1 (l2.length : Int)))) (ds := [15]) #[false, false, false, false, false, false, false, false, false, false, false, false, false, false, false, false] (by kernel_rfl) rfl rfl ⟨(blk_cell BK229.out 0).trans rfl, hx230_0, (Kd.foot_int (HR1.out _ (by repeat (first | exact HK.out | apply Kept.alloc | apply Kept.drewN | apply Kept.drew | refine Kept.setCell ?_ HMgo85.out _))) (l2.length : Int) (of_eq_true p231) (of_eq_true q231))⟩ (fun hHeld => ?_); refine with_tabW spec_l8Best.tab10 spec_l8Best.bits10 (fun HT_ HW_ => ?_)
  generalize w83.drew = w84 at HO_2 HO_9 HO228 BK218 BK229 HK HB GG85 HH85 HL230_0 HR230_0 HX230_0 UU85 hx230_0 hx231_0 hHeld ⊢
  refine pure_ (i := 0) (N := some 42) (v := ?_) (a' := ?_) #[true, false, false, false, false, false, false, false, false, false, false, false, false, false, false, false] rfl rfl (any_of HT_.out (by kernel_rfl)) (fun _ _ _ h => h) (Or.inl ⟨by rfl, ?_⟩) ?_ ?_
  rotate_left
  ·intro w'
   go_simp
   with_reducible rfl
  rotate_left
  ·simp only [putS]
   rfl
  refine pure_ (i := 2) (N := some 44) (v := ?_) (a' := ?_) #[true, false, true, false, false, false, false, false, false, false, false, false, false, false, false, false] rfl rfl (any_of HT_.out (by kernel_rfl)) (fun _ _ _ h => h) (Or.inl ⟨by rfl, ?_⟩) ?_ ?_
  rotate_left
  ·intro w'
   go_simp
   with_reducible rfl
  rotate_left
  ·simp only [putS]
   rfl
  refine pure_ (i := 3) (N := some 45) (v := ?_) (a' := ?_) #[true, false, true, true, false, false, false, false, false, false, false, false, false, false, false, false] rfl rfl (any_of HT_.out (by kernel_rfl)) (fun _ _ _ h => h) (Or.inl ⟨by rfl, ?_⟩) ?_ ?_
  rotate_left
  ·intro w'
   go_simp
   with_reducible rfl
  rotate_left
  ·simp only [putS]
   rfl
  refine pure_ (i := 5) (N := some 47) (v := ?_) (a' := ?_) #[true, false, true, true, false, true, false, false, false, false, false, false, false, false, false, false] rfl rfl (any_of HT_.out (by kernel_rfl)) (fun _ _ _ h => h) (Or.inl ⟨by rfl, ?_⟩) ?_ ?_
  rotate_left
  ·intro w'
   go_simp
   with_reducible rfl
  rotate_left
  ·simp only [putS]
   rfl
  refine pure_ (i := 8) (N := some 50) (v := ?_) (a' := ?_) #[true, false, true, true, false, true, false, false, true, false, false, false, false, false, false, false] rfl rfl (any_of HT_.out (by kernel_rfl)) (fun _ _ _ h => h) (Or.inl ⟨by rfl, ?_⟩) ?_ ?_
  rotate_left
  ·intro w'
   go_simp
   with_reducible rfl
  rotate_left
  ·simp only [putS]
   rfl
  refine pure_ (i := 9) (N := some 51) (v := ?_) (a' := ?_) #[true, false, true, true, false, true, false, false, true, true, false, false, false, false, false, false] rfl rfl (any_of HT_.out (by kernel_rfl)) (fun _ _ _ h => h) (Or.inl ⟨by rfl, ?_⟩) ?_ ?_
  rotate_left
  ·intro w'
   go_simp
   with_reducible rfl
  rotate_left
  ·simp only [putS]
   rfl
  refine pure_ (i := 10) (N := some 52) (v := ?_) (a' := ?_) #[true, false, true, true, false, true, false, false, true, true, true, false, false, false, false, false] rfl rfl (any_of HT_.out (by kernel_rfl)) (fun _ _ _ h => h) (Or.inl ⟨by rfl, ?_⟩) ?_ ?_
  rotate_left
  ·intro w'
   go_simp
   with_reducible rfl
  rotate_left
  ·simp only [putS]
   rfl
  refine take_ (i := 1) (N := some 43) (v := ?_) (a' := ?_) #[true, true, true, true, false, true, false, false, true, true, true, false, false, false, false, false] rfl rfl (take_ofW HT_.out HW_.out (by kernel_rfl)) (fun _ _ _ h => h) (Or.inl ⟨by rfl, ?_⟩) hHeld ?_ ?_
  rotate_left
  ·rintro w' ⟨s0, s1, s2⟩
   (try simp only [Int.toNat_natCast] at s2)
   go_simp
   with_reducible rfl
  rotate_left
  ·simp only [putS]
   rfl
  refine take_ (i := 4) (N := some 46) (v := ?_) (a' := ?_) #[true, true, true, true, true, true, false, false, true, true, true, false, false, false, false, false] rfl rfl (take_ofW HT_.out HW_.out (by kernel_rfl)) (fun _ _ _ h => h) (Or.inl ⟨by rfl, ?_⟩) hHeld ?_ ?_
  rotate_left
  ·rintro w' ⟨s0, s1, s2⟩
   (try simp only [Int.toNat_natCast] at s2)
   go_simp
   with_reducible rfl
  rotate_left
  ·simp only [putS]
   rfl
  refine pure_ (i := 6) (N := some 48) (v := ?_) (a' := ?_) #[true, true, true, true, true, true, true, false, true, true, true, false, false, false, false, false] rfl rfl (any_of HT_.out (by kernel_rfl)) (fun _ _ _ h => h) (Or.inl ⟨by rfl, ?_⟩) ?_ ?_
  rotate_left
  ·intro w'
   go_simp
   with_reducible rfl
  rotate_left
  ·simp only [putS]
   rfl
  refine take_ (i := 7) (N := some 49) (v := ?_) (a' := ?_) #[true, true, true, true, true, true, true, true, true, true, true, false, false, false, false, false] rfl rfl (take_ofW HT_.out HW_.out (by kernel_rfl)) (fun _ _ _ h => h) (Or.inl ⟨by rfl, ?_⟩) hHeld ?_ ?_
  rotate_left
  ·rintro w' ⟨s0, s1, s2⟩
   (try simp only [Int.toNat_natCast] at s2)
   go_simp
   with_reducible rfl
  rotate_left
  ·simp only [putS]
   rfl
  refine take_ (i := 11) (N := some 53) (v := ?_) (a' := ?_) #[true, true, true, true, true, true, true, true, true, true, true, true, false, false, false, false] rfl rfl (take_ofW HT_.out HW_.out (by kernel_rfl)) (fun _ _ _ h => h) (Or.inl ⟨by rfl, ?_⟩) hHeld ?_ ?_
  rotate_left
  ·rintro w' ⟨s0, s1, s2⟩
   (try simp only [Int.toNat_natCast] at s2)
   go_simp
   with_reducible rfl
  rotate_left
  ·simp only [putS]
   rfl
  refine one_ (i := 12) (N := some 54) #[true, true, true, true, true, true, true, true, true, true, true, true, true, false, false, false] rfl rfl (one_of HT_.out (by kernel_rfl)) (by decide) (fun K hK => ?_)
  refine value_ (w1 := ?_) (v := ?_) (by rfl) rfl ?_ ?_
  rotate_left 2
  ·go_simp
   constructor
   ·rfl
   rfl
  refine hK.out _ _ ⟨(blk_cell (blk_alloc BK229.out _) 0).trans rfl, (World.cell?_alloc_lt _ _ _ (World.block_lt_of_cell? _ _ (hHeld.2.1))).trans (hHeld.2.1), (World.cell?_alloc_lt _ _ _ (World.block_lt_of_cell? _ _ ((Kd.foot_int (HR1.out _ (by repeat (first | exact HK.out | apply Kept.alloc | apply Kept.drewN | apply Kept.drew | refine Kept.setCell ?_ HMgo85.out _))) (l2.length : Int) (of_eq_true p231) (of_eq_true q231))))).trans ((Kd.foot_int (HR1.out _ (by repeat (first | exact HK.out | apply Kept.alloc | apply Kept.drewN | apply Kept.drew | refine Kept.setCell ?_ HMgo85.out _))) (l2.length : Int) (of_eq_true p231) (of_eq_true q231)))⟩ (fun hHeld => ?_)
  clear hK K
  refine norm_ (a' := ?_) ?_ ?_
  rotate_left
  ·show Act.put _ (some 54) _ = _
   simp only [putS]
   rfl
  refine one_ (i := 13) (N := some 55) #[true, true, true, true, true, true, true, true, true, true, true, true, true, true, false, false] rfl rfl (one_of HT_.out (by kernel_rfl)) (by decide) (fun K hK => ?_)
  refine Kd.R_append_step (Kd.int .i64) (w0 := w0) w0.heap.size (by rfl) (.tmp 49) (.tmp 54) 25 3 (.int .i64 0) 8 rfl Try.underlying25 info3 rfl (by decide) (by omega) (.slice A230_0 (rd_L1 t226 x11_1).length c230_0) (rd_L1 t226 x11_1) (rd l1 (l2.length : Int)) [.int .i64 (rd l1 (l2.length : Int))] (fun k_ => oki85 k_ ∨ ((fun k_ => (P2_ k_ ∨ w.heap.size ≤ k_) ∧ some k_ ≠ (.slice Ao12 l2.length co12 : Value).ownBlock ∧ some k_ ≠ (u9 : Value).ownBlock)) k_ ∧ w84.heap.size ≤ k_) (fun _ => False) rfl rfl ?aP (fun _ hk => hk.elim) ?aF ?aO ?aB ?aS ?aL ?_
  (case aP => exact rfl)
  (case aB => exact (bel2 HB GE218 GE229))
  (case aF => exact (fun k_ hk => .inr ⟨⟨.inr (Nat.le_trans (by first | exact HK.out.1 | exact (show Kept w _ (fun k_ => P2_ k_) from by repeat (first | (with_reducible first | exact HK.out | apply Kept.alloc | apply Kept.drewN | apply Kept.drew | refine Kept.setCell ?_ (.inr GW218.out) _ | refine Kept.setCell ?_ (.inr GW229.out) _) | exact HK.out)).1) hk), Kd.fresh' (Kd.R_lt (rdl HO_2)) k_ hk, Kd.fresh' (Kd.R_lt (rdl HO_9)) k_ hk⟩, hk⟩))
  (case aO => exact (by (with_reducible repeat (first | apply Kd.R_alloc | apply Kd.R_drewN | apply Kd.R_drew)); exact Kd.R_mono UU85.out (fun _ hk => .inl hk)))
  (case aS => exact (below_size (bel2 HB GE218 GE229)))
  (case aL => have := LMc23.out; omega)
  intro v233 w86 ho hb hg hat
  (first | have HS1_ := cell_grown hg (hHeld.2.1) (by first | (rw [add_block]; exact (fun e_ => ((HL230_0.out.1 _ e_.symm).2) rfl)) | (show some (Addr.add _ _).block ≠ _; rw [add_block]; exact (fun e_ => ((HL230_0.out.1 _ e_.symm).2) rfl)) | exact (fun e_ => ((HL230_0.out.1 _ e_.symm).2) rfl)) | have HS1_ := cell_grown hg (cell_unalloc (hHeld.2.1) (by first | (rw [add_block]; exact Kd.S_lt HO228.out _ rfl) | (show (Addr.add _ _).block < _; rw [add_block]; exact Kd.S_lt HO228.out _ rfl) | exact Kd.S_lt HO228.out _ rfl)) (by first | (rw [add_block]; exact (fun e_ => ((HL230_0.out.1 _ e_.symm).2) rfl)) | (show some (Addr.add _ _).block ≠ _; rw [add_block]; exact (fun e_ => ((HL230_0.out.1 _ e_.symm).2) rfl)) | exact (fun e_ => ((HL230_0.out.1 _ e_.symm).2) rfl)))
  rw [← Ny232.out] at ho
  have n0_ := Aside0.mk (Kd.R_grown2 (rdl HO_2) rfl hg (fun k_ e_ => (HL230_0.out.1 k_ e_).1.2.1))
  have n1_ := Aside0.mk (Kd.R_grown2 (rdl HO_9) rfl hg (fun k_ e_ => (HL230_0.out.1 k_ e_).1.2.2))
  have n2_ := Aside0.mk (blk_grown (g := gb218) (o := .cells #[.slice (some ad225) l0_0.length c0_0] 29 (0, 0)) (bkl BK218) hg (Kd.R_ne HL230_0.out BK218.out (by decide)))
  have n3_ := Aside0.mk (blk_grown (g := gb229) (o := .cells #[.slice (some ⟨go85, 0, none⟩) t226.length co80] 29 (0, 0)) (bkl BK229) hg (Kd.R_ne HL230_0.out BK229.out (by decide)))
  have n4_ := Aside0.mk (hb)
  have n5_ := Aside0.mk (Kept.of_grown (S := (fun k_ => P2_ k_)) hg (by repeat (first | (with_reducible first | exact HK.out | apply Kept.alloc | apply Kept.drewN | apply Kept.drew | refine Kept.setCell ?_ (.inr GW218.out) _ | refine Kept.setCell ?_ (.inr GW229.out) _) | exact HK.out)) (fun k_ e_ => (HL230_0.out.1 k_ e_).1.1))
  have n6_ := Aside0.mk (Kd.H_grown (Kd.H_widen (by repeat (first | exact HH85.out | refine Kd.H_alloc ?_ _ | refine Kd.H_drewN ?_ _ | refine Kd.H_drew ?_))) hg (fun k_ e_ => .inl (UU85.out.1 k_ e_)))
  have n7_ := Aside0.mk (ho)
  clear HO_2 HO_9 BK218 BK229 HB HK HH85 HO228 UU85 HL230_0
  have HO_2 := n0_
  have HO_9 := n1_
  have BK218 := n2_
  have BK229 := n3_
  have HB := n4_
  have HK := n5_
  have HH85 := n6_
  have HO234 := n7_
  clear n0_ n1_ n2_ n3_ n4_ n5_ n6_ n7_ ho hb hg hat
  have p24 : 0 ≤ (x11_1 : Int) := oda
  have q24 : (x11_1 : Int) < ((t226.length : Int) : Int) := oda
  replace p24 := eq_true p24
  replace q24 := eq_true q24
  obtain ⟨Ao89, co89, eo89⟩ := Kd.R_slice HO234.out
  (first | subst eo89 | (injection eo89 with f1_ f2_ f3_; have f4_ := f1_.symm; have f5_ := f3_.symm; clear f1_ f2_ f3_; subst f4_; subst f5_))
  obtain ⟨_, _, hraw87, _, _, hcc87, _⟩ := Kd.H_raw HH85.out (oda) (by have h_ : (x11_1 : Int) < ((t226.length : Int) : Int) := oda; first | exact h_ | (have e_ := (HN85.out); omega) | simpa using h_)
  obtain ⟨_, hfr87⟩ := Kd.H_at HH85.out (oda) (by have h_ : (x11_1 : Int) < ((t226.length : Int) : Int) := oda; first | exact h_ | (have e_ := (HN85.out); omega) | simpa using h_)
  have hx87_0 := hcc87 0 _ rfl
  have hf87_0 := hfr87 0
  (try simp only [Nat.add_zero] at hx87_0 hf87_0)
  (try rw [show ((Kd.slice 3 (Kd.int .i64))).sz = 1 from rfl, Nat.mul_one] at hx87_0)
  (try rw [show ((Kd.slice 3 (Kd.int .i64))).sz = 1 from rfl, Nat.mul_one] at hf87_0)
  have HP87 := Kd.S_seg0 HH85.out (oda) (by have h_ : (x11_1 : Int) < ((t226.length : Int) : Int) := oda; first | exact h_ | (have e_ := (HN85.out); omega) | simpa using h_) (seg := [.slice Ao89 y232.length co89]) (j := 0) (show 1 ≤ 1 from by decide) (x' := y232) (Kd.M_row HO234.out) (fun _ hk => hk)
  (try simp only [show ((Kd.slice 3 (Kd.int .i64))).sz = 1 from rfl, Nat.mul_one, Nat.add_zero] at HP87)
  clear hcc87 hfr87
  have HNB218_go85 := Aside0.mk (show gb218 ≠ go85 from by have h_ := Kd.R_ne hraw87 BK218.out (by decide); intro e_; exact h_ (by rw [e_]; rfl))
  have HNB229_go85 := Aside0.mk (show gb229 ≠ go85 from by have h_ := Kd.R_ne hraw87 BK229.out (by decide); intro e_; exact h_ (by rw [e_]; rfl))
  have HS87 := HP87.1
  rw [← Ny235.out] at HS87
  have HQ87 := Aside0.mk HS87
  obtain ⟨_, hgg87⟩ := Kd.R_typed hraw87 go85 rfl
  have GG87_ := Aside0.mk hgg87
  clear HP87 HS87 hgg87
  refine hK.out _ _ ⟨(blk_cell BK229.out 0).trans rfl, HS1_, (Kd.foot_int (HR1.out _ (by repeat (first | exact HK.out | apply Kept.alloc | apply Kept.drewN | apply Kept.drew | refine Kept.setCell ?_ HMgo85.out _))) (l2.length : Int) (of_eq_true p231) (of_eq_true q231))⟩ (fun hHeld => ?_)
  clear hK K
  refine norm_ (a' := ?_) ?_ ?_
  rotate_left
  ·show Act.put _ (some 55) _ = _
   simp only [putS]
   rfl
  refine pure_ (i := 14) (N := some 56) (v := ?_) (a' := ?_) #[true, true, true, true, true, true, true, true, true, true, true, true, true, true, true, false] rfl rfl (any_of HT_.out (by kernel_rfl)) (fun _ _ _ h => h) (Or.inl ⟨by rfl, ?_⟩) ?_ ?_
  rotate_left
  ·intro w'
   go_simp
   with_reducible rfl
  rotate_left
  ·simp only [putS]
   rfl
  refine last_ (i := 15) (N := none) #[true, true, true, true, true, true, true, true, true, true, true, true, true, true, true, true] rfl rfl (one_of HT_.out (by kernel_rfl)) (by decide) (fun K hK => ?_)
  refine skip_ (w1 := ?_) (by rfl) rfl ?_ ?_
  rotate_left
  ·go_simp
   rfl
  refine hK.out _ _ ?_
  clear hK K
  refine done_ (done_of HT_.out (by kernel_rfl)) ?_
  try go_wp2
  have n0_ : Aside0 (Kd.R (Kd.int .i64) 3 (w86.setCell ⟨go85, (x11_1 : Int).toNat, none⟩ (.slice Ao89 y232.length co89)) w0.heap.size (fun k_ => (P2_ k_ ∨ w.heap.size ≤ k_) ∧ some k_ ≠ (u9 : Value).ownBlock) (.slice Ao12 l2.length co12) l2) := ⟨by (with_reducible repeat (first | apply Kd.R_alloc | apply Kd.R_drewN | apply Kd.R_drew)); exact Kd.R_mono (Kd.R_far (p := ⟨go85, (x11_1 : Int).toNat, none⟩) (Kd.R_types HO_2.out GG87_.out (by decide)) (fun _ hk => hk.2) (.slice Ao89 y232.length co89)) (fun _ hk => ⟨hk.1.1, hk.1.2⟩)⟩
  have n1_ : Aside0 (Kd.R (Kd.int .i64) 3 (w86.setCell ⟨go85, (x11_1 : Int).toNat, none⟩ (.slice Ao89 y232.length co89)) w0.heap.size (fun k_ => (P2_ k_ ∨ w.heap.size ≤ k_) ∧ some k_ ≠ (.slice Ao12 l2.length co12 : Value).ownBlock) u9 x9_1) := ⟨by (with_reducible repeat (first | apply Kd.R_alloc | apply Kd.R_drewN | apply Kd.R_drew)); exact Kd.R_mono (Kd.R_far (p := ⟨go85, (x11_1 : Int).toNat, none⟩) (Kd.R_types HO_9.out GG87_.out (by decide)) (fun _ hk => hk.2) (.slice Ao89 y232.length co89)) (fun _ hk => ⟨hk.1.1, hk.1.2⟩)⟩
  have n2_ : Aside0 (Kd.S (Kd.slice 3 (Kd.int .i64)) 25 (w86.setCell ⟨go85, (x11_1 : Int).toNat, none⟩ (.slice Ao89 y232.length co89)) w0.heap.size (fun k_ => (P2_ k_ ∨ w.heap.size ≤ k_) ∧ some k_ ≠ (.slice Ao12 l2.length co12 : Value).ownBlock ∧ some k_ ≠ (u9 : Value).ownBlock) (.slice (some ⟨go85, 0, none⟩) t226.length co80) y235) := ⟨sdl HQ87⟩
  have n3_ : Aside0 ((w86.setCell ⟨go85, (x11_1 : Int).toNat, none⟩ (.slice Ao89 y232.length co89)).heap[gb218]? = some (.cells #[.slice (some ad225) l0_0.length c0_0] 29 (0, 0))) := ⟨by (with_reducible repeat (first | refine blk_drewN ?_ _ | refine blk_drew ?_ | refine blk_alloc ?_ _)); refine blk_far ?_ HNB218_go85.out _; (with_reducible repeat (first | refine blk_drewN ?_ _ | refine blk_drew ?_ | refine blk_alloc ?_ _)); exact BK218.out⟩
  have n4_ : Aside0 ((w86.setCell ⟨go85, (x11_1 : Int).toNat, none⟩ (.slice Ao89 y232.length co89)).heap[gb229]? = some (.cells #[.slice (some ⟨go85, 0, none⟩) t226.length co80] 29 (0, 0))) := ⟨by (with_reducible repeat (first | refine blk_drewN ?_ _ | refine blk_drew ?_ | refine blk_alloc ?_ _)); refine blk_far ?_ HNB229_go85.out _; (with_reducible repeat (first | refine blk_drewN ?_ _ | refine blk_drew ?_ | refine blk_alloc ?_ _)); exact BK229.out⟩
  have n5_ : Aside0 (Kept w (w86.setCell ⟨go85, (x11_1 : Int).toNat, none⟩ (.slice Ao89 y232.length co89)) (fun k_ => P2_ k_)) := ⟨by repeat (first | (with_reducible first | exact HK.out | apply Kept.alloc | apply Kept.drewN | apply Kept.drew | refine Kept.setCell ?_ HMgo85.out _ | refine Kept.setCell ?_ (.inr GW218.out) _ | refine Kept.setCell ?_ (.inr GW229.out) _) | exact HK.out)⟩
  have n6_ : Aside0 (Below w0.heap.size w0 (w86.setCell ⟨go85, (x11_1 : Int).toNat, none⟩ (.slice Ao89 y232.length co89))) := ⟨bel3 HB GB85 GE218 GE229⟩
  (try clear HO_2)
  (try clear HO_9)
  (try clear HO228)
  (try clear BK218)
  (try clear BK229)
  (try clear HK)
  (try clear HB)
  generalize (w86.setCell ⟨go85, (x11_1 : Int).toNat, none⟩ (.slice Ao89 y232.length co89)) = w90 at n0_ n1_ n2_ n3_ n4_ n5_ n6_ ⊢
  have HO_2 := n0_
  have HO_9 := n1_
  have HO228 := n2_
  have BK218 := n3_
  have BK229 := n4_
  have HK := n5_
  have HB := n6_
  clear n0_ n1_ n2_ n3_ n4_ n5_ n6_
  have n0_ := Aside0.mk (Kd.R_drew HO_2.out)
  have n1_ := Aside0.mk (Kd.R_drew HO_9.out)
  have n2_ := Aside0.mk (Kd.S_drew HO228.out)
  have n3_ := Aside0.mk (blk_drew BK218.out)
  have n4_ := Aside0.mk (blk_drew BK229.out)
  have n5_ := Aside0.mk (Kept.drew HK.out)
  have n6_ := Aside0.mk (below_drew1 HB.out)
  clear HO_2 HO_9 HO228 BK218 BK229 HK HB
  have HO_2 := n0_
  have HO_9 := n1_
  have HO228 := n2_
  have BK218 := n3_
  have BK229 := n4_
  have HK := n5_
  have HB := n6_
  clear n0_ n1_ n2_ n3_ n4_ n5_ n6_
  refine start_ (n := 13) (S := fun w' => w'.cell? ⟨gb229, 0, none⟩ = some (.slice (some ⟨go85, 0, none⟩) t226.length co80)) (ds := []) #[false, false, false, false, false, false, false, false, false, false, false, false, false] (by kernel_rfl) rfl rfl ((blk_cell BK229.out 0).trans rfl) (fun hHeld => ?_); refine with_tabW spec_l8Best.tab11 spec_l8Best.bits11 (fun HT_ HW_ => ?_)
  generalize w90.drew = w91 at HO_2 HO_9 HO228 BK218 BK229 HK HB HQ87 hHeld ⊢
  refine pure_ (i := 1) (N := some 59) (v := ?_) (a' := ?_) #[false, true, false, false, false, false, false, false, false, false, false, false, false] rfl rfl (any_of HT_.out (by kernel_rfl)) (fun _ _ _ h => h) (Or.inl ⟨by rfl, ?_⟩) ?_ ?_
  rotate_left
  ·intro w'
   go_simp
   with_reducible rfl
  rotate_left
  ·simp only [putS]
   rfl
  refine pure_ (i := 2) (N := some 60) (v := ?_) (a' := ?_) #[false, true, true, false, false, false, false, false, false, false, false, false, false] rfl rfl (any_of HT_.out (by kernel_rfl)) (fun _ _ _ h => h) (Or.inl ⟨by rfl, ?_⟩) ?_ ?_
  rotate_left
  ·intro w'
   go_simp
   with_reducible rfl
  rotate_left
  ·simp only [putS]
   rfl
  refine pure_ (i := 4) (N := some 62) (v := ?_) (a' := ?_) #[false, true, true, false, true, false, false, false, false, false, false, false, false] rfl rfl (any_of HT_.out (by kernel_rfl)) (fun _ _ _ h => h) (Or.inl ⟨by rfl, ?_⟩) ?_ ?_
  rotate_left
  ·intro w'
   go_simp
   with_reducible rfl
  rotate_left
  ·simp only [putS]
   rfl
  refine take_ (i := 0) (N := some 58) (v := ?_) (a' := ?_) #[true, true, true, false, true, false, false, false, false, false, false, false, false] rfl rfl (take_ofW HT_.out HW_.out (by kernel_rfl)) (fun _ _ _ h => h) (Or.inl ⟨by rfl, ?_⟩) hHeld ?_ ?_
  rotate_left
  ·intro w' s0
   go_simp
   with_reducible rfl
  rotate_left
  ·simp only [putS]
   rfl
  refine join_ (σ := Value × Value) 7 #[true, true, true, true, true, true, false, false, false, false, false, false, false] (fun s_ => [(61, s_.1), (63, s_.2)]) (fun s_ w' => (w'.cell? ⟨gb229, 0, none⟩ = some (.slice (some ⟨go85, 0, none⟩) t226.length co80)) ∧ (Kd.S (Kd.slice 3 (Kd.int .i64)) 25 w' w0.heap.size (fun k_ => (P2_ k_ ∨ w.heap.size ≤ k_) ∧ some k_ ≠ (s_.1 : Value).ownBlock ∧ some k_ ≠ (s_.2 : Value).ownBlock ∧ some k_ ≠ (.slice Ao12 l2.length co12 : Value).ownBlock ∧ some k_ ≠ (u9 : Value).ownBlock) (.slice (some ⟨go85, 0, none⟩) t226.length co80) y235) ∧ (Kd.R (Kd.int .i64) 3 w' w0.heap.size (fun k_ => (P2_ k_ ∨ w.heap.size ≤ k_) ∧ some k_ ≠ (s_.2 : Value).ownBlock ∧ some k_ ≠ (.slice Ao12 l2.length co12 : Value).ownBlock ∧ some k_ ≠ (u9 : Value).ownBlock) s_.1 t236) ∧ (Kd.R (Kd.int .i64) 3 w' w0.heap.size (fun k_ => (P2_ k_ ∨ w.heap.size ≤ k_) ∧ some k_ ≠ (s_.1 : Value).ownBlock ∧ some k_ ≠ (.slice Ao12 l2.length co12 : Value).ownBlock ∧ some k_ ≠ (u9 : Value).ownBlock) s_.2 y239) ∧ (Kd.R (Kd.int .i64) 3 w' w0.heap.size (fun k_ => (P2_ k_ ∨ w.heap.size ≤ k_) ∧ some k_ ≠ (s_.1 : Value).ownBlock ∧ some k_ ≠ (s_.2 : Value).ownBlock ∧ some k_ ≠ (u9 : Value).ownBlock) (.slice Ao12 l2.length co12) l2) ∧ (Kd.R (Kd.int .i64) 3 w' w0.heap.size (fun k_ => (P2_ k_ ∨ w.heap.size ≤ k_) ∧ some k_ ≠ (s_.1 : Value).ownBlock ∧ some k_ ≠ (s_.2 : Value).ownBlock ∧ some k_ ≠ (.slice Ao12 l2.length co12 : Value).ownBlock) u9 x9_1) ∧ (w'.heap[gb218]? = some (.cells #[.slice (some ad225) l0_0.length c0_0] 29 (0, 0))) ∧ (w'.heap[gb229]? = some (.cells #[.slice (some ⟨go85, 0, none⟩) t226.length co80] 29 (0, 0))) ∧ (Kept w w' (fun k_ => P2_ k_)) ∧ (Below w0.heap.size w0 w')) ?_ ?_
  rotate_left
  ·intro hCont
   refine two_ (i := 3) (j := 5) (Ni := some 61) (Nj := some 63) #[true, true, true, true, true, false, false, false, false, false, false, false, false] #[true, true, true, false, true, true, false, false, false, false, false, false, false] rfl rfl rfl rfl (two_of HT_.out (by kernel_rfl)) (by decide) (by decide) (fun K hK => ?_) (fun K hK => ?_)
   ·skip
    refine goes_ Try.func30 (by kernel_rfl) rfl #[.slice Ao12 l2.length co12] (by rfl) rfl rfl gmp ?_
    with_reducible refine (spec_l1Own.calls _ _ l2 t236 _ ?side1 ?side2 A25.out).mono ?_
    (case side1 => exact cdl (Kd.R_reads' HO_2.out).2.2)
    (case side2 => exact (Kd.R_reads' HO_2.out).2.1)
    rintro e w92 ⟨v237, rfl, ho0, hb⟩
    refine ⟨_, rfl, ?_⟩
    have n0_ := Aside0.mk (Kd.R_elder' (rdl HO_2) (Kd.R_base ho0) hb)
    have n1_ := Aside0.mk (Kd.R_elder' (rdl HO_9) (Kd.R_base ho0) hb)
    have n2_ := Aside0.mk (Kd.S_elder' (sdl HO228) (Kd.R_base ho0) hb)
    have n3_ := Aside0.mk (Kd.R_lower (Kd.R_new' (Kd.R_new' (Kd.R_newM (M := fun k_ => (P2_ k_ ∨ w.heap.size ≤ k_)) ho0 (by first | exact HK.out.1 | exact (show Kept w _ (fun k_ => P2_ k_) from by repeat (first | (with_reducible first | exact HK.out | apply Kept.alloc | apply Kept.drewN | apply Kept.drew | refine Kept.setCell ?_ (.inr GW218.out) _ | refine Kept.setCell ?_ (.inr GW229.out) _) | exact HK.out)).1) (fun k_ h_ => .inr h_)) (Kd.R_lt (rdl HO_2))) (Kd.R_lt (rdl HO_9))) (below_size (bel2 HB GE218 GE229)))
    have n4_ := Aside0.mk (blk_below (g := gb218) (o := .cells #[.slice (some ad225) l0_0.length c0_0] 29 (0, 0)) (bkl BK218) hb)
    have n5_ := Aside0.mk (blk_below (g := gb229) (o := .cells #[.slice (some ⟨go85, 0, none⟩) t226.length co80] 29 (0, 0)) (bkl BK229) hb)
    have n6_ := Aside0.mk (Kept.below (S := (fun k_ => P2_ k_)) (by repeat (first | (with_reducible first | exact HK.out | apply Kept.alloc | apply Kept.drewN | apply Kept.drew | refine Kept.setCell ?_ (.inr GW218.out) _ | refine Kept.setCell ?_ (.inr GW229.out) _) | exact HK.out)) hb)
    have n7_ := Aside0.mk (below_step (bel2 HB GE218 GE229) hb)
    clear HO_2 HO_9 HO228 BK218 BK229 HK HB
    have HO_2 := n0_
    have HO_9 := n1_
    have HO228 := n2_
    have HO238 := n3_
    have BK218 := n4_
    have BK229 := n5_
    have HK := n6_
    have HB := n7_
    clear n0_ n1_ n2_ n3_ n4_ n5_ n6_ n7_
    (try clear hb)
    (try clear hb2)
    (try clear hk)
    (try clear hi)
    (try clear ho0)
    refine hK.out _ _ ((blk_cell BK229.out 0).trans rfl) (fun hHeld => ?_)
    clear hK K
    refine norm_ (a' := ?_) ?_ ?_
    rotate_left
    ·show Act.put _ (some 61) _ = _
     simp only [putS]
     rfl
    refine one_ (i := 5) (N := some 63) #[true, true, true, true, true, true, false, false, false, false, false, false, false] rfl rfl (one_of HT_.out (by kernel_rfl)) (by decide) (fun K hK => ?_)
    refine Kd.R_lit_step (Kd.int .i64) _ 3 ?hg (N := 63) ?hd (xs := ([x11_1] : List Int)) (inner := [.int .i64 x11_1]) (ok := fun _ => True) (okp := fun _ => True) ?hr ?hp (fun _ hk => hk) trivial (Below.refl _ _) (Nat.le_refl _) (by simp) ?_; (case hd => rfl); (case hg => rfl); (case hr => first | (go_simp; done) | (go_simp; rfl)); (case hp => exact (Reps.one (show Kd.M (Kd.int .i64) _ _ _ x11_1 [.int .i64 x11_1] from rfl) (Reps.none _ _)))
    intro v240 w93 ho94 hb hg_ hnew_
    clear hg_ hnew_
    (first | rw [← Ny239.out] at ho94 | (simp only [Int.reduceToNat] at ho94; rw [← Ny239.out] at ho94))
    have n0_ := Aside0.mk (Kd.R_elder' (rdl HO_2) (Kd.R_base ho94) hb)
    have n1_ := Aside0.mk (Kd.R_elder' (rdl HO_9) (Kd.R_base ho94) hb)
    have n2_ := Aside0.mk (Kd.S_elder' (sdl HO228) (Kd.R_base ho94) hb)
    have n3_ := Aside0.mk (Kd.R_elder' (rdl HO238) (Kd.R_base ho94) hb)
    have n4_ := Aside0.mk (Kd.R_lower (Kd.R_new' (Kd.R_new' (Kd.R_new' (Kd.R_newM (M := fun k_ => (P2_ k_ ∨ w.heap.size ≤ k_)) ho94 (by first | exact HK.out.1 | exact (show Kept w _ (fun k_ => P2_ k_) from by repeat (first | (with_reducible first | exact HK.out | apply Kept.alloc | apply Kept.drewN | apply Kept.drew | refine Kept.setCell ?_ (.inr GW218.out) _ | refine Kept.setCell ?_ (.inr GW229.out) _) | exact HK.out)).1) (fun k_ h_ => .inr h_)) (Kd.R_lt (rdl HO_2))) (Kd.R_lt (rdl HO_9))) (Kd.R_lt (rdl HO238))) (below_size (bel2 HB GE218 GE229)))
    have n5_ := Aside0.mk (blk_below (g := gb218) (o := .cells #[.slice (some ad225) l0_0.length c0_0] 29 (0, 0)) (bkl BK218) hb)
    have n6_ := Aside0.mk (blk_below (g := gb229) (o := .cells #[.slice (some ⟨go85, 0, none⟩) t226.length co80] 29 (0, 0)) (bkl BK229) hb)
    have n7_ := Aside0.mk (Kept.below (S := (fun k_ => P2_ k_)) (by repeat (first | (with_reducible first | exact HK.out | apply Kept.alloc | apply Kept.drewN | apply Kept.drew | refine Kept.setCell ?_ (.inr GW218.out) _ | refine Kept.setCell ?_ (.inr GW229.out) _) | exact HK.out)) hb)
    have n8_ := Aside0.mk (below_step (bel2 HB GE218 GE229) hb)
    clear HO_2 HO_9 HO228 HO238 BK218 BK229 HK HB
    have HO_2 := n0_
    have HO_9 := n1_
    have HO228 := n2_
    have HO238 := n3_
    have HO241 := n4_
    have BK218 := n5_
    have BK229 := n6_
    have HK := n7_
    have HB := n8_
    clear n0_ n1_ n2_ n3_ n4_ n5_ n6_ n7_ n8_ hb ho94
    refine hK.out _ _ ((blk_cell BK229.out 0).trans rfl) (fun hHeld => ?_)
    clear hK K
    refine norm_ (a' := ?_) ?_ ?_
    rotate_left
    ·show Act.put _ (some 63) _ = _
     simp only [putS]
     rfl
    exact norm_ (by simp only [putAll, Act.put, List.setIfInBounds_toArray, List.set_cons_zero, List.set_cons_succ]) (hCont (v237, v240) _ ⟨hHeld, (by (with_reducible repeat (first | apply Kd.S_alloc | apply Kd.S_drewN | apply Kd.S_drew)); exact Kd.S_mono HO228.out (fun _ hk => ⟨hk.1.1.1, ⟨hk.1.2, ⟨hk.2, ⟨hk.1.1.2.1, hk.1.1.2.2⟩⟩⟩⟩)), (by (with_reducible repeat (first | apply Kd.R_alloc | apply Kd.R_drewN | apply Kd.R_drew)); exact Kd.R_mono HO238.out (fun _ hk => ⟨hk.1.1.1.1, ⟨hk.2, ⟨hk.1.1.2, hk.1.2⟩⟩⟩)), (by (with_reducible repeat (first | apply Kd.R_alloc | apply Kd.R_drewN | apply Kd.R_drew)); exact Kd.R_mono HO241.out (fun _ hk => ⟨hk.1.1.1.1, ⟨hk.2, ⟨hk.1.1.2, hk.1.2⟩⟩⟩)), (by (with_reducible repeat (first | apply Kd.R_alloc | apply Kd.R_drewN | apply Kd.R_drew)); exact Kd.R_mono HO_2.out (fun _ hk => ⟨hk.1.1.1, ⟨hk.1.2, ⟨hk.2, hk.1.1.2⟩⟩⟩)), (by (with_reducible repeat (first | apply Kd.R_alloc | apply Kd.R_drewN | apply Kd.R_drew)); exact Kd.R_mono HO_9.out (fun _ hk => ⟨hk.1.1.1, ⟨hk.1.2, ⟨hk.2, hk.1.1.2⟩⟩⟩)), (bkl BK218), (bkl BK229), (by repeat (first | (with_reducible first | exact HK.out | apply Kept.alloc | apply Kept.drewN | apply Kept.drew | refine Kept.setCell ?_ (.inr GW218.out) _ | refine Kept.setCell ?_ (.inr GW229.out) _) | exact HK.out)), (bel2 HB GE218 GE229)⟩)
   skip
   refine Kd.R_lit_step (Kd.int .i64) _ 3 ?hg (N := 63) ?hd (xs := ([x11_1] : List Int)) (inner := [.int .i64 x11_1]) (ok := fun _ => True) (okp := fun _ => True) ?hr ?hp (fun _ hk => hk) trivial (Below.refl _ _) (Nat.le_refl _) (by simp) ?_; (case hd => rfl); (case hg => rfl); (case hr => first | (go_simp; done) | (go_simp; rfl)); (case hp => exact (Reps.one (show Kd.M (Kd.int .i64) _ _ _ x11_1 [.int .i64 x11_1] from rfl) (Reps.none _ _)))
   intro v240 w92 ho93 hb hg_ hnew_
   clear hg_ hnew_
   (first | rw [← Ny239.out] at ho93 | (simp only [Int.reduceToNat] at ho93; rw [← Ny239.out] at ho93))
   have n0_ := Aside0.mk (Kd.R_elder' (rdl HO_2) (Kd.R_base ho93) hb)
   have n1_ := Aside0.mk (Kd.R_elder' (rdl HO_9) (Kd.R_base ho93) hb)
   have n2_ := Aside0.mk (Kd.S_elder' (sdl HO228) (Kd.R_base ho93) hb)
   have n3_ := Aside0.mk (Kd.R_lower (Kd.R_new' (Kd.R_new' (Kd.R_newM (M := fun k_ => (P2_ k_ ∨ w.heap.size ≤ k_)) ho93 (by first | exact HK.out.1 | exact (show Kept w _ (fun k_ => P2_ k_) from by repeat (first | (with_reducible first | exact HK.out | apply Kept.alloc | apply Kept.drewN | apply Kept.drew | refine Kept.setCell ?_ (.inr GW218.out) _ | refine Kept.setCell ?_ (.inr GW229.out) _) | exact HK.out)).1) (fun k_ h_ => .inr h_)) (Kd.R_lt (rdl HO_2))) (Kd.R_lt (rdl HO_9))) (below_size (bel2 HB GE218 GE229)))
   have n4_ := Aside0.mk (blk_below (g := gb218) (o := .cells #[.slice (some ad225) l0_0.length c0_0] 29 (0, 0)) (bkl BK218) hb)
   have n5_ := Aside0.mk (blk_below (g := gb229) (o := .cells #[.slice (some ⟨go85, 0, none⟩) t226.length co80] 29 (0, 0)) (bkl BK229) hb)
   have n6_ := Aside0.mk (Kept.below (S := (fun k_ => P2_ k_)) (by repeat (first | (with_reducible first | exact HK.out | apply Kept.alloc | apply Kept.drewN | apply Kept.drew | refine Kept.setCell ?_ (.inr GW218.out) _ | refine Kept.setCell ?_ (.inr GW229.out) _) | exact HK.out)) hb)
   have n7_ := Aside0.mk (below_step (bel2 HB GE218 GE229) hb)
   clear HO_2 HO_9 HO228 BK218 BK229 HK HB
   have HO_2 := n0_
   have HO_9 := n1_
   have HO228 := n2_
   have HO241 := n3_
   have BK218 := n4_
   have BK229 := n5_
   have HK := n6_
   have HB := n7_
   clear n0_ n1_ n2_ n3_ n4_ n5_ n6_ n7_ hb ho93
   refine hK.out _ _ ((blk_cell BK229.out 0).trans rfl) (fun hHeld => ?_)
   clear hK K
   refine norm_ (a' := ?_) ?_ ?_
   rotate_left
   ·show Act.put _ (some 63) _ = _
    simp only [putS]
    rfl
   refine one_ (i := 3) (N := some 61) #[true, true, true, true, true, true, false, false, false, false, false, false, false] rfl rfl (one_of HT_.out (by kernel_rfl)) (by decide) (fun K hK => ?_)
   refine goes_ Try.func30 (by kernel_rfl) rfl #[.slice Ao12 l2.length co12] (by rfl) rfl rfl gmp ?_
   with_reducible refine (spec_l1Own.calls _ _ l2 t236 _ ?side1 ?side2 A25.out).mono ?_
   (case side1 => exact cdl (Kd.R_reads' HO_2.out).2.2)
   (case side2 => exact (Kd.R_reads' HO_2.out).2.1)
   rintro e w94 ⟨v237, rfl, ho0, hb⟩
   refine ⟨_, rfl, ?_⟩
   have n0_ := Aside0.mk (Kd.R_elder' (rdl HO_2) (Kd.R_base ho0) hb)
   have n1_ := Aside0.mk (Kd.R_elder' (rdl HO_9) (Kd.R_base ho0) hb)
   have n2_ := Aside0.mk (Kd.S_elder' (sdl HO228) (Kd.R_base ho0) hb)
   have n3_ := Aside0.mk (Kd.R_elder' (rdl HO241) (Kd.R_base ho0) hb)
   have n4_ := Aside0.mk (Kd.R_lower (Kd.R_new' (Kd.R_new' (Kd.R_new' (Kd.R_newM (M := fun k_ => (P2_ k_ ∨ w.heap.size ≤ k_)) ho0 (by first | exact HK.out.1 | exact (show Kept w _ (fun k_ => P2_ k_) from by repeat (first | (with_reducible first | exact HK.out | apply Kept.alloc | apply Kept.drewN | apply Kept.drew | refine Kept.setCell ?_ (.inr GW218.out) _ | refine Kept.setCell ?_ (.inr GW229.out) _) | exact HK.out)).1) (fun k_ h_ => .inr h_)) (Kd.R_lt (rdl HO_2))) (Kd.R_lt (rdl HO_9))) (Kd.R_lt (rdl HO241))) (below_size (bel2 HB GE218 GE229)))
   have n5_ := Aside0.mk (blk_below (g := gb218) (o := .cells #[.slice (some ad225) l0_0.length c0_0] 29 (0, 0)) (bkl BK218) hb)
   have n6_ := Aside0.mk (blk_below (g := gb229) (o := .cells #[.slice (some ⟨go85, 0, none⟩) t226.length co80] 29 (0, 0)) (bkl BK229) hb)
   have n7_ := Aside0.mk (Kept.below (S := (fun k_ => P2_ k_)) (by repeat (first | (with_reducible first | exact HK.out | apply Kept.alloc | apply Kept.drewN | apply Kept.drew | refine Kept.setCell ?_ (.inr GW218.out) _ | refine Kept.setCell ?_ (.inr GW229.out) _) | exact HK.out)) hb)
   have n8_ := Aside0.mk (below_step (bel2 HB GE218 GE229) hb)
   clear HO_2 HO_9 HO228 HO241 BK218 BK229 HK HB
   have HO_2 := n0_
   have HO_9 := n1_
   have HO228 := n2_
   have HO241 := n3_
   have HO238 := n4_
   have BK218 := n5_
   have BK229 := n6_
   have HK := n7_
   have HB := n8_
   clear n0_ n1_ n2_ n3_ n4_ n5_ n6_ n7_ n8_
   (try clear hb)
   (try clear hb2)
   (try clear hk)
   (try clear hi)
   (try clear ho0)
   refine hK.out _ _ ((blk_cell BK229.out 0).trans rfl) (fun hHeld => ?_)
   clear hK K
   refine norm_ (a' := ?_) ?_ ?_
   rotate_left
   ·show Act.put _ (some 61) _ = _
    simp only [putS]
    rfl
   exact norm_ (by simp only [putAll, Act.put, List.setIfInBounds_toArray, List.set_cons_zero, List.set_cons_succ]) (hCont (v237, v240) _ ⟨hHeld, (by (with_reducible repeat (first | apply Kd.S_alloc | apply Kd.S_drewN | apply Kd.S_drew)); exact Kd.S_mono HO228.out (fun _ hk => ⟨hk.1.1.1, ⟨hk.2, ⟨hk.1.2, ⟨hk.1.1.2.1, hk.1.1.2.2⟩⟩⟩⟩)), (by (with_reducible repeat (first | apply Kd.R_alloc | apply Kd.R_drewN | apply Kd.R_drew)); exact Kd.R_mono HO238.out (fun _ hk => ⟨hk.1.1.1.1, ⟨hk.2, ⟨hk.1.1.2, hk.1.2⟩⟩⟩)), (by (with_reducible repeat (first | apply Kd.R_alloc | apply Kd.R_drewN | apply Kd.R_drew)); exact Kd.R_mono HO241.out (fun _ hk => ⟨hk.1.1.1.1, ⟨hk.2, ⟨hk.1.1.2, hk.1.2⟩⟩⟩)), (by (with_reducible repeat (first | apply Kd.R_alloc | apply Kd.R_drewN | apply Kd.R_drew)); exact Kd.R_mono HO_2.out (fun _ hk => ⟨hk.1.1.1, ⟨hk.2, ⟨hk.1.2, hk.1.1.2⟩⟩⟩)), (by (with_reducible repeat (first | apply Kd.R_alloc | apply Kd.R_drewN | apply Kd.R_drew)); exact Kd.R_mono HO_9.out (fun _ hk => ⟨hk.1.1.1, ⟨hk.2, ⟨hk.1.2, hk.1.1.2⟩⟩⟩)), (bkl BK218), (bkl BK229), (by repeat (first | (with_reducible first | exact HK.out | apply Kept.alloc | apply Kept.drewN | apply Kept.drew | refine Kept.setCell ?_ (.inr GW218.out) _ | refine Kept.setCell ?_ (.inr GW229.out) _) | exact HK.out)), (bel2 HB GE218 GE229)⟩)
  rintro ⟨v237, v240⟩ w95 ⟨hS_, h0_, h1_, h2_, h3_, h4_, h5_, h6_, h7_, h8_⟩
  have n0_ : Aside0 (Kd.S (Kd.slice 3 (Kd.int .i64)) 25 w95 w0.heap.size (fun k_ => (P2_ k_ ∨ w.heap.size ≤ k_) ∧ some k_ ≠ (v237 : Value).ownBlock ∧ some k_ ≠ (v240 : Value).ownBlock ∧ some k_ ≠ (.slice Ao12 l2.length co12 : Value).ownBlock ∧ some k_ ≠ (u9 : Value).ownBlock) (.slice (some ⟨go85, 0, none⟩) t226.length co80) y235) := ⟨h0_⟩
  have n1_ : Aside0 (Kd.R (Kd.int .i64) 3 w95 w0.heap.size (fun k_ => (P2_ k_ ∨ w.heap.size ≤ k_) ∧ some k_ ≠ (v240 : Value).ownBlock ∧ some k_ ≠ (.slice Ao12 l2.length co12 : Value).ownBlock ∧ some k_ ≠ (u9 : Value).ownBlock) v237 t236) := ⟨h1_⟩
  have n2_ : Aside0 (Kd.R (Kd.int .i64) 3 w95 w0.heap.size (fun k_ => (P2_ k_ ∨ w.heap.size ≤ k_) ∧ some k_ ≠ (v237 : Value).ownBlock ∧ some k_ ≠ (.slice Ao12 l2.length co12 : Value).ownBlock ∧ some k_ ≠ (u9 : Value).ownBlock) v240 y239) := ⟨h2_⟩
  have n3_ : Aside0 (Kd.R (Kd.int .i64) 3 w95 w0.heap.size (fun k_ => (P2_ k_ ∨ w.heap.size ≤ k_) ∧ some k_ ≠ (v237 : Value).ownBlock ∧ some k_ ≠ (v240 : Value).ownBlock ∧ some k_ ≠ (u9 : Value).ownBlock) (.slice Ao12 l2.length co12) l2) := ⟨h3_⟩
  have n4_ : Aside0 (Kd.R (Kd.int .i64) 3 w95 w0.heap.size (fun k_ => (P2_ k_ ∨ w.heap.size ≤ k_) ∧ some k_ ≠ (v237 : Value).ownBlock ∧ some k_ ≠ (v240 : Value).ownBlock ∧ some k_ ≠ (.slice Ao12 l2.length co12 : Value).ownBlock) u9 x9_1) := ⟨h4_⟩
  have n5_ : Aside0 (w95.heap[gb218]? = some (.cells #[.slice (some ad225) l0_0.length c0_0] 29 (0, 0))) := ⟨h5_⟩
  have n6_ : Aside0 (w95.heap[gb229]? = some (.cells #[.slice (some ⟨go85, 0, none⟩) t226.length co80] 29 (0, 0))) := ⟨h6_⟩
  have n7_ : Aside0 (Kept w w95 (fun k_ => P2_ k_)) := ⟨h7_⟩
  have n8_ : Aside0 (Below w0.heap.size w0 w95) := ⟨h8_⟩
  clear HO_2 HO_9 HO228 BK218 BK229 HK HB h0_ h1_ h2_ h3_ h4_ h5_ h6_ h7_ h8_
  have HO228 := n0_
  have HO238 := n1_
  have HO241 := n2_
  have HO_2 := n3_
  have HO_9 := n4_
  have BK218 := n5_
  have BK229 := n6_
  have HK := n7_
  have HB := n8_
  clear n0_ n1_ n2_ n3_ n4_ n5_ n6_ n7_ n8_
  have hHeld : w95.cell? ⟨gb229, 0, none⟩ = some (.slice (some ⟨go85, 0, none⟩) t226.length co80) := hS_
  obtain ⟨Ao97, co97, eo97⟩ := Kd.R_slice HO241.out
  (first | subst eo97 | (injection eo97 with f1_ f2_ f3_; have f4_ := f1_.symm; have f5_ := f3_.symm; clear f1_ f2_ f3_; subst f4_; subst f5_))
  refine norm_ (a' := ?_) ?_ ?_
  rotate_left
  ·simp only [putAll, Act.put, List.setIfInBounds_toArray, List.set_cons_zero, List.set_cons_succ]
   rfl
  refine one_ (i := 6) (N := some 64) #[true, true, true, true, true, true, true, false, false, false, false, false, false] rfl rfl (one_of HT_.out (by kernel_rfl)) (by decide) (fun K hK => ?_)
  refine Kd.R_append_rows_step (Kd.int .i64) (w0 := w0) w0.heap.size (by rfl) (.tmp 61) (.tmp 63) 25 3 (.int .i64 0) 8 rfl Try.underlying25 info3 rfl (by decide) (by omega) v237 t236 y239 _ _ _ (fun k_ => (P2_ k_ ∨ w.heap.size ≤ k_) ∧ some k_ ≠ (.slice Ao12 l2.length co12 : Value).ownBlock ∧ some k_ ≠ (u9 : Value).ownBlock ∧ some k_ ≠ (.slice Ao97 y239.length co97 : Value).ownBlock) (fun _ => False) rfl rfl ?aO ?aR (fun _ _ h => h) (fun _ h => h.elim) ?aF ?aB ?aS ?aL ?_
  (case aR => exact cdl (Kd.R_reads' HO241.out).2.2)
  (case aB => exact (bel2 HB GE218 GE229))
  (case aF => exact (fun k_ hk => ⟨(.inr (Nat.le_trans (by first | exact HK.out.1 | exact (show Kept w _ (fun k_ => P2_ k_) from by repeat (first | (with_reducible first | exact HK.out | apply Kept.alloc | apply Kept.drewN | apply Kept.drew | refine Kept.setCell ?_ (.inr GW218.out) _ | refine Kept.setCell ?_ (.inr GW229.out) _) | exact HK.out)).1) hk)), Kd.fresh' (Kd.R_lt (rdl HO_2)) k_ hk, Kd.fresh' (Kd.R_lt (rdl HO_9)) k_ hk, Kd.fresh' (Kd.R_lt (rdl HO241)) k_ hk⟩))
  (case aO => exact (by (with_reducible repeat (first | apply Kd.R_alloc | apply Kd.R_drewN | apply Kd.R_drew)); exact Kd.R_mono HO238.out (fun _ hk => ⟨hk.1, ⟨hk.2.2.1, ⟨hk.2.2.2, hk.2.1⟩⟩⟩)))
  (case aS => exact (below_size (bel2 HB GE218 GE229)))
  (case aL => have := LMc26.out; omega)
  intro v243 w96 ho hb hg hat
  rw [← Ny242.out] at ho
  have n0_ := Aside0.mk (Kd.R_after (ok := (fun k_ => (P2_ k_ ∨ w.heap.size ≤ k_) ∧ some k_ ≠ (u9 : Value).ownBlock ∧ some k_ ≠ (.slice Ao97 y239.length co97 : Value).ownBlock)) (by (with_reducible repeat (first | apply Kd.R_alloc | apply Kd.R_drewN | apply Kd.R_drew)); exact Kd.R_mono HO_2.out (fun _ hk => ⟨⟨hk.1, ⟨hk.2.2.2, hk.2.2.1⟩⟩, hk.2.1⟩)) hg hat)
  have n1_ := Aside0.mk (Kd.R_after (ok := (fun k_ => (P2_ k_ ∨ w.heap.size ≤ k_) ∧ some k_ ≠ (.slice Ao12 l2.length co12 : Value).ownBlock ∧ some k_ ≠ (.slice Ao97 y239.length co97 : Value).ownBlock)) (by (with_reducible repeat (first | apply Kd.R_alloc | apply Kd.R_drewN | apply Kd.R_drew)); exact Kd.R_mono HO_9.out (fun _ hk => ⟨⟨hk.1, ⟨hk.2.2.2, hk.2.2.1⟩⟩, hk.2.1⟩)) hg hat)
  have n2_ := Aside0.mk (blk_grown (g := gb218) (o := .cells #[.slice (some ad225) l0_0.length c0_0] 29 (0, 0)) (bkl BK218) hg (Kd.R_ne HO238.out BK218.out (by decide)))
  have n3_ := Aside0.mk (blk_grown (g := gb229) (o := .cells #[.slice (some ⟨go85, 0, none⟩) t226.length co80] 29 (0, 0)) (bkl BK229) hg (Kd.R_ne HO238.out BK229.out (by decide)))
  have n4_ := Aside0.mk (Kd.S_after (ok := (fun k_ => (P2_ k_ ∨ w.heap.size ≤ k_) ∧ some k_ ≠ (.slice Ao12 l2.length co12 : Value).ownBlock ∧ some k_ ≠ (u9 : Value).ownBlock ∧ some k_ ≠ (.slice Ao97 y239.length co97 : Value).ownBlock)) (by (with_reducible repeat (first | apply Kd.S_alloc | apply Kd.S_drewN | apply Kd.S_drew)); exact Kd.S_mono HO228.out (fun _ hk => ⟨⟨hk.1, ⟨hk.2.2.2.1, ⟨hk.2.2.2.2, hk.2.2.1⟩⟩⟩, hk.2.1⟩)) hg hat)
  have n5_ := Aside0.mk (Kd.R_after (ok := (fun k_ => (P2_ k_ ∨ w.heap.size ≤ k_) ∧ some k_ ≠ (.slice Ao12 l2.length co12 : Value).ownBlock ∧ some k_ ≠ (u9 : Value).ownBlock)) (by (with_reducible repeat (first | apply Kd.R_alloc | apply Kd.R_drewN | apply Kd.R_drew)); exact Kd.R_mono HO241.out (fun _ hk => ⟨⟨hk.1, ⟨hk.2.2.1, hk.2.2.2⟩⟩, hk.2.1⟩)) hg hat)
  have n6_ := Aside0.mk (hb)
  have n7_ := Aside0.mk (Kept.of_grown (S := (fun k_ => P2_ k_)) hg (by repeat (first | (with_reducible first | exact HK.out | apply Kept.alloc | apply Kept.drewN | apply Kept.drew | refine Kept.setCell ?_ (.inr GW218.out) _ | refine Kept.setCell ?_ (.inr GW229.out) _) | exact HK.out)) (fun k_ e_ => (HO238.out.1 k_ e_).1))
  have n8_ := Aside0.mk (ho)
  clear HO_2 HO_9 BK218 BK229 HO228 HO241 HB HK HO238
  have HO_2 := n0_
  have HO_9 := n1_
  have BK218 := n2_
  have BK229 := n3_
  have HO228 := n4_
  have HO241 := n5_
  have HB := n6_
  have HK := n7_
  have HO244 := n8_
  clear n0_ n1_ n2_ n3_ n4_ n5_ n6_ n7_ n8_ ho hb hg hat
  obtain ⟨Ao98, co98, eo98⟩ := Kd.R_slice HO244.out
  (first | subst eo98 | (injection eo98 with f1_ f2_ f3_; have f4_ := f1_.symm; have f5_ := f3_.symm; clear f1_ f2_ f3_; subst f4_; subst f5_))
  refine hK.out _ _ ((blk_cell BK229.out 0).trans rfl) (fun hHeld => ?_)
  clear hK K
  refine norm_ (a' := ?_) ?_ ?_
  rotate_left
  ·show Act.put _ (some 64) _ = _
   simp only [putS]
   rfl
  refine one_ (i := 7) (N := some 65) #[true, true, true, true, true, true, true, true, false, false, false, false, false] rfl rfl (one_of HT_.out (by kernel_rfl)) (by decide) (fun K hK => ?_)
  refine goes_ Try.func16 (by kernel_rfl) rfl #[.agg #[.slice (some ⟨go85, 0, none⟩) y235.length co80], .slice (some ad231) l1.length c1, .slice Ao98 y242.length co98] (by rfl) rfl rfl (by (try simp only [List.map_toArray, List.map_cons, List.map_nil]); first | done | (rw [show y235.length = t226.length from (Kd.S_reads' HO228.out).1.symm] <;> rfl) | rfl | (simp only [List.length_drop, List.length_take]; rfl)) ?_
  with_reducible refine (ih k1 (by have := HK1.out; omega) _ _ y235 _ _ l1 (fun k_ => some k_ = (.slice Ao98 y242.length co98 : Value).ownBlock) (.slice Ao98 y242.length co98) y242 t245 t248 w0 _ ?side1 ?side2 ?side3 ?side4 ?side5 ?side6 A27.out).mono ?_
  (case side1 => repeat (first | (with_reducible first | exact HB.out | apply below_alloc | apply pw_below_drewN | apply below_drew1 | refine below_set ?_ GE218.out | refine below_set ?_ GE229.out) | exact HB.out))
  (case side2 => have h_ := HO228.out; rw [← show y235.length = t226.length from (Kd.S_reads' HO228.out).1.symm] at h_; exact Kd.C_kept_own (Kd.S_R h_) (fun k_ hk_ hs_ => (hk_.2) hs_))
  (case side3 => rw [show y235.length = t226.length from (Kd.S_reads' HO228.out).1.symm]; exact (Kd.S_reads' HO228.out).2.1)
  (case side4 => exact Kd.C_kept_call HR1.out (by repeat (first | (with_reducible first | exact HK.out | apply Kept.alloc | apply Kept.drewN | apply Kept.drew | refine Kept.setCell ?_ (.inr GW218.out) _ | refine Kept.setCell ?_ (.inr GW229.out) _) | exact HK.out)) (fun k_ hs_ => (fun e_ => (HO244.out.1 k_ e_.symm).1) hs_))
  (case side5 => exact HC1.out)
  (case side6 => exact Kd.R_tight rfl HO244.out)
  rintro e w99 ⟨v246, rfl, ho0, hb, hkp⟩
  refine ⟨_, rfl, ?_⟩
  have n0_ := Aside0.mk (Kd.R_mono (ok' := fun k_ => (P2_ k_ ∨ w.heap.size ≤ k_) ∧ some k_ ≠ (u9 : Value).ownBlock ∧ some k_ ≠ (.slice Ao97 y239.length co97 : Value).ownBlock ∧ some k_ ≠ (v246 : Value).ownBlock) (Kd.R_keptB (HO_2.out) hkp (fun k_ hk_ hs_ => (hk_.2) hs_)) (fun k_ hk_ => ⟨hk_.1.1.1, hk_.1.1.2.1, hk_.1.1.2.2, fun e_ => Or.elim (ho0.1 k_ e_.symm) (fun hs_ => hk_.2.1 hs_) (fun hn_ => Nat.not_le.2 hk_.2.2 hn_)⟩))
  have n1_ := Aside0.mk (Kd.R_mono (ok' := fun k_ => (P2_ k_ ∨ w.heap.size ≤ k_) ∧ some k_ ≠ (.slice Ao12 l2.length co12 : Value).ownBlock ∧ some k_ ≠ (.slice Ao97 y239.length co97 : Value).ownBlock ∧ some k_ ≠ (v246 : Value).ownBlock) (Kd.R_keptB (HO_9.out) hkp (fun k_ hk_ hs_ => (hk_.2) hs_)) (fun k_ hk_ => ⟨hk_.1.1.1, hk_.1.1.2.1, hk_.1.1.2.2, fun e_ => Or.elim (ho0.1 k_ e_.symm) (fun hs_ => hk_.2.1 hs_) (fun hn_ => Nat.not_le.2 hk_.2.2 hn_)⟩))
  have n2_ := Aside0.mk (blk_kept (bkl BK218) hkp (fun hs_ => (fun e_ => (Kd.R_ne HO244.out BK218.out (by decide)) e_) hs_))
  have n3_ := Aside0.mk (blk_kept (bkl BK229) hkp (fun hs_ => (fun e_ => (Kd.R_ne HO244.out BK229.out (by decide)) e_) hs_))
  have n4_ := Aside0.mk (Kd.S_mono (ok' := fun k_ => (P2_ k_ ∨ w.heap.size ≤ k_) ∧ some k_ ≠ (.slice Ao12 l2.length co12 : Value).ownBlock ∧ some k_ ≠ (u9 : Value).ownBlock ∧ some k_ ≠ (.slice Ao97 y239.length co97 : Value).ownBlock ∧ some k_ ≠ (v246 : Value).ownBlock) (Kd.S_keptB (HO228.out) hkp (fun k_ hk_ hs_ => (hk_.2) hs_)) (fun k_ hk_ => ⟨hk_.1.1.1, hk_.1.1.2.1, hk_.1.1.2.2.1, hk_.1.1.2.2.2, fun e_ => Or.elim (ho0.1 k_ e_.symm) (fun hs_ => hk_.2.1 hs_) (fun hn_ => Nat.not_le.2 hk_.2.2 hn_)⟩))
  have n5_ := Aside0.mk (Kd.R_mono (ok' := fun k_ => (P2_ k_ ∨ w.heap.size ≤ k_) ∧ some k_ ≠ (.slice Ao12 l2.length co12 : Value).ownBlock ∧ some k_ ≠ (u9 : Value).ownBlock ∧ some k_ ≠ (v246 : Value).ownBlock) (Kd.R_keptB (HO241.out) hkp (fun k_ hk_ hs_ => (hk_.2) hs_)) (fun k_ hk_ => ⟨hk_.1.1.1, hk_.1.1.2.1, hk_.1.1.2.2, fun e_ => Or.elim (ho0.1 k_ e_.symm) (fun hs_ => hk_.2.1 hs_) (fun hn_ => Nat.not_le.2 hk_.2.2 hn_)⟩))
  have n6_ := Aside0.mk (Kd.R_mono (ok' := fun k_ => (P2_ k_ ∨ w.heap.size ≤ k_) ∧ some k_ ≠ (.slice Ao12 l2.length co12 : Value).ownBlock ∧ some k_ ≠ (u9 : Value).ownBlock ∧ some k_ ≠ (.slice Ao97 y239.length co97 : Value).ownBlock) ho0 (fun k_ hk_ => ⟨Or.elim hk_ (fun hs_ => (HO244.out.1 k_ (hs_).symm).1) (fun hn_ => (.inr (Nat.le_trans (by first | exact HK.out.1 | exact (show Kept w _ (fun k_ => P2_ k_) from by repeat (first | (with_reducible first | exact HK.out | apply Kept.alloc | apply Kept.drewN | apply Kept.drew | refine Kept.setCell ?_ (.inr GW218.out) _ | refine Kept.setCell ?_ (.inr GW229.out) _) | exact HK.out)).1) hn_))), Or.elim hk_ (fun hs_ => fun e_ => (((HO_2.out).1 k_ e_.symm).2) hs_) (fun hn_ => (Kd.fresh' (Kd.R_lt (rdl HO_2)) k_ hn_)), Or.elim hk_ (fun hs_ => fun e_ => (((HO_9.out).1 k_ e_.symm).2) hs_) (fun hn_ => (Kd.fresh' (Kd.R_lt (rdl HO_9)) k_ hn_)), Or.elim hk_ (fun hs_ => fun e_ => (((HO241.out).1 k_ e_.symm).2) hs_) (fun hn_ => (Kd.fresh' (Kd.R_lt (rdl HO241)) k_ hn_))⟩))
  have n7_ := Aside0.mk (Kept.then_ (S := (fun k_ => P2_ k_)) (by repeat (first | (with_reducible first | exact HK.out | apply Kept.alloc | apply Kept.drewN | apply Kept.drew | refine Kept.setCell ?_ (.inr GW218.out) _ | refine Kept.setCell ?_ (.inr GW229.out) _) | exact HK.out)) hkp (fun k_ hs_ => (fun e_ => (HO244.out.1 k_ e_.symm).1) hs_))
  have n8_ := Aside0.mk (hb)
  clear HO_2 HO_9 BK218 BK229 HO228 HO241 HK HB HO244
  have HO_2 := n0_
  have HO_9 := n1_
  have BK218 := n2_
  have BK229 := n3_
  have HO228 := n4_
  have HO241 := n5_
  have HO247 := n6_
  have HK := n7_
  have HB := n8_
  clear n0_ n1_ n2_ n3_ n4_ n5_ n6_ n7_ n8_
  (try clear hb)
  (try clear hkp)
  (try clear ho0)
  refine hK.out _ _ ((blk_cell BK229.out 0).trans rfl) (fun hHeld => ?_)
  clear hK K
  refine norm_ (a' := ?_) ?_ ?_
  rotate_left
  ·show Act.put _ (some 65) _ = _
   simp only [putS]
   rfl
  refine pure_ (i := 8) (N := some 57) (v := ?_) (a' := ?_) #[true, true, true, true, true, true, true, true, true, false, false, false, false] rfl rfl (any_of HT_.out (by kernel_rfl)) (fun _ _ _ h => h) (Or.inl ⟨by rfl, ?_⟩) ?_ ?_
  rotate_left
  ·intro w'
   go_simp
   with_reducible rfl
  rotate_left
  ·simp only [putS]
   rfl
  refine pure_ (i := 9) (N := some 66) (v := ?_) (a' := ?_) #[true, true, true, true, true, true, true, true, true, true, false, false, false] rfl rfl (any_of HT_.out (by kernel_rfl)) (fun _ _ _ h => h) (Or.inl ⟨by rfl, ?_⟩) ?_ ?_
  rotate_left
  ·intro w'
   go_simp
   with_reducible rfl
  rotate_left
  ·simp only [putS]
   rfl
  refine pure_ (i := 10) (N := some 67) (v := ?_) (a' := ?_) #[true, true, true, true, true, true, true, true, true, true, true, false, false] rfl rfl (any_of HT_.out (by kernel_rfl)) (fun _ _ _ h => h) (Or.inl ⟨by rfl, ?_⟩) ?_ ?_
  rotate_left
  ·intro w'
   go_simp
   with_reducible rfl
  rotate_left
  ·simp only [putS]
   rfl
  refine pure_ (i := 11) (N := some 13) (v := ?_) (a' := ?_) #[true, true, true, true, true, true, true, true, true, true, true, true, false] rfl rfl (any_of HT_.out (by kernel_rfl)) (fun _ _ _ h => h) (Or.inl ⟨by rfl, ?_⟩) ?_ ?_
  rotate_left
  ·intro w'
   go_simp
   with_reducible rfl
  rotate_left
  ·simp only [putS]
   rfl
  refine pure_ (i := 12) (N := some 14) (v := ?_) (a' := ?_) #[true, true, true, true, true, true, true, true, true, true, true, true, true] rfl rfl (any_of HT_.out (by kernel_rfl)) (fun _ _ _ h => h) (Or.inl ⟨by rfl, ?_⟩) ?_ ?_
  rotate_left
  ·intro w'
   go_simp
   with_reducible rfl
  rotate_left
  ·simp only [putS]
   rfl
  refine done_ (done_of HT_.out (by kernel_rfl)) ?_
  try go_wp2
  go_roundg k1
  case measure => have := HK1.out; omega
  case rel => exact ⟨(x9_1), (x10_1), (wrap64 (x11_1 + 1)), (by first | rfl | (simp; done) | (simp [*]; done)), (by first | rfl | (simp; done) | (simp [*]; done)), H', ⟨by have := HK1.out; omega⟩, ⟨by (with_reducible repeat (first | apply Kd.R_alloc | apply Kd.R_drewN | apply Kd.R_drew)); exact Kd.R_mono HO_2.out (fun _ hk => ⟨hk.1, hk.2.1⟩)⟩, ⟨by (with_reducible repeat (first | apply Kd.R_alloc | apply Kd.R_drewN | apply Kd.R_drew)); exact Kd.R_mono HO_9.out (fun _ hk => ⟨hk.1, hk.2.1⟩)⟩, ⟨bkl BK218⟩, ⟨by repeat (first | (with_reducible first | exact HK.out | apply Kept.alloc | apply Kept.drewN | apply Kept.drew | refine Kept.setCell ?_ (.inr GW218.out) _ | refine Kept.setCell ?_ (.inr GW229.out) _) | exact HK.out)⟩, ⟨bel2 HB GE218 GE229⟩⟩
end Go.Proofs.Ytmmkpaoibekmjaa.P
